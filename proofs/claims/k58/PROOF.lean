import PyProof.Rows.All
import Wide.All
import OpenK.AllK
import Wide.FinOn
import HandS.ForMost
import HandS.ForExc
import HandS.CallSlots
import HandS.Defaults
import HandS.TupAny
import HandS.Wide
import HandS.Deep
import HandS.Strs
import HandS.IsInst
import HandS.Zip
import KE.GoesMore
import HandS.HeadHook4
import HandS.More
import HandS.Style
import HandS.TryOnly
import HandS.HeadEnd
import HandS.EndBits
import HandS.Words
import HandS.Head2
import PySem.Challenge.RW_goneday_k58_deeds_as_texts
import Wide.Once
import PyProof.Rows.StrSplitCount
import PyProof.P3Eq
set_option Elab.async false
set_option linter.all false
set_option maxRecDepth 100000
set_option maxHeartbeats 4000000
set_option exponentiation.threshold 2000
namespace L2.GS
open PySem PySem.Spec PyProof.Rows

/-! ### data -/
inductive D where
  | non | bl (b : Bool) | int (i : Int) | str (x : Str)
  | tup (xs : List D) | lst (xs : List D) | fls (xs : List D) | dic (kvs : List (Key × D)) | obj (c : Str) (fs : List (Str × D))
  | glb (x : Str) | ref (n : Nat) | ty (n : String)
inductive MO where
  | lst (xs : List D) | dic (kvs : List (Key × D)) | obj (c : Str) (fs : List (Str × D))
abbrev S := List MO
/-- what does not change in a run: the written part, the module's names, what callers own -/
structure Gd where
  K : PySem.W.Frag
  mg : Str → Option Value
  B : List Addr
/-- the same, more of it owned by others -/
abbrev Gd.wB (g : Gd) (B : List Addr) : Gd := ⟨g.K, g.mg, B⟩

mutual
inductive Rep (g : Gd) (H : Hp) (m : List Addr) : V → D → Prop
  | non : Rep g H m .non .non
  | bl {b : Bool} : Rep g H m (.bl b) (.bl b)
  | int {i : Int} : Rep g H m (.int i) (.int i)
  | str {x : Str} : Rep g H m (.str x) (.str x)
  | tup {a : Addr} {vs : List V} {ds : List D} (h : Rd H a (.tup vs)) (n : a ∉ m) (b : a ∉ g.B) (r : Reps g H m vs ds) : Rep g H m (.ref a) (.tup ds)
  | tupK {a : Addr} {vs : List V} {ds : List D} (h : ∃ (o : Obj) (its : Array Value) (n : Nat), g.K.lookup a = some o ∧ o.cls = .type "tuple" ∧ o.data = .seq its n ∧ its.size ≤ sizeLine ∧ Vals vs its.toList) (r : Reps g H m vs ds) : Rep g H m (.ref a) (.tup ds)
  | fls {a : Addr} {vs : List V} {ds : List D} {o : Obj} (h : H a = some (.frz o (.lst vs))) (n : a ∉ m) (b : a ∉ g.B) (r : Reps g H m vs ds) : Rep g H m (.ref a) (.fls ds)
  | flsK {a : Addr} {vs : List V} {ds : List D} (h : ∃ (o : Obj) (its : Array Value) (n : Nat), g.K.lookup a = some o ∧ o.cls = .type "list" ∧ o.dict = none ∧ o.data = .seq its n ∧ its.size ≤ sizeLine ∧ Vals vs its.toList) (r : Reps g H m vs ds) : Rep g H m (.ref a) (.fls ds)
  | lst {a : Addr} {vs : List V} {ds : List D} (h : H a = some (.lst vs)) (n : a ∉ m) (b : a ∉ g.B) (r : Reps g H m vs ds) : Rep g H m (.ref a) (.lst ds)
  | dic {a : Addr} {vs : List (Key × V)} {ds : List (Key × D)} (h : H a = some (.dK vs)) (n : a ∉ m) (b : a ∉ g.B) (r : RepK g H m vs ds) : Rep g H m (.ref a) (.dic ds)
  | obj {a C dx : Addr} {c : Str} {vs : List (Str × V)} {ds : List (Str × D)} (h : H a = some (.ins C dx vs)) (hc : g.mg c = some (.ref C)) (n : a ∉ m) (b : a ∉ g.B) (r : RepF g H m vs ds) : Rep g H m (.ref a) (.obj c ds)
  | ty {n : String} : Rep g H m (.ty n) (.ty n)
  | glb {a : Addr} {x : Str} (h : g.mg x = some (.ref a)) : Rep g H m (.ref a) (.glb x)
  | ref {a : Addr} {n : Nat} (h : m[n]? = some a) : Rep g H m (.ref a) (.ref n)
inductive Reps (g : Gd) (H : Hp) (m : List Addr) : List V → List D → Prop
  | nil : Reps g H m [] []
  | cons {v : V} {d : D} {vs : List V} {ds : List D} (h : Rep g H m v d) (r : Reps g H m vs ds) : Reps g H m (v :: vs) (d :: ds)
inductive RepF (g : Gd) (H : Hp) (m : List Addr) : List (Str × V) → List (Str × D) → Prop
  | nil : RepF g H m [] []
  | cons {f : Str} {v : V} {d : D} {vs : List (Str × V)} {ds : List (Str × D)} (h : Rep g H m v d) (r : RepF g H m vs ds) : RepF g H m ((f, v) :: vs) ((f, d) :: ds)
inductive RepK (g : Gd) (H : Hp) (m : List Addr) : List (Key × V) → List (Key × D) → Prop
  | nil : RepK g H m [] []
  | cons {k : Key} {v : V} {d : D} {vs : List (Key × V)} {ds : List (Key × D)} (h : Rep g H m v d) (r : RepK g H m vs ds) : RepK g H m ((k, v) :: vs) ((k, d) :: ds)
end

/-- how the heap and the owned objects move: new ones behind, what is not owned stays -/
structure Step (m : List Addr) (H : Hp) (m' : List Addr) (H' : Hp) : Prop where
  pre : ∃ r, m' = m ++ r ∧ ∀ a ∈ r, H a = none
  keep : ∀ a o, H a = some o → a ∉ m → H' a = some o
  trk : ∀ a o, H a = some o → ∃ o', H' a = some o'
theorem Step.refl (m : List Addr) (H : Hp) : Step m H m H := ⟨⟨[], by simp, fun _ h => nomatch h⟩, fun _ _ h _ => h, fun _ o h => ⟨o, h⟩⟩
theorem Step.not_mem {m m' : List Addr} {H H' : Hp} (st : Step m H m' H') {a : Addr} {o : HO} (h : H a = some o) (n : a ∉ m) : a ∉ m' := by
  obtain ⟨r, rfl, q⟩ := st.pre
  intro hm
  rcases List.mem_append.mp hm with hm | hm
  · exact n hm
  · rw [q a hm] at h; cases h
theorem Step.trans {m m1 m2 : List Addr} {H H1 H2 : Hp} (a : Step m H m1 H1) (b : Step m1 H1 m2 H2) : Step m H m2 H2 := by
  refine ⟨?_, fun c o h n => b.keep c o (a.keep c o h n) (a.not_mem h n), fun c o h => ?_⟩
  · obtain ⟨r, e1, q1⟩ := a.pre
    obtain ⟨r2, e2, q2⟩ := b.pre
    refine ⟨r ++ r2, by rw [e2, e1, List.append_assoc], fun c hc => ?_⟩
    rcases List.mem_append.mp hc with hc | hc
    · exact q1 c hc
    · cases h : H c with
      | none => rfl
      | some o =>
        obtain ⟨o', h'⟩ := a.trk c o h
        rw [q2 c hc] at h'
        cases h'
  · obtain ⟨o', h'⟩ := a.trk c o h
    exact b.trk c o' h'
theorem Rd.step {m m' : List Addr} {H H' : Hp} (st : Step m H m' H') {a : Addr} {u : HO} (h : Rd H a u) (n : a ∉ m) : Rd H' a u ∧ a ∉ m' := by
  rcases h with h | ⟨o, h⟩
  · exact ⟨.inl (st.keep a _ h n), st.not_mem h n⟩
  · exact ⟨.inr ⟨o, st.keep a _ h n⟩, st.not_mem h n⟩
theorem Step.get {m m' : List Addr} {H H' : Hp} (st : Step m H m' H') {n : Nat} {a : Addr} (h : m[n]? = some a) : m'[n]? = some a := by
  obtain ⟨r, rfl, _⟩ := st.pre
  rw [List.getElem?_append_left (List.getElem?_eq_some_iff.mp h).1]; exact h

mutual
theorem Rep.step {g : Gd} {m m' : List Addr} {H H' : Hp} (st : Step m H m' H') : ∀ {v : V} {d : D}, Rep g H m v d → Rep g H' m' v d
  | _, _, .non => .non
  | _, _, .bl => .bl
  | _, _, .int => .int
  | _, _, .str => .str
  | _, _, .tup h n b r => .tup (Rd.step st h n).1 (Rd.step st h n).2 b (r.step st)
  | _, _, .tupK h r => .tupK h (r.step st)
  | _, _, .fls h n b r => .fls (st.keep _ _ h n) (st.not_mem h n) b (r.step st)
  | _, _, .flsK h r => .flsK h (r.step st)
  | _, _, .lst h n b r => .lst (st.keep _ _ h n) (st.not_mem h n) b (r.step st)
  | _, _, .dic h n b r => .dic (st.keep _ _ h n) (st.not_mem h n) b (r.step st)
  | _, _, .obj h hc n b r => .obj (st.keep _ _ h n) hc (st.not_mem h n) b (r.step st)
  | _, _, .glb h => .glb h
  | _, _, .ty => .ty
  | _, _, .ref h => .ref (st.get h)
theorem Reps.step {g : Gd} {m m' : List Addr} {H H' : Hp} (st : Step m H m' H') : ∀ {v : List V} {d : List D}, Reps g H m v d → Reps g H' m' v d
  | _, _, .nil => .nil
  | _, _, .cons h r => .cons (h.step st) (r.step st)
theorem RepF.step {g : Gd} {m m' : List Addr} {H H' : Hp} (st : Step m H m' H') : ∀ {v : List (Str × V)} {d : List (Str × D)}, RepF g H m v d → RepF g H' m' v d
  | _, _, .nil => .nil
  | _, _, .cons h r => .cons (h.step st) (r.step st)
theorem RepK.step {g : Gd} {m m' : List Addr} {H H' : Hp} (st : Step m H m' H') : ∀ {v : List (Key × V)} {d : List (Key × D)}, RepK g H m v d → RepK g H' m' v d
  | _, _, .nil => .nil
  | _, _, .cons h r => .cons (h.step st) (r.step st)
end

/-! ### the store -/
def ORep (g : Gd) (H : Hp) (m : List Addr) (a : Addr) : MO → Prop
  | .lst ds => ∃ vs, H a = some (.lst vs) ∧ Reps g H m vs ds
  | .dic ds => ∃ vs, H a = some (.dK vs) ∧ RepK g H m vs ds
  | .obj c ds => ∃ C dx vs, H a = some (.ins C dx vs) ∧ g.mg c = some (.ref C) ∧ RepF g H m vs ds
theorem ORep.trk {g : Gd} {H : Hp} {m : List Addr} {a : Addr} {o : MO} (h : ORep g H m a o) : ∃ u, H a = some u := by
  cases o with
  | lst ds => obtain ⟨vs, e, _⟩ := h; exact ⟨_, e⟩
  | dic ds => obtain ⟨vs, e, _⟩ := h; exact ⟨_, e⟩
  | obj c ds => obtain ⟨_, _, _, e, _⟩ := h; exact ⟨_, e⟩
/-- an object that stands as it stood -/
theorem ORep.step {g : Gd} {m m' : List Addr} {H H' : Hp} (st : Step m H m' H') {a : Addr} {o : MO} (h : ORep g H m a o) (e : H' a = H a) : ORep g H' m' a o := by
  cases o with
  | lst ds => obtain ⟨vs, h, r⟩ := h; exact ⟨vs, e.trans h, r.step st⟩
  | dic ds => obtain ⟨vs, h, r⟩ := h; exact ⟨vs, e.trans h, r.step st⟩
  | obj c ds => obtain ⟨C, dx, vs, h, hc, r⟩ := h; exact ⟨C, dx, vs, e.trans h, hc, r.step st⟩
structure HRep (g : Gd) (H : Hp) (m : List Addr) (s : S) : Prop where
  len : m.length = s.length
  nd : m.Nodup
  ob : ∀ (i : Nat) (a : Addr) (o : MO), m[i]? = some a → s[i]? = some o → ORep g H m a o
  bt : ∀ a ∈ g.B, (∃ o, H a = some o) ∧ a ∉ m
section
variable {g : Gd} {H H' : Hp} {m m' : List Addr} {s s' : S}
theorem HRep.at (h : HRep g H m s) {n : Nat} {a : Addr} (e : m[n]? = some a) : ∃ o, s[n]? = some o ∧ ORep g H m a o := by
  have hn : n < s.length := by rw [← h.len]; exact (List.getElem?_eq_some_iff.mp e).1
  exact ⟨s[n], List.getElem?_eq_getElem hn, h.ob n a _ e (List.getElem?_eq_getElem hn)⟩
theorem HRep.addr (h : HRep g H m s) {n : Nat} {o : MO} (e : s[n]? = some o) : ∃ a, m[n]? = some a ∧ ORep g H m a o := by
  have hn : n < m.length := by rw [h.len]; exact (List.getElem?_eq_some_iff.mp e).1
  exact ⟨m[n], List.getElem?_eq_getElem hn, h.ob n _ o (List.getElem?_eq_getElem hn) e⟩
theorem HRep.trk (h : HRep g H m s) {a : Addr} (hm : a ∈ m) : ∃ o, H a = some o := by
  obtain ⟨n, e⟩ := List.getElem?_of_mem hm
  obtain ⟨o, _, r⟩ := h.at e
  exact r.trk
theorem HRep.fresh (h : HRep g H m s) {p : Addr} (hp : H p = none) : p ∉ m ∧ p ∉ g.B := by
  refine ⟨fun hm => ?_, fun hm => ?_⟩
  · obtain ⟨o, e⟩ := h.trk hm
    rw [hp] at e; cases e
  · obtain ⟨⟨o, e⟩, _⟩ := h.bt p hm
    rw [hp] at e; cases e
/-- a new thing that nobody owns -/
theorem Step.new {p : Addr} {o : HO} (hp : H p = none) : Step m H m (upd H p o) :=
  ⟨⟨[], by simp, fun _ h => nomatch h⟩, fun a u h _ => by rw [upd_ne (ne_of_none h hp)]; exact h, fun a u h => ⟨u, by rw [upd_ne (ne_of_none h hp)]; exact h⟩⟩
theorem HRep.new (h : HRep g H m s) {p : Addr} {o : HO} (hp : H p = none) : HRep g (upd H p o) m s :=
  ⟨h.len, h.nd, fun i a u e1 e2 => (h.ob i a u e1 e2).step (Step.new hp) (by
    obtain ⟨w, e⟩ := (h.ob i a u e1 e2).trk
    exact upd_ne (ne_of_none e hp)), fun a ha => by
    obtain ⟨⟨w, e⟩, n⟩ := h.bt a ha
    exact ⟨⟨w, by rw [upd_ne (ne_of_none e hp)]; exact e⟩, n⟩⟩
/-- all that is tracked stands: the store stands -/
theorem HRep.same (h : HRep g H m s) (k : ∀ a o, H a = some o → H' a = some o) : Step m H m H' ∧ HRep g H' m s := by
  have st : Step m H m H' := ⟨⟨[], by simp, fun _ h => nomatch h⟩, fun a o e _ => k a o e, fun a o e => ⟨o, k a o e⟩⟩
  refine ⟨st, h.len, h.nd, fun i a u e1 e2 => (h.ob i a u e1 e2).step st ?_, fun a ha => ?_⟩
  · obtain ⟨w, e⟩ := (h.ob i a u e1 e2).trk
    rw [e]; exact k _ _ e
  · obtain ⟨⟨w, e⟩, n⟩ := h.bt a ha
    exact ⟨⟨w, k _ _ e⟩, n⟩
/-- a new owned one -/
theorem Step.push {p : Addr} {o : HO} (hp : H p = none) : Step m H (m ++ [p]) (upd H p o) :=
  ⟨⟨[p], rfl, fun a ha => by rw [List.mem_singleton.mp ha]; exact hp⟩, fun a u h _ => by rw [upd_ne (ne_of_none h hp)]; exact h, fun a u h => ⟨u, by rw [upd_ne (ne_of_none h hp)]; exact h⟩⟩
theorem HRep.push (h : HRep g H m s) {p : Addr} {o : HO} {u : MO} (hp : H p = none) (r : ORep g (upd H p o) (m ++ [p]) p u) : HRep g (upd H p o) (m ++ [p]) (s ++ [u]) := by
  refine ⟨by simp [h.len], ?_, fun i a w e1 e2 => ?_, fun a ha => ?_⟩
  · rw [List.nodup_append]
    refine ⟨h.nd, by simp, fun a ha b hb => ?_⟩
    rw [List.mem_singleton.mp hb]
    intro e
    exact (h.fresh hp).1 (e ▸ ha)
  · by_cases hi : i < m.length
    · rw [List.getElem?_append_left hi] at e1
      rw [List.getElem?_append_left (by rw [← h.len]; exact hi)] at e2
      have q := h.ob i a w e1 e2
      obtain ⟨x, e⟩ := q.trk
      exact q.step (Step.push hp) (upd_ne (ne_of_none e hp))
    · rw [List.getElem?_append_right (by omega)] at e1
      rw [List.getElem?_append_right (by rw [← h.len]; omega)] at e2
      have h0 : i - m.length = 0 := by
        have := (List.getElem?_eq_some_iff.mp e1).1
        simp at this; omega
      rw [h0] at e1
      rw [← h.len, h0] at e2
      simp at e1 e2
      subst e1 e2
      exact r
  · obtain ⟨⟨w, e⟩, n⟩ := h.bt a ha
    refine ⟨⟨w, by rw [upd_ne (ne_of_none e hp)]; exact e⟩, fun hm => ?_⟩
    rcases List.mem_append.mp hm with hm | hm
    · exact n hm
    · rw [List.mem_singleton.mp hm] at e
      rw [hp] at e; cases e
/-- an owned one is written -/
theorem Step.set {a : Addr} {o : HO} (ha : a ∈ m) : Step m H m (upd H a o) :=
  ⟨⟨[], by simp, fun _ h => nomatch h⟩, fun b u h n => by rw [upd_ne (fun (e : b = a) => n (by rw [e]; exact ha))]; exact h, fun b u h => by
    by_cases e : b = a
    · exact ⟨o, by rw [e]; exact upd_same⟩
    · exact ⟨u, by rw [upd_ne e]; exact h⟩⟩
theorem HRep.set (h : HRep g H m s) {n : Nat} {a : Addr} {o : HO} {u : MO} (e : m[n]? = some a) (r : ORep g (upd H a o) m a u) : HRep g (upd H a o) m (s.set n u) := by
  refine ⟨by simp [h.len], h.nd, fun i b w e1 e2 => ?_, fun b hb => ?_⟩
  · by_cases hi : i = n
    · subst hi
      rw [e] at e1; cases e1
      have hn : i < s.length := by rw [← h.len]; exact (List.getElem?_eq_some_iff.mp e).1
      rw [List.getElem?_set_self hn] at e2; cases e2
      exact r
    · rw [List.getElem?_set_ne (Ne.symm hi)] at e2
      refine (h.ob i b w e1 e2).step (Step.set (List.mem_of_getElem? e)) (upd_ne fun q => hi ?_)
      subst q
      exact (List.getElem?_inj (List.getElem?_eq_some_iff.mp e1).1 h.nd).mp (e1.trans e.symm)
  · obtain ⟨⟨w, e2⟩, n2⟩ := h.bt b hb
    refine ⟨⟨w, by rw [upd_ne (fun q => n2 (by rw [q]; exact List.mem_of_getElem? e))]; exact e2⟩, n2⟩
end
section
variable {g : Gd} {H H' : Hp} {m m' : List Addr} {B B' : List Addr} {s : S}
mutual
theorem Rep.updB {a : Addr} {o : HO} (ha : a ∈ B) : ∀ {v : V} {d : D}, Rep (g.wB B) H m v d → Rep (g.wB B) (upd H a o) m v d
  | _, _, .non => .non
  | _, _, .bl => .bl
  | _, _, .int => .int
  | _, _, .str => .str
  | _, _, .tup (a := c) h n b r => .tup (by
      have ne : c ≠ a := fun e => b (by rw [e]; exact ha)
      rcases h with h | ⟨u, h⟩
      · exact .inl (by rw [upd_ne ne]; exact h)
      · exact .inr ⟨u, by rw [upd_ne ne]; exact h⟩) n b (r.updB ha)
  | _, _, .tupK h r => .tupK h (r.updB ha)
  | _, _, .fls (a := c) h n b r => .fls (by rw [upd_ne (fun e => b (by rw [e]; exact ha))]; exact h) n b (r.updB ha)
  | _, _, .flsK h r => .flsK h (r.updB ha)
  | _, _, .lst h n b r => .lst (by rw [upd_ne (fun e => b (by rw [e]; exact ha))]; exact h) n b (r.updB ha)
  | _, _, .dic h n b r => .dic (by rw [upd_ne (fun e => b (by rw [e]; exact ha))]; exact h) n b (r.updB ha)
  | _, _, .obj h hc n b r => .obj (by rw [upd_ne (fun e => b (by rw [e]; exact ha))]; exact h) hc n b (r.updB ha)
  | _, _, .ty => .ty
  | _, _, .glb h => .glb h
  | _, _, .ref h => .ref h
theorem Reps.updB {a : Addr} {o : HO} (ha : a ∈ B) : ∀ {v : List V} {d : List D}, Reps (g.wB B) H m v d → Reps (g.wB B) (upd H a o) m v d
  | _, _, .nil => .nil
  | _, _, .cons h r => .cons (h.updB ha) (r.updB ha)
theorem RepF.updB {a : Addr} {o : HO} (ha : a ∈ B) : ∀ {v : List (Str × V)} {d : List (Str × D)}, RepF (g.wB B) H m v d → RepF (g.wB B) (upd H a o) m v d
  | _, _, .nil => .nil
  | _, _, .cons h r => .cons (h.updB ha) (r.updB ha)
theorem RepK.updB {a : Addr} {o : HO} (ha : a ∈ B) : ∀ {v : List (Key × V)} {d : List (Key × D)}, RepK (g.wB B) H m v d → RepK (g.wB B) (upd H a o) m v d
  | _, _, .nil => .nil
  | _, _, .cons h r => .cons (h.updB ha) (r.updB ha)
end
mutual
theorem Rep.ext (hB : ∀ a ∈ B', a ∈ B ∨ H a = none) : ∀ {v : V} {d : D}, Rep (g.wB B) H m v d → Rep (g.wB B') H m v d
  | _, _, .non => .non
  | _, _, .bl => .bl
  | _, _, .int => .int
  | _, _, .str => .str
  | _, _, .tup h n b r => .tup h n (fun z => (hB _ z).elim b fun q => by
      rcases h with h | ⟨u, h⟩
      · rw [q] at h; cases h
      · rw [q] at h; cases h) (r.ext hB)
  | _, _, .tupK h r => .tupK h (r.ext hB)
  | _, _, .fls h n b r => .fls h n (fun z => (hB _ z).elim b fun q => by rw [q] at h; cases h) (r.ext hB)
  | _, _, .flsK h r => .flsK h (r.ext hB)
  | _, _, .lst h n b r => .lst h n (fun z => (hB _ z).elim b fun q => by rw [q] at h; cases h) (r.ext hB)
  | _, _, .dic h n b r => .dic h n (fun z => (hB _ z).elim b fun q => by rw [q] at h; cases h) (r.ext hB)
  | _, _, .obj h hc n b r => .obj h hc n (fun z => (hB _ z).elim b fun q => by rw [q] at h; cases h) (r.ext hB)
  | _, _, .ty => .ty
  | _, _, .glb h => .glb h
  | _, _, .ref h => .ref h
theorem Reps.ext (hB : ∀ a ∈ B', a ∈ B ∨ H a = none) : ∀ {v : List V} {d : List D}, Reps (g.wB B) H m v d → Reps (g.wB B') H m v d
  | _, _, .nil => .nil
  | _, _, .cons h r => .cons (h.ext hB) (r.ext hB)
theorem RepF.ext (hB : ∀ a ∈ B', a ∈ B ∨ H a = none) : ∀ {v : List (Str × V)} {d : List (Str × D)}, RepF (g.wB B) H m v d → RepF (g.wB B') H m v d
  | _, _, .nil => .nil
  | _, _, .cons h r => .cons (h.ext hB) (r.ext hB)
theorem RepK.ext (hB : ∀ a ∈ B', a ∈ B ∨ H a = none) : ∀ {v : List (Key × V)} {d : List (Key × D)}, RepK (g.wB B) H m v d → RepK (g.wB B') H m v d
  | _, _, .nil => .nil
  | _, _, .cons h r => .cons (h.ext hB) (r.ext hB)
end
theorem ORep.ext (hB : ∀ a ∈ B', a ∈ B ∨ H a = none) {a : Addr} {o : MO} (h : ORep (g.wB B) H m a o) : ORep (g.wB B') H m a o := by
  cases o with
  | lst ds => obtain ⟨vs, h, r⟩ := h; exact ⟨vs, h, r.ext hB⟩
  | dic ds => obtain ⟨vs, h, r⟩ := h; exact ⟨vs, h, r.ext hB⟩
  | obj c ds => obtain ⟨C, dx, vs, h, hc, r⟩ := h; exact ⟨C, dx, vs, h, hc, r.ext hB⟩
theorem ORep.updB {b a : Addr} {u : HO} {o : MO} (hb : b ∈ B) (ne : a ≠ b) (h : ORep (g.wB B) H m a o) : ORep (g.wB B) (upd H b u) m a o := by
  cases o with
  | lst ds => obtain ⟨vs, h, r⟩ := h; exact ⟨vs, by rw [upd_ne ne]; exact h, r.updB hb⟩
  | dic ds => obtain ⟨vs, h, r⟩ := h; exact ⟨vs, by rw [upd_ne ne]; exact h, r.updB hb⟩
  | obj c ds => obtain ⟨C, dx, vs, h, hc, r⟩ := h; exact ⟨C, dx, vs, by rw [upd_ne ne]; exact h, hc, r.updB hb⟩
theorem HRep.updB {b : Addr} {u : HO} (hb : b ∈ B) (h : HRep (g.wB B) H m s) : HRep (g.wB B) (upd H b u) m s :=
  ⟨h.len, h.nd, fun i a o e1 e2 => (h.ob i a o e1 e2).updB hb (fun e => (h.bt b hb).2 (by rw [← e]; exact List.mem_of_getElem? e1)), fun a ha => by
    obtain ⟨⟨o, e⟩, n⟩ := h.bt a ha
    refine ⟨?_, n⟩
    by_cases q : a = b
    · exact ⟨u, by rw [q]; exact upd_same⟩
    · exact ⟨o, by rw [upd_ne q]; exact e⟩⟩
/-- fewer -/
theorem HRep.less (hB : ∀ a ∈ B', a ∈ B) (h : HRep (g.wB B) H m s) : HRep (g.wB B') H m s :=
  ⟨h.len, h.nd, fun i a o e1 e2 => (h.ob i a o e1 e2).ext (fun a ha => .inl (hB a ha)), fun a ha => h.bt a (hB a ha)⟩
/-- a new one of others -/
theorem HRep.other {b : Addr} {u : HO} (hn : H b = none) (h : HRep (g.wB B) H m s) : HRep (g.wB (b :: B)) (upd H b u) m s := by
  have h2 := h.new (o := u) hn
  have nm := (h.fresh hn).1
  refine ⟨h2.len, h2.nd, fun i a o e1 e2 => ?_, fun a ha => ?_⟩
  · have q := (h.ob i a o e1 e2).ext (B' := b :: B) (fun a ha => (List.mem_cons.mp ha).elim (fun e => .inr (by rw [e]; exact hn)) .inl)
    exact q.updB (List.mem_cons_self ..) (fun e => nm (by rw [← e]; exact List.mem_of_getElem? e1))
  · rcases List.mem_cons.mp ha with rfl | ha
    · exact ⟨⟨u, upd_same⟩, nm⟩
    · exact h2.bt a ha
theorem Step.updN {a : Addr} {o : HO} (st : Step m H m' H') (hn : H a = none) : Step m H m' (upd H' a o) :=
  ⟨st.pre, fun b u h n => by rw [upd_ne (ne_of_none h hn)]; exact st.keep b u h n, fun b u h => by rw [upd_ne (ne_of_none h hn)]; exact st.trk b u h⟩
end


section
variable {g : Gd} {H H' : Hp} {m m' : List Addr} {B B' : List Addr} {s : S} {b : Addr}
theorem no_app {a : Addr} (n : a ∉ m) (nb : a ∉ b :: B) : a ∉ m ++ [b] ∧ a ∉ B := by
  simp only [List.mem_cons, not_or] at nb
  refine ⟨fun h => ?_, nb.2⟩
  rcases List.mem_append.mp h with h | h
  · exact n h
  · exact nb.1 (List.mem_singleton.mp h)
mutual
theorem Rep.adopt : ∀ {v : V} {d : D}, Rep (g.wB (b :: B)) H m v d → Rep (g.wB B) H (m ++ [b]) v d
  | _, _, .non => .non
  | _, _, .bl => .bl
  | _, _, .int => .int
  | _, _, .str => .str
  | _, _, .tup h n b r => .tup h (no_app n b).1 (no_app n b).2 r.adopt
  | _, _, .tupK h r => .tupK h r.adopt
  | _, _, .fls h n b r => .fls h (no_app n b).1 (no_app n b).2 r.adopt
  | _, _, .flsK h r => .flsK h r.adopt
  | _, _, .lst h n b r => .lst h (no_app n b).1 (no_app n b).2 r.adopt
  | _, _, .dic h n b r => .dic h (no_app n b).1 (no_app n b).2 r.adopt
  | _, _, .obj h hc n b r => .obj h hc (no_app n b).1 (no_app n b).2 r.adopt
  | _, _, .ty => .ty
  | _, _, .glb h => .glb h
  | _, _, .ref h => .ref (by rw [List.getElem?_append_left (List.getElem?_eq_some_iff.mp h).1]; exact h)
theorem Reps.adopt : ∀ {v : List V} {d : List D}, Reps (g.wB (b :: B)) H m v d → Reps (g.wB B) H (m ++ [b]) v d
  | _, _, .nil => .nil
  | _, _, .cons h r => .cons h.adopt r.adopt
theorem RepF.adopt : ∀ {v : List (Str × V)} {d : List (Str × D)}, RepF (g.wB (b :: B)) H m v d → RepF (g.wB B) H (m ++ [b]) v d
  | _, _, .nil => .nil
  | _, _, .cons h r => .cons h.adopt r.adopt
theorem RepK.adopt : ∀ {v : List (Key × V)} {d : List (Key × D)}, RepK (g.wB (b :: B)) H m v d → RepK (g.wB B) H (m ++ [b]) v d
  | _, _, .nil => .nil
  | _, _, .cons h r => .cons h.adopt r.adopt
end
theorem ORep.adopt {a : Addr} {o : MO} (h : ORep (g.wB (b :: B)) H m a o) : ORep (g.wB B) H (m ++ [b]) a o := by
  cases o with
  | lst ds => obtain ⟨vs, h, r⟩ := h; exact ⟨vs, h, r.adopt⟩
  | dic ds => obtain ⟨vs, h, r⟩ := h; exact ⟨vs, h, r.adopt⟩
  | obj c ds => obtain ⟨C, dx, vs, h, hc, r⟩ := h; exact ⟨C, dx, vs, h, hc, r.adopt⟩
theorem HRep.adopt {u : MO} (h : HRep (g.wB (b :: B)) H m s) (nB : b ∉ B) (r : ORep (g.wB B) H (m ++ [b]) b u) : HRep (g.wB B) H (m ++ [b]) (s ++ [u]) := by
  have nm := (h.bt b (List.mem_cons_self ..)).2
  refine ⟨by simp [h.len], ?_, fun i a w e1 e2 => ?_, fun a ha => ?_⟩
  · rw [List.nodup_append]
    refine ⟨h.nd, by simp, fun a ha c hc => ?_⟩
    rw [List.mem_singleton.mp hc]
    intro e
    exact nm (e ▸ ha)
  · by_cases hi : i < m.length
    · rw [List.getElem?_append_left hi] at e1
      rw [List.getElem?_append_left (by rw [← h.len]; exact hi)] at e2
      exact (h.ob i a w e1 e2).adopt
    · rw [List.getElem?_append_right (by omega)] at e1
      rw [List.getElem?_append_right (by rw [← h.len]; omega)] at e2
      have h0 : i - m.length = 0 := by
        have := (List.getElem?_eq_some_iff.mp e1).1
        simp at this; omega
      rw [h0] at e1
      rw [← h.len, h0] at e2
      simp at e1 e2
      subst e1 e2
      exact r
  · obtain ⟨t, n⟩ := h.bt a (List.mem_cons_of_mem _ ha)
    refine ⟨t, fun hm => ?_⟩
    rcases List.mem_append.mp hm with hm | hm
    · exact n hm
    · rw [List.mem_singleton.mp hm] at ha; exact nB ha
end
end L2.GS

namespace L2.GS
open PySem PySem.Spec PyProof.Rows

/-! ### what an expression, a statement does -/
inductive R (α : Type) where
  | ok (a : α) (s : S) | exc (c : Str) (fs : List (Str × D)) (s : S) | bad
abbrev En := List (Option D)
abbrev Ev := En → S → R D
abbrev Et := En → S → R Bool
abbrev Ea := En → S → R (List D)
inductive RS where
  | nx (env : En) (s : S) | rt (d : D) (s : S) | bk (env : En) (s : S) | ct (env : En) (s : S) | exc (c : Str) (fs : List (Str × D)) (env : En) (s : S) | bad
abbrev Est := En → S → RS
abbrev Fn := List D → S → R D
def R.bind {α β : Type} : R α → (α → S → R β) → R β
  | .ok a s, k => k a s
  | .exc c fs s, _ => .exc c fs s
  | .bad, _ => .bad
def R.toS {α : Type} (env : En) : R α → (α → S → RS) → RS
  | .ok a s, k => k a s
  | .exc c fs s, _ => .exc c fs env s
  | .bad, _ => .bad

section
variable {α β : Type} {a : α} {s : S} {k : α → S → R β} {j : α → S → RS} {c : Str} {fs : List (Str × D)} {env : En}
@[simp] theorem bind_ok : (R.ok a s).bind k = k a s := rfl
@[simp] theorem bind_exc : (R.exc c fs s : R α).bind k = .exc c fs s := rfl
@[simp] theorem bind_bad : (R.bad : R α).bind k = .bad := rfl
@[simp] theorem toS_ok : (R.ok a s).toS env j = j a s := rfl
@[simp] theorem toS_exc : (R.exc c fs s : R α).toS env j = .exc c fs env s := rfl
@[simp] theorem toS_bad : (R.bad : R α).toS env j = .bad := rfl
end
structure ERep (g : Gd) (H : Hp) (m : List Addr) (σ : St) (env : En) : Prop where
  len : σ.length = env.length
  at_ : ∀ (i : Nat) (d : D), env[i]? = some (some d) → ∃ v, σ[i]? = some (some v) ∧ Rep g H m v d
section
variable {g : Gd} {W : WX} {σ : St} {H H' H1 : Hp} {m m' m1 : List Addr} {s s' : S} {env : En}
theorem ERep.step (st : Step m H m' H') (h : ERep g H m σ env) : ERep g H' m' σ env :=
  ⟨h.len, fun i d e => let ⟨v, q, r⟩ := h.at_ i d e; ⟨v, q, r.step st⟩⟩
theorem ERep.set (h : ERep g H m σ env) {v : V} {d : D} (r : Rep g H m v d) (i : Nat) : ERep g H m (σ.set i (some v)) (env.set i (some d)) := by
  refine ⟨by simp [h.len], fun j e hj => ?_⟩
  by_cases hi : i = j
  · subst hi
    have hlt : i < env.length := by
      have := (List.getElem?_eq_some_iff.mp hj).1
      simpa using this
    rw [List.getElem?_set_self hlt] at hj; cases hj
    exact ⟨v, List.getElem?_set_self (by rw [h.len]; exact hlt), r⟩
  · rw [List.getElem?_set_ne hi] at hj
    obtain ⟨w, q, r'⟩ := h.at_ j e hj
    exact ⟨w, by rw [List.getElem?_set_ne hi]; exact q, r'⟩
/-- a slot forgotten -/
theorem ERep.drop (h : ERep g H m σ env) (i : Nat) : ERep g H m σ (env.set i none) := by
  refine ⟨by simp [h.len], fun j e hj => ?_⟩
  by_cases hi : i = j
  · subst hi
    have hlt : i < env.length := by
      have := (List.getElem?_eq_some_iff.mp hj).1
      simpa using this
    rw [List.getElem?_set_self hlt] at hj; cases hj
  · rw [List.getElem?_set_ne hi] at hj
    exact h.at_ j e hj
theorem ERep.clear (h : ERep g H m σ env) (i : Nat) : ERep g H m (σ.set i none) (env.set i none) := by
  refine ⟨by simp [h.len], fun j e hj => ?_⟩
  by_cases hi : i = j
  · subst hi
    have hlt : i < env.length := by
      have := (List.getElem?_eq_some_iff.mp hj).1
      simpa using this
    rw [List.getElem?_set_self hlt] at hj; cases hj
  · rw [List.getElem?_set_ne hi] at hj
    obtain ⟨w, q, r'⟩ := h.at_ j e hj
    exact ⟨w, by rw [List.getElem?_set_ne hi]; exact q, r'⟩

/-- an exception's own dict -/
def XFs (g : Gd) (H : Hp) (m : List Addr) (d : Option Addr) (fs : List (Str × D)) : Prop :=
  (d = none ∧ fs = []) ∨ ∃ dx vs, d = some dx ∧ H dx = some (.xd vs) ∧ RepF g H m vs fs
def exW (g : Gd) (W : WX) (σ : St) (m : List Addr) (H : Hp) (c : Str) (fs : List (Str × D)) (s' : S) : Prop :=
  ∀ m' H' C d, Step m H m' H' → HRep g H' m' s' → g.mg c = some (.ref C) → XFs g H' m' d fs → W (.ref C) d σ H'
def kR {α β : Type} (rel : Gd → Hp → List Addr → β → α → Prop) (g : Gd) (W : WX) (σ : St) (m : List Addr) (H : Hp) (Q : β → Hp → Prop) : R α → Prop
  | .ok a s' => ∀ v m' H', Step m H m' H' → HRep g H' m' s' → rel g H' m' v a → Q v H'
  | .exc c fs s' => exW g W σ m H c fs s'
  | .bad => False
abbrev kE := @kR D V Rep
abbrev kA := @kR (List D) (List V) Reps
abbrev kT := @kR Bool Bool (fun _ _ _ v a => v = a)
theorem exW.at (st : Step m H m1 H1) {c : Str} {fs : List (Str × D)} (h : exW g W σ m H c fs s) : exW g W σ m1 H1 c fs s :=
  fun m' H' C d st' hr hc x => h m' H' C d (st.trans st') hr hc x
theorem kR.at {α β : Type} {rel : Gd → Hp → List Addr → β → α → Prop} {Q : β → Hp → Prop} (st : Step m H m1 H1) : ∀ {r : R α}, kR rel g W σ m H Q r → kR rel g W σ m1 H1 Q r
  | .ok _ _, h => fun v m' H' st' hr r => h v m' H' (st.trans st') hr r
  | .exc _ _ _, h => exW.at st h
  | .bad, h => h
theorem kR.go {α β : Type} {rel : Gd → Hp → List Addr → β → α → Prop} {Q : β → Hp → Prop} {a : α} {v : β} (h : kR rel g W σ m H Q (.ok a s)) (hr : HRep g H m s) (r : rel g H m v a) : Q v H := h v m H (Step.refl _ _) hr r

def tE (g : Gd) (W : WX) (f : Ev) : TE := fun σ H Q => ∃ B env s m, ERep (g.wB B) H m σ env ∧ HRep (g.wB B) H m s ∧ kE (g.wB B) W σ m H Q (f env s)
def tA (g : Gd) (W : WX) (f : Ea) : TA := fun σ H Q => ∃ B env s m, ERep (g.wB B) H m σ env ∧ HRep (g.wB B) H m s ∧ kA (g.wB B) W σ m H Q (f env s)
def tT (g : Gd) (W : WX) (f : Et) : TT := fun σ H Q => ∃ B env s m, ERep (g.wB B) H m σ env ∧ HRep (g.wB B) H m s ∧ kT (g.wB B) W σ m H Q (f env s)
def kS (g : Gd) (W : WX) (m : List Addr) (H : Hp) (Dn : Ends) : RS → Prop
  | .nx env s' => ∀ σ' m' H', Step m H m' H' → HRep g H' m' s' → ERep g H' m' σ' env → Dn.nx σ' H'
  | .rt d s' => ∀ v m' H', Step m H m' H' → HRep g H' m' s' → Rep g H' m' v d → Dn.rt v H'
  | .bk env s' => ∀ σ' m' H', Step m H m' H' → HRep g H' m' s' → ERep g H' m' σ' env → Dn.bk σ' H'
  | .ct env s' => ∀ σ' m' H', Step m H m' H' → HRep g H' m' s' → ERep g H' m' σ' env → Dn.ct σ' H'
  | .exc c fs env s' => ∀ σ' m' H', Step m H m' H' → ERep g H' m' σ' env → exW g W σ' m' H' c fs s'
  | .bad => False
theorem kS.at {Dn : Ends} (st : Step m H m1 H1) : ∀ {r : RS}, kS g W m H Dn r → kS g W m1 H1 Dn r
  | .nx _ _, h => fun σ' m' H' st' hr r => h σ' m' H' (st.trans st') hr r
  | .rt _ _, h => fun v m' H' st' hr r => h v m' H' (st.trans st') hr r
  | .bk _ _, h => fun σ' m' H' st' hr r => h σ' m' H' (st.trans st') hr r
  | .ct _ _, h => fun σ' m' H' st' hr r => h σ' m' H' (st.trans st') hr r
  | .exc _ _ _ _, h => fun σ' m' H' st' r => h σ' m' H' (st.trans st') r
  | .bad, h => h
def tS (g : Gd) (W : WX) (f : Est) : TS := fun Dn σ H => ∃ B env s m, ERep (g.wB B) H m σ env ∧ HRep (g.wB B) H m s ∧ kS (g.wB B) W m H Dn (f env s)

/-- one thing, then another -/
theorem kR.bind {α β γ δ : Type} {rel : Gd → Hp → List Addr → β → α → Prop} {rel' : Gd → Hp → List Addr → δ → γ → Prop} {r : R α} {k : α → S → R γ} {Q : δ → Hp → Prop} {Q1 : β → Hp → Prop} (h : kR rel' g W σ m H Q (r.bind k))
    (hq : ∀ a s' v m' H', r = .ok a s' → Step m H m' H' → HRep g H' m' s' → rel g H' m' v a → kR rel' g W σ m' H' Q (k a s') → Q1 v H') : kR rel g W σ m H Q1 r := by
  cases r with
  | ok a s' => exact fun v m' H' st hr rv => hq a s' v m' H' rfl st hr rv (kR.at st h)
  | exc c fs s' => exact h
  | bad => exact h
/-- .. in a statement -/
theorem kS.bind {α β : Type} {rel : Gd → Hp → List Addr → β → α → Prop} {r : R α} {k : α → S → RS} {Dn : Ends} {Q1 : β → Hp → Prop} (he : ERep g H m σ env) (h : kS g W m H Dn (r.toS env k))
    (hq : ∀ a s' v m' H', r = .ok a s' → Step m H m' H' → HRep g H' m' s' → rel g H' m' v a → kS g W m' H' Dn (k a s') → Q1 v H') : kR rel g W σ m H Q1 r := by
  cases r with
  | ok a s' => exact fun v m' H' st hr rv => hq a s' v m' H' rfl st hr rv (kS.at st h)
  | exc c fs s' => exact h σ m H (Step.refl _ _) he
  | bad => exact h
end

/-! ### weaker readings -/
section
variable {X : Cx}
theorem subE {e : Expr} {t t' : TE} (h : PE X e t) (hi : ∀ σ H Q, t' σ H Q → t σ H Q) : PE X e t' := ⟨fun pins s σ H Q I q => h.run pins s σ H Q I (hi σ H Q q)⟩
theorem subT {e : Expr} {t t' : TT} (h : PT X e t) (hi : ∀ σ H Q, t' σ H Q → t σ H Q) : PT X e t' := ⟨fun pins s σ H Q I q => h.run pins s σ H Q I (hi σ H Q q)⟩
theorem subW {e : Expr} {t t' : TT} (h : PW X e t) (hi : ∀ σ H Q, t' σ H Q → t σ H Q) : PW X e t' := ⟨fun wh pins s σ H Q I q => h.run wh pins s σ H Q I (hi σ H Q q)⟩
theorem subA {e : List Expr} {t t' : TA} (h : PA X e t) (hi : ∀ σ H Q, t' σ H Q → t σ H Q) : PA X e t' := ⟨fun pos pins s σ H Q I q => h.run pos pins s σ H Q I (hi σ H Q q)⟩
theorem subS {e : Stmt} {t t' : TS} (h : PS X e t) (hi : ∀ Dn σ H, t' Dn σ H → t Dn σ H) : PS X e t' := ⟨fun pins s σ H Dn I q => h.run pins s σ H Dn I (hi Dn σ H q)⟩
theorem subSs {e : List Stmt} {t t' : TS} (h : PSs X e t) (hi : ∀ Dn σ H, t' Dn σ H → t Dn σ H) : PSs X e t' := ⟨fun pins s σ H Dn I q => h.run pins s σ H Dn I (hi Dn σ H q)⟩
end

/-! ### combinators -/
def cVar (i : Nat) : Ev := fun env s => match env[i]? with
  | some (some d) => .ok d s
  | _ => .bad
def cCst (d : D) : Ev := fun _ s => .ok d s
def cOp (o : D → D → S → R D) (a b : Ev) : Ev := fun env s => (a env s).bind fun x s => (b env s).bind fun y s => o x y s
def cUn (o : D → S → R D) (a : Ev) : Ev := fun env s => (a env s).bind fun x s => o x s
def cNil : Ea := fun _ s => .ok [] s
def cCons (a : Ev) (r : Ea) : Ea := fun env s => (a env s).bind fun x s => (r env s).bind fun xs s => .ok (x :: xs) s
def cArg (o : List D → S → R D) (a : Ea) : Ev := fun env s => (a env s).bind fun xs s => o xs s
def cTup (a : Ea) : Ev := cArg (fun xs s => if xs.length ≤ sizeLine then .ok (.tup xs) s else .bad) a
def cLst (a : Ea) : Ev := cArg (fun xs s => if xs.length ≤ sizeLine then .ok (.lst xs) s else .bad) a
/-- .. owned -/
def cLstO (a : Ea) : Ev := cArg (fun xs s => if xs.length ≤ sizeLine then .ok (.ref s.length) (s ++ [.lst xs]) else .bad) a
def cAndV (a b : Ev) : Ev := fun env s => (a env s).bind fun x s => match x with
  | .bl true => b env s
  | .bl false => .ok (.bl false) s
  | _ => .bad
def cOrV (a b : Ev) : Ev := fun env s => (a env s).bind fun x s => match x with
  | .bl false => b env s
  | .bl true => .ok (.bl true) s
  | _ => .bad
def cNotV (a : Ev) : Ev := fun env s => (a env s).bind fun x s => match x with
  | .bl b => .ok (.bl (!b)) s
  | _ => .bad
def cIfE (t : Et) (a b : Ev) : Ev := fun env s => (t env s).bind fun c s => if c = true then a env s else b env s
/-- tests -/
def cB (a : Ev) : Et := fun env s => (a env s).bind fun x s => match x with
  | .bl b => .ok b s
  | _ => .bad
def cAnd (a b : Et) : Et := fun env s => (a env s).bind fun x s => if x = true then b env s else .ok false s
def cOr (a b : Et) : Et := fun env s => (a env s).bind fun x s => if x = true then .ok true s else b env s
def cNot (a : Et) : Et := fun env s => (a env s).bind fun x s => .ok (!x) s
/-- a op b op c -/
def cChain (o o' : D → D → S → R D) (a b c : Ev) : Ev := fun env s => (a env s).bind fun x s => (b env s).bind fun y s => (o x y s).bind fun z s => match z with
  | .bl true => (c env s).bind fun w s => o' y w s
  | .bl false => .ok (.bl false) s
  | _ => .bad
/-- statements -/
def cSkip : Est := fun env s => .nx env s
def cSeq (a b : Est) : Est := fun env s => match a env s with
  | .nx env s => b env s
  | r => r
def cSet (i : Nat) (a : Ev) : Est := fun env s => (a env s).toS env fun x s => .nx (env.set i (some x)) s
def cRet (a : Ev) : Est := fun env s => (a env s).toS env fun x s => .rt x s
def cRetN : Est := fun _ s => .rt .non s
def cExpr (a : Ev) : Est := fun env s => (a env s).toS env fun _ s => .nx env s
def cIf (t : Et) (a b : Est) : Est := fun env s => (t env s).toS env fun c s => if c = true then a env s else b env s
def cBrk : Est := fun env s => .bk env s
def cCnt : Est := fun env s => .ct env s

section
variable {X : Cx} {g : Gd} {W : WX} {a b c : Expr} {es : List Expr} {fa fb fc : Ev} {ga : Ea} {pos : Pos}
/-- an operator by values -/
def OpG (g : Gd) (r : R2) (o : D → D → S → R D) : Prop := ∀ (W : WX) (σ : St) (H : Hp) (m : List Addr) (s : S) (x y : D) (v w : V) (Q : VK),
  HRep g H m s → Rep g H m v x → Rep g H m w y → kE g W σ m H Q (o x y s) → r v w H Q
def UnG (g : Gd) (r : V → Hp → VK → Prop) (o : D → S → R D) : Prop := ∀ (W : WX) (σ : St) (H : Hp) (m : List Addr) (s : S) (x : D) (v : V) (Q : VK),
  HRep g H m s → Rep g H m v x → kE g W σ m H Q (o x s) → r v H Q
def CallG (g : Gd) (r : List V → Hp → VK → Prop) (o : List D → S → R D) : Prop := ∀ (W : WX) (σ : St) (H : Hp) (m : List Addr) (s : S) (xs : List D) (vs : List V) (Q : VK),
  HRep g H m s → Reps g H m vs xs → kE g W σ m H Q (o xs s) → r vs H Q

theorem t_var {i : Nat} (σ : St) (H : Hp) (Q : VK) (h : tE g W (cVar i) σ H Q) : tVar i σ H Q := by
  obtain ⟨B, env, s, m, he, hr, hk⟩ := h
  unfold cVar at hk
  split at hk
  · rename_i d e
    obtain ⟨v, q, r⟩ := he.at_ i d e
    exact ⟨v, q, kR.go hk hr r⟩
  · exact hk.elim
theorem t_cst {d : D} {v : V} (hv : ∀ B H m s, HRep (g.wB B) H m s → Rep (g.wB B) H m v d) (σ : St) (H : Hp) (Q : VK) (h : tE g W (cCst d) σ H Q) : tC v σ H Q := by
  obtain ⟨B, env, s, m, he, hr, hk⟩ := h
  exact kR.go hk hr (hv B H m s hr)
theorem t_op {r : R2} {o : D → D → S → R D} (ho : ∀ B, OpG (g.wB B) r o) (σ : St) (H : Hp) (Q : VK) (h : tE g W (cOp o fa fb) σ H Q) : tOp r (tE g W fa) (tE g W fb) σ H Q := by
  obtain ⟨B, env, s, m, he, hr, hk⟩ := h
  refine ⟨B, env, s, m, he, hr, kR.bind hk fun x s1 v m1 H1 _ st1 hr1 r1 hk1 => ⟨B, env, s1, m1, he.step st1, hr1, kR.bind hk1 fun y s2 w m2 H2 _ st2 hr2 r2 hk2 => ?_⟩⟩
  exact ho B W σ H2 m2 s2 x y v w Q hr2 (r1.step st2) r2 hk2
theorem t_un {r : V → Hp → VK → Prop} {o : D → S → R D} (ho : ∀ B, UnG (g.wB B) r o) (σ : St) (H : Hp) (Q : VK) (h : tE g W (cUn o fa) σ H Q) : tUn r (tE g W fa) σ H Q := by
  obtain ⟨B, env, s, m, he, hr, hk⟩ := h
  exact ⟨B, env, s, m, he, hr, kR.bind hk fun x s1 v m1 H1 _ st1 hr1 r1 hk1 => ho B W σ H1 m1 s1 x v Q hr1 r1 hk1⟩
theorem t_nil (σ : St) (H : Hp) (Q : List V → Hp → Prop) (h : tA g W cNil σ H Q) : tNil σ H Q := by
  obtain ⟨B, env, s, m, he, hr, hk⟩ := h
  exact kR.go hk hr .nil
theorem t_cons (σ : St) (H : Hp) (Q : List V → Hp → Prop) (h : tA g W (cCons fa ga) σ H Q) : tCons (tE g W fa) (tA g W ga) σ H Q := by
  obtain ⟨B, env, s, m, he, hr, hk⟩ := h
  refine ⟨B, env, s, m, he, hr, kR.bind hk fun x s1 v m1 H1 _ st1 hr1 r1 hk1 => ⟨B, env, s1, m1, he.step st1, hr1, kR.bind hk1 fun y s2 w m2 H2 _ st2 hr2 r2 hk2 => ?_⟩⟩
  exact kR.go hk2 hr2 (.cons (r1.step st2) r2)
theorem t_arg {r : List V → Hp → VK → Prop} {o : List D → S → R D} (ho : ∀ B, CallG (g.wB B) r o) (σ : St) (H : Hp) (Q : VK) (h : tE g W (cArg o ga) σ H Q) : tCB r (tA g W ga) σ H Q := by
  obtain ⟨B, env, s, m, he, hr, hk⟩ := h
  exact ⟨B, env, s, m, he, hr, kR.bind hk fun x s1 v m1 H1 _ st1 hr1 r1 hk1 => ho B W σ H1 m1 s1 x v Q hr1 r1 hk1⟩
theorem Reps.length {H : Hp} {m : List Addr} : ∀ {vs : List V} {ds : List D}, Reps g H m vs ds → vs.length = ds.length
  | _, _, .nil => rfl
  | _, _, .cons _ r => congrArg Nat.succ r.length
theorem t_tup (σ : St) (H : Hp) (Q : VK) (h : tE g W (cTup ga) σ H Q) : tTup (tA g W ga) σ H Q := by
  obtain ⟨B, env, s, m, he, hr, hk⟩ := h
  refine ⟨B, env, s, m, he, hr, kR.bind hk fun x s1 v m1 H1 _ st1 hr1 r1 hk1 => ?_⟩
  (try dsimp only at hk1)
  split at hk1
  · rename_i hl
    refine ⟨by rw [r1.length]; exact hl, fun p hp => ?_⟩
    obtain ⟨f1, f2⟩ := hr1.fresh hp
    exact hk1 _ m1 _ (Step.new hp) (hr1.new hp) (.tup (.inl upd_same) f1 f2 (r1.step (Step.new hp)))
  · exact hk1.elim
theorem t_lst (σ : St) (H : Hp) (Q : VK) (h : tE g W (cLst ga) σ H Q) : tLst (tA g W ga) σ H Q := by
  obtain ⟨B, env, s, m, he, hr, hk⟩ := h
  refine ⟨B, env, s, m, he, hr, kR.bind hk fun x s1 v m1 H1 _ st1 hr1 r1 hk1 => ?_⟩
  (try dsimp only at hk1)
  split at hk1
  · rename_i hl
    refine ⟨by rw [r1.length]; exact hl, fun p hp => ?_⟩
    obtain ⟨f1, f2⟩ := hr1.fresh hp
    exact hk1 _ m1 _ (Step.new hp) (hr1.new hp) (.lst upd_same f1 f2 (r1.step (Step.new hp)))
  · exact hk1.elim
theorem t_lstO (σ : St) (H : Hp) (Q : VK) (h : tE g W (cLstO ga) σ H Q) : tLst (tA g W ga) σ H Q := by
  obtain ⟨B, env, s, m, he, hr, hk⟩ := h
  refine ⟨B, env, s, m, he, hr, kR.bind hk fun x s1 v m1 H1 _ st1 hr1 r1 hk1 => ?_⟩
  (try dsimp only at hk1)
  split at hk1
  · rename_i hl
    refine ⟨by rw [r1.length]; exact hl, fun p hp => ?_⟩
    exact hk1 _ (m1 ++ [p]) _ (Step.push hp) (hr1.push (u := .lst x) hp ⟨_, upd_same, r1.step (Step.push hp)⟩) (.ref (by rw [← hr1.len]; simp))
  · exact hk1.elim
theorem t_andV (σ : St) (H : Hp) (Q : VK) (h : tE g W (cAndV fa fb) σ H Q) : tAndV (tE g W fa) (tE g W fb) σ H Q := by
  obtain ⟨B, env, s, m, he, hr, hk⟩ := h
  refine ⟨B, env, s, m, he, hr, kR.bind hk fun x s1 v m1 H1 _ st1 hr1 r1 hk1 => ?_⟩
  (try dsimp only at hk1)
  split at hk1
  · cases r1
    exact ⟨true, rfl, iteT ⟨B, env, s1, m1, he.step st1, hr1, hk1⟩⟩
  · cases r1
    exact ⟨false, rfl, iteF (kR.go hk1 hr1 .bl)⟩
  · exact hk1.elim
theorem t_orV (σ : St) (H : Hp) (Q : VK) (h : tE g W (cOrV fa fb) σ H Q) : tOrV (tE g W fa) (tE g W fb) σ H Q := by
  obtain ⟨B, env, s, m, he, hr, hk⟩ := h
  refine ⟨B, env, s, m, he, hr, kR.bind hk fun x s1 v m1 H1 _ st1 hr1 r1 hk1 => ?_⟩
  (try dsimp only at hk1)
  split at hk1
  · cases r1
    exact ⟨false, rfl, iteF ⟨B, env, s1, m1, he.step st1, hr1, hk1⟩⟩
  · cases r1
    exact ⟨true, rfl, iteT (kR.go hk1 hr1 .bl)⟩
  · exact hk1.elim
theorem t_notV (σ : St) (H : Hp) (Q : VK) (h : tE g W (cNotV fa) σ H Q) : tNotV (tE g W fa) σ H Q := by
  obtain ⟨B, env, s, m, he, hr, hk⟩ := h
  refine ⟨B, env, s, m, he, hr, kR.bind hk fun x s1 v m1 H1 _ st1 hr1 r1 hk1 => ?_⟩
  (try dsimp only at hk1)
  split at hk1
  · cases r1
    exact ⟨_, rfl, kR.go hk1 hr1 .bl⟩
  · exact hk1.elim
theorem t_ifE {ft : Et} (σ : St) (H : Hp) (Q : VK) (h : tE g W (cIfE ft fa fb) σ H Q) : tIf (tT g W ft) (tE g W fa) (tE g W fb) σ H Q := by
  obtain ⟨B, env, s, m, he, hr, hk⟩ := h
  refine ⟨B, env, s, m, he, hr, kR.bind hk fun x s1 v m1 H1 _ st1 hr1 r1 hk1 => ?_⟩
  subst r1
  cases v with
  | true => exact iteT ⟨B, env, s1, m1, he.step st1, hr1, by simpa using hk1⟩
  | false => exact iteF ⟨B, env, s1, m1, he.step st1, hr1, by simpa using hk1⟩
theorem t_B {te : TE} (hte : ∀ σ H Q, tE g W fa σ H Q → te σ H Q) (σ : St) (H : Hp) (Q : Bool → Hp → Prop) (h : tT g W (cB fa) σ H Q) : tTest te σ H Q := by
  obtain ⟨B, env, s, m, he, hr, hk⟩ := h
  refine hte σ H _ ⟨B, env, s, m, he, hr, kR.bind hk fun x s1 v m1 H1 _ st1 hr1 r1 hk1 => ?_⟩
  (try dsimp only at hk1)
  split at hk1
  · cases r1
    exact ⟨_, rfl, kR.go hk1 hr1 rfl⟩
  · exact hk1.elim
theorem t_and {ta tb : Et} (σ : St) (H : Hp) (Q : Bool → Hp → Prop) (h : tT g W (cAnd ta tb) σ H Q) : L2.tAnd (tT g W ta) (tT g W tb) σ H Q := by
  obtain ⟨B, env, s, m, he, hr, hk⟩ := h
  refine ⟨B, env, s, m, he, hr, kR.bind hk fun x s1 v m1 H1 _ st1 hr1 r1 hk1 => ?_⟩
  subst r1
  cases v with
  | true => exact iteT ⟨B, env, s1, m1, he.step st1, hr1, by simpa using hk1⟩
  | false => exact iteF (kR.go (a := false) (rel := fun _ _ _ v a => v = a) (by simpa using hk1) hr1 rfl)
theorem t_or {ta tb : Et} (σ : St) (H : Hp) (Q : Bool → Hp → Prop) (h : tT g W (cOr ta tb) σ H Q) : L2.tOr (tT g W ta) (tT g W tb) σ H Q := by
  obtain ⟨B, env, s, m, he, hr, hk⟩ := h
  refine ⟨B, env, s, m, he, hr, kR.bind hk fun x s1 v m1 H1 _ st1 hr1 r1 hk1 => ?_⟩
  subst r1
  cases v with
  | true => exact iteT (kR.go (a := true) (rel := fun _ _ _ v a => v = a) (by simpa using hk1) hr1 rfl)
  | false => exact iteF ⟨B, env, s1, m1, he.step st1, hr1, by simpa using hk1⟩
theorem t_not {ta : Et} (σ : St) (H : Hp) (Q : Bool → Hp → Prop) (h : tT g W (cNot ta) σ H Q) : L2.tNot (tT g W ta) σ H Q := by
  obtain ⟨B, env, s, m, he, hr, hk⟩ := h
  refine ⟨B, env, s, m, he, hr, kR.bind hk fun x s1 v m1 H1 _ st1 hr1 r1 hk1 => ?_⟩
  subst r1
  exact kR.go hk1 hr1 rfl
theorem t_chain {r r' : R2} {o o' : D → D → S → R D} (ho : ∀ B, OpG (g.wB B) r o) (ho' : ∀ B, OpG (g.wB B) r' o') (σ : St) (H : Hp) (Q : VK) (h : tE g W (cChain o o' fa fb fc) σ H Q) : tChain r r' (tE g W fa) (tE g W fb) (tE g W fc) σ H Q := by
  obtain ⟨B, env, s, m, he, hr, hk⟩ := h
  refine ⟨B, env, s, m, he, hr, kR.bind hk fun x s1 v m1 H1 _ st1 hr1 r1 hk1 => ⟨B, env, s1, m1, he.step st1, hr1, kR.bind hk1 fun y s2 w m2 H2 _ st2 hr2 r2 hk2 => ?_⟩⟩
  refine ho B W σ H2 m2 s2 x y v w _ hr2 (r1.step st2) r2 (kR.bind hk2 fun z s3 u m3 H3 _ st3 hr3 r3 hk3 => ?_)
  (try dsimp only at hk3)
  split at hk3
  · cases r3
    refine ⟨true, rfl, iteT ⟨B, env, s3, m3, ((he.step st1).step st2).step st3, hr3, kR.bind hk3 fun q s4 z m4 H4 _ st4 hr4 r4 hk4 => ?_⟩⟩
    exact ho' B W σ H4 m4 s4 y q w z Q hr4 ((r2.step st3).step st4) r4 hk4
  · cases r3
    exact ⟨false, rfl, iteF (kR.go hk3 hr3 .bl)⟩
  · exact hk3.elim
/-! statements -/
theorem t_skip (Dn : Ends) (σ : St) (H : Hp) (h : tS g W cSkip Dn σ H) : tNext Dn σ H := by
  obtain ⟨B, env, s, m, he, hr, hk⟩ := h
  exact hk σ m H (Step.refl _ _) hr he
theorem t_brk (Dn : Ends) (σ : St) (H : Hp) (h : tS g W cBrk Dn σ H) : tBreak Dn σ H := by
  obtain ⟨B, env, s, m, he, hr, hk⟩ := h
  exact hk σ m H (Step.refl _ _) hr he
theorem t_cnt (Dn : Ends) (σ : St) (H : Hp) (h : tS g W cCnt Dn σ H) : tCont Dn σ H := by
  obtain ⟨B, env, s, m, he, hr, hk⟩ := h
  exact hk σ m H (Step.refl _ _) hr he
theorem t_seq {sa sb : Est} (Dn : Ends) (σ : St) (H : Hp) (h : tS g W (cSeq sa sb) Dn σ H) : tSeq (tS g W sa) (tS g W sb) Dn σ H := by
  obtain ⟨B, env, s, m, he, hr, hk⟩ := h
  refine ⟨B, env, s, m, he, hr, ?_⟩
  unfold cSeq at hk
  cases hq : sa env s with
  | nx env1 s1 =>
    rw [hq] at hk
    exact fun σ1 m1 H1 st1 hr1 he1 => ⟨B, env1, s1, m1, he1, hr1, kS.at st1 hk⟩
  | rt d s1 => rw [hq] at hk; exact hk
  | bk d s1 => rw [hq] at hk; exact hk
  | ct d s1 => rw [hq] at hk; exact hk
  | exc c fs e s1 => rw [hq] at hk; exact hk
  | bad => rw [hq] at hk; exact hk
theorem t_set {i : Nat} (Dn : Ends) (σ : St) (H : Hp) (h : tS g W (cSet i fa) Dn σ H) : tAsg (tE g W fa) (gName i) Dn σ H := by
  obtain ⟨B, env, s, m, he, hr, hk⟩ := h
  refine ⟨B, env, s, m, he, hr, kS.bind he hk fun x s1 v m1 H1 _ st1 hr1 r1 hk1 => ?_⟩
  exact hk1 _ m1 H1 (Step.refl _ _) hr1 ((he.step st1).set r1 i)
theorem t_ret (Dn : Ends) (σ : St) (H : Hp) (h : tS g W (cRet fa) Dn σ H) : tRet (tE g W fa) Dn σ H := by
  obtain ⟨B, env, s, m, he, hr, hk⟩ := h
  refine ⟨B, env, s, m, he, hr, kS.bind he hk fun x s1 v m1 H1 _ st1 hr1 r1 hk1 => ?_⟩
  exact hk1 v m1 H1 (Step.refl _ _) hr1 r1
theorem t_retN (Dn : Ends) (σ : St) (H : Hp) (h : tS g W cRetN Dn σ H) : tRetN Dn σ H := by
  obtain ⟨B, env, s, m, he, hr, hk⟩ := h
  exact hk .non m H (Step.refl _ _) hr .non
theorem t_expr (Dn : Ends) (σ : St) (H : Hp) (h : tS g W (cExpr fa) Dn σ H) : tDrop (tE g W fa) Dn σ H := by
  obtain ⟨B, env, s, m, he, hr, hk⟩ := h
  refine ⟨B, env, s, m, he, hr, kS.bind he hk fun x s1 v m1 H1 _ st1 hr1 r1 hk1 => ?_⟩
  exact hk1 σ m1 H1 (Step.refl _ _) hr1 (he.step st1)
theorem t_if {ft : Et} {sa sb : Est} (Dn : Ends) (σ : St) (H : Hp) (h : tS g W (cIf ft sa sb) Dn σ H) : tIfS (tT g W ft) (tS g W sa) (tS g W sb) Dn σ H := by
  obtain ⟨B, env, s, m, he, hr, hk⟩ := h
  refine ⟨B, env, s, m, he, hr, kS.bind he hk fun x s1 v m1 H1 _ st1 hr1 r1 hk1 => ?_⟩
  subst r1
  cases v with
  | true => exact iteT ⟨B, env, s1, m1, he.step st1, hr1, by simpa using hk1⟩
  | false => exact iteF ⟨B, env, s1, m1, he.step st1, hr1, by simpa using hk1⟩
end
end L2.GS

namespace L2.GS
open PySem PySem.Spec PyProof.Rows

/-! ### what is read as a list, a tuple -/
/-- a list that is tracked by itself -/
def rdL (s : S) : D → Option (List D)
  | .lst xs => some xs
  | .ref n => match s[n]? with
    | some (.lst xs) => some xs
    | _ => none
  | _ => none
/-- any list -/
def rdLs (s : S) : D → Option (List D)
  | .fls xs => some xs
  | d => rdL s d
def rdK (s : S) : D → Option (List (Key × D))
  | .dic xs => some xs
  | .ref n => match s[n]? with
    | some (.dic xs) => some xs
    | _ => none
  | _ => none
def rdO (s : S) : D → Option (Str × List (Str × D))
  | .obj c xs => some (c, xs)
  | .ref n => match s[n]? with
    | some (.obj c xs) => some (c, xs)
    | _ => none
  | _ => none
section
variable {g : Gd} {H H' : Hp} {m m' : List Addr} {s s' : S}
theorem Rep.lstI {v : V} {xs : List D} (r : Rep g H m v (.lst xs)) : ∃ a vs, v = .ref a ∧ H a = some (.lst vs) ∧ Reps g H m vs xs := by
  cases r with
  | lst h n b r => exact ⟨_, _, rfl, h, r⟩
theorem Rep.tupI {v : V} {xs : List D} (r : Rep g H m v (.tup xs)) : ∃ a vs, v = .ref a ∧ SqT g.K H a vs ∧ Reps g H m vs xs := by
  cases r with
  | tup h n b r => exact ⟨_, _, rfl, .inl h, r⟩
  | tupK h r => exact ⟨_, _, rfl, .inr h, r⟩
theorem rdL_ok (hr : HRep g H m s) {d : D} {v : V} {xs : List D} (e : rdL s d = some xs) (r : Rep g H m v d) : ∃ a vs, v = .ref a ∧ H a = some (.lst vs) ∧ Reps g H m vs xs := by
  unfold rdL at e
  split at e
  · cases e; exact r.lstI
  · rename_i n
    split at e
    · rename_i ys q
      cases e
      cases r with
      | ref h =>
        obtain ⟨o, h2, ro⟩ := hr.at h
        rw [q] at h2; cases h2
        obtain ⟨vs, e, r⟩ := ro
        exact ⟨_, vs, rfl, e, r⟩
    · cases e
  · cases e
theorem rdLs_ok (hr : HRep g H m s) {d : D} {v : V} {xs : List D} (e : rdLs s d = some xs) (r : Rep g H m v d) : ∃ a vs, v = .ref a ∧ SqL g.K H a vs ∧ Reps g H m vs xs := by
  unfold rdLs at e
  split at e
  · cases e
    cases r with
    | fls h n b r => exact ⟨_, _, rfl, .inl (.inr ⟨_, h⟩), r⟩
    | flsK h r => exact ⟨_, _, rfl, .inr h, r⟩
  · obtain ⟨a, vs, e1, h, r⟩ := rdL_ok hr e r
    exact ⟨a, vs, e1, .inl (.inl h), r⟩
theorem Reps.append : ∀ {vs ws : List V} {xs ys : List D}, Reps g H m vs xs → Reps g H m ws ys → Reps g H m (vs ++ ws) (xs ++ ys)
  | _, _, _, _, .nil, q => q
  | _, _, _, _, .cons h r, q => .cons h (r.append q)
theorem Reps.get : ∀ {vs : List V} {xs : List D} {i : Nat} {x : D}, Reps g H m vs xs → xs[i]? = some x → ∃ v, vs[i]? = some v ∧ Rep g H m v x
  | _, _, _, _, .nil, e => by simp at e
  | _, _, 0, _, .cons h _, e => by simp at e; subst e; exact ⟨_, rfl, h⟩
  | _, _, i + 1, x, .cons _ r, e => by
    obtain ⟨v, h1, h2⟩ := r.get (i := i) (x := x) (by simpa using e)
    exact ⟨v, by simpa using h1, h2⟩
theorem Reps.take : ∀ {vs : List V} {xs : List D} (n : Nat), Reps g H m vs xs → Reps g H m (vs.take n) (xs.take n)
  | _, _, 0, _ => .nil
  | _, _, _ + 1, .nil => .nil
  | _, _, n + 1, .cons h r => .cons h (r.take n)
theorem Reps.drop : ∀ {vs : List V} {xs : List D} (n : Nat), Reps g H m vs xs → Reps g H m (vs.drop n) (xs.drop n)
  | _, _, 0, r => r
  | _, _, _ + 1, .nil => .nil
  | _, _, n + 1, .cons _ r => r.drop n
theorem Reps.set {v : V} {d : D} (q : Rep g H m v d) : ∀ {vs : List V} {xs : List D} (i : Nat), Reps g H m vs xs → Reps g H m (vs.set i v) (xs.set i d)
  | _, _, _, .nil => .nil
  | _, _, 0, .cons _ r => .cons q r
  | _, _, i + 1, .cons h r => .cons h (r.set q i)
/-- scalars -/
theorem Reps.ints : ∀ {vs : List V} {ns : List Int}, Reps g H m vs (ns.map D.int) → vs = ns.map V.int
  | _, [], .nil => rfl
  | _, _ :: _, .cons h r => by cases h; rw [Reps.ints r]; rfl
theorem Reps.strs : ∀ {vs : List V} {ns : List Str}, Reps g H m vs (ns.map D.str) → vs = ns.map V.str
  | _, [], .nil => rfl
  | _, _ :: _, .cons h r => by cases h; rw [Reps.strs r]; rfl
theorem Reps.bls : ∀ {vs : List V} {ns : List Bool}, Reps g H m vs (ns.map D.bl) → vs = ns.map V.bl
  | _, [], .nil => rfl
  | _, _ :: _, .cons h r => by cases h; rw [Reps.bls r]; rfl
theorem Reps.ofStrs : ∀ (ns : List Str), Reps g H m (ns.map V.str) (ns.map D.str)
  | [] => .nil
  | _ :: r => .cons .str (Reps.ofStrs r)
theorem Reps.ofInts : ∀ (ns : List Int), Reps g H m (ns.map V.int) (ns.map D.int)
  | [] => .nil
  | _ :: r => .cons .int (Reps.ofInts r)
end
/-- a list of ints, of texts, of truths -/
def ints? : List D → Option (List Int)
  | [] => some []
  | .int i :: r => (ints? r).map (i :: ·)
  | _ => none
def strs? : List D → Option (List Str)
  | [] => some []
  | .str i :: r => (strs? r).map (i :: ·)
  | _ => none
def bls? : List D → Option (List Bool)
  | [] => some []
  | .bl i :: r => (bls? r).map (i :: ·)
  | _ => none
theorem ints_of : ∀ {xs : List D} {ns : List Int}, ints? xs = some ns → xs = ns.map D.int
  | [], _, h => by cases h; rfl
  | x :: r, ns, h => by
    cases x <;> first | (simp [ints?] at h; done) | skip
    simp only [ints?, Option.map_eq_some_iff] at h
    obtain ⟨a, h1, h2⟩ := h
    subst h2; rw [ints_of h1]; rfl
theorem strs_of : ∀ {xs : List D} {ns : List Str}, strs? xs = some ns → xs = ns.map D.str
  | [], _, h => by cases h; rfl
  | x :: r, ns, h => by
    cases x <;> first | (simp [strs?] at h; done) | skip
    simp only [strs?, Option.map_eq_some_iff] at h
    obtain ⟨a, h1, h2⟩ := h
    subst h2; rw [strs_of h1]; rfl
theorem bls_of : ∀ {xs : List D} {ns : List Bool}, bls? xs = some ns → xs = ns.map D.bl
  | [], _, h => by cases h; rfl
  | x :: r, ns, h => by
    cases x <;> first | (simp [bls?] at h; done) | skip
    simp only [bls?, Option.map_eq_some_iff] at h
    obtain ⟨a, h1, h2⟩ := h
    subst h2; rw [bls_of h1]; rfl

@[simp] theorem ints_map (ns : List Int) : ints? (ns.map D.int) = some ns := by
  induction ns with
  | nil => rfl
  | cons a r ih => simp [ints?, ih]
@[simp] theorem strs_map (ns : List Str) : strs? (ns.map D.str) = some ns := by
  induction ns with
  | nil => rfl
  | cons a r ih => simp [strs?, ih]
@[simp] theorem bls_map (ns : List Bool) : bls? (ns.map D.bl) = some ns := by
  induction ns with
  | nil => rfl
  | cons a r ih => simp [bls?, ih]

section
variable {g : Gd} {W : WX} {σ : St} {H : Hp} {m : List Addr} {s : S} {Q : VK}
/-- a new frozen list, tuple -/
theorem kE.newL {xs : List D} {vs : List V} {p : Addr} (hk : kE g W σ m H Q (.ok (.lst xs) s)) (hr : HRep g H m s) (hp : H p = none) (r : Reps g H m vs xs) : Q (.ref p) (upd H p (.lst vs)) := by
  obtain ⟨f1, f2⟩ := hr.fresh hp
  exact hk _ m _ (Step.new hp) (hr.new hp) (.lst upd_same f1 f2 (r.step (Step.new hp)))
theorem kE.newT {xs : List D} {vs : List V} {p : Addr} (hk : kE g W σ m H Q (.ok (.tup xs) s)) (hr : HRep g H m s) (hp : H p = none) (r : Reps g H m vs xs) : Q (.ref p) (upd H p (.tup vs)) := by
  obtain ⟨f1, f2⟩ := hr.fresh hp
  exact hk _ m _ (Step.new hp) (hr.new hp) (.tup (.inl upd_same) f1 f2 (r.step (Step.new hp)))
end


/-! ### operators -/
mutual
/-- plain data, as == sees it -/
def toP : D → Option PyData
  | .non => some .none
  | .bl b => some (.bool b)
  | .int i => some (.int i)
  | .str x => some (.str x)
  | .tup xs => (toPs xs).map .tuple
  | .lst xs => (toPs xs).map .list
  | .fls xs => (toPs xs).map .list
  | _ => none
def toPs : List D → Option (List PyData)
  | [] => some []
  | x :: r => match toP x, toPs r with
    | some y, some z => some (y :: z)
    | _, _ => none
end
/-- an owned list, as its items -/
def vw (s : S) : D → D
  | .ref n => match s[n]? with
    | some (.lst xs) => .lst xs
    | _ => .ref n
  | d => d
section
variable {g : Gd} {H H' : Hp} {m m' : List Addr} {s s' : S}
theorem Rep.fl {a : Addr} {vs : List V} {xs : List D} (r : Rep g H m (.ref a) (.fls xs)) : ∃ vs, SqL g.K H a vs ∧ Reps g H m vs xs := by
  cases r with
  | fls h n b r => exact ⟨_, .inl (.inr ⟨_, h⟩), r⟩
  | flsK h r => exact ⟨_, .inr h, r⟩
mutual
theorem toP_ok : ∀ {d : D} {v : V} {p : PyData}, toP d = some p → Rep g H m v d → Dp g.K H v p
  | .non, _, _, e, .non => by cases e; exact .non
  | .bl b, _, _, e, .bl => by cases e; exact .bl b
  | .int i, _, _, e, .int => by cases e; exact .int i
  | .str x, _, _, e, .str => by cases e; exact .str x
  | .tup xs, v, p, e, r => by
    obtain ⟨a, vs, rfl, hq, rs⟩ := r.tupI
    simp only [toP, Option.map_eq_some_iff] at e
    obtain ⟨ps, e1, rfl⟩ := e
    exact .tup hq (toPs_ok e1 rs)
  | .lst xs, v, p, e, r => by
    obtain ⟨a, vs, rfl, hq, rs⟩ := r.lstI
    simp only [toP, Option.map_eq_some_iff] at e
    obtain ⟨ps, e1, rfl⟩ := e
    exact .lst (.inl (.inl hq)) (toPs_ok e1 rs)
  | .fls xs, v, p, e, r => by
    simp only [toP, Option.map_eq_some_iff] at e
    obtain ⟨ps, e1, rfl⟩ := e
    cases r with
    | fls h n b rs => exact .lst (.inl (.inr ⟨_, h⟩)) (toPs_ok e1 rs)
    | flsK h rs => exact .lst (.inr h) (toPs_ok e1 rs)
  | .dic _, _, _, e, _ => by simp [toP] at e
  | .obj _ _, _, _, e, _ => by simp [toP] at e
  | .glb _, _, _, e, _ => by simp [toP] at e
  | .ref _, _, _, e, _ => by simp [toP] at e
  | .ty _, _, _, e, _ => by simp [toP] at e
theorem toPs_ok : ∀ {ds : List D} {vs : List V} {ps : List PyData}, toPs ds = some ps → Reps g H m vs ds → DpAll g.K H vs ps
  | [], _, _, e, .nil => by cases e; exact .nil
  | x :: r, _, ps, e, .cons h q => by
    simp only [toPs] at e
    split at e
    · rename_i y z e1 e2
      cases e
      exact .cons (toP_ok e1 h) (toPs_ok e2 q)
    · cases e
end
theorem vw_ok (hr : HRep g H m s) {d : D} {v : V} {p : PyData} (e : toP (vw s d) = some p) (r : Rep g H m v d) : Dp g.K H v p := by
  cases d with
  | ref n =>
    unfold vw at e
    dsimp only at e
    split at e
    · rename_i xs q
      obtain ⟨a, vs, rfl, h, rs⟩ := rdL_ok (xs := xs) hr (by unfold rdL; dsimp only; rw [q]) r
      simp only [toP, Option.map_eq_some_iff] at e
      obtain ⟨ps, e1, rfl⟩ := e
      exact .lst (.inl (.inl h)) (toPs_ok e1 rs)
    · cases e
  | _ => exact toP_ok e r
end
/-- ==, != -/
def eqO (neg : Bool) (x y : D) (s : S) : R D := match toP (vw s x), toP (vw s y) with
  | some p, some q => if SeqAt.shaped p && SeqAt.shaped q then .ok (.bl (if neg then !PyData.eqv p q else PyData.eqv p q)) s else .bad
  | _, _ => .bad

/-! ### + - * // % -/
def addO (x y : D) (s : S) : R D := match x, y with
  | .int i, .int j => .ok (.int (i + j)) s
  | .str a, .str b => if a.length + b.length ≤ sizeLine then .ok (.str (a ++ b)) s else .bad
  | .tup xs, .tup ys => if xs.length + ys.length ≤ sizeLine then .ok (.tup (xs ++ ys)) s else .bad
  | x, y => match rdL s x, rdL s y with
    | some xs, some ys => if xs.length + ys.length ≤ sizeLine then .ok (.lst (xs ++ ys)) s else .bad
    | _, _ => .bad
def subO (x y : D) (s : S) : R D := match x, y with
  | .int i, .int j => .ok (.int (i - j)) s
  | _, _ => .bad
def bitsOk (i j : Int) : Bool := decide (Builtin.Int.intBits i + Builtin.Int.intBits j ≤ 134217728)
def mulO (x y : D) (s : S) : R D := match x, y with
  | .int i, .int j => if bitsOk i j then .ok (.int (i * j)) s else .bad
  | .str a, .int k => if k < 2 ^ 20 ∧ -(2 ^ 20) ≤ k ∧ a.length * k.toNat ≤ 2 ^ 20 then .ok (.str (Txt.mul a k)) s else .bad
  | x, .int k => match rdL s x with
    | some xs => if -(2 ^ 63) ≤ k ∧ k < 2 ^ 63 ∧ xs.length * k.toNat ≤ sizeLine then .ok (.lst (List.replicate k.toNat xs).flatten) s else .bad
    | none => .bad
  | _, _ => .bad
def fdivO (x y : D) (s : S) : R D := match x, y with
  | .int i, .int j => if 0 < j ∧ j < 1073741824 then .ok (.int (i / j)) s else .bad
  | _, _ => .bad
def modO (x y : D) (s : S) : R D := match x, y with
  | .int i, .int j => if 0 < j then .ok (.int (i % j)) s else .bad
  | _, _ => .bad
def powO (x y : D) (s : S) : R D := match x, y with
  | .int i, .int j => if 0 ≤ j ∧ j ≤ 1000000 ∧ i.natAbs < 2 ^ 64 then .ok (.int (i ^ j.toNat)) s else .bad
  | _, _ => .bad
def shrO (x y : D) (s : S) : R D := match x, y with
  | .int i, .int j => if 0 ≤ j then .ok (.int (i / 2 ^ j.toNat)) s else .bad
  | _, _ => .bad
def bandO (x y : D) (s : S) : R D := match x, y with
  | .int i, .int j => .ok (.int (Builtin.bitAnd i j)) s
  | _, _ => .bad
def negO (x : D) (s : S) : R D := match x with
  | .int i => .ok (.int (-i)) s
  | _ => .bad
/-- comparisons -/
def lexL (xs ys : List Int) : Bool := HT.lexLt xs ys
def ltO (x y : D) (s : S) : R D := match x, y with
  | .int i, .int j => .ok (.bl (decide (i < j))) s
  | .str a, .str b => .ok (.bl (decide (a.cps.toList < b.cps.toList))) s
  | .tup xs, .tup ys => match ints? xs, ints? ys with
    | some ns, some ms => .ok (.bl (HT.lexLt ns ms)) s
    | _, _ => .bad
  | _, _ => .bad
def leO (x y : D) (s : S) : R D := match x, y with
  | .int i, .int j => .ok (.bl (decide (i ≤ j))) s
  | _, _ => .bad
def gtO (x y : D) (s : S) : R D := match x, y with
  | .int i, .int j => .ok (.bl (decide (j < i))) s
  | _, _ => .bad
def geO (x y : D) (s : S) : R D := match x, y with
  | .int i, .int j => .ok (.bl (decide (j ≤ i))) s
  | _, _ => .bad
def isNone : D → Bool
  | .non => true
  | _ => false
def isO (neg : Bool) (x y : D) (s : S) : R D := match y with
  | .non => .ok (.bl (if neg then !isNone x else isNone x)) s
  | _ => .bad
/-- flat things -/
def flD : D → Bool
  | .non | .bl _ | .int _ | .str _ => true
  | _ => false
def eqF : D → D → Bool
  | .non, .non => true
  | .bl a, .bl b => a == b
  | .bl a, .int b => (if a then 1 else 0) == b
  | .int a, .bl b => a == (if b then 1 else 0)
  | .int a, .int b => a == b
  | .str a, .str b => a == b
  | _, _ => false
def key? : D → Option Key
  | .int i => some (.inl i)
  | .str x => some (.inr x)
  | _ => none
def valD (kvs : List (Key × D)) (k : Key) : Option D := (kvs.find? fun kv => decide (kv.1 = k)).map (·.2)
def putD (kvs : List (Key × D)) (k : Key) (v : D) : List (Key × D) :=
  if (kvs.any fun kv => decide (kv.1 = k)) = true then kvs.map (fun kv => if kv.1 = k then (kv.1, v) else kv) else kvs ++ [(k, v)]
def dropD (kvs : List (Key × D)) (k : Key) : List (Key × D) := kvs.filter fun kv => decide (kv.1 ≠ k)
def inO (neg : Bool) (x y : D) (s : S) : R D := match x, y with
  | .str a, .str b => .ok (.bl (if neg then !!(Builtin.Str.occurrences b a 0 b.length 1).isEmpty else !(Builtin.Str.occurrences b a 0 b.length 1).isEmpty)) s
  | x, .tup ys => if flD x && ys.all flD then .ok (.bl (if neg then !(ys.any fun y => eqF y x) else ys.any fun y => eqF y x)) s else .bad
  | x, y => match rdLs s y with
    | some ys => if flD x && ys.all flD then .ok (.bl (if neg then !(ys.any fun y => eqF y x) else ys.any fun y => eqF y x)) s else .bad
    | none => match rdK s y, key? x with
      | some kvs, some k => .ok (.bl (if neg then !(valD kvs k).isSome else (valD kvs k).isSome)) s
      | _, _ => .bad
end L2.GS

namespace L2.GS
open PySem PySem.Spec PyProof.Rows

section
variable {g : Gd} {X : Cx}
/-- by cases of the rule -/
theorem OpG.inl {r r' : R2} {o : D → D → S → R D} {c : D → D → S → Prop} (h : ∀ (W : WX) (σ : St) (H : Hp) (m : List Addr) (s : S) (x y : D) (v w : V) (Q : VK), c x y s → HRep g H m s → Rep g H m v x → Rep g H m w y → kE g W σ m H Q (o x y s) → r v w H Q) : True := trivial

abbrev rAddO (K : PySem.W.Frag) : R2 := fun x y H Q => (rI0 fun i j => .int (i + j)) x y H Q ∨ (∃ i j, x = .str i ∧ y = .str j ∧ i.length + j.length ≤ sizeLine ∧ Q (.str (i ++ j)) H) ∨ rCatA K x y H Q ∨ rCat x y H Q
theorem op_addO : OpR X (binaryOp .Add) (rAddO X.K) := OpR.or op_add (OpR.or op_add_str (OpR.or op_catA op_cat))
theorem g_catL {W : WX} {σ : St} {H : Hp} {m : List Addr} {s : S} {x y : D} {v w : V} {Q : VK} {xs ys : List D} (hr : HRep g H m s) (ex : rdL s x = some xs) (ey : rdL s y = some ys) (rx : Rep g H m v x) (ry : Rep g H m w y)
    (hl : xs.length + ys.length ≤ sizeLine) (hk : kE g W σ m H Q (.ok (.lst (xs ++ ys)) s)) : rCat v w H Q := by
  obtain ⟨a, vs, rfl, h1, r1⟩ := rdL_ok hr ex rx
  obtain ⟨b, ws, rfl, h2, r2⟩ := rdL_ok hr ey ry
  exact ⟨a, b, vs, ws, rfl, rfl, h1, h2, by rw [r1.length, r2.length]; exact hl, fun p hp => kE.newL hk hr hp (r1.append r2)⟩
theorem g_add : OpG g (rAddO g.K) addO := by
  intro W σ H m s x y v w Q hr rx ry hk
  unfold addO at hk
  split at hk
  · cases rx; cases ry
    exact .inl ⟨_, _, rfl, rfl, kR.go hk hr .int⟩
  · cases rx; cases ry
    split at hk
    · rename_i hl
      exact .inr (.inl ⟨_, _, rfl, rfl, hl, kR.go hk hr .str⟩)
    · exact hk.elim
  · rename_i xs ys
    split at hk
    · rename_i hl
      obtain ⟨a, vs, rfl, h1, r1⟩ := rx.tupI
      obtain ⟨b, ws, rfl, h2, r2⟩ := ry.tupI
      refine .inr (.inr (.inl ⟨a, b, vs, ws, rfl, rfl, h1, h2, by rw [r1.length, r2.length]; exact hl, fun e => ?_, fun _ e => ?_, fun _ _ p hp => kE.newT hk hr hp (r1.append r2)⟩))
      · subst e
        cases r1
        exact kR.go hk hr ry
      · subst e
        cases r2
        rw [List.append_nil] at hk
        exact kR.go hk hr rx
    · exact hk.elim
  · split at hk
    · rename_i xs ys e1 e2
      split at hk
      · rename_i hl
        exact .inr (.inr (.inr (g_catL hr e1 e2 rx ry hl hk)))
      · exact hk.elim
    · exact hk.elim
theorem g_sub : OpG g (rI0 fun i j => .int (i - j)) subO := by
  intro W σ H m s x y v w Q hr rx ry hk
  unfold subO at hk
  split at hk
  · cases rx; cases ry
    exact ⟨_, _, rfl, rfl, kR.go hk hr .int⟩
  · exact hk.elim
theorem op_mulB : OpR X (binaryOp .Mult) (rI (fun i j => bitsOk i j = true) fun i j => .int (i * j)) := opI fun _ _ _ _ _ _ _ hc q => mul_int q (IntMulOk.of_le (Nat.le_refl _) (Nat.le_refl _) (of_decide_eq_true hc))
def rMulS : R2 := fun x y H Q => ∃ a k, x = .str a ∧ y = .int k ∧ k < 2 ^ 20 ∧ -(2 ^ 20) ≤ k ∧ a.length * k.toNat ≤ 2 ^ 20 ∧ Q (.str (Txt.mul a k)) H
theorem op_mulS : OpR X (binaryOp .Mult) rMulS := by
  intro pins s σ H x y v u Q I rx ry h
  obtain ⟨a, k, rfl, rfl, h1, h0, h2, q⟩ := h
  obtain ⟨t, rfl⟩ := rx
  obtain ⟨t', rfl⟩ := ry
  have hs : sizeLine = 16777216 := sizeLine_eq
  refine PySem.SB.mul ⟨?_, fun h3 _ => ?_, fun _ _ => ?_⟩ fun t' k' => ⟨.str (Txt.mul a k), H, I.tok _, ⟨_, rfl⟩, q⟩
  · rw [Bool.or_eq_false_iff]
    exact ⟨decide_eq_false (by omega), decide_eq_false (by omega)⟩
  · rw [Int.not_lt] at h3
    have h4 : (a.length : Int) * k ≤ 2 ^ 20 := by
      obtain ⟨n, rfl⟩ := Int.eq_ofNat_of_zero_le (show 0 ≤ k by omega)
      have h5 : a.length * n ≤ 2 ^ 20 := by simpa using h2
      exact_mod_cast h5
    rw [gt_iff_lt, Int.not_lt]
    exact Int.le_ediv_of_mul_le (by omega) (by omega)
  · unfold Builtin.Str.tooLong
    exact decide_eq_false (by omega)
theorem g_mul : OpG g (fun x y H Q => rI (fun i j => bitsOk i j = true) (fun i j => .int (i * j)) x y H Q ∨ rMulS x y H Q ∨ rRep x y H Q) mulO := by
  intro W σ H m s x y v w Q hr rx ry hk
  unfold mulO at hk
  split at hk
  · cases rx; cases ry
    split at hk
    · rename_i h
      exact .inl ⟨_, _, rfl, rfl, h, kR.go hk hr .int⟩
    · exact hk.elim
  · cases rx; cases ry
    split at hk
    · rename_i h
      exact .inr (.inl ⟨_, _, rfl, rfl, h.1, h.2.1, h.2.2, kR.go hk hr .str⟩)
    · exact hk.elim
  · cases ry
    split at hk
    · rename_i xs e
      split at hk
      · rename_i h
        obtain ⟨a, vs, rfl, h1, r1⟩ := rdL_ok hr e rx
        refine .inr (.inr ⟨a, _, vs, rfl, rfl, h1, h.1, h.2.1, by rw [r1.length]; exact h.2.2, fun p hp => kE.newL hk hr hp ?_⟩)
        generalize (Int.toNat _) = n
        induction n with
        | zero => exact .nil
        | succ n ih => rw [List.replicate_succ, List.replicate_succ, List.flatten_cons, List.flatten_cons]; exact r1.append ih
      · exact hk.elim
    · exact hk.elim
  · exact hk.elim
theorem op_mulO : OpR X (binaryOp .Mult) (fun x y H Q => rI (fun i j => bitsOk i j = true) (fun i j => .int (i * j)) x y H Q ∨ rMulS x y H Q ∨ rRep x y H Q) := OpR.or op_mulB (OpR.or op_mulS op_rep)
theorem g_fdiv : OpG g (rI CDiv fun i j => .int (i / j)) fdivO := by
  intro W σ H m s x y v w Q hr rx ry hk
  unfold fdivO at hk
  split at hk
  · cases rx; cases ry
    split at hk
    · rename_i h
      exact ⟨_, _, rfl, rfl, h, kR.go hk hr .int⟩
    · exact hk.elim
  · exact hk.elim
theorem g_mod : OpG g (rI (fun _ j => 0 < j) fun i j => .int (i % j)) modO := by
  intro W σ H m s x y v w Q hr rx ry hk
  unfold modO at hk
  split at hk
  · cases rx; cases ry
    split at hk
    · rename_i h
      exact ⟨_, _, rfl, rfl, h, kR.go hk hr .int⟩
    · exact hk.elim
  · exact hk.elim
theorem g_pow : OpG g (rI CPow fun i j => .int (i ^ j.toNat)) powO := by
  intro W σ H m s x y v w Q hr rx ry hk
  unfold powO at hk
  split at hk
  · cases rx; cases ry
    split at hk
    · rename_i h
      exact ⟨_, _, rfl, rfl, h, kR.go hk hr .int⟩
    · exact hk.elim
  · exact hk.elim
theorem g_shr : OpG g (rI (fun _ j => 0 ≤ j) fun i j => .int (i / 2 ^ j.toNat)) shrO := by
  intro W σ H m s x y v w Q hr rx ry hk
  unfold shrO at hk
  split at hk
  · cases rx; cases ry
    split at hk
    · rename_i h
      exact ⟨_, _, rfl, rfl, h, kR.go hk hr .int⟩
    · exact hk.elim
  · exact hk.elim
theorem g_band : OpG g (rI0 fun i j => .int (Builtin.bitAnd i j)) bandO := by
  intro W σ H m s x y v w Q hr rx ry hk
  unfold bandO at hk
  split at hk
  · cases rx; cases ry
    exact ⟨_, _, rfl, rfl, kR.go hk hr .int⟩
  · exact hk.elim
theorem g_neg : UnG g (rU fun i => .int (-i)) negO := by
  intro W σ H m s x v Q hr rx hk
  unfold negO at hk
  split at hk
  · cases rx
    exact ⟨_, rfl, kR.go hk hr .int⟩
  · exact hk.elim
abbrev rLtO (K : PySem.W.Frag) : R2 := fun x y H Q => (rI0 fun i j => .bl (decide (i < j))) x y H Q ∨ (∃ i j, x = .str i ∧ y = .str j ∧ Q (.bl (decide (i.cps.toList < j.cps.toList))) H) ∨ rLtT K x y H Q
theorem op_ltO (hu : X.A.units < cLine) : OpR X (compareOp .Lt) (rLtO X.K) := OpR.or op_lt (OpR.or op_lt_str (op_ltT hu))
theorem g_lt : OpG g (rLtO g.K) ltO := by
  intro W σ H m s x y v w Q hr rx ry hk
  unfold ltO at hk
  split at hk
  · cases rx; cases ry
    exact .inl ⟨_, _, rfl, rfl, kR.go hk hr .bl⟩
  · cases rx; cases ry
    exact .inr (.inl ⟨_, _, rfl, rfl, kR.go hk hr .bl⟩)
  · split at hk
    · rename_i e1 e2
      obtain ⟨a, vs, rfl, h1, r1⟩ := rx.tupI
      obtain ⟨b, ws, rfl, h2, r2⟩ := ry.tupI
      have q1 := ints_of e1
      have q2 := ints_of e2
      subst q1 q2
      rw [r1.ints] at h1
      rw [r2.ints] at h2
      exact .inr (.inr ⟨a, b, _, _, rfl, rfl, h1, h2, kR.go hk hr .bl⟩)
    · exact hk.elim
  · exact hk.elim
theorem g_le : OpG g (rI0 fun i j => .bl (decide (i ≤ j))) leO := by
  intro W σ H m s x y v w Q hr rx ry hk
  unfold leO at hk
  split at hk
  · cases rx; cases ry
    exact ⟨_, _, rfl, rfl, kR.go hk hr .bl⟩
  · exact hk.elim
theorem g_gt : OpG g (rI0 fun i j => .bl (decide (j < i))) gtO := by
  intro W σ H m s x y v w Q hr rx ry hk
  unfold gtO at hk
  split at hk
  · cases rx; cases ry
    exact ⟨_, _, rfl, rfl, kR.go hk hr .bl⟩
  · exact hk.elim
theorem g_ge : OpG g (rI0 fun i j => .bl (decide (j ≤ i))) geO := by
  intro W σ H m s x y v w Q hr rx ry hk
  unfold geO at hk
  split at hk
  · cases rx; cases ry
    exact ⟨_, _, rfl, rfl, kR.go hk hr .bl⟩
  · exact hk.elim
theorem g_eq : OpG g (rEqD g.K) (eqO false) := by
  intro W σ H m s x y v w Q hr rx ry hk
  unfold eqO at hk
  split at hk
  · rename_i p q e1 e2
    split at hk
    · rename_i h
      rw [Bool.and_eq_true] at h
      exact ⟨p, q, vw_ok hr e1 rx, vw_ok hr e2 ry, h.1, h.2, kR.go hk hr .bl⟩
    · exact hk.elim
  · exact hk.elim
theorem g_ne : OpG g (rNeD g.K) (eqO true) := by
  intro W σ H m s x y v w Q hr rx ry hk
  unfold eqO at hk
  split at hk
  · rename_i p q e1 e2
    split at hk
    · rename_i h
      rw [Bool.and_eq_true] at h
      exact ⟨p, q, vw_ok hr e1 rx, vw_ok hr e2 ry, h.1, h.2, kR.go hk hr .bl⟩
    · exact hk.elim
  · exact hk.elim
theorem Rep.isNone {H : Hp} {m : List Addr} {v : V} {x : D} (r : Rep g H m v x) : decide (v = .non) = isNone x := by
  cases r <;> simp [GS.isNone]
theorem g_is : OpG g (fun x y H Q => y = .non ∧ Q (.bl (decide (x = .non))) H) (isO false) := by
  intro W σ H m s x y v w Q hr rx ry hk
  unfold isO at hk
  split at hk
  · cases ry
    refine ⟨rfl, ?_⟩
    rw [rx.isNone]
    exact kR.go hk hr .bl
  · exact hk.elim
theorem g_isnot : OpG g (fun x y H Q => y = .non ∧ Q (.bl (!decide (x = .non))) H) (isO true) := by
  intro W σ H m s x y v w Q hr rx ry hk
  unfold isO at hk
  split at hk
  · cases ry
    refine ⟨rfl, ?_⟩
    rw [rx.isNone]
    exact kR.go hk hr .bl
  · exact hk.elim
/-! in -/
theorem Rep.flat {H : Hp} {m : List Addr} {v : V} {x : D} (r : Rep g H m v x) (h : flD x = true) : flatV v = true := by
  cases r <;> first | rfl | (simp [flD] at h)
theorem eqF_V {H : Hp} {m : List Addr} {v w : V} {x y : D} (r : Rep g H m v x) (r2 : Rep g H m w y) (h : flD x = true) (h2 : flD y = true) : eqV v w = eqF x y := by
  cases r <;> first | (simp [flD] at h; done) | skip
  all_goals (cases r2 <;> first | (simp [flD] at h2; done) | rfl)
theorem any_eqF {H : Hp} {m : List Addr} {w : V} {y : D} (r2 : Rep g H m w y) (h2 : flD y = true) : ∀ {vs : List V} {xs : List D}, Reps g H m vs xs → xs.all flD = true → inV w vs = (xs.any fun x => eqF x y) ∧ vs.all flatV = true
  | _, _, .nil, _ => ⟨rfl, rfl⟩
  | _, _, .cons h r, ha => by
    rw [List.all_cons, Bool.and_eq_true] at ha
    obtain ⟨i1, i2⟩ := any_eqF r2 h2 r ha.2
    refine ⟨?_, ?_⟩
    · unfold inV at i1 ⊢
      rw [List.any_cons, List.any_cons, i1, eqF_V h r2 ha.1 h2]
    · rw [List.all_cons, h.flat ha.1, i2]; rfl
def rInDk : Bool → R2 := fun neg x y H Q => ∃ a o, y = .ref a ∧ DGet H a x o ∧ Q (.bl (if neg then !o.isSome else o.isSome)) H
theorem op_inDk (hu : X.A.units + 1 < cLine) : OpR X (compareOp .In) (rInDk false) := by
  intro pins s σ H x y v u Q I rx ry h
  obtain ⟨a, o, rfl, q1, q⟩ := h
  obtain rfl : u = Value.ref a := ry
  exact d_in hu I q1 rx fun s' I' => ⟨.bl o.isSome, H, I', rfl, q⟩
theorem op_notInDk (hu : X.A.units + 1 < cLine) : OpR X (compareOp .NotIn) (rInDk true) := by
  intro pins s σ H x y v u Q I rx ry h
  obtain ⟨a, o, rfl, q1, q⟩ := h
  obtain rfl : u = Value.ref a := ry
  exact d_notIn hu I q1 rx fun s' I' => ⟨.bl (!o.isSome), H, I', rfl, q⟩
abbrev rInO (K : PySem.W.Frag) (neg : Bool) : R2 := fun x y H Q => (∃ i j, x = .str i ∧ y = .str j ∧ Q (.bl (if neg then !!(Builtin.Str.occurrences j i 0 j.length 1).isEmpty else !(Builtin.Str.occurrences j i 0 j.length 1).isEmpty)) H) ∨ rIn K neg x y H Q ∨ rInDk neg x y H Q
theorem op_inO (hu : X.A.units + 1 < cLine) : OpR X (compareOp .In) (rInO X.K false) := OpR.or op_in_str (OpR.or op_in_seq (op_inDk hu))
theorem op_notInO (hu : X.A.units + 1 < cLine) : OpR X (compareOp .NotIn) (rInO X.K true) := OpR.or op_notin_str (OpR.or op_notIn_seq (op_notInDk hu))
/-! dicts -/
theorem rdK_ok {H : Hp} {m : List Addr} {s : S} (hr : HRep g H m s) {d : D} {v : V} {xs : List (Key × D)} (e : rdK s d = some xs) (r : Rep g H m v d) : ∃ a vs, v = .ref a ∧ H a = some (.dK vs) ∧ RepK g H m vs xs := by
  unfold rdK at e
  split at e
  · cases e
    cases r with
    | dic h n b r => exact ⟨_, _, rfl, h, r⟩
  · split at e
    · rename_i ys q
      cases e
      cases r with
      | ref h =>
        obtain ⟨o, h2, ro⟩ := hr.at h
        rw [q] at h2; cases h2
        obtain ⟨vs, e, r⟩ := ro
        exact ⟨_, vs, rfl, e, r⟩
    · cases e
  · cases e
theorem Rep.key {H : Hp} {m : List Addr} {v : V} {x : D} {k : Key} (r : Rep g H m v x) (h : key? x = some k) : v = kV k := by
  cases r <;> first | (simp [key?] at h; done) | skip
  all_goals (simp only [key?, Option.some.injEq] at h; subst h; rfl)
def RepO (g : Gd) (H : Hp) (m : List Addr) : Option V → Option D → Prop
  | none, none => True
  | some v, some d => Rep g H m v d
  | _, _ => False
theorem RepK.val {H : Hp} {m : List Addr} (k : Key) : ∀ {vs : List (Key × V)} {xs : List (Key × D)}, RepK g H m vs xs → RepO g H m (valV vs k) (valD xs k)
  | _, _, .nil => trivial
  | _, _, .cons (k := k') (vs := vs) (ds := ds) h r => by
    have ih := r.val k
    by_cases e : k' = k
    · rw [valV_pos e]
      have : ∀ d, valD ((k', d) :: ds) k = some d := fun d => by simp [valD, e]
      rw [this]; exact h
    · rw [valV_neg e]
      have : ∀ d, valD ((k', d) :: ds) k = valD ds k := fun d => by simp [valD, e]
      rw [this]; exact ih
theorem RepO.isSome {H : Hp} {m : List Addr} {v : Option V} {d : Option D} (r : RepO g H m v d) : v.isSome = d.isSome := by
  cases v <;> cases d <;> first | rfl | exact r.elim
theorem g_in (neg : Bool) : OpG g (rInO g.K neg) (inO neg) := by
  intro W σ H m s x y v w Q hr rx ry hk
  unfold inO at hk
  split at hk
  · cases rx; cases ry
    exact .inl ⟨_, _, rfl, rfl, kR.go hk hr .bl⟩
  · split at hk
    · rename_i h
      rw [Bool.and_eq_true] at h
      obtain ⟨a, vs, rfl, h1, r1⟩ := ry.tupI
      obtain ⟨i1, i2⟩ := any_eqF rx h.1 r1 h.2
      refine .inr (.inl ⟨a, vs, rfl, .inr h1, rx.flat h.1, i2, ?_⟩)
      rw [i1]
      exact kR.go hk hr .bl
    · exact hk.elim
  · split at hk
    · rename_i ys e
      split at hk
      · rename_i h
        rw [Bool.and_eq_true] at h
        obtain ⟨a, vs, rfl, h1, r1⟩ := rdLs_ok hr e ry
        obtain ⟨i1, i2⟩ := any_eqF rx h.1 r1 h.2
        refine .inr (.inl ⟨a, vs, rfl, .inl h1, rx.flat h.1, i2, ?_⟩)
        rw [i1]
        exact kR.go hk hr .bl
      · exact hk.elim
    · split at hk
      · rename_i kvs k e1 e2
        obtain ⟨a, vs, rfl, h1, r1⟩ := rdK_ok hr e1 ry
        have ek := rx.key e2
        subst ek
        refine .inr (.inr ⟨a, _, rfl, DGet.k h1, ?_⟩)
        rw [(r1.val k).isSome]
        exact kR.go hk hr .bl
      · exact hk.elim
end
end L2.GS

namespace L2.GS
open PySem PySem.Spec PyProof.Rows

/-! ### items and slices -/
def ixO (x y : D) (s : S) : R D := match x, y with
  | .tup xs, .int i => match atI xs i with
    | some d => .ok d s
    | none => .bad
  | .str z, .int i => if z.length ≤ sizeLine then (match atI z.cps.toList i with
    | some c => .ok (.str ⟨#[c]⟩) s
    | none => .bad) else .bad
  | x, y => match rdLs s x, y with
    | some xs, .int i => (match atI xs i with
      | some d => .ok d s
      | none => .bad)
    | _, _ => match rdK s x, key? y with
      | some kvs, some k => (match valD kvs k with
        | some d => .ok d s
        | none => .bad)
      | _, _ => .bad
def cutD (xs : List D) (lo hi : Option Int) : List D := (xs.drop (HT.sIx xs.length 0 lo)).take (HT.sIx xs.length xs.length hi - HT.sIx xs.length 0 lo)
def slO (x : D) (lo hi : Option Int) (s : S) : R D := match x with
  | .tup xs => .ok (.tup (cutD xs lo hi)) s
  | .str z => if z.length ≤ sizeLine then .ok (.str (cutS z lo hi)) s else .bad
  | x => match rdLs s x with
    | some xs => .ok (.lst (cutD xs lo hi)) s
    | none => .bad
abbrev Eo := En → S → R (Option Int)
def cPno : Eo := fun _ s => .ok none s
def cPart (a : Ev) : Eo := fun env s => (a env s).bind fun x s => match x with
  | .int i => .ok (some i) s
  | _ => .bad
def cSl (a : Ev) (l h : Eo) : Ev := fun env s => (a env s).bind fun x s => (l env s).bind fun lo s => (h env s).bind fun hi s => slO x lo hi s
def tPO (g : Gd) (W : WX) (f : Eo) : TO := fun σ H Q => ∃ B env s m, ERep (g.wB B) H m σ env ∧ HRep (g.wB B) H m s ∧ kR (fun _ _ _ (v a : Option Int) => v = a) (g.wB B) W σ m H Q (f env s)

section
variable {g : Gd} {X : Cx} {W : WX} {fa fb : Ev}
theorem atI_rep {H : Hp} {m : List Addr} {vs : List V} {xs : List D} {i : Int} {d : D} (r : Reps g H m vs xs) (e : atI xs i = some d) : ∃ v, atI vs i = some v ∧ Rep g H m v d := by
  unfold atI at e ⊢
  rw [r.length]
  cases h : ixN xs.length i with
  | none => rw [h] at e; cases e
  | some j =>
    rw [h] at e
    exact r.get e
def rIxD : R2 := fun x y H Q => ∃ a v, x = .ref a ∧ DGet H a y (some v) ∧ Q v H
theorem ix_dict (hu : X.A.units + 1 < cLine) : IxR X rIxD := by
  intro value slice pins s σ H x y v u Q I rx ry h hs
  obtain ⟨a, w, rfl, hg, q⟩ := h
  obtain rfl : v = Value.ref a := rx
  exact tail_any (dict_typeIs I hg) PySem.F.slot_dict_getitem.lookup (d_getItem hu I hg ry fun w' s' I' r' => ⟨w, H, I', r', q⟩) hs
abbrev rIxO (K : PySem.W.Frag) : R2 := fun x y H Q => rIx K x y H Q ∨ rIxD x y H Q
theorem ix_O (hu : X.A.units + 1 < cLine) : IxR X (rIxO X.K) := IxR.or ix_seq (ix_dict hu)
theorem g_ix : OpG g (rIxO g.K) ixO := by
  intro W σ H m s x y v w Q hr rx ry hk
  unfold ixO at hk
  split at hk
  · cases ry
    split at hk
    · rename_i d e
      obtain ⟨a, vs, rfl, h1, r1⟩ := rx.tupI
      obtain ⟨u, e2, r2⟩ := atI_rep r1 e
      exact .inl (.inr (.inl ⟨a, vs, _, u, rfl, rfl, h1, e2, kR.go hk hr r2⟩))
    · exact hk.elim
  · cases rx; cases ry
    split at hk
    · rename_i hz
      split at hk
      · rename_i c e
        exact .inl (.inr (.inr ⟨_, _, c, rfl, rfl, hz, e, kR.go hk hr .str⟩))
      · exact hk.elim
    · exact hk.elim
  · split at hk
    · rename_i xs i e1 _ _
      cases ry
      split at hk
      · rename_i d e
        obtain ⟨a, vs, rfl, h1, r1⟩ := rdLs_ok hr e1 rx
        obtain ⟨u, e2, r2⟩ := atI_rep r1 e
        exact .inl (.inl ⟨a, vs, _, u, rfl, rfl, h1, e2, kR.go hk hr r2⟩)
      · exact hk.elim
    · split at hk
      · rename_i kvs k e1 e2
        split at hk
        · rename_i d e
          obtain ⟨a, vs, rfl, h1, r1⟩ := rdK_ok hr e1 rx
          have ek := ry.key e2
          subst ek
          have q := r1.val k
          rw [e] at q
          cases hv : valV vs k with
          | none => rw [hv] at q; exact q.elim
          | some u =>
            rw [hv] at q
            exact .inr ⟨a, u, rfl, by rw [← hv]; exact DGet.k h1, kR.go hk hr q⟩
        · exact hk.elim
      · exact hk.elim
theorem t_pno (σ : St) (H : Hp) (Q : Option Int → Hp → Prop) (h : tPO g W cPno σ H Q) : tNoPart σ H Q := by
  obtain ⟨B, env, s, m, he, hr, hk⟩ := h
  exact kR.go hk hr rfl
theorem t_part (σ : St) (H : Hp) (Q : Option Int → Hp → Prop) (h : tPO g W (cPart fa) σ H Q) : tPart (tE g W fa) σ H Q := by
  obtain ⟨B, env, s, m, he, hr, hk⟩ := h
  refine ⟨B, env, s, m, he, hr, kR.bind hk fun x s1 v m1 H1 _ st1 hr1 r1 hk1 => ?_⟩
  (try dsimp only at hk1)
  split at hk1
  · cases r1
    exact ⟨_, rfl, kR.go hk1 hr1 rfl⟩
  · exact hk1.elim
theorem Reps.cut {H : Hp} {m : List Addr} {vs : List V} {xs : List D} (r : Reps g H m vs xs) (lo hi : Option Int) : Reps g H m (cutV vs lo hi) (cutD xs lo hi) := by
  unfold cutV cutD
  rw [r.length]
  exact (r.drop _).take _
theorem cutD_whole {xs : List D} {lo hi : Option Int} (h0 : HT.sIx xs.length 0 lo = 0) (h1 : HT.sIx xs.length xs.length hi = xs.length) : cutD xs lo hi = xs := by
  unfold cutD
  rw [h0, h1]
  simp
theorem subPO {e : Option Expr} {t t' : TO} (h : PO X e t) (hi : ∀ σ H Q, t' σ H Q → t σ H Q) : PO X e t' := ⟨fun pins s σ H Q I q => h.run pins s σ H Q I (hi σ H Q q)⟩
abbrev rSlO (K : PySem.W.Frag) : V → Option Int → Option Int → Hp → VK → Prop := fun x lo hi H Q => rSlA K x lo hi H Q ∨ rSlS x lo hi H Q ∨ rSlL K x lo hi H Q
theorem sl_O : SlR X (rSlO X.K) := SlR.or sl_tupA (SlR.or sl_str sl_list)
theorem t_sl {fl fh : Eo} (σ : St) (H : Hp) (Q : VK) (h : tE g W (cSl fa fl fh) σ H Q) : tSl (rSlO g.K) (tE g W fa) (tPO g W fl) (tPO g W fh) σ H Q := by
  obtain ⟨B, env, s, m, he, hr, hk⟩ := h
  refine ⟨B, env, s, m, he, hr, kR.bind hk fun x s1 v m1 H1 _ st1 hr1 r1 hk1 => ⟨B, env, s1, m1, he.step st1, hr1, kR.bind hk1 fun lo s2 lo' m2 H2 _ st2 hr2 r2 hk2 =>
    ⟨B, env, s2, m2, (he.step st1).step st2, hr2, kR.bind hk2 fun hi s3 hi' m3 H3 _ st3 hr3 r3 hk3 => ?_⟩⟩⟩
  subst r2 r3
  have rx := (r1.step st2).step st3
  unfold slO at hk3
  split at hk3
  · obtain ⟨a, vs, rfl, h1, rs⟩ := rx.tupI
    refine .inl ⟨a, vs, rfl, h1, fun hw => ?_, fun _ p hp => kE.newT hk3 hr3 hp (rs.cut lo' hi')⟩
    rw [cutD_whole (by rw [← rs.length]; exact hw.1) (by rw [← rs.length]; exact hw.2)] at hk3
    exact kR.go hk3 hr3 rx
  · cases rx
    split at hk3
    · rename_i hz
      exact .inr (.inl ⟨_, rfl, hz, kR.go hk3 hr3 .str⟩)
    · exact hk3.elim
  · split at hk3
    · rename_i xs e1
      obtain ⟨a, vs, rfl, h1, rs⟩ := rdLs_ok hr3 e1 rx
      exact .inr (.inr ⟨a, vs, rfl, h1, fun p hp => kE.newL hk3 hr3 hp (rs.cut lo' hi')⟩)
    · exact hk3.elim
end
end L2.GS

namespace L2.GS
open PySem PySem.Spec PyProof.Rows

/-! ### an insertion sort: what sorted gives -/
def insB {α : Type} (le : α → α → Bool) (x : α) : List α → List α
  | [] => [x]
  | y :: r => if le x y then x :: y :: r else y :: insB le x r
def sortB {α : Type} (le : α → α → Bool) : List α → List α
  | [] => []
  | x :: r => insB le x (sortB le r)
section
variable {α : Type} {le : α → α → Bool}
theorem insB_perm (x : α) : ∀ l, (insB le x l).Perm (x :: l)
  | [] => .refl _
  | y :: r => by
    unfold insB
    split
    · exact .refl _
    · exact ((insB_perm x r).cons y).trans (.swap x y r)
theorem sortB_perm : ∀ l : List α, (sortB le l).Perm l
  | [] => .refl _
  | x :: r => (insB_perm x _).trans ((sortB_perm r).cons x)
theorem insB_sorted (tot : ∀ a b, le a b = false → le b a = true) (tr : ∀ a b c, le a b = true → le b c = true → le a c = true) (x : α) :
    ∀ l, l.Pairwise (fun a b => le a b = true) → (insB le x l).Pairwise (fun a b => le a b = true)
  | [], _ => by simp [insB]
  | y :: r, h => by
    unfold insB
    rw [List.pairwise_cons] at h
    split
    · rename_i hxy
      rw [List.pairwise_cons, List.pairwise_cons]
      refine ⟨fun a ha => ?_, h⟩
      rcases List.mem_cons.mp ha with rfl | ha
      · exact hxy
      · exact tr _ _ _ hxy (h.1 a ha)
    · rename_i hxy
      rw [List.pairwise_cons]
      refine ⟨fun a ha => ?_, insB_sorted tot tr x r h.2⟩
      rcases List.mem_cons.mp ((insB_perm x r).mem_iff.mp ha) with rfl | ha
      · exact tot _ _ (by simpa using hxy)
      · exact h.1 a ha
theorem sortB_sorted (tot : ∀ a b, le a b = false → le b a = true) (tr : ∀ a b c, le a b = true → le b c = true → le a c = true) : ∀ l : List α, (sortB le l).Pairwise (fun a b => le a b = true)
  | [] => .nil
  | x :: r => insB_sorted tot tr x _ (sortB_sorted tot tr r)
theorem sortB_unique (tot : ∀ a b, le a b = false → le b a = true) (tr : ∀ a b c, le a b = true → le b c = true → le a c = true) (anti : ∀ a b, le a b = true → le b a = true → a = b)
    {l l' : List α} (hp : l'.Perm l) (hs : l'.Pairwise (fun a b => le a b = true)) : l' = sortB le l :=
  (hp.trans (sortB_perm l).symm).eq_of_pairwise (fun x y _ _ h1 h2 => anti x y h1 h2) hs (sortB_sorted tot tr l)
end
def leI (a b : Int) : Bool := decide (a ≤ b)
def ltL (a b : List Nat) : Bool := decide (a < b)
def leS (a b : Str) : Bool := !decide (b.cps.toList < a.cps.toList)
theorem leI_sort {ns ns' : List Int} (hp : ns'.Perm ns) (hs : ns'.Pairwise (· ≤ ·)) : ns' = sortB leI ns :=
  sortB_unique (fun a b h => by simp [leI] at h ⊢; omega) (fun a b c h1 h2 => by simp [leI] at *; omega) (fun a b h1 h2 => by simp [leI] at *; omega) hp (hs.imp fun h => by simpa [leI] using h)
theorem str_ext {a b : Str} (h : a.cps.toList = b.cps.toList) : a = b := by
  obtain ⟨⟨x⟩⟩ := a
  obtain ⟨⟨y⟩⟩ := b
  simp at h
  subst h
  rfl
theorem leS_tot : ∀ a b, leS a b = false → leS b a = true := fun a b h => by
  simp only [leS, Bool.not_eq_false', decide_eq_true_eq, Bool.not_eq_true', decide_eq_false_iff_not] at h ⊢
  exact List.lt_asymm h
theorem leS_trans : ∀ a b c, leS a b = true → leS b c = true → leS a c = true := fun a b c h1 h2 => by
  simp only [leS, Bool.not_eq_true', decide_eq_false_iff_not, List.not_lt] at h1 h2 ⊢
  exact List.le_trans h1 h2
theorem leS_anti : ∀ a b, leS a b = true → leS b a = true → a = b := fun a b h1 h2 => by
  simp only [leS, Bool.not_eq_true', decide_eq_false_iff_not, List.not_lt] at h1 h2
  exact str_ext (List.le_antisymm h1 h2)

theorem rising_pair : ∀ (r : List Str) (p : Str), risingS p r = true → (∀ x ∈ r, leS p x = true) ∧ r.Pairwise (fun a b => leS a b = true)
  | [], _, _ => ⟨(fun _ h => by cases h), List.Pairwise.nil⟩
  | x :: r, p, h => by
    unfold risingS at h
    rw [Bool.and_eq_true, ltCps_eq] at h
    obtain ⟨i1, i2⟩ := rising_pair r x h.2
    have hpx : leS p x = true := h.1
    refine ⟨fun y hy => ?_, List.pairwise_cons.mpr ⟨i1, i2⟩⟩
    rcases List.mem_cons.mp hy with rfl | hy
    · exact hpx
    · exact leS_trans _ _ _ hpx (i1 y hy)
theorem leS_sort {ns ns' : List Str} (hp : ns'.Perm ns) (hs : sortedS ns' = true) : ns' = sortB leS ns := by
  refine sortB_unique leS_tot leS_trans leS_anti hp ?_
  cases ns' with
  | nil => exact .nil
  | cons x r =>
    obtain ⟨i1, i2⟩ := rising_pair r x hs
    exact List.pairwise_cons.mpr ⟨i1, i2⟩

/-! ### calls by values -/
def lenO (xs : List D) (s : S) : R D := match xs with
  | [.str z] => if z.length ≤ sizeLine then .ok (.int z.length) s else .bad
  | [.tup ys] => .ok (.int ys.length) s
  | [d] => match rdLs s d with
    | some ys => .ok (.int ys.length) s
    | none => .bad
  | _ => .bad
def intO (xs : List D) (s : S) : R D := match xs with
  | [.int i] => .ok (.int i) s
  | [.bl k] => .ok (.int (if k then 1 else 0)) s
  | [.str a] => if a.length ≤ 640 then (match PySem.intText? a with
    | some n => .ok (.int n) s
    | none => .bad) else .bad
  | _ => .bad
def strO (xs : List D) (s : S) : R D := match xs with
  | [.int i] => if i.natAbs.log2 < 1920 then .ok (.str (toString i)) s else .bad
  | _ => .bad
def tupO (xs : List D) (s : S) : R D := match xs with
  | [.tup ys] => .ok (.tup ys) s
  | [d] => match rdLs s d with
    | some ys => .ok (.tup ys) s
    | none => .bad
  | _ => .bad
def lisO (xs : List D) (s : S) : R D := match xs with
  | [.tup ys] => .ok (.lst ys) s
  | [d] => match rdLs s d with
    | some ys => .ok (.lst ys) s
    | none => .bad
  | _ => .bad
def sumO (xs : List D) (s : S) : R D := match xs with
  | [d] => match (rdLs s d).bind ints? with
    | some ns => .ok (.int ns.sum) s
    | none => .bad
  | _ => .bad
def anyO (xs : List D) (s : S) : R D := match xs with
  | [d] => match (rdLs s d).bind bls? with
    | some ns => .ok (.bl (ns.any id)) s
    | none => .bad
  | _ => .bad
def allO (xs : List D) (s : S) : R D := match xs with
  | [d] => match (rdLs s d).bind bls? with
    | some ns => .ok (.bl (ns.all id)) s
    | none => .bad
  | _ => .bad
def maxI : List Int → Option Int
  | [] => none
  | x :: r => some (r.foldl max x)
def minI : List Int → Option Int
  | [] => none
  | x :: r => some (r.foldl min x)
def maxO (xs : List D) (s : S) : R D := match xs with
  | [.int i, .int j] => .ok (.int (if j > i then j else i)) s
  | [d] => match (rdLs s d).bind ints? with
    | some ns => (match maxI ns with
      | some m => .ok (.int m) s
      | none => .bad)
    | none => .bad
  | _ => .bad
def minO (xs : List D) (s : S) : R D := match xs with
  | [.int i, .int j] => .ok (.int (if j < i then j else i)) s
  | [d] => match (rdLs s d).bind ints? with
    | some ns => (match minI ns with
      | some m => .ok (.int m) s
      | none => .bad)
    | none => .bad
  | _ => .bad
def absO (xs : List D) (s : S) : R D := match xs with
  | [.int i] => .ok (.int (if i < 0 then -i else i)) s
  | _ => .bad
def divmodO (xs : List D) (s : S) : R D := match xs with
  | [.int i, .int j] => if 0 < j ∧ j < 1073741824 then .ok (.tup [.int (i / j), .int (i % j)]) s else .bad
  | _ => .bad
def sortO (xs : List D) (s : S) : R D := match xs with
  | [d] => match rdLs s d with
    | some ys => match ints? ys, strs? ys with
      | some ns, _ => if ns.length < 64 then .ok (.lst ((sortB leI ns).map .int)) s else .bad
      | none, some ns => if ns.length < 64 then .ok (.lst ((sortB leS ns).map .str)) s else .bad
      | none, none => .bad
    | none => .bad
  | _ => .bad
def tyN (s : S) : D → Option String
  | .non => some "NoneType"
  | .bl _ => some "bool"
  | .int _ => some "int"
  | .str _ => some "str"
  | .tup _ => some "tuple"
  | .lst _ => some "list"
  | .fls _ => some "list"
  | .dic _ => some "dict"
  | .ref n => match s[n]? with
    | some (.lst _) => some "list"
    | some (.dic _) => some "dict"
    | _ => none
  | _ => none
def isiO (xs : List D) (s : S) : R D := match xs with
  | [d, .ty n] => match (tyN s d).bind fun t => kitB t n with
    | some b => .ok (.bl b) s
    | none => .bad
  | _ => .bad
section
variable {g : Gd} {X : Cx}
theorem Reps.one {H : Hp} {m : List Addr} {vs : List V} {d : D} (r : Reps g H m vs [d]) : ∃ v, vs = [v] ∧ Rep g H m v d := by
  cases r with
  | cons h r => cases r; exact ⟨_, rfl, h⟩
theorem Reps.two {H : Hp} {m : List Addr} {vs : List V} {d e : D} (r : Reps g H m vs [d, e]) : ∃ v w, vs = [v, w] ∧ Rep g H m v d ∧ Rep g H m w e := by
  cases r with
  | cons h r =>
    cases r with
    | cons h2 r => cases r; exact ⟨_, _, rfl, h, h2⟩
theorem CallR.or {f : Value} {r r' : List V → Hp → VK → Prop} (h : CallR X f r) (h' : CallR X f r') : CallR X f (fun xs H Q => r xs H Q ∨ r' xs H Q) := by
  intro pins s σ H xs us Q I rx q
  rcases q with q | q
  · exact h pins s σ H xs us Q I rx q
  · exact h' pins s σ H xs us Q I rx q
abbrev rLen (K : PySem.W.Frag) : List V → Hp → VK → Prop := fun xs H Q => ∃ x n, xs = [x] ∧ LenV K x H n ∧ Q (.int n) H
theorem g_len : CallG g (rLen g.K) lenO := by
  intro W σ H m s xs vs Q hr rx hk
  unfold lenO at hk
  split at hk
  · obtain ⟨v, rfl, r⟩ := rx.one
    cases r
    split at hk
    · rename_i hz
      exact ⟨_, _, rfl, ⟨hz, rfl⟩, kR.go hk hr .int⟩
    · exact hk.elim
  · obtain ⟨v, rfl, r⟩ := rx.one
    obtain ⟨a, vs, rfl, h1, rs⟩ := r.tupI
    exact ⟨_, vs.length, rfl, .inr ⟨vs, h1, rfl⟩, by rw [rs.length]; exact kR.go hk hr .int⟩
  · obtain ⟨v, rfl, r⟩ := rx.one
    split at hk
    · rename_i ys e
      obtain ⟨a, vs, rfl, h1, rs⟩ := rdLs_ok hr e r
      exact ⟨_, vs.length, rfl, .inl ⟨vs, h1, rfl⟩, by rw [rs.length]; exact kR.go hk hr .int⟩
    · exact hk.elim
  · exact hk.elim
abbrev rInt : List V → Hp → VK → Prop := fun xs H Q => ((∃ i, xs = [.int i] ∧ Q (.int i) H) ∨ ∃ k, xs = [.bl k] ∧ Q (.int (if k then 1 else 0)) H) ∨ ∃ a n, xs = [.str a] ∧ PySem.intText? a = some n ∧ a.length ≤ 640 ∧ Q (.int n) H
theorem call_intO : CallR X (.type "int") rInt := CallR.or call_int1 call_int_str
theorem g_int : CallG g rInt intO := by
  intro W σ H m s xs vs Q hr rx hk
  unfold intO at hk
  split at hk
  · obtain ⟨v, rfl, r⟩ := rx.one
    cases r
    exact .inl (.inl ⟨_, rfl, kR.go hk hr .int⟩)
  · obtain ⟨v, rfl, r⟩ := rx.one
    cases r
    exact .inl (.inr ⟨_, rfl, kR.go hk hr .int⟩)
  · obtain ⟨v, rfl, r⟩ := rx.one
    cases r
    split at hk
    · rename_i hz
      split at hk
      · rename_i n e
        exact .inr ⟨_, _, rfl, e, hz, kR.go hk hr .int⟩
      · exact hk.elim
    · exact hk.elim
  · exact hk.elim
abbrev rStr : List V → Hp → VK → Prop := fun xs H Q => ∃ i, xs = [.int i] ∧ i.natAbs.log2 < 1920 ∧ Q (.str (toString i)) H
theorem g_str : CallG g rStr strO := by
  intro W σ H m s xs vs Q hr rx hk
  unfold strO at hk
  split at hk
  · obtain ⟨v, rfl, r⟩ := rx.one
    cases r
    split at hk
    · rename_i hz
      exact ⟨_, rfl, hz, kR.go hk hr .str⟩
    · exact hk.elim
  · exact hk.elim
abbrev rTupC (K : PySem.W.Frag) : List V → Hp → VK → Prop := fun xs H Q => ∃ p ys, xs = [.ref p] ∧ ((SqL K H p ys ∧ ∀ l, H l = none → Q (.ref l) (upd H l (.tup ys))) ∨ (SqT K H p ys ∧ Q (.ref p) H))
theorem g_tupc : CallG g (rTupC g.K) tupO := by
  intro W σ H m s xs vs Q hr rx hk
  unfold tupO at hk
  split at hk
  · obtain ⟨v, rfl, r⟩ := rx.one
    obtain ⟨a, vs, rfl, h1, rs⟩ := r.tupI
    exact ⟨_, vs, rfl, .inr ⟨h1, kR.go hk hr r⟩⟩
  · obtain ⟨v, rfl, r⟩ := rx.one
    split at hk
    · rename_i ys e
      obtain ⟨a, vs, rfl, h1, rs⟩ := rdLs_ok hr e r
      exact ⟨_, vs, rfl, .inl ⟨h1, fun p hp => kE.newT hk hr hp rs⟩⟩
    · exact hk.elim
  · exact hk.elim
abbrev rLisC (K : PySem.W.Frag) : List V → Hp → VK → Prop := fun xs H Q => ∃ p ys, xs = [.ref p] ∧ (SqL K H p ys ∨ SqT K H p ys) ∧ ∀ l, H l = none → Q (.ref l) (upd H l (.lst ys))
theorem g_lisc : CallG g (rLisC g.K) lisO := by
  intro W σ H m s xs vs Q hr rx hk
  unfold lisO at hk
  split at hk
  · obtain ⟨v, rfl, r⟩ := rx.one
    obtain ⟨a, vs, rfl, h1, rs⟩ := r.tupI
    exact ⟨_, vs, rfl, .inr h1, fun p hp => kE.newL hk hr hp rs⟩
  · obtain ⟨v, rfl, r⟩ := rx.one
    split at hk
    · rename_i ys e
      obtain ⟨a, vs, rfl, h1, rs⟩ := rdLs_ok hr e r
      exact ⟨_, vs, rfl, .inl h1, fun p hp => kE.newL hk hr hp rs⟩
    · exact hk.elim
  · exact hk.elim
theorem rdL_ints {H : Hp} {m : List Addr} {s : S} {d : D} {v : V} {ns : List Int} (hr : HRep g H m s) (e : (rdLs s d).bind ints? = some ns) (r : Rep g H m v d) : ∃ a, v = .ref a ∧ SqL g.K H a (ns.map V.int) := by
  cases h : rdLs s d with
  | none => rw [h] at e; cases e
  | some ys =>
    rw [h] at e
    obtain ⟨a, vs, rfl, h1, rs⟩ := rdLs_ok hr h r
    have q := ints_of e
    subst q
    rw [rs.ints] at h1
    exact ⟨a, rfl, h1⟩
theorem rdL_bls {H : Hp} {m : List Addr} {s : S} {d : D} {v : V} {ns : List Bool} (hr : HRep g H m s) (e : (rdLs s d).bind bls? = some ns) (r : Rep g H m v d) : ∃ a, v = .ref a ∧ SqL g.K H a (ns.map V.bl) := by
  cases h : rdLs s d with
  | none => rw [h] at e; cases e
  | some ys =>
    rw [h] at e
    obtain ⟨a, vs, rfl, h1, rs⟩ := rdLs_ok hr h r
    have q := bls_of e
    subst q
    rw [rs.bls] at h1
    exact ⟨a, rfl, h1⟩
theorem g_sum : CallG g (rSum g.K) sumO := by
  intro W σ H m s xs vs Q hr rx hk
  unfold sumO at hk
  split at hk
  · obtain ⟨v, rfl, r⟩ := rx.one
    split at hk
    · rename_i ns e
      obtain ⟨a, rfl, h⟩ := rdL_ints hr e r
      exact ⟨a, ns, rfl, h, kR.go hk hr .int⟩
    · exact hk.elim
  · exact hk.elim
theorem g_any : CallG g (rAny g.K) anyO := by
  intro W σ H m s xs vs Q hr rx hk
  unfold anyO at hk
  split at hk
  · obtain ⟨v, rfl, r⟩ := rx.one
    split at hk
    · rename_i ns e
      obtain ⟨a, rfl, h⟩ := rdL_bls hr e r
      exact ⟨a, ns, rfl, h, kR.go hk hr .bl⟩
    · exact hk.elim
  · exact hk.elim
theorem g_all : CallG g (rAll g.K) allO := by
  intro W σ H m s xs vs Q hr rx hk
  unfold allO at hk
  split at hk
  · obtain ⟨v, rfl, r⟩ := rx.one
    split at hk
    · rename_i ns e
      obtain ⟨a, rfl, h⟩ := rdL_bls hr e r
      exact ⟨a, ns, rfl, h, kR.go hk hr .bl⟩
    · exact hk.elim
  · exact hk.elim
theorem foldl_max : ∀ (r : List Int) (x m : Int), (m ∈ x :: r) → (∀ y ∈ x :: r, y ≤ m) → r.foldl max x = m
  | [], x, m, h, _ => by simp at h; simp [h]
  | y :: r, x, m, h, ha => by
    rw [List.foldl_cons]
    refine foldl_max r (max x y) m ?_ fun z hz => ?_
    · have hx := ha x (by simp)
      have hy := ha y (by simp)
      rcases List.mem_cons.mp h with rfl | h
      · exact List.mem_cons.mpr (.inl (by omega))
      · rcases List.mem_cons.mp h with rfl | h
        · exact List.mem_cons.mpr (.inl (by omega))
        · exact List.mem_cons_of_mem _ h
    · rcases List.mem_cons.mp hz with rfl | hz
      · have hx := ha x (by simp)
        have hy := ha y (by simp)
        omega
      · exact ha z (by simp [hz])
theorem foldl_min : ∀ (r : List Int) (x m : Int), (m ∈ x :: r) → (∀ y ∈ x :: r, m ≤ y) → r.foldl min x = m
  | [], x, m, h, _ => by simp at h; simp [h]
  | y :: r, x, m, h, ha => by
    rw [List.foldl_cons]
    refine foldl_min r (min x y) m ?_ fun z hz => ?_
    · have hx := ha x (by simp)
      have hy := ha y (by simp)
      rcases List.mem_cons.mp h with rfl | h
      · exact List.mem_cons.mpr (.inl (by omega))
      · rcases List.mem_cons.mp h with rfl | h
        · exact List.mem_cons.mpr (.inl (by omega))
        · exact List.mem_cons_of_mem _ h
    · rcases List.mem_cons.mp hz with rfl | hz
      · have hx := ha x (by simp)
        have hy := ha y (by simp)
        omega
      · exact ha z (by simp [hz])
abbrev rMaxO (K : PySem.W.Frag) : List V → Hp → VK → Prop := fun xs H Q => (∃ i j, xs = [.int i, .int j] ∧ Q (.int (if j > i then j else i)) H) ∨ rMax K xs H Q
abbrev rMinO (K : PySem.W.Frag) : List V → Hp → VK → Prop := fun xs H Q => (∃ i j, xs = [.int i, .int j] ∧ Q (.int (if j < i then j else i)) H) ∨ rMin K xs H Q
theorem call_maxO (hc : X.calm = true) : CallR X (.builtin "max") (rMaxO X.K) := CallR.or (call_max2 hc) (cr_max hc)
theorem call_minO (hc : X.calm = true) : CallR X (.builtin "min") (rMinO X.K) := CallR.or (call_min2 hc) (cr_min hc)
theorem g_max : CallG g (rMaxO g.K) maxO := by
  intro W σ H m s xs vs Q hr rx hk
  unfold maxO at hk
  split at hk
  · obtain ⟨v, w, rfl, r1, r2⟩ := rx.two
    cases r1; cases r2
    exact .inl ⟨_, _, rfl, kR.go hk hr .int⟩
  · obtain ⟨v, rfl, r⟩ := rx.one
    split at hk
    · rename_i ns e
      obtain ⟨a, rfl, h⟩ := rdL_ints hr e r
      split at hk
      · rename_i mx e2
        cases ns with
        | nil => cases e2
        | cons n ns =>
          cases e2
          exact .inr ⟨a, _, rfl, h, by simp, fun k h1 h2 => by rw [← foldl_max ns n k h1 h2]; exact kR.go hk hr .int⟩
      · exact hk.elim
    · exact hk.elim
  · exact hk.elim
theorem g_min : CallG g (rMinO g.K) minO := by
  intro W σ H m s xs vs Q hr rx hk
  unfold minO at hk
  split at hk
  · obtain ⟨v, w, rfl, r1, r2⟩ := rx.two
    cases r1; cases r2
    exact .inl ⟨_, _, rfl, kR.go hk hr .int⟩
  · obtain ⟨v, rfl, r⟩ := rx.one
    split at hk
    · rename_i ns e
      obtain ⟨a, rfl, h⟩ := rdL_ints hr e r
      split at hk
      · rename_i mx e2
        cases ns with
        | nil => cases e2
        | cons n ns =>
          cases e2
          exact .inr ⟨a, _, rfl, h, by simp, fun k h1 h2 => by rw [← foldl_min ns n k h1 h2]; exact kR.go hk hr .int⟩
      · exact hk.elim
    · exact hk.elim
  · exact hk.elim
abbrev rAbs : List V → Hp → VK → Prop := fun xs H Q => ∃ i, xs = [.int i] ∧ Q (.int (if i < 0 then -i else i)) H
theorem g_abs : CallG g rAbs absO := by
  intro W σ H m s xs vs Q hr rx hk
  unfold absO at hk
  split at hk
  · obtain ⟨v, rfl, r⟩ := rx.one
    cases r
    exact ⟨_, rfl, kR.go hk hr .int⟩
  · exact hk.elim
abbrev rDivmod : List V → Hp → VK → Prop := fun xs H Q => ∃ i j, xs = [.int i, .int j] ∧ CDiv i j ∧ ∀ p, H p = none → Q (.ref p) (upd H p (.tup [.int (i / j), .int (i % j)]))
theorem g_divmod : CallG g rDivmod divmodO := by
  intro W σ H m s xs vs Q hr rx hk
  unfold divmodO at hk
  split at hk
  · obtain ⟨v, w, rfl, r1, r2⟩ := rx.two
    cases r1; cases r2
    split at hk
    · rename_i h
      exact ⟨_, _, rfl, h, fun p hp => kE.newT hk hr hp (Reps.cons Rep.int (Reps.cons Rep.int Reps.nil))⟩
    · exact hk.elim
  · exact hk.elim
abbrev rSortO (K : PySem.W.Frag) : List V → Hp → VK → Prop := fun xs H Q => rSorted K xs H Q ∨ rSortedS K xs H Q
theorem call_sortO : CallR X (.builtin "sorted") (rSortO X.K) := CallR.or cr_sorted cr_sortedS
theorem g_sort : CallG g (rSortO g.K) sortO := by
  intro W σ H m s xs vs Q hr rx hk
  unfold sortO at hk
  split at hk
  · obtain ⟨v, rfl, r⟩ := rx.one
    split at hk
    · rename_i ys e
      obtain ⟨a, vs, rfl, h1, rs⟩ := rdLs_ok hr e r
      split at hk
      · rename_i ns e1 
        have q := ints_of e1
        subst q
        rw [rs.ints] at h1
        split at hk
        · rename_i hl
          refine .inl ⟨a, ns, rfl, h1, hl, fun ns' p hp hs hn => ?_⟩
          have e2 := leI_sort hp hs
          subst e2
          exact kE.newL hk hr hn (Reps.ofInts _)
        · exact hk.elim
      · rename_i ns e0 e1
        have q := strs_of e1
        subst q
        rw [rs.strs] at h1
        split at hk
        · rename_i hl
          refine .inr ⟨a, ns, rfl, h1, hl, fun ns' p hp hs hn => ?_⟩
          have e2 := leS_sort hp hs
          subst e2
          exact kE.newL hk hr hn (Reps.ofStrs _)
        · exact hk.elim
      · exact hk.elim
    · exact hk.elim
  · exact hk.elim
theorem tyN_ok {H : Hp} {m : List Addr} {s : S} {d : D} {v : V} {t : String} (hr : HRep g H m s) (e : tyN s d = some t) (r : Rep g H m v d) : TyX g.K H v (.type t) := by
  cases r with
  | non => cases e; exact .base .non
  | bl => cases e; exact .base (.bl _)
  | int => cases e; exact .base (.int _)
  | str => cases e; exact .base (.str _)
  | tup h n b r =>
    cases e
    rcases h with h | ⟨o, h⟩
    · exact .base (.tup h)
    · exact .fTuple h
  | tupK h r =>
    cases e
    obtain ⟨o, its, n, h1, h2, _⟩ := h
    exact .kTuple h1 h2
  | fls h n b r => cases e; exact .base (.frz h)
  | flsK h r =>
    cases e
    obtain ⟨o, its, n, h1, h2, _⟩ := h
    exact .kList h1 h2
  | lst h n b r => cases e; exact .base (.lst h)
  | dic h n b r => cases e; exact .base (.dK h)
  | obj h hc n b r => cases e
  | ty => cases e
  | glb h => cases e
  | ref h =>
    obtain ⟨o, h2, ro⟩ := hr.at h
    unfold tyN at e
    simp only [h2] at e
    cases o with
    | lst xs =>
      cases e
      obtain ⟨vs, h, _⟩ := ro
      exact .base (.lst h)
    | dic xs =>
      cases e
      obtain ⟨vs, h, _⟩ := ro
      exact .base (.dK h)
    | obj c xs => cases e
theorem g_isi : CallG g (rIsi g.K) isiO := by
  intro W σ H m s xs vs Q hr rx hk
  unfold isiO at hk
  split at hk
  · rename_i d n
    obtain ⟨v, w, rfl, r1, r2⟩ := rx.two
    cases r2
    split at hk
    · rename_i b e
      obtain ⟨t, h1, h2⟩ := Option.bind_eq_some_iff.mp e
      exact ⟨v, _, _, _, b, rfl, .ty n, tyN_ok hr h1 r1, kit_ty h2, kR.go hk hr .bl⟩
    · exact hk.elim
  · exact hk.elim
end
end L2.GS

namespace L2.GS
open PySem PySem.Spec PyProof.Rows

/-! ### targets -/
abbrev Etg := D → En → S → RS
def gtName (i : Nat) : Etg := fun d env s => .nx (env.set i (some d)) s
def gtNil : List D → En → S → RS := fun ds env s => match ds with
  | [] => .nx env s
  | _ => .bad
def gtCons (t : Etg) (r : List D → En → S → RS) : List D → En → S → RS := fun ds env s => match ds with
  | d :: ds => (match t d env s with
    | .nx env s => r ds env s
    | _ => .bad)
  | _ => .bad
def gtTup (n : Nat) (r : List D → En → S → RS) : Etg := fun d env s => match d with
  | .tup ds => if ds.length = n then r ds env s else .bad
  | _ => .bad
/-- o[i] = d, by values -/
def setO (o i d : D) (s : S) : Option S := match o with
  | .ref n => match s[n]? with
    | some (.lst xs) => (match i with
      | .int k => (match ixN xs.length k with
        | some j => some (s.set n (.lst (xs.set j d)))
        | none => none)
      | _ => none)
    | some (.dic kvs) => (match key? i with
      | some k => if kvs.length < sizeLine then some (s.set n (.dic (putD kvs k d))) else none
      | none => none)
    | _ => none
  | _ => none
def gtSub (o i : Ev) : Etg := fun d env s => match o env s with
  | .ok x s => (match i env s with
    | .ok y s => (match setO x y d s with
      | some s => .nx env s
      | none => .bad)
    | _ => .bad)
  | _ => .bad
def kG (g : Gd) (m : List Addr) (H : Hp) (Q : St → Hp → Prop) : RS → Prop
  | .nx env s' => ∀ σ' m' H', Step m H m' H' → HRep g H' m' s' → ERep g H' m' σ' env → Q σ' H'
  | _ => False
theorem kG.at {g : Gd} {m m1 : List Addr} {H H1 : Hp} {Q : St → Hp → Prop} (st : Step m H m1 H1) : ∀ {r : RS}, kG g m H Q r → kG g m1 H1 Q r
  | .nx _ _, h => fun σ' m' H' st' hr r => h σ' m' H' (st.trans st') hr r
  | .rt _ _, h => h
  | .bk _ _, h => h
  | .ct _ _, h => h
  | .exc _ _ _ _, h => h
  | .bad, h => h
def tG (g : Gd) (f : Etg) : TG := fun v σ H Q => ∃ B d env s m, ERep (g.wB B) H m σ env ∧ HRep (g.wB B) H m s ∧ Rep (g.wB B) H m v d ∧ kG (g.wB B) m H Q (f d env s)
def tGs (g : Gd) (f : List D → En → S → RS) : TGs := fun vs σ H Q => ∃ B ds env s m, ERep (g.wB B) H m σ env ∧ HRep (g.wB B) H m s ∧ Reps (g.wB B) H m vs ds ∧ kG (g.wB B) m H Q (f ds env s)
section
variable {X : Cx} {g : Gd} {W : WX}
theorem subG {e : Expr} {t t' : TG} (h : PG X e t) (hi : ∀ v σ H Q, t' v σ H Q → t v σ H Q) : PG X e t' := ⟨fun pins s σ H v u Q I r q => h.run pins s σ H v u Q I r (hi v σ H Q q)⟩
theorem subGs {e : List Expr} {t t' : TGs} (h : PGs X e t) (hi : ∀ v σ H Q, t' v σ H Q → t v σ H Q) : PGs X e t' := ⟨fun pins s σ H v u Q I r q => h.run pins s σ H v u Q I r (hi v σ H Q q)⟩
theorem t_gName {i : Nat} (v : V) (σ : St) (H : Hp) (Q : St → Hp → Prop) (h : tG g (gtName i) v σ H Q) : gName i v σ H Q := by
  obtain ⟨B, d, env, s, m, he, hr, r, hk⟩ := h
  exact hk _ m H (Step.refl _ _) hr (he.set r i)
theorem t_gNil (vs : List V) (σ : St) (H : Hp) (Q : St → Hp → Prop) (h : tGs g gtNil vs σ H Q) : gNil vs σ H Q := by
  obtain ⟨B, ds, env, s, m, he, hr, r, hk⟩ := h
  cases r with
  | nil => exact ⟨rfl, hk _ m H (Step.refl _ _) hr he⟩
  | cons h r => exact hk.elim
theorem t_gCons {t : Etg} {u : List D → En → S → RS} (vs : List V) (σ : St) (H : Hp) (Q : St → Hp → Prop) (h : tGs g (gtCons t u) vs σ H Q) : gCons (tG g t) (tGs g u) vs σ H Q := by
  obtain ⟨B, ds, env, s, m, he, hr, r, hk⟩ := h
  cases r with
  | nil => exact hk.elim
  | @cons v d vs ds h r =>
    refine ⟨v, vs, rfl, B, d, env, s, m, he, hr, h, ?_⟩
    simp only [gtCons] at hk
    cases q : t d env s with
    | nx env1 s1 =>
      rw [q] at hk
      exact fun σ1 m1 H1 st1 hr1 he1 => ⟨B, ds, env1, s1, m1, he1, hr1, r.step st1, kG.at st1 hk⟩
    | _ => rw [q] at hk; exact hk.elim
theorem t_gTup {n : Nat} {u : List D → En → S → RS} (v : V) (σ : St) (H : Hp) (Q : St → Hp → Prop) (h : tG g (gtTup n u) v σ H Q) : gTup g.K n (tGs g u) v σ H Q := by
  obtain ⟨B, d, env, s, m, he, hr, r, hk⟩ := h
  unfold gtTup at hk
  split at hk
  · split at hk
    · rename_i hl
      obtain ⟨a, vs, rfl, h1, rs⟩ := r.tupI
      exact ⟨a, vs, rfl, h1, rs.length.trans hl, B, _, env, s, m, he, hr, rs, hk⟩
    · exact hk.elim
  · exact hk.elim
theorem RepK.putV {H : Hp} {m : List Addr} {v : V} {d : D} (q : Rep g H m v d) (k : Key) : ∀ {vs : List (Key × V)} {xs : List (Key × D)}, RepK g H m vs xs → RepK g H m (putK vs k v) (putD xs k d) := by
  have key : ∀ {vs : List (Key × V)} {xs : List (Key × D)}, RepK g H m vs xs → (vs.any fun kv => decide (kv.1 = k)) = (xs.any fun kv => decide (kv.1 = k)) ∧
      RepK g H m (vs.map fun kv => if kv.1 = k then (kv.1, v) else kv) (xs.map fun kv => if kv.1 = k then (kv.1, d) else kv) ∧ RepK g H m (vs ++ [(k, v)]) (xs ++ [(k, d)]) := by
    intro vs xs r
    induction vs generalizing xs with
    | nil => cases r; exact ⟨rfl, .nil, .cons q .nil⟩
    | cons p vs ih =>
      cases r with
      | @cons k' v' d' _ ds h r =>
        obtain ⟨i1, i2, i3⟩ := ih r
        refine ⟨by rw [List.any_cons, List.any_cons, i1], ?_, .cons h i3⟩
        rw [List.map_cons, List.map_cons]
        by_cases e : k' = k
        · simp only [e, if_true]
          exact .cons q (by simpa using i2)
        · simp only [e, if_false]
          exact .cons h (by simpa using i2)
  intro vs xs r
  obtain ⟨i1, i2, i3⟩ := key r
  unfold putK putD
  rw [i1]
  split
  · exact i2
  · exact i3
theorem RepK.length {H : Hp} {m : List Addr} : ∀ {vs : List (Key × V)} {xs : List (Key × D)}, RepK g H m vs xs → vs.length = xs.length
  | _, _, .nil => rfl
  | _, _, .cons _ r => congrArg Nat.succ r.length
def rSetO : TSet := fun o i v H Q => rSetL o i v H Q ∨ ∃ a H', o = .ref a ∧ DPut H a i v H' ∧ Q H'
theorem set_O (hu : X.A.units + 1 < cLine) : PSet X rSetO := by
  intro pins s σ H o i v ov iv u Q I r1 r2 r3 h
  rcases h with h | ⟨a, H', rfl, h, q⟩
  · exact set_list pins s σ H o i v ov iv u Q I r1 r2 r3 h
  · obtain rfl : ov = Value.ref a := r1
    exact d_setItem hu I h r2 r3 fun s' I' => ⟨H', I', q⟩
theorem set_ok {H : Hp} {m : List Addr} {s s' : S} {o i d : D} {vo vi v : V} {Q : Hp → Prop} (hr : HRep g H m s) (e : setO o i d s = some s') (ro : Rep g H m vo o) (ri : Rep g H m vi i) (rd : Rep g H m v d)
    (hq : ∀ H', Step m H m H' → HRep g H' m s' → Q H') : rSetO vo vi v H Q := by
  unfold setO at e
  split at e
  · rename_i n
    cases ro with
    | @ref a _ ha =>
      obtain ⟨u, h2, ru⟩ := hr.at ha
      split at e
      · rename_i xs q
        rw [q] at h2; cases h2
        obtain ⟨vs, hH, rs⟩ := ru
        split at e
        · rename_i k
          split at e
          · rename_i j ej
            cases e
            cases ri
            refine .inl ⟨a, vs, _, j, rfl, rfl, hH, by rw [rs.length]; exact ej, hq _ (Step.set (List.mem_of_getElem? ha)) (hr.set ha ?_)⟩
            exact ⟨_, upd_same, (rs.set rd j).step (Step.set (List.mem_of_getElem? ha))⟩
          · cases e
        · cases e
      · rename_i kvs q
        rw [q] at h2; cases h2
        obtain ⟨vs, hH, rs⟩ := ru
        split at e
        · rename_i k ek
          split at e
          · rename_i hl
            cases e
            have e2 := ri.key ek
            subst e2
            refine .inr ⟨a, _, rfl, DPut.k hH (by rw [rs.length]; exact hl), hq _ (Step.set (List.mem_of_getElem? ha)) (hr.set ha ?_)⟩
            exact ⟨_, upd_same, (rs.putV rd k).step (Step.set (List.mem_of_getElem? ha))⟩
          · cases e
        · cases e
      · cases e
  · cases e
theorem t_gSub {fo fi : Ev} (v : V) (σ : St) (H : Hp) (Q : St → Hp → Prop) (h : tG g (gtSub fo fi) v σ H Q) : gSub (tE g W fo) (tE g W fi) rSetO v σ H Q := by
  obtain ⟨B, d, env, s, m, he, hr, r, hk⟩ := h
  unfold gtSub at hk
  refine ⟨B, env, s, m, he, hr, ?_⟩
  cases q1 : fo env s with
  | ok x s1 =>
    rw [q1] at hk
    intro vo m1 H1 st1 hr1 r1
    refine ⟨B, env, s1, m1, he.step st1, hr1, ?_⟩
    cases q2 : fi env s1 with
    | ok y s2 =>
      simp only [q2] at hk
      intro vi m2 H2 st2 hr2 r2
      split at hk
      · rename_i s3 e
        refine set_ok hr2 e (r1.step st2) r2 ((r.step st1).step st2) fun H3 st3 hr3 => ?_
        exact hk σ m2 H3 ((st1.trans st2).trans st3) hr3 (((he.step st1).step st2).step st3)
      · exact hk.elim
    | exc c fs s2 => simp only [q2] at hk; exact hk.elim
    | bad => simp only [q2] at hk; exact hk.elim
  | exc c fs s1 => rw [q1] at hk; exact hk.elim
  | bad => rw [q1] at hk; exact hk.elim
/-- target = value -/
def cAsg (t : Etg) (a : Ev) : Est := fun env s => (a env s).toS env fun x s => match t x env s with
  | .nx env s => .nx env s
  | _ => .bad
theorem t_asg {t : Etg} {fa : Ev} (Dn : Ends) (σ : St) (H : Hp) (h : tS g W (cAsg t fa) Dn σ H) : tAsg (tE g W fa) (tG g t) Dn σ H := by
  obtain ⟨B, env, s, m, he, hr, hk⟩ := h
  refine ⟨B, env, s, m, he, hr, kS.bind he hk fun x s1 v m1 H1 _ st1 hr1 r1 hk1 => ⟨B, x, env, s1, m1, he.step st1, hr1, r1, ?_⟩⟩
  (try dsimp only at hk1)
  split at hk1
  · rename_i env2 s2 q
    rw [q]
    exact hk1
  · exact hk1.elim
end

/-! ### what is walked -/
structure Goes1 (g : Gd) (J : It) (m0 : List Addr) (H0 : Hp) (xs : List D) (still : S → Prop) : Prop where
  go : ∀ B i H m s, (∀ a ∈ B, a ∈ g.B ∨ H0 a = none) → Step m0 H0 m H → HRep (g.wB B) H m s → still s → i < xs.length → J.go i H
  yld : ∀ B i H m s x H', (∀ a ∈ B, a ∈ g.B ∨ H0 a = none) → Step m0 H0 m H → HRep (g.wB B) H m s → still s → i < xs.length → J.yld i H x H' → ∃ d, xs[i]? = some d ∧ Step m H m H' ∧ HRep (g.wB B) H' m s ∧ Rep (g.wB B) H' m x d
  stop : ∀ B i H m s, (∀ a ∈ B, a ∈ g.B ∨ H0 a = none) → Step m0 H0 m H → HRep (g.wB B) H m s → still s → i = xs.length → J.stop i H
structure Src where
  xs : List D
  still : S → Prop
abbrev Ei := En → S → R Src
def tI (g : Gd) (W : WX) (f : Ei) : TI := fun σ H Rr => ∃ B env s m, ERep (g.wB B) H m σ env ∧ HRep (g.wB B) H m s ∧ match f env s with
  | .ok q s' => ∀ J m' H', Step m H m' H' → HRep (g.wB B) H' m' s' → Goes1 (g.wB B) J m' H' q.xs q.still → Rr J H'
  | .exc c fs s' => exW (g.wB B) W σ m H c fs s'
  | .bad => False
section
variable {X : Cx} {g : Gd} {W : WX}
theorem subI {tg e : Expr} {t t' : TI} (h : PI X tg e t) (hi : ∀ σ H Q, t' σ H Q → t σ H Q) : PI X tg e t' := ⟨fun pins s σ H Q I q => h.run pins s σ H Q I (hi σ H Q q)⟩
theorem orI {tg e : Expr} {t t' : TI} (h : PI X tg e t) (h' : PI X tg e t') : PI X tg e (fun σ H Q => t σ H Q ∨ t' σ H Q) := ⟨fun pins s σ H Q I q => q.elim (h.run pins s σ H Q I) (h'.run pins s σ H Q I)⟩
/-- a tuple -/
theorem goes_tup {a : Addr} {H0 : Hp} {m0 : List Addr} {vs : List V} {xs : List D} (hm : ∀ H m, Step m0 H0 m H → SqT g.K H a vs) (r : Reps g H0 m0 vs xs) : Goes1 g (Itt g.K a) m0 H0 xs (fun _ => True) where
  go := fun B i H m s hB st hr _ hi => ⟨vs, vs[i]'(by rw [r.length]; exact hi), hm H m st, by simp⟩
  yld := fun B i H m s x H' hB st hr _ hi y => by
    obtain ⟨rfl, y⟩ := y
    have e := y vs (hm _ m st)
    obtain ⟨v, e2, rv⟩ := r.get (List.getElem?_eq_getElem hi)
    rw [e] at e2; cases e2
    exact ⟨_, List.getElem?_eq_getElem hi, Step.refl _ _, hr, (rv.ext hB).step st⟩
  stop := fun B i H m s hB st hr _ hi => ⟨vs, hm H m st, by rw [r.length]; exact Nat.le_of_eq hi.symm⟩
/-- a list that stands -/
theorem goes_lst0 {a : Addr} {H0 : Hp} {m0 : List Addr} {vs : List V} {xs : List D} (hm : ∀ H m, Step m0 H0 m H → SqL g.K H a vs) (r : Reps g H0 m0 vs xs) : Goes1 g (Itl g.K a) m0 H0 xs (fun _ => True) where
  go := fun B i H m s hB st hr _ hi => ⟨vs, vs[i]'(by rw [r.length]; exact hi), hm H m st, by simp⟩
  yld := fun B i H m s x H' hB st hr _ hi y => by
    obtain ⟨rfl, y⟩ := y
    have e := y vs (hm _ m st)
    obtain ⟨v, e2, rv⟩ := r.get (List.getElem?_eq_getElem hi)
    rw [e] at e2; cases e2
    exact ⟨_, List.getElem?_eq_getElem hi, Step.refl _ _, hr, (rv.ext hB).step st⟩
  stop := fun B i H m s hB st hr _ hi => ⟨vs, hm H m st, by rw [r.length]; exact Nat.le_of_eq hi.symm⟩
/-- an owned list that no turn changes -/
theorem goes_lstO {a : Addr} {n : Nat} {H0 : Hp} {m0 : List Addr} {xs : List D} (ha : m0[n]? = some a) : Goes1 g (Itl g.K a) m0 H0 xs (fun s => s[n]? = some (.lst xs)) where
  go := fun B i H m s hB st hr hs hi => by
    obtain ⟨o, h2, ro⟩ := hr.at (st.get ha)
    rw [hs] at h2; cases h2
    obtain ⟨vs, hH, rs⟩ := ro
    exact ⟨vs, vs[i]'(by rw [rs.length]; exact hi), .inl (.inl hH), by simp⟩
  yld := fun B i H m s x H' hB st hr hs hi y => by
    obtain ⟨rfl, y⟩ := y
    obtain ⟨o, h2, ro⟩ := hr.at (st.get ha)
    rw [hs] at h2; cases h2
    obtain ⟨vs, hH, rs⟩ := ro
    have e := y vs (.inl (.inl hH))
    obtain ⟨v, e2, rv⟩ := rs.get (List.getElem?_eq_getElem hi)
    rw [e] at e2; cases e2
    exact ⟨_, List.getElem?_eq_getElem hi, Step.refl _ _, hr, rv⟩
  stop := fun B i H m s hB st hr hs hi => by
    replace hi := Nat.le_of_eq hi.symm
    obtain ⟨o, h2, ro⟩ := hr.at (st.get ha)
    rw [hs] at h2; cases h2
    obtain ⟨vs, hH, rs⟩ := ro
    exact ⟨vs, .inl (.inl hH), by rw [rs.length]; exact hi⟩
def signs (z : Str) : List D := z.cps.toList.map fun c => .str ⟨#[c]⟩
theorem goes_str {z : Str} {H0 : Hp} {m0 : List Addr} : Goes1 g (Its z) m0 H0 (signs z) (fun _ => True) where
  go := fun B i H m s hB st hr _ hi => by
    have h : i < z.cps.toList.length := by simpa [signs] using hi
    show i < z.cps.size
    simpa using h
  yld := fun B i H m s x H' hB st hr _ hi y => by
    obtain ⟨rfl, c, e, rfl⟩ := y
    refine ⟨.str ⟨#[c]⟩, ?_, Step.refl _ _, hr, .str⟩
    simp [signs, e]
  stop := fun B i H m s hB st hr _ hi => by
    replace hi := Nat.le_of_eq hi.symm
    have h : z.cps.toList.length ≤ i := by simpa [signs] using hi
    show z.cps.size ≤ i
    simpa using h
def ranged (lo : Int) (n : Nat) : List D := (List.range n).map fun (i : Nat) => .int (lo + (i : Int))
theorem goes_rng {lo : Int} {n : Nat} {H0 : Hp} {m0 : List Addr} : Goes1 g (Itr lo n) m0 H0 (ranged lo n) (fun _ => True) where
  go := fun B i H m s hB st hr _ hi => by
    show i < n
    simpa [ranged] using hi
  yld := fun B i H m s x H' hB st hr _ hi y => by
    obtain ⟨rfl, rfl⟩ := y
    have h : i < n := by simpa [ranged] using hi
    exact ⟨.int (lo + i), by simp [ranged, h], Step.refl _ _, hr, .int⟩
  stop := fun B i H m s hB st hr _ hi => by
    replace hi := Nat.le_of_eq hi.symm
    show n ≤ i
    simpa [ranged] using hi
/-! sources -/
/-- what an expression's value is walked as -/
def srcD (d : D) (s : S) : R Src := match d with
  | .tup xs => .ok ⟨xs, fun _ => True⟩ s
  | .lst xs => .ok ⟨xs, fun _ => True⟩ s
  | .fls xs => .ok ⟨xs, fun _ => True⟩ s
  | .str z => .ok ⟨signs z, fun _ => True⟩ s
  | .ref n => match s[n]? with
    | some (.lst xs) => .ok ⟨xs, fun s => s[n]? = some (.lst xs)⟩ s
    | _ => .bad
  | _ => .bad
def ciAny (a : Ev) : Ei := fun env s => (a env s).bind srcD
def ciRng1 (a : Ev) : Ei := fun env s => (a env s).bind fun x s => match x with
  | .int j => if -(2 ^ 62) ≤ j ∧ j < 2 ^ 62 then .ok ⟨ranged 0 j.toNat, fun _ => True⟩ s else .bad
  | _ => .bad
def ciRng2 (a b : Ev) : Ei := fun env s => (a env s).bind fun x s => (b env s).bind fun y s => match x, y with
  | .int i, .int j => if -(2 ^ 62) ≤ i ∧ i < 2 ^ 62 ∧ -(2 ^ 62) ≤ j ∧ j < 2 ^ 62 then .ok ⟨ranged i (j - i).toNat, fun _ => True⟩ s else .bad
  | _, _ => .bad
abbrev iAny (K : PySem.W.Frag) (te : TE) : TI := fun σ H Rr => iList K te σ H Rr ∨ iTup K te σ H Rr ∨ iStr te σ H Rr
theorem pi_any {tg e : Expr} {te : TE} (he : PE X e te) : PI X tg e (iAny X.K te) := orI (pi_list he) (orI (pi_tup he) (pi_str he))
end
section
variable {X : Cx} {g : Gd} {W : WX} {fa fb : Ev}
/-- the value's sort is known ahead of the walk -/
theorem t_iAny (σ : St) (H : Hp) (Rr : It → Hp → Prop) (h : tI g W (ciAny fa) σ H Rr) : iAny g.K (tE g W fa) σ H Rr := by
  obtain ⟨B, env, s, m, he, hr, hk⟩ := h
  unfold ciAny at hk
  cases q : fa env s with
  | exc c fs s1 =>
    rw [q] at hk
    exact .inl ⟨B, env, s, m, he, hr, by rw [q]; exact hk⟩
  | bad => rw [q] at hk; exact hk.elim
  | ok d s1 =>
    rw [q] at hk
    simp only [R.bind] at hk
    unfold srcD at hk
    split at hk
    · rename_i h1
      split at h1
      · cases h1
        refine .inr (.inl ⟨B, env, s, m, he, hr, ?_⟩)
        rw [q]
        intro v m1 H1 st1 hr1 r1
        have r1' := r1
        cases r1 with
        | @tup a vs _ hh n b r =>
          exact ⟨a, rfl, ⟨vs, .inl hh⟩, hk _ m1 H1 st1 hr1 (goes_tup (fun H m st => .inl (Rd.step st hh n).1) r)⟩
        | @tupK a vs _ hh r =>
          exact ⟨a, rfl, ⟨vs, .inr hh⟩, hk _ m1 H1 st1 hr1 (goes_tup (fun H m st => .inr hh) r)⟩
      · cases h1
        refine .inl ⟨B, env, s, m, he, hr, ?_⟩
        rw [q]
        intro v m1 H1 st1 hr1 r1
        cases r1 with
        | @lst a vs _ hh n b r =>
          exact ⟨a, rfl, ⟨vs, .inl (.inl hh)⟩, hk _ m1 H1 st1 hr1 (goes_lst0 (fun H m st => .inl (.inl (st.keep _ _ hh n))) r)⟩
      · cases h1
        refine .inl ⟨B, env, s, m, he, hr, ?_⟩
        rw [q]
        intro v m1 H1 st1 hr1 r1
        cases r1 with
        | @fls a vs _ o hh n b r =>
          exact ⟨a, rfl, ⟨vs, .inl (.inr ⟨_, hh⟩)⟩, hk _ m1 H1 st1 hr1 (goes_lst0 (fun H m st => .inl (.inr ⟨_, st.keep _ _ hh n⟩)) r)⟩
        | @flsK a vs _ hh r =>
          exact ⟨a, rfl, ⟨vs, .inr hh⟩, hk _ m1 H1 st1 hr1 (goes_lst0 (fun H m st => .inr hh) r)⟩
      · cases h1
        refine .inr (.inr ⟨B, env, s, m, he, hr, ?_⟩)
        rw [q]
        intro v m1 H1 st1 hr1 r1
        cases r1
        exact ⟨_, rfl, hk _ m1 H1 st1 hr1 goes_str⟩
      · split at h1
        · rename_i n xs e
          cases h1
          refine .inl ⟨B, env, s, m, he, hr, ?_⟩
          rw [q]
          intro v m1 H1 st1 hr1 r1
          cases r1 with
          | @ref a _ ha =>
            obtain ⟨o, h2, ro⟩ := hr1.at ha
            rw [e] at h2; cases h2
            obtain ⟨vs, hH, rs⟩ := ro
            exact ⟨a, rfl, ⟨vs, .inl (.inl hH)⟩, hk _ m1 H1 st1 hr1 (goes_lstO ha)⟩
        · cases h1
      · cases h1
    · rename_i h1
      split at h1 <;> first | (cases h1; done) | (split at h1 <;> cases h1)
    · exact hk.elim
theorem t_iRng1 (σ : St) (H : Hp) (Rr : It → Hp → Prop) (h : tI g W (ciRng1 fa) σ H Rr) : iRng1 (tCons (tE g W fa) tNil) σ H Rr := by
  obtain ⟨B, env, s, m, he, hr, hk⟩ := h
  unfold ciRng1 at hk
  refine ⟨B, env, s, m, he, hr, ?_⟩
  cases q : fa env s with
  | exc c fs s1 => rw [q] at hk; exact hk
  | bad => rw [q] at hk; exact hk.elim
  | ok d s1 =>
    rw [q] at hk
    simp only [R.bind] at hk
    intro v m1 H1 st1 hr1 r1
    show ∃ j : Int, _
    cases d <;> first | (exact hk.elim) | skip
    rename_i j
    cases r1
    simp only at hk
    by_cases hj : -(2 ^ 62) ≤ j ∧ j < 2 ^ 62
    · rw [if_pos hj] at hk
      exact ⟨j, rfl, hj.1, hj.2, hk _ m1 H1 st1 hr1 goes_rng⟩
    · rw [if_neg hj] at hk
      exact hk.elim
theorem t_iRng2 (σ : St) (H : Hp) (Rr : It → Hp → Prop) (h : tI g W (ciRng2 fa fb) σ H Rr) : iRng2 (tCons (tE g W fa) (tCons (tE g W fb) tNil)) σ H Rr := by
  obtain ⟨B, env, s, m, he, hr, hk⟩ := h
  unfold ciRng2 at hk
  refine ⟨B, env, s, m, he, hr, ?_⟩
  cases q : fa env s with
  | exc c fs s1 => rw [q] at hk; exact hk
  | bad => rw [q] at hk; exact hk.elim
  | ok d s1 =>
    rw [q] at hk
    simp only [R.bind] at hk
    intro v m1 H1 st1 hr1 r1
    refine ⟨B, env, s1, m1, he.step st1, hr1, ?_⟩
    cases q2 : fb env s1 with
    | exc c fs s1 => rw [q2] at hk; exact exW.at st1 hk
    | bad => rw [q2] at hk; exact hk.elim
    | ok d2 s2 =>
      rw [q2] at hk
      simp only [R.bind] at hk
      intro v2 m2 H2 st2 hr2 r2
      show ∃ i j : Int, _
      cases d <;> first | (exact hk.elim) | skip
      cases d2 <;> first | (exact hk.elim) | skip
      rename_i i j
      cases r1; cases r2
      simp only at hk
      by_cases hj : -(2 ^ 62) ≤ i ∧ i < 2 ^ 62 ∧ -(2 ^ 62) ≤ j ∧ j < 2 ^ 62
      · rw [if_pos hj] at hk
        exact ⟨i, j, rfl, hj, hk _ m2 H2 (st1.trans st2) hr2 goes_rng⟩
      · rw [if_neg hj] at hk
        exact hk.elim
end
end L2.GS

namespace L2.GS
open PySem PySem.Spec PyProof.Rows

/-! ### loops -/
def forget : List Nat → En → En
  | [], env => env
  | i :: r, env => forget r (env.set i none)
theorem ERep.forget {g : Gd} {H : Hp} {m : List Addr} {σ : St} : ∀ (is : List Nat) {env : En}, ERep g H m σ env → ERep g H m σ (GS.forget is env)
  | [], _, h => h
  | i :: r, _, h => ERep.forget r (h.drop i)
/-- names that nothing behind asks for -/
def cDrop (is : List Nat) (f : Est) : Est := fun env s => match f env s with
  | .nx env s => .nx (forget is env) s
  | .ct env s => .ct (forget is env) s
  | r => r
/-- behind a turn -/
def aft (k : En → S → RS) : RS → RS
  | .nx env s => k env s
  | .ct env s => k env s
  | .bk env s => .nx env s
  | .rt d s => .rt d s
  | .exc c fs env s => .exc c fs env s
  | .bad => .bad
/-- behind a target -/
def thenG (k : En → S → RS) : RS → RS
  | .nx env s => k env s
  | _ => .bad
open Classical in
noncomputable def loopF (still : S → Prop) (body : D → Est) : List D → Est
  | [] => fun env s => if still s then .nx env s else .bad
  | x :: r => fun env s => if still s then aft (loopF still body r) (body x env s) else .bad
/-- the target, then the body -/
def turnF (t : Etg) (b : Est) (x : D) : Est := fun env s => thenG b (t x env s)
noncomputable def cFor (it : Ei) (t : Etg) (b : Est) : Est := fun env s => (it env s).toS env fun q s => loopF q.still (turnF t b) q.xs env s
theorem kS_aft {g : Gd} {W : WX} {m : List Addr} {H : Hp} {Dn : Ends} {k : En → S → RS} {N : St → Hp → Prop} {r : RS} (h : kS g W m H Dn (aft k r))
    (hn : ∀ env s σ' m' H', Step m H m' H' → HRep g H' m' s → ERep g H' m' σ' env → kS g W m' H' Dn (k env s) → N σ' H') : kS g W m H { Dn with nx := N, ct := N, bk := Dn.nx } r := by
  cases r with
  | nx env s => exact fun σ' m' H' st hr he => hn env s σ' m' H' st hr he (kS.at st h)
  | ct env s => exact fun σ' m' H' st hr he => hn env s σ' m' H' st hr he (kS.at st h)
  | bk env s => exact h
  | rt d s => exact h
  | exc c fs env s => exact h
  | bad => exact h
theorem kG_then {g : Gd} {m : List Addr} {H : Hp} {k : En → S → RS} {P : List Addr → Hp → RS → Prop} {Q : St → Hp → Prop} {r : RS} (at_ : ∀ {m1 H1 r}, Step m H m1 H1 → P m H r → P m1 H1 r) (nb : ¬ P m H .bad) (h : P m H (thenG k r))
    (hn : ∀ env s σ' m' H', Step m H m' H' → HRep g H' m' s → ERep g H' m' σ' env → P m' H' (k env s) → Q σ' H') : kG g m H Q r := by
  cases r with
  | nx env s => exact fun σ' m' H' st hr he => hn env s σ' m' H' st hr he (at_ st h)
  | ct env s => exact (nb h).elim
  | bk env s => exact (nb h).elim
  | rt d s => exact (nb h).elim
  | exc c fs env s => exact (nb h).elim
  | bad => exact (nb h).elim
/-- n turns at most -/
def whileN (c : Et) (b : Est) : Nat → Est
  | 0 => fun _ _ => .bad
  | n + 1 => fun env s => (c env s).toS env fun k s => if k = true then aft (whileN c b n) (b env s) else .nx env s
open Classical in
noncomputable def cWhile (c : Et) (b : Est) : Est := fun env s => if h : ∃ n, whileN c b n env s ≠ .bad then whileN c b (choose h) env s else .bad
theorem whileN_mono (c : Et) (b : Est) : ∀ (n : Nat) (env : En) (s : S), whileN c b n env s ≠ .bad → ∀ k, n ≤ k → whileN c b k env s = whileN c b n env s
  | 0, env, s, h, k, hk => absurd rfl h
  | n + 1, env, s, h, k, hk => by
    obtain ⟨k, rfl⟩ : ∃ j, k = j + 1 := ⟨k - 1, by omega⟩
    simp only [whileN] at h ⊢
    cases q : c env s with
    | exc _ _ _ => rfl
    | bad => rfl
    | ok t s1 =>
      rw [q] at h
      simp only [R.toS] at h ⊢
      split
      · rename_i ht
        rw [if_pos ht] at h
        cases q2 : b env s1 with
        | nx env2 s2 =>
          rw [q2] at h
          exact whileN_mono c b n env2 s2 h k (by omega)
        | ct env2 s2 =>
          rw [q2] at h
          exact whileN_mono c b n env2 s2 h k (by omega)
        | _ => rfl
      · rfl
theorem cWhile_eq {c : Et} {b : Est} {n : Nat} {env : En} {s : S} {r : RS} (h : whileN c b n env s = r) (hb : r ≠ .bad) : cWhile c b env s = r := by
  have hex : ∃ n, whileN c b n env s ≠ .bad := ⟨n, by rw [h]; exact hb⟩
  unfold cWhile
  rw [dif_pos hex]
  have h1 := Classical.choose_spec hex
  rcases Nat.le_total n (Classical.choose hex) with hl | hl
  · rw [whileN_mono c b n env s (by rw [h]; exact hb) _ hl, h]
  · rw [← whileN_mono c b _ env s h1 n hl, h]

section
variable {X : Cx} {g : Gd} {W : WX}
theorem t_drop {is : List Nat} {f : Est} (Dn : Ends) (σ : St) (H : Hp) (h : tS g W (cDrop is f) Dn σ H) : tS g W f Dn σ H := by
  obtain ⟨B, env, s, m, he, hr, hk⟩ := h
  refine ⟨B, env, s, m, he, hr, ?_⟩
  unfold cDrop at hk
  cases q : f env s with
  | nx e2 s2 => rw [q] at hk; exact fun σ' m' H' st hr' he' => hk σ' m' H' st hr' (he'.forget is)
  | ct e2 s2 => rw [q] at hk; exact fun σ' m' H' st hr' he' => hk σ' m' H' st hr' (he'.forget is)
  | rt _ _ => rw [q] at hk; exact hk
  | bk _ _ => rw [q] at hk; exact hk
  | exc _ _ _ _ => rw [q] at hk; exact hk
  | bad => rw [q] at hk; exact hk
theorem t_for {it : Ei} {t : Etg} {b : Est} (Dn : Ends) (σ : St) (H : Hp) (h : tS g W (cFor it t b) Dn σ H) : tFor (tI g W it) (tG g t) (tS g W b) Dn σ H := by
  obtain ⟨B, env, s, m, he, hr, hk⟩ := h
  refine ⟨B, env, s, m, he, hr, ?_⟩
  unfold cFor at hk
  cases q : it env s with
  | exc c fs s1 => rw [q] at hk; exact hk σ m H (Step.refl _ _) he
  | bad => rw [q] at hk; exact hk
  | ok src s1 =>
    rw [q] at hk
    intro J m1 H1 st1 hr1 gs
    refine ⟨fun i n σ H => i ≤ src.xs.length ∧ n = src.xs.length - i ∧ ∃ env s m, Step m1 H1 m H ∧ ERep (g.wB B) H m σ env ∧ HRep (g.wB B) H m s ∧ kS (g.wB B) W m H Dn (loopF src.still (turnF t b) (src.xs.drop i) env s),
      ⟨src.xs.length, by simp, by simp, env, s1, m1, Step.refl _ _, he.step st1, hr1, by rw [List.drop_zero]; exact kS.at st1 hk⟩, ?_⟩
    rintro i n σ2 H2 ⟨hi, rfl, env2, s2, m2, st2, he2, hr2, hk2⟩
    by_cases hlt : i < src.xs.length
    · rw [List.drop_eq_getElem_cons hlt] at hk2
      simp only [loopF] at hk2
      split at hk2
      · rename_i hst
        refine .inr ⟨gs.go B i H2 m2 s2 (fun _ h => .inl h) st2 hr2 hst hlt, fun σ H => ∃ env s m, Step m1 H1 m H ∧ ERep (g.wB B) H m σ env ∧ HRep (g.wB B) H m s ∧ kS (g.wB B) W m H Dn (loopF src.still (turnF t b) (src.xs.drop (i + 1)) env s),
          fun σ' H' w => ⟨src.xs.length - (i + 1), by omega, hlt, rfl, w⟩, fun x H3 y => ?_⟩
        obtain ⟨d, e, st3, hr3, r3⟩ := gs.yld B i H2 m2 s2 x H3 (fun _ h => .inl h) st2 hr2 hst hlt y
        have ed : d = src.xs[i] := by rw [List.getElem?_eq_getElem hlt] at e; exact (Option.some.inj e).symm
        subst ed
        refine ⟨B, _, env2, s2, m2, he2.step st3, hr3, r3, ?_⟩
        refine kG_then (k := b) (P := fun m H r => kS (g.wB B) W m H Dn (aft (loopF src.still (turnF t b) (src.xs.drop (i + 1))) r)) (fun st h => kS.at st h) (fun h => h) (kS.at st3 hk2) fun env4 s4 σ4 m4 H4 st4 hr4 he4 hk4 => ?_
        exact ⟨B, env4, s4, m4, he4, hr4, kS_aft hk4 fun env5 s5 σ5 m5 H5 st5 hr5 he5 hk5 => ⟨env5, s5, m5, ((st2.trans st3).trans st4).trans st5, he5, hr5, hk5⟩⟩
      · exact hk2.elim
    · have e : i = src.xs.length := by omega
      subst e
      rw [List.drop_length] at hk2
      simp only [loopF] at hk2
      split at hk2
      · rename_i hst
        exact .inl ⟨gs.stop B _ H2 m2 s2 (fun _ h => .inl h) st2 hr2 hst rfl, hk2 σ2 m2 H2 (Step.refl _ _) hr2 he2⟩
      · exact hk2.elim
theorem t_while {c : Et} {b : Est} (Dn : Ends) (σ : St) (H : Hp) (h : tS g W (cWhile c b) Dn σ H) : tWhile (tT g W c) (tS g W b) Dn σ H := by
  obtain ⟨B, env, s, m, he, hr, hk⟩ := h
  unfold cWhile at hk
  split at hk
  · rename_i hex
    refine ⟨fun n σ H => ∃ env s m, ERep (g.wB B) H m σ env ∧ HRep (g.wB B) H m s ∧ kS (g.wB B) W m H Dn (whileN c b n env s), ⟨_, env, s, m, he, hr, hk⟩, ?_⟩
    rintro n σ2 H2 ⟨env2, s2, m2, he2, hr2, hk2⟩
    cases n with
    | zero => exact hk2.elim
    | succ n =>
      simp only [whileN] at hk2
      refine ⟨B, env2, s2, m2, he2, hr2, kS.bind he2 hk2 fun k s3 v m3 H3 _ st3 hr3 r3 hk3 => ?_⟩
      subst r3
      cases v with
      | false => exact iteF (by rw [if_neg Bool.false_ne_true] at hk3; exact hk3 σ2 m3 H3 (Step.refl _ _) hr3 (he2.step st3))
      | true =>
        rw [if_pos rfl] at hk3
        refine iteT ⟨fun σ H => ∃ env s m, ERep (g.wB B) H m σ env ∧ HRep (g.wB B) H m s ∧ kS (g.wB B) W m H Dn (whileN c b n env s), fun σ' H' w => ⟨n, Nat.lt_succ_self _, w⟩, B, env2, s3, m3, he2.step st3, hr3, ?_⟩
        exact kS_aft hk3 fun env5 s5 σ5 m5 H5 st5 hr5 he5 hk5 => ⟨env5, s5, m5, he5, hr5, hk5⟩
  · exact hk.elim
end

/-! ### comprehensions -/
section
variable {g : Gd} {H H' : Hp} {m m' : List Addr} {B B' : List Addr} {s : S}
theorem ERep.updB {b : Addr} {u : HO} {σ : St} {env : En} (hb : b ∈ B) (h : ERep (g.wB B) H m σ env) : ERep (g.wB B) (upd H b u) m σ env :=
  ⟨h.len, fun i d e => let ⟨v, q, r⟩ := h.at_ i d e; ⟨v, q, r.updB hb⟩⟩
theorem ERep.ext {σ : St} {env : En} (hB : ∀ a ∈ B', a ∈ B ∨ H a = none) (h : ERep (g.wB B) H m σ env) : ERep (g.wB B') H m σ env :=
  ⟨h.len, fun i d e => let ⟨v, q, r⟩ := h.at_ i d e; ⟨v, q, r.ext hB⟩⟩
end
def wipeE (env : En) : List Nat → En
  | [] => env
  | v :: vs => (wipeE env vs).set v none
theorem ERep.wipe {g : Gd} {H : Hp} {m : List Addr} {σ : St} {env : En} (h : ERep g H m σ env) : ∀ vs, ERep g H m (L2.wipe σ vs) (wipeE env vs)
  | [] => h
  | v :: vs => (h.wipe vs).clear v
theorem wipe_get (σ : St) (j : Nat) : ∀ vs : List Nat, (L2.wipe σ vs)[j]? = if j ∈ vs then (if j < σ.length then some none else none) else σ[j]?
  | [] => by simp [L2.wipe]
  | v :: vs => by
    have ih := wipe_get σ j vs
    unfold L2.wipe
    by_cases e : v = j
    · subst e
      rw [if_pos (List.mem_cons_self ..)]
      by_cases hl : v < σ.length
      · rw [List.getElem?_set_self (by rw [wipe_length]; exact hl), if_pos hl]
      · rw [List.getElem?_eq_none (by rw [List.length_set, wipe_length]; omega), if_neg hl]
    · rw [List.getElem?_set_ne e, ih]
      have : (j ∈ v :: vs) ↔ j ∈ vs := by
        rw [List.mem_cons]
        exact ⟨fun h => h.elim (fun q => absurd q.symm e) id, .inr⟩
      simp only [this]
theorem wipe_set (σ : St) {i : Nat} {x : Option V} {vs : List Nat} (h : i ∈ vs) : L2.wipe (σ.set i x) vs = L2.wipe σ vs := by
  apply List.ext_getElem?
  intro j
  rw [wipe_get, wipe_get, List.length_set]
  by_cases hj : j ∈ vs
  · rw [if_pos hj, if_pos hj]
  · rw [if_neg hj, if_neg hj, List.getElem?_set_ne (fun e => hj (by rw [← e]; exact h))]

/-- a comprehension's target: a name, or a tuple of names -/
inductive Tgt where
  | nm (i : Nat) | tp (is : List Nat)
def setAll : List Nat → List D → En → Option En
  | [], [], env => some env
  | i :: is, d :: ds, env => setAll is ds (env.set i (some d))
  | _, _, _ => none
def Tgt.sem : Tgt → D → En → Option En
  | .nm i, d, env => some (env.set i (some d))
  | .tp is, .tup ds, env => setAll is ds env
  | .tp _, _, _ => none
def gNames : List Nat → TGs
  | [] => gNil
  | i :: is => gCons (gName i) (gNames is)
def Tgt.read (K : PySem.W.Frag) : Tgt → TG
  | .nm i => gName i
  | .tp is => gTup K is.length (gNames is)
def Tgt.own : Tgt → List Nat
  | .nm i => [i]
  | .tp is => is
theorem gNames_ok {g : Gd} {H : Hp} {m : List Addr} {vs : List Nat} : ∀ {is : List Nat} {ds : List D} {ws : List V} {σ : St} {env env' : En} {Q : St → Hp → Prop}, (∀ i ∈ is, i ∈ vs) → ERep g H m σ env → Reps g H m ws ds → setAll is ds env = some env' →
    (∀ σ', ERep g H m σ' env' → L2.wipe σ' vs = L2.wipe σ vs → Q σ' H) → gNames is ws σ H Q
  | [], [], _, σ, env, env', Q, _, he, .nil, e, hq => by cases e; exact ⟨rfl, hq σ he rfl⟩
  | i :: is, d :: ds, _, σ, env, env', Q, ho, he, .cons h r, e, hq => by
    refine ⟨_, _, rfl, ?_⟩
    show gNames is _ _ H Q
    exact gNames_ok (fun j hj => ho j (List.mem_cons_of_mem _ hj)) (he.set h i) r e fun σ' he' hw => hq σ' he' (hw.trans (wipe_set σ (ho i (List.mem_cons_self ..))))
  | [], _ :: _, _, _, _, _, _, _, _, _, e, _ => by cases e
  | _ :: _, [], _, _, _, _, _, _, _, _, e, _ => by cases e
theorem setAll_len : ∀ {is : List Nat} {ds : List D} {env env' : En}, setAll is ds env = some env' → ds.length = is.length
  | [], [], _, _, _ => rfl
  | i :: is, d :: ds, _, _, e => congrArg Nat.succ (setAll_len (show setAll is ds _ = _ from e))
  | [], _ :: _, _, _, e => by cases e
  | _ :: _, [], _, _, e => by cases e
theorem Tgt.ok {g : Gd} {H : Hp} {m : List Addr} {vs : List Nat} (t : Tgt) {d : D} {v : V} {σ : St} {env env' : En} {Q : St → Hp → Prop} (ho : ∀ i ∈ t.own, i ∈ vs) (he : ERep g H m σ env) (r : Rep g H m v d) (e : t.sem d env = some env')
    (hq : ∀ σ', ERep g H m σ' env' → L2.wipe σ' vs = L2.wipe σ vs → Q σ' H) : t.read g.K v σ H Q := by
  cases t with
  | nm i =>
    cases e
    exact hq _ (he.set r i) (wipe_set σ (ho i (by simp [Tgt.own])))
  | tp is =>
    cases d with
    | tup ds =>
      obtain ⟨a, ws, rfl, h1, rs⟩ := r.tupI
      have e' : setAll is ds env = some env' := e
      exact ⟨a, ws, rfl, h1, rs.length.trans (setAll_len e'), gNames_ok ho he rs e' hq⟩
    | _ => cases e
open Classical in
noncomputable def compF (still : S → Prop) (t : Tgt) (c : Et) (e : Ev) (env0 : En) : List D → List D → S → R (List D)
  | [], acc, s => if still s then .ok acc s else .bad
  | x :: r, acc, s => if still s ∧ acc.length < sizeLine then (match t.sem x env0 with
    | some env => (match c env s with
      | .ok true s => (match e env s with
        | .ok y s => compF still t c e env0 r (acc ++ [y]) s
        | _ => .bad)
      | .ok false s => compF still t c e env0 r acc s
      | _ => .bad)
    | none => .bad) else .bad
def cYes : Et := fun _ s => .ok true s
noncomputable def cComp (it : Ei) (t : Tgt) (c : Et) (e : Ev) : Ev := fun env s => (it env s).bind fun q s => (compF q.still t c e (wipeE env t.own) q.xs [] s).bind fun xs s => .ok (.lst xs) s
noncomputable def cCompO (it : Ei) (t : Tgt) (c : Et) (e : Ev) : Ev := fun env s => (it env s).bind fun q s => (compF q.still t c e (wipeE env t.own) q.xs [] s).bind fun xs s => .ok (.ref s.length) (s ++ [.lst xs])
abbrev W0 : WX := fun _ _ _ _ => False

theorem t_yes (σ : St) (H : Hp) (Q : Bool → Hp → Prop) {g : Gd} {W : WX} (h : tT g W cYes σ H Q) : L2.tYes σ H Q := by
  obtain ⟨B, env, s, m, he, hr, hk⟩ := h
  exact kR.go hk hr rfl
theorem t_comp0 {g : Gd} {W : WX} {it : Ei} {t : Tgt} {c : Et} {e : Ev} {B : List Addr} {env : En} {s : S} {m : List Addr} {σ : St} {H : Hp} {Q : VK} {k : List D → S → R D}
    (he : ERep (g.wB B) H m σ env) (hr : HRep (g.wB B) H m s) (hk : kE (g.wB B) W σ m H Q ((it env s).bind fun q s => (compF q.still t c e (wipeE env t.own) q.xs [] s).bind k))
    (hend : ∀ (xs : List D) (s2 : S) (m1 : List Addr) (H1 : Hp) (Dd : Addr) (vs : List V), Step m H m1 H1 → HRep (g.wB (Dd :: B)) H1 m1 s2 → kE (g.wB B) W σ m H Q (k xs s2) → H1 Dd = some (.lst vs) → Dd ∉ m1 → Dd ∉ B → H Dd = none → Reps (g.wB (Dd :: B)) H1 m1 vs xs → Q (.ref Dd) H1) :
    tLc (tI g W it) (t.read g.K) (tT g W0 c) (tE g W0 e) t.own σ H Q := by
  refine ⟨B, env, s, m, he, hr, ?_⟩
  cases q : it env s with
  | exc cc fs s1 => rw [q] at hk; exact hk
  | bad => rw [q] at hk; exact hk.elim
  | ok src s1 =>
    rw [q] at hk
    intro J m1 H1 st1 hr1 gs Dd hD
    have fD := hr1.fresh hD
    have hB1 : ∀ a ∈ Dd :: B, a ∈ B ∨ H1 a = none := fun a ha => (List.mem_cons.mp ha).elim (fun e => .inr (by rw [e]; exact hD)) .inl
    have hDH : H Dd = none := by
      cases z : H Dd with
      | none => rfl
      | some u =>
        obtain ⟨u', z'⟩ := st1.trk Dd u z
        rw [hD] at z'; cases z'
    have he1 : ERep (g.wB (Dd :: B)) (upd H1 Dd (.lst [])) m1 σ env := ((he.step st1).ext hB1).updB (List.mem_cons_self ..)
    refine ⟨fun i n H2 => i ≤ src.xs.length ∧ n = src.xs.length - i ∧ ∃ acc accV s2 m2, H2 Dd = some (.lst accV) ∧ Reps (g.wB (Dd :: B)) H2 m2 accV acc ∧ Step m1 H1 m2 H2 ∧ HRep (g.wB (Dd :: B)) H2 m2 s2 ∧ ERep (g.wB (Dd :: B)) H2 m2 σ env ∧ acc.length ≤ sizeLine ∧
        kE (g.wB B) W σ m H Q ((compF src.still t c e (wipeE env t.own) (src.xs.drop i) acc s2).bind k),
      ⟨src.xs.length, by simp, by simp, [], [], s1, m1, upd_same, .nil, Step.new hD, hr1.other hD, he1, by simp, by rw [List.drop_zero]; exact hk⟩, ?_⟩
    rintro i n H2 ⟨hi, rfl, acc, accV, s2, m2, hH2, ra, st2, hr2, he2, hz, hk2⟩
    by_cases hlt : i < src.xs.length
    · rw [List.drop_eq_getElem_cons hlt] at hk2
      simp only [compF] at hk2
      split at hk2
      · rename_i hst
        refine .inr ⟨gs.go (Dd :: B) i H2 m2 s2 hB1 st2 hr2 hst.1 hlt, fun H2 => ∃ acc accV s2 m2, H2 Dd = some (.lst accV) ∧ Reps (g.wB (Dd :: B)) H2 m2 accV acc ∧ Step m1 H1 m2 H2 ∧ HRep (g.wB (Dd :: B)) H2 m2 s2 ∧ ERep (g.wB (Dd :: B)) H2 m2 σ env ∧ acc.length ≤ sizeLine ∧
            kE (g.wB B) W σ m H Q ((compF src.still t c e (wipeE env t.own) (src.xs.drop (i + 1)) acc s2).bind k),
          fun H' w => ⟨src.xs.length - (i + 1), by omega, hlt, rfl, w⟩, fun x H3 y => ?_⟩
        obtain ⟨d, ed, st3, hr3, r3⟩ := gs.yld (Dd :: B) i H2 m2 s2 x H3 hB1 st2 hr2 hst.1 hlt y
        have ed : d = src.xs[i] := by rw [List.getElem?_eq_getElem hlt] at ed; exact (Option.some.inj ed).symm
        subst ed
        have hH3 : H3 Dd = some (.lst accV) := st3.keep _ _ hH2 (hr2.bt Dd (List.mem_cons_self ..)).2
        cases qt : t.sem src.xs[i] (wipeE env t.own) with
        | none => rw [qt] at hk2; exact hk2.elim
        | some env3 =>
          rw [qt] at hk2
          (try dsimp only at hk2)
          refine t.ok (g := g.wB (Dd :: B)) (vs := t.own) (fun _ h => h) ((he2.step st3).wipe t.own) r3 qt fun σ3 he3 hw => ⟨hw.trans ?_, Dd :: B, env3, s2, m2, he3, hr3, ?_⟩
          · apply List.ext_getElem?
            intro j
            rw [wipe_get, wipe_get, wipe_length]
            by_cases hj : j ∈ t.own
            · rw [if_pos hj, if_pos hj]
            · rw [if_neg hj, if_neg hj]
          · cases qc : c env3 s2 with
            | exc cc fs s4 => rw [qc] at hk2; exact hk2.elim
            | bad => rw [qc] at hk2; exact hk2.elim
            | ok b s4 =>
              rw [qc] at hk2
              (try dsimp only at hk2)
              intro bb m4 H4 st4 hr4 rb
              subst rb
              have hH4 : H4 Dd = some (.lst accV) := st4.keep _ _ hH3 (hr3.bt Dd (List.mem_cons_self ..)).2
              cases bb with
              | false =>
                (try dsimp only at hk2)
                refine iteF ⟨acc, accV, s4, m4, hH4, (ra.step st3).step st4, (st2.trans st3).trans st4, hr4, (he2.step st3).step st4, hz, hk2⟩
              | true =>
                (try dsimp only at hk2)
                refine iteT ⟨Dd :: B, env3, s4, m4, he3.step st4, hr4, ?_⟩
                cases qe : e env3 s4 with
                | exc cc fs s5 => rw [qe] at hk2; exact hk2.elim
                | bad => rw [qe] at hk2; exact hk2.elim
                | ok yd s5 =>
                  rw [qe] at hk2
                  (try dsimp only at hk2)
                  intro yv m5 H5 st5 hr5 ry
                  have hH5 : H5 Dd = some (.lst accV) := st5.keep _ _ hH4 (hr4.bt Dd (List.mem_cons_self ..)).2
                  have ra5 := ((ra.step st3).step st4).step st5
                  refine ⟨accV, hH5, by rw [ra.length]; exact hst.2, acc ++ [yd], accV ++ [yv], s5, m5, upd_same, ?_, ((st2.trans st3).trans st4 |>.trans st5).updN hD, hr5.updB (List.mem_cons_self ..), (((he2.step st3).step st4).step st5).updB (List.mem_cons_self ..), ?_, hk2⟩
                  · exact (ra5.append (.cons ry .nil)).updB (List.mem_cons_self ..)
                  · rw [List.length_append, List.length_singleton]; have := hst.2; omega
      · exact hk2.elim
    · have ei : i = src.xs.length := by omega
      subst ei
      rw [List.drop_length] at hk2
      simp only [compF] at hk2
      split at hk2
      · rename_i hst
        refine .inl ⟨gs.stop (Dd :: B) _ H2 m2 s2 hB1 st2 hr2 hst rfl, ?_⟩
        have nb := hr2.bt Dd (List.mem_cons_self ..)
        exact hend acc s2 m2 H2 Dd accV (st1.trans st2) hr2 hk2 hH2 nb.2 fD.2 hDH ra
      · exact hk2.elim
theorem t_comp {g : Gd} {W : WX} {it : Ei} {t : Tgt} {c : Et} {e : Ev} (σ : St) (H : Hp) (Q : VK) (h : tE g W (cComp it t c e) σ H Q) : tLc (tI g W it) (t.read g.K) (tT g W0 c) (tE g W0 e) t.own σ H Q := by
  obtain ⟨B, env, s, m, he, hr, hk⟩ := h
  refine t_comp0 he hr hk fun xs s2 m1 H1 Dd vs st1 hr1 hk1 hH nm nB hDH rs => ?_
  exact hk1 _ m1 _ st1 (hr1.less fun a ha => List.mem_cons_of_mem _ ha) (.lst hH nm nB (rs.ext fun a ha => .inl (List.mem_cons_of_mem _ ha)))
theorem t_compO {g : Gd} {W : WX} {it : Ei} {t : Tgt} {c : Et} {e : Ev} (σ : St) (H : Hp) (Q : VK) (h : tE g W (cCompO it t c e) σ H Q) : tLc (tI g W it) (t.read g.K) (tT g W0 c) (tE g W0 e) t.own σ H Q := by
  obtain ⟨B, env, s, m, he, hr, hk⟩ := h
  refine t_comp0 he hr hk fun xs s2 m1 H1 Dd vs st1 hr1 hk1 hH nm nB hDH rs => ?_
  have st : Step m H (m1 ++ [Dd]) H1 := by
    refine ⟨?_, st1.keep, st1.trk⟩
    obtain ⟨r, e, hn⟩ := st1.pre
    refine ⟨r ++ [Dd], by rw [e, List.append_assoc], fun a ha => ?_⟩
    rcases List.mem_append.mp ha with ha | ha
    · exact hn a ha
    · rw [List.mem_singleton.mp ha]; exact hDH
  exact hk1 _ (m1 ++ [Dd]) _ st (hr1.adopt (u := .lst xs) nB ⟨vs, hH, rs.adopt⟩) (.ref (by rw [← hr1.len]; simp))
end L2.GS

namespace L2.GS
open PySem PySem.Spec PyProof.Rows

/-! ### methods of built-in types -/
def cMeth (ty : D → S → Bool) (o : D → List D → S → R D) (a : Ev) (as : Ea) : Ev := fun env s => (a env s).bind fun x s => if ty x s then (as env s).bind fun xs s => o x xs s else .bad
def isL (x : D) (s : S) : Bool := (rdLs s x).isSome
def isK (x : D) (s : S) : Bool := (rdK s x).isSome
def isStr (x : D) (_ : S) : Bool := match x with
  | .str _ => true
  | _ => false
structure MethG (g : Gd) (T : String) (ty : D → S → Bool) (r : V → List V → Hp → VK → Prop) (o : D → List D → S → R D) : Prop where
  typ : ∀ (H : Hp) (m : List Addr) (s : S) (x : D) (v : V), HRep g H m s → Rep g H m v x → ty x s = true → tyV g.K T v H
  run : ∀ (W : WX) (σ : St) (H : Hp) (m : List Addr) (s : S) (x : D) (v : V) (xs : List D) (vs : List V) (Q : VK), HRep g H m s → Rep g H m v x → Reps g H m vs xs → kE g W σ m H Q (o x xs s) → r v vs H Q
section
variable {g : Gd} {X : Cx} {W : WX} {fa : Ev} {ga : Ea}
theorem t_meth {T : String} {ty : D → S → Bool} {r : V → List V → Hp → VK → Prop} {o : D → List D → S → R D} (ho : ∀ B, MethG (g.wB B) T ty r o) (σ : St) (H : Hp) (Q : VK) (h : tE g W (cMeth ty o fa ga) σ H Q) : tBM g.K T r (tE g W fa) (tA g W ga) σ H Q := by
  obtain ⟨B, env, s, m, he, hr, hk⟩ := h
  refine ⟨B, env, s, m, he, hr, kR.bind hk fun x s1 v m1 H1 _ st1 hr1 r1 hk1 => ?_⟩
  (try dsimp only at hk1)
  split at hk1
  · rename_i ht
    refine ⟨(ho B).typ H1 m1 s1 x v hr1 r1 ht, B, env, s1, m1, he.step st1, hr1, kR.bind hk1 fun xs s2 vs m2 H2 _ st2 hr2 r2 hk2 => ?_⟩
    exact (ho B).run W σ H2 m2 s2 x v xs vs Q hr2 (r1.step st2) r2 hk2
  · exact hk1.elim
theorem t_meth0 {T : String} {ty : D → S → Bool} {r : V → List V → Hp → VK → Prop} {o : D → List D → S → R D} (ho : ∀ B, MethG (g.wB B) T ty r o) (σ : St) (H : Hp) (Q : VK) (h : tE g W (cMeth ty o fa cNil) σ H Q) : tBM0 g.K T r (tE g W fa) σ H Q := by
  obtain ⟨B, env, s, m, he, hr, hk⟩ := h
  refine ⟨B, env, s, m, he, hr, kR.bind hk fun x s1 v m1 H1 _ st1 hr1 r1 hk1 => ?_⟩
  (try dsimp only at hk1)
  split at hk1
  · rename_i ht
    exact ⟨(ho B).typ H1 m1 s1 x v hr1 r1 ht, (ho B).run W σ H1 m1 s1 x v [] [] Q hr1 r1 .nil hk1⟩
  · exact hk1.elim
theorem isL_ty {H : Hp} {m : List Addr} {s : S} {x : D} {v : V} (hr : HRep g H m s) (r : Rep g H m v x) (h : isL x s = true) : tyV g.K "list" v H := by
  obtain ⟨xs, e⟩ := Option.isSome_iff_exists.mp h
  obtain ⟨a, vs, rfl, hq, _⟩ := rdLs_ok hr e r
  exact .inl ⟨rfl, vs, hq⟩
theorem isK_ty {H : Hp} {m : List Addr} {s : S} {x : D} {v : V} (hr : HRep g H m s) (r : Rep g H m v x) (h : isK x s = true) : tyV g.K "dict" v H := by
  obtain ⟨xs, e⟩ := Option.isSome_iff_exists.mp h
  obtain ⟨a, vs, rfl, hq, _⟩ := rdK_ok hr e r
  exact .inr (.inr (.inl ⟨rfl, .inl ⟨vs, hq⟩⟩))
theorem isStr_ty {H : Hp} {m : List Addr} {s : S} {x : D} {v : V} (hr : HRep g H m s) (r : Rep g H m v x) (h : isStr x s = true) : tyV g.K "str" v H := by
  cases x <;> first | (simp [isStr] at h; done) | skip
  cases r
  rfl
/-- an owned list is written -/
theorem wrL {H : Hp} {m : List Addr} {s : S} {n : Nat} {v : V} {xs ys : List D} {Q : VK} {σ : St} {x : D} (hr : HRep g H m s) (r : Rep g H m v (.ref n)) (e : s[n]? = some (.lst xs)) (hk : kE g W σ m H Q (.ok x (s.set n (.lst ys)))) :
    ∃ a vs, v = .ref a ∧ H a = some (.lst vs) ∧ Reps g H m vs xs ∧ ∀ ws u, Reps g H m ws ys → Rep g (upd H a (.lst ws)) m u x → Q u (upd H a (.lst ws)) := by
  cases r with
  | @ref a _ ha =>
    obtain ⟨o, h2, ro⟩ := hr.at ha
    rw [e] at h2; cases h2
    obtain ⟨vs, hH, rs⟩ := ro
    refine ⟨a, vs, rfl, hH, rs, fun ws u rw' ru => hk u m _ (Step.set (List.mem_of_getElem? ha)) (hr.set ha ⟨ws, upd_same, rw'.step (Step.set (List.mem_of_getElem? ha))⟩) ru⟩
def appendO (x : D) (xs : List D) (s : S) : R D := match x, xs with
  | .ref n, [y] => match s[n]? with
    | some (.lst zs) => if zs.length < sizeLine then .ok .non (s.set n (.lst (zs ++ [y]))) else .bad
    | _ => .bad
  | _, _ => .bad
theorem g_append : MethG g "list" isL rAppend appendO where
  typ := fun H m s x v hr r h => isL_ty hr r h
  run := fun W σ H m s x v xs vs Q hr rx rs hk => by
    unfold appendO at hk
    split at hk
    · split at hk
      · rename_i n y zs e
        split at hk
        · rename_i hl
          obtain ⟨w, rfl, rw'⟩ := rs.one
          obtain ⟨a, us, rfl, hH, ru, q⟩ := wrL hr rx e hk
          exact ⟨a, us, w, rfl, rfl, hH, by rw [ru.length]; exact hl, q _ _ (ru.append (Reps.cons rw' Reps.nil)) .non⟩
        · exact hk.elim
      · exact hk.elim
    · exact hk.elim
/-! xs.extend(t), t a tuple -/
theorem list_extend_tupleW (l : Addr) (items : Array Value) (n : Nat) (b : Addr) (items2 : Array Value) (n2 : Nat) (dd : Option Addr) (sl : Array (Option Value)) (hs0 : ¬(!items.isEmpty && Builtin.List.listTooLong (items.size + items2.size)) = true) (hs1 : items.size ≤ sizeLine) (hs2 : items.size + items2.size ≤ sizeLine + 1) :
    Meets (Builtin.«list.extend» ⟨[.ref l, .ref b], []⟩) (fun _ Rr s => s.heap.get? l = some { cls := .type "list", dict := none, data := .seq items n, slots := #[] } ∧ s.heap.get? b = some { cls := .type "tuple", dict := dd, data := .seq items2 n2, slots := sl } ∧ Rr (.ok (.ret Value.none)) { s with heap := s.heap.update l (Obj.mapSeq fun x => x ++ items2), toks := s.toks }) :=
  .of_wp fun prog w A Rr s h => by
    obtain ⟨hp, g, d, tk, os⟩ := s; obtain ⟨hl, hb, h⟩ := h; have f1 := PySem.AutoSeq1.idx_int; have f2 := PySem.AutoSeq1.sub_tuple_tuple; have f3 := PySem.AutoSeq1.sub_list_list; have f4 := PySem.AutoSeq1.sub_tuple_list; have f5 := PySem.AutoSeq1.sub_list_tuple;
    have hz' : (items ++ items2).size ≤ sizeLine + 1 := by rw [Array.size_append]; exact hs2
    wp_walk using (wpAny_updateSeq hl rfl (hz := hs1) (_hz' := hz')), PySem.AutoSeq1.wpAny_loadPart' hl, PySem.AutoSeq1.wpAny_loadPart' hb; exact ⟨_, rfl, h⟩
def rExtT (K : PySem.W.Frag) : V → List V → Hp → VK → Prop := fun x vs H Q => ∃ l b xs zs, x = .ref l ∧ vs = [.ref b] ∧ H l = some (.lst xs) ∧ SqT K H b zs ∧ xs.length + zs.length ≤ sizeLine ∧ Q .non (upd H l (.lst (xs ++ zs)))
theorem mt_extT : MtM X "list.extend" (rExtT X.K) := by
  intro pins s σ H x vs v us Q I rx rv h
  obtain ⟨l, b, xs, zs, rfl, rfl, hH, hB, hz, q⟩ := h
  cases rx
  obtain ⟨u, rfl, ru⟩ := rv.one
  cases ru
  obtain ⟨z, its, n, r, hl, e⟩ := I.lstM hH
  obtain ⟨its2, r2, ht, hz2⟩ := I.tuple hB
  obtain ⟨⟨cls, dd, data, sl⟩, ho, hc, n2, hd⟩ := ht
  simp only at hc hd
  subst hc hd
  have hl2 := r2.length
  have hsz : its.toArray.size + its2.toArray.size ≤ sizeLine := by rw [List.size_toArray, List.size_toArray]; omega
  have hlong : ¬ (!its.toArray.isEmpty && Builtin.List.listTooLong (its.toArray.size + its2.toArray.size)) = true := by
    rw [notLongL hsz, Bool.and_false]
    exact Bool.false_ne_true
  refine call_meets F.slot_list_extend ⟨_, e, rfl⟩ F.entry_list_extend (F.args_list_extend_2 _ _)
    (list_extend_tupleW l its.toArray n b its2.toArray n2 dd sl hlong (by rw [List.size_toArray]; omega) (by omega)) ⟨e, ho, ?_⟩
  refine ⟨.non, _, I.lset (its' := its ++ its2) hH e (by simp) (r.append r2) ?_, rfl, q⟩
  rw [List.length_append]
  omega
def extendO (x : D) (xs : List D) (s : S) : R D := match x, xs with
  | .ref n, [y] => match s[n]? with
    | some (.lst zs) => (match y with
      | .tup ys => if zs.length + ys.length ≤ sizeLine then .ok .non (s.set n (.lst (zs ++ ys))) else .bad
      | y => match rdL s y with
        | some ys => if zs.length + ys.length ≤ sizeLine then .ok .non (s.set n (.lst (zs ++ ys))) else .bad
        | none => .bad)
    | _ => .bad
  | _, _ => .bad
abbrev rExtO (K : PySem.W.Frag) : V → List V → Hp → VK → Prop := fun x vs H Q => rExtend x vs H Q ∨ rExtT K x vs H Q
theorem mt_extO : MtR X "list.extend" (rExtO X.K) := MtR.or mt_extend mt_extT
theorem g_extend : MethG g "list" isL (rExtO g.K) extendO where
  typ := fun H m s x v hr r h => isL_ty hr r h
  run := fun W σ H m s x v xs vs Q hr rx rs hk => by
    unfold extendO at hk
    split at hk
    · split at hk
      · rename_i n y zs e
        split at hk
        · split at hk
          · rename_i ys hl
            obtain ⟨w, rfl, rw'⟩ := rs.one
            obtain ⟨b, ws, rfl, hb, rb⟩ := rw'.tupI
            obtain ⟨a, us, rfl, hH, ru, q⟩ := wrL hr rx e hk
            exact .inr ⟨a, b, us, ws, rfl, rfl, hH, hb, by rw [ru.length, rb.length]; exact hl, q _ _ (ru.append rb) .non⟩
          · exact hk.elim
        · split at hk
          · rename_i ys e2
            split at hk
            · rename_i hl
              obtain ⟨w, rfl, rw'⟩ := rs.one
              obtain ⟨b, ws, rfl, hb, rb⟩ := rdL_ok hr e2 rw'
              obtain ⟨a, us, rfl, hH, ru, q⟩ := wrL hr rx e hk
              exact .inl ⟨a, b, us, ws, rfl, rfl, hH, hb, by rw [ru.length, rb.length]; exact hl, q _ _ (ru.append rb) .non⟩
            · exact hk.elim
          · exact hk.elim
      · exact hk.elim
    · exact hk.elim
/-! texts -/
def joinO (x : D) (xs : List D) (s : S) : R D := match x, xs with
  | .str a, [y] => match (match y with
      | .tup ys => strs? ys
      | y => (rdLs s y).bind strs?) with
    | some ys => if (ys.map (·.length)).sum + ys.length * a.length ≤ 16777216 then .ok (.str (Txt.join a ys)) s else .bad
    | none => .bad
  | _, _ => .bad
abbrev rJoin (K : PySem.W.Frag) : V → List V → Hp → VK → Prop := fun x xs H Q => ∃ a p, ∃ ys : List Str, x = .str a ∧ xs = [.ref p] ∧ (SqL K H p (ys.map V.str) ∨ SqT K H p (ys.map V.str)) ∧
    (ys.map (·.length)).sum + ys.length * a.length ≤ 16777216 ∧ Q (.str (Txt.join a ys)) H
theorem g_join : MethG g "str" isStr (rJoin g.K) joinO where
  typ := fun H m s x v hr r h => isStr_ty hr r h
  run := fun W σ H m s x v xs vs Q hr rx rs hk => by
    unfold joinO at hk
    split at hk
    · rename_i a y
      cases rx
      obtain ⟨w, rfl, rw'⟩ := rs.one
      split at hk
      · rename_i ys e
        split at hk
        · rename_i hl
          cases y with
          | tup zs =>
            obtain ⟨b, ws, rfl, hb, rb⟩ := rw'.tupI
            have e2 := strs_of e
            subst e2
            rw [rb.strs] at hb
            exact ⟨a, b, ys, rfl, rfl, .inr hb, hl, kR.go hk hr .str⟩
          | _ =>
            obtain ⟨zs, e1, e2⟩ := Option.bind_eq_some_iff.mp e
            obtain ⟨b, ws, rfl, hb, rb⟩ := rdLs_ok hr e1 rw'
            have e3 := strs_of e2
            subst e3
            rw [rb.strs] at hb
            exact ⟨a, b, ys, rfl, rfl, .inl hb, hl, kR.go hk hr .str⟩
        · exact hk.elim
      · exact hk.elim
    · exact hk.elim
def splitO (x : D) (xs : List D) (s : S) : R D := match x, xs with
  | .str a, [.str b] => if b.length ≠ 0 ∧ a.length + 2 ≤ sizeLine then .ok (.lst ((Txt.split a b).map .str)) s else .bad
  | _, _ => .bad
abbrev rSplit : V → List V → Hp → VK → Prop := fun x xs H Q => ∃ a b, x = .str a ∧ xs = [.str b] ∧ (b.length == 0) = false ∧ a.length + 2 ≤ sizeLine ∧ rNewStrs (Txt.split a b) H Q
theorem g_split : MethG g "str" isStr rSplit splitO where
  typ := fun H m s x v hr r h => isStr_ty hr r h
  run := fun W σ H m s x v xs vs Q hr rx rs hk => by
    unfold splitO at hk
    split at hk
    · rename_i a b
      cases rx
      obtain ⟨w, rfl, rw'⟩ := rs.one
      cases rw'
      split at hk
      · rename_i hl
        exact ⟨a, b, rfl, rfl, by simpa using hl.1, hl.2, fun p hp => kE.newL hk hr hp (Reps.ofStrs _)⟩
      · exact hk.elim
    · exact hk.elim
def countO (x : D) (xs : List D) (s : S) : R D := match x, xs with
  | .str a, [.str b] => .ok (.int (Txt.count a b)) s
  | _, _ => .bad
abbrev rCount : V → List V → Hp → VK → Prop := fun x xs H Q => ∃ a b, x = .str a ∧ xs = [.str b] ∧ Q (.int (Txt.count a b)) H
theorem g_count : MethG g "str" isStr rCount countO where
  typ := fun H m s x v hr r h => isStr_ty hr r h
  run := fun W σ H m s x v xs vs Q hr rx rs hk => by
    unfold countO at hk
    split at hk
    · rename_i a b
      cases rx
      obtain ⟨w, rfl, rw'⟩ := rs.one
      cases rw'
      exact ⟨a, b, rfl, rfl, kR.go hk hr .int⟩
    · exact hk.elim
/-! dicts -/
def getO (x : D) (xs : List D) (s : S) : R D := match xs with
  | [y] => (match rdK s x, key? y with
    | some kvs, some k => .ok ((valD kvs k).getD .non) s
    | _, _ => .bad)
  | [y, z] => (match rdK s x, key? y with
    | some kvs, some k => .ok ((valD kvs k).getD z) s
    | _, _ => .bad)
  | _ => .bad
def rGet : V → List V → Hp → VK → Prop := fun x xs H Q => ∃ a y o, x = .ref a ∧ DGet H a y o ∧ ((xs = [y] ∧ Q (o.getD .non) H) ∨ ∃ z, xs = [y, z] ∧ Q (o.getD z) H)
theorem mt_get (hu : X.A.units + 1 < cLine) : MtR X "dict.get" rGet := by
  intro pins s σ H x xs v us Q I rx rs h
  obtain ⟨a, y, o, rfl, hg, h⟩ := h
  obtain rfl : v = Value.ref a := rx
  rcases h with ⟨rfl, q⟩ | ⟨z, rfl, q⟩
  · obtain ⟨u, rfl, ru⟩ := vals1 rs
    exact d_get1 hu I hg ru fun w' s' I' r' => ⟨_, H, I', r', q⟩
  · obtain ⟨u, w', rfl, ru, rw'⟩ := vals2 rs
    exact d_get2 hu I hg ru rw' fun w' s' I' r' => ⟨_, H, I', r', q⟩
theorem RepO.getD {H : Hp} {m : List Addr} {o : Option V} {p : Option D} {v : V} {d : D} (r : RepO g H m o p) (q : Rep g H m v d) : Rep g H m (o.getD v) (p.getD d) := by
  cases o <;> cases p <;> first | exact r.elim | exact q | exact r
theorem g_get : MethG g "dict" isK rGet getO where
  typ := fun H m s x v hr r h => isK_ty hr r h
  run := fun W σ H m s x v xs vs Q hr rx rs hk => by
    unfold getO at hk
    split at hk
    · split at hk
      · rename_i kvs k e1 e2
        obtain ⟨w, rfl, rw'⟩ := rs.one
        obtain ⟨a, us, rfl, hH, ru⟩ := rdK_ok hr e1 rx
        have ek := rw'.key e2
        subst ek
        exact ⟨a, _, _, rfl, DGet.k hH, .inl ⟨rfl, kR.go hk hr ((ru.val k).getD .non)⟩⟩
      · exact hk.elim
    · split at hk
      · rename_i kvs k e1 e2
        obtain ⟨w, w2, rfl, rw', rw2⟩ := rs.two
        obtain ⟨a, us, rfl, hH, ru⟩ := rdK_ok hr e1 rx
        have ek := rw'.key e2
        subst ek
        exact ⟨a, _, _, rfl, DGet.k hH, .inr ⟨_, rfl, kR.go hk hr ((ru.val k).getD rw2)⟩⟩
      · exact hk.elim
    · exact hk.elim
end

/-! ### a def's promise -/
def spF (K : PySem.W.Frag) (mg : Str → Option Value) (n : Nat) (F : Fn) : Sp := fun vs H Q E => vs.length = n ∧ ∃ B ds s m, HRep ⟨K, mg, B⟩ H m s ∧ Reps ⟨K, mg, B⟩ H m vs ds ∧ match F ds s with
  | .ok d s' => ∀ v m' H', Step m H m' H' → HRep ⟨K, mg, B⟩ H' m' s' → Rep ⟨K, mg, B⟩ H' m' v d → Q v H'
  | .exc c fs s' => ∀ C d m' H', Step m H m' H' → HRep ⟨K, mg, B⟩ H' m' s' → mg c = some (.ref C) → XFs ⟨K, mg, B⟩ H' m' d fs → E (.ref C) d H'
  | .bad => False
def cCall (n : Nat) (F : Fn) (as : Ea) : Ev := fun env s => (as env s).bind fun xs s => if xs.length = n then F xs s else .bad
section
variable {g : Gd} {W : WX} {ga : Ea}
theorem t_call {n : Nat} {F : Fn} (σ : St) (H : Hp) (Q : VK) (h : tE g W (cCall n F ga) σ H Q) : tCallS (spF g.K g.mg n F) (WE W) (tA g W ga) σ H Q := by
  obtain ⟨B, env, s, m, he, hr, hk⟩ := h
  refine ⟨B, env, s, m, he, hr, kR.bind hk fun xs s1 vs m1 H1 _ st1 hr1 r1 hk1 => ?_⟩
  (try dsimp only at hk1)
  split at hk1
  · rename_i hl
    refine ⟨r1.length.trans hl, B, xs, s1, m1, hr1, r1, ?_⟩
    cases q : F xs s1 with
    | ok d s2 => rw [q] at hk1; exact hk1
    | exc c fs s2 => rw [q] at hk1; exact fun C d m' H' st hr' hc x => hk1 m' H' C d st hr' hc x
    | bad => rw [q] at hk1; exact hk1
  · exact hk1.elim
end
/-- a body, run at the parameters -/
def startE (N : Nat) (ds : List D) : En := ds.map some ++ List.replicate (N - ds.length) none
def runB (N : Nat) (b : Est) : Fn := fun ds s => match b (startE N ds) s with
  | .rt d s => .ok d s
  | .nx _ s => .ok .non s
  | .exc c fs _ s => .exc c fs s
  | _ => .bad
theorem ERep.start {g : Gd} {H : Hp} {m : List Addr} {N : List Str} : ∀ {vs : List V} {ds : List D}, Reps g H m vs ds → vs.length ≤ N.length → ERep g H m (L2.start N vs) (startE N.length ds) := by
  intro vs ds r hl
  refine ⟨?_, fun i d e => ?_⟩
  · unfold L2.start startE
    rw [List.length_append, List.length_append, List.length_map, List.length_map, List.length_replicate, List.length_replicate, r.length]
  · unfold startE at e
    by_cases hi : i < ds.length
    · rw [List.getElem?_append_left (by simpa using hi), List.getElem?_map] at e
      cases q : ds[i]? with
      | none => rw [q] at e; cases e
      | some d' =>
        rw [q] at e; cases e
        obtain ⟨v, e2, rv⟩ := r.get q
        refine ⟨v, ?_, rv⟩
        unfold L2.start
        rw [List.getElem?_append_left (by rw [List.length_map, r.length]; exact hi), List.getElem?_map, e2]
        rfl
    · rw [List.getElem?_append_right (by simpa using hi), List.getElem?_replicate] at e
      split at e <;> cases e
/-- THE RULE of a def -/
theorem fn_body {P : Program} {w : World} {K : PySem.W.Frag} {mg : Str → Option Value} {base : Heap} {x qual : Str} {params : Arguments} {body : List Stmt} {scope : Scope} {dvs : List V} {kws : List (Str × V)} {f : Addr} {fd : FuncData} {N ps : List Str} {k : Nat} {b : Est}
    (F : FunD K x qual params body scope dvs kws f fd) (Sc : FnScope N ps scope)
    (hb : ∀ (X : Cx) (W : WX), X.prog = P → X.w = w → X.K = K → X.mg = mg → X.base = base → X.N = N → X.env.scope = scope → X.stack = X.env :: X.outer → X.env.frame = some X.env.locals → X.calm = true → X.fn = (fun _ => true) → Room k X.A → Takes X W → PassesOwn (model X.prog X.w) X.A X.env X.xe →
      PSs X body (tS ⟨K, mg, []⟩ W b)) : FnOk P w K mg base (L2.CX P w) (k + 1) f fd ps (spF K mg ps.length (runB N.length b)) := by
  refine F.ok Sc (fun vs H Q E h => h.1) (fun cdv A outer s H vs Q E hr h => ?_)
  obtain ⟨hl, B, ds, st, m, hrep, rs, hk⟩ := h
  refine ⟨_, hb _ (fun c d _ H => E c d H) rfl rfl rfl rfl rfl rfl rfl rfl rfl rfl rfl hr (takes_of rfl rfl rfl rfl) (passes_of rfl), ?_⟩
  have hpl : ps.length ≤ N.length := by have := congrArg List.length Sc.pre; rw [List.length_take] at this; omega
  refine ⟨B, startE N.length ds, st, m, ERep.start rs (by omega), hrep, ?_⟩
  unfold runB at hk
  cases q : b (startE N.length ds) st with
  | rt d s2 => rw [q] at hk; exact hk
  | nx e s2 => rw [q] at hk; exact fun σ' m' H' st' hr' he' => hk .non m' H' st' hr' .non
  | exc c fs e s2 => rw [q] at hk; exact fun σ' m' H' st' he' m2 H2 C d st2 hr2 hc x => hk C d m2 H2 (st'.trans st2) hr2 hc x
  | bk e s2 => rw [q] at hk; exact hk.elim
  | ct e s2 => rw [q] at hk; exact hk.elim
  | bad => rw [q] at hk; exact hk.elim
end L2.GS

namespace L2.GS
open PySem PySem.Spec PyProof.Rows

/-! ### zip of what can be walked: lists, tuples, texts -/
inductive ZV where
  | l (a : Addr) | t (a : Addr) | s (z : Str)
def signsV (z : Str) : List V := z.cps.toList.map fun c => V.str ⟨#[c]⟩
def ZV.has (K : PySem.W.Frag) (H : Hp) : ZV → List V → Prop
  | .l a, xs => SqL K H a xs
  | .t a, xs => SqT K H a xs
  | .s z, xs => xs = signsV z
def ZV.it (i : Addr) : ZV → Nat → Heap → Prop
  | .l a => fun k h => h.IsListIter i a k
  | .t a => fun k h => h.IsTupleIter i a k
  | .s z => fun k h => ∃ tk, h.IsStrIter i (strIterType z) z tk k
def ZV.src : ZV → V
  | .l a => .ref a
  | .t a => .ref a
  | .s z => .str z
def ZV.ads : ZV → List Addr
  | .l a => [a]
  | .t a => [a]
  | .s _ => []
theorem vals_back : ∀ {xs : List V} {us : List Value} {i : Nat} {u : Value}, Vals xs us → us[i]? = some u → ∃ x, xs[i]? = some x ∧ RelV x u
  | _, _, 0, u, .cons r _, h => by cases h; exact ⟨_, rfl, r⟩
  | _ :: xs, _ :: us, i + 1, u, .cons _ rs, h => by
    have q := vals_back (xs := xs) (us := us) (i := i) (u := u) rs (by simpa using h)
    obtain ⟨x, e, r⟩ := q
    exact ⟨x, by simpa using e, r⟩
  | _, _, _, _, .nil, h => by cases h
section
variable {X : Cx} {pins : List (Addr × Obj)} {σ : St} {H : Hp} {s : Shared}
theorem signsV_get {z : Str} {j : Nat} {c : Nat} (h : z.cps[j]? = some c) : (signsV z)[j]? = some (.str ⟨#[c]⟩) := by
  unfold signsV
  rw [List.getElem?_map, Array.getElem?_toList, h]; rfl
theorem zv_draw (I : Inv X pins σ H s) {A : Around} (hh : A.handled = none) {p : ZV} {xs : List V} (h : p.has X.K H xs) {it : Addr} {i : Nat} (st : p.it it i s.heap) (hne : it ∉ p.ads) :
    ∃ (P : Nat → Value → Prop) (St : Nat → Heap → Prop), Draws X.prog X.w A it (it :: p.ads) xs.length P St ∧ St i s.heap ∧ (∀ j v, P j v → ∃ x, xs[j]? = some x ∧ RelV x v) ∧ ∀ j h, St j h → p.it it j h := by
  cases p with
  | l a =>
    obtain ⟨its, rv, p', _⟩ := I.list h
    have hne' : a ≠ it := fun e => hne (by rw [← e]; exact List.mem_singleton.mpr rfl)
    have D := Draws.list (prog := X.prog) (w := X.w) hh it a hne' its.toArray
    have hl : its.toArray.size = xs.length := by simp [rv.length]
    rw [hl] at D
    refine ⟨_, _, D, ⟨st, p'.isList⟩, fun j v hv => ?_, fun j h q => q.1⟩
    have hv' : its[j]? = some v := by simpa using hv
    obtain ⟨x, e, r⟩ := vals_back rv hv'
    exact ⟨x, e, r⟩
  | t a =>
    obtain ⟨its, rv, p', _⟩ := I.tuple h
    have hne' : a ≠ it := fun e => hne (by rw [← e]; exact List.mem_singleton.mpr rfl)
    have D := Draws.tuple (prog := X.prog) (w := X.w) hh it a hne' its.toArray
    have hl : its.toArray.size = xs.length := by simp [rv.length]
    rw [hl] at D
    refine ⟨_, _, D, ⟨st, p'⟩, fun j v hv => ?_, fun j h q => q.1⟩
    have hv' : its[j]? = some v := by simpa using hv
    obtain ⟨x, e, r⟩ := vals_back rv hv'
    exact ⟨x, e, r⟩
  | s z =>
    obtain ⟨tk, st⟩ := st
    have e : xs = signsV z := h
    subst e
    have D := Draws.text (prog := X.prog) (w := X.w) hh it z tk
    have hl : z.cps.size = (signsV z).length := by simp [signsV]
    rw [hl] at D
    refine ⟨_, _, D, st, fun j v hv => ?_, fun j h q => ⟨tk, q⟩⟩
    obtain ⟨c, u, hc, rfl⟩ := hv
    exact ⟨_, signsV_get hc, ⟨u, rfl⟩⟩
end
theorem zv_inj {X : Cx} {pins : List (Addr × Obj)} {σ : St} {H : Hp} {s : Shared} (I : Inv X pins σ H s) {p : ZV} {xs ys : List V} (h : p.has X.K H xs) (h' : p.has X.K H ys) : xs = ys := by
  cases p with
  | l a => exact I.list_inj h h'
  | t a => exact I.tuple_inj h h'
  | s z => exact Eq.trans (show xs = signsV z from h) (Eq.symm (show ys = signsV z from h'))
/-- what two walked things give at each turn, in new pairs -/
def ItzG (K : PySem.W.Frag) (p q : ZV) : It :=
  ⟨fun i H => ∃ (xs ys : List V) (x y : V), p.has K H xs ∧ q.has K H ys ∧ xs[i]? = some x ∧ ys[i]? = some y,
    fun i H v H' => ∃ T x y, v = .ref T ∧ H T = none ∧ H' = upd H T (.tup [x, y]) ∧ (∀ xs, p.has K H xs → xs[i]? = some x) ∧ ∀ ys, q.has K H ys → ys[i]? = some y,
    fun i H => ∃ xs ys : List V, p.has K H xs ∧ q.has K H ys ∧ i ≤ xs.length ∧ i ≤ ys.length ∧ (i = xs.length ∨ i = ys.length)⟩
theorem zv_obj {p : ZV} {it : Addr} {i : Nat} {h : Heap} (st : p.it it i h) : ∃ o vs, h.get? it = some o ∧ o.data = .fields vs := by
  cases p with
  | l a => obtain ⟨o, e, _, d⟩ := st; exact ⟨o, _, e, d⟩
  | t a => obtain ⟨o, e, _, d⟩ := st; exact ⟨o, _, e, d⟩
  | s z => obtain ⟨tk, o, e, _, d⟩ := st; exact ⟨o, _, e, d⟩
theorem zv_at {p : ZV} {it : Addr} {i : Nat} {h h' : Heap} (st : p.it it i h) (k : ∀ o, h.get? it = some o → h'.get? it = some o) : p.it it i h' := by
  cases p with
  | l a => exact Heap.IsListIter.at st k
  | t a => exact Heap.IsTupleIter.at st k
  | s z => obtain ⟨tk, o, e, r⟩ := st; exact ⟨tk, o, k o e, r⟩
theorem turn_zipG {P : Program} {w : World} {K : PySem.W.Frag} {elts : List Expr} {kk : Nat} {tpos : Pos} {p q : ZV} {z TI TO i1 i2 : Addr} (D : ZipSep2 z TI TO i1 i2 (i1 :: p.ads) (i2 :: q.ads)) (n1 : i1 ∉ p.ads) (n2 : i2 ∉ q.ads) :
    Turn P w K (.Tuple elts kk tpos) (ItzG K p q) [z, TI, TO, i1, i2] z (fun i h => IsZip h z TI TO .none ∧ IsTupOf2 h TI (.ref i1) (.ref i2) ∧ (∃ x y, IsTupOf2 h TO x y) ∧ p.it i1 i h ∧ q.it i2 i h) where
  mem := by simp
  obj := fun i h st c hc => by
    obtain ⟨hz, hTI, ⟨x, y, hTO⟩, h1, h2⟩ := st
    obtain ⟨o1, v1, e1, d1⟩ := zv_obj h1
    obtain ⟨o2, v2, e2, d2⟩ := zv_obj h2
    have e' : c = z ∨ c = TI ∨ c = TO ∨ c = i1 ∨ c = i2 := by simpa using hc
    rcases e' with q | q | q | q | q
    · rw [q]; exact ⟨_, hz, fun v q => nomatch q⟩
    · rw [q]; exact ⟨_, hTI, fun v q => nomatch q⟩
    · rw [q]; exact ⟨_, hTO, fun v q => nomatch q⟩
    · rw [q]; exact ⟨o1, e1, fun v q => by rw [d1] at q; cases q⟩
    · rw [q]; exact ⟨o2, e2, fun v q => by rw [d2] at q; cases q⟩
  keep := fun i h h' st k => by
    obtain ⟨hz, hTI, ⟨x, y, hTO⟩, h1, h2⟩ := st
    exact ⟨k z (by simp) _ hz, k TI (by simp) _ hTI, ⟨x, y, k TO (by simp) _ hTO⟩, zv_at h1 fun o q => k i1 (by simp) o q, zv_at h2 fun o q => k i2 (by simp) o q⟩
  item := by
    intro X hP hw hK hc i pins s σ H E I hf st hg
    subst hP hw hK
    obtain ⟨hz, hTI, ⟨x0, y0, hTO⟩, h1, h2⟩ := st
    obtain ⟨xs, ys, x, y, hqx, hqy, hx, hy⟩ := hg
    obtain ⟨P1, S1, D1, s1, r1, b1⟩ := zv_draw I (A := X.A.in1) (I.ok.hd hc) hqx h1 n1
    obtain ⟨P2, S2, D2, s2, r2, b2⟩ := zv_draw I (A := X.A.in1) (I.ok.hd hc) hqy h2 n2
    have hzl : z < s.heap.objs.size := Heap.lt_size hz
    have l1 := (List.getElem?_eq_some_iff.mp hx).1
    have l2 := (List.getElem?_eq_some_iff.mp hy).1
    refine wpAny_pyNext_zipD2_item D D1 D2 hz hTI hTO s1 s2 l1 l2 fun u u2 h' tk p1 p2 z' TO' st1' st2' hT hsz hk => ?_
    have h1' := b1 _ _ st1'
    have h2' := b2 _ _ st2'
    obtain ⟨x', ex, ru⟩ := r1 _ _ p1
    obtain ⟨y', ey, ru2⟩ := r2 _ _ p2
    rw [hx] at ex; cases ex
    rw [hy] at ey; cases ey
    refine ⟨_, rfl, wpAny_letOwnedTupleGo_zip (s := { s with heap := h', toks := tk }) z' fun h'' z'' sb => ?_⟩
    have hT2 : h''.get? s.heap.objs.size = some { cls := .type "tuple", data := .seq #[u, u2] } := (sb.2 _ (Nat.ne_of_gt hzl)).trans hT
    have new : ObjOk X.prog X.w (upd H s.heap.objs.size (.tup [x, y])) h'' s.heap.objs.size (.tup [x, y]) :=
      ⟨by show 2 ≤ sizeLine; decide, [u, u2], .cons ru (.cons ru2 .nil), ⟨_, hT2, rfl, _, rfl⟩⟩
    have I1 : Inv X pins σ (upd H s.heap.objs.size (.tup [x, y])) { s with heap := h'', toks := tk } :=
      I.turnedNew (t' := tk) (ch := [z, TI, TO, i1, i2]) (fun c o hb q => (sb.2 c (fun q' => hb (by simp [q']))).trans (hk c o (fun q' => hb (by simp [q'])) (fun q' => hb (by simp [q'])) (fun q' => hb (by simp [q'])) (fun q' => hb (by simp [q'])) q)) hf (Nat.le_refl _) new
    refine ⟨.ref s.heap.objs.size, _, I1, rfl, ⟨_, x, y, rfl, I.hok.fresh (Nat.le_refl _), rfl, fun l hl => by rw [zv_inj I hl hqx]; exact hx, fun l hl => by rw [zv_inj I hl hqy]; exact hy⟩, ⟨z'', ?_, ⟨u, u2, ?_⟩, ?_, ?_⟩, fun c hcm => ?_⟩
    · exact (sb.2 _ D.TIz).trans (hk _ _ D.TIz D.TITO D.TIi1 D.TIi2 hTI)
    · exact (sb.2 _ D.TOz).trans TO'
    · exact zv_at h1' fun o q => (sb.2 _ D.zi1.symm).trans q
    · exact zv_at h2' fun o q => (sb.2 _ D.zi2.symm).trans q
    · have hlt : c < s.heap.objs.size := by
        have e' : c = z ∨ c = TI ∨ c = TO ∨ c = i1 ∨ c = i2 := by simpa using hcm
        rcases e' with q | q | q | q | q
        · rw [q]; exact hzl
        · rw [q]; exact Heap.lt_size hTI
        · rw [q]; exact Heap.lt_size hTO
        · rw [q]; obtain ⟨_, _, e1, _⟩ := zv_obj h1; exact Heap.lt_size e1
        · rw [q]; obtain ⟨_, _, e2, _⟩ := zv_obj h2; exact Heap.lt_size e2
      rw [upd_ne (Nat.ne_of_lt hlt)]
      exact (hf c hcm).1
  done := by
    intro X hP hw hK hc i pins s σ H E I hf st hg
    subst hP hw hK
    obtain ⟨hz, hTI, ⟨x0, y0, hTO⟩, h1, h2⟩ := st
    obtain ⟨xs, ys, hqx, hqy, hle1, hle2, hend⟩ := hg
    obtain ⟨P1, S1, D1, s1, r1, b1⟩ := zv_draw I (A := X.A.in1) (I.ok.hd hc) hqx h1 n1
    obtain ⟨P2, S2, D2, s2, r2, b2⟩ := zv_draw I (A := X.A.in1) (I.ok.hd hc) hqy h2 n2
    exact wpAny_pyNext_zipD2_end D D1 D2 hz hTI hTO s1 s2 hle1 hle2 hend fun h' tk hk => ⟨rfl, I.turnedL (t' := tk) (ch := [z, TI, TO, i1, i2]) (fun c o hb q =>
      hk c o (fun q' => hb (by simp [q'])) (fun q' => hb (by simp [q'])) (fun q' => hb (by simp [q'])) (fun q' => hb (by simp [q'])) q) hf⟩
  self := fun A i s Q E st h => wpAny_pyIter_zip st.1 h

def iZipG (K : PySem.W.Frag) (ta : TA) : TI := fun σ H R => ta σ H fun vs H1 => ∃ p q : ZV, ∃ xs ys, vs = [p.src, q.src] ∧ p.has K H1 xs ∧ q.has K H1 ys ∧ R (ItzG K p q) H1
theorem zv_begins {X : Cx} {pins : List (Addr × Obj)} {σ : St} {H : Hp} {s : Shared} (I : Inv X pins σ H s) {p : ZV} {xs : List V} {u : Value} (h : p.has X.K H xs) (r : RelV p.src u) :
    ∃ (o : Obj) (J : Heap → Prop), Begins u o J ∧ J s.heap ∧ (∀ h' it, h'.get? it = some o → p.it it 0 h') ∧ ∀ a ∈ p.ads, a < s.heap.objs.size := by
  cases p with
  | l a =>
    obtain ⟨its, rv, p', _⟩ := I.list h
    cases r
    refine ⟨_, _, begins_list a its.toArray, p'.isList, fun h' it e => ⟨_, e, rfl, rfl⟩, fun b hb => ?_⟩
    rw [List.mem_singleton.mp hb]; exact p'.lt
  | t a =>
    obtain ⟨its, rv, p', _⟩ := I.tuple h
    cases r
    refine ⟨_, _, begins_tuple a its.toArray, p', fun h' it e => ⟨_, e, rfl, rfl⟩, fun b hb => ?_⟩
    obtain ⟨o, ho, _⟩ := id p'
    rw [List.mem_singleton.mp hb]; exact Heap.lt_size ho
  | s z =>
    obtain ⟨tk, rfl⟩ := r
    exact ⟨_, _, begins_text z tk, trivial, fun h' it e => ⟨tk, _, e, rfl, rfl⟩, fun b hb => nomatch hb⟩
theorem pi_zipG {X : Cx} {e e2 : Expr} {ta : TA} {p pos tpos : Pos} {elts : List Expr} {kk : Nat} (hg : Gl X "zip") (hm : X.mg "zip" = none) (ha : PA X [e, e2] ta)
    (hs : starEach [e, e2] X.env = (false, eval e X.env) :: starEach [e2] X.env) (hpl : (backTo pos (starEach [e2] X.env)).any (·.1) = false) :
    PI X (.Tuple elts kk tpos) (.Call (.Name "zip" p) [e, e2] [] pos) (iZipG X.K ta) := by
  refine ⟨fun pins s σ H R I h => ?_⟩
  refine Call_ (ld_blt I hg hm PyProof.Rows.boot_zip (PyProof.Rows.callWith_type1 (thn (ha.run pos pins s σ H _ I h) fun us s1 ⟨vs, H1, I1, r1, q1⟩ => ?_) hs hpl))
  obtain ⟨p, q, xs, ys, ex, hp, hq, q1⟩ := q1
  subst ex
  cases r1 with
  | cons r rr =>
    cases rr with
    | cons r' rr =>
      cases rr
      obtain ⟨o1, J1, B1, j1, t1, a1⟩ := zv_begins I1 hp r
      obtain ⟨o2, J2, B2, j2, t2, a2⟩ := zv_begins I1 hq r'
      have fresh5 : ∀ c, c ∈ [s1.heap.objs.size + 4, s1.heap.objs.size + 2, s1.heap.objs.size + 3, s1.heap.objs.size, s1.heap.objs.size + 1] → FpOk X pins H1 c := fun c hcm => by
        have e' : c = s1.heap.objs.size + 4 ∨ c = s1.heap.objs.size + 2 ∨ c = s1.heap.objs.size + 3 ∨ c = s1.heap.objs.size ∨ c = s1.heap.objs.size + 1 := by simpa using hcm
        have hle : s1.heap.objs.size ≤ c := by omega
        exact I1.fpOk hle (I1.hok.fresh hle)
      refine zip_begins2 B1 B2 j1 j2 fun h' hz hTI hTO h1 h2 hsz hk => wpAny_pyIter_zip hz ?_
      have I2 : Inv X pins σ H1 { s1 with heap := h' } := I1.kept (t' := s1.toks) hk
      have far : ∀ {l : List Addr}, (∀ a ∈ l, a < s1.heap.objs.size) → ∀ k : Nat, s1.heap.objs.size + k ∉ l := fun hl k hm => absurd (hl _ hm) (Nat.not_lt.mpr (Nat.le_add_right _ _))
      have ne : ∀ {j k : Nat}, j ≠ k → s1.heap.objs.size + j ≠ s1.heap.objs.size + k := fun h e => h (Nat.add_left_cancel e)
      have nc : ∀ {j k : Nat} {l : List Addr}, j ≠ k → (∀ a ∈ l, a < s1.heap.objs.size) → s1.heap.objs.size + j ∉ (s1.heap.objs.size + k) :: l := fun h hl hm => (List.mem_cons.mp hm).elim (ne h) (far hl _)
      have sep : ZipSep2 (s1.heap.objs.size + 4) (s1.heap.objs.size + 2) (s1.heap.objs.size + 3) (s1.heap.objs.size + 0) (s1.heap.objs.size + 1) ((s1.heap.objs.size + 0) :: p.ads) ((s1.heap.objs.size + 1) :: q.ads) :=
        ⟨ne (by decide), ne (by decide), ne (by decide), ne (by decide), List.mem_cons_self .., nc (by decide) a1, nc (by decide) a1, ne (by decide), List.mem_cons_self .., nc (by decide) a2, nc (by decide) a2, nc (by decide) a2, nc (by decide) a1⟩
      exact ⟨s1.heap.objs.size + 4, [s1.heap.objs.size + 4, s1.heap.objs.size + 2, s1.heap.objs.size + 3, s1.heap.objs.size, s1.heap.objs.size + 1], _, _, H1, rfl, I2, turn_zipG sep (far a1 0) (far a2 1), ⟨hz, hTI, ⟨_, _, hTO⟩, t1 _ _ h1, t2 _ _ h2⟩, fresh5, q1⟩

/-! the meaning -/
def zipD (xs ys : List D) : List D := List.zipWith (fun x y => D.tup [x, y]) xs ys
def ciZip (a b : Ev) : Ei := fun env s => (a env s).bind fun x s => (b env s).bind fun y s => (srcD x s).bind fun p s => (srcD y s).bind fun q s => .ok ⟨zipD p.xs q.xs, fun s => p.still s ∧ q.still s⟩ s
structure ZOk (g : Gd) (p : ZV) (m0 : List Addr) (H0 : Hp) (xs : List D) (still : S → Prop) : Prop where
  ok : ∀ B H m s, (∀ a ∈ B, a ∈ g.B ∨ H0 a = none) → Step m0 H0 m H → HRep (g.wB B) H m s → still s → ∃ vs, p.has g.K H vs ∧ Reps (g.wB B) H m vs xs
section
variable {g : Gd} {W : WX} {fa fb : Ev} {H : Hp} {m : List Addr} {s s' : S} {B : List Addr}
theorem zsrc_ok {d : D} {q : Src} {v : V} (hr : HRep (g.wB B) H m s) (e : srcD d s = .ok q s') (r : Rep (g.wB B) H m v d) : s' = s ∧ ∃ p : ZV, v = p.src ∧ (∃ vs, p.has g.K H vs) ∧ ZOk (g.wB B) p m H q.xs q.still := by
  unfold srcD at e
  split at e
  · cases e
    refine ⟨rfl, ?_⟩
    cases r with
    | @tup a vs _ hh n b r =>
      exact ⟨.t a, rfl, ⟨vs, .inl hh⟩, ⟨fun B' H' m' s hB st hr' _ => ⟨vs, .inl (Rd.step st hh n).1, (r.ext hB).step st⟩⟩⟩
    | @tupK a vs _ hh r =>
      exact ⟨.t a, rfl, ⟨vs, .inr hh⟩, ⟨fun B' H' m' s hB st hr' _ => ⟨vs, .inr hh, (r.ext hB).step st⟩⟩⟩
  · cases e
    refine ⟨rfl, ?_⟩
    cases r with
    | @lst a vs _ hh n b r =>
      exact ⟨.l a, rfl, ⟨vs, .inl (.inl hh)⟩, ⟨fun B' H' m' s hB st hr' _ => ⟨vs, .inl (.inl (st.keep _ _ hh n)), (r.ext hB).step st⟩⟩⟩
  · cases e
    refine ⟨rfl, ?_⟩
    cases r with
    | @fls a vs _ o hh n b r =>
      exact ⟨.l a, rfl, ⟨vs, .inl (.inr ⟨_, hh⟩)⟩, ⟨fun B' H' m' s hB st hr' _ => ⟨vs, .inl (.inr ⟨_, st.keep _ _ hh n⟩), (r.ext hB).step st⟩⟩⟩
    | @flsK a vs _ hh r =>
      exact ⟨.l a, rfl, ⟨vs, .inr hh⟩, ⟨fun B' H' m' s hB st hr' _ => ⟨vs, .inr hh, (r.ext hB).step st⟩⟩⟩
  · rename_i z
    cases e
    refine ⟨rfl, ?_⟩
    cases r
    refine ⟨.s z, rfl, ⟨signsV z, rfl⟩, ⟨fun B' H' m' s hB st hr' _ => ⟨signsV z, rfl, ?_⟩⟩⟩
    show Reps _ _ _ (z.cps.toList.map _) (z.cps.toList.map _)
    induction z.cps.toList with
    | nil => exact .nil
    | cons c r ih => exact .cons .str ih
  · rename_i n
    split at e
    · rename_i xs e1
      cases e
      refine ⟨rfl, ?_⟩
      cases r with
      | @ref a _ ha =>
        obtain ⟨o, h2, ro⟩ := hr.at ha
        rw [e1] at h2; cases h2
        obtain ⟨vs, hH, rs⟩ := ro
        refine ⟨.l a, rfl, ⟨vs, .inl (.inl hH)⟩, ⟨fun B' H' m' s hB st hr' hs => ?_⟩⟩
        obtain ⟨o, h2, ro⟩ := hr'.at (st.get ha)
        rw [show s[n]? = some (.lst xs) from hs] at h2; cases h2
        obtain ⟨vs, hH, rs⟩ := ro
        exact ⟨vs, .inl (.inl hH), rs⟩
    · cases e
  · cases e
theorem Reps.get' {H : Hp} {m : List Addr} : ∀ {vs : List V} {ds : List D} {i : Nat} {v : V}, Reps g H m vs ds → vs[i]? = some v → ∃ d, ds[i]? = some d ∧ Rep g H m v d
  | _, _, 0, _, .cons h _, e => by cases e; exact ⟨_, rfl, h⟩
  | _ :: vs, _ :: ds, i + 1, v, .cons _ r, e => by
    obtain ⟨d, e', q⟩ := Reps.get' (vs := vs) (ds := ds) (i := i) (v := v) r (by simpa using e)
    exact ⟨d, by simpa using e', q⟩
  | _, _, _, _, .nil, e => by cases e
theorem goes_zip {p q : ZV} {m0 : List Addr} {H0 : Hp} {xs ys : List D} {s1 s2 : S → Prop} (hp : ZOk g p m0 H0 xs s1) (hq : ZOk g q m0 H0 ys s2) : Goes1 g (ItzG g.K p q) m0 H0 (zipD xs ys) (fun s => s1 s ∧ s2 s) where
  go := fun B i H m s hB st hr hs hi => by
    obtain ⟨vs, h1, r1⟩ := hp.ok B H m s hB st hr hs.1
    obtain ⟨ws, h2, r2⟩ := hq.ok B H m s hB st hr hs.2
    have hl : i < xs.length ∧ i < ys.length := by
      have : (zipD xs ys).length = min xs.length ys.length := by simp [zipD]
      omega
    refine ⟨vs, ws, vs[i]'(by rw [r1.length]; exact hl.1), ws[i]'(by rw [r2.length]; exact hl.2), h1, h2, List.getElem?_eq_getElem _, List.getElem?_eq_getElem _⟩
  yld := fun B i H m s x H' hB st hr hs hi y => by
    obtain ⟨vs, h1, r1⟩ := hp.ok B H m s hB st hr hs.1
    obtain ⟨ws, h2, r2⟩ := hq.ok B H m s hB st hr hs.2
    obtain ⟨T, x1, x2, rfl, hT, rfl, e1, e2⟩ := y
    obtain ⟨d1, g1, k1⟩ := r1.get' (e1 _ h1)
    obtain ⟨d2, g2, k2⟩ := r2.get' (e2 _ h2)
    obtain ⟨f1, f2⟩ := hr.fresh hT
    refine ⟨.tup [d1, d2], ?_, Step.new hT, hr.new hT, .tup (.inl upd_same) f1 f2 (.cons (k1.step (Step.new hT)) (.cons (k2.step (Step.new hT)) .nil))⟩
    simp [zipD, List.getElem?_zipWith, g1, g2]
  stop := fun B i H m s hB st hr hs hi => by
    obtain ⟨vs, h1, r1⟩ := hp.ok B H m s hB st hr hs.1
    obtain ⟨ws, h2, r2⟩ := hq.ok B H m s hB st hr hs.2
    have : (zipD xs ys).length = min xs.length ys.length := by simp [zipD]
    have l1 := r1.length
    have l2 := r2.length
    exact ⟨vs, ws, h1, h2, by omega, by omega, by omega⟩
theorem t_iZip (σ : St) (H : Hp) (Rr : It → Hp → Prop) (h : tI g W (ciZip fa fb) σ H Rr) : iZipG g.K (tCons (tE g W fa) (tCons (tE g W fb) tNil)) σ H Rr := by
  obtain ⟨B, env, s, m, he, hr, hk⟩ := h
  unfold ciZip at hk
  refine ⟨B, env, s, m, he, hr, ?_⟩
  cases q : fa env s with
  | exc c fs s1 => rw [q] at hk; exact hk
  | bad => rw [q] at hk; exact hk.elim
  | ok d s1 =>
    rw [q] at hk
    simp only [R.bind] at hk
    intro v m1 H1 st1 hr1 r1
    refine ⟨B, env, s1, m1, he.step st1, hr1, ?_⟩
    cases q2 : fb env s1 with
    | exc c fs s1 => rw [q2] at hk; exact exW.at st1 hk
    | bad => rw [q2] at hk; exact hk.elim
    | ok d2 s2 =>
      rw [q2] at hk
      simp only [R.bind] at hk
      intro v2 m2 H2 st2 hr2 r2
      show ∃ p q : ZV, _
      cases e1 : srcD d s2 with
      | exc c fs s3 => exact absurd e1 (by unfold srcD; split <;> first | (intro z; cases z; done) | (split <;> intro z <;> cases z))
      | bad => rw [e1] at hk; exact hk.elim
      | ok p s3 =>
        rw [e1] at hk
        obtain ⟨rfl, p', ev, hv, zo⟩ := zsrc_ok hr2 e1 (r1.step st2)
        simp only [R.bind] at hk
        cases e2 : srcD d2 s3 with
        | exc c fs s4 => exact absurd e2 (by unfold srcD; split <;> first | (intro z; cases z; done) | (split <;> intro z <;> cases z))
        | bad => rw [e2] at hk; exact hk.elim
        | ok q' s4 =>
          rw [e2] at hk
          obtain ⟨rfl, p2, ev2, hv2, zo2⟩ := zsrc_ok hr2 e2 r2
          simp only [R.bind] at hk
          obtain ⟨vs, hvs⟩ := hv
          obtain ⟨ws, hws⟩ := hv2
          exact ⟨p', p2, vs, ws, by rw [ev, ev2], hvs, hws, hk _ m2 H2 (st1.trans st2) hr2 (goes_zip zo zo2)⟩
end
end L2.GS

namespace L2.GS
open PySem PySem.Spec PyProof.Rows

/-! ### a written dict with text keys -/
def kdGetO (l : List (Str × D)) (x : D) (s : S) : R D := match x with
  | .str z => .ok ((l.lookup z).getD .non) s
  | _ => .bad
/-- the written dict at d gives these -/
structure KdOk (K : PySem.W.Frag) (w : World) (mg : Str → Option Value) (d : Addr) (l : List (Str × D)) : Prop where
  ok : ∃ es n, KDict K w d es n ∧ ∀ z, ∃ r, PySem.W.nsIn K d z = some r ∧ match r, l.lookup z with
    | none, none => True
    | some u, some x => ∃ v, RelV v u ∧ ∀ B H m s, HRep ⟨K, mg, B⟩ H m s → Rep ⟨K, mg, B⟩ H m v x
    | _, _ => False
theorem t_kget {X : Cx} {W : WX} {w : World} {o e : Expr} {apos cpos : Pos} {d : Addr} {l : List (Str × D)} {fe : Ev} (hw : X.w = w) (D : KdOk X.K w X.mg d l) (ho : PE X o (tC (.ref d))) (he : PE X e (tE ⟨X.K, X.mg, []⟩ W fe)) (m : M1 X o "get" apos e cpos) :
    PE X (.Call (.Attribute o "get" apos) [e] [] cpos) (tE ⟨X.K, X.mg, []⟩ W (cUn (kdGetO l) fe)) := by
  subst hw
  obtain ⟨es, n, KD, hz⟩ := D.ok
  refine ⟨fun pins s σ H Q I h => ?_⟩
  refine wpAny_Call_method m.base m.few m.line PySem.F.plainAttrs_dict PySem.F.slot_dict_get PySem.F.type_dict_get (thn (ho.run pins s σ H (fun x H' => x = .ref d ∧ H' = H) I ⟨rfl, rfl⟩) fun u s1 ⟨x, H1, I1, rx, ex, eH⟩ => ?_)
  subst ex eH
  obtain rfl : u = Value.ref d := rx
  refine ⟨kd_type KD I1, fun b q => ?_, ?_⟩
  · cases q
    have := I1.kIn _ _ KD.at_
    exact ⟨_, this, rfl⟩
  rw [m.trees]
  obtain ⟨B, env, st, mm, he', hr, hk⟩ := h
  have hq : tE ⟨X.K, X.mg, []⟩ W fe σ H1 (fun y H2 => ∃ z r v0, y = .str z ∧ PySem.W.nsIn X.K d z = some r ∧ RelV v0 (r.getD .none) ∧ Q v0 H2) := by
    refine ⟨B, env, st, mm, he', hr, kR.bind hk fun x s1 v m1 H1 _ st1 hr1 r1 hk1 => ?_⟩
    unfold kdGetO at hk1
    split at hk1
    · rename_i z hh
      cases r1
      obtain ⟨r, e1, e2⟩ := hz z
      refine ⟨z, r, ?_⟩
      cases r with
      | none =>
        cases q : l.lookup z with
        | none =>
          rw [q] at hk1
          exact ⟨.non, rfl, e1, rfl, kR.go hk1 hr1 .non⟩
        | some x => rw [q] at e2; exact e2.elim
      | some u =>
        cases q : l.lookup z with
        | none => rw [q] at e2; exact e2.elim
        | some x =>
          rw [q] at e2 hk1
          obtain ⟨v, rv, rp⟩ := e2
          exact ⟨v, rfl, e1, rv, kR.go hk1 hr1 (rp _ _ _ _ hr1)⟩
    · exact hk1.elim
  refine Calls.callWith_builtin rfl (Calls.evalArgs_plain (Calls.spliced_cons (thn (he.run pins s1 σ H1 _ I1 hq) fun iv s2 ⟨y, H2, I2, ry, z, r, v0, ey, e1, rv, q2⟩ => Calls.spliced_nil ?_)))
  subst ey
  obtain ⟨t, rfl⟩ := ry
  refine call_meetsIn PySem.F.slot_dict_get (kd_type KD I2) PySem.F.entry_dict_get (PySem.F.args_dict_get_2 _ _) (meets_dict_get (strKind X.prog X.w) d (PySem.strKind_is X.prog X.w z t) KD.low) ⟨_, PySem.W.mapOf_K (prog := X.prog) I2.kIn KD.at_ KD.lit, ?_⟩
  rw [PySem.W.find_K KD.at_ e1]
  exact ⟨v0, H2, I2.tok _, rv, q2⟩
theorem kd_of {K : PySem.W.Frag} {w : World} {mg : Str → Option Value} {d : Addr} {ks : List Str} {kvs : List (Str × He.Dv)} {l : List (Str × D)} (h : He.dicW K d = some (He.keysIn w.params ks)) (hv : He.valsB K d kvs = true) (hk : kvs.map (·.1) = ks) (hl : l.map (·.1) = ks)
    (hr : ∀ z x, l.lookup z = some x → ∃ q, (z, q) ∈ kvs ∧ ∀ B H m s, HRep ⟨K, mg, B⟩ H m s → Rep ⟨K, mg, B⟩ H m (q.v K) x) : KdOk K w mg d l := by
  obtain ⟨es, n, KD⟩ := He.dicW_ok h
  refine ⟨es, n, KD, fun z => ?_⟩
  have hm : es.toList.map He.keyOf = He.keysIn w.params ks := by
    unfold He.dicW at h
    rw [KD.at_] at h
    simp only at h
    split at h
    · exact Option.some.inj h
    · cases h
  cases q : l.lookup z with
  | some x =>
    obtain ⟨qv, hq, hrep⟩ := hr z x q
    obtain ⟨u, e, r⟩ := He.valsB_ok hv hq
    exact ⟨some u, e, _, r, hrep⟩
  | none =>
    refine ⟨none, ?_, trivial⟩
    have hz : z ∉ ks := by
      rw [← hl]
      intro hm
      obtain ⟨p, hp, e⟩ := List.mem_map.mp hm
      rw [List.lookup_eq_none_iff] at q
      have := q p hp
      simp [e] at this
    have key : ∀ e ∈ es.toList, ∃ x t, e.key = .str x t ∧ x ∈ ks := by
      intro e he
      have : He.keyOf e ∈ es.toList.map He.keyOf := List.mem_map_of_mem he
      rw [hm] at this
      obtain ⟨k, hk', e2⟩ := List.mem_map.mp this
      unfold He.keyOf at e2
      split at e2
      · rename_i x t q
        have e3 := Option.some.inj e2
        have e4 : k = x := congrArg (·.1) e3
        subst e4
        exact ⟨_, t, q, hk'⟩
      · cases e2
    unfold PySem.W.nsIn
    rw [KD.at_]
    have f1 : es.toList.find? (fun e => e.key.isStr z) = none := by
      rw [List.find?_eq_none]
      intro e he
      obtain ⟨x, t, e1, hx⟩ := key e he
      rw [e1]
      intro hc
      have : x = z := by simpa [Value.isStr] using hc
      exact hz (this ▸ hx)
    have f2 : es.toList.any (fun e => e.refKey) = false := by
      rw [List.any_eq_false]
      intro e he
      obtain ⟨x, t, e1, hx⟩ := key e he
      simp [DictEntry.refKey, e1]
    simp only [f1, f2]
    rfl
end L2.GS

namespace L2.GS
open PySem PySem.Spec PyProof.Rows

/-! ### what a def's text may name -/
structure Cfg where
  N : List Str
  fns : List (Str × Nat × Fn) := []
  cst : List (Str × D) := []
  blt : List Str := []
  own : List (Nat × Nat) := []
  dr : List (Nat × List Nat) := []
  exm : List (Str × List (Str × Bool)) := []
  kd : List (Str × List (Str × D)) := []
def idxN : List Str → Str → Option Nat
  | [], _ => none
  | y :: r, x => if y = x then some 0 else (idxN r x).map (· + 1)
theorem idxN_ok : ∀ {N : List Str} {x : Str} {i : Nat}, idxN N x = some i → N[i]? = some x
  | [], _, _, h => by cases h
  | y :: r, x, i, h => by
    unfold idxN at h
    by_cases e : y = x
    · rw [if_pos e] at h
      cases h; subst e; rfl
    · rw [if_neg e] at h
      obtain ⟨j, q, rfl⟩ := Option.map_eq_some_iff.mp h
      exact idxN_ok (N := r) q

/-! ### facts -/
structure Fa (P : Program) (w : World) (K : PySem.W.Frag) (mg : Str → Option Value) (base : Heap) (lvl : Nat) (c : Cfg) : Prop where
  fn : ∀ x n F, c.fns.lookup x = some (n, F) → ∃ k f fd ps, k ≤ lvl ∧ mg x = some (.ref f) ∧ PySem.W.keepIn K (.ref f) = true ∧ FnOk P w K mg base (L2.CX P w) k f fd ps (spF K mg n F) ∧ Binds K fd ps []
  cst : ∀ x d, c.cst.lookup x = some d → ∃ u v, mg x = some u ∧ RelV v u ∧ ∀ B H m s, HRep ⟨K, mg, B⟩ H m s → Rep ⟨K, mg, B⟩ H m v d
  blt : ∀ x, x ∈ c.blt → mg x = none
  nd : c.N.Nodup
  exm : ∀ x l, c.exm.lookup x = some l → ∃ v, (mg x = some v ∨ (mg x = none ∧ bootBuiltins x = some v ∧ x ≠ "__name__")) ∧ ∀ y b, (y, b) ∈ l → ∀ C, mg y = some (.ref C) → PySem.W.exmOne K (.ref C) v = some b
  kd : ∀ x l, c.kd.lookup x = some l → ∃ d, mg x = some (.ref d) ∧ KdOk K w mg d l
structure XOk (P : Program) (w : World) (K : PySem.W.Frag) (mg : Str → Option Value) (base : Heap) (lvl : Nat) (c : Cfg) (sc : Scope) (X : Cx) (W : WX) : Prop where
  prog : X.prog = P
  w : X.w = w
  K : X.K = K
  mg : X.mg = mg
  base : X.base = base
  N : X.N = c.N
  sc : X.env.scope = sc
  room : Room lvl X.A
  calm : X.calm = true
  takes : Takes X W
section
variable {X : Cx} {g : Gd} {W : WX}
theorem Room.u1 {k : Nat} {A : Around} (r : Room k A) : A.units + 1 < cLine := by have := r.un; omega
theorem Room.u64 {k : Nat} {A : Around} (r : Room k A) : A.units + 64 < cLine := by have := r.un; omega

/-! ### nothing is told -/
def bE : Ev := fun _ _ => .bad
def bT : Et := fun _ _ => .bad
def bS : Est := fun _ _ => .bad
def bA : Ea := fun _ _ => .bad
theorem bad_E {e : Expr} : PE X e (tE g W bE) := ⟨fun _ _ _ _ _ _ h => let ⟨_, _, _, _, _, _, k⟩ := h; k.elim⟩
theorem bad_T {e : Expr} : PT X e (tT g W bT) := ⟨fun _ _ _ _ _ _ h => let ⟨_, _, _, _, _, _, k⟩ := h; k.elim⟩
theorem bad_W {e : Expr} : PW X e (tT g W bT) := ⟨fun _ _ _ _ _ _ _ h => let ⟨_, _, _, _, _, _, k⟩ := h; k.elim⟩
theorem bad_A {e : List Expr} : PA X e (tA g W bA) := ⟨fun _ _ _ _ _ _ _ h => let ⟨_, _, _, _, _, _, k⟩ := h; k.elim⟩
theorem bad_S {e : Stmt} : PS X e (tS g W bS) := ⟨fun _ _ _ _ _ _ h => let ⟨_, _, _, _, _, _, k⟩ := h; k.elim⟩
theorem bad_Ss {e : List Stmt} : PSs X e (tS g W bS) := ⟨fun _ _ _ _ _ _ h => let ⟨_, _, _, _, _, _, k⟩ := h; k.elim⟩
end

theorem lookup_mem {β : Type} {x : Str} {v : β} : ∀ {l : List (Str × β)}, l.lookup x = some v → (x, v) ∈ l
  | [], h => by cases h
  | p :: r, h => by
    unfold List.lookup at h
    split at h
    · rename_i e
      cases h
      have e' := eq_of_beq e
      subst e'
      exact List.mem_cons_self ..
    · exact List.mem_cons_of_mem _ (lookup_mem h)
/-! ### operators -/
abbrev O2 := D → D → S → R D
def biOp : Operator → Option O2
  | .Add => some addO | .Sub => some subO | .Mult => some mulO | .FloorDiv => some fdivO | .Mod => some modO | .Pow => some powO | .RShift => some shrO | .BitAnd => some bandO
  | _ => none
def cmOp : CmpOp → Option O2
  | .Eq => some (eqO false) | .NotEq => some (eqO true) | .Lt => some ltO | .LtE => some leO | .Gt => some gtO | .GtE => some geO
  | .Is => some (isO false) | .IsNot => some (isO true) | .In => some (inO false) | .NotIn => some (inO true)
theorem biOp_ok {X : Cx} {op : Operator} {o : O2} (h : biOp op = some o) : ∃ r, OpR X (binaryOp op) r ∧ ∀ mg B, OpG ⟨X.K, mg, B⟩ r o := by
  cases op <;> cases h
  · exact ⟨_, op_addO, fun mg B => g_add⟩
  · exact ⟨_, op_sub, fun mg B => g_sub⟩
  · exact ⟨_, op_mulO, fun mg B => g_mul⟩
  · exact ⟨_, op_mod, fun mg B => g_mod⟩
  · exact ⟨_, op_pow, fun mg B => g_pow⟩
  · exact ⟨_, op_shr, fun mg B => g_shr⟩
  · exact ⟨_, op_and, fun mg B => g_band⟩
  · exact ⟨_, op_fdiv, fun mg B => g_fdiv⟩
theorem cmOp_ok {X : Cx} (hu : X.A.units + 64 < cLine) {op : CmpOp} {o : O2} (h : cmOp op = some o) : ∃ r, OpR X (compareOp op) r ∧ ∀ mg B, OpG ⟨X.K, mg, B⟩ r o := by
  cases op <;> cases h
  · exact ⟨_, op_eqD hu, fun mg B => g_eq⟩
  · exact ⟨_, op_neD hu, fun mg B => g_ne⟩
  · exact ⟨_, op_ltO (by omega), fun mg B => g_lt⟩
  · exact ⟨_, op_le, fun mg B => g_le⟩
  · exact ⟨_, op_gt, fun mg B => g_gt⟩
  · exact ⟨_, op_ge, fun mg B => g_ge⟩
  · exact ⟨_, op_isN, fun mg B => g_is⟩
  · exact ⟨_, op_notN, fun mg B => g_isnot⟩
  · exact ⟨_, op_inO (by omega), fun mg B => g_in false⟩
  · exact ⟨_, op_notInO (by omega), fun mg B => g_in true⟩

/-! ### builtins -/
abbrev O1 := List D → S → R D
def biTab : List (Str × Bool × String × O1) := [
  ("len", true, "len", lenO), ("int", false, "int", intO), ("str", false, "str", strO), ("tuple", false, "tuple", tupO), ("list", false, "list", lisO), ("sum", true, "sum", sumO), ("any", true, "any", anyO), ("all", true, "all", allO),
  ("max", true, "max", maxO), ("min", true, "min", minO), ("abs", true, "abs", absO), ("divmod", true, "divmod", divmodO), ("sorted", true, "sorted", sortO), ("isinstance", true, "isinstance", isiO)]
structure BiOk (X : Cx) (x : Str) (b : Bool) (id : String) (o : O1) : Prop where
  val : bootBuiltins x = some (if b then .builtin id else .type id)
  run : ∃ r, CallR X (if b then .builtin id else .type id) r ∧ ∀ mg B, CallG ⟨X.K, mg, B⟩ r o
  nn : x ≠ "__name__"
  nd : (x == ("__debug__" : Str)) = false
theorem biTab_ok {X : Cx} (hc : X.calm = true) {x : Str} {b : Bool} {id : String} {o : O1} (h : biTab.lookup x = some (b, id, o)) : BiOk X x b id o := by
  have hm : (x, b, id, o) ∈ biTab := by
    exact lookup_mem h
  simp only [biTab, List.mem_cons, List.mem_nil_iff, or_false, Prod.mk.injEq] at hm
  rcases hm with ⟨rfl, rfl, rfl, rfl⟩ | ⟨rfl, rfl, rfl, rfl⟩ | ⟨rfl, rfl, rfl, rfl⟩ | ⟨rfl, rfl, rfl, rfl⟩ | ⟨rfl, rfl, rfl, rfl⟩ | ⟨rfl, rfl, rfl, rfl⟩ | ⟨rfl, rfl, rfl, rfl⟩ | ⟨rfl, rfl, rfl, rfl⟩ | ⟨rfl, rfl, rfl, rfl⟩ | ⟨rfl, rfl, rfl, rfl⟩ | ⟨rfl, rfl, rfl, rfl⟩ | ⟨rfl, rfl, rfl, rfl⟩ | ⟨rfl, rfl, rfl, rfl⟩ | ⟨rfl, rfl, rfl, rfl⟩
  · exact ⟨rfl, ⟨_, call_len, fun _ _ => g_len⟩, by decide, by decide⟩
  · exact ⟨rfl, ⟨_, call_intO, fun _ _ => g_int⟩, by decide, by decide⟩
  · exact ⟨rfl, ⟨_, call_str_int, fun _ _ => g_str⟩, by decide, by decide⟩
  · exact ⟨rfl, ⟨_, call_tuple_of, fun _ _ => g_tupc⟩, by decide, by decide⟩
  · exact ⟨rfl, ⟨_, call_list_of, fun _ _ => g_lisc⟩, by decide, by decide⟩
  · exact ⟨rfl, ⟨_, cr_sum hc, fun _ _ => g_sum⟩, by decide, by decide⟩
  · exact ⟨rfl, ⟨_, cr_any hc, fun _ _ => g_any⟩, by decide, by decide⟩
  · exact ⟨rfl, ⟨_, cr_all hc, fun _ _ => g_all⟩, by decide, by decide⟩
  · exact ⟨rfl, ⟨_, call_maxO hc, fun _ _ => g_max⟩, by decide, by decide⟩
  · exact ⟨rfl, ⟨_, call_minO hc, fun _ _ => g_min⟩, by decide, by decide⟩
  · exact ⟨rfl, ⟨_, call_abs, fun _ _ => g_abs⟩, by decide, by decide⟩
  · exact ⟨rfl, ⟨_, call_divmod, fun _ _ => g_divmod⟩, by decide, by decide⟩
  · exact ⟨rfl, ⟨_, call_sortO, fun _ _ => g_sort⟩, by decide, by decide⟩
  · exact ⟨rfl, ⟨_, call_isi, fun _ _ => g_isi⟩, by decide, by decide⟩

/-! ### methods of builtin types -/
abbrev M2 := D → List D → S → R D
inductive MSort where
  | l | k | s
def MSort.ty : MSort → D → S → Bool
  | .l => isL | .k => isK | .s => isStr
def MSort.T : MSort → String
  | .l => "list" | .k => "dict" | .s => "str"
def mtTab : List (Str × MSort × String × M2) := [("append", .l, "list.append", appendO), ("extend", .l, "list.extend", extendO), ("join", .s, "str.join", joinO), ("split", .s, "str.split", splitO), ("count", .s, "str.count", countO), ("get", .k, "dict.get", getO)]
structure MtOk (X : Cx) (x : Str) (q : MSort) (id : String) (o : M2) : Prop where
  pa : PlainAttrs q.T
  slot : Slot q.T x id
  hty : typeOf (.builtin id) = pure (.type "method_descriptor")
  run : ∃ r, MtR X id r ∧ ∀ mg B, MethG ⟨X.K, mg, B⟩ q.T q.ty r o
theorem mtTab_ok {X : Cx} (hu : X.A.units + 1 < cLine) {x : Str} {q : MSort} {id : String} {o : M2} (h : mtTab.lookup x = some (q, id, o)) : MtOk X x q id o := by
  have hm := lookup_mem h
  simp only [mtTab, List.mem_cons, List.mem_nil_iff, or_false, Prod.mk.injEq] at hm
  rcases hm with ⟨rfl, rfl, rfl, rfl⟩ | ⟨rfl, rfl, rfl, rfl⟩ | ⟨rfl, rfl, rfl, rfl⟩ | ⟨rfl, rfl, rfl, rfl⟩ | ⟨rfl, rfl, rfl, rfl⟩ | ⟨rfl, rfl, rfl, rfl⟩
  · exact ⟨PySem.F.plainAttrs_list, PySem.F.slot_list_append, PySem.F.type_list_append, _, mt_append, fun _ _ => g_append⟩
  · exact ⟨PySem.F.plainAttrs_list, PySem.F.slot_list_extend, PySem.F.type_list_extend, _, mt_extO, fun _ _ => g_extend⟩
  · exact ⟨PySem.F.plainAttrs_str, PySem.F.slot_str_join, PySem.F.type_str_join, _, mt_join, fun _ _ => g_join⟩
  · exact ⟨PySem.F.plainAttrs_str, PySem.F.slot_str_split, PySem.F.type_str_split, _, mt_split, fun _ _ => g_split⟩
  · exact ⟨PySem.F.plainAttrs_str, PySem.F.slot_str_count, PySem.F.type_str_count, _, mt_count, fun _ _ => g_count⟩
  · exact ⟨PySem.F.plainAttrs_dict, PySem.F.slot_dict_get, PySem.F.type_dict_get, _, mt_get hu, fun _ _ => g_get⟩
end L2.GS

namespace L2.GS
open PySem PySem.Spec PyProof.Rows

/-! ### texts into meanings: expressions -/
structure Tr where
  E : Scope → Expr → Ev
  T : Scope → Expr → Et
def isStar : Expr → Bool
  | .Starred .. => true
  | _ => false
def isSet : Expr → Bool
  | .Set .. => true
  | _ => false
def isSlice : Expr → Bool
  | .Slice .. => true
  | _ => false
def isCall : Expr → Bool
  | .Call .. => true
  | _ => false
def trA (f : Expr → Ev) : List Expr → Ea
  | [] => cNil
  | e :: r => if isStar e then bA else cCons (f e) (trA f r)
def dbg (x : Str) : Bool := (x == ("__debug__" : Str)) || (x == ("__classdict__" : Str))
def tyTab : List (Str × String) := [("int", "int"), ("bool", "bool"), ("str", "str"), ("tuple", "tuple"), ("list", "list"), ("dict", "dict")]
def trName (c : Cfg) (sc : Scope) (x : Str) : Ev := if dbg x then bE else match sc.names.lookup x with
  | some .local | some .cell | some .free => (match idxN c.N x with
    | some i => cVar i
    | none => bE)
  | some .globalImplicit => (match c.cst.lookup x with
    | some d => cCst d
    | none => if x ∈ c.blt then (match tyTab.lookup x with
      | some T => cCst (.ty T)
      | none => bE) else bE)
  | _ => bE
def trAndV (f : Expr → Ev) : List Expr → Ev
  | [] => bE
  | [a] => f a
  | a :: r => cAndV (f a) (trAndV f r)
def trOrV (f : Expr → Ev) : List Expr → Ev
  | [] => bE
  | [a] => f a
  | a :: r => cOrV (f a) (trOrV f r)
def trAndT (f : Expr → Et) : List Expr → Et
  | [] => bT
  | [a] => f a
  | a :: r => cAnd (f a) (trAndT f r)
def trOrT (f : Expr → Et) : List Expr → Et
  | [] => bT
  | [a] => f a
  | a :: r => cOr (f a) (trOrT f r)
/-- one comparison, or two in a row -/
def trCmp (f : Expr → Ev) (a : Expr) : List CmpOp → List Expr → Ev
  | [op], [b] => if behindInMarks op b = false then (match cmOp op with
    | some o => cOp o (f a) (f b)
    | none => bE) else bE
  | [op, op'], [b, d] => if lastMarks [op, op'] [b, d] = false then (match cmOp op, cmOp op' with
    | some o, some o' => cChain o o' (f a) (f b) (f d)
    | _, _ => bE) else bE
  | _, _ => bE
def trPO (f : Expr → Ev) : Option Expr → Eo
  | none => cPno
  | some e => cPart (f e)
def posIn (own : List (Nat × Nat)) (p : Pos) : Bool := own.any fun q => q.1 == p.line && q.2 == p.col
def trNames (rs sc : Scope) (N : List Str) : List Expr → Option (List (Str × Nat))
  | [] => some []
  | .Name x _ :: r => (match idxN N x, trNames rs sc N r with
    | some i, some l => if rs.names.lookup x = some .local ∨ (rs.names.lookup x = some .cell ∧ sc.names.lookup x = some .cell) then some ((x, i) :: l) else none
    | _, _ => none)
  | _ => none
def trTgt (rs sc : Scope) (N : List Str) : Expr → Option (Tgt × List (Str × Nat))
  | .Name x p => (match trNames rs sc N [.Name x p] with
    | some [(y, i)] => some (.nm i, [(y, i)])
    | _ => none)
  | .Tuple es _ _ => (trNames rs sc N es).map fun l => (.tp (l.map (·.2)), l)
  | _ => none
def rngOf (f : Expr → Ev) : List Expr → Ei
  | [a] => if isStar a then (fun _ _ => .bad) else ciRng1 (f a)
  | [a, b] => if isStar a || isStar b then (fun _ _ => .bad) else ciRng2 (f a) (f b)
  | _ => fun _ _ => .bad
def zipOf (f : Expr → Ev) : List Expr → Ei
  | [a, b] => if isStar a || isStar b then (fun _ _ => .bad) else ciZip (f a) (f b)
  | _ => fun _ _ => .bad
def isTup : Expr → Bool
  | .Tuple .. => true
  | _ => false
def trI (c : Cfg) (f : Expr → Ev) (sc : Scope) (tg : Expr) : Expr → Ei
  | .Call (.Name x p) es ks q => if x = ("range" : Str) then (if ks.isEmpty && decide (sc.names.lookup x = some .globalImplicit) && decide (x ∈ c.blt) then rngOf f es else fun _ _ => .bad)
    else if x = ("zip" : Str) then (if ks.isEmpty && decide (sc.names.lookup x = some .globalImplicit) && decide (x ∈ c.blt) && isTup tg then zipOf f es else fun _ _ => .bad)
    else ciAny (f (.Call (.Name x p) es ks q))
  | e => ciAny (f e)
noncomputable def trComp (t : Tr) (c : Cfg) (sc : Scope) (own : Bool) (elt : Expr) (gs : List Comprehension) (scope : Scope) : Ev := match gs with
  | [⟨tg, iter, ifs, isa⟩] => if isa = 0 ∧ isSet iter = false then (match trTgt (relS scope sc) scope c.N tg with
    | some (tt, l) => if blkC c.N sc scope l then (match ifs with
      | [] => (if own then cCompO (trI c (t.E sc) sc tg iter) tt cYes (t.E (relS scope sc) elt) else cComp (trI c (t.E sc) sc tg iter) tt cYes (t.E (relS scope sc) elt))
      | [q] => (if own then cCompO (trI c (t.E sc) sc tg iter) tt (t.T (relS scope sc) q) (t.E (relS scope sc) elt) else cComp (trI c (t.E sc) sc tg iter) tt (t.T (relS scope sc) q) (t.E (relS scope sc) elt))
      | _ => bE) else bE
    | none => bE) else bE
  | _ => bE
def trCall (c : Cfg) (f : Expr → Ev) (sc : Scope) (x : Str) (es : List Expr) : Ev :=
  if dbg x || es.isEmpty || es.any isStar || !(sc.names.lookup x == some .globalImplicit) then bE else match c.fns.lookup x with
  | some (n, F) => cCall n F (trA f es)
  | none => if x ∈ c.blt then (match biTab.lookup x with
    | some (_, _, o) => cArg o (trA f es)
    | none => bE) else bE
def trMeth (f : Expr → Ev) (o : Expr) (m : Str) (apos : Pos) (es : List Expr) (cpos : Pos) : Ev :=
  if isCall o || es.any isStar || es.isEmpty || !(decide (es.length < 20)) || !(apos.endLine == cpos.line) then bE else match mtTab.lookup m with
  | some (q, _, o2) => cMeth q.ty o2 (f o) (trA f es)
  | none => bE
/-- a written dict, by its name -/
def kdOf (c : Cfg) (sc : Scope) : Expr → Option (List (Str × D))
  | .Name x _ => if dbg x || !(sc.names.lookup x == some .globalImplicit) then none else c.kd.lookup x
  | _ => none
def trMethK (c : Cfg) (sc : Scope) (f : Expr → Ev) (o : Expr) (m : Str) (apos : Pos) (es : List Expr) (cpos : Pos) : Ev := match kdOf c sc o with
  | none => trMeth f o m apos es cpos
  | some l => if m = ("get" : Str) then (match es with
    | [e] => if isStar e || !(apos.endLine == cpos.line) then bE else cUn (kdGetO l) (f e)
    | _ => bE) else bE
noncomputable def stepE (t : Tr) (c : Cfg) (sc : Scope) : Expr → Ev
  | .Constant (.int i) _ _ => cCst (.int i)
  | .Constant (.str x) _ _ => cCst (.str x)
  | .Constant (.bool b) _ _ => cCst (.bl b)
  | .Constant .none _ _ => cCst .non
  | .Name x _ => trName c sc x
  | .BinOp a op b _ => (match biOp op with
    | some o => cOp o (t.E sc a) (t.E sc b)
    | none => bE)
  | .UnaryOp .USub a _ => cUn negO (t.E sc a)
  | .UnaryOp .Not a _ => cNotV (t.E sc a)
  | .BoolOp .And es _ => trAndV (t.E sc) es
  | .BoolOp .Or es _ => trOrV (t.E sc) es
  | .IfExp q a b _ => cIfE (t.T sc q) (t.E sc a) (t.E sc b)
  | .Compare a ops bs _ => trCmp (t.E sc) a ops bs
  | .Tuple es _ _ => cTup (trA (t.E sc) es)
  | .List es p => if posIn c.own p then cLstO (trA (t.E sc) es) else cLst (trA (t.E sc) es)
  | .Subscript a (.Slice lo hi none _) _ => cSl (t.E sc a) (trPO (t.E sc) lo) (trPO (t.E sc) hi)
  | .Subscript a b _ => if isSlice b then bE else cOp ixO (t.E sc a) (t.E sc b)
  | .Call (.Name x _) es [] _ => trCall c (t.E sc) sc x es
  | .Call (.Attribute o m apos) es [] cpos => trMethK c sc (t.E sc) o m apos es cpos
  | .ListComp elt gs scope p => trComp t c sc (posIn c.own p) elt gs scope
  | _ => bE
def plainT : Expr → Bool
  | .Name .. => true | .Call .. => true | .Attribute .. => true | .Subscript .. => true | .Constant .. => true
  | _ => false
def stepT (t : Tr) (sc : Scope) : Expr → Et
  | .UnaryOp .Not a _ => cNot (t.T sc a)
  | .BoolOp .And es _ => trAndT (t.T sc) es
  | .BoolOp .Or es _ => trOrT (t.T sc) es
  | .Compare a ops bs _ => cB (trCmp (t.E sc) a ops bs)
  | e => if plainT e then cB (t.E sc e) else bT
noncomputable def tr (c : Cfg) : Nat → Tr
  | 0 => ⟨fun _ _ => bE, fun _ _ => bT⟩
  | n + 1 => ⟨stepE (tr c n) c, stepT (tr c n)⟩

/-! ### soundness -/
section
variable {P : Program} {w : World} {K : PySem.W.Frag} {mg : Str → Option Value} {base : Heap} {lvl : Nat} {c : Cfg} {X : Cx} {W : WX} {sc : Scope}
theorem XOk.gl (h : XOk P w K mg base lvl c sc X W) {x : Str} (e : sc.names.lookup x = some .globalImplicit) : Gl X x := by
  show X.env.scope.names.lookup x = _
  rw [h.sc]; exact e
theorem takes0 {X : Cx} : Takes X W0 := fun u s' ⟨_, _, _, _, _, _, _, _, _, _, _, _, _, _, _, _, z⟩ => z.elim
theorem XOk.blk (h : XOk P w K mg base lvl c sc X W) (s : Shared) (H : Hp) (scope : Scope) (C : Addr) (cl : List (Str × Addr)) (fp : List Addr) : XOk P w K mg base lvl c (relS scope sc) (X.blk s H scope (compEnvC scope cl C X.env) fp) W0 :=
  ⟨h.prog, h.w, h.K, h.mg, h.base, h.N, by rw [← h.sc]; rfl, h.room, h.calm, takes0⟩
theorem star1 {e : Expr} {es : List Expr} {env : Env} (h : isStar e = false) : starEach (e :: es) env = (false, eval e env) :: starEach es env := by
  cases e <;> first | rfl | cases h
theorem stars {es : List Expr} {env : Env} {pos : Pos} (h : es.any isStar = false) : (backTo pos (starEach es env)).any (·.1) = false := by
  induction es with
  | nil => rfl
  | cons e r ih =>
    simp only [List.any_cons, Bool.or_eq_false_iff] at h
    rw [star1 h.1]
    have := ih h.2
    simp only [backTo, List.map_cons, List.any_cons, Bool.false_or] at this ⊢
    exact this
theorem base_ok {o : Expr} {m : Str} {env : Env} (h : isCall o = false) : attributeBase o m env (eval o env) = eval o env := by
  cases o <;> first | rfl | cases h
theorem fold_ok {e : Expr} {env : Env} (h : isSet e = false) : ∀ x, foldedSetIterable e env x = pure x := by
  intro x
  cases e <;> first | rfl | cases h
theorem plainIx_ok {b : Expr} (h : isSlice b = false) : PlainIx b := by
  intro o i
  cases b <;> first | rfl | cases h

abbrev GdX (K : PySem.W.Frag) (mg : Str → Option Value) : Gd := ⟨K, mg, []⟩
/-- what is asked of a translation -/
structure TrOk (P : Program) (w : World) (K : PySem.W.Frag) (mg : Str → Option Value) (base : Heap) (lvl : Nat) (c : Cfg) (t : Tr) : Prop where
  E : ∀ sc X W, XOk P w K mg base lvl c sc X W → ∀ e, PE X e (tE (GdX K mg) W (t.E sc e))
  T : ∀ sc X W, XOk P w K mg base lvl c sc X W → ∀ e, PT X e (tT (GdX K mg) W (t.T sc e))
theorem trA_ok {f : Expr → Ev} {g : Gd} (hf : ∀ e, PE X e (tE g W (f e))) : ∀ es, PA X es (tA g W (trA f es))
  | [] => subA pa_nil t_nil
  | e :: r => by
    unfold trA
    by_cases h : isStar e = true
    · rw [if_pos h]; exact bad_A
    · rw [if_neg h]
      exact subA (pa_cons (hf e) (trA_ok hf r) (star1 (by simpa using h))) t_cons
theorem trAndV_ok {f : Expr → Ev} {g : Gd} (hf : ∀ e, PE X e (tE g W (f e))) {pos : Pos} : ∀ es, PE X (.BoolOp .And es pos) (tE g W (trAndV f es))
  | [] => bad_E
  | [a] => pe_one (hf a)
  | a :: b :: r => subE (pe_and (hf a) (trAndV_ok hf (b :: r))) t_andV
theorem trOrV_ok {f : Expr → Ev} {g : Gd} (hf : ∀ e, PE X e (tE g W (f e))) {pos : Pos} : ∀ es, PE X (.BoolOp .Or es pos) (tE g W (trOrV f es))
  | [] => bad_E
  | [a] => pe_one (hf a)
  | a :: b :: r => subE (pe_or (hf a) (trOrV_ok hf (b :: r))) t_orV
theorem trAndT_ok {f : Expr → Et} {g : Gd} (hf : ∀ e, PT X e (tT g W (f e))) {pos : Pos} : ∀ es, PW X (.BoolOp .And es pos) (tT g W (trAndT f es))
  | [] => bad_W
  | [a] => pw_and1 (hf a)
  | a :: b :: r => subW (pw_and (hf a) (trAndT_ok hf (b :: r))) t_and
theorem trOrT_ok {f : Expr → Et} {g : Gd} (hf : ∀ e, PT X e (tT g W (f e))) {pos : Pos} : ∀ es, PW X (.BoolOp .Or es pos) (tT g W (trOrT f es))
  | [] => bad_W
  | [a] => pw_or1 (hf a)
  | a :: b :: r => subW (pw_or (hf a) (trOrT_ok hf (b :: r))) t_or
theorem trCmp_ok {f : Expr → Ev} (hK : X.K = K) (hu : X.A.units + 64 < cLine) (hf : ∀ e, PE X e (tE (GdX K mg) W (f e))) {a : Expr} {ops : List CmpOp} {bs : List Expr} {pos : Pos} : PE X (.Compare a ops bs pos) (tE (GdX K mg) W (trCmp f a ops bs)) := by
  subst hK
  unfold trCmp
  split
  · split
    · rename_i hm
      split
      · rename_i o e
        obtain ⟨r, h1, h2⟩ := cmOp_ok hu e
        exact subE (pe_cmpR h1 (hf _) (hf _) hm) (t_op fun B => h2 mg B)
      · exact bad_E
    · exact bad_E
  · split
    · rename_i hm
      split
      · rename_i o o' e e'
        obtain ⟨r, h1, h2⟩ := cmOp_ok hu e
        obtain ⟨r', h1', h2'⟩ := cmOp_ok hu e'
        exact subE (pe_chain h1 h1' (hf _) (hf _) (hf _) hm) (t_chain (fun B => h2 mg B) fun B => h2' mg B)
      · exact bad_E
    · exact bad_E
  · exact bad_E
theorem trCmpT_ok {f : Expr → Ev} (hK : X.K = K) (hu : X.A.units + 64 < cLine) (hf : ∀ e, PE X e (tE (GdX K mg) W (f e))) {a : Expr} {ops : List CmpOp} {bs : List Expr} {pos : Pos} : PT X (.Compare a ops bs pos) (tT (GdX K mg) W (cB (trCmp f a ops bs))) := by
  subst hK
  unfold trCmp
  split
  · split
    · rename_i hm
      split
      · rename_i o e
        obtain ⟨r, h1, h2⟩ := cmOp_ok hu e
        exact subT (pt_cmpR h1 (hf _) (hf _) hm) (t_B (t_op fun B => h2 mg B))
      · exact ⟨fun _ _ _ _ _ _ h => let ⟨_, _, _, _, _, _, k⟩ := h; k.elim⟩
    · exact ⟨fun _ _ _ _ _ _ h => let ⟨_, _, _, _, _, _, k⟩ := h; k.elim⟩
  · split
    · rename_i hm
      split
      · rename_i o o' e e'
        obtain ⟨r, h1, h2⟩ := cmOp_ok hu e
        obtain ⟨r', h1', h2'⟩ := cmOp_ok hu e'
        exact subT (pt_chain h1 h1' (hf _) (hf _) (hf _) hm) (t_B (t_chain (fun B => h2 mg B) fun B => h2' mg B))
      · exact ⟨fun _ _ _ _ _ _ h => let ⟨_, _, _, _, _, _, k⟩ := h; k.elim⟩
    · exact ⟨fun _ _ _ _ _ _ h => let ⟨_, _, _, _, _, _, k⟩ := h; k.elim⟩
  · exact ⟨fun _ _ _ _ _ _ h => let ⟨_, _, _, _, _, _, k⟩ := h; k.elim⟩
theorem dbg_no {x : Str} (h : dbg x = false) : (x == ("__debug__" : Str)) = false ∧ (x == ("__classdict__" : Str)) = false := by
  unfold dbg at h
  simpa [Bool.or_eq_false_iff] using h
theorem trName_ok (fa : Fa P w K mg base lvl c) (h : XOk P w K mg base lvl c sc X W) {x : Str} {pos : Pos} : PE X (.Name x pos) (tE (GdX K mg) W (trName c sc x)) := by
  obtain ⟨rfl, rfl, rfl, rfl, rfl, hN, rfl, hroom, hcalm, htk⟩ := h
  unfold trName
  by_cases hd : dbg x = true
  · rw [if_pos hd]; exact bad_E
  rw [if_neg hd]
  obtain ⟨d1, d2⟩ := dbg_no (by simpa using hd)
  have var : ∀ i, idxN c.N x = some i → Vis X.env.scope x → PE X (.Name x pos) (tE (GdX X.K X.mg) W (cVar i)) := fun i e v =>
    subE (pe_var (i := i) (by rw [hN]; exact idxN_ok e) v d1 d2) t_var
  have glob : Gl X x → PE X (.Name x pos) (tE (GdX X.K X.mg) W (match c.cst.lookup x with
    | some d => cCst d
    | none => if x ∈ c.blt then (match tyTab.lookup x with
      | some T => cCst (.ty T)
      | none => bE) else bE)) := by
    intro hg
    split
    · rename_i d e
      obtain ⟨u, v, h1, h2, h3⟩ := fa.cst x d e
      exact subE (pe_glob hg h1 h2 d1) (t_cst fun B H m s hr => h3 B H m s hr)
    · split
      · rename_i hb
        split
        · rename_i T e
          have hm := lookup_mem e
          have hv : bootBuiltins x = some (.type T) ∧ x ≠ "__name__" := by
            simp only [tyTab, List.mem_cons, List.mem_nil_iff, or_false, Prod.mk.injEq] at hm
            rcases hm with ⟨rfl, rfl⟩ | ⟨rfl, rfl⟩ | ⟨rfl, rfl⟩ | ⟨rfl, rfl⟩ | ⟨rfl, rfl⟩ | ⟨rfl, rfl⟩ <;> exact ⟨rfl, by decide⟩
          exact subE (pe_bltn (v := .ty T) hg (fa.blt x hb) hv.1 rfl hv.2 d1) (t_cst fun B H m s hr => .ty)
        · exact bad_E
      · exact bad_E
  split
  · rename_i e
    split
    · rename_i i ei; exact var i ei (.inl e)
    · exact bad_E
  · rename_i e
    split
    · rename_i i ei; exact var i ei (.inr (.inl e))
    · exact bad_E
  · rename_i e
    split
    · rename_i i ei; exact var i ei (.inr (.inr e))
    · exact bad_E
  · rename_i e; exact glob e
  · exact bad_E
end
end L2.GS

namespace L2.GS
open PySem PySem.Spec PyProof.Rows
section
variable {P : Program} {w : World} {K : PySem.W.Frag} {mg : Str → Option Value} {base : Heap} {lvl : Nat} {c : Cfg} {X : Cx} {W : WX} {sc : Scope}
theorem XOk.prog_eq (h : XOk P w K mg base lvl c sc X W) : X.prog = P ∧ X.w = w ∧ X.K = K ∧ X.mg = mg ∧ X.base = base := ⟨h.prog, h.w, h.K, h.mg, h.base⟩
theorem trCall_ok (fa : Fa P w K mg base lvl c) (h : XOk P w K mg base lvl c sc X W) {f : Expr → Ev} (hf : ∀ e, PE X e (tE (GdX K mg) W (f e))) {x : Str} {p pos : Pos} {es : List Expr} :
    PE X (.Call (.Name x p) es [] pos) (tE (GdX K mg) W (trCall c f sc x es)) := by
  obtain ⟨rfl, rfl, rfl, rfl, rfl, hN, rfl, hroom, hcalm, htk⟩ := h
  unfold trCall
  split
  · exact bad_E
  rename_i hh
  simp only [Bool.or_eq_true, Bool.not_eq_true', beq_eq_false_iff_ne, not_or, Bool.not_eq_true, ne_eq, Classical.not_not] at hh
  obtain ⟨⟨⟨h1, h2⟩, h3⟩, h4⟩ := hh
  have d1 := (dbg_no h1).1
  have hg : Gl X x := h4
  cases es with
  | nil => cases h2
  | cons e es =>
    simp only [List.any_cons, Bool.or_eq_false_iff] at h3
    have s1 := star1 (es := es) (env := X.env) h3.1
    have s2 := stars (env := X.env) (pos := pos) h3.2
    split
    · rename_i n F e1
      obtain ⟨k, a, fd, ps, hk, hm, hi, FO, hb⟩ := fa.fn x n F e1
      exact subE (pe_callS FO (hroom.mono hk) hg hm hi hb (fun σ => passAt htk σ) (trA_ok hf _) d1 s1 s2) t_call
    · split
      · rename_i hb
        split
        · rename_i b id o e1
          obtain ⟨hv, ⟨r, hc, hG⟩, hn, _⟩ := biTab_ok (X := X) hcalm e1
          cases b with
          | true => exact subE (pe_callB hc hg (fa.blt x hb) hv (trA_ok hf _) hn d1 s1 s2) (t_arg fun B => hG X.mg B)
          | false => exact subE (pe_callTy hc hg (fa.blt x hb) hv (trA_ok hf _) hn d1 s1 s2) (t_arg fun B => hG X.mg B)
        · exact bad_E
      · exact bad_E
theorem starsAll {es : List Expr} {env : Env} {pos : Pos} (h : es.any isStar = false) : (backTo pos (starEach es env)).all (fun x => !x.1) = true := by
  have := stars (env := env) (pos := pos) h
  rw [List.all_eq_true]
  rw [List.any_eq_false] at this
  intro x hx
  have := this x hx
  simpa using this
theorem trMeth_ok (h : XOk P w K mg base lvl c sc X W) {f : Expr → Ev} (hf : ∀ e, PE X e (tE (GdX K mg) W (f e))) {o : Expr} {m : Str} {apos cpos : Pos} {es : List Expr} :
    PE X (.Call (.Attribute o m apos) es [] cpos) (tE (GdX K mg) W (trMeth f o m apos es cpos)) := by
  obtain ⟨rfl, rfl, rfl, rfl, rfl, hN, rfl, hroom, hcalm, htk⟩ := h
  unfold trMeth
  split
  · exact bad_E
  rename_i hh
  simp only [Bool.or_eq_true, Bool.not_eq_true', not_or, Bool.not_eq_true, decide_eq_false_iff_not, Classical.not_not, Bool.not_eq_false] at hh
  obtain ⟨⟨⟨⟨h1, h2⟩, h3⟩, h4⟩, h5⟩ := hh
  split
  · rename_i q id o2 e1
    obtain ⟨pa, slot, hty, r, hm, hG⟩ := mtTab_ok (X := X) (GS.Room.u1 hroom) e1
    cases es with
    | nil => cases h3
    | cons e es =>
      have h2' := h2
      simp only [List.any_cons, Bool.or_eq_false_iff] at h2
      refine subE (pe_bm pa slot hty hm (hf o) (trA_ok hf _) (base_ok h1) ?_ h5 (star1 h2.1) (stars h2.2)) (t_meth fun B => hG X.mg B)
      rw [starsAll h2']
      simp only [List.length_cons] at h4
      have hl : (e :: es).length + ([] : List Keyword).length + (if ([] : List Keyword).isEmpty then 0 else 1) < 30 := by
        simp; omega
      rw [decide_eq_true hl]
      rfl
  · exact bad_E

theorem trMethK_ok (fa : Fa P w K mg base lvl c) (h : XOk P w K mg base lvl c sc X W) {f : Expr → Ev} (hf : ∀ e, PE X e (tE (GdX K mg) W (f e))) {o : Expr} {m : Str} {apos cpos : Pos} {es : List Expr} :
    PE X (.Call (.Attribute o m apos) es [] cpos) (tE (GdX K mg) W (trMethK c sc f o m apos es cpos)) := by
  unfold trMethK
  split
  · exact trMeth_ok h hf
  · rename_i l hl
    unfold kdOf at hl
    split at hl
    · rename_i x p
      split at hl
      · cases hl
      · rename_i hx
        simp only [Bool.or_eq_true, Bool.not_eq_true', beq_eq_false_iff_ne, not_or, Bool.not_eq_true, ne_eq, Classical.not_not] at hx
        obtain ⟨d, hm, hk⟩ := fa.kd _ _ hl
        obtain ⟨rfl, rfl, rfl, rfl, rfl, hN, rfl, hroom, hcalm, htk⟩ := h
        split
        · rename_i hmm
          subst hmm
          split
          · rename_i e
            split
            · exact bad_E
            · rename_i hh
              simp only [Bool.or_eq_true, Bool.not_eq_true', not_or, Bool.not_eq_true, Bool.not_eq_false] at hh
              have s1 := star1 (es := []) (env := X.env) hh.1
              have tr : backTo cpos (starEach [e] X.env) = [(false, eval e X.env)] := by rw [s1]; rfl
              exact t_kget rfl hk (pe_glob hx.2 hm rfl (dbg_no hx.1).1) (hf e) ⟨base_ok rfl, by rw [tr]; rfl, hh.2, tr⟩
          · exact bad_E
        · exact bad_E
    · cases hl
/-! what is walked -/
theorem badI {tg e : Expr} {g : Gd} {W : WX} : PI X tg e (tI g W fun _ _ => .bad) := ⟨fun _ _ _ _ _ _ h => let ⟨_, _, _, _, _, _, k⟩ := h; k.elim⟩
theorem rngOf_ok {f : Expr → Ev} {g : Gd} {tg : Expr} {p pos : Pos} (hf : ∀ e, PE X e (tE g W (f e))) (hg : Gl X "range") (hm : X.mg "range" = none) : ∀ es, PI X tg (.Call (.Name "range" p) es [] pos) (tI g W (rngOf f es)) := by
  intro es
  unfold rngOf
  split
  · rename_i a
    split
    · exact badI
    · rename_i h
      have s := star1 (es := []) (env := X.env) (by simpa using h)
      exact subI (pi_range1 hg hm (pa_cons (hf a) pa_nil s) s) t_iRng1
  · rename_i a b
    split
    · exact badI
    · rename_i h
      simp only [Bool.or_eq_true, not_or, Bool.not_eq_true] at h
      have s := star1 (es := [b]) (env := X.env) h.1
      have s2 := star1 (es := []) (env := X.env) h.2
      exact subI (pi_range2 hg hm (pa_cons (hf a) (pa_cons (hf b) pa_nil s2) s) (by rw [s, s2]; rfl) s2) t_iRng2
  · exact badI
theorem zipOf_ok {f : Expr → Ev} {g : Gd} {es : List Expr} {kk : Nat} {p pos tpos : Pos} (hK : X.K = g.K) (hf : ∀ e, PE X e (tE g W (f e))) (hg : Gl X "zip") (hm : X.mg "zip" = none) : ∀ as, PI X (.Tuple es kk tpos) (.Call (.Name "zip" p) as [] pos) (tI g W (zipOf f as)) := by
  intro as
  unfold zipOf
  split
  · rename_i a b
    split
    · exact badI
    · rename_i h
      simp only [Bool.or_eq_true, not_or, Bool.not_eq_true] at h
      have s := star1 (es := [b]) (env := X.env) h.1
      have s2 := star1 (es := []) (env := X.env) h.2
      have base := pi_zipG (p := p) (pos := pos) (kk := kk) (tpos := tpos) (elts := es) hg hm (pa_cons (hf a) (pa_cons (hf b) pa_nil s2) s) s (stars (pos := pos) (by simp [h.2]))
      rw [hK] at base
      exact subI base t_iZip
  · exact badI
theorem trI_ok (fa : Fa P w K mg base lvl c) (h : XOk P w K mg base lvl c sc X W) {f : Expr → Ev} (hf : ∀ e, PE X e (tE (GdX K mg) W (f e))) {tg : Expr} (iter : Expr) : PI X tg iter (tI (GdX K mg) W (trI c f sc tg iter)) := by
  have any : PI X tg iter (tI (GdX K mg) W (ciAny (f iter))) := by
    obtain ⟨rfl, rfl, rfl, rfl, rfl, hN, rfl, hroom, hcalm, htk⟩ := h
    exact subI (pi_any (hf iter)) t_iAny
  unfold trI
  split
  · rename_i x p es ks q
    split
    · rename_i hx
      subst hx
      split
      · rename_i hh
        simp only [Bool.and_eq_true, decide_eq_true_eq, List.isEmpty_iff] at hh
        obtain ⟨⟨rfl, h2⟩, h3⟩ := hh
        obtain ⟨rfl, rfl, rfl, rfl, rfl, hN, rfl, hroom, hcalm, htk⟩ := h
        exact rngOf_ok hf h2 (fa.blt _ h3) es
      · exact badI
    · split
      · rename_i hx
        subst hx
        split
        · rename_i hh
          simp only [Bool.and_eq_true, decide_eq_true_eq, List.isEmpty_iff] at hh
          obtain ⟨⟨⟨rfl, h2⟩, h3⟩, h4⟩ := hh
          obtain ⟨rfl, rfl, rfl, rfl, rfl, hN, rfl, hroom, hcalm, htk⟩ := h
          cases tg <;> first | (cases h4; done) | exact zipOf_ok rfl hf h2 (fa.blt _ h3) es
        · exact badI
      · exact any
  · exact any

/-! a comprehension -/
theorem relS_look {x : Str} (rs : Scope) : (relS rs sc).names.lookup x = some .local → rs.names.lookup x = some .local ∨ True := fun _ => .inr trivial
theorem trNames_ok {rs scope : Scope} (hN : X.N = c.N) (hnd : X.N.Nodup) (hs : X.env.scope = rs) (hfn : ∀ x, scope.names.lookup x = some .cell → X.fn x = true) : ∀ {es : List Expr} {l : List (Str × Nat)}, trNames rs scope c.N es = some l →
    PGs X es (gNames (l.map (·.2))) ∧ (assignEach es X.env).length = l.length ∧ (assignEach es X.env).findIdx? (·.1) = none
  | [], l, h => by
    cases h
    exact ⟨pgs_nil, rfl, rfl⟩
  | .Name x p :: r, l, h => by
    unfold trNames at h
    split at h
    · rename_i i l' e1 e2
      split at h
      · rename_i hl
        cases h
        obtain ⟨q1, q2, q3⟩ := trNames_ok (rs := rs) hN hnd hs hfn e2
        refine ⟨pgs_cons (pg_name hnd (by rw [hN]; exact idxN_ok e1) ?_ ?_) q1 rfl, ?_, ?_⟩
        · rw [hs]; rcases hl with hl | hl
          · exact .inl hl
          · exact .inr hl.1
        · rw [hs]; rcases hl with hl | hl
          · exact .inr hl
          · exact .inl (hfn x hl.2)
        · show (assignEach r X.env).length + 1 = l'.length + 1
          rw [q2]
        · show List.findIdx? _ ((false, _) :: assignEach r X.env) = none
          rw [List.findIdx?_cons]
          simp [q3]
      · cases h
    · cases h
  | .BoolOp .. :: _, _, h | .NamedExpr .. :: _, _, h | .BinOp .. :: _, _, h | .UnaryOp .. :: _, _, h | .Lambda .. :: _, _, h | .IfExp .. :: _, _, h | .Dict .. :: _, _, h | .Set .. :: _, _, h | .ListComp .. :: _, _, h | .SetComp .. :: _, _, h | .DictComp .. :: _, _, h | .GeneratorExp .. :: _, _, h | .Await .. :: _, _, h | .Yield .. :: _, _, h | .YieldFrom .. :: _, _, h | .Compare .. :: _, _, h | .Call .. :: _, _, h | .FormattedValue .. :: _, _, h | .JoinedStr .. :: _, _, h | .Constant .. :: _, _, h | .Attribute .. :: _, _, h | .Subscript .. :: _, _, h | .Starred .. :: _, _, h | .List .. :: _, _, h | .Tuple .. :: _, _, h | .Slice .. :: _, _, h => by cases h
theorem trTgt_ok {rs scope : Scope} {tg : Expr} {t : Tgt} {l : List (Str × Nat)} (hN : X.N = c.N) (hnd : X.N.Nodup) (hs : X.env.scope = rs) (hfn : ∀ x, scope.names.lookup x = some .cell → X.fn x = true) (hc : X.calm = true) (h : trTgt rs scope c.N tg = some (t, l)) :
    PG X tg (t.read X.K) ∧ t.own = l.map (·.2) := by
  unfold trTgt at h
  split at h
  · rename_i x p
    split at h
    · rename_i y i e
      cases h
      unfold trNames at e
      split at e
      · rename_i j l' e1 e2
        split at e
        · rename_i hl
          cases e
          refine ⟨pg_name hnd (by rw [hN]; exact idxN_ok e1) ?_ ?_, rfl⟩
          · rw [hs]; rcases hl with hl | hl
            · exact .inl hl
            · exact .inr hl.1
          · rw [hs]; rcases hl with hl | hl
            · exact .inr hl
            · exact .inl (hfn x hl.2)
        · cases e
      · cases e
    · cases h
  · rename_i es k p
    obtain ⟨l', e, h⟩ := Option.map_eq_some_iff.mp h
    cases h
    obtain ⟨q1, q2, q3⟩ := trNames_ok (rs := rs) hN hnd hs hfn e
    refine ⟨?_, rfl⟩
    have := pg_tup (k := k) (pos := p) hc q1 (n := l.length) q2 q3
    have e : (l.map (·.2)).length = l.length := List.length_map ..
    show PG X _ (gTup X.K (l.map (·.2)).length _)
    rw [e]
    exact this
  · cases h
theorem trComp_ok (fa : Fa P w K mg base lvl c) (h : XOk P w K mg base lvl c sc X W) {t : Tr} (ht : TrOk P w K mg base lvl c t) {own : Bool} {elt : Expr} {gs : List Comprehension} {scope : Scope} {pos : Pos} : PE X (.ListComp elt gs scope pos) (tE (GdX K mg) W (trComp t c sc own elt gs scope)) := by
  have hx := h
  obtain ⟨rfl, rfl, rfl, rfl, rfl, hN, rfl, hroom, hcalm, htk⟩ := h
  unfold trComp
  split
  · rename_i tg iter ifs isa
    split
    · rename_i hh
      obtain ⟨rfl, hset⟩ := hh
      split
      · rename_i tt l e
        split
        · rename_i hb
          have ok := blkOk_by hb
          have hI := trI_ok (tg := tg) fa hx (ht.E _ _ _ hx) iter
          rw [← hN] at ok
          have hgg : ∀ (s : Shared) (H : Hp) (C : Addr) (cl : List (Str × Addr)) (fp : List Addr), PG (X.blk s H scope (compEnvC scope cl C X.env) fp) tg (tt.read X.K) ∧ tt.own = l.map (·.2) := fun s H C cl fp =>
            trTgt_ok (X := X.blk s H scope (compEnvC scope cl C X.env) fp) (c := c) hN (by show X.N.Nodup; rw [hN]; exact fa.nd) rfl (fun x hx => by simpa using hx) hcalm e
          have hel := fun (s : Shared) (H : Hp) (C : Addr) (cl : List (Str × Addr)) (fp : List Addr) => ht.E _ _ _ (hx.blk s H scope C cl fp) elt
          have hown : tt.own = l.map (·.2) := (hgg X.s_0 X.H_0 0 [] []).2
          have hnd : X.N.Nodup := by rw [hN]; exact fa.nd
          split
          · have base := pe_lc (pos := pos) hcalm hnd hI ok (fun s H C cl fp => (hgg s H C cl fp).1) (fun s H C cl fp => ⟨fun pins s σ H Q I q => pts_nil.run pins s σ H Q I (t_yes (g := GdX X.K X.mg) (W := W0) σ H Q q)⟩) hel (fold_ok hset)
            rw [← hown] at base
            split
            · exact subE base t_compO
            · exact subE base t_comp
          · rename_i q
            have base := pe_lc (pos := pos) hcalm hnd hI ok (fun s H C cl fp => (hgg s H C cl fp).1) (fun s H C cl fp => pts_one (ht.T _ _ _ (hx.blk s H scope C cl fp) q)) hel (fold_ok hset)
            rw [← hown] at base
            split
            · exact subE base t_compO
            · exact subE base t_comp
          · exact bad_E
        · exact bad_E
      · exact bad_E
    · exact bad_E
  · exact bad_E
theorem po_ok {f : Expr → Ev} {g : Gd} (hf : ∀ e, PE X e (tE g W (f e))) : ∀ o : Option Expr, PO X o (tPO g W (trPO f o))
  | none => subPO po_none t_pno
  | some e => subPO (po_some (hf e)) t_part
theorem stepE_ok (fa : Fa P w K mg base lvl c) {t : Tr} (ht : TrOk P w K mg base lvl c t) (h : XOk P w K mg base lvl c sc X W) (e : Expr) : PE X e (tE (GdX K mg) W (stepE t c sc e)) := by
  have hE := ht.E _ _ _ h
  have hT := ht.T _ _ _ h
  have hx := h
  obtain ⟨rfl, rfl, rfl, rfl, rfl, hN, rfl, hroom, hcalm, htk⟩ := h
  unfold stepE
  split
  · exact subE pe_int (t_cst fun _ _ _ _ _ => .int)
  · exact subE pe_str (t_cst fun _ _ _ _ _ => .str)
  · exact subE pe_bl (t_cst fun _ _ _ _ _ => .bl)
  · exact subE pe_non (t_cst fun _ _ _ _ _ => .non)
  · exact trName_ok fa hx
  · split
    · rename_i o e1
      obtain ⟨r, h1, h2⟩ := biOp_ok (X := X) e1
      exact subE (pe_op h1 (hE _) (hE _)) (t_op fun B => h2 X.mg B)
    · exact bad_E
  · exact subE (pe_un un_neg (hE _)) (t_un fun B => g_neg)
  · exact subE (pe_not (hE _)) t_notV
  · exact trAndV_ok hE _
  · exact trOrV_ok hE _
  · exact subE (pe_ifExp (hT _) (hE _) (hE _)) t_ifE
  · exact trCmp_ok rfl (GS.Room.u64 hroom) hE
  · exact subE (pe_tup (trA_ok hE _)) t_tup
  · split
    · exact subE (pe_lst (trA_ok hE _)) t_lstO
    · exact subE (pe_lst (trA_ok hE _)) t_lst
  · exact subE (pe_slice sl_O (hE _) (po_ok hE _) (po_ok hE _)) t_sl
  · split
    · exact bad_E
    · rename_i hs
      exact subE (pe_ix (ix_O (GS.Room.u1 hroom)) (hE _) (hE _) (plainIx_ok (by simpa using hs))) (t_op fun B => g_ix)
  · exact trCall_ok fa hx hE
  · exact trMethK_ok fa hx hE
  · exact trComp_ok fa hx ht
  · exact bad_E
theorem stepT_ok (fa : Fa P w K mg base lvl c) {t : Tr} (ht : TrOk P w K mg base lvl c t) (h : XOk P w K mg base lvl c sc X W) (e : Expr) : PT X e (tT (GdX K mg) W (stepT t sc e)) := by
  have hE := ht.E _ _ _ h
  have hT := ht.T _ _ _ h
  obtain ⟨rfl, rfl, rfl, rfl, rfl, hN, rfl, hroom, hcalm, htk⟩ := h
  unfold stepT
  split
  · exact subT (pt_not (hT _)) t_not
  · exact (trAndT_ok hT _).pt
  · exact (trOrT_ok hT _).pt
  · exact trCmpT_ok rfl (GS.Room.u64 hroom) hE
  · split
    · rename_i hp
      refine subT (pt_val (hE _) ?_) (t_B fun _ _ _ q => q)
      intro whole
      cases e <;> first | rfl | cases hp
    · exact bad_T
theorem tr_ok (fa : Fa P w K mg base lvl c) : ∀ n, TrOk P w K mg base lvl c (tr c n)
  | 0 => ⟨fun _ _ _ _ _ => bad_E, fun _ _ _ _ _ => bad_T⟩
  | n + 1 => ⟨fun _ _ _ h e => stepE_ok fa (tr_ok fa n) h e, fun _ _ _ h e => stepT_ok fa (tr_ok fa n) h e⟩
end
end L2.GS

namespace L2.GS
open PySem PySem.Spec PyProof.Rows

/-! ### statements -/
def cPar (is : List Nat) (a : Ea) : Est := fun env s => (a env s).toS env fun xs s => match setAll is xs env with
  | some env => .nx env s
  | none => .bad
section
variable {X : Cx} {g : Gd} {W : WX} {ga : Ea}
theorem t_par2 {i j : Nat} (Dn : Ends) (σ : St) (H : Hp) (h : tS g W (cPar [i, j] ga) Dn σ H) : tPar i j (tA g W ga) Dn σ H := by
  obtain ⟨B, env, s, m, he, hr, hk⟩ := h
  refine ⟨B, env, s, m, he, hr, kS.bind he hk fun xs s1 vs m1 H1 _ st1 hr1 r1 hk1 => ?_⟩
  match xs, vs, r1 with
  | [], _, _ => exact hk1.elim
  | [_], _, _ => exact hk1.elim
  | _ :: _ :: _ :: _, _, _ => exact hk1.elim
  | [x, y], _, .cons rx (.cons ry .nil) =>
    exact ⟨_, _, rfl, hk1 _ m1 H1 (Step.refl _ _) hr1 (((he.step st1).set rx i).set ry j)⟩
theorem t_par3 {i j l : Nat} (Dn : Ends) (σ : St) (H : Hp) (h : tS g W (cPar [i, j, l] ga) Dn σ H) : tPar3 i j l (tA g W ga) Dn σ H := by
  obtain ⟨B, env, s, m, he, hr, hk⟩ := h
  refine ⟨B, env, s, m, he, hr, kS.bind he hk fun xs s1 vs m1 H1 _ st1 hr1 r1 hk1 => ?_⟩
  match xs, vs, r1 with
  | [], _, _ => exact hk1.elim
  | [_], _, _ => exact hk1.elim
  | [_, _], _, _ => exact hk1.elim
  | _ :: _ :: _ :: _ :: _, _, _ => exact hk1.elim
  | [x, y, z], _, .cons rx (.cons ry (.cons rz .nil)) =>
    exact ⟨_, _, _, rfl, hk1 _ m1 H1 (Step.refl _ _) hr1 ((((he.step st1).set rx i).set ry j).set rz l)⟩
theorem t_drop0 {is : List Nat} {f : Est} (Dn : Ends) (σ : St) (H : Hp) (h : tS g W (fun env s => f (forget is env) s) Dn σ H) : tS g W f Dn σ H := by
  obtain ⟨B, env, s, m, he, hr, hk⟩ := h
  exact ⟨B, forget is env, s, m, he.forget is, hr, hk⟩
end
/-- what a loop leaves out ahead of it -/
def cPre (is : List Nat) (f : Est) : Est := fun env s => f (forget is env) s


theorem starF : (fun (e : Expr) => match e with | .Starred .. => true | _ => false) = isStar := by funext e; cases e <;> rfl
theorem swap2_ok {sc : Scope} {x y : Str} {px py p p2 : Pos} {a b : Expr} {env : Env} {k k2 : Nat} (hs : env.scope = sc) (hk : sc.kind = .function) (hx : sc.names.lookup x = some .local) (hy : sc.names.lookup y = some .local) (hl : (py.line == px.line) = true) (hn : (x == y) = false)
    (h1 : isStar a = false) (h2 : isStar b = false) (hf : (foldedForSure 8 a && foldedForSure 8 b) = false) (hc : (constantsAlone 8 a && constantsAlone 8 b) = false) :
    swappedStores [.Tuple [.Name x px, .Name y py] k p] (.Tuple [a, b] k2 p2) env = pure (some [x, y]) := by
  subst hs
  have hb : env.blockKind = .function := by
    unfold Env.blockKind
    rw [hk]; rfl
  have hst : (([a, b] : List Expr).any fun | .Starred .. => true | _ => false) = false := by
    rw [starF]; simp [h1, h2]
  have hxy : ¬ y = x := fun e => by subst e; simp at hn
  have hlx : (Expr.Name x px).pos.line = px.line := rfl
  unfold swappedStores
  simp only [hb, pure_bind, hst, List.length_cons, List.length_nil]
  simp [hx, hy, hlx, Env.kindOf, eq_of_beq hl, List.eraseDups_cons, hxy, beq_iff_eq, List.all_cons, hf, hc]
  intro h
  exfalso
  rcases h with h | h
  · cases a <;> first | (cases h; done) | (cases h1; done)
  · cases b <;> first | (cases h; done) | (cases h2; done)
theorem swap3_ok {sc : Scope} {x y z : Str} {px py pz p p2 : Pos} {a b c : Expr} {env : Env} {k k2 : Nat} (hs : env.scope = sc) (hk : sc.kind = .function) (hx : sc.names.lookup x = some .local) (hy : sc.names.lookup y = some .local) (hz : sc.names.lookup z = some .local) (hl : (py.line == px.line) = true) (hl2 : (pz.line == px.line) = true) (hn : (x == y) = false) (hn2 : (x == z) = false) (hn3 : (y == z) = false)
    (h1 : isStar a = false) (h2 : isStar b = false) (h3 : isStar c = false) (hf : (foldedForSure 8 a && (foldedForSure 8 b && foldedForSure 8 c)) = false) (hc : (constantsAlone 8 a && (constantsAlone 8 b && constantsAlone 8 c)) = false) :
    swappedStores [.Tuple [.Name x px, .Name y py, .Name z pz] k p] (.Tuple [a, b, c] k2 p2) env = pure (some [x, y, z]) := by
  subst hs
  have hb : env.blockKind = .function := by
    unfold Env.blockKind
    rw [hk]; rfl
  have hst : (([a, b, c] : List Expr).any fun | .Starred .. => true | _ => false) = false := by
    rw [starF]; simp [h1, h2, h3]
  have hxy : ¬ y = x := fun e => by subst e; simp at hn
  have hxz : ¬ z = x := fun e => by subst e; simp at hn2
  have hyz : ¬ z = y := fun e => by subst e; simp at hn3
  have hlx : (Expr.Name x px).pos.line = px.line := rfl
  unfold swappedStores
  simp only [hb, pure_bind, hst, List.length_cons, List.length_nil]
  simp [hx, hy, hz, hlx, Env.kindOf, eq_of_beq hl, eq_of_beq hl2, List.eraseDups_cons, hxy, hxz, hyz, beq_iff_eq, List.all_cons, hf, hc]
  intro h
  exfalso
  rcases h with h | h | h
  · cases a <;> first | (cases h; done) | (cases h1; done)
  · cases b <;> first | (cases h; done) | (cases h2; done)
  · cases c <;> first | (cases h; done) | (cases h3; done)
theorem filterMap_lt {α β : Type} {f : α → Option β} : ∀ {l : List α}, (∃ x ∈ l, f x = none) → (l.filterMap f).length < l.length
  | [], h => by obtain ⟨_, hx, _⟩ := h; cases hx
  | a :: r, h => by
    rw [List.filterMap_cons]
    split
    · exact Nat.lt_succ_of_le (List.length_filterMap_le f r)
    · rename_i b e
      obtain ⟨x, hx, ex⟩ := h
      rcases List.mem_cons.mp hx with rfl | hx
      · rw [ex] at e; cases e
      · exact Nat.succ_lt_succ (filterMap_lt ⟨x, hx, ex⟩)
/-- a target that is no local name: the tuple is made -/
def notLoc (sc : Scope) : Expr → Bool
  | .Name x _ => !(sc.names.lookup x == some .local)
  | _ => true
theorem swap0_ok {ts vs : List Expr} {sc : Scope} {env : Env} {k k2 : Nat} {p p2 : Pos} (hs : env.scope = sc) (h : ts.any (notLoc sc) = true) : swappedStores [.Tuple ts k p] (.Tuple vs k2 p2) env = pure none := by
  subst hs
  unfold swappedStores
  simp only [pure_bind]
  split
  · rfl
  · split
    · rfl
    · show _ = _
      rw [if_pos]
      rw [Bool.or_eq_true]
      refine .inl ?_
      rw [bne_iff_ne]
      refine Nat.ne_of_lt (filterMap_lt ?_)
      obtain ⟨t, ht, e⟩ := List.any_eq_true.mp h
      refine ⟨t, ht, ?_⟩
      cases t <;> first
        | rfl
        | (rename_i id pos
           have e' : ¬ (env.scope.names.lookup id == some .local) = true := by simpa [notLoc] using e
           have : env.kindOf id = env.scope.names.lookup id := rfl
           simp only [this]
           rw [if_neg]
           intro hc
           exact e' (Bool.and_eq_true_iff.mp hc).1)
theorem swapN_ok {ts vs : List Expr} {env : Env} {k k2 : Nat} {p p2 : Pos} (h : 3 < ts.length) : swappedStores [.Tuple ts k p] (.Tuple vs k2 p2) env = pure none := by
  have e2 : (ts.length == 2) = false := by simp; omega
  have e3 : (ts.length == 3) = false := by simp; omega
  unfold swappedStores
  simp [e2, e3]

/-! ### texts into meanings: statements -/
structure TrS where
  S : Scope → Stmt → Est
  G : Scope → Expr → Etg
def bG : Etg := fun _ _ _ => .bad
def bGs : List D → En → S → RS := fun _ _ _ => .bad
def trSs (f : Stmt → Est) : List Stmt → Est
  | [] => cSkip
  | [a] => f a
  | a :: r => cSeq (f a) (trSs f r)
def trGs (f : Expr → Etg) : List Expr → (List D → En → S → RS)
  | [] => gtNil
  | e :: r => if isStar e then bGs else gtCons (f e) (trGs f r)
def stepG (t : Tr) (u : TrS) (c : Cfg) (sc : Scope) : Expr → Etg
  | .Name x _ => if sc.names.lookup x = some .local ∨ sc.names.lookup x = some .cell then (match idxN c.N x with
    | some i => gtName i
    | none => bG) else bG
  | .Tuple es _ _ => if es.any isStar then bG else gtTup es.length (trGs (u.G sc) es)
  | .Subscript o i _ => if isSlice i then bG else gtSub (t.E sc o) (t.E sc i)
  | _ => bG
def drOf (c : Cfg) (p : Pos) : List Nat := (c.dr.lookup p.line).getD []
def isComp : Expr → Bool
  | .ListComp .. => true | .SetComp .. => true | .DictComp .. => true
  | _ => false
def nameIx (c : Cfg) (sc : Scope) : Expr → Option Nat
  | .Name x _ => if sc.names.lookup x = some .local then idxN c.N x else none
  | _ => none
/-- tuple = tuple, stored at once -/
def trPar (c : Cfg) (sc : Scope) (f : Expr → Ev) : List Expr → List Expr → Est
  | [.Name x px, .Name y py], [a, b] => (match idxN c.N x, idxN c.N y with
    | some i, some j => if sc.kind = .function ∧ sc.names.lookup x = some .local ∧ sc.names.lookup y = some .local ∧ (py.line == px.line) = true ∧ (x == y) = false ∧ isStar a = false ∧ isStar b = false ∧ (foldedForSure 8 a && foldedForSure 8 b) = false ∧ (constantsAlone 8 a && constantsAlone 8 b) = false then cPar [i, j] (trA f [a, b]) else bS
    | _, _ => bS)
  | [.Name x px, .Name y py, .Name z pz], [a, b, d] => (match idxN c.N x, idxN c.N y, idxN c.N z with
    | some i, some j, some l => if sc.kind = .function ∧ sc.names.lookup x = some .local ∧ sc.names.lookup y = some .local ∧ sc.names.lookup z = some .local ∧ (py.line == px.line) = true ∧ (pz.line == px.line) = true ∧ (x == y) = false ∧ (x == z) = false ∧ (y == z) = false ∧ isStar a = false ∧ isStar b = false ∧ isStar d = false ∧ (foldedForSure 8 a && (foldedForSure 8 b && foldedForSure 8 d)) = false ∧ (constantsAlone 8 a && (constantsAlone 8 b && constantsAlone 8 d)) = false then cPar [i, j, l] (trA f [a, b, d]) else bS
    | _, _, _ => bS)
  | _, _ => bS
noncomputable def trAsg (t : Tr) (c : Cfg) (sc : Scope) (u : TrS) (p : Pos) : Expr → Expr → Est
  | .Name x px, .ListComp elt gs scope pos => (match idxN c.N x with
    | some i => if sc.kind = .function ∧ sc.names.lookup x = some .local ∧ (px.line == pos.line) = true ∧ (scope.names.any fun (n, k) => n == x && (k == .local || k == .cell)) = false then cSet i (trComp t c sc (posIn c.own pos) elt gs scope) else bS
    | none => bS)
  | .Name x px, e => if isComp e then bS else (match idxN c.N x with
    | some i => if sc.names.lookup x = some .local ∨ sc.names.lookup x = some .cell then cSet i (t.E sc e) else bS
    | none => bS)
  | .Tuple ts k q, .Tuple vs k2 q2 => if ts.any (notLoc sc) || decide (3 < ts.length) then cAsg (u.G sc (.Tuple ts k q)) (t.E sc (.Tuple vs k2 q2)) else trPar c sc (t.E sc) ts vs
  | tg, e => if isComp e || isTup e || isStar tg then bS else cAsg (u.G sc tg) (t.E sc e)
/-- what stands in an except suite: no call, nothing new -/
def quE (c : Cfg) (sc : Scope) : Expr → Ev
  | .Constant (.int i) _ _ => cCst (.int i)
  | .Constant (.str x) _ _ => cCst (.str x)
  | .Constant (.bool b) _ _ => cCst (.bl b)
  | .Constant .none _ _ => cCst .non
  | .Name x _ => if dbg x then bE else (match sc.names.lookup x with
    | some .local | some .cell | some .free => (match idxN c.N x with
      | some i => cVar i
      | none => bE)
    | _ => bE)
  | _ => bE
def quS (c : Cfg) (sc : Scope) : Stmt → Est
  | .Assign [.Name x _] e _ => if isComp e then bS else (match idxN c.N x with
    | some i => if sc.names.lookup x = some .local ∨ sc.names.lookup x = some .cell then cSet i (quE c sc e) else bS
    | none => bS)
  | .Return (some e) _ => cRet (quE c sc e)
  | .Return none _ => cRetN
  | .Pass _ => cSkip
  | .Break _ => cBrk
  | .Continue _ => cCnt
  | _ => bS
def cTry (mt : List (Str × Bool)) (b q : Est) : Est := fun env s => match b env s with
  | .exc c fs env' s' => (match mt.lookup c with
    | some true => (match q env' s' with
      | .exc .. => .bad
      | r => r)
    | some false => .exc c fs env' s'
    | none => .bad)
  | r => r
def trTry (c : Cfg) (sc : Scope) (f : Stmt → Est) (body : List Stmt) : List ExceptHandler → Est
  | [.ExceptHandler (some (.Name x _)) none (b₀ :: suite) _] => if dbg x then bS else if sc.names.lookup x = some .globalImplicit then (match c.exm.lookup x with
    | some l => cTry l (trSs f body) (trSs (quS c sc) (b₀ :: suite))
    | none => bS) else bS
  | _ => bS
noncomputable def stepS (t : Tr) (u : TrS) (c : Cfg) (sc : Scope) : Stmt → Est
  | .Return (some e) _ => cRet (t.E sc e)
  | .Return none _ => cRetN
  | .Expr e _ => if isComp e then bS else cExpr (t.E sc e)
  | .If q a b _ => cIf (t.T sc q) (trSs (u.S sc) a) (trSs (u.S sc) b)
  | .For tg iter body [] p => if isSet iter then bS else cPre (drOf c p) (cFor (trI c (t.E sc) sc tg iter) (u.G sc tg) (cDrop (drOf c p) (trSs (u.S sc) body)))
  | .While q body [] p => cPre (drOf c p) (cWhile (t.T sc q) (cDrop (drOf c p) (trSs (u.S sc) body)))
  | .Assign [tg] e p => trAsg t c sc u p tg e
  | .Pass _ => cSkip
  | .Break _ => cBrk
  | .Continue _ => cCnt
  | .Try body hs [] [] _ => trTry c sc (u.S sc) body hs
  | _ => bS
noncomputable def trS (t : Tr) (c : Cfg) : Nat → TrS
  | 0 => ⟨fun _ _ => bS, fun _ _ => bG⟩
  | n + 1 => ⟨stepS t (trS t c n) c, stepG t (trS t c n) c⟩
section
variable {P : Program} {w : World} {K : PySem.W.Frag} {mg : Str → Option Value} {base : Heap} {lvl : Nat} {c : Cfg} {X : Cx} {W : WX} {sc : Scope}
structure XOkS (P : Program) (w : World) (K : PySem.W.Frag) (mg : Str → Option Value) (base : Heap) (lvl : Nat) (c : Cfg) (sc : Scope) (X : Cx) (W : WX) : Prop extends XOk P w K mg base lvl c sc X W where
  pass : PassesOwn (model X.prog X.w) X.A X.env X.xe
  fn : X.fn = fun _ => true
  stk : X.stack = X.env :: X.outer
  fr : X.env.frame = some X.env.locals
structure TrSOk (P : Program) (w : World) (K : PySem.W.Frag) (mg : Str → Option Value) (base : Heap) (lvl : Nat) (c : Cfg) (u : TrS) : Prop where
  S : ∀ sc X W, XOkS P w K mg base lvl c sc X W → ∀ e, PS X e (tS (GdX K mg) W (u.S sc e))
  G : ∀ sc X W, XOkS P w K mg base lvl c sc X W → ∀ e, PG X e (tG (GdX K mg) (u.G sc e))
theorem bad_G {e : Expr} {g : Gd} : PG X e (tG g bG) := ⟨fun _ _ _ _ _ _ _ _ _ h => let ⟨_, _, _, _, _, _, _, _, k⟩ := h; k.elim⟩
theorem bad_Gs {e : List Expr} {g : Gd} : PGs X e (tGs g bGs) := ⟨fun _ _ _ _ _ _ _ _ _ h => let ⟨_, _, _, _, _, _, _, _, k⟩ := h; k.elim⟩
theorem trSs_ok {f : Stmt → Est} {g : Gd} (hf : ∀ e, PS X e (tS g W (f e))) : ∀ es, PSs X es (tS g W (trSs f es))
  | [] => subSs pss_nil t_skip
  | [a] => pss_one (hf a)
  | a :: b :: r => subSs (pss_cons (hf a) (trSs_ok hf (b :: r))) t_seq
theorem asg1 {e : Expr} {es : List Expr} {env : Env} (h : isStar e = false) : assignEach (e :: es) env = (false, assign e env) :: assignEach es env := by
  cases e <;> first | rfl | cases h
theorem trGs_ok {f : Expr → Etg} {g : Gd} (hf : ∀ e, PG X e (tG g (f e))) : ∀ es, PGs X es (tGs g (trGs f es))
  | [] => subGs pgs_nil t_gNil
  | e :: r => by
    unfold trGs
    by_cases h : isStar e = true
    · rw [if_pos h]; exact bad_Gs
    · rw [if_neg h]
      have q := asg1 (es := r) (env := X.env) (by simpa using h)
      exact subGs (pgs_cons (hf e) (trGs_ok hf r) (by rw [q]; rfl)) t_gCons
theorem asgs_plain {es : List Expr} {env : Env} (h : es.any isStar = false) : (assignEach es env).length = es.length ∧ (assignEach es env).findIdx? (·.1) = none := by
  induction es with
  | nil => exact ⟨rfl, rfl⟩
  | cons e r ih =>
    simp only [List.any_cons, Bool.or_eq_false_iff] at h
    obtain ⟨q1, q2⟩ := ih h.2
    rw [asg1 h.1]
    exact ⟨by simp [q1], by rw [List.findIdx?_cons]; simp [q2]⟩
theorem stepG_ok {t : Tr} {u : TrS} (fa : Fa P w K mg base lvl c) (ht : TrOk P w K mg base lvl c t) (hu : TrSOk P w K mg base lvl c u) (h : XOkS P w K mg base lvl c sc X W) (e : Expr) : PG X e (tG (GdX K mg) (stepG t u c sc e)) := by
  have hE := ht.E _ _ _ h.toXOk
  have hG := hu.G _ _ _ h
  have hN := h.N
  have hsc := h.sc
  have hnd : X.N.Nodup := by rw [hN]; exact fa.nd
  have hK := h.K
  have hcalm := h.calm
  have hroom := h.room
  unfold stepG
  split
  · rename_i x p
    split
    · rename_i hl
      split
      · rename_i i e1
        refine subG (pg_name hnd (by rw [hN]; exact idxN_ok e1) ?_ (.inl (by rw [h.fn]))) t_gName
        rw [hsc]; exact hl
      · exact bad_G
    · exact bad_G
  · rename_i es k p
    split
    · exact bad_G
    · rename_i hs
      obtain ⟨q1, q2⟩ := asgs_plain (env := X.env) (by simpa using hs)
      subst hK
      exact subG (pg_tup hcalm (trGs_ok hG es) q1 q2) t_gTup
  · rename_i o i p
    split
    · exact bad_G
    · rename_i hs
      refine subG (pg_sub (hE o) (hE i) (set_O (GS.Room.u1 hroom)) ?_) t_gSub
      intro v
      cases i <;> first | rfl | exact absurd rfl hs
  · exact bad_G
theorem sw_no {e : Expr} (h : isComp e = false) (o : Option Expr) (l : Nat) (env : Env) : swapsWith e o l env = pure false := by
  cases e <;> first | rfl | cases h
end
end L2.GS

namespace L2.GS
open PySem PySem.Spec PyProof.Rows
section
variable {P : Program} {w : World} {K : PySem.W.Frag} {mg : Str → Option Value} {base : Heap} {lvl : Nat} {c : Cfg} {X : Cx} {W : WX} {sc : Scope}
theorem idxN_ne {N : List Str} {x y : Str} {i j : Nat} (hi : idxN N x = some i) (hj : idxN N y = some j) (h : (x == y) = false) : i ≠ j := by
  intro e
  subst e
  have := (idxN_ok hi).symm.trans (idxN_ok hj)
  cases this
  simp at h
theorem trPar_ok (fa : Fa P w K mg base lvl c) (h : XOkS P w K mg base lvl c sc X W) {f : Expr → Ev} {g : Gd} (hf : ∀ e, PE X e (tE g W (f e))) {k k2 : Nat} {p p2 pos : Pos} (ts vs : List Expr) :
    PS X (.Assign [.Tuple ts k p] (.Tuple vs k2 p2) pos) (tS g W (trPar c sc f ts vs)) := by
  have hN := h.N
  have hnd : X.N.Nodup := by rw [hN]; exact fa.nd
  have hsc := h.sc
  have hA := fun es => trA_ok hf es
  unfold trPar
  split
  · rename_i x px y py a b
    split
    · rename_i i j e1 e2
      split
      · rename_i hh
        obtain ⟨h1, h2, h3, h4, h5, h6, h7, h8, h9⟩ := hh
        exact subS (ps_par h.calm hnd (by rw [hN]; exact idxN_ok e1) (by rw [hN]; exact idxN_ok e2) (idxN_ne e1 e2 h5) (by rw [hsc]; exact h2) (by rw [hsc]; exact h3) (hA _) (swap2_ok hsc h1 h2 h3 h4 h5 h6 h7 h8 h9)) t_par2
      · exact bad_S
    · exact bad_S
  · rename_i x px y py z pz a b d
    split
    · rename_i i j l e1 e2 e3
      split
      · rename_i hh
        obtain ⟨h1, h2, h3, h3', h4, h4', h5, h5', h5'', h6, h7, h7', h8, h9⟩ := hh
        exact subS (ps_par3 h.calm hnd (by rw [hN]; exact idxN_ok e1) (by rw [hN]; exact idxN_ok e2) (by rw [hN]; exact idxN_ok e3) (idxN_ne e1 e2 h5) (idxN_ne e1 e3 h5') (idxN_ne e2 e3 h5'') (by rw [hsc]; exact h2) (by rw [hsc]; exact h3) (by rw [hsc]; exact h3') (hA _) (swap3_ok hsc h1 h2 h3 h3' h4 h4' h5 h5' h5'' h6 h7 h7' h8 h9)) t_par3
      · exact bad_S
    · exact bad_S
  · exact bad_S
theorem set_bad {s : Stmt} {g : Gd} {i : Nat} : PS X s (tS g W (cSet i bE)) := ⟨fun _ _ _ _ _ _ h => let ⟨_, _, _, _, _, _, k⟩ := h; k.elim⟩
theorem setLc_ok (fa : Fa P w K mg base lvl c) (h : XOkS P w K mg base lvl c sc X W) {t : Tr} (ht : TrOk P w K mg base lvl c t) {own : Bool} {elt : Expr} {gs : List Comprehension} {scope : Scope} {px pos spos : Pos} {x : Str} {i : Nat} (ei : idxN c.N x = some i)
    (h1 : sc.kind = .function) (h2 : sc.names.lookup x = some .local) (h3 : (px.line == pos.line) = true) (h4 : (scope.names.any fun (n, k) => n == x && (k == .local || k == .cell)) = false) :
    PS X (.Assign [.Name x px] (.ListComp elt gs scope pos) spos) (tS (GdX K mg) W (cSet i (trComp t c sc own elt gs scope))) := by
  have hx := h.toXOk
  obtain ⟨⟨rfl, rfl, rfl, rfl, rfl, hN, rfl, hroom, hcalm, htk⟩, _, _, _, _⟩ := h
  unfold trComp
  split
  · rename_i tg iter ifs isa
    split
    · rename_i hh
      obtain ⟨rfl, hset⟩ := hh
      split
      · rename_i tt l e
        split
        · rename_i hb
          have ok := blkOk_by hb
          have hI := trI_ok (tg := tg) fa hx (ht.E _ _ _ hx) iter
          rw [← hN] at ok
          have hgg : ∀ (s : Shared) (H : Hp) (C : Addr) (cl : List (Str × Addr)) (fp : List Addr), PG (X.blk s H scope (compEnvC scope cl C X.env) fp) tg (tt.read X.K) ∧ tt.own = l.map (·.2) := fun s H C cl fp =>
            trTgt_ok (X := X.blk s H scope (compEnvC scope cl C X.env) fp) (c := c) hN (by show X.N.Nodup; rw [hN]; exact fa.nd) rfl (fun x hx => by simpa using hx) hcalm e
          have hel := fun (s : Shared) (H : Hp) (C : Addr) (cl : List (Str × Addr)) (fp : List Addr) => ht.E _ _ _ (hx.blk s H scope C cl fp) elt
          have hown : tt.own = l.map (·.2) := (hgg X.s_0 X.H_0 0 [] []).2
          have hnd : X.N.Nodup := by rw [hN]; exact fa.nd
          have hyN : X.N[i]? = some x := by rw [hN]; exact idxN_ok ei
          have hsw : swapsWith (.ListComp elt [⟨tg, iter, ifs, 0⟩] scope pos) (some (.Name x px)) spos.line X.env = pure true := sw_true h1 h2 h3 h4
          split
          · have base := ps_setLc hcalm hnd hyN h2 hsw hI ok (fun s H C cl fp => (hgg s H C cl fp).1) (fun s H C cl fp => ⟨fun pins s σ H Q I q => pts_nil.run pins s σ H Q I (t_yes (g := GdX X.K X.mg) (W := W0) σ H Q q)⟩) hel (fold_ok hset)
            rw [← hown] at base
            split
            · exact subS base fun Dn σ H q => t_compO σ H _ (t_set Dn σ H q)
            · exact subS base fun Dn σ H q => t_comp σ H _ (t_set Dn σ H q)
          · rename_i q
            have base := ps_setLc hcalm hnd hyN h2 hsw hI ok (fun s H C cl fp => (hgg s H C cl fp).1) (fun s H C cl fp => pts_one (ht.T _ _ _ (hx.blk s H scope C cl fp) q)) hel (fold_ok hset)
            rw [← hown] at base
            split
            · exact subS base fun Dn σ H q => t_compO σ H _ (t_set Dn σ H q)
            · exact subS base fun Dn σ H q => t_comp σ H _ (t_set Dn σ H q)
          · exact set_bad
        · exact set_bad
      · exact set_bad
    · exact set_bad
  · exact set_bad
theorem trAsg_ok (fa : Fa P w K mg base lvl c) {t : Tr} {u : TrS} (ht : TrOk P w K mg base lvl c t) (hu : TrSOk P w K mg base lvl c u) (h : XOkS P w K mg base lvl c sc X W) (tg e : Expr) (p : Pos) : PS X (.Assign [tg] e p) (tS (GdX K mg) W (trAsg t c sc u p tg e)) := by
  have hE := ht.E _ _ _ h.toXOk
  have hN := h.N
  have hsc := h.sc
  have hnd : X.N.Nodup := by rw [hN]; exact fa.nd
  unfold trAsg
  split
  · rename_i x px elt gs scope pos
    split
    · rename_i i ei
      split
      · rename_i hh
        obtain ⟨h1, h2, h3, h4⟩ := hh
        exact setLc_ok fa h ht ei h1 h2 h3 h4
      · exact bad_S
    · exact bad_S
  · rename_i x px
    split
    · exact bad_S
    · rename_i hc
      split
      · rename_i i ei
        split
        · rename_i hl
          exact subS (ps_set hnd (by rw [hN]; exact idxN_ok ei) (by rw [hsc]; exact hl) (hE _) (sw_no (by simpa using hc) _ _ _) (.inl (by rw [h.fn]))) t_set
        · exact bad_S
      · exact bad_S
  · split
    · rename_i hh
      refine subS (ps_asg (hE _) (hu.G _ _ _ h _) rfl ?_ rfl) t_asg
      rcases Bool.or_eq_true_iff.mp hh with hh | hh
      · exact swap0_ok hsc hh
      · exact swapN_ok (of_decide_eq_true hh)
    · exact trPar_ok fa h hE _ _
  · split
    · exact bad_S
    · rename_i hh
      simp only [Bool.or_eq_true, not_or, Bool.not_eq_true] at hh
      obtain ⟨⟨h1, h2⟩, h3⟩ := hh
      refine subS (ps_asg (hE _) (hu.G _ _ _ h tg) ?_ ?_ ?_) t_asg
      · exact sw_no h1 _ _ _
      · cases e <;> first | (cases h2; done) | (cases tg <;> rfl)
      · rw [asg1 h3]; rfl
theorem quE_ok {X : Cx} {W : WX} {c : Cfg} {g : Gd} (hN : X.N = c.N) (e : Expr) : PE X e (tE g W (quE c X.env.scope e)) := by
  unfold quE
  split
  · exact subE pe_int (t_cst fun _ _ _ _ _ => .int)
  · exact subE pe_str (t_cst fun _ _ _ _ _ => .str)
  · exact subE pe_bl (t_cst fun _ _ _ _ _ => .bl)
  · exact subE pe_non (t_cst fun _ _ _ _ _ => .non)
  · rename_i x p
    by_cases hd : dbg x = true
    · rw [if_pos hd]; exact bad_E
    rw [if_neg hd]
    obtain ⟨d1, d2⟩ := dbg_no (by simpa using hd)
    have var : ∀ i, idxN c.N x = some i → Vis X.env.scope x → PE X (.Name x p) (tE g W (cVar i)) := fun i e v =>
      subE (pe_var (i := i) (by rw [hN]; exact idxN_ok e) v d1 d2) t_var
    split
    · rename_i e
      split
      · rename_i i ei; exact var i ei (.inl e)
      · exact bad_E
    · rename_i e
      split
      · rename_i i ei; exact var i ei (.inr (.inl e))
      · exact bad_E
    · rename_i e
      split
      · rename_i i ei; exact var i ei (.inr (.inr e))
      · exact bad_E
    · exact bad_E
  · exact bad_E
theorem quS_ok {X : Cx} {W : WX} {c : Cfg} {g : Gd} (hN : X.N = c.N) (hnd : c.N.Nodup) (hfn : X.fn = fun _ => true) (e : Stmt) : PS X e (tS g W (quS c X.env.scope e)) := by
  unfold quS
  split
  · rename_i x px e p
    split
    · exact bad_S
    · rename_i hc
      split
      · rename_i i ei
        split
        · rename_i hl
          exact subS (ps_set (by rw [hN]; exact hnd) (by rw [hN]; exact idxN_ok ei) hl (quE_ok hN _) (sw_no (by simpa using hc) _ _ _) (.inl (by rw [hfn]))) t_set
        · exact bad_S
      · exact bad_S
  · exact subS (ps_ret (quE_ok hN _)) t_ret
  · exact subS ps_retN t_retN
  · exact subS ps_pass t_skip
  · exact subS ps_break t_brk
  · exact subS ps_continue t_cnt
  · exact bad_S
theorem lookup_mem' {x : Str} {b : Bool} {l : List (Str × Bool)} (h : l.lookup x = some b) : (x, b) ∈ l := lookup_mem h
theorem trTry_ok (fa : Fa P w K mg base lvl c) {u : TrS} (hu : TrSOk P w K mg base lvl c u) (h : XOkS P w K mg base lvl c sc X W) {body : List Stmt} {hs : List ExceptHandler} {pos : Pos} : PS X (.Try body hs [] [] pos) (tS (GdX K mg) W (trTry c sc (u.S sc) body hs)) := by
  unfold trTry
  split
  · rename_i x np b₀ suite pos'
    by_cases hd : dbg x = true
    · rw [if_pos hd]; exact bad_S
    rw [if_neg hd]
    split
    · rename_i hg
      split
      · rename_i l el
        obtain ⟨v, hv, hl⟩ := fa.exm x l el
        have hx := h
        obtain ⟨⟨rfl, rfl, rfl, rfl, rfl, hN, rfl, hroom, hcalm, htk⟩, hp, hfn, hst, hfr⟩ := h
        have hn : Names X x v := ⟨hg, (dbg_no (by simpa using hd)).1, hv⟩
        refine subS (ps_try_only (tb := fun W => tS (GdX X.K X.mg) W (trSs (u.S X.env.scope) body)) (ts := fun _ _ _ => tS (GdX X.K X.mg) W0 (trSs (quS c X.env.scope) (b₀ :: suite))) hst hfr hn htk (fun W' pn xe tk hp' => ?_) (fun a oe cls d pn hz hvs => ?_)) ?_
        · exact trSs_ok (hu.S X.env.scope (X.tr pn xe) W' ⟨⟨rfl, rfl, rfl, rfl, rfl, hN, rfl, hroom, hcalm, tk⟩, hp', hfn, hst, hfr⟩) body
        · exact trSs_ok (fun e => quS_ok (X := X.suite a ((a, oe) :: pn)) hN fa.nd hfn e) _
        · intro Dn σ H hq
          obtain ⟨B, env, s, m, he, hr, hk⟩ := hq
          refine ⟨B, env, s, m, he, hr, ?_⟩
          unfold cTry at hk
          cases q : trSs (u.S X.env.scope) body env s with
          | nx e2 s2 => rw [q] at hk; exact hk
          | rt d s2 => rw [q] at hk; exact hk
          | bk e2 s2 => rw [q] at hk; exact hk
          | ct e2 s2 => rw [q] at hk; exact hk
          | bad => rw [q] at hk; exact hk
          | exc cc fs e2 s2 =>
            rw [q] at hk
            intro σ' m' H' st he' m2 H2 C d st2 hr2 hc xf
            cases z : l.lookup cc with
            | none => simp only [z] at hk; exact hk.elim
            | some b =>
              have hb := hl _ _ (lookup_mem z) C hc
              refine ⟨b, hb, fun hbt a ha => ?_, fun hbf => ?_⟩
              · subst hbt
                simp only [z] at hk
                refine ⟨B, e2, s2, m2, he'.step st2, hr2, ?_⟩
                cases qq : trSs (quS c X.env.scope) (b₀ :: suite) e2 s2 with
                | nx e3 s3 => rw [qq] at hk; exact kS.at (st.trans st2) hk
                | rt d s3 => rw [qq] at hk; exact kS.at (st.trans st2) hk
                | bk e3 s3 => rw [qq] at hk; exact kS.at (st.trans st2) hk
                | ct e3 s3 => rw [qq] at hk; exact kS.at (st.trans st2) hk
                | bad => rw [qq] at hk; exact hk
                | exc c3 f3 e3 s3 => rw [qq] at hk; exact hk.elim
              · subst hbf
                simp only [z] at hk
                exact hk σ' m' H' st he' m2 H2 C d st2 hr2 hc xf
      · exact bad_S
    · exact bad_S
  · exact bad_S
theorem stepS_ok (fa : Fa P w K mg base lvl c) {t : Tr} {u : TrS} (ht : TrOk P w K mg base lvl c t) (hu : TrSOk P w K mg base lvl c u) (h : XOkS P w K mg base lvl c sc X W) (e : Stmt) : PS X e (tS (GdX K mg) W (stepS t u c sc e)) := by
  have hE := ht.E _ _ _ h.toXOk
  have hT := ht.T _ _ _ h.toXOk
  have hS := hu.S _ _ _ h
  have hG := hu.G _ _ _ h
  unfold stepS
  split
  · exact subS (ps_ret (hE _)) t_ret
  · exact subS ps_retN t_retN
  · split
    · exact bad_S
    · rename_i hc
      exact subS (ps_expr (hE _) (sw_no (by simpa using hc) _ _ _)) t_expr
  · exact subS (ps_if (hT _) (trSs_ok hS _) (trSs_ok hS _)) t_if
  · split
    · exact bad_S
    · rename_i hs
      exact subS (ps_for h.pass h.calm (trI_ok fa h.toXOk hE _) (hG _) (subSs (trSs_ok hS _) t_drop) (fold_ok (by simpa using hs))) fun Dn σ H q => t_for Dn σ H (t_drop0 Dn σ H q)
  · exact subS (ps_while h.pass (hT _) (subSs (trSs_ok hS _) t_drop)) fun Dn σ H q => t_while Dn σ H (t_drop0 Dn σ H q)
  · exact trAsg_ok fa ht hu h _ _ _
  · exact subS ps_pass t_skip
  · exact subS ps_break t_brk
  · exact subS ps_continue t_cnt
  · exact trTry_ok fa hu h
  · exact bad_S
theorem trS_ok (fa : Fa P w K mg base lvl c) {t : Tr} (ht : TrOk P w K mg base lvl c t) : ∀ n, TrSOk P w K mg base lvl c (trS t c n)
  | 0 => ⟨fun _ _ _ _ _ => bad_S, fun _ _ _ _ _ => bad_G⟩
  | n + 1 => ⟨fun _ _ _ h e => stepS_ok fa ht (trS_ok fa ht n) h e, fun _ _ _ h e => stepG_ok fa ht (trS_ok fa ht n) h e⟩
end
/-- a body's meaning -/
noncomputable def trB (c : Cfg) (sc : Scope) (body : List Stmt) : Est := trSs ((trS (tr c 12) c 8).S sc) body
/-- THE RULE of a def whose text is read -/
theorem fn_tr {P : Program} {w : World} {K : PySem.W.Frag} {mg : Str → Option Value} {base : Heap} {x qual : Str} {params : Arguments} {body : List Stmt} {scope : Scope} {dvs : List V} {kws : List (Str × V)} {f : Addr} {fd : FuncData} {ps : List Str} {k : Nat} {c : Cfg} {b : Est}
    (F : FunD K x qual params body scope dvs kws f fd) (Sc : FnScope c.N ps scope) (fa : Fa P w K mg base k c) (hb : trB c scope body = b) : FnOk P w K mg base (L2.CX P w) (k + 1) f fd ps (spF K mg ps.length (runB c.N.length b)) := by
  subst hb
  refine fn_body F Sc fun X W h1 h2 h3 h4 h5 h6 h7 h8 h9 h10 h11 hr htk hp => ?_
  exact trSs_ok ((trS_ok fa (tr_ok fa 12) 8).S _ _ _ ⟨⟨h1, h2, h3, h4, h5, h6, h7, hr, h10, htk⟩, hp, h11, h8, h9⟩) body
end L2.GS

namespace L2.GS
open PySem PySem.Spec PyProof.Rows

/-! ### from facts to what a def may name -/
def CalOk (P : Program) (w : World) (K : PySem.W.Frag) (mg : Str → Option Value) (base : Heap) (lvl : Nat) (x : Str) (n : Nat) (F : Fn) : Prop :=
  ∃ k f fd ps, k ≤ lvl ∧ mg x = some (.ref f) ∧ PySem.W.keepIn K (.ref f) = true ∧ FnOk P w K mg base (L2.CX P w) k f fd ps (spF K mg n F) ∧ Binds K fd ps []
def CstOk (K : PySem.W.Frag) (mg : Str → Option Value) (x : Str) (d : D) : Prop := ∃ u v, mg x = some u ∧ RelV v u ∧ ∀ B H m s, HRep ⟨K, mg, B⟩ H m s → Rep ⟨K, mg, B⟩ H m v d
def ExmOk (K : PySem.W.Frag) (mg : Str → Option Value) (x : Str) (l : List (Str × Bool)) : Prop := ∃ v, (mg x = some v ∨ (mg x = none ∧ bootBuiltins x = some v ∧ x ≠ "__name__")) ∧ ∀ y b, (y, b) ∈ l → ∀ C, mg y = some (.ref C) → PySem.W.exmOne K (.ref C) v = some b
def KdcOk (K : PySem.W.Frag) (w : World) (mg : Str → Option Value) (x : Str) (l : List (Str × D)) : Prop := ∃ d, mg x = some (.ref d) ∧ KdOk K w mg d l
theorem fN {α : Type} {P : α → Prop} : ∀ p ∈ ([] : List α), P p := fun _ h => nomatch h
theorem fC {α : Type} {P : α → Prop} {a : α} {l : List α} (h : P a) (r : ∀ p ∈ l, P p) : ∀ p ∈ a :: l, P p := fun p hp => (List.mem_cons.mp hp).elim (fun e => e ▸ h) (r p)
section
variable {P : Program} {w : World} {K : PySem.W.Frag} {mg : Str → Option Value} {base : Heap} {lvl : Nat} {c : Cfg} {h : Heap}
theorem CalOk.mono {l l' : Nat} {x : Str} {n : Nat} {F : Fn} (hl : l ≤ l') (a : CalOk P w K mg base l x n F) : CalOk P w K mg base l' x n F := by
  obtain ⟨k, f, fd, ps, h1, r⟩ := a
  exact ⟨k, f, fd, ps, Nat.le_trans h1 hl, r⟩
theorem fa_of (hf : ∀ p ∈ c.fns, CalOk P w K mg base lvl p.1 p.2.1 p.2.2) (hc : ∀ p ∈ c.cst, CstOk K mg p.1 p.2) (hb : ∀ x ∈ c.blt, mg x = none) (hnd : c.N.Nodup) (hx : ∀ p ∈ c.exm, ExmOk K mg p.1 p.2) (hk : ∀ p ∈ c.kd, KdcOk K w mg p.1 p.2) : Fa P w K mg base lvl c :=
  ⟨fun x n F e => hf _ (lookup_mem e), fun x d e => hc _ (lookup_mem e), hb, hnd, fun x l e => hx _ (lookup_mem e), fun x l e => hk _ (lookup_mem e)⟩
theorem cst_int (X : K.In h) (G : h.Ns mainGlobals mg) {x : Str} {i : Int} (f : (He.Fa.int x i).ok K = true) : CstOk K mg x (.int i) := by
  obtain ⟨t, e⟩ := He.int_ok X G f
  exact ⟨_, .int i, e, ⟨t, rfl⟩, fun _ _ _ _ _ => .int⟩
theorem cst_str (X : K.In h) (G : h.Ns mainGlobals mg) {x z : Str} (f : (He.Fa.str x z).ok K = true) : CstOk K mg x (.str z) := by
  obtain ⟨t, e⟩ := He.str_ok X G f
  exact ⟨_, .str z, e, ⟨t, rfl⟩, fun _ _ _ _ _ => .str⟩
/-- a flat tuple of ints and texts -/
def dvD : He.Dv → D
  | .non => .non | .bl b => .bl b | .int i => .int i | .str x => .str x | .ty n => .ty n | .glo x => .glb x
  | _ => .non
def dvOk : He.Dv → Bool
  | .non => true | .bl _ => true | .int _ => true | .str _ => true | .ty _ => true
  | _ => false
theorem dv_rep {g : Gd} {H : Hp} {m : List Addr} {d : He.Dv} (h : dvOk d = true) : Rep g H m (d.v K) (dvD d) := by
  cases d <;> first | (cases h; done) | constructor
theorem dvs_rep {g : Gd} {H : Hp} {m : List Addr} : ∀ {ds : List He.Dv}, ds.all dvOk = true → Reps g H m (ds.map (He.Dv.v K)) (ds.map dvD)
  | [], _ => .nil
  | d :: r, h => by
    simp only [List.all_cons, Bool.and_eq_true] at h
    exact .cons (dv_rep h.1) (dvs_rep h.2)
theorem cst_tup (X : K.In h) (G : h.Ns mainGlobals mg) {x : Str} {vs : List He.Dv} {d : D} (f : (He.Fa.glo x).ok K = true) (t : He.tupB K x vs = true) (hv : vs.all dvOk = true) (hd : d = .tup (vs.map dvD)) : CstOk K mg x d := by
  subst hd
  refine ⟨_, .ref (He.ga K x), He.glo_ok X G f, rfl, fun B H m s hr => ?_⟩
  rcases He.tupB_ok t (fun _ => none) with q | q
  · rcases q with q | ⟨_, q⟩ <;> cases q
  · exact .tupK q (dvs_rep hv)
theorem exm_0 (X : K.In h) (G : h.Ns mainGlobals mg) {x : Str} (f : (He.Fa.glo x).ok K = true) : ExmOk K mg x [] := ⟨_, .inl (He.glo_ok X G f), fun _ _ hm => nomatch hm⟩
theorem kdc_of (X : K.In h) (G : h.Ns mainGlobals mg) {x : Str} {ks : List Str} {kvs : List (Str × He.Dv)} {l : List (Str × D)} (f : (He.Fa.glo x).ok K = true) (hd : He.dicW K (He.ga K x) = some (He.keysIn w.params ks)) (hv : He.valsB K (He.ga K x) kvs = true)
    (hk : kvs.map (·.1) = ks) (hl : l = kvs.map fun q => (q.1, dvD q.2)) (ho : kvs.all (fun q => dvOk q.2) = true) : KdcOk K w mg x l := by
  subst hl
  refine ⟨_, He.glo_ok X G f, kd_of hd hv hk (by rw [← hk, List.map_map]; rfl) fun z x e => ?_⟩
  have hm := lookup_mem e
  obtain ⟨q, hq, e2⟩ := List.mem_map.mp hm
  cases e2
  exact ⟨q.2, hq, fun B H m s _ => dv_rep (List.all_eq_true.mp ho q hq)⟩
theorem def_ok {x qual : Str} {params : Arguments} {body : List Stmt} {scope : Scope} {kws : List (Str × V)} {f : Addr} {fd : FuncData} {ps : List Str} {b : Est} {n : Nat}
    (F : FunD K x qual params body scope [] kws f fd) (Sc : FnScope c.N ps scope) (fa : Fa P w K mg base lvl c) (hb : trB c scope body = b) (hg : mg x = some (.ref f)) (hn : ps.length = n)
    (hbd : ∀ (kV doc pm : Value) (an : Option Addr) (cdv ct : Value) (us : List Value), us.length = ps.length → bindArgs (PySem.W.fnOf x qual params body scope .none kV doc pm an cdv ct) ⟨us, []⟩ = pure (ps.zip us)) :
    CalOk P w K mg base (lvl + 1) x n (runB c.N.length b) :=
  ⟨lvl + 1, f, fd, ps, Nat.le_refl _, hg, F.kp, by rw [← hn]; exact fn_tr F Sc fa hb, F.bindsN hbd⟩
/-- a def that promises nothing -/
theorem def_bad {x qual : Str} {params : Arguments} {body : List Stmt} {scope : Scope} {kws : List (Str × V)} {f : Addr} {fd : FuncData} {N ps : List Str} {n : Nat}
    (F : FunD K x qual params body scope [] kws f fd) (Sc : FnScope N ps scope) (hg : mg x = some (.ref f)) (hn : ps.length = n)
    (hbd : ∀ (kV doc pm : Value) (an : Option Addr) (cdv ct : Value) (us : List Value), us.length = ps.length → bindArgs (PySem.W.fnOf x qual params body scope .none kV doc pm an cdv ct) ⟨us, []⟩ = pure (ps.zip us)) :
    CalOk P w K mg base 1 x n (fun _ _ => .bad) := by
  refine ⟨1, f, fd, ps, Nat.le_refl _, hg, F.kp, ?_, F.bindsN hbd⟩
  have hb := fn_body (P := P) (w := w) (mg := mg) (base := base) (k := 0) (b := bS) F Sc fun X W _ _ _ _ _ _ _ _ _ _ _ _ _ _ => bad_Ss
  rw [hn] at hb
  exact hb
end

theorem HRep.nil {g : Gd} {H : Hp} (hB : g.B = []) : HRep g H [] [] := ⟨rfl, List.nodup_nil, fun i a o h => by simp at h, fun a ha => by rw [hB] at ha; cases ha⟩
theorem reps_ints {g : Gd} {H : Hp} {m : List Addr} : ∀ ns : List Int, Reps g H m (ns.map V.int) (ns.map D.int)
  | [] => .nil
  | n :: r => .cons .int (reps_ints r)
/-- THE END: a law's meaning is True at every script -/
theorem walk_law {l : PySem.W.OpenLaw} {k : Nat} {q : Program} {loose : List Str} {XP : (Str → Option Value) → Heap → Prop} {YP : World → Heap → Prop} {d : DefRec} {x : Str} {FL : Fn}
    (hn : l.most = some 63) (hdf : d.params.defaults = []) (hr : Room k callerA)
    (F : ∀ (w : World) (mg : Str → Option Value) (fa : Addr) (h : Heap), YP w h → h.Ns mainGlobals mg → mg d.name = some (.ref fa) →
      ∃ (K : PySem.W.Frag) (fd : FuncData), K.In h ∧ (∀ (s : Shared) (u : Value), BindsTo s fd ⟨[u], []⟩ [(x, u)]) ∧ ∀ base : Heap, FnOk l.prog w K mg base (L2.CX l.prog w) k fa fd [x] (spF K mg 1 FL))
    (hlaw : ∀ ns : List Int, ns.length ≤ 63 → (∀ z ∈ ns, Builtin.Int.intBits z ≤ 1048576) → ∃ s, FL [.fls (ns.map D.int)] [] = .ok (.bl true) s) :
    PySem.W.WalkO q loose XP YP l.row.toRowW d [] (fun f vs => PySem.call f vs) := by
  refine Att.attach_callB hn hdf fun w s₀ s₁ mg mb fa o pm cd doc a vs ns G Y ho hd hcd hmg hobj hints hlen hbits hg => ?_
  obtain ⟨K, fd, KX, hb, hF⟩ := F w mg fa _ Y G.T.g hmg
  refine law_call KX G.T.g G.T.b G.T.builtins G.T.nolimit hg hobj hints (Nat.le_trans hlen (by decide)) hr (fun base _ _ => hF base) hb (fun H hO hS => ?_) fun H e s' => ?_
  · obtain ⟨s, es⟩ := hlaw ns hlen hbits
    refine ⟨rfl, [], [.fls (ns.map D.int)], [], [], HRep.nil rfl, .cons ?_ .nil, ?_⟩
    · rcases hS with hS | hS
      · rcases hS with hS | ⟨o, hS⟩
        · rcases hO a with e | ⟨o, xs, e⟩
          · rw [e] at hS; cases hS
          · rw [e] at hS; cases hS
        · exact .fls hS (by simp) (by simp) (reps_ints ns)
      · exact .flsK hS (reps_ints ns)
    · rw [es]
      intro v m' H' st hr r
      cases r
      rfl
  · rintro ⟨_, _, _, _, _, _, _, _, _, _, _, _, z⟩
    exact z

theorem tab_eq {fa : List He.Fa} {fn : List He.DefD} {ts : List He.Tab} {w : World} {K : PySem.W.Frag} (c : He.SaysT fa fn ts w K) (i : Nat) {t : He.Tab} (h : ts[i]? = some t) : He.dicW K (t.1 K) = some (He.keysIn w.params t.2) := by
  have e : ts.map (fun t => He.dicW K (t.1 K)) = ts.map fun t => some (He.keysIn w.params t.2) := congrArg (fun z : He.AlT => z.2) c
  have e2 : (ts.map fun t => He.dicW K (t.1 K))[i]? = (ts.map fun t => some (He.keysIn w.params t.2))[i]? := by rw [e]
  rw [List.getElem?_map, List.getElem?_map, h] at e2
  exact Option.some.inj e2
theorem ex_at {l : List Bool} (h : l.all id = true) (i : Nat) {b : Bool} (e : l[i]? = some b) : b = true := List.all_eq_true.mp h b (List.mem_of_getElem? e)
end L2.GS

namespace L2.GS.KK
open PySem PySem.Spec PyProof.Rows
def top (i : Nat) : Stmt := PySem.Challenge.pw_goneday_k58_deeds_as_texts.main.body.getD i (.Pass ⟨0, 0, 0, 0⟩)
def d_LENGTHS : D := (.tup [(.int 31), (.int 28), (.int 31), (.int 30), (.int 31), (.int 30), (.int 31), (.int 31), (.int 30), (.int 31), (.int 30), (.int 31)])
def d_FIRST_YEAR : D := (.int 2000)
def d_LAST_YEAR : D := (.int 9999)
def d_LAST_DAY : D := (.int 99999)
def d_FIGURES : D := (.str "0123456789")
def d_LETTERS : D := (.str "abcdefghijklmnopqrstuvwxyz")
def d_UNITS : D := (.tup [(.str "days"), (.str "months"), (.str "years")])
def d_MOST_LETTERS : D := (.int 8)
def d_MOST_MANY : D := (.int 999)
def d_MOST_MAKERS : D := (.int 4)
def k_FORMS : List (Str × D) := [("paper", (.str "nnm")), ("happens", (.str "nn")), ("rule", (.str "nr")), ("end", (.str "n")), ("hold", (.str "ntb")), ("lift", (.str "n")), ("leave", (.str "nn"))]
def e_NoText : List (Str × Bool) := []
def N_w_mixed : List Str := ["_law_cell"]
noncomputable def c_w_mixed : Cfg := { N := N_w_mixed, fns := [], cst := [], blt := [], own := [], dr := [], exm := [], kd := [] }
noncomputable def b_w_mixed : Est :=
  (cRet (cOp modO (cOp mulO (cVar 0) (cCst (.int 141421356237309504880168872420969807856967187537694807317667))) (cOp powO (cCst (.int 10)) (cCst (.int 60)))))
noncomputable def F_w_mixed : Fn := runB 1 b_w_mixed
theorem t_w_mixed : trB (c_w_mixed) (defScope (top 47)) (defBody (top 47)) = b_w_mixed := by kernel_rfl
def N_w_pack : List Str := ["_law_script", "_law_k"]
noncomputable def c_w_pack : Cfg := { N := N_w_pack, fns := [("_law_mixed", 1, F_w_mixed)], cst := [], blt := ["len"], own := [(175, 15), (176, 11)], dr := [], exm := [], kd := [] }
noncomputable def b_w_pack : Est :=
  (cSeq (cIf (cB (cOp ltO (cVar 1) (cArg lenO (cCons (cVar 0) cNil)))) (cRet (cLstO (cCons (cCall 1 F_w_mixed (cCons (cOp addO (cOp ixO (cVar 0) (cVar 1)) (cOp mulO (cCst (.int 23)) (cVar 1))) cNil)) cNil))) cSkip)
  (cRet (cLstO (cCons (cCall 1 F_w_mixed (cCons (cOp addO (cOp mulO (cCst (.int 6007)) (cVar 1)) (cCst (.int 13))) cNil)) cNil))))
noncomputable def F_w_pack : Fn := runB 2 b_w_pack
theorem t_w_pack : trB (c_w_pack) (defScope (top 48)) (defBody (top 48)) = b_w_pack := by kernel_rfl
def N_w_take : List Str := ["_law_pack_here", "_law_size", "_law_digit"]
noncomputable def c_w_take : Cfg := { N := N_w_take, fns := [], cst := [], blt := ["divmod"], own := [], dr := [], exm := [], kd := [] }
noncomputable def b_w_take : Est :=
  (cSeq (cAsg (gtTup 2 (gtCons (gtSub (cVar 0) (cCst (.int 0))) (gtCons (gtName 2) gtNil))) (cArg divmodO (cCons (cOp ixO (cVar 0) (cCst (.int 0))) (cCons (cVar 1) cNil))))
  (cRet (cVar 2)))
noncomputable def F_w_take : Fn := runB 3 b_w_take
theorem t_w_take : trB (c_w_take) (defScope (top 49)) (defBody (top 49)) = b_w_take := by kernel_rfl
def N_w_names : List Str := ["_law_pack_here", "_law_many", "_law_letters", "_law_size", "_law_at", "_law_stem", "_law_first", "_law_words", "_law_turn", "_law_k"]
noncomputable def c_w_names : Cfg := { N := N_w_names, fns := [("_law_take", 2, F_w_take)], cst := [], blt := ["len", "range"], own := [], dr := [], exm := [], kd := [] }
noncomputable def b_w_names : Est :=
  (cSeq (cSet 2 (cCst (.str "abcdefghijklmnopqrstuvwxyz")))
  (cSeq (cIf (cB (cOp (eqO false) (cCall 2 F_w_take (cCons (cVar 0) (cCons (cCst (.int 4)) cNil))) (cCst (.int 0)))) (cSeq (cSet 7 (cLst (cCons (cCst (.str "paper")) (cCons (cCst (.str "kind")) (cCons (cCst (.str "keep")) (cCons (cCst (.str "days")) (cCons (cCst (.str "coming")) (cCons (cCst (.str "first")) (cCons (cCst (.str "deep")) (cCons (cCst (.str "none")) (cCons (cCst (.str "never")) (cCons (cCst (.str "gone")) (cCons (cCst (.str "held")) (cCons (cCst (.str "rule")) cNil))))))))))))))
    (cSeq (cSet 7 (cOp addO (cVar 7) (cLst (cCons (cCst (.str "last")) (cCons (cCst (.str "end")) (cCons (cCst (.str "hold")) (cCons (cCst (.str "lift")) (cCons (cCst (.str "leave")) (cCons (cCst (.str "happens")) (cCons (cCst (.str "while")) (cCons (cCst (.str "follow")) (cCons (cCst (.str "months")) (cCons (cCst (.str "years")) cNil)))))))))))))
    (cSeq (cSet 8 (cCall 2 F_w_take (cCons (cVar 0) (cCons (cArg lenO (cCons (cVar 7) cNil)) cNil))))
    (cRet (cSl (cOp addO (cSl (cVar 7) (cPart (cVar 8)) cPno) (cSl (cVar 7) cPno (cPart (cVar 8)))) cPno (cPart (cVar 1))))))) cSkip)
  (cSeq (cSet 3 (cOp addO (cCst (.int 1)) (cCall 2 F_w_take (cCons (cVar 0) (cCons (cCst (.int 8)) cNil)))))
  (cSeq (cSet 4 (cCall 2 F_w_take (cCons (cVar 0) (cCons (cVar 3) cNil))))
  (cSeq (cSet 5 (cMeth (MSort.ty .s) joinO (cCst (.str "")) (cCons (cComp (ciRng1 (cVar 3)) (.nm 9) cYes (cOp ixO (cVar 2) (cCall 2 F_w_take (cCons (cVar 0) (cCons (cCst (.int 26)) cNil))))) cNil)))
  (cSeq (cSet 6 (cCall 2 F_w_take (cCons (cVar 0) (cCons (cCst (.int 26)) cNil))))
  (cRet (cComp (ciRng1 (cVar 1)) (.nm 9) cYes (cOp addO (cOp addO (cSl (cVar 5) cPno (cPart (cVar 4))) (cOp ixO (cVar 2) (cOp modO (cOp addO (cVar 6) (cOp mulO (cCst (.int 5)) (cVar 9))) (cCst (.int 26))))) (cSl (cVar 5) (cPart (cOp addO (cVar 4) (cCst (.int 1)))) cPno))))))))))
noncomputable def F_w_names : Fn := runB 10 b_w_names
theorem t_w_names : trB (c_w_names) (defScope (top 50)) (defBody (top 50)) = b_w_names := by kernel_rfl
def N_w_ahead : List Str := ["_law_year", "_law_years"]
noncomputable def c_w_ahead : Cfg := { N := N_w_ahead, fns := [], cst := [], blt := [], own := [], dr := [], exm := [], kd := [] }
noncomputable def b_w_ahead : Est :=
  (cSeq (cSet 1 (cOp subO (cVar 0) (cCst (.int 2000))))
  (cRet (cOp addO (cOp subO (cOp addO (cOp mulO (cCst (.int 365)) (cVar 1)) (cOp fdivO (cOp addO (cVar 1) (cCst (.int 3))) (cCst (.int 4)))) (cOp fdivO (cOp addO (cVar 1) (cCst (.int 99))) (cCst (.int 100)))) (cOp fdivO (cOp addO (cVar 1) (cCst (.int 399))) (cCst (.int 400))))))
noncomputable def F_w_ahead : Fn := runB 2 b_w_ahead
theorem t_w_ahead : trB (c_w_ahead) (defScope (top 53)) (defBody (top 53)) = b_w_ahead := by kernel_rfl
def N_w_length : List Str := ["_law_year", "_law_month"]
noncomputable def c_w_length : Cfg := { N := N_w_length, fns := [], cst := [], blt := [], own := [], dr := [], exm := [], kd := [] }
noncomputable def b_w_length : Est :=
  (cSeq (cIf (cAnd (cB (cOp (eqO false) (cVar 1) (cCst (.int 2)))) (cOr (cB (cOp (eqO true) (cOp modO (cVar 0) (cCst (.int 4))) (cCst (.int 0)))) (cAnd (cB (cOp (eqO false) (cOp modO (cVar 0) (cCst (.int 100))) (cCst (.int 0)))) (cB (cOp (eqO true) (cOp modO (cVar 0) (cCst (.int 400))) (cCst (.int 0))))))) (cRet (cCst (.int 28))) cSkip)
  (cRet (cOp ixO (cLst (cCons (cCst (.int 31)) (cCons (cCst (.int 29)) (cCons (cCst (.int 31)) (cCons (cCst (.int 30)) (cCons (cCst (.int 31)) (cCons (cCst (.int 30)) (cCons (cCst (.int 31)) (cCons (cCst (.int 31)) (cCons (cCst (.int 30)) (cCons (cCst (.int 31)) (cCons (cCst (.int 30)) (cCons (cCst (.int 31)) cNil))))))))))))) (cOp subO (cVar 1) (cCst (.int 1))))))
noncomputable def F_w_length : Fn := runB 2 b_w_length
theorem t_w_length : trB (c_w_length) (defScope (top 52)) (defBody (top 52)) = b_w_length := by kernel_rfl
def N_w_any_day : List Str := ["_law_pack_here", "_law_way", "_law_last", "_law_year", "_law_month", "_law_k"]
noncomputable def c_w_any_day : Cfg := { N := N_w_any_day, fns := [("_law_take", 2, F_w_take), ("_law_ahead", 1, F_w_ahead), ("_law_length", 2, F_w_length)], cst := [], blt := ["min", "range", "sum"], own := [], dr := [], exm := [], kd := [] }
noncomputable def b_w_any_day : Est :=
  (cSeq (cSet 1 (cCall 2 F_w_take (cCons (cVar 0) (cCons (cCst (.int 4)) cNil))))
  (cSeq (cIf (cB (cOp (eqO false) (cVar 1) (cCst (.int 0)))) (cRet (cCall 2 F_w_take (cCons (cVar 0) (cCons (cCst (.int 100000)) cNil)))) cSkip)
  (cSeq (cIf (cB (cOp (eqO false) (cVar 1) (cCst (.int 1)))) (cRet (cCall 2 F_w_take (cCons (cVar 0) (cCons (cCst (.int 70)) cNil)))) cSkip)
  (cSeq (cIf (cB (cOp (eqO false) (cVar 1) (cCst (.int 2)))) (cRet (cOp ixO (cLst (cCons (cCst (.int 0)) (cCons (cCst (.int 99999)) (cCons (cCst (.int 59)) (cCons (cCst (.int 60)) (cCons (cCst (.int 365)) (cCons (cCst (.int 366)) (cCons (cCst (.int 36524)) (cCons (cCst (.int 36525)) (cCons (cCst (.int 99996)) cNil)))))))))) (cCall 2 F_w_take (cCons (cVar 0) (cCons (cCst (.int 9)) cNil))))) cSkip)
  (cSeq (cAsg (gtTup 2 (gtCons (gtName 3) (gtCons (gtName 4) gtNil))) (cTup (cCons (cOp addO (cCst (.int 2000)) (cCall 2 F_w_take (cCons (cVar 0) (cCons (cCst (.int 273)) cNil)))) (cCons (cOp addO (cCst (.int 1)) (cCall 2 F_w_take (cCons (cVar 0) (cCons (cCst (.int 12)) cNil)))) cNil))))
  (cSeq (cSet 2 (cOp subO (cOp addO (cCall 1 F_w_ahead (cCons (cVar 3) cNil)) (cArg sumO (cCons (cComp (ciRng2 (cCst (.int 1)) (cOp addO (cVar 4) (cCst (.int 1)))) (.nm 5) cYes (cCall 2 F_w_length (cCons (cVar 3) (cCons (cVar 5) cNil)))) cNil))) (cCst (.int 1))))
  (cRet (cArg minO (cCons (cCst (.int 99999)) (cCons (cOp addO (cVar 2) (cCall 2 F_w_take (cCons (cVar 0) (cCons (cCst (.int 2)) cNil)))) cNil))))))))))
noncomputable def F_w_any_day : Fn := runB 6 b_w_any_day
theorem t_w_any_day : trB (c_w_any_day) (defScope (top 55)) (defBody (top 55)) = b_w_any_day := by kernel_rfl
def N_w_rule : List Str := ["_law_pack_here", "_law_names_here", "_law_word", "_law_kind", "_law_since", "_law_way", "_law_many"]
noncomputable def c_w_rule : Cfg := { N := N_w_rule, fns := [("_law_take", 2, F_w_take)], cst := [], blt := [], own := [], dr := [], exm := [], kd := [] }
noncomputable def b_w_rule : Est :=
  (cSeq (cSet 2 (cOp ixO (cLst (cCons (cCst (.str "keep")) (cCons (cCst (.str "gone")) (cCons (cCst (.str "keep")) (cCons (cCst (.str "gone")) (cCons (cCst (.str "while")) (cCons (cCst (.str "follow")) (cCons (cCst (.str "leave")) cNil)))))))) (cCall 2 F_w_take (cCons (cVar 0) (cCons (cCst (.int 7)) cNil)))))
  (cSeq (cSet 3 (cOp ixO (cVar 1) (cCall 2 F_w_take (cCons (cVar 0) (cCons (cCst (.int 5)) cNil)))))
  (cSeq (cIf (cB (cOp (inO false) (cVar 2) (cLst (cCons (cCst (.str "while")) (cCons (cCst (.str "follow")) (cCons (cCst (.str "leave")) cNil)))))) (cRet (cTup (cCons (cVar 2) (cCons (cVar 3) cNil)))) cSkip)
  (cSeq (cSet 4 (cTup (cCons (cCst (.str "coming")) cNil)))
  (cSeq (cSet 5 (cCall 2 F_w_take (cCons (cVar 0) (cCons (cCst (.int 3)) cNil))))
  (cSeq (cIf (cB (cOp gtO (cVar 5) (cCst (.int 0)))) (cSet 4 (cTup (cCons (cOp ixO (cLst (cCons (cCst (.str "first")) (cCons (cCst (.str "last")) cNil))) (cOp subO (cVar 5) (cCst (.int 1)))) (cCons (cOp ixO (cVar 1) (cCall 2 F_w_take (cCons (cVar 0) (cCons (cCst (.int 5)) cNil)))) cNil)))) cSkip)
  (cSeq (cSet 5 (cCall 2 F_w_take (cCons (cVar 0) (cCons (cCst (.int 4)) cNil))))
  (cSeq (cSet 6 (cOp ixO (cLst (cCons (cCst (.int 0)) (cCons (cCst (.int 999)) cNil))) (cOp modO (cVar 5) (cCst (.int 2)))))
  (cSeq (cIf (cB (cOp gtO (cVar 5) (cCst (.int 1)))) (cSet 6 (cCall 2 F_w_take (cCons (cVar 0) (cCons (cOp ixO (cLst (cCons (cCst (.int 1000)) (cCons (cCst (.int 13)) cNil))) (cOp subO (cVar 5) (cCst (.int 2)))) cNil)))) cSkip)
  (cRet (cTup (cCons (cVar 2) (cCons (cVar 3) (cCons (cVar 4) (cCons (cVar 6) (cCons (cOp ixO (cLst (cCons (cCst (.str "days")) (cCons (cCst (.str "months")) (cCons (cCst (.str "years")) cNil)))) (cCall 2 F_w_take (cCons (cVar 0) (cCons (cCst (.int 3)) cNil)))) cNil))))))))))))))))
noncomputable def F_w_rule : Fn := runB 7 b_w_rule
theorem t_w_rule : trB (c_w_rule) (defScope (top 51)) (defBody (top 51)) = b_w_rule := by kernel_rfl
def N_w_drawn : List Str := ["_law_pack_here", "_law_names_here", "_law_word", "_law_head", "_law_other", "_law_some", "_law_target", "_law_name"]
noncomputable def c_w_drawn : Cfg := { N := N_w_drawn, fns := [("_law_take", 2, F_w_take), ("_law_any_day", 1, F_w_any_day), ("_law_rule", 2, F_w_rule)], cst := [], blt := ["sorted", "tuple"], own := [], dr := [], exm := [], kd := [] }
noncomputable def b_w_drawn : Est :=
  (cSeq (cSet 2 (cOp ixO (cLst (cCons (cCst (.str "paper")) (cCons (cCst (.str "happens")) (cCons (cCst (.str "rule")) (cCons (cCst (.str "rule")) (cCons (cCst (.str "end")) (cCons (cCst (.str "hold")) (cCons (cCst (.str "lift")) (cCons (cCst (.str "leave")) cNil))))))))) (cCall 2 F_w_take (cCons (cVar 0) (cCons (cCst (.int 8)) cNil)))))
  (cSeq (cSet 3 (cTup (cCons (cVar 2) (cCons (cCall 1 F_w_any_day (cCons (cVar 0) cNil)) (cCons (cOp ixO (cVar 1) (cCall 2 F_w_take (cCons (cVar 0) (cCons (cCst (.int 5)) cNil)))) cNil)))))
  (cSeq (cSet 4 (cOp ixO (cVar 1) (cCall 2 F_w_take (cCons (cVar 0) (cCons (cCst (.int 5)) cNil)))))
  (cSeq (cIf (cB (cOp (eqO false) (cVar 2) (cCst (.str "paper")))) (cSeq (cSet 5 (cArg sortO (cCons (cComp (ciAny (cVar 1)) (.nm 7) (cB (cOp (eqO false) (cCall 2 F_w_take (cCons (cVar 0) (cCons (cCst (.int 2)) cNil))) (cCst (.int 1)))) (cVar 7)) cNil)))
    (cRet (cOp addO (cVar 3) (cTup (cCons (cVar 4) (cCons (cArg tupO (cCons (cSl (cVar 5) cPno (cPart (cCst (.int 4)))) cNil)) cNil)))))) cSkip)
  (cSeq (cIf (cB (cOp (eqO false) (cVar 2) (cCst (.str "rule")))) (cRet (cOp addO (cVar 3) (cTup (cCons (cCall 2 F_w_rule (cCons (cVar 0) (cCons (cVar 1) cNil))) cNil)))) cSkip)
  (cSeq (cIf (cB (cOp (eqO false) (cVar 2) (cCst (.str "hold")))) (cSeq (cSet 6 (cOp ixO (cLst (cCons (cTup (cCons (cCst (.str "paper")) (cCons (cVar 4) cNil))) (cCons (cTup (cCons (cCst (.str "kind")) (cCons (cVar 4) cNil))) cNil))) (cCall 2 F_w_take (cCons (cVar 0) (cCons (cCst (.int 2)) cNil)))))
    (cRet (cOp addO (cVar 3) (cTup (cCons (cVar 6) (cCons (cOp (eqO false) (cCall 2 F_w_take (cCons (cVar 0) (cCons (cCst (.int 2)) cNil))) (cCst (.int 1))) cNil)))))) cSkip)
  (cSeq (cIf (cOr (cB (cOp (eqO false) (cVar 2) (cCst (.str "happens")))) (cB (cOp (eqO false) (cVar 2) (cCst (.str "leave"))))) (cRet (cOp addO (cVar 3) (cTup (cCons (cVar 4) cNil)))) cSkip)
  (cRet (cVar 3)))))))))
noncomputable def F_w_drawn : Fn := runB 8 b_w_drawn
theorem t_w_drawn : trB (c_w_drawn) (defScope (top 56)) (defBody (top 56)) = b_w_drawn := by kernel_rfl
def N_long_years : List Str := ["year"]
noncomputable def c_long_years : Cfg := { N := N_long_years, fns := [], cst := [], blt := [], own := [], dr := [], exm := [], kd := [] }
noncomputable def b_long_years : Est :=
  (cRet (cOp addO (cOp subO (cOp fdivO (cVar 0) (cCst (.int 4))) (cOp fdivO (cVar 0) (cCst (.int 100)))) (cOp fdivO (cVar 0) (cCst (.int 400)))))
noncomputable def F_long_years : Fn := runB 1 b_long_years
theorem t_long_years : trB (c_long_years) (defScope (top 13)) (defBody (top 13)) = b_long_years := by kernel_rfl
def N_days_ahead : List Str := ["year"]
noncomputable def c_days_ahead : Cfg := { N := N_days_ahead, fns := [("long_years", 1, F_long_years)], cst := [("FIRST_YEAR", d_FIRST_YEAR)], blt := [], own := [], dr := [], exm := [], kd := [] }
noncomputable def b_days_ahead : Est :=
  (cRet (cOp subO (cOp addO (cOp mulO (cCst (.int 365)) (cOp subO (cVar 0) (cCst d_FIRST_YEAR))) (cCall 1 F_long_years (cCons (cOp subO (cVar 0) (cCst (.int 1))) cNil))) (cCall 1 F_long_years (cCons (cOp subO (cCst d_FIRST_YEAR) (cCst (.int 1))) cNil))))
noncomputable def F_days_ahead : Fn := runB 1 b_days_ahead
theorem t_days_ahead : trB (c_days_ahead) (defScope (top 14)) (defBody (top 14)) = b_days_ahead := by kernel_rfl
def N_is_long : List Str := ["year"]
noncomputable def c_is_long : Cfg := { N := N_is_long, fns := [], cst := [], blt := [], own := [], dr := [], exm := [], kd := [] }
noncomputable def b_is_long : Est :=
  (cRet (cOrV (cOp (eqO false) (cOp modO (cVar 0) (cCst (.int 400))) (cCst (.int 0))) (cAndV (cOp (eqO false) (cOp modO (cVar 0) (cCst (.int 4))) (cCst (.int 0))) (cOp (eqO true) (cOp modO (cVar 0) (cCst (.int 100))) (cCst (.int 0))))))
noncomputable def F_is_long : Fn := runB 1 b_is_long
theorem t_is_long : trB (c_is_long) (defScope (top 11)) (defBody (top 11)) = b_is_long := by kernel_rfl
def N_length_of : List Str := ["year", "month"]
noncomputable def c_length_of : Cfg := { N := N_length_of, fns := [("is_long", 1, F_is_long)], cst := [("LENGTHS", d_LENGTHS)], blt := ["int"], own := [], dr := [], exm := [], kd := [] }
noncomputable def b_length_of : Est :=
  (cRet (cOp addO (cOp ixO (cCst d_LENGTHS) (cOp subO (cVar 1) (cCst (.int 1)))) (cArg intO (cCons (cAndV (cOp (eqO false) (cVar 1) (cCst (.int 2))) (cCall 1 F_is_long (cCons (cVar 0) cNil))) cNil))))
noncomputable def F_length_of : Fn := runB 2 b_length_of
theorem t_length_of : trB (c_length_of) (defScope (top 12)) (defBody (top 12)) = b_length_of := by kernel_rfl
def N_date_of : List Str := ["day", "year", "left", "month"]
noncomputable def c_date_of : Cfg := { N := N_date_of, fns := [("days_ahead", 1, F_days_ahead), ("length_of", 2, F_length_of)], cst := [("FIRST_YEAR", d_FIRST_YEAR)], blt := [], own := [], dr := [], exm := [], kd := [] }
noncomputable def b_date_of : Est :=
  (cSeq (cSet 1 (cOp addO (cCst d_FIRST_YEAR) (cOp fdivO (cVar 0) (cCst (.int 366)))))
  (cSeq (cPre [] (cWhile (cB (cOp leO (cCall 1 F_days_ahead (cCons (cOp addO (cVar 1) (cCst (.int 1))) cNil)) (cVar 0))) (cDrop [] (cSet 1 (cOp addO (cVar 1) (cCst (.int 1)))))))
  (cSeq (cSet 2 (cOp subO (cVar 0) (cCall 1 F_days_ahead (cCons (cVar 1) cNil))))
  (cSeq (cSet 3 (cCst (.int 1)))
  (cSeq (cPre [] (cWhile (cB (cOp geO (cVar 2) (cCall 2 F_length_of (cCons (cVar 1) (cCons (cVar 3) cNil))))) (cDrop [] (cSeq (cSet 2 (cOp subO (cVar 2) (cCall 2 F_length_of (cCons (cVar 1) (cCons (cVar 3) cNil)))))
    (cSet 3 (cOp addO (cVar 3) (cCst (.int 1))))))))
  (cRet (cTup (cCons (cVar 1) (cCons (cVar 3) (cCons (cOp addO (cVar 2) (cCst (.int 1))) cNil))))))))))
noncomputable def F_date_of : Fn := runB 4 b_date_of
theorem t_date_of : trB (c_date_of) (defScope (top 17)) (defBody (top 17)) = b_date_of := by kernel_rfl
def N_two_figures : List Str := ["number"]
noncomputable def c_two_figures : Cfg := { N := N_two_figures, fns := [], cst := [], blt := ["int", "str"], own := [], dr := [], exm := [], kd := [] }
noncomputable def b_two_figures : Est :=
  (cRet (cOp addO (cOp mulO (cCst (.str "0")) (cArg intO (cCons (cOp ltO (cVar 0) (cCst (.int 10))) cNil))) (cArg strO (cCons (cVar 0) cNil))))
noncomputable def F_two_figures : Fn := runB 1 b_two_figures
theorem t_two_figures : trB (c_two_figures) (defScope (top 18)) (defBody (top 18)) = b_two_figures := by kernel_rfl
def N_show_day : List Str := ["day", "year", "month", "number"]
noncomputable def c_show_day : Cfg := { N := N_show_day, fns := [("date_of", 1, F_date_of), ("two_figures", 1, F_two_figures)], cst := [], blt := ["str"], own := [], dr := [], exm := [], kd := [] }
noncomputable def b_show_day : Est :=
  (cSeq (cAsg (gtTup 3 (gtCons (gtName 1) (gtCons (gtName 2) (gtCons (gtName 3) gtNil)))) (cCall 1 F_date_of (cCons (cVar 0) cNil)))
  (cRet (cOp addO (cOp addO (cOp addO (cOp addO (cArg strO (cCons (cVar 1) cNil)) (cCst (.str "-"))) (cCall 1 F_two_figures (cCons (cVar 2) cNil))) (cCst (.str "-"))) (cCall 1 F_two_figures (cCons (cVar 3) cNil)))))
noncomputable def F_show_day : Fn := runB 4 b_show_day
theorem t_show_day : trB (c_show_day) (defScope (top 19)) (defBody (top 19)) = b_show_day := by kernel_rfl
def N_show_since : List Str := ["since"]
noncomputable def c_show_since : Cfg := { N := N_show_since, fns := [], cst := [], blt := [], own := [], dr := [], exm := [], kd := [] }
noncomputable def b_show_since : Est :=
  (cRet (cMeth (MSort.ty .s) joinO (cCst (.str ":")) (cCons (cVar 0) cNil)))
noncomputable def F_show_since : Fn := runB 1 b_show_since
theorem t_show_since : trB (c_show_since) (defScope (top 38)) (defBody (top 38)) = b_show_since := by kernel_rfl
def N_show_rule : List Str := ["parts", "word", "kind", "since", "many", "unit"]
noncomputable def c_show_rule : Cfg := { N := N_show_rule, fns := [("show_since", 1, F_show_since)], cst := [], blt := ["len", "str"], own := [], dr := [], exm := [], kd := [] }
noncomputable def b_show_rule : Est :=
  (cSeq (cIf (cB (cOp (eqO false) (cArg lenO (cCons (cVar 0) cNil)) (cCst (.int 2)))) (cRet (cMeth (MSort.ty .s) joinO (cCst (.str " ")) (cCons (cVar 0) cNil))) cSkip)
  (cSeq (cAsg (gtTup 5 (gtCons (gtName 1) (gtCons (gtName 2) (gtCons (gtName 3) (gtCons (gtName 4) (gtCons (gtName 5) gtNil)))))) (cVar 0))
  (cRet (cMeth (MSort.ty .s) joinO (cCst (.str " ")) (cCons (cLst (cCons (cVar 1) (cCons (cVar 2) (cCons (cCall 1 F_show_since (cCons (cVar 3) cNil)) (cCons (cArg strO (cCons (cVar 4) cNil)) (cCons (cVar 5) cNil)))))) cNil)))))
noncomputable def F_show_rule : Fn := runB 6 b_show_rule
theorem t_show_rule : trB (c_show_rule) (defScope (top 39)) (defBody (top 39)) = b_show_rule := by kernel_rfl
def N_show_deed : List Str := ["deed", "words"]
noncomputable def c_show_deed : Cfg := { N := N_show_deed, fns := [("show_day", 1, F_show_day), ("show_rule", 1, F_show_rule)], cst := [], blt := ["int"], own := [(125, 12)], dr := [], exm := [], kd := [] }
noncomputable def b_show_deed : Est :=
  (cSeq (cSet 1 (cLstO (cCons (cOp ixO (cVar 0) (cCst (.int 0))) (cCons (cCall 1 F_show_day (cCons (cOp ixO (cVar 0) (cCst (.int 1))) cNil)) (cCons (cOp ixO (cVar 0) (cCst (.int 2))) cNil)))))
  (cSeq (cIf (cB (cOp (eqO false) (cOp ixO (cVar 0) (cCst (.int 0))) (cCst (.str "paper")))) (cSeq (cExpr (cMeth (MSort.ty .l) appendO (cVar 1) (cCons (cOp ixO (cVar 0) (cCst (.int 3))) cNil)))
    (cExpr (cMeth (MSort.ty .l) extendO (cVar 1) (cCons (cOp ixO (cVar 0) (cCst (.int 4))) cNil)))) (cIf (cB (cOp (eqO false) (cOp ixO (cVar 0) (cCst (.int 0))) (cCst (.str "rule")))) (cExpr (cMeth (MSort.ty .l) appendO (cVar 1) (cCons (cCall 1 F_show_rule (cCons (cOp ixO (cVar 0) (cCst (.int 3))) cNil)) cNil))) (cIf (cB (cOp (eqO false) (cOp ixO (cVar 0) (cCst (.int 0))) (cCst (.str "hold")))) (cSeq (cExpr (cMeth (MSort.ty .l) extendO (cVar 1) (cCons (cOp ixO (cVar 0) (cCst (.int 3))) cNil)))
        (cExpr (cMeth (MSort.ty .l) extendO (cVar 1) (cCons (cOp mulO (cLst (cCons (cCst (.str "deep")) cNil)) (cArg intO (cCons (cOp ixO (cVar 0) (cCst (.int 4))) cNil))) cNil)))) (cExpr (cMeth (MSort.ty .l) extendO (cVar 1) (cCons (cSl (cVar 0) (cPart (cCst (.int 3))) cPno) cNil))))))
  (cRet (cMeth (MSort.ty .s) joinO (cCst (.str " ")) (cCons (cVar 1) cNil)))))
noncomputable def F_show_deed : Fn := runB 2 b_show_deed
theorem t_show_deed : trB (c_show_deed) (defScope (top 40)) (defBody (top 40)) = b_show_deed := by kernel_rfl
def N_w_day_text : List Str := ["_law_day", "_law_year", "_law_month", "_law_number"]
noncomputable def c_w_day_text : Cfg := { N := N_w_day_text, fns := [("_law_ahead", 1, F_w_ahead), ("_law_length", 2, F_w_length)], cst := [], blt := ["str"], own := [], dr := [], exm := [], kd := [] }
noncomputable def b_w_day_text : Est :=
  (cSeq (cSet 1 (cOp addO (cCst (.int 2000)) (cOp fdivO (cVar 0) (cCst (.int 366)))))
  (cSeq (cPre [] (cWhile (cB (cOp leO (cCall 1 F_w_ahead (cCons (cOp addO (cVar 1) (cCst (.int 1))) cNil)) (cVar 0))) (cDrop [] (cSet 1 (cOp addO (cVar 1) (cCst (.int 1)))))))
  (cSeq (cPar [2, 3] (cCons (cCst (.int 1)) (cCons (cOp addO (cOp subO (cVar 0) (cCall 1 F_w_ahead (cCons (cVar 1) cNil))) (cCst (.int 1))) cNil)))
  (cSeq (cPre [] (cWhile (cB (cOp gtO (cVar 3) (cCall 2 F_w_length (cCons (cVar 1) (cCons (cVar 2) cNil))))) (cDrop [] (cSeq (cSet 3 (cOp subO (cVar 3) (cCall 2 F_w_length (cCons (cVar 1) (cCons (cVar 2) cNil)))))
    (cSet 2 (cOp addO (cVar 2) (cCst (.int 1))))))))
  (cRet (cMeth (MSort.ty .s) joinO (cCst (.str "-")) (cCons (cLst (cCons (cArg strO (cCons (cVar 1) cNil)) (cCons (cSl (cArg strO (cCons (cOp addO (cCst (.int 100)) (cVar 2)) cNil)) (cPart (cCst (.int 1))) cPno) (cCons (cSl (cArg strO (cCons (cOp addO (cCst (.int 100)) (cVar 3)) cNil)) (cPart (cCst (.int 1))) cPno) cNil)))) cNil)))))))
noncomputable def F_w_day_text : Fn := runB 4 b_w_day_text
theorem t_w_day_text : trB (c_w_day_text) (defScope (top 54)) (defBody (top 54)) = b_w_day_text := by kernel_rfl
def N_w_written : List Str := ["_law_deed", "_law_words"]
noncomputable def c_w_written : Cfg := { N := N_w_written, fns := [("_law_day_text", 1, F_w_day_text)], cst := [], blt := ["int", "len", "list", "str"], own := [(249, 17)], dr := [], exm := [], kd := [] }
noncomputable def b_w_written : Est :=
  (cSeq (cSet 1 (cLstO (cCons (cOp ixO (cVar 0) (cCst (.int 0))) (cCons (cCall 1 F_w_day_text (cCons (cOp ixO (cVar 0) (cCst (.int 1))) cNil)) (cCons (cOp ixO (cVar 0) (cCst (.int 2))) cNil)))))
  (cSeq (cIf (cB (cOp (eqO false) (cOp ixO (cVar 0) (cCst (.int 0))) (cCst (.str "paper")))) (cSet 1 (cOp addO (cOp addO (cVar 1) (cLst (cCons (cOp ixO (cVar 0) (cCst (.int 3))) cNil))) (cArg lisO (cCons (cOp ixO (cVar 0) (cCst (.int 4))) cNil)))) cSkip)
  (cSeq (cIf (cB (cOp (eqO false) (cOp ixO (cVar 0) (cCst (.int 0))) (cCst (.str "rule")))) (cSeq (cSet 1 (cOp addO (cVar 1) (cArg lisO (cCons (cSl (cOp ixO (cVar 0) (cCst (.int 3))) cPno (cPart (cCst (.int 2)))) cNil))))
    (cIf (cB (cOp (eqO false) (cArg lenO (cCons (cOp ixO (cVar 0) (cCst (.int 3))) cNil)) (cCst (.int 5)))) (cSet 1 (cOp addO (cVar 1) (cLst (cCons (cMeth (MSort.ty .s) joinO (cCst (.str ":")) (cCons (cOp ixO (cOp ixO (cVar 0) (cCst (.int 3))) (cCst (.int 2))) cNil)) (cCons (cArg strO (cCons (cOp ixO (cOp ixO (cVar 0) (cCst (.int 3))) (cCst (.int 3))) cNil)) (cCons (cOp ixO (cOp ixO (cVar 0) (cCst (.int 3))) (cCst (.int 4))) cNil)))))) cSkip)) cSkip)
  (cSeq (cIf (cB (cOp (eqO false) (cOp ixO (cVar 0) (cCst (.int 0))) (cCst (.str "hold")))) (cSet 1 (cOp addO (cOp addO (cVar 1) (cArg lisO (cCons (cOp ixO (cVar 0) (cCst (.int 3))) cNil))) (cOp mulO (cLst (cCons (cCst (.str "deep")) cNil)) (cArg intO (cCons (cOp ixO (cVar 0) (cCst (.int 4))) cNil))))) cSkip)
  (cSeq (cIf (cOr (cB (cOp (eqO false) (cOp ixO (cVar 0) (cCst (.int 0))) (cCst (.str "happens")))) (cB (cOp (eqO false) (cOp ixO (cVar 0) (cCst (.int 0))) (cCst (.str "leave"))))) (cExpr (cMeth (MSort.ty .l) appendO (cVar 1) (cCons (cOp ixO (cVar 0) (cCst (.int 3))) cNil))) cSkip)
  (cRet (cMeth (MSort.ty .s) joinO (cCst (.str " ")) (cCons (cVar 1) cNil))))))))
noncomputable def F_w_written : Fn := runB 2 b_w_written
theorem t_w_written : trB (c_w_written) (defScope (top 57)) (defBody (top 57)) = b_w_written := by kernel_rfl
def N_w_same : List Str := ["_law_found", "_law_due", "_law_one", "_law_other"]
noncomputable def c_w_same (R : Fn) : Cfg := { N := N_w_same, fns := [("_law_same", 2, R)], cst := [], blt := ["all", "bool", "isinstance", "len", "tuple", "zip"], own := [], dr := [], exm := [], kd := [] }
noncomputable def b_w_same (R : Fn) : Est :=
  (cSeq (cIf (cB (cArg isiO (cCons (cVar 1) (cCons (cCst (.ty "tuple")) cNil)))) (cSeq (cIf (cOr (cNot (cB (cArg isiO (cCons (cVar 0) (cCons (cCst (.ty "tuple")) cNil))))) (cB (cOp (eqO true) (cArg lenO (cCons (cVar 0) cNil)) (cArg lenO (cCons (cVar 1) cNil))))) (cRet (cCst (.bl false))) cSkip)
    (cRet (cArg allO (cCons (cComp (ciZip (cVar 0) (cVar 1)) (.tp [2, 3]) cYes (cCall 2 R (cCons (cVar 2) (cCons (cVar 3) cNil)))) cNil)))) cSkip)
  (cRet (cAndV (cOp (eqO false) (cArg isiO (cCons (cVar 0) (cCons (cCst (.ty "bool")) cNil))) (cArg isiO (cCons (cVar 1) (cCons (cCst (.ty "bool")) cNil)))) (cOp (eqO false) (cVar 0) (cVar 1)))))
noncomputable def F_w_sameN : Nat → Fn
  | 0 => fun _ _ => .bad
  | k + 1 => runB 4 (b_w_same (F_w_sameN k))
noncomputable def F_w_same : Fn := F_w_sameN 4
theorem t_w_same (R : Fn) : trB (c_w_same R) (defScope (top 58)) (defBody (top 58)) = b_w_same R := by kernel_rfl
def N_day_at : List Str := ["year", "month", "day", "ahead"]
noncomputable def c_day_at : Cfg := { N := N_day_at, fns := [("days_ahead", 1, F_days_ahead), ("length_of", 2, F_length_of)], cst := [], blt := ["range", "sum"], own := [], dr := [], exm := [], kd := [] }
noncomputable def b_day_at : Est :=
  (cRet (cOp subO (cOp addO (cOp addO (cCall 1 F_days_ahead (cCons (cVar 0) cNil)) (cArg sumO (cCons (cComp (ciRng2 (cCst (.int 1)) (cVar 1)) (.nm 3) cYes (cCall 2 F_length_of (cCons (cVar 0) (cCons (cVar 3) cNil)))) cNil))) (cVar 2)) (cCst (.int 1))))
noncomputable def F_day_at : Fn := runB 4 b_day_at
theorem t_day_at : trB (c_day_at) (defScope (top 16)) (defBody (top 16)) = b_day_at := by kernel_rfl
def N_is_date : List Str := ["year", "month", "day"]
noncomputable def c_is_date : Cfg := { N := N_is_date, fns := [("length_of", 2, F_length_of)], cst := [("FIRST_YEAR", d_FIRST_YEAR), ("LAST_YEAR", d_LAST_YEAR)], blt := [], own := [], dr := [], exm := [], kd := [] }
noncomputable def b_is_date : Est :=
  (cSeq (cIf (cOr (cNot (cB (cChain leO leO (cCst d_FIRST_YEAR) (cVar 0) (cCst d_LAST_YEAR)))) (cNot (cB (cChain leO leO (cCst (.int 1)) (cVar 1) (cCst (.int 12)))))) (cRet (cCst (.bl false))) cSkip)
  (cRet (cChain leO leO (cCst (.int 1)) (cVar 2) (cCall 2 F_length_of (cCons (cVar 0) (cCons (cVar 1) cNil))))))
noncomputable def F_is_date : Fn := runB 3 b_is_date
theorem t_is_date : trB (c_is_date) (defScope (top 15)) (defBody (top 15)) = b_is_date := by kernel_rfl
def N_is_whole : List Str := ["thing"]
noncomputable def c_is_whole : Cfg := { N := N_is_whole, fns := [], cst := [], blt := ["bool", "int", "isinstance"], own := [], dr := [], exm := [], kd := [] }
noncomputable def b_is_whole : Est :=
  (cRet (cAndV (cArg isiO (cCons (cVar 0) (cCons (cCst (.ty "int")) cNil))) (cNotV (cArg isiO (cCons (cVar 0) (cCons (cCst (.ty "bool")) cNil))))))
noncomputable def F_is_whole : Fn := runB 1 b_is_whole
theorem t_is_whole : trB (c_is_whole) (defScope (top 9)) (defBody (top 9)) = b_is_whole := by kernel_rfl
def N_is_day : List Str := ["thing"]
noncomputable def c_is_day : Cfg := { N := N_is_day, fns := [("is_whole", 1, F_is_whole)], cst := [("LAST_DAY", d_LAST_DAY)], blt := [], own := [], dr := [], exm := [], kd := [] }
noncomputable def b_is_day : Est :=
  (cRet (cAndV (cCall 1 F_is_whole (cCons (cVar 0) cNil)) (cChain leO leO (cCst (.int 0)) (cVar 0) (cCst d_LAST_DAY))))
noncomputable def F_is_day : Fn := runB 1 b_is_day
theorem t_is_day : trB (c_is_day) (defScope (top 10)) (defBody (top 10)) = b_is_day := by kernel_rfl
def N_is_written : List Str := ["word", "most", "sign"]
noncomputable def c_is_written : Cfg := { N := N_is_written, fns := [], cst := [("FIGURES", d_FIGURES)], blt := ["all", "len"], own := [], dr := [], exm := [], kd := [] }
noncomputable def b_is_written : Est :=
  (cRet (cAndV (cChain leO leO (cCst (.int 1)) (cArg lenO (cCons (cVar 0) cNil)) (cVar 1)) (cArg allO (cCons (cComp (ciAny (cVar 0)) (.nm 2) cYes (cOp (inO false) (cVar 2) (cCst d_FIGURES))) cNil))))
noncomputable def F_is_written : Fn := runB 3 b_is_written
theorem t_is_written : trB (c_is_written) (defScope (top 20)) (defBody (top 20)) = b_is_written := by kernel_rfl
def N_read_day : List Str := ["text", "words", "year", "month", "number", "word"]
noncomputable def c_read_day : Cfg := { N := N_read_day, fns := [("day_at", 3, F_day_at), ("is_date", 3, F_is_date), ("is_day", 1, F_is_day), ("is_written", 2, F_is_written)], cst := [], blt := ["all", "int", "isinstance", "len", "str"], own := [], dr := [], exm := [], kd := [] }
noncomputable def b_read_day : Est :=
  (cSeq (cIf (cNot (cB (cArg isiO (cCons (cVar 0) (cCons (cCst (.ty "str")) cNil))))) bS cSkip)
  (cSeq (cSet 1 (cMeth (MSort.ty .s) splitO (cVar 0) (cCons (cCst (.str "-")) cNil)))
  (cSeq (cIf (cOr (cB (cOp (eqO true) (cArg lenO (cCons (cVar 1) cNil)) (cCst (.int 3)))) (cNot (cB (cArg allO (cCons (cComp (ciAny (cVar 1)) (.nm 5) cYes (cCall 2 F_is_written (cCons (cVar 5) (cCons (cCst (.int 4)) cNil)))) cNil))))) bS cSkip)
  (cSeq (cIf (cOr (cB (cOp (eqO false) (cOp ixO (cOp ixO (cVar 1) (cCst (.int 0))) (cCst (.int 0))) (cCst (.str "0")))) (cOr (cB (cOp (eqO true) (cArg lenO (cCons (cOp ixO (cVar 1) (cCst (.int 1))) cNil)) (cCst (.int 2)))) (cB (cOp (eqO true) (cArg lenO (cCons (cOp ixO (cVar 1) (cCst (.int 2))) cNil)) (cCst (.int 2)))))) bS cSkip)
  (cSeq (cPar [2, 3, 4] (cCons (cArg intO (cCons (cOp ixO (cVar 1) (cCst (.int 0))) cNil)) (cCons (cArg intO (cCons (cOp ixO (cVar 1) (cCst (.int 1))) cNil)) (cCons (cArg intO (cCons (cOp ixO (cVar 1) (cCst (.int 2))) cNil)) cNil))))
  (cSeq (cIf (cOr (cNot (cB (cCall 3 F_is_date (cCons (cVar 2) (cCons (cVar 3) (cCons (cVar 4) cNil)))))) (cNot (cB (cCall 1 F_is_day (cCons (cCall 3 F_day_at (cCons (cVar 2) (cCons (cVar 3) (cCons (cVar 4) cNil)))) cNil))))) bS cSkip)
  (cRet (cCall 3 F_day_at (cCons (cVar 2) (cCons (cVar 3) (cCons (cVar 4) cNil)))))))))))
noncomputable def F_read_day : Fn := runB 6 b_read_day
theorem t_read_day : trB (c_read_day) (defScope (top 21)) (defBody (top 21)) = b_read_day := by kernel_rfl
def N_day_in : List Str := ["word", "found"]
noncomputable def c_day_in : Cfg := { N := N_day_in, fns := [("read_day", 1, F_read_day)], cst := [], blt := [], own := [], dr := [], exm := [("NoText", e_NoText)], kd := [] }
noncomputable def b_day_in : Est :=
  (cSeq (cTry e_NoText (cSet 1 (cCall 1 F_read_day (cCons (cVar 0) cNil))) (cSet 1 (cCst .non)))
  (cRet (cVar 1)))
noncomputable def F_day_in : Fn := runB 2 b_day_in
theorem t_day_in : trB (c_day_in) (defScope (top 41)) (defBody (top 41)) = b_day_in := by kernel_rfl
def N_many_in : List Str := ["word", "sign"]
noncomputable def c_many_in : Cfg := { N := N_many_in, fns := [], cst := [("FIGURES", d_FIGURES)], blt := ["all", "int", "len"], own := [], dr := [], exm := [], kd := [] }
noncomputable def b_many_in : Est :=
  (cSeq (cIf (cOr (cNot (cB (cChain leO leO (cCst (.int 1)) (cArg lenO (cCons (cVar 0) cNil)) (cCst (.int 3))))) (cNot (cB (cArg allO (cCons (cComp (ciAny (cVar 0)) (.nm 1) cYes (cOp (inO false) (cVar 1) (cCst d_FIGURES))) cNil))))) (cRet (cCst .non)) cSkip)
  (cSeq (cIf (cAnd (cB (cOp (eqO false) (cOp ixO (cVar 0) (cCst (.int 0))) (cCst (.str "0")))) (cB (cOp (eqO true) (cVar 0) (cCst (.str "0"))))) (cRet (cCst .non)) cSkip)
  (cRet (cArg intO (cCons (cVar 0) cNil)))))
noncomputable def F_many_in : Fn := runB 2 b_many_in
theorem t_many_in : trB (c_many_in) (defScope (top 42)) (defBody (top 42)) = b_many_in := by kernel_rfl
def N_parts_in : List Str := ["words"]
noncomputable def c_parts_in : Cfg := { N := N_parts_in, fns := [("many_in", 1, F_many_in)], cst := [], blt := ["len", "tuple"], own := [], dr := [], exm := [], kd := [] }
noncomputable def b_parts_in : Est :=
  (cSeq (cIf (cB (cOp (eqO true) (cArg lenO (cCons (cVar 0) cNil)) (cCst (.int 5)))) (cRet (cArg tupO (cCons (cVar 0) cNil))) cSkip)
  (cRet (cTup (cCons (cOp ixO (cVar 0) (cCst (.int 0))) (cCons (cOp ixO (cVar 0) (cCst (.int 1))) (cCons (cArg tupO (cCons (cMeth (MSort.ty .s) splitO (cOp ixO (cVar 0) (cCst (.int 2))) (cCons (cCst (.str ":")) cNil)) cNil)) (cCons (cCall 1 F_many_in (cCons (cOp ixO (cVar 0) (cCst (.int 3))) cNil)) (cCons (cOp ixO (cVar 0) (cCst (.int 4))) cNil))))))))
noncomputable def F_parts_in : Fn := runB 1 b_parts_in
theorem t_parts_in : trB (c_parts_in) (defScope (top 43)) (defBody (top 43)) = b_parts_in := by kernel_rfl
def N_told_by : List Str := ["words", "head", "more"]
noncomputable def c_told_by : Cfg := { N := N_told_by, fns := [("day_in", 1, F_day_in), ("parts_in", 1, F_parts_in)], cst := [], blt := ["tuple"], own := [], dr := [], exm := [], kd := [] }
noncomputable def b_told_by : Est :=
  (cSeq (cSet 1 (cTup (cCons (cOp ixO (cVar 0) (cCst (.int 0))) (cCons (cCall 1 F_day_in (cCons (cOp ixO (cVar 0) (cCst (.int 1))) cNil)) (cCons (cOp ixO (cVar 0) (cCst (.int 2))) cNil)))))
  (cSeq (cSet 2 (cSl (cVar 0) (cPart (cCst (.int 3))) cPno))
  (cSeq (cIf (cB (cOp (eqO false) (cOp ixO (cVar 0) (cCst (.int 0))) (cCst (.str "paper")))) (cRet (cIfE (cB (cOp (eqO true) (cVar 2) (cLst cNil))) (cOp addO (cVar 1) (cTup (cCons (cOp ixO (cVar 2) (cCst (.int 0))) (cCons (cArg tupO (cCons (cSl (cVar 2) (cPart (cCst (.int 1))) cPno) cNil)) cNil)))) (cVar 1))) cSkip)
  (cSeq (cIf (cB (cOp (eqO false) (cOp ixO (cVar 0) (cCst (.int 0))) (cCst (.str "rule")))) (cRet (cOp addO (cVar 1) (cTup (cCons (cCall 1 F_parts_in (cCons (cVar 2) cNil)) cNil)))) cSkip)
  (cSeq (cIf (cB (cOp (eqO false) (cOp ixO (cVar 0) (cCst (.int 0))) (cCst (.str "hold")))) (cRet (cOp addO (cVar 1) (cTup (cCons (cArg tupO (cCons (cSl (cVar 2) cPno (cPart (cCst (.int 2)))) cNil)) (cCons (cOp (eqO false) (cSl (cVar 2) (cPart (cCst (.int 2))) cPno) (cLst (cCons (cCst (.str "deep")) cNil))) cNil))))) cSkip)
  (cRet (cOp addO (cVar 1) (cArg tupO (cCons (cVar 2) cNil)))))))))
noncomputable def F_told_by : Fn := runB 3 b_told_by
theorem t_told_by : trB (c_told_by) (defScope (top 44)) (defBody (top 44)) = b_told_by := by kernel_rfl
def N_is_name : List Str := ["thing", "sign"]
noncomputable def c_is_name : Cfg := { N := N_is_name, fns := [], cst := [("LETTERS", d_LETTERS), ("MOST_LETTERS", d_MOST_LETTERS)], blt := ["all", "isinstance", "len", "str"], own := [], dr := [], exm := [], kd := [] }
noncomputable def b_is_name : Est :=
  (cSeq (cIf (cOr (cNot (cB (cArg isiO (cCons (cVar 0) (cCons (cCst (.ty "str")) cNil))))) (cNot (cB (cChain leO leO (cCst (.int 1)) (cArg lenO (cCons (cVar 0) cNil)) (cCst d_MOST_LETTERS))))) (cRet (cCst (.bl false))) cSkip)
  (cRet (cArg allO (cCons (cComp (ciAny (cVar 0)) (.nm 1) cYes (cOp (inO false) (cVar 1) (cCst d_LETTERS))) cNil))))
noncomputable def F_is_name : Fn := runB 2 b_is_name
theorem t_is_name : trB (c_is_name) (defScope (top 29)) (defBody (top 29)) = b_is_name := by kernel_rfl
def N_are_makers : List Str := ["thing", "k", "one"]
noncomputable def c_are_makers : Cfg := { N := N_are_makers, fns := [("is_name", 1, F_is_name)], cst := [("MOST_MAKERS", d_MOST_MAKERS)], blt := ["all", "isinstance", "len", "range", "tuple"], own := [], dr := [], exm := [], kd := [] }
noncomputable def b_are_makers : Est :=
  (cSeq (cIf (cOr (cNot (cB (cArg isiO (cCons (cVar 0) (cCons (cCst (.ty "tuple")) cNil))))) (cOr (cB (cOp gtO (cArg lenO (cCons (cVar 0) cNil)) (cCst d_MOST_MAKERS))) (cNot (cB (cArg allO (cCons (cComp (ciAny (cVar 0)) (.nm 2) cYes (cCall 1 F_is_name (cCons (cVar 2) cNil))) cNil)))))) (cRet (cCst (.bl false))) cSkip)
  (cRet (cArg allO (cCons (cComp (ciRng1 (cOp subO (cArg lenO (cCons (cVar 0) cNil)) (cCst (.int 1)))) (.nm 1) cYes (cOp ltO (cOp ixO (cVar 0) (cVar 1)) (cOp ixO (cVar 0) (cOp addO (cVar 1) (cCst (.int 1)))))) cNil))))
noncomputable def F_are_makers : Fn := runB 3 b_are_makers
theorem t_are_makers : trB (c_are_makers) (defScope (top 33)) (defBody (top 33)) = b_are_makers := by kernel_rfl
def N_is_since : List Str := ["thing"]
noncomputable def c_is_since : Cfg := { N := N_is_since, fns := [("is_name", 1, F_is_name)], cst := [], blt := ["isinstance", "len", "str", "tuple"], own := [], dr := [], exm := [], kd := [] }
noncomputable def b_is_since : Est :=
  (cSeq (cIf (cOr (cNot (cB (cArg isiO (cCons (cVar 0) (cCons (cCst (.ty "tuple")) cNil))))) (cOr (cB (cOp (eqO false) (cVar 0) (cTup cNil))) (cNot (cB (cArg isiO (cCons (cOp ixO (cVar 0) (cCst (.int 0))) (cCons (cCst (.ty "str")) cNil))))))) (cRet (cCst (.bl false))) cSkip)
  (cSeq (cIf (cB (cOp (eqO false) (cOp ixO (cVar 0) (cCst (.int 0))) (cCst (.str "coming")))) (cRet (cOp (eqO false) (cArg lenO (cCons (cVar 0) cNil)) (cCst (.int 1)))) cSkip)
  (cRet (cAndV (cOp (eqO false) (cArg lenO (cCons (cVar 0) cNil)) (cCst (.int 2))) (cAndV (cOp (inO false) (cOp ixO (cVar 0) (cCst (.int 0))) (cTup (cCons (cCst (.str "first")) (cCons (cCst (.str "last")) cNil)))) (cCall 1 F_is_name (cCons (cOp ixO (cVar 0) (cCst (.int 1))) cNil)))))))
noncomputable def F_is_since : Fn := runB 1 b_is_since
theorem t_is_since : trB (c_is_since) (defScope (top 30)) (defBody (top 30)) = b_is_since := by kernel_rfl
def N_is_span_told : List Str := ["many", "unit"]
noncomputable def c_is_span_told : Cfg := { N := N_is_span_told, fns := [("is_whole", 1, F_is_whole)], cst := [("UNITS", d_UNITS), ("MOST_MANY", d_MOST_MANY)], blt := ["isinstance", "str"], own := [], dr := [], exm := [], kd := [] }
noncomputable def b_is_span_told : Est :=
  (cSeq (cIf (cOr (cNot (cB (cCall 1 F_is_whole (cCons (cVar 0) cNil)))) (cNot (cB (cChain leO leO (cCst (.int 0)) (cVar 0) (cCst d_MOST_MANY))))) (cRet (cCst (.bl false))) cSkip)
  (cRet (cAndV (cArg isiO (cCons (cVar 1) (cCons (cCst (.ty "str")) cNil))) (cOp (inO false) (cVar 1) (cCst d_UNITS)))))
noncomputable def F_is_span_told : Fn := runB 2 b_is_span_told
theorem t_is_span_told : trB (c_is_span_told) (defScope (top 31)) (defBody (top 31)) = b_is_span_told := by kernel_rfl
def N_is_rule : List Str := ["thing"]
noncomputable def c_is_rule : Cfg := { N := N_is_rule, fns := [("is_name", 1, F_is_name), ("is_since", 1, F_is_since), ("is_span_told", 2, F_is_span_told)], cst := [], blt := ["isinstance", "len", "str", "tuple"], own := [], dr := [], exm := [], kd := [] }
noncomputable def b_is_rule : Est :=
  (cSeq (cIf (cOr (cNot (cB (cArg isiO (cCons (cVar 0) (cCons (cCst (.ty "tuple")) cNil))))) (cOr (cB (cOp (inO true) (cArg lenO (cCons (cVar 0) cNil)) (cTup (cCons (cCst (.int 2)) (cCons (cCst (.int 5)) cNil))))) (cNot (cB (cArg isiO (cCons (cOp ixO (cVar 0) (cCst (.int 0))) (cCons (cCst (.ty "str")) cNil))))))) (cRet (cCst (.bl false))) cSkip)
  (cSeq (cIf (cNot (cB (cCall 1 F_is_name (cCons (cOp ixO (cVar 0) (cCst (.int 1))) cNil)))) (cRet (cCst (.bl false))) cSkip)
  (cSeq (cIf (cB (cOp (eqO false) (cArg lenO (cCons (cVar 0) cNil)) (cCst (.int 2)))) (cRet (cOp (inO false) (cOp ixO (cVar 0) (cCst (.int 0))) (cTup (cCons (cCst (.str "while")) (cCons (cCst (.str "follow")) (cCons (cCst (.str "leave")) cNil)))))) cSkip)
  (cRet (cAndV (cOp (inO false) (cOp ixO (cVar 0) (cCst (.int 0))) (cTup (cCons (cCst (.str "keep")) (cCons (cCst (.str "gone")) cNil)))) (cAndV (cCall 1 F_is_since (cCons (cOp ixO (cVar 0) (cCst (.int 2))) cNil)) (cCall 2 F_is_span_told (cCons (cOp ixO (cVar 0) (cCst (.int 3))) (cCons (cOp ixO (cVar 0) (cCst (.int 4))) cNil)))))))))
noncomputable def F_is_rule : Fn := runB 1 b_is_rule
theorem t_is_rule : trB (c_is_rule) (defScope (top 32)) (defBody (top 32)) = b_is_rule := by kernel_rfl
def N_is_aim : List Str := ["thing"]
noncomputable def c_is_aim : Cfg := { N := N_is_aim, fns := [("is_name", 1, F_is_name)], cst := [], blt := ["isinstance", "len", "str", "tuple"], own := [], dr := [], exm := [], kd := [] }
noncomputable def b_is_aim : Est :=
  (cSeq (cIf (cOr (cNot (cB (cArg isiO (cCons (cVar 0) (cCons (cCst (.ty "tuple")) cNil))))) (cOr (cB (cOp (eqO true) (cArg lenO (cCons (cVar 0) cNil)) (cCst (.int 2)))) (cNot (cB (cArg isiO (cCons (cOp ixO (cVar 0) (cCst (.int 0))) (cCons (cCst (.ty "str")) cNil))))))) (cRet (cCst (.bl false))) cSkip)
  (cRet (cAndV (cOp (inO false) (cOp ixO (cVar 0) (cCst (.int 0))) (cTup (cCons (cCst (.str "paper")) (cCons (cCst (.str "kind")) cNil)))) (cCall 1 F_is_name (cCons (cOp ixO (cVar 0) (cCst (.int 1))) cNil)))))
noncomputable def F_is_aim : Fn := runB 1 b_is_aim
theorem t_is_aim : trB (c_is_aim) (defScope (top 34)) (defBody (top 34)) = b_is_aim := by kernel_rfl
def N_fits_form : List Str := ["thing", "letter"]
noncomputable def c_fits_form : Cfg := { N := N_fits_form, fns := [("is_name", 1, F_is_name), ("are_makers", 1, F_are_makers), ("is_rule", 1, F_is_rule), ("is_aim", 1, F_is_aim)], cst := [], blt := ["bool", "isinstance"], own := [], dr := [], exm := [], kd := [] }
noncomputable def b_fits_form : Est :=
  (cSeq (cIf (cB (cOp (eqO false) (cVar 1) (cCst (.str "n")))) (cRet (cCall 1 F_is_name (cCons (cVar 0) cNil))) cSkip)
  (cSeq (cIf (cB (cOp (eqO false) (cVar 1) (cCst (.str "m")))) (cRet (cCall 1 F_are_makers (cCons (cVar 0) cNil))) cSkip)
  (cSeq (cIf (cB (cOp (eqO false) (cVar 1) (cCst (.str "r")))) (cRet (cCall 1 F_is_rule (cCons (cVar 0) cNil))) cSkip)
  (cSeq (cIf (cB (cOp (eqO false) (cVar 1) (cCst (.str "t")))) (cRet (cCall 1 F_is_aim (cCons (cVar 0) cNil))) cSkip)
  (cRet (cArg isiO (cCons (cVar 0) (cCons (cCst (.ty "bool")) cNil))))))))
noncomputable def F_fits_form : Fn := runB 2 b_fits_form
theorem t_fits_form : trB (c_fits_form) (defScope (top 35)) (defBody (top 35)) = b_fits_form := by kernel_rfl
def N_is_deed : List Str := ["thing", "form", "part", "letter"]
noncomputable def c_is_deed : Cfg := { N := N_is_deed, fns := [("is_day", 1, F_is_day), ("fits_form", 2, F_fits_form)], cst := [], blt := ["all", "isinstance", "len", "str", "tuple", "zip"], own := [], dr := [], exm := [], kd := [("FORMS", k_FORMS)] }
noncomputable def b_is_deed : Est :=
  (cSeq (cIf (cOr (cNot (cB (cArg isiO (cCons (cVar 0) (cCons (cCst (.ty "tuple")) cNil))))) (cOr (cB (cOp ltO (cArg lenO (cCons (cVar 0) cNil)) (cCst (.int 3)))) (cNot (cB (cArg isiO (cCons (cOp ixO (cVar 0) (cCst (.int 0))) (cCons (cCst (.ty "str")) cNil))))))) (cRet (cCst (.bl false))) cSkip)
  (cSeq (cSet 1 (cUn (kdGetO k_FORMS) (cOp ixO (cVar 0) (cCst (.int 0)))))
  (cSeq (cIf (cOr (cB (cOp (isO false) (cVar 1) (cCst .non))) (cOr (cB (cOp (eqO true) (cArg lenO (cCons (cVar 1) cNil)) (cOp subO (cArg lenO (cCons (cVar 0) cNil)) (cCst (.int 2))))) (cNot (cB (cCall 1 F_is_day (cCons (cOp ixO (cVar 0) (cCst (.int 1))) cNil)))))) (cRet (cCst (.bl false))) cSkip)
  (cRet (cArg allO (cCons (cComp (ciZip (cSl (cVar 0) (cPart (cCst (.int 2))) cPno) (cVar 1)) (.tp [2, 3]) cYes (cCall 2 F_fits_form (cCons (cVar 2) (cCons (cVar 3) cNil)))) cNil))))))
noncomputable def F_is_deed : Fn := runB 4 b_is_deed
theorem t_is_deed : trB (c_is_deed) (defScope (top 36)) (defBody (top 36)) = b_is_deed := by kernel_rfl
def N_read_deed : List Str := ["text", "found"]
noncomputable def c_read_deed : Cfg := { N := N_read_deed, fns := [("told_by", 1, F_told_by), ("is_deed", 1, F_is_deed), ("show_deed", 1, F_show_deed)], cst := [], blt := ["isinstance", "str"], own := [], dr := [], exm := [], kd := [] }
noncomputable def b_read_deed : Est :=
  (cSeq (cIf (cOr (cNot (cB (cArg isiO (cCons (cVar 0) (cCons (cCst (.ty "str")) cNil))))) (cB (cOp ltO (cMeth (MSort.ty .s) countO (cVar 0) (cCons (cCst (.str " ")) cNil)) (cCst (.int 2))))) bS cSkip)
  (cSeq (cSet 1 (cCall 1 F_told_by (cCons (cMeth (MSort.ty .s) splitO (cVar 0) (cCons (cCst (.str " ")) cNil)) cNil)))
  (cSeq (cIf (cOr (cNot (cB (cCall 1 F_is_deed (cCons (cVar 1) cNil)))) (cB (cOp (eqO true) (cCall 1 F_show_deed (cCons (cVar 1) cNil)) (cVar 0)))) bS cSkip)
  (cRet (cVar 1)))))
noncomputable def F_read_deed : Fn := runB 2 b_read_deed
theorem t_read_deed : trB (c_read_deed) (defScope (top 45)) (defBody (top 45)) = b_read_deed := by kernel_rfl
def N_law : List Str := ["_law_script", "_law_ahead_here", "_law_k", "_law_pack_here", "_law_names_here", "_law_turn", "_law_deed", "_law_text"]
noncomputable def c_law : Cfg := { N := N_law, fns := [("_law_pack", 2, F_w_pack), ("_law_names", 2, F_w_names), ("_law_drawn", 2, F_w_drawn), ("show_deed", 1, F_show_deed), ("_law_written", 1, F_w_written), ("_law_same", 2, F_w_same), ("read_deed", 1, F_read_deed)], cst := [], blt := ["isinstance", "len", "max", "min", "range", "str"], own := [], dr := [(269, [2, 3, 4, 5, 6, 7]), (272, [5, 6, 7])], exm := [], kd := [] }
noncomputable def b_law : Est :=
  (cSeq (cSet 1 (cTup (cCons (cCst (.str "end")) (cCons (cCst (.int 0)) (cCons (cCst (.str "a")) cNil)))))
  (cSeq (cPre [2, 3, 4, 5, 6, 7] (cFor (ciRng1 (cArg maxO (cCons (cCst (.int 1)) (cCons (cArg minO (cCons (cArg lenO (cCons (cVar 0) cNil)) (cCons (cCst (.int 16)) cNil))) cNil)))) (gtName 2) (cDrop [2, 3, 4, 5, 6, 7] (cSeq (cSet 3 (cCall 2 F_w_pack (cCons (cVar 0) (cCons (cVar 2) cNil))))
    (cSeq (cSet 4 (cCall 2 F_w_names (cCons (cVar 3) (cCons (cCst (.int 5)) cNil))))
    (cPre [5, 6, 7] (cFor (ciRng1 (cCst (.int 3))) (gtName 5) (cDrop [5, 6, 7] (cSeq (cSet 6 (cCall 2 F_w_drawn (cCons (cVar 3) (cCons (cVar 4) cNil))))
      (cSeq (cSet 7 (cCall 1 F_show_deed (cCons (cVar 6) cNil)))
      (cSeq (cIf (cOr (cNot (cB (cArg isiO (cCons (cVar 7) (cCons (cCst (.ty "str")) cNil))))) (cOr (cB (cOp (eqO true) (cVar 7) (cCall 1 F_w_written (cCons (cVar 6) cNil)))) (cNot (cB (cCall 2 F_w_same (cCons (cCall 1 F_read_deed (cCons (cVar 7) cNil)) (cCons (cVar 6) cNil))))))) (cRet (cCst (.bl false))) cSkip)
      (cSeq (cIf (cB (cOp (eqO true) (cOp (eqO false) (cCall 1 F_show_deed (cCons (cVar 1) cNil)) (cVar 7)) (cOp (eqO false) (cVar 1) (cVar 6)))) (cRet (cCst (.bl false))) cSkip)
      (cSet 1 (cVar 6))))))))))))))
  (cRet (cCst (.bl true)))))
noncomputable def F_law : Fn := runB 8 b_law
theorem t_law : trB (c_law) (defScope (top 59)) (defBody (top 59)) = b_law := by kernel_rfl
end L2.GS.KK

namespace L2.GS.KK
open PySem PySem.Spec PyProof.Rows
def v_LENGTHS : List He.Dv := [.int 31, .int 28, .int 31, .int 30, .int 31, .int 30, .int 31, .int 31, .int 30, .int 31, .int 30, .int 31]
def v_UNITS : List He.Dv := [.str "days", .str "months", .str "years"]
def v_FORMS : List (Str × He.Dv) := [("paper", .str "nnm"), ("happens", .str "nn"), ("rule", .str "nr"), ("end", .str "n"), ("hold", .str "ntb"), ("lift", .str "n"), ("leave", .str "nn")]
def dd_w_mixed : He.DefD := ⟨("_law_mixed", none), "_law_mixed", "_law_mixed", defArgs (top 47), defBody (top 47), defScope (top 47), [], []⟩
def dd_w_pack : He.DefD := ⟨("_law_pack", none), "_law_pack", "_law_pack", defArgs (top 48), defBody (top 48), defScope (top 48), [], []⟩
def dd_w_take : He.DefD := ⟨("_law_take", none), "_law_take", "_law_take", defArgs (top 49), defBody (top 49), defScope (top 49), [], []⟩
def dd_w_names : He.DefD := ⟨("_law_names", none), "_law_names", "_law_names", defArgs (top 50), defBody (top 50), defScope (top 50), [], []⟩
def dd_w_ahead : He.DefD := ⟨("_law_ahead", none), "_law_ahead", "_law_ahead", defArgs (top 53), defBody (top 53), defScope (top 53), [], []⟩
def dd_w_length : He.DefD := ⟨("_law_length", none), "_law_length", "_law_length", defArgs (top 52), defBody (top 52), defScope (top 52), [], []⟩
def dd_w_any_day : He.DefD := ⟨("_law_any_day", none), "_law_any_day", "_law_any_day", defArgs (top 55), defBody (top 55), defScope (top 55), [], []⟩
def dd_w_rule : He.DefD := ⟨("_law_rule", none), "_law_rule", "_law_rule", defArgs (top 51), defBody (top 51), defScope (top 51), [], []⟩
def dd_w_drawn : He.DefD := ⟨("_law_drawn", none), "_law_drawn", "_law_drawn", defArgs (top 56), defBody (top 56), defScope (top 56), [], []⟩
def dd_long_years : He.DefD := ⟨("long_years", none), "long_years", "long_years", defArgs (top 13), defBody (top 13), defScope (top 13), [], []⟩
def dd_days_ahead : He.DefD := ⟨("days_ahead", none), "days_ahead", "days_ahead", defArgs (top 14), defBody (top 14), defScope (top 14), [], []⟩
def dd_is_long : He.DefD := ⟨("is_long", none), "is_long", "is_long", defArgs (top 11), defBody (top 11), defScope (top 11), [], []⟩
def dd_length_of : He.DefD := ⟨("length_of", none), "length_of", "length_of", defArgs (top 12), defBody (top 12), defScope (top 12), [], []⟩
def dd_date_of : He.DefD := ⟨("date_of", none), "date_of", "date_of", defArgs (top 17), defBody (top 17), defScope (top 17), [], []⟩
def dd_two_figures : He.DefD := ⟨("two_figures", none), "two_figures", "two_figures", defArgs (top 18), defBody (top 18), defScope (top 18), [], []⟩
def dd_show_day : He.DefD := ⟨("show_day", none), "show_day", "show_day", defArgs (top 19), defBody (top 19), defScope (top 19), [], []⟩
def dd_show_since : He.DefD := ⟨("show_since", none), "show_since", "show_since", defArgs (top 38), defBody (top 38), defScope (top 38), [], []⟩
def dd_show_rule : He.DefD := ⟨("show_rule", none), "show_rule", "show_rule", defArgs (top 39), defBody (top 39), defScope (top 39), [], []⟩
def dd_show_deed : He.DefD := ⟨("show_deed", none), "show_deed", "show_deed", defArgs (top 40), defBody (top 40), defScope (top 40), [], []⟩
def dd_w_day_text : He.DefD := ⟨("_law_day_text", none), "_law_day_text", "_law_day_text", defArgs (top 54), defBody (top 54), defScope (top 54), [], []⟩
def dd_w_written : He.DefD := ⟨("_law_written", none), "_law_written", "_law_written", defArgs (top 57), defBody (top 57), defScope (top 57), [], []⟩
def dd_w_same : He.DefD := ⟨("_law_same", none), "_law_same", "_law_same", defArgs (top 58), defBody (top 58), defScope (top 58), [], []⟩
def dd_day_at : He.DefD := ⟨("day_at", none), "day_at", "day_at", defArgs (top 16), defBody (top 16), defScope (top 16), [], []⟩
def dd_is_date : He.DefD := ⟨("is_date", none), "is_date", "is_date", defArgs (top 15), defBody (top 15), defScope (top 15), [], []⟩
def dd_is_whole : He.DefD := ⟨("is_whole", none), "is_whole", "is_whole", defArgs (top 9), defBody (top 9), defScope (top 9), [], []⟩
def dd_is_day : He.DefD := ⟨("is_day", none), "is_day", "is_day", defArgs (top 10), defBody (top 10), defScope (top 10), [], []⟩
def dd_is_written : He.DefD := ⟨("is_written", none), "is_written", "is_written", defArgs (top 20), defBody (top 20), defScope (top 20), [], []⟩
def dd_read_day : He.DefD := ⟨("read_day", none), "read_day", "read_day", defArgs (top 21), defBody (top 21), defScope (top 21), [], []⟩
def dd_day_in : He.DefD := ⟨("day_in", none), "day_in", "day_in", defArgs (top 41), defBody (top 41), defScope (top 41), [], []⟩
def dd_many_in : He.DefD := ⟨("many_in", none), "many_in", "many_in", defArgs (top 42), defBody (top 42), defScope (top 42), [], []⟩
def dd_parts_in : He.DefD := ⟨("parts_in", none), "parts_in", "parts_in", defArgs (top 43), defBody (top 43), defScope (top 43), [], []⟩
def dd_told_by : He.DefD := ⟨("told_by", none), "told_by", "told_by", defArgs (top 44), defBody (top 44), defScope (top 44), [], []⟩
def dd_is_name : He.DefD := ⟨("is_name", none), "is_name", "is_name", defArgs (top 29), defBody (top 29), defScope (top 29), [], []⟩
def dd_are_makers : He.DefD := ⟨("are_makers", none), "are_makers", "are_makers", defArgs (top 33), defBody (top 33), defScope (top 33), [], []⟩
def dd_is_since : He.DefD := ⟨("is_since", none), "is_since", "is_since", defArgs (top 30), defBody (top 30), defScope (top 30), [], []⟩
def dd_is_span_told : He.DefD := ⟨("is_span_told", none), "is_span_told", "is_span_told", defArgs (top 31), defBody (top 31), defScope (top 31), [], []⟩
def dd_is_rule : He.DefD := ⟨("is_rule", none), "is_rule", "is_rule", defArgs (top 32), defBody (top 32), defScope (top 32), [], []⟩
def dd_is_aim : He.DefD := ⟨("is_aim", none), "is_aim", "is_aim", defArgs (top 34), defBody (top 34), defScope (top 34), [], []⟩
def dd_fits_form : He.DefD := ⟨("fits_form", none), "fits_form", "fits_form", defArgs (top 35), defBody (top 35), defScope (top 35), [], []⟩
def dd_is_deed : He.DefD := ⟨("is_deed", none), "is_deed", "is_deed", defArgs (top 36), defBody (top 36), defScope (top 36), [], []⟩
def dd_read_deed : He.DefD := ⟨("read_deed", none), "read_deed", "read_deed", defArgs (top 45), defBody (top 45), defScope (top 45), [], []⟩
def dd_law : He.DefD := ⟨("law", none), "law", "law", defArgs (top 59), defBody (top 59), defScope (top 59), [], []⟩
def fn__0 : List He.DefD := [dd_w_mixed, dd_w_pack, dd_w_take, dd_w_names, dd_w_ahead, dd_w_length, dd_w_any_day, dd_w_rule, dd_w_drawn, dd_long_years, dd_days_ahead, dd_is_long, dd_length_of, dd_date_of, dd_two_figures, dd_show_day, dd_show_since, dd_show_rule, dd_show_deed, dd_w_day_text, dd_w_written, dd_w_same, dd_day_at, dd_is_date, dd_is_whole, dd_is_day, dd_is_written, dd_read_day, dd_day_in, dd_many_in]
def fn__1 : List He.DefD := [dd_parts_in, dd_told_by, dd_is_name, dd_are_makers, dd_is_since, dd_is_span_told, dd_is_rule, dd_is_aim, dd_fits_form, dd_is_deed, dd_read_deed, dd_law]
def fn_ : List He.DefD := fn__0 ++ fn__1
def fa__0 : List He.Fa := [.glo "LENGTHS", .int "FIRST_YEAR" 2000, .int "LAST_YEAR" 9999, .int "LAST_DAY" 99999, .str "FIGURES" "0123456789", .str "LETTERS" "abcdefghijklmnopqrstuvwxyz", .glo "UNITS", .int "MOST_LETTERS" 8, .int "MOST_MANY" 999, .int "MOST_MAKERS" 4, .glo "FORMS", .glo "_law_mixed", .free "len", .glo "_law_pack", .free "divmod", .glo "_law_take", .free "range", .glo "_law_names", .glo "_law_ahead", .glo "_law_length", .free "min", .free "sum", .glo "_law_any_day", .glo "_law_rule", .free "sorted", .free "tuple", .glo "_law_drawn", .glo "long_years", .glo "days_ahead", .glo "is_long"]
def fa__1 : List He.Fa := [.free "int", .glo "length_of", .glo "date_of", .free "str", .glo "two_figures", .glo "show_day", .glo "show_since", .glo "show_rule", .glo "show_deed", .glo "_law_day_text", .free "list", .glo "_law_written", .glo "_law_same", .free "all", .free "bool", .free "isinstance", .free "zip", .glo "day_at", .glo "is_date", .glo "is_whole", .glo "is_day", .glo "is_written", .glo "read_day", .glo "NoText", .glo "day_in", .glo "many_in", .glo "parts_in", .glo "told_by", .glo "is_name", .glo "are_makers"]
def fa__2 : List He.Fa := [.glo "is_since", .glo "is_span_told", .glo "is_rule", .glo "is_aim", .glo "fits_form", .glo "is_deed", .glo "read_deed", .free "max", .glo "law"]
def fa_ : List He.Fa := fa__0 ++ fa__1 ++ fa__2
def ts_ : List He.Tab := [(fun K => He.ga K "FORMS", ["paper", "happens", "rule", "end", "hold", "lift", "leave"])]
def exs_ (K : PySem.W.Frag) : List Bool := [He.tupB K "LENGTHS" v_LENGTHS, He.tupB K "UNITS" v_UNITS, He.valsB K (He.ga K "FORMS") v_FORMS]
def ex_ (K : PySem.W.Frag) : Bool := (exs_ K).all id
section
variable {P : Program} {w : World} {K : PySem.W.Frag} {mg : Str → Option Value} {base : Heap} {h : Heap} (X : K.In h) (G : h.Ns mainGlobals mg) (c : He.SaysX fa_ fn_ ts_ [] ex_ w h K)
include X G c
theorem cs_LENGTHS : CstOk K mg "LENGTHS" d_LENGTHS := cst_tup X G (c.t.d.fact 0 (f := .glo "LENGTHS") rfl) (ex_at c.more 0 (b := He.tupB K "LENGTHS" v_LENGTHS) rfl) (by rfl) (by rfl)
theorem cs_FIRST_YEAR : CstOk K mg "FIRST_YEAR" d_FIRST_YEAR := cst_int X G (c.t.d.fact 1 (f := .int "FIRST_YEAR" 2000) rfl)
theorem cs_LAST_YEAR : CstOk K mg "LAST_YEAR" d_LAST_YEAR := cst_int X G (c.t.d.fact 2 (f := .int "LAST_YEAR" 9999) rfl)
theorem cs_LAST_DAY : CstOk K mg "LAST_DAY" d_LAST_DAY := cst_int X G (c.t.d.fact 3 (f := .int "LAST_DAY" 99999) rfl)
theorem cs_FIGURES : CstOk K mg "FIGURES" d_FIGURES := cst_str X G (c.t.d.fact 4 (f := .str "FIGURES" "0123456789") rfl)
theorem cs_LETTERS : CstOk K mg "LETTERS" d_LETTERS := cst_str X G (c.t.d.fact 5 (f := .str "LETTERS" "abcdefghijklmnopqrstuvwxyz") rfl)
theorem cs_UNITS : CstOk K mg "UNITS" d_UNITS := cst_tup X G (c.t.d.fact 6 (f := .glo "UNITS") rfl) (ex_at c.more 1 (b := He.tupB K "UNITS" v_UNITS) rfl) (by rfl) (by rfl)
theorem cs_MOST_LETTERS : CstOk K mg "MOST_LETTERS" d_MOST_LETTERS := cst_int X G (c.t.d.fact 7 (f := .int "MOST_LETTERS" 8) rfl)
theorem cs_MOST_MANY : CstOk K mg "MOST_MANY" d_MOST_MANY := cst_int X G (c.t.d.fact 8 (f := .int "MOST_MANY" 999) rfl)
theorem cs_MOST_MAKERS : CstOk K mg "MOST_MAKERS" d_MOST_MAKERS := cst_int X G (c.t.d.fact 9 (f := .int "MOST_MAKERS" 4) rfl)
theorem kd_FORMS : KdcOk K w mg "FORMS" k_FORMS := kdc_of X G (c.t.d.fact 10 (f := .glo "FORMS") rfl) (tab_eq c.t 0 rfl) (ex_at c.more 2 (b := He.valsB K (He.ga K "FORMS") v_FORMS) rfl) (by rfl) (by rfl) (by rfl)
omit X G c in
theorem sc_w_mixed : FnScope N_w_mixed ["_law_cell"] (defScope (top 47)) := ⟨rfl, rfl, rfl, by decide +kernel, rfl, by decide +kernel, by decide +kernel⟩
theorem ok_w_mixed : CalOk P w K mg base 1 "_law_mixed" 1 F_w_mixed := by
  obtain ⟨fd, F⟩ := c.t.d.def_ 0 (d := dd_w_mixed) rfl
  exact def_ok (lvl := 0) F sc_w_mixed (fa_of (c := c_w_mixed) fN fN fN sc_w_mixed.nd fN fN) t_w_mixed (He.glo_ok X G (c.t.d.fact 11 (f := .glo "_law_mixed") rfl)) rfl (fun _ _ _ _ _ _ us hl => match us, hl with | [_], _ => rfl)
omit X G c in
theorem sc_w_pack : FnScope N_w_pack ["_law_script", "_law_k"] (defScope (top 48)) := ⟨rfl, rfl, rfl, by decide +kernel, rfl, by decide +kernel, by decide +kernel⟩
theorem ok_w_pack : CalOk P w K mg base 2 "_law_pack" 2 F_w_pack := by
  obtain ⟨fd, F⟩ := c.t.d.def_ 1 (d := dd_w_pack) rfl
  exact def_ok (lvl := 1) F sc_w_pack (fa_of (c := c_w_pack) (fC ((ok_w_mixed X G c).mono (by decide)) fN) fN (fC (He.free_ok X G (c.t.d.fact 12 (f := .free "len") rfl)) fN) sc_w_pack.nd fN fN) t_w_pack (He.glo_ok X G (c.t.d.fact 13 (f := .glo "_law_pack") rfl)) rfl (fun _ _ _ _ _ _ us hl => match us, hl with | [_, _], _ => rfl)
omit X G c in
theorem sc_w_take : FnScope N_w_take ["_law_pack_here", "_law_size"] (defScope (top 49)) := ⟨rfl, rfl, rfl, by decide +kernel, rfl, by decide +kernel, by decide +kernel⟩
theorem ok_w_take : CalOk P w K mg base 1 "_law_take" 2 F_w_take := by
  obtain ⟨fd, F⟩ := c.t.d.def_ 2 (d := dd_w_take) rfl
  exact def_ok (lvl := 0) F sc_w_take (fa_of (c := c_w_take) fN fN (fC (He.free_ok X G (c.t.d.fact 14 (f := .free "divmod") rfl)) fN) sc_w_take.nd fN fN) t_w_take (He.glo_ok X G (c.t.d.fact 15 (f := .glo "_law_take") rfl)) rfl (fun _ _ _ _ _ _ us hl => match us, hl with | [_, _], _ => rfl)
omit X G c in
theorem sc_w_names : FnScope N_w_names ["_law_pack_here", "_law_many"] (defScope (top 50)) := ⟨rfl, rfl, rfl, by decide +kernel, rfl, by decide +kernel, by decide +kernel⟩
theorem ok_w_names : CalOk P w K mg base 2 "_law_names" 2 F_w_names := by
  obtain ⟨fd, F⟩ := c.t.d.def_ 3 (d := dd_w_names) rfl
  exact def_ok (lvl := 1) F sc_w_names (fa_of (c := c_w_names) (fC ((ok_w_take X G c).mono (by decide)) fN) fN (fC (He.free_ok X G (c.t.d.fact 12 (f := .free "len") rfl)) (fC (He.free_ok X G (c.t.d.fact 16 (f := .free "range") rfl)) fN)) sc_w_names.nd fN fN) t_w_names (He.glo_ok X G (c.t.d.fact 17 (f := .glo "_law_names") rfl)) rfl (fun _ _ _ _ _ _ us hl => match us, hl with | [_, _], _ => rfl)
omit X G c in
theorem sc_w_ahead : FnScope N_w_ahead ["_law_year"] (defScope (top 53)) := ⟨rfl, rfl, rfl, by decide +kernel, rfl, by decide +kernel, by decide +kernel⟩
theorem ok_w_ahead : CalOk P w K mg base 1 "_law_ahead" 1 F_w_ahead := by
  obtain ⟨fd, F⟩ := c.t.d.def_ 4 (d := dd_w_ahead) rfl
  exact def_ok (lvl := 0) F sc_w_ahead (fa_of (c := c_w_ahead) fN fN fN sc_w_ahead.nd fN fN) t_w_ahead (He.glo_ok X G (c.t.d.fact 18 (f := .glo "_law_ahead") rfl)) rfl (fun _ _ _ _ _ _ us hl => match us, hl with | [_], _ => rfl)
omit X G c in
theorem sc_w_length : FnScope N_w_length ["_law_year", "_law_month"] (defScope (top 52)) := ⟨rfl, rfl, rfl, by decide +kernel, rfl, by decide +kernel, by decide +kernel⟩
theorem ok_w_length : CalOk P w K mg base 1 "_law_length" 2 F_w_length := by
  obtain ⟨fd, F⟩ := c.t.d.def_ 5 (d := dd_w_length) rfl
  exact def_ok (lvl := 0) F sc_w_length (fa_of (c := c_w_length) fN fN fN sc_w_length.nd fN fN) t_w_length (He.glo_ok X G (c.t.d.fact 19 (f := .glo "_law_length") rfl)) rfl (fun _ _ _ _ _ _ us hl => match us, hl with | [_, _], _ => rfl)
omit X G c in
theorem sc_w_any_day : FnScope N_w_any_day ["_law_pack_here"] (defScope (top 55)) := ⟨rfl, rfl, rfl, by decide +kernel, rfl, by decide +kernel, by decide +kernel⟩
theorem ok_w_any_day : CalOk P w K mg base 2 "_law_any_day" 1 F_w_any_day := by
  obtain ⟨fd, F⟩ := c.t.d.def_ 6 (d := dd_w_any_day) rfl
  exact def_ok (lvl := 1) F sc_w_any_day (fa_of (c := c_w_any_day) (fC ((ok_w_take X G c).mono (by decide)) (fC ((ok_w_ahead X G c).mono (by decide)) (fC ((ok_w_length X G c).mono (by decide)) fN))) fN (fC (He.free_ok X G (c.t.d.fact 20 (f := .free "min") rfl)) (fC (He.free_ok X G (c.t.d.fact 16 (f := .free "range") rfl)) (fC (He.free_ok X G (c.t.d.fact 21 (f := .free "sum") rfl)) fN))) sc_w_any_day.nd fN fN) t_w_any_day (He.glo_ok X G (c.t.d.fact 22 (f := .glo "_law_any_day") rfl)) rfl (fun _ _ _ _ _ _ us hl => match us, hl with | [_], _ => rfl)
omit X G c in
theorem sc_w_rule : FnScope N_w_rule ["_law_pack_here", "_law_names_here"] (defScope (top 51)) := ⟨rfl, rfl, rfl, by decide +kernel, rfl, by decide +kernel, by decide +kernel⟩
theorem ok_w_rule : CalOk P w K mg base 2 "_law_rule" 2 F_w_rule := by
  obtain ⟨fd, F⟩ := c.t.d.def_ 7 (d := dd_w_rule) rfl
  exact def_ok (lvl := 1) F sc_w_rule (fa_of (c := c_w_rule) (fC ((ok_w_take X G c).mono (by decide)) fN) fN fN sc_w_rule.nd fN fN) t_w_rule (He.glo_ok X G (c.t.d.fact 23 (f := .glo "_law_rule") rfl)) rfl (fun _ _ _ _ _ _ us hl => match us, hl with | [_, _], _ => rfl)
omit X G c in
theorem sc_w_drawn : FnScope N_w_drawn ["_law_pack_here", "_law_names_here"] (defScope (top 56)) := ⟨rfl, rfl, rfl, by decide +kernel, rfl, by decide +kernel, by decide +kernel⟩
theorem ok_w_drawn : CalOk P w K mg base 3 "_law_drawn" 2 F_w_drawn := by
  obtain ⟨fd, F⟩ := c.t.d.def_ 8 (d := dd_w_drawn) rfl
  exact def_ok (lvl := 2) F sc_w_drawn (fa_of (c := c_w_drawn) (fC ((ok_w_take X G c).mono (by decide)) (fC ((ok_w_any_day X G c).mono (by decide)) (fC ((ok_w_rule X G c).mono (by decide)) fN))) fN (fC (He.free_ok X G (c.t.d.fact 24 (f := .free "sorted") rfl)) (fC (He.free_ok X G (c.t.d.fact 25 (f := .free "tuple") rfl)) fN)) sc_w_drawn.nd fN fN) t_w_drawn (He.glo_ok X G (c.t.d.fact 26 (f := .glo "_law_drawn") rfl)) rfl (fun _ _ _ _ _ _ us hl => match us, hl with | [_, _], _ => rfl)
omit X G c in
theorem sc_long_years : FnScope N_long_years ["year"] (defScope (top 13)) := ⟨rfl, rfl, rfl, by decide +kernel, rfl, by decide +kernel, by decide +kernel⟩
theorem ok_long_years : CalOk P w K mg base 1 "long_years" 1 F_long_years := by
  obtain ⟨fd, F⟩ := c.t.d.def_ 9 (d := dd_long_years) rfl
  exact def_ok (lvl := 0) F sc_long_years (fa_of (c := c_long_years) fN fN fN sc_long_years.nd fN fN) t_long_years (He.glo_ok X G (c.t.d.fact 27 (f := .glo "long_years") rfl)) rfl (fun _ _ _ _ _ _ us hl => match us, hl with | [_], _ => rfl)
omit X G c in
theorem sc_days_ahead : FnScope N_days_ahead ["year"] (defScope (top 14)) := ⟨rfl, rfl, rfl, by decide +kernel, rfl, by decide +kernel, by decide +kernel⟩
theorem ok_days_ahead : CalOk P w K mg base 2 "days_ahead" 1 F_days_ahead := by
  obtain ⟨fd, F⟩ := c.t.d.def_ 10 (d := dd_days_ahead) rfl
  exact def_ok (lvl := 1) F sc_days_ahead (fa_of (c := c_days_ahead) (fC ((ok_long_years X G c).mono (by decide)) fN) (fC (cs_FIRST_YEAR X G c) fN) fN sc_days_ahead.nd fN fN) t_days_ahead (He.glo_ok X G (c.t.d.fact 28 (f := .glo "days_ahead") rfl)) rfl (fun _ _ _ _ _ _ us hl => match us, hl with | [_], _ => rfl)
omit X G c in
theorem sc_is_long : FnScope N_is_long ["year"] (defScope (top 11)) := ⟨rfl, rfl, rfl, by decide +kernel, rfl, by decide +kernel, by decide +kernel⟩
theorem ok_is_long : CalOk P w K mg base 1 "is_long" 1 F_is_long := by
  obtain ⟨fd, F⟩ := c.t.d.def_ 11 (d := dd_is_long) rfl
  exact def_ok (lvl := 0) F sc_is_long (fa_of (c := c_is_long) fN fN fN sc_is_long.nd fN fN) t_is_long (He.glo_ok X G (c.t.d.fact 29 (f := .glo "is_long") rfl)) rfl (fun _ _ _ _ _ _ us hl => match us, hl with | [_], _ => rfl)
omit X G c in
theorem sc_length_of : FnScope N_length_of ["year", "month"] (defScope (top 12)) := ⟨rfl, rfl, rfl, by decide +kernel, rfl, by decide +kernel, by decide +kernel⟩
theorem ok_length_of : CalOk P w K mg base 2 "length_of" 2 F_length_of := by
  obtain ⟨fd, F⟩ := c.t.d.def_ 12 (d := dd_length_of) rfl
  exact def_ok (lvl := 1) F sc_length_of (fa_of (c := c_length_of) (fC ((ok_is_long X G c).mono (by decide)) fN) (fC (cs_LENGTHS X G c) fN) (fC (He.free_ok X G (c.t.d.fact 30 (f := .free "int") rfl)) fN) sc_length_of.nd fN fN) t_length_of (He.glo_ok X G (c.t.d.fact 31 (f := .glo "length_of") rfl)) rfl (fun _ _ _ _ _ _ us hl => match us, hl with | [_, _], _ => rfl)
omit X G c in
theorem sc_date_of : FnScope N_date_of ["day"] (defScope (top 17)) := ⟨rfl, rfl, rfl, by decide +kernel, rfl, by decide +kernel, by decide +kernel⟩
theorem ok_date_of : CalOk P w K mg base 3 "date_of" 1 F_date_of := by
  obtain ⟨fd, F⟩ := c.t.d.def_ 13 (d := dd_date_of) rfl
  exact def_ok (lvl := 2) F sc_date_of (fa_of (c := c_date_of) (fC ((ok_days_ahead X G c).mono (by decide)) (fC ((ok_length_of X G c).mono (by decide)) fN)) (fC (cs_FIRST_YEAR X G c) fN) fN sc_date_of.nd fN fN) t_date_of (He.glo_ok X G (c.t.d.fact 32 (f := .glo "date_of") rfl)) rfl (fun _ _ _ _ _ _ us hl => match us, hl with | [_], _ => rfl)
omit X G c in
theorem sc_two_figures : FnScope N_two_figures ["number"] (defScope (top 18)) := ⟨rfl, rfl, rfl, by decide +kernel, rfl, by decide +kernel, by decide +kernel⟩
theorem ok_two_figures : CalOk P w K mg base 1 "two_figures" 1 F_two_figures := by
  obtain ⟨fd, F⟩ := c.t.d.def_ 14 (d := dd_two_figures) rfl
  exact def_ok (lvl := 0) F sc_two_figures (fa_of (c := c_two_figures) fN fN (fC (He.free_ok X G (c.t.d.fact 30 (f := .free "int") rfl)) (fC (He.free_ok X G (c.t.d.fact 33 (f := .free "str") rfl)) fN)) sc_two_figures.nd fN fN) t_two_figures (He.glo_ok X G (c.t.d.fact 34 (f := .glo "two_figures") rfl)) rfl (fun _ _ _ _ _ _ us hl => match us, hl with | [_], _ => rfl)
omit X G c in
theorem sc_show_day : FnScope N_show_day ["day"] (defScope (top 19)) := ⟨rfl, rfl, rfl, by decide +kernel, rfl, by decide +kernel, by decide +kernel⟩
theorem ok_show_day : CalOk P w K mg base 4 "show_day" 1 F_show_day := by
  obtain ⟨fd, F⟩ := c.t.d.def_ 15 (d := dd_show_day) rfl
  exact def_ok (lvl := 3) F sc_show_day (fa_of (c := c_show_day) (fC ((ok_date_of X G c).mono (by decide)) (fC ((ok_two_figures X G c).mono (by decide)) fN)) fN (fC (He.free_ok X G (c.t.d.fact 33 (f := .free "str") rfl)) fN) sc_show_day.nd fN fN) t_show_day (He.glo_ok X G (c.t.d.fact 35 (f := .glo "show_day") rfl)) rfl (fun _ _ _ _ _ _ us hl => match us, hl with | [_], _ => rfl)
omit X G c in
theorem sc_show_since : FnScope N_show_since ["since"] (defScope (top 38)) := ⟨rfl, rfl, rfl, by decide +kernel, rfl, by decide +kernel, by decide +kernel⟩
theorem ok_show_since : CalOk P w K mg base 1 "show_since" 1 F_show_since := by
  obtain ⟨fd, F⟩ := c.t.d.def_ 16 (d := dd_show_since) rfl
  exact def_ok (lvl := 0) F sc_show_since (fa_of (c := c_show_since) fN fN fN sc_show_since.nd fN fN) t_show_since (He.glo_ok X G (c.t.d.fact 36 (f := .glo "show_since") rfl)) rfl (fun _ _ _ _ _ _ us hl => match us, hl with | [_], _ => rfl)
omit X G c in
theorem sc_show_rule : FnScope N_show_rule ["parts"] (defScope (top 39)) := ⟨rfl, rfl, rfl, by decide +kernel, rfl, by decide +kernel, by decide +kernel⟩
theorem ok_show_rule : CalOk P w K mg base 2 "show_rule" 1 F_show_rule := by
  obtain ⟨fd, F⟩ := c.t.d.def_ 17 (d := dd_show_rule) rfl
  exact def_ok (lvl := 1) F sc_show_rule (fa_of (c := c_show_rule) (fC ((ok_show_since X G c).mono (by decide)) fN) fN (fC (He.free_ok X G (c.t.d.fact 12 (f := .free "len") rfl)) (fC (He.free_ok X G (c.t.d.fact 33 (f := .free "str") rfl)) fN)) sc_show_rule.nd fN fN) t_show_rule (He.glo_ok X G (c.t.d.fact 37 (f := .glo "show_rule") rfl)) rfl (fun _ _ _ _ _ _ us hl => match us, hl with | [_], _ => rfl)
omit X G c in
theorem sc_show_deed : FnScope N_show_deed ["deed"] (defScope (top 40)) := ⟨rfl, rfl, rfl, by decide +kernel, rfl, by decide +kernel, by decide +kernel⟩
theorem ok_show_deed : CalOk P w K mg base 5 "show_deed" 1 F_show_deed := by
  obtain ⟨fd, F⟩ := c.t.d.def_ 18 (d := dd_show_deed) rfl
  exact def_ok (lvl := 4) F sc_show_deed (fa_of (c := c_show_deed) (fC ((ok_show_day X G c).mono (by decide)) (fC ((ok_show_rule X G c).mono (by decide)) fN)) fN (fC (He.free_ok X G (c.t.d.fact 30 (f := .free "int") rfl)) fN) sc_show_deed.nd fN fN) t_show_deed (He.glo_ok X G (c.t.d.fact 38 (f := .glo "show_deed") rfl)) rfl (fun _ _ _ _ _ _ us hl => match us, hl with | [_], _ => rfl)
omit X G c in
theorem sc_w_day_text : FnScope N_w_day_text ["_law_day"] (defScope (top 54)) := ⟨rfl, rfl, rfl, by decide +kernel, rfl, by decide +kernel, by decide +kernel⟩
theorem ok_w_day_text : CalOk P w K mg base 2 "_law_day_text" 1 F_w_day_text := by
  obtain ⟨fd, F⟩ := c.t.d.def_ 19 (d := dd_w_day_text) rfl
  exact def_ok (lvl := 1) F sc_w_day_text (fa_of (c := c_w_day_text) (fC ((ok_w_ahead X G c).mono (by decide)) (fC ((ok_w_length X G c).mono (by decide)) fN)) fN (fC (He.free_ok X G (c.t.d.fact 33 (f := .free "str") rfl)) fN) sc_w_day_text.nd fN fN) t_w_day_text (He.glo_ok X G (c.t.d.fact 39 (f := .glo "_law_day_text") rfl)) rfl (fun _ _ _ _ _ _ us hl => match us, hl with | [_], _ => rfl)
omit X G c in
theorem sc_w_written : FnScope N_w_written ["_law_deed"] (defScope (top 57)) := ⟨rfl, rfl, rfl, by decide +kernel, rfl, by decide +kernel, by decide +kernel⟩
theorem ok_w_written : CalOk P w K mg base 3 "_law_written" 1 F_w_written := by
  obtain ⟨fd, F⟩ := c.t.d.def_ 20 (d := dd_w_written) rfl
  exact def_ok (lvl := 2) F sc_w_written (fa_of (c := c_w_written) (fC ((ok_w_day_text X G c).mono (by decide)) fN) fN (fC (He.free_ok X G (c.t.d.fact 30 (f := .free "int") rfl)) (fC (He.free_ok X G (c.t.d.fact 12 (f := .free "len") rfl)) (fC (He.free_ok X G (c.t.d.fact 40 (f := .free "list") rfl)) (fC (He.free_ok X G (c.t.d.fact 33 (f := .free "str") rfl)) fN)))) sc_w_written.nd fN fN) t_w_written (He.glo_ok X G (c.t.d.fact 41 (f := .glo "_law_written") rfl)) rfl (fun _ _ _ _ _ _ us hl => match us, hl with | [_], _ => rfl)
omit X G c in
theorem sc_w_same : FnScope N_w_same ["_law_found", "_law_due"] (defScope (top 58)) := ⟨rfl, rfl, rfl, by decide +kernel, rfl, by decide +kernel, by decide +kernel⟩
theorem okN_w_same : ∀ m, CalOk P w K mg base (0 + m + 1) "_law_same" 2 (F_w_sameN m)
  | 0 => by
    obtain ⟨fd, F⟩ := c.t.d.def_ 21 (d := dd_w_same) rfl
    exact (def_bad F sc_w_same (He.glo_ok X G (c.t.d.fact 42 (f := .glo "_law_same") rfl)) rfl (fun _ _ _ _ _ _ us hl => match us, hl with | [_, _], _ => rfl)).mono (by omega)
  | m + 1 => by
    obtain ⟨fd, F⟩ := c.t.d.def_ 21 (d := dd_w_same) rfl
    exact def_ok (lvl := 0 + m + 1) F sc_w_same (fa_of (c := c_w_same (F_w_sameN m)) (fC (okN_w_same m) fN) fN (fC (He.free_ok X G (c.t.d.fact 43 (f := .free "all") rfl)) (fC (He.free_ok X G (c.t.d.fact 44 (f := .free "bool") rfl)) (fC (He.free_ok X G (c.t.d.fact 45 (f := .free "isinstance") rfl)) (fC (He.free_ok X G (c.t.d.fact 12 (f := .free "len") rfl)) (fC (He.free_ok X G (c.t.d.fact 25 (f := .free "tuple") rfl)) (fC (He.free_ok X G (c.t.d.fact 46 (f := .free "zip") rfl)) fN)))))) sc_w_same.nd fN fN) (t_w_same _) (He.glo_ok X G (c.t.d.fact 42 (f := .glo "_law_same") rfl)) rfl (fun _ _ _ _ _ _ us hl => match us, hl with | [_, _], _ => rfl)
theorem ok_w_same : CalOk P w K mg base 5 "_law_same" 2 F_w_same := okN_w_same X G c 4
omit X G c in
theorem sc_day_at : FnScope N_day_at ["year", "month", "day"] (defScope (top 16)) := ⟨rfl, rfl, rfl, by decide +kernel, rfl, by decide +kernel, by decide +kernel⟩
theorem ok_day_at : CalOk P w K mg base 3 "day_at" 3 F_day_at := by
  obtain ⟨fd, F⟩ := c.t.d.def_ 22 (d := dd_day_at) rfl
  exact def_ok (lvl := 2) F sc_day_at (fa_of (c := c_day_at) (fC ((ok_days_ahead X G c).mono (by decide)) (fC ((ok_length_of X G c).mono (by decide)) fN)) fN (fC (He.free_ok X G (c.t.d.fact 16 (f := .free "range") rfl)) (fC (He.free_ok X G (c.t.d.fact 21 (f := .free "sum") rfl)) fN)) sc_day_at.nd fN fN) t_day_at (He.glo_ok X G (c.t.d.fact 47 (f := .glo "day_at") rfl)) rfl (fun _ _ _ _ _ _ us hl => match us, hl with | [_, _, _], _ => rfl)
omit X G c in
theorem sc_is_date : FnScope N_is_date ["year", "month", "day"] (defScope (top 15)) := ⟨rfl, rfl, rfl, by decide +kernel, rfl, by decide +kernel, by decide +kernel⟩
theorem ok_is_date : CalOk P w K mg base 3 "is_date" 3 F_is_date := by
  obtain ⟨fd, F⟩ := c.t.d.def_ 23 (d := dd_is_date) rfl
  exact def_ok (lvl := 2) F sc_is_date (fa_of (c := c_is_date) (fC ((ok_length_of X G c).mono (by decide)) fN) (fC (cs_FIRST_YEAR X G c) (fC (cs_LAST_YEAR X G c) fN)) fN sc_is_date.nd fN fN) t_is_date (He.glo_ok X G (c.t.d.fact 48 (f := .glo "is_date") rfl)) rfl (fun _ _ _ _ _ _ us hl => match us, hl with | [_, _, _], _ => rfl)
omit X G c in
theorem sc_is_whole : FnScope N_is_whole ["thing"] (defScope (top 9)) := ⟨rfl, rfl, rfl, by decide +kernel, rfl, by decide +kernel, by decide +kernel⟩
theorem ok_is_whole : CalOk P w K mg base 1 "is_whole" 1 F_is_whole := by
  obtain ⟨fd, F⟩ := c.t.d.def_ 24 (d := dd_is_whole) rfl
  exact def_ok (lvl := 0) F sc_is_whole (fa_of (c := c_is_whole) fN fN (fC (He.free_ok X G (c.t.d.fact 44 (f := .free "bool") rfl)) (fC (He.free_ok X G (c.t.d.fact 30 (f := .free "int") rfl)) (fC (He.free_ok X G (c.t.d.fact 45 (f := .free "isinstance") rfl)) fN))) sc_is_whole.nd fN fN) t_is_whole (He.glo_ok X G (c.t.d.fact 49 (f := .glo "is_whole") rfl)) rfl (fun _ _ _ _ _ _ us hl => match us, hl with | [_], _ => rfl)
omit X G c in
theorem sc_is_day : FnScope N_is_day ["thing"] (defScope (top 10)) := ⟨rfl, rfl, rfl, by decide +kernel, rfl, by decide +kernel, by decide +kernel⟩
theorem ok_is_day : CalOk P w K mg base 2 "is_day" 1 F_is_day := by
  obtain ⟨fd, F⟩ := c.t.d.def_ 25 (d := dd_is_day) rfl
  exact def_ok (lvl := 1) F sc_is_day (fa_of (c := c_is_day) (fC ((ok_is_whole X G c).mono (by decide)) fN) (fC (cs_LAST_DAY X G c) fN) fN sc_is_day.nd fN fN) t_is_day (He.glo_ok X G (c.t.d.fact 50 (f := .glo "is_day") rfl)) rfl (fun _ _ _ _ _ _ us hl => match us, hl with | [_], _ => rfl)
omit X G c in
theorem sc_is_written : FnScope N_is_written ["word", "most"] (defScope (top 20)) := ⟨rfl, rfl, rfl, by decide +kernel, rfl, by decide +kernel, by decide +kernel⟩
theorem ok_is_written : CalOk P w K mg base 1 "is_written" 2 F_is_written := by
  obtain ⟨fd, F⟩ := c.t.d.def_ 26 (d := dd_is_written) rfl
  exact def_ok (lvl := 0) F sc_is_written (fa_of (c := c_is_written) fN (fC (cs_FIGURES X G c) fN) (fC (He.free_ok X G (c.t.d.fact 43 (f := .free "all") rfl)) (fC (He.free_ok X G (c.t.d.fact 12 (f := .free "len") rfl)) fN)) sc_is_written.nd fN fN) t_is_written (He.glo_ok X G (c.t.d.fact 51 (f := .glo "is_written") rfl)) rfl (fun _ _ _ _ _ _ us hl => match us, hl with | [_, _], _ => rfl)
omit X G c in
theorem sc_read_day : FnScope N_read_day ["text"] (defScope (top 21)) := ⟨rfl, rfl, rfl, by decide +kernel, rfl, by decide +kernel, by decide +kernel⟩
theorem ok_read_day : CalOk P w K mg base 4 "read_day" 1 F_read_day := by
  obtain ⟨fd, F⟩ := c.t.d.def_ 27 (d := dd_read_day) rfl
  exact def_ok (lvl := 3) F sc_read_day (fa_of (c := c_read_day) (fC ((ok_day_at X G c).mono (by decide)) (fC ((ok_is_date X G c).mono (by decide)) (fC ((ok_is_day X G c).mono (by decide)) (fC ((ok_is_written X G c).mono (by decide)) fN)))) fN (fC (He.free_ok X G (c.t.d.fact 43 (f := .free "all") rfl)) (fC (He.free_ok X G (c.t.d.fact 30 (f := .free "int") rfl)) (fC (He.free_ok X G (c.t.d.fact 45 (f := .free "isinstance") rfl)) (fC (He.free_ok X G (c.t.d.fact 12 (f := .free "len") rfl)) (fC (He.free_ok X G (c.t.d.fact 33 (f := .free "str") rfl)) fN))))) sc_read_day.nd fN fN) t_read_day (He.glo_ok X G (c.t.d.fact 52 (f := .glo "read_day") rfl)) rfl (fun _ _ _ _ _ _ us hl => match us, hl with | [_], _ => rfl)
omit X G c in
theorem sc_day_in : FnScope N_day_in ["word"] (defScope (top 41)) := ⟨rfl, rfl, rfl, by decide +kernel, rfl, by decide +kernel, by decide +kernel⟩
theorem ok_day_in : CalOk P w K mg base 5 "day_in" 1 F_day_in := by
  obtain ⟨fd, F⟩ := c.t.d.def_ 28 (d := dd_day_in) rfl
  exact def_ok (lvl := 4) F sc_day_in (fa_of (c := c_day_in) (fC ((ok_read_day X G c).mono (by decide)) fN) fN fN sc_day_in.nd (fC (exm_0 X G (c.t.d.fact 53 (f := .glo "NoText") rfl)) fN) fN) t_day_in (He.glo_ok X G (c.t.d.fact 54 (f := .glo "day_in") rfl)) rfl (fun _ _ _ _ _ _ us hl => match us, hl with | [_], _ => rfl)
omit X G c in
theorem sc_many_in : FnScope N_many_in ["word"] (defScope (top 42)) := ⟨rfl, rfl, rfl, by decide +kernel, rfl, by decide +kernel, by decide +kernel⟩
theorem ok_many_in : CalOk P w K mg base 1 "many_in" 1 F_many_in := by
  obtain ⟨fd, F⟩ := c.t.d.def_ 29 (d := dd_many_in) rfl
  exact def_ok (lvl := 0) F sc_many_in (fa_of (c := c_many_in) fN (fC (cs_FIGURES X G c) fN) (fC (He.free_ok X G (c.t.d.fact 43 (f := .free "all") rfl)) (fC (He.free_ok X G (c.t.d.fact 30 (f := .free "int") rfl)) (fC (He.free_ok X G (c.t.d.fact 12 (f := .free "len") rfl)) fN))) sc_many_in.nd fN fN) t_many_in (He.glo_ok X G (c.t.d.fact 55 (f := .glo "many_in") rfl)) rfl (fun _ _ _ _ _ _ us hl => match us, hl with | [_], _ => rfl)
omit X G c in
theorem sc_parts_in : FnScope N_parts_in ["words"] (defScope (top 43)) := ⟨rfl, rfl, rfl, by decide +kernel, rfl, by decide +kernel, by decide +kernel⟩
theorem ok_parts_in : CalOk P w K mg base 2 "parts_in" 1 F_parts_in := by
  obtain ⟨fd, F⟩ := c.t.d.def_ 30 (d := dd_parts_in) rfl
  exact def_ok (lvl := 1) F sc_parts_in (fa_of (c := c_parts_in) (fC ((ok_many_in X G c).mono (by decide)) fN) fN (fC (He.free_ok X G (c.t.d.fact 12 (f := .free "len") rfl)) (fC (He.free_ok X G (c.t.d.fact 25 (f := .free "tuple") rfl)) fN)) sc_parts_in.nd fN fN) t_parts_in (He.glo_ok X G (c.t.d.fact 56 (f := .glo "parts_in") rfl)) rfl (fun _ _ _ _ _ _ us hl => match us, hl with | [_], _ => rfl)
omit X G c in
theorem sc_told_by : FnScope N_told_by ["words"] (defScope (top 44)) := ⟨rfl, rfl, rfl, by decide +kernel, rfl, by decide +kernel, by decide +kernel⟩
theorem ok_told_by : CalOk P w K mg base 6 "told_by" 1 F_told_by := by
  obtain ⟨fd, F⟩ := c.t.d.def_ 31 (d := dd_told_by) rfl
  exact def_ok (lvl := 5) F sc_told_by (fa_of (c := c_told_by) (fC ((ok_day_in X G c).mono (by decide)) (fC ((ok_parts_in X G c).mono (by decide)) fN)) fN (fC (He.free_ok X G (c.t.d.fact 25 (f := .free "tuple") rfl)) fN) sc_told_by.nd fN fN) t_told_by (He.glo_ok X G (c.t.d.fact 57 (f := .glo "told_by") rfl)) rfl (fun _ _ _ _ _ _ us hl => match us, hl with | [_], _ => rfl)
omit X G c in
theorem sc_is_name : FnScope N_is_name ["thing"] (defScope (top 29)) := ⟨rfl, rfl, rfl, by decide +kernel, rfl, by decide +kernel, by decide +kernel⟩
theorem ok_is_name : CalOk P w K mg base 1 "is_name" 1 F_is_name := by
  obtain ⟨fd, F⟩ := c.t.d.def_ 32 (d := dd_is_name) rfl
  exact def_ok (lvl := 0) F sc_is_name (fa_of (c := c_is_name) fN (fC (cs_LETTERS X G c) (fC (cs_MOST_LETTERS X G c) fN)) (fC (He.free_ok X G (c.t.d.fact 43 (f := .free "all") rfl)) (fC (He.free_ok X G (c.t.d.fact 45 (f := .free "isinstance") rfl)) (fC (He.free_ok X G (c.t.d.fact 12 (f := .free "len") rfl)) (fC (He.free_ok X G (c.t.d.fact 33 (f := .free "str") rfl)) fN)))) sc_is_name.nd fN fN) t_is_name (He.glo_ok X G (c.t.d.fact 58 (f := .glo "is_name") rfl)) rfl (fun _ _ _ _ _ _ us hl => match us, hl with | [_], _ => rfl)
omit X G c in
theorem sc_are_makers : FnScope N_are_makers ["thing"] (defScope (top 33)) := ⟨rfl, rfl, rfl, by decide +kernel, rfl, by decide +kernel, by decide +kernel⟩
theorem ok_are_makers : CalOk P w K mg base 2 "are_makers" 1 F_are_makers := by
  obtain ⟨fd, F⟩ := c.t.d.def_ 33 (d := dd_are_makers) rfl
  exact def_ok (lvl := 1) F sc_are_makers (fa_of (c := c_are_makers) (fC ((ok_is_name X G c).mono (by decide)) fN) (fC (cs_MOST_MAKERS X G c) fN) (fC (He.free_ok X G (c.t.d.fact 43 (f := .free "all") rfl)) (fC (He.free_ok X G (c.t.d.fact 45 (f := .free "isinstance") rfl)) (fC (He.free_ok X G (c.t.d.fact 12 (f := .free "len") rfl)) (fC (He.free_ok X G (c.t.d.fact 16 (f := .free "range") rfl)) (fC (He.free_ok X G (c.t.d.fact 25 (f := .free "tuple") rfl)) fN))))) sc_are_makers.nd fN fN) t_are_makers (He.glo_ok X G (c.t.d.fact 59 (f := .glo "are_makers") rfl)) rfl (fun _ _ _ _ _ _ us hl => match us, hl with | [_], _ => rfl)
omit X G c in
theorem sc_is_since : FnScope N_is_since ["thing"] (defScope (top 30)) := ⟨rfl, rfl, rfl, by decide +kernel, rfl, by decide +kernel, by decide +kernel⟩
theorem ok_is_since : CalOk P w K mg base 2 "is_since" 1 F_is_since := by
  obtain ⟨fd, F⟩ := c.t.d.def_ 34 (d := dd_is_since) rfl
  exact def_ok (lvl := 1) F sc_is_since (fa_of (c := c_is_since) (fC ((ok_is_name X G c).mono (by decide)) fN) fN (fC (He.free_ok X G (c.t.d.fact 45 (f := .free "isinstance") rfl)) (fC (He.free_ok X G (c.t.d.fact 12 (f := .free "len") rfl)) (fC (He.free_ok X G (c.t.d.fact 33 (f := .free "str") rfl)) (fC (He.free_ok X G (c.t.d.fact 25 (f := .free "tuple") rfl)) fN)))) sc_is_since.nd fN fN) t_is_since (He.glo_ok X G (c.t.d.fact 60 (f := .glo "is_since") rfl)) rfl (fun _ _ _ _ _ _ us hl => match us, hl with | [_], _ => rfl)
omit X G c in
theorem sc_is_span_told : FnScope N_is_span_told ["many", "unit"] (defScope (top 31)) := ⟨rfl, rfl, rfl, by decide +kernel, rfl, by decide +kernel, by decide +kernel⟩
theorem ok_is_span_told : CalOk P w K mg base 2 "is_span_told" 2 F_is_span_told := by
  obtain ⟨fd, F⟩ := c.t.d.def_ 35 (d := dd_is_span_told) rfl
  exact def_ok (lvl := 1) F sc_is_span_told (fa_of (c := c_is_span_told) (fC ((ok_is_whole X G c).mono (by decide)) fN) (fC (cs_UNITS X G c) (fC (cs_MOST_MANY X G c) fN)) (fC (He.free_ok X G (c.t.d.fact 45 (f := .free "isinstance") rfl)) (fC (He.free_ok X G (c.t.d.fact 33 (f := .free "str") rfl)) fN)) sc_is_span_told.nd fN fN) t_is_span_told (He.glo_ok X G (c.t.d.fact 61 (f := .glo "is_span_told") rfl)) rfl (fun _ _ _ _ _ _ us hl => match us, hl with | [_, _], _ => rfl)
omit X G c in
theorem sc_is_rule : FnScope N_is_rule ["thing"] (defScope (top 32)) := ⟨rfl, rfl, rfl, by decide +kernel, rfl, by decide +kernel, by decide +kernel⟩
theorem ok_is_rule : CalOk P w K mg base 3 "is_rule" 1 F_is_rule := by
  obtain ⟨fd, F⟩ := c.t.d.def_ 36 (d := dd_is_rule) rfl
  exact def_ok (lvl := 2) F sc_is_rule (fa_of (c := c_is_rule) (fC ((ok_is_name X G c).mono (by decide)) (fC ((ok_is_since X G c).mono (by decide)) (fC ((ok_is_span_told X G c).mono (by decide)) fN))) fN (fC (He.free_ok X G (c.t.d.fact 45 (f := .free "isinstance") rfl)) (fC (He.free_ok X G (c.t.d.fact 12 (f := .free "len") rfl)) (fC (He.free_ok X G (c.t.d.fact 33 (f := .free "str") rfl)) (fC (He.free_ok X G (c.t.d.fact 25 (f := .free "tuple") rfl)) fN)))) sc_is_rule.nd fN fN) t_is_rule (He.glo_ok X G (c.t.d.fact 62 (f := .glo "is_rule") rfl)) rfl (fun _ _ _ _ _ _ us hl => match us, hl with | [_], _ => rfl)
omit X G c in
theorem sc_is_aim : FnScope N_is_aim ["thing"] (defScope (top 34)) := ⟨rfl, rfl, rfl, by decide +kernel, rfl, by decide +kernel, by decide +kernel⟩
theorem ok_is_aim : CalOk P w K mg base 2 "is_aim" 1 F_is_aim := by
  obtain ⟨fd, F⟩ := c.t.d.def_ 37 (d := dd_is_aim) rfl
  exact def_ok (lvl := 1) F sc_is_aim (fa_of (c := c_is_aim) (fC ((ok_is_name X G c).mono (by decide)) fN) fN (fC (He.free_ok X G (c.t.d.fact 45 (f := .free "isinstance") rfl)) (fC (He.free_ok X G (c.t.d.fact 12 (f := .free "len") rfl)) (fC (He.free_ok X G (c.t.d.fact 33 (f := .free "str") rfl)) (fC (He.free_ok X G (c.t.d.fact 25 (f := .free "tuple") rfl)) fN)))) sc_is_aim.nd fN fN) t_is_aim (He.glo_ok X G (c.t.d.fact 63 (f := .glo "is_aim") rfl)) rfl (fun _ _ _ _ _ _ us hl => match us, hl with | [_], _ => rfl)
omit X G c in
theorem sc_fits_form : FnScope N_fits_form ["thing", "letter"] (defScope (top 35)) := ⟨rfl, rfl, rfl, by decide +kernel, rfl, by decide +kernel, by decide +kernel⟩
theorem ok_fits_form : CalOk P w K mg base 4 "fits_form" 2 F_fits_form := by
  obtain ⟨fd, F⟩ := c.t.d.def_ 38 (d := dd_fits_form) rfl
  exact def_ok (lvl := 3) F sc_fits_form (fa_of (c := c_fits_form) (fC ((ok_is_name X G c).mono (by decide)) (fC ((ok_are_makers X G c).mono (by decide)) (fC ((ok_is_rule X G c).mono (by decide)) (fC ((ok_is_aim X G c).mono (by decide)) fN)))) fN (fC (He.free_ok X G (c.t.d.fact 44 (f := .free "bool") rfl)) (fC (He.free_ok X G (c.t.d.fact 45 (f := .free "isinstance") rfl)) fN)) sc_fits_form.nd fN fN) t_fits_form (He.glo_ok X G (c.t.d.fact 64 (f := .glo "fits_form") rfl)) rfl (fun _ _ _ _ _ _ us hl => match us, hl with | [_, _], _ => rfl)
omit X G c in
theorem sc_is_deed : FnScope N_is_deed ["thing"] (defScope (top 36)) := ⟨rfl, rfl, rfl, by decide +kernel, rfl, by decide +kernel, by decide +kernel⟩
theorem ok_is_deed : CalOk P w K mg base 5 "is_deed" 1 F_is_deed := by
  obtain ⟨fd, F⟩ := c.t.d.def_ 39 (d := dd_is_deed) rfl
  exact def_ok (lvl := 4) F sc_is_deed (fa_of (c := c_is_deed) (fC ((ok_is_day X G c).mono (by decide)) (fC ((ok_fits_form X G c).mono (by decide)) fN)) fN (fC (He.free_ok X G (c.t.d.fact 43 (f := .free "all") rfl)) (fC (He.free_ok X G (c.t.d.fact 45 (f := .free "isinstance") rfl)) (fC (He.free_ok X G (c.t.d.fact 12 (f := .free "len") rfl)) (fC (He.free_ok X G (c.t.d.fact 33 (f := .free "str") rfl)) (fC (He.free_ok X G (c.t.d.fact 25 (f := .free "tuple") rfl)) (fC (He.free_ok X G (c.t.d.fact 46 (f := .free "zip") rfl)) fN)))))) sc_is_deed.nd fN (fC (kd_FORMS X G c) fN)) t_is_deed (He.glo_ok X G (c.t.d.fact 65 (f := .glo "is_deed") rfl)) rfl (fun _ _ _ _ _ _ us hl => match us, hl with | [_], _ => rfl)
omit X G c in
theorem sc_read_deed : FnScope N_read_deed ["text"] (defScope (top 45)) := ⟨rfl, rfl, rfl, by decide +kernel, rfl, by decide +kernel, by decide +kernel⟩
theorem ok_read_deed : CalOk P w K mg base 7 "read_deed" 1 F_read_deed := by
  obtain ⟨fd, F⟩ := c.t.d.def_ 40 (d := dd_read_deed) rfl
  exact def_ok (lvl := 6) F sc_read_deed (fa_of (c := c_read_deed) (fC ((ok_told_by X G c).mono (by decide)) (fC ((ok_is_deed X G c).mono (by decide)) (fC ((ok_show_deed X G c).mono (by decide)) fN))) fN (fC (He.free_ok X G (c.t.d.fact 45 (f := .free "isinstance") rfl)) (fC (He.free_ok X G (c.t.d.fact 33 (f := .free "str") rfl)) fN)) sc_read_deed.nd fN fN) t_read_deed (He.glo_ok X G (c.t.d.fact 66 (f := .glo "read_deed") rfl)) rfl (fun _ _ _ _ _ _ us hl => match us, hl with | [_], _ => rfl)
omit X G c in
theorem sc_law : FnScope N_law ["_law_script"] (defScope (top 59)) := ⟨rfl, rfl, rfl, by decide +kernel, rfl, by decide +kernel, by decide +kernel⟩
theorem law_fn : ∃ fd : FuncData, (∀ (s : Shared) (u : Value), BindsTo s fd ⟨[u], []⟩ [("_law_script", u)]) ∧ ∀ base : Heap, FnOk P w K mg base (L2.CX P w) 8 (He.ga K "law") fd ["_law_script"] (spF K mg 1 F_law) := by
  obtain ⟨fd, F⟩ := c.t.d.def_ 41 (d := dd_law) rfl
  have b := FunD.bindsA (ps := ["_law_script"]) F (fun _ _ _ _ _ _ us hl => match us, hl with | [_], _ => rfl)
  exact ⟨fd, fun s u => b s [u] rfl, fun base => fn_tr F sc_law (fa_of (c := c_law) (fC ((ok_w_pack X G c).mono (by decide)) (fC ((ok_w_names X G c).mono (by decide)) (fC ((ok_w_drawn X G c).mono (by decide)) (fC ((ok_show_deed X G c).mono (by decide)) (fC ((ok_w_written X G c).mono (by decide)) (fC ((ok_w_same X G c).mono (by decide)) (fC ((ok_read_deed X G c).mono (by decide)) fN))))))) fN (fC (He.free_ok X G (c.t.d.fact 45 (f := .free "isinstance") rfl)) (fC (He.free_ok X G (c.t.d.fact 12 (f := .free "len") rfl)) (fC (He.free_ok X G (c.t.d.fact 67 (f := .free "max") rfl)) (fC (He.free_ok X G (c.t.d.fact 20 (f := .free "min") rfl)) (fC (He.free_ok X G (c.t.d.fact 16 (f := .free "range") rfl)) (fC (He.free_ok X G (c.t.d.fact 33 (f := .free "str") rfl)) fN)))))) sc_law.nd fN fN) t_law⟩
end
def names_0 : List PySem.Str := ["ArchiveError", "NoText", "LENGTHS", "FIRST_YEAR", "LAST_YEAR", "LAST_DAY", "FIGURES", "is_whole", "is_day", "is_long", "length_of", "long_years", "days_ahead", "is_date", "day_at", "date_of", "two_figures", "show_day", "is_written", "read_day", "LETTERS", "UNITS", "MOST_LETTERS", "MOST_MANY", "MOST_MAKERS", "FORMS", "is_name", "is_since", "is_span_told", "is_rule"]
def names_1 : List PySem.Str := ["are_makers", "is_aim", "fits_form", "is_deed", "show_since", "show_rule", "show_deed", "day_in", "many_in", "parts_in", "told_by", "read_deed", "_law_mixed", "_law_pack", "_law_take", "_law_names", "_law_rule", "_law_length", "_law_ahead", "_law_day_text", "_law_any_day", "_law_drawn", "_law_written", "_law_same"]
def names : List PySem.Str := names_0 ++ names_1
abbrev RR : PySem.W.OpenRow := PySem.W.OpenLaw.row PySem.Challenge.rw_goneday_k58_deeds_as_texts
abbrev hkk : PySem.W.Hook := He.hookX 4 fa_ fn_ ts_ [] ex_
def ob (s : PySem.W.SharedT) : He.AlX := He.obsX 4 fa_ fn_ ts_ [] ex_ (HandSHeadRun.getT s)
theorem ob_eq (s : PySem.W.SharedT) : ob s = hkk.obs s.abs := He.obsX_eq (HandSHeadRun.getT_eq s)
theorem run (w : World) : HandSHeadRun.RunEq RR (PySem.W.view RR.prog [59]) hkk ob 6000 names w := by
  refine PySem.W.byRow2 "special-get-raises" (P := fun w => HandSHeadRun.RunEq RR (PySem.W.view RR.prog [59]) hkk ob 6000 names w) (fun w => ?_) (fun w => ?_) w
  · intro os; kernel_rfl
  · intro os; kernel_rfl
theorem law_in : He.Fa.glo "law" ∈ fa_ := List.mem_of_getElem? (i := 68) rfl
end L2.GS.KK

namespace L2.GS
open PySem PySem.Spec PyProof.Rows

/-! ### meanings, step by step -/
def RS.nxt (r : RS) (q : Est) : RS := match r with
  | .nx env s => q env s
  | r => r
def RS.fin (r : RS) : R D := match r with
  | .rt d s => .ok d s
  | .nx _ s => .ok .non s
  | .exc c fs _ s => .exc c fs s
  | _ => .bad
section
variable {env : En} {s : S} {q : Est} {d : D} {c : Str} {fs : List (Str × D)}
@[simp] theorem nxt_nx : (RS.nx env s).nxt q = q env s := rfl
@[simp] theorem nxt_rt : (RS.rt d s).nxt q = .rt d s := rfl
@[simp] theorem nxt_bk : (RS.bk env s).nxt q = .bk env s := rfl
@[simp] theorem nxt_ct : (RS.ct env s).nxt q = .ct env s := rfl
@[simp] theorem nxt_exc : (RS.exc c fs env s).nxt q = .exc c fs env s := rfl
@[simp] theorem nxt_bad : RS.bad.nxt q = .bad := rfl
@[simp] theorem fin_nx : (RS.nx env s).fin = .ok .non s := rfl
@[simp] theorem fin_rt : (RS.rt d s).fin = .ok d s := rfl
@[simp] theorem fin_exc : (RS.exc c fs env s).fin = .exc c fs s := rfl
@[simp] theorem fin_bad : RS.bad.fin = .bad := rfl
theorem runB_eq {n : Nat} {b : Est} {ds : List D} : runB n b ds s = (b (startE n ds) s).fin := rfl
end
section
variable {env : En} {s : S} {a b d : Ev} {o o' : O2} {i : Nat} {x y : D}
@[simp] theorem e_var : cVar i env s = (match env[i]? with
  | some (some d) => .ok d s
  | _ => .bad) := rfl
@[simp] theorem e_cst : cCst x env s = .ok x s := rfl
@[simp] theorem e_op : cOp o a b env s = (a env s).bind fun x s => (b env s).bind fun y s => o x y s := rfl
@[simp] theorem e_un {u : D → S → R D} : cUn u a env s = (a env s).bind fun x s => u x s := rfl
@[simp] theorem e_nil : cNil env s = .ok [] s := rfl
@[simp] theorem e_cons {r : Ea} : cCons a r env s = (a env s).bind fun x s => (r env s).bind fun xs s => .ok (x :: xs) s := rfl
@[simp] theorem e_arg {u : List D → S → R D} {r : Ea} : cArg u r env s = (r env s).bind fun xs s => u xs s := rfl
@[simp] theorem e_call {n : Nat} {F : Fn} {r : Ea} : cCall n F r env s = (r env s).bind fun xs s => if xs.length = n then F xs s else .bad := rfl
@[simp] theorem e_meth {ty : D → S → Bool} {u : D → List D → S → R D} {r : Ea} : cMeth ty u a r env s = (a env s).bind fun x s => if ty x s then (r env s).bind fun xs s => u x xs s else .bad := rfl
@[simp] theorem e_tup {r : Ea} : cTup r env s = (r env s).bind fun xs s => if xs.length ≤ sizeLine then .ok (.tup xs) s else .bad := rfl
@[simp] theorem e_lst {r : Ea} : cLst r env s = (r env s).bind fun xs s => if xs.length ≤ sizeLine then .ok (.lst xs) s else .bad := rfl
@[simp] theorem e_lstO {r : Ea} : cLstO r env s = (r env s).bind fun xs s => if xs.length ≤ sizeLine then .ok (.ref s.length) (s ++ [.lst xs]) else .bad := rfl
@[simp] theorem e_ifE {t : Et} : cIfE t a b env s = (t env s).bind fun c s => if c = true then a env s else b env s := rfl
@[simp] theorem e_andV : cAndV a b env s = (a env s).bind fun x s => (match x with
  | .bl true => b env s
  | .bl false => .ok (.bl false) s
  | _ => .bad) := rfl
@[simp] theorem e_orV : cOrV a b env s = (a env s).bind fun x s => (match x with
  | .bl false => b env s
  | .bl true => .ok (.bl true) s
  | _ => .bad) := rfl
@[simp] theorem e_notV : cNotV a env s = (a env s).bind fun x s => (match x with
  | .bl b => .ok (.bl (!b)) s
  | _ => .bad) := rfl
@[simp] theorem e_B : cB a env s = (a env s).bind fun x s => (match x with
  | .bl b => .ok b s
  | _ => .bad) := rfl
@[simp] theorem e_and {t u : Et} : cAnd t u env s = (t env s).bind fun x s => if x = true then u env s else .ok false s := rfl
@[simp] theorem e_or {t u : Et} : cOr t u env s = (t env s).bind fun x s => if x = true then .ok true s else u env s := rfl
@[simp] theorem e_not {t : Et} : cNot t env s = (t env s).bind fun x s => .ok (!x) s := rfl
@[simp] theorem e_chain : cChain o o' a b d env s = (a env s).bind fun x s => (b env s).bind fun y s => (o x y s).bind fun z s => (match z with
  | .bl true => (d env s).bind fun w s => o' y w s
  | .bl false => .ok (.bl false) s
  | _ => .bad) := rfl
@[simp] theorem e_pno : cPno env s = .ok none s := rfl
@[simp] theorem e_part : cPart a env s = (a env s).bind fun x s => (match x with
  | .int i => .ok (some i) s
  | _ => .bad) := rfl
@[simp] theorem e_sl {l h : Eo} : cSl a l h env s = (a env s).bind fun x s => (l env s).bind fun lo s => (h env s).bind fun hi s => slO x lo hi s := rfl
@[simp] theorem e_bE : bE env s = .bad := rfl
@[simp] theorem e_bT : bT env s = .bad := rfl
@[simp] theorem e_bS : bS env s = .bad := rfl
@[simp] theorem e_skip : cSkip env s = .nx env s := rfl
@[simp] theorem e_seq {p q : Est} : cSeq p q env s = (p env s).nxt q := rfl
@[simp] theorem e_set : cSet i a env s = (a env s).toS env fun x s => .nx (env.set i (some x)) s := rfl
@[simp] theorem e_ret : cRet a env s = (a env s).toS env fun x s => .rt x s := rfl
@[simp] theorem e_retN : cRetN env s = .rt .non s := rfl
@[simp] theorem e_expr : cExpr a env s = (a env s).toS env fun _ s => .nx env s := rfl
@[simp] theorem e_if {t : Et} {p q : Est} : cIf t p q env s = (t env s).toS env fun c s => if c = true then p env s else q env s := rfl
@[simp] theorem e_pre {is : List Nat} {p : Est} : cPre is p env s = p (forget is env) s := rfl
@[simp] theorem e_dropS {is : List Nat} {p : Est} : cDrop is p env s = (match p env s with
  | .nx env s => .nx (forget is env) s
  | .ct env s => .ct (forget is env) s
  | r => r) := rfl
@[simp] theorem e_par {is : List Nat} {r : Ea} : cPar is r env s = (r env s).toS env fun xs s => (match setAll is xs env with
  | some env => .nx env s
  | none => .bad) := rfl
@[simp] theorem e_asg {t : Etg} : cAsg t a env s = (a env s).toS env fun x s => (match t x env s with
  | .nx env s => .nx env s
  | _ => .bad) := rfl
@[simp] theorem e_gName : gtName i x env s = .nx (env.set i (some x)) s := rfl
@[simp] theorem forget_nil : forget [] env = env := rfl
@[simp] theorem forget_cons {is : List Nat} : forget (i :: is) env = forget is (env.set i none) := rfl
/-! operators at ints, texts, tuples -/
@[simp] theorem add_int {i j : Int} : addO (.int i) (.int j) s = .ok (.int (i + j)) s := rfl
@[simp] theorem sub_int {i j : Int} : subO (.int i) (.int j) s = .ok (.int (i - j)) s := rfl
@[simp] theorem fdiv_int {i j : Int} : fdivO (.int i) (.int j) s = if 0 < j ∧ j < 1073741824 then .ok (.int (i / j)) s else .bad := rfl
@[simp] theorem mod_int {i j : Int} : modO (.int i) (.int j) s = if 0 < j then .ok (.int (i % j)) s else .bad := rfl
@[simp] theorem mul_int {i j : Int} : mulO (.int i) (.int j) s = if bitsOk i j then .ok (.int (i * j)) s else .bad := rfl
@[simp] theorem lt_int {i j : Int} : ltO (.int i) (.int j) s = .ok (.bl (decide (i < j))) s := rfl
@[simp] theorem le_int {i j : Int} : leO (.int i) (.int j) s = .ok (.bl (decide (i ≤ j))) s := rfl
@[simp] theorem gt_int {i j : Int} : gtO (.int i) (.int j) s = .ok (.bl (decide (j < i))) s := rfl
@[simp] theorem ge_int {i j : Int} : geO (.int i) (.int j) s = .ok (.bl (decide (j ≤ i))) s := rfl
theorem eq_any {n : Bool} {x y : D} {p q : PyData} (hx : toP (vw s x) = some p) (hy : toP (vw s y) = some q) (h : (SeqAt.shaped p && SeqAt.shaped q) = true) : eqO n x y s = .ok (.bl (if n then !PyData.eqv p q else PyData.eqv p q)) s := by
  unfold eqO
  rw [hx, hy]
  simp only [h, if_true]
@[simp] theorem eq_int {n : Bool} {i j : Int} : eqO n (.int i) (.int j) s = .ok (.bl (if n then !decide (i = j) else decide (i = j))) s := by
  rw [eq_any (p := .int i) (q := .int j) rfl rfl rfl]
  have : PyData.eqv (.int i) (.int j) = decide (i = j) := by
    simp only [PyData.eqv]
    by_cases h : i = j <;> simp [h]
  rw [this]
@[simp] theorem eq_str0 {n : Bool} {i j : Str} (hi : PyData.strOk i = true) (hj : PyData.strOk j = true) : eqO n (.str i) (.str j) s = .ok (.bl (if n then !decide (i = j) else decide (i = j))) s := by
  rw [eq_any (p := .str i) (q := .str j) rfl rfl (by simp [SeqAt.shaped, PyData.canLay0, PyData.depth, hi, hj])]
  have : PyData.eqv (.str i) (.str j) = decide (i = j) := by
    simp only [PyData.eqv]
    by_cases h : i = j <;> simp [h]
  rw [this]
end

section
variable {s : S} {xs : List D} {i : Int}
@[simp] theorem ix_lst : ixO (.lst xs) (.int i) s = (match atI xs i with
  | some d => .ok d s
  | none => .bad) := rfl
@[simp] theorem ix_fls : ixO (.fls xs) (.int i) s = (match atI xs i with
  | some d => .ok d s
  | none => .bad) := rfl
@[simp] theorem ix_tup : ixO (.tup xs) (.int i) s = (match atI xs i with
  | some d => .ok d s
  | none => .bad) := rfl
theorem ix_ref {n : Nat} (h : s[n]? = some (.lst xs)) : ixO (.ref n) (.int i) s = (match atI xs i with
  | some d => .ok d s
  | none => .bad) := by
  have : rdLs s (.ref n) = some xs := by
    show (match s[n]? with
      | some (.lst xs) => some xs
      | _ => none) = _
    rw [h]
  unfold ixO
  first | (simp only [this]; done) | (simp only [this]; cases atI xs i <;> rfl)
@[simp] theorem len_lst : lenO [.lst xs] s = .ok (.int xs.length) s := rfl
@[simp] theorem len_fls : lenO [.fls xs] s = .ok (.int xs.length) s := rfl
@[simp] theorem len_tup : lenO [.tup xs] s = .ok (.int xs.length) s := rfl
theorem at_nil {α : Type} {i : Int} : atI ([] : List α) i = none := by
  unfold atI ixN
  split
  · split
    · rename_i h1 h2; simp at h2; omega
    · rfl
  · split
    · simp
    · rfl
@[simp] theorem at_zero {α : Type} {a : α} {l : List α} : atI (a :: l) 0 = some a := by simp [atI, ixN]
@[simp] theorem at_one {α : Type} {a b : α} {l : List α} : atI (a :: b :: l) 1 = some b := by
  have : (1 : Int) < ((l.length : Int) + 1 + 1) := by omega
  simp [atI, ixN, this]
@[simp] theorem at_two {α : Type} {a b c : α} {l : List α} : atI (a :: b :: c :: l) 2 = some c := by
  have : (2 : Int) < ((l.length : Int) + 1 + 1 + 1) := by omega
  simp [atI, ixN, this]
@[simp] theorem at_three {α : Type} {a b c d : α} {l : List α} : atI (a :: b :: c :: d :: l) 3 = some d := by
  have : (3 : Int) < ((l.length : Int) + 1 + 1 + 1 + 1) := by omega
  simp [atI, ixN, this]
@[simp] theorem at_four {α : Type} {a b c d e : α} {l : List α} : atI (a :: b :: c :: d :: e :: l) 4 = some e := by
  have : (4 : Int) < ((l.length : Int) + 1 + 1 + 1 + 1 + 1) := by omega
  simp [atI, ixN, this]
@[simp] theorem e_try {mt : List (Str × Bool)} {b q : Est} {env : En} {s : S} : cTry mt b q env s = (match b env s with
  | .exc c fs env' s' => (match mt.lookup c with
    | some true => (match q env' s' with
      | .exc .. => .bad
      | r => r)
    | some false => .exc c fs env' s'
    | none => .bad)
  | r => r) := rfl
end
/-! ### texts that are written -/
theorem strOk_lit0 (x : String) : PyData.strOk (Str.ofString x) = true := by
  rw [Str.ofString_eq_toList]
  unfold PyData.strOk
  rw [Array.all_eq_true]
  intro i hi
  simp at hi ⊢
  have := (x.toList[i]).valid
  unfold Char.toNat
  rcases this with h | h
  · have : (x.toList[i]).val.toNat < 0xd800 := h
    omega
  · have : (x.toList[i]).val.toNat < 0x110000 := h.2
    omega
@[simp] theorem strOk_lit (x : String) : PyData.strOk (Str.ofString x) = true := strOk_lit0 x
@[simp] theorem ofString_inj {a b : String} : (Str.ofString a = Str.ofString b) ↔ a = b := by
  refine ⟨fun h => ?_, fun h => by rw [h]⟩
  rw [Str.ofString_eq_toList, Str.ofString_eq_toList] at h
  have h1 : (a.toList.map Char.toNat).toArray = (b.toList.map Char.toNat).toArray := congrArg Str.cps h
  have h2 : a.toList.map Char.toNat = b.toList.map Char.toNat := by simpa using congrArg Array.toList h1
  have h3 : a.toList = b.toList := by
    have inj : ∀ l m : List Char, l.map Char.toNat = m.map Char.toNat → l = m := by
      intro l
      induction l with
      | nil => intro m h; cases m with
        | nil => rfl
        | cons _ _ => cases h
      | cons c r ih => intro m h; cases m with
        | nil => cases h
        | cons d q =>
          simp only [List.map_cons, List.cons.injEq] at h
          have hc : c = d := Char.ext (UInt32.toNat_inj.mp h.1)
          rw [hc, ih q h.2]
    exact inj _ _ h2
  exact String.ext h3
@[simp] theorem eq_lit {n : Bool} {a b : String} {s : S} : eqO n (.str (Str.ofString a)) (.str (Str.ofString b)) s = .ok (.bl (if n then !decide (a = b) else decide (a = b))) s := by
  rw [eq_str0 (strOk_lit a) (strOk_lit b)]
  simp
@[simp] theorem beq_lit {a b : String} : ((Str.ofString a) == (Str.ofString b)) = decide (a = b) := by
  by_cases h : a = b
  · subst h; simp
  · simp [h]
/-! ### loops -/
theorem while_inv {c : Et} {b : Est} (I : En → S → Prop) (mu : En → Nat) (Post : En → S → Prop)
    (step : ∀ env s, I env s → (∃ s', c env s = .ok false s' ∧ Post env s') ∨ ∃ s', c env s = .ok true s' ∧ ∃ env2 s2, b env s' = .nx env2 s2 ∧ I env2 s2 ∧ mu env2 < mu env) :
    ∀ (n : Nat) (env : En) (s : S), I env s → mu env ≤ n → ∃ env' s', cWhile c b env s = .nx env' s' ∧ Post env' s' := by
  have key : ∀ (n : Nat) (env : En) (s : S), I env s → mu env ≤ n → ∃ env' s', whileN c b (n + 1) env s = .nx env' s' ∧ Post env' s' := by
    intro n
    induction n with
    | zero =>
      intro env s hI hm
      rcases step env s hI with ⟨s', e, p⟩ | ⟨s', e, env2, s2, e2, h2, lt⟩
      · refine ⟨env, s', ?_, p⟩
        simp [whileN, e]
      · omega
    | succ n ih =>
      intro env s hI hm
      rcases step env s hI with ⟨s', e, p⟩ | ⟨s', e, env2, s2, e2, h2, lt⟩
      · refine ⟨env, s', ?_, p⟩
        simp [whileN, e]
      · obtain ⟨env', s3, e3, p3⟩ := ih env2 s2 h2 (by omega)
        refine ⟨env', s3, ?_, p3⟩
        show whileN c b (n + 1 + 1) env s = _
        unfold whileN
        simp [e, e2, aft]
        exact e3
  intro n env s hI hm
  obtain ⟨env', s', e, p⟩ := key n env s hI hm
  exact ⟨env', s', cWhile_eq e (by simp), p⟩
end L2.GS

namespace L2.GS.KK
open PySem PySem.Spec PyProof.Rows
/-! ### days -/
def isLong (y : Int) : Bool := decide (y % 400 = 0) || (decide (y % 4 = 0) && !decide (y % 100 = 0))
def ahead (y : Int) : Int := 365 * (y - 2000) + ((y - 1) / 4 - (y - 1) / 100 + (y - 1) / 400) - 484
def len (y m : Int) : Int := if m = 2 then (if isLong y then 29 else 28) else if m = 4 ∨ m = 6 ∨ m = 9 ∨ m = 11 then 30 else 31
/-- the days of the year ahead of a month -/
def cum (y m : Int) : Int := (if m = 1 then 0 else if m = 2 then 31 else if m = 3 then 59 else if m = 4 then 90 else if m = 5 then 120 else if m = 6 then 151 else if m = 7 then 181 else if m = 8 then 212 else if m = 9 then 243 else if m = 10 then 273 else if m = 11 then 304 else if m = 12 then 334 else 365) + (if 2 < m ∧ isLong y = true then 1 else 0)
theorem months {m : Int} (h1 : 1 ≤ m) (h2 : m ≤ 12) : m = 1 ∨ m = 2 ∨ m = 3 ∨ m = 4 ∨ m = 5 ∨ m = 6 ∨ m = 7 ∨ m = 8 ∨ m = 9 ∨ m = 10 ∨ m = 11 ∨ m = 12 := by omega
theorem cum_next {y m : Int} (h1 : 1 ≤ m) (h2 : m ≤ 12) : cum y (m + 1) = cum y m + len y m := by
  rcases months h1 h2 with rfl | rfl | rfl | rfl | rfl | rfl | rfl | rfl | rfl | rfl | rfl | rfl <;> (unfold cum len; cases isLong y <;> decide)
theorem ahead_next (y : Int) : ahead (y + 1) = ahead y + cum y 13 := by
  have : cum y 13 = 365 + (if isLong y = true then 1 else 0) := by unfold cum; simp
  rw [this]
  unfold ahead isLong
  by_cases h1 : y % 400 = 0 <;> by_cases h2 : y % 4 = 0 <;> by_cases h3 : y % 100 = 0 <;> simp [h1, h2, h3] <;> omega
theorem s_is_long (y : Int) (s : S) : F_is_long [.int y] s = .ok (.bl (isLong y)) s := by
  unfold F_is_long b_is_long isLong
  simp [runB_eq, startE]
  by_cases h1 : y % 400 = 0 <;> by_cases h2 : y % 4 = 0 <;> by_cases h3 : y % 100 = 0 <;> simp [h1, h2, h3]
theorem s_length_of (y m : Int) (s : S) (h1 : 1 ≤ m) (h2 : m ≤ 12) : F_length_of [.int y, .int m] s = .ok (.int (len y m)) s := by
  unfold F_length_of b_length_of
  rcases months h1 h2 with rfl | rfl | rfl | rfl | rfl | rfl | rfl | rfl | rfl | rfl | rfl | rfl <;> (simp [runB_eq, startE, ixO, d_LENGTHS, atI, ixN, intO, s_is_long, len] <;> (try (cases isLong y <;> simp)))
theorem s_long_years (y : Int) (s : S) : F_long_years [.int y] s = .ok (.int (y / 4 - y / 100 + y / 400)) s := by
  unfold F_long_years b_long_years
  simp [runB_eq, startE]
theorem bits_small {i j : Int} (hi : i.natAbs < 2 ^ 64) (hj : j.natAbs < 2 ^ 64) : bitsOk i j = true := by
  unfold bitsOk Builtin.Int.intBits
  have h1 : (if (i == 0) = true then 0 else i.natAbs.log2 + 1) ≤ 64 := by
    split
    · omega
    · rename_i h
      have : i.natAbs ≠ 0 := by simpa using h
      have := (Nat.log2_lt this).mpr hi
      omega
  have h2 : (if (j == 0) = true then 0 else j.natAbs.log2 + 1) ≤ 64 := by
    split
    · omega
    · rename_i h
      have : j.natAbs ≠ 0 := by simpa using h
      have := (Nat.log2_lt this).mpr hj
      omega
  rw [decide_eq_true_eq]
  omega
theorem s_days_ahead (y : Int) (s : S) (h1 : 0 ≤ y) (h2 : y ≤ 100000) : F_days_ahead [.int y] s = .ok (.int (ahead y)) s := by
  unfold F_days_ahead b_days_ahead
  have hb : bitsOk 365 (y - 2000) = true := bits_small (by decide) (by omega)
  simp [runB_eq, startE, d_FIRST_YEAR, s_long_years, hb]
  unfold ahead
  omega

theorem ahead_lo (y : Int) (h : 2000 ≤ y) : 365 * (y - 2000) ≤ ahead y := by
  unfold ahead
  omega
theorem ahead_mono {y z : Int} (h : y ≤ z) : ahead y ≤ ahead z := by
  unfold ahead
  omega
theorem cum_ge {y m : Int} (h1 : 1 ≤ m) (h2 : m ≤ 12) : 0 ≤ cum y m := by
  rcases months h1 h2 with rfl | rfl | rfl | rfl | rfl | rfl | rfl | rfl | rfl | rfl | rfl | rfl <;> (unfold cum; cases isLong y <;> decide)
theorem cum_mono {y m k : Int} (h1 : 1 ≤ m) (h2 : m ≤ k) (h3 : k ≤ 12) : cum y m ≤ cum y k := by
  have hk : 1 ≤ k := by omega
  rcases months hk h3 with rfl | rfl | rfl | rfl | rfl | rfl | rfl | rfl | rfl | rfl | rfl | rfl <;> rcases months h1 (by omega) with rfl | rfl | rfl | rfl | rfl | rfl | rfl | rfl | rfl | rfl | rfl | rfl <;> first | (exfalso; omega) | (unfold cum; cases isLong y <;> decide)
theorem len_pos {y m : Int} : 28 ≤ len y m ∧ len y m ≤ 31 := by
  unfold len
  split
  · split <;> omega
  · split <;> omega
theorem cum13 {y m : Int} (h1 : 1 ≤ m) (h2 : m ≤ 12) : cum y (m + 1) ≤ cum y 13 := by
  rcases months h1 h2 with rfl | rfl | rfl | rfl | rfl | rfl | rfl | rfl | rfl | rfl | rfl | rfl <;> (unfold cum; cases isLong y <;> decide)
structure Date (d y m n : Int) : Prop where
  y1 : 2000 ≤ y
  m1 : 1 ≤ m
  m2 : m ≤ 12
  n1 : 1 ≤ n
  n2 : n ≤ len y m
  eq : ahead y + cum y m + n - 1 = d
theorem Date.y2 {d y m n : Int} (h : Date d y m n) (hd : d ≤ 99999) : y ≤ 2273 := by
  have h1 := ahead_lo y h.y1
  have h2 := cum_ge (y := y) h.m1 h.m2
  have := h.eq
  have := h.n1
  omega
theorem Date.lt {d y m n : Int} (h : Date d y m n) : d < ahead (y + 1) ∧ ahead y ≤ d ∧ d < ahead y + cum y (m + 1) ∧ ahead y + cum y m ≤ d := by
  have h1 := cum_next (y := y) h.m1 h.m2
  have h2 := cum13 (y := y) h.m1 h.m2
  have h3 := ahead_next y
  have h4 := cum_ge (y := y) h.m1 h.m2
  have := h.eq
  have := h.n1
  have := h.n2
  omega
theorem Date.unique {d y m n y' m' n' : Int} (h : Date d y m n) (h' : Date d y' m' n') : y = y' ∧ m = m' ∧ n = n' := by
  have a := h.lt
  have b := h'.lt
  have hy : y = y' := by
    rcases Int.lt_trichotomy y y' with q | q | q
    · have := ahead_mono (y := y + 1) (z := y') (by omega); omega
    · exact q
    · have := ahead_mono (y := y' + 1) (z := y) (by omega); omega
  subst hy
  have hm : m = m' := by
    rcases Int.lt_trichotomy m m' with q | q | q
    · have := cum_mono (y := y) (m := m + 1) (k := m') (by have := h.m1; omega) (by omega) h'.m2; omega
    · exact q
    · have := cum_mono (y := y) (m := m' + 1) (k := m) (by have := h'.m1; omega) (by omega) h.m2; omega
  subst hm
  have := h.eq
  have := h'.eq
  exact ⟨rfl, rfl, by omega⟩
theorem s_date_of (d : Int) (s : S) (h0 : 0 ≤ d) (h1 : d ≤ 99999) : ∃ y m n, F_date_of [.int d] s = .ok (.tup [.int y, .int m, .int n]) s ∧ Date d y m n := by
  have hy0 : ahead (2000 + d / 366) ≤ d := by unfold ahead; omega
  obtain ⟨e1, s1, w1, y, rfl, rfl, q1, q2, q3⟩ := while_inv
    (c := cB (cOp leO (cCall 1 F_days_ahead (cCons (cOp addO (cVar 1) (cCst (.int 1))) cNil)) (cVar 0))) (b := cDrop [] (cSet 1 (cOp addO (cVar 1) (cCst (.int 1)))))
    (fun env t => ∃ y : Int, env = [some (.int d), some (.int y), none, none] ∧ t = s ∧ 2000 ≤ y ∧ ahead y ≤ d)
    (fun env => match env with
      | [_, some (.int y), _, _] => (3000 - y).toNat
      | _ => 0)
    (fun env t => ∃ y : Int, env = [some (.int d), some (.int y), none, none] ∧ t = s ∧ 2000 ≤ y ∧ ahead y ≤ d ∧ d < ahead (y + 1))
    (by
      rintro env t ⟨y, rfl, rfl, a, b⟩
      have hyy := ahead_lo y a
      by_cases hc : ahead (y + 1) ≤ d
      · refine .inr ⟨t, by simp [s_days_ahead (y + 1) t (by omega) (by omega), hc], _, t, by simp, ⟨y + 1, rfl, rfl, by omega, hc⟩, ?_⟩
        show (3000 - (y + 1)).toNat < (3000 - y).toNat
        omega
      · exact .inl ⟨t, by simp [s_days_ahead (y + 1) t (by omega) (by omega), hc], y, rfl, rfl, a, b, by omega⟩)
    _ [some (.int d), some (.int (2000 + d / 366)), none, none] s ⟨_, rfl, rfl, by omega, hy0⟩ (Nat.le_refl _)
  have hyy := ahead_lo y q1
  have hn := ahead_next y
  obtain ⟨e2, s2, w2, m, l, rfl, rfl, r1, r2, r3, r4, r5⟩ := while_inv
    (c := cB (cOp geO (cVar 2) (cCall 2 F_length_of (cCons (cVar 1) (cCons (cVar 3) cNil))))) (b := cDrop [] (cSeq (cSet 2 (cOp subO (cVar 2) (cCall 2 F_length_of (cCons (cVar 1) (cCons (cVar 3) cNil))))) (cSet 3 (cOp addO (cVar 3) (cCst (.int 1))))))
    (fun env t => ∃ m l : Int, env = [some (.int d), some (.int y), some (.int l), some (.int m)] ∧ t = s1 ∧ 1 ≤ m ∧ m ≤ 12 ∧ 0 ≤ l ∧ ahead y + cum y m + l = d)
    (fun env => match env with
      | [_, _, _, some (.int m)] => (13 - m).toNat
      | _ => 0)
    (fun env t => ∃ m l : Int, env = [some (.int d), some (.int y), some (.int l), some (.int m)] ∧ t = s1 ∧ 1 ≤ m ∧ m ≤ 12 ∧ 0 ≤ l ∧ l < len y m ∧ ahead y + cum y m + l = d)
    (by
      rintro env t ⟨m, l, rfl, rfl, a, b, c0, c⟩
      have hcn := cum_next (y := y) a b
      by_cases hc : len y m ≤ l
      · have hm : m ≤ 11 := by
          by_cases e : m = 12
          · subst e
            have : cum y 13 = cum y 12 + len y 12 := hcn
            omega
          · omega
        refine .inr ⟨t, by simp [s_length_of y m t a b, hc], _, t, by simp [s_length_of y m t a b], ⟨m + 1, l - len y m, rfl, rfl, by omega, by omega, by omega, by omega⟩, ?_⟩
        show (13 - (m + 1)).toNat < (13 - m).toNat
        omega
      · exact .inl ⟨t, by simp [s_length_of y m t a b, hc], m, l, rfl, rfl, a, b, c0, by omega, c⟩)
    _ [some (.int d), some (.int y), some (.int (d - ahead y)), some (.int 1)] s1 ⟨1, _, rfl, rfl, by omega, by omega, by omega, by simp [cum]; omega⟩ (Nat.le_refl _)
  refine ⟨y, m, l + 1, ?_, ⟨q1, r1, r2, by omega, by omega, by omega⟩⟩
  unfold F_date_of b_date_of
  simp [runB_eq, startE, d_FIRST_YEAR]
  rw [w1]
  have hda := fun s => s_days_ahead y s (by omega) (by omega)
  simp [hda]
  rw [w2]
  simp [sizeLine]
end L2.GS.KK

namespace L2.GS
open PySem PySem.Spec PyProof.Rows
/-! ### comprehensions -/
theorem compF_map {still : S → Prop} {t : Tgt} {c : Et} {e : Ev} {env0 : En} {f : D → D} {s : S} (hs : still s) : ∀ (xs acc : List D), (∀ x ∈ xs, ∃ env, t.sem x env0 = some env ∧ c env s = .ok true s ∧ e env s = .ok (f x) s) → acc.length + xs.length ≤ sizeLine →
    compF still t c e env0 xs acc s = .ok (acc ++ xs.map f) s
  | [], acc, _, _ => by simp [compF, hs]
  | x :: r, acc, h, hl => by
    obtain ⟨env, e1, e2, e3⟩ := h x (List.mem_cons_self ..)
    have ih := compF_map (f := f) hs r (acc ++ [f x]) (fun y hy => h y (List.mem_cons_of_mem _ hy)) (by simp at hl ⊢; omega)
    simp only [List.length_cons] at hl
    unfold compF
    rw [if_pos ⟨hs, by omega⟩]
    simp only [e1, e2, e3]
    rw [ih]
    simp
theorem bls_of_map {α : Type} (p : α → Bool) : ∀ l : List α, bls? (l.map fun x => D.bl (p x)) = some (l.map p)
  | [] => rfl
  | a :: r => by simp [bls?, bls_of_map p r]
theorem wipe1 {env : En} {i : Nat} : wipeE env [i] = env.set i none := rfl
theorem comp_signs {T : D} {i : Nat} {env : En} {s : S} {a : Ev} {x : Str} (p : Nat → Bool) (hx : a env s = .ok (.str x) s) (hT : ∀ c ∈ x.cps.toList, inO false (.str ⟨#[c]⟩) T s = .ok (.bl (p c)) s) (hi : i < env.length) (hl : x.length ≤ sizeLine) :
    cComp (ciAny a) (.nm i) cYes (cOp (inO false) (cVar i) (cCst T)) env s = .ok (.lst (x.cps.toList.map fun c => .bl (p c))) s := by
  have hc : cComp (ciAny a) (.nm i) cYes (cOp (inO false) (cVar i) (cCst T)) env s = .ok (.lst ((signs x).map fun d => match d with
    | .str z => .bl (p (z.cps.toList.headD 0))
    | _ => .non)) s := by
    unfold cComp ciAny
    simp only [hx, R.bind, srcD]
    rw [compF_map (f := fun d => match d with
      | .str z => .bl (p (z.cps.toList.headD 0))
      | _ => .non) trivial]
    · simp
    · intro y hy
      unfold signs at hy
      obtain ⟨c, hc, rfl⟩ := List.mem_map.mp hy
      refine ⟨_, rfl, rfl, ?_⟩
      simp [Tgt.own, wipeE, hi, hT c hc]
    · have : (signs x).length = x.length := by simp [signs, Str.length]
      simp only [List.length_nil]
      omega
  rw [hc]
  simp [signs]
@[simp] theorem all_lst {α : Type} {l : List α} {p : α → Bool} {s : S} : allO [.lst (l.map fun x => .bl (p x))] s = .ok (.bl (l.all p)) s := by
  simp only [allO, rdLs, rdL, Option.bind, bls_of_map]
  congr 2
  rw [List.all_map]
  rfl
end L2.GS
namespace L2.GS.KK
open PySem PySem.Spec PyProof.Rows
/-! ### numbers as texts -/
def dig (n : Int) : Str := Str.ofString (toString n)
def two (n : Int) : Str := if n < 10 then ("0" : Str) ++ dig n else dig n
def isDig (c : Nat) : Bool := decide (48 ≤ c) && decide (c ≤ 57)
def okY (k : Nat) : Bool := decide ((dig (2000 + (k : Int))).length = 4) && ((dig (2000 + (k : Int))).cps.toList.all isDig && (decide (PySem.intText? (dig (2000 + (k : Int))) = some (2000 + (k : Int))) && !decide (atI (dig (2000 + (k : Int))).cps.toList 0 = some 48)))
def okT (k : Nat) : Bool := decide ((two (k : Int)).length = 2) && ((two (k : Int)).cps.toList.all isDig && (decide (PySem.intText? (two (k : Int)) = some (k : Int)) && (decide (cutS (dig (100 + (k : Int))) (some 1) none = two (k : Int)) && decide ((dig (100 + (k : Int))).length = 3))))
def okM (k : Nat) : Bool := (decide (1 ≤ (dig (k : Int)).length) && decide ((dig (k : Int)).length ≤ 3)) && ((dig (k : Int)).cps.toList.all isDig && (decide (PySem.intText? (dig (k : Int)) = some (k : Int)) && (!decide (atI (dig (k : Int)).cps.toList 0 = some 48) || decide (dig (k : Int) = "0"))))
theorem okY_all : (List.range 274).all okY = true := by decide +kernel
theorem okT_all : (List.range 32).all okT = true := by decide +kernel
theorem okM_all : (List.range 1000).all okM = true := by decide +kernel
end L2.GS.KK

namespace L2.GS.KK
open PySem PySem.Spec PyProof.Rows
theorem figs {c : Nat} (h : isDig c = true) (s : S) : inO false (.str ⟨#[c]⟩) d_FIGURES s = .ok (.bl true) s := by
  have h' : 48 ≤ c ∧ c ≤ 57 := by simpa [isDig] using h
  have : c = 48 ∨ c = 49 ∨ c = 50 ∨ c = 51 ∨ c = 52 ∨ c = 53 ∨ c = 54 ∨ c = 55 ∨ c = 56 ∨ c = 57 := by omega
  rcases this with rfl | rfl | rfl | rfl | rfl | rfl | rfl | rfl | rfl | rfl <;> kernel_rfl
theorem len_ok {x : Str} {n : Nat} (h : x.length ≤ n) (hn : n ≤ sizeLine := by decide) (s : S) : lenO [.str x] s = .ok (.int x.length) s := by
  show (if x.length ≤ sizeLine then _ else _) = _
  rw [if_pos (Nat.le_trans h hn)]
theorem s_is_written {x : Str} {k : Int} (h1 : 1 ≤ x.length) (h2 : (x.length : Int) ≤ k) (h3 : x.length ≤ 100) (hd : x.cps.toList.all isDig = true) (s : S) : F_is_written [.str x, .int k] s = .ok (.bl true) s := by
  unfold F_is_written b_is_written
  have ha := comp_signs (T := d_FIGURES) (i := 2) (env := [some (.str x), some (.int k), none]) (s := s) (a := cVar 0) (x := x) (fun _ => true) (by simp) (fun c hc => figs (List.all_eq_true.mp hd c hc) s) (by simp) (Nat.le_trans h3 (by decide))
  have h1' : (1 : Int) ≤ (x.length : Int) := by omega
  simp [runB_eq, startE, len_ok h3, h1', h2, ha]
theorem dig_str {n : Int} (h : n.natAbs < 2 ^ 200) (s : S) : strO [.int n] s = .ok (.str (dig n)) s := by
  show (if n.natAbs.log2 < 1920 then _ else _) = _
  rw [if_pos]
  · rfl
  · by_cases e : n.natAbs = 0
    · rw [e]; decide
    · have := (Nat.log2_lt e).mpr h; omega
structure OkY (x : Str) (y : Int) : Prop where
  len : x.length = 4
  dig : x.cps.toList.all isDig = true
  int : PySem.intText? x = some y
  hd : atI x.cps.toList 0 ≠ some 48
theorem okY_of {y : Int} (h1 : 2000 ≤ y) (h2 : y ≤ 2273) : OkY (dig y) y := by
  have h := List.all_eq_true.mp okY_all (y - 2000).toNat (List.mem_range.mpr (by omega))
  have e : (2000 : Int) + ((y - 2000).toNat : Int) = y := by omega
  unfold okY at h
  rw [e] at h
  simp only [Bool.and_eq_true, decide_eq_true_eq, Bool.not_eq_true', decide_eq_false_iff_not] at h
  exact ⟨h.1, h.2.1, h.2.2.1, h.2.2.2⟩
structure OkT (x : Str) (y : Int) : Prop where
  len : x.length = 2
  dig : x.cps.toList.all isDig = true
  int : PySem.intText? x = some y
  cut : cutS (KK.dig (100 + y)) (some 1) none = x
  l3 : (KK.dig (100 + y)).length = 3
theorem okT_of {y : Int} (h1 : 0 ≤ y) (h2 : y ≤ 31) : OkT (two y) y := by
  have h := List.all_eq_true.mp okT_all y.toNat (List.mem_range.mpr (by omega))
  have e : (y.toNat : Int) = y := by omega
  unfold okT at h
  rw [e] at h
  simp only [Bool.and_eq_true, decide_eq_true_eq] at h
  exact ⟨h.1, h.2.1, h.2.2.1, h.2.2.2.1, h.2.2.2.2⟩
theorem add_str {a b : Str} {n : Nat} (h : a.length + b.length ≤ n) (hn : n ≤ sizeLine := by decide) (s : S) : addO (.str a) (.str b) s = .ok (.str (a ++ b)) s := by
  show (if _ then _ else _) = _
  rw [if_pos (Nat.le_trans h hn)]
theorem app_len (a b : Str) : (a ++ b).length = a.length + b.length := Array.size_append
theorem s_two_figures {n : Int} (h1 : 0 ≤ n) (h2 : n ≤ 31) (s : S) : F_two_figures [.int n] s = .ok (.str (two n)) s := by
  unfold F_two_figures b_two_figures
  have hs := dig_str (n := n) (by have : n.natAbs ≤ 31 := by omega
                                  exact Nat.lt_of_le_of_lt this (by decide)) s
  have ht := (okT_of h1 h2).len
  unfold two at *
  by_cases h : n < 10
  · rw [if_pos h] at ht ⊢
    have hm : mulO (.str "0") (.int 1) s = .ok (.str "0") s := rfl
    have ha := add_str (n := 2) (a := "0") (b := dig n) (by rw [← app_len, ht]; exact Nat.le_refl _) (by decide) s
    simp [runB_eq, startE, intO, h, hm, hs, ha]
  · rw [if_neg h] at ht ⊢
    have hm : mulO (.str "0") (.int 0) s = .ok (.str Str.empty) s := rfl
    have he : Str.empty ++ dig n = dig n := by
      show (⟨#[] ++ (dig n).cps⟩ : Str) = dig n
      rw [Array.empty_append]
    have ha := add_str (n := 2) (a := Str.empty) (b := dig n) (by rw [← app_len, he, ht]; exact Nat.le_refl _) (by decide) s
    rw [he] at ha
    simp [runB_eq, startE, intO, h, hm, hs, ha]
/-- a day's text -/
def dayText (y m n : Int) : Str := dig y ++ "-" ++ two m ++ "-" ++ two n
theorem s_show_day {d y m n : Int} (h0 : 0 ≤ d) (h1 : d ≤ 99999) (hD : Date d y m n) (s : S) : F_show_day [.int d] s = .ok (.str (dayText y m n)) s := by
  obtain ⟨y', m', n', e, hD'⟩ := s_date_of d s h0 h1
  obtain ⟨rfl, rfl, rfl⟩ := hD.unique hD'
  have hy := okY_of hD.y1 (hD.y2 h1)
  have hl := len_pos (y := y) (m := m)
  have hm1 := hD.m1
  have hm2 := hD.m2
  have hn1 := hD.n1
  have hn2 := hD.n2
  have tm := okT_of (y := m) (by omega) (by omega)
  have tn := okT_of (y := n) (by omega) (by omega)
  have hs := dig_str (n := y) (by have := hD.y1; have := hD.y2 h1; have : y.natAbs ≤ 2273 := by omega
                                  exact Nat.lt_of_le_of_lt this (by decide)) s
  have l1 : ("-" : Str).length = 1 := rfl
  have a1 := add_str (n := 100) (a := dig y) (b := "-") (by rw [hy.len, l1]; decide) (by decide) s
  have a2 := add_str (n := 100) (a := dig y ++ "-") (b := two m) (by rw [app_len, hy.len, l1, tm.len]; decide) (by decide) s
  have a3 := add_str (n := 100) (a := dig y ++ "-" ++ two m) (b := "-") (by rw [app_len, app_len, hy.len, l1, tm.len]; decide) (by decide) s
  have a4 := add_str (n := 100) (a := dig y ++ "-" ++ two m ++ "-") (b := two n) (by rw [app_len, app_len, app_len, hy.len, l1, tm.len, tn.len]; decide) (by decide) s
  unfold F_show_day b_show_day
  simp [runB_eq, startE, e, gtTup, gtCons, gtNil, hs, a1, a2, a3, a4, s_two_figures (n := m) (by omega) (by omega) s, s_two_figures (n := n) (by omega) (by omega) s, dayText]
end L2.GS.KK

namespace L2.GS.KK
open PySem PySem.Spec PyProof.Rows
/-! ### the law's own days -/
theorem s_w_ahead (y : Int) (s : S) (h1 : 0 ≤ y) (h2 : y ≤ 100000) : F_w_ahead [.int y] s = .ok (.int (ahead y)) s := by
  unfold F_w_ahead b_w_ahead
  have hb : bitsOk 365 (y - 2000) = true := bits_small (by decide) (by omega)
  simp [runB_eq, startE, hb]
  unfold ahead
  omega
theorem s_w_length (y m : Int) (s : S) (h1 : 1 ≤ m) (h2 : m ≤ 12) : F_w_length [.int y, .int m] s = .ok (.int (len y m)) s := by
  unfold F_w_length b_w_length
  have key : isLong y = (decide (y % 4 = 0) && (!decide (y % 100 = 0) || decide (y % 400 = 0))) := by
    unfold isLong
    by_cases a1 : y % 400 = 0 <;> by_cases a2 : y % 4 = 0 <;> by_cases a3 : y % 100 = 0 <;> simp [a1, a2, a3] <;> omega
  have key2 : len y 2 = if (decide (y % 4 = 0) && (!decide (y % 100 = 0) || decide (y % 400 = 0))) = true then 29 else 28 := by
    unfold len
    rw [key]
    simp
  rcases months h1 h2 with rfl | rfl | rfl | rfl | rfl | rfl | rfl | rfl | rfl | rfl | rfl | rfl
  all_goals first
    | (rw [key2]
       by_cases a1 : y % 400 = 0 <;> by_cases a2 : y % 4 = 0 <;> by_cases a3 : y % 100 = 0 <;> simp [runB_eq, startE, a1, a2, a3, ixO, rdLs, rdL, atI, ixN, sizeLine])
    | simp [runB_eq, startE, ixO, rdLs, rdL, atI, ixN, sizeLine, len]
theorem s_w_day_text {d y m n : Int} (h0 : 0 ≤ d) (h1 : d ≤ 99999) (hD : Date d y m n) (s : S) : F_w_day_text [.int d] s = .ok (.str (dayText y m n)) s := by
  have hy0 : ahead (2000 + d / 366) ≤ d := by unfold ahead; omega
  obtain ⟨e1, s1, w1, y', rfl, rfl, q1, q2, q3⟩ := while_inv
    (c := cB (cOp leO (cCall 1 F_w_ahead (cCons (cOp addO (cVar 1) (cCst (.int 1))) cNil)) (cVar 0))) (b := cDrop [] (cSet 1 (cOp addO (cVar 1) (cCst (.int 1)))))
    (fun env t => ∃ y : Int, env = [some (.int d), some (.int y), none, none] ∧ t = s ∧ 2000 ≤ y ∧ ahead y ≤ d)
    (fun env => match env with
      | [_, some (.int y), _, _] => (3000 - y).toNat
      | _ => 0)
    (fun env t => ∃ y : Int, env = [some (.int d), some (.int y), none, none] ∧ t = s ∧ 2000 ≤ y ∧ ahead y ≤ d ∧ d < ahead (y + 1))
    (by
      rintro env t ⟨y, rfl, rfl, a, b⟩
      have hyy := ahead_lo y a
      by_cases hc : ahead (y + 1) ≤ d
      · refine .inr ⟨t, by simp [s_w_ahead (y + 1) t (by omega) (by omega), hc], _, t, by simp, ⟨y + 1, rfl, rfl, by omega, hc⟩, ?_⟩
        show (3000 - (y + 1)).toNat < (3000 - y).toNat
        omega
      · exact .inl ⟨t, by simp [s_w_ahead (y + 1) t (by omega) (by omega), hc], y, rfl, rfl, a, b, by omega⟩)
    _ [some (.int d), some (.int (2000 + d / 366)), none, none] s ⟨_, rfl, rfl, by omega, hy0⟩ (Nat.le_refl _)
  have hyy := ahead_lo y' q1
  have hn := ahead_next y'
  obtain ⟨e2, s2, w2, m', l, rfl, rfl, r1, r2, r3, r4, r5⟩ := while_inv
    (c := cB (cOp gtO (cVar 3) (cCall 2 F_w_length (cCons (cVar 1) (cCons (cVar 2) cNil))))) (b := cDrop [] (cSeq (cSet 3 (cOp subO (cVar 3) (cCall 2 F_w_length (cCons (cVar 1) (cCons (cVar 2) cNil))))) (cSet 2 (cOp addO (cVar 2) (cCst (.int 1))))))
    (fun env t => ∃ m l : Int, env = [some (.int d), some (.int y'), some (.int m), some (.int l)] ∧ t = s1 ∧ 1 ≤ m ∧ m ≤ 12 ∧ 1 ≤ l ∧ ahead y' + cum y' m + l - 1 = d)
    (fun env => match env with
      | [_, _, some (.int m), _] => (13 - m).toNat
      | _ => 0)
    (fun env t => ∃ m l : Int, env = [some (.int d), some (.int y'), some (.int m), some (.int l)] ∧ t = s1 ∧ 1 ≤ m ∧ m ≤ 12 ∧ 1 ≤ l ∧ l ≤ len y' m ∧ ahead y' + cum y' m + l - 1 = d)
    (by
      rintro env t ⟨m, l, rfl, rfl, a, b, c0, c⟩
      have hcn := cum_next (y := y') a b
      by_cases hc : len y' m < l
      · have hm : m ≤ 11 := by
          by_cases e : m = 12
          · subst e
            have : cum y' 13 = cum y' 12 + len y' 12 := hcn
            omega
          · omega
        refine .inr ⟨t, by simp [s_w_length y' m t a b, hc], _, t, by simp [s_w_length y' m t a b], ⟨m + 1, l - len y' m, rfl, rfl, by omega, by omega, by omega, by omega⟩, ?_⟩
        show (13 - (m + 1)).toNat < (13 - m).toNat
        omega
      · exact .inl ⟨t, by simp [s_w_length y' m t a b, hc], m, l, rfl, rfl, a, b, c0, by omega, c⟩)
    _ [some (.int d), some (.int y'), some (.int 1), some (.int (d - ahead y' + 1))] s1 ⟨1, _, rfl, rfl, by omega, by omega, by omega, by simp [cum]; omega⟩ (Nat.le_refl _)
  have hD' : Date d y' m' l := ⟨q1, r1, r2, r3, r4, r5⟩
  obtain ⟨rfl, rfl, rfl⟩ := hD.unique hD'
  have hy := okY_of hD.y1 (hD.y2 h1)
  have hl := len_pos (y := y) (m := m)
  have hn2 := hD.n2
  have tm := okT_of (y := m) (by omega) (by omega)
  have tn := okT_of (y := n) (by omega) (by omega)
  have ds : ∀ k : Int, 0 ≤ k → k ≤ 5000 → ∀ s, strO [.int k] s = .ok (.str (dig k)) s := fun k a b s => dig_str (by
    have : k.natAbs ≤ 5000 := by omega
    exact Nat.lt_of_le_of_lt this (by decide)) s
  have hy2 := hD.y2 h1
  have sl : ∀ k : Int, OkT (two k) k → ∀ s, slO (.str (dig (100 + k))) (some 1) none s = .ok (.str (two k)) s := fun k o s => by
    show (if _ then _ else _) = _
    rw [if_pos (by rw [o.l3]; decide), o.cut]
  have hda := fun s => s_w_ahead y s (by omega) (by omega)
  unfold F_w_day_text b_w_day_text
  simp [runB_eq, startE]
  rw [w1]
  simp [hda, setAll]
  rw [w2]
  simp [ds y (by omega) (by omega), ds (100 + m) (by omega) (by omega), ds (100 + n) (by omega) (by omega), sl m tm, sl n tn, isStr, MSort.ty]
  have hj : joinO (.str "-") [.lst [.str (dig y), .str (two m), .str (two n)]] s2 = .ok (.str (dayText y m n)) s2 := by
    have e : Txt.join "-" [dig y, two m, two n] = dayText y m n := by
      rw [TL.join_eq]
      show dig y ++ "-" ++ (two m ++ "-" ++ two n) = dig y ++ "-" ++ two m ++ "-" ++ two n
      have as : ∀ a b c : Str, a ++ b ++ c = a ++ (b ++ c) := fun a b c => by
        show (⟨a.cps ++ b.cps ++ c.cps⟩ : Str) = ⟨a.cps ++ (b.cps ++ c.cps)⟩
        rw [Array.append_assoc]
      simp only [as]
    show (if _ then _ else _) = _
    rw [if_pos, e]
    simp [hy.len, tm.len, tn.len]
    decide
  simp [hj, sizeLine]
end L2.GS.KK

namespace L2.GS.KK
open PySem PySem.Spec PyProof.Rows
theorem isi_str (x : Str) (s : S) : isiO [.str x, .ty "str"] s = .ok (.bl true) s := by kernel_rfl
theorem isi_int (x : Int) (s : S) : isiO [.int x, .ty "int"] s = .ok (.bl true) s := by kernel_rfl
theorem isi_intb (x : Int) (s : S) : isiO [.int x, .ty "bool"] s = .ok (.bl false) s := by kernel_rfl
theorem isi_boolb (x : Bool) (s : S) : isiO [.bl x, .ty "bool"] s = .ok (.bl true) s := by kernel_rfl
theorem isi_tup (x : List D) (s : S) : isiO [.tup x, .ty "tuple"] s = .ok (.bl true) s := by kernel_rfl
def lenF (y : Int) : D → D
  | .int k => .int (len y k)
  | _ => .non
theorem s_day_at {y m n : Int} (h1 : 1 ≤ m) (h2 : m ≤ 12) (y1 : 0 ≤ y) (y2 : y ≤ 100000) (s : S) : F_day_at [.int y, .int m, .int n] s = .ok (.int (ahead y + cum y m + n - 1)) s := by
  have hc : cComp (ciRng2 (cCst (.int 1)) (cVar 1)) (.nm 3) cYes (cCall 2 F_length_of (cCons (cVar 0) (cCons (cVar 3) cNil))) [some (.int y), some (.int m), some (.int n), none] s = .ok (.lst ((ranged 1 (m - 1).toNat).map (lenF y))) s := by
    unfold cComp ciRng2
    have hb : -(2 ^ 62 : Int) ≤ 1 ∧ (1 : Int) < 2 ^ 62 ∧ -(2 ^ 62) ≤ m ∧ m < 2 ^ 62 := by omega
    have hb' : -(2 ^ 62) ≤ m ∧ m < 2 ^ 62 := by omega
    simp only [e_cst, e_var, R.bind]
    simp only [List.getElem?_cons_succ, List.getElem?_cons_zero, R.bind]
    rw [if_pos hb]
    simp only [R.bind]
    rw [compF_map (f := lenF y) trivial]
    · rfl
    · intro d hd
      unfold ranged at hd
      obtain ⟨i, hi, rfl⟩ := List.mem_map.mp hd
      have hi' := List.mem_range.mp hi
      refine ⟨_, rfl, rfl, ?_⟩
      simp [Tgt.own, wipeE, s_length_of y (1 + (i : Int)) s (by omega) (by omega), lenF]
    · have : (ranged 1 (m - 1).toNat).length = (m - 1).toNat := by simp [ranged]
      simp only [List.length_nil, this]
      have : (12 : Nat) ≤ sizeLine := by decide
      omega
  have hsum : sumO [.lst ((ranged 1 (m - 1).toNat).map (lenF y))] s = .ok (.int (cum y m)) s := by
    rcases months h1 h2 with rfl | rfl | rfl | rfl | rfl | rfl | rfl | rfl | rfl | rfl | rfl | rfl <;> (simp [ranged, List.range_succ, lenF, sumO, rdLs, rdL, ints?, List.range_eq_nil]; unfold cum; (try unfold len); cases isLong y <;> decide)
  obtain ⟨L, hc, hsum⟩ : ∃ L, cComp (ciRng2 (cCst (.int 1)) (cVar 1)) (.nm 3) cYes (cCall 2 F_length_of (cCons (cVar 0) (cCons (cVar 3) cNil))) [some (.int y), some (.int m), some (.int n), none] s = .ok L s ∧ sumO [L] s = .ok (.int (cum y m)) s := ⟨_, hc, hsum⟩
  have hda := s_days_ahead y s y1 y2
  unfold F_day_at b_day_at
  simp [runB_eq, startE, hda, hc, hsum]
theorem s_is_date {y m n : Int} (h : 2000 ≤ y ∧ y ≤ 9999) (h1 : 1 ≤ m) (h2 : m ≤ 12) (n1 : 1 ≤ n) (n2 : n ≤ len y m) (s : S) : F_is_date [.int y, .int m, .int n] s = .ok (.bl true) s := by
  unfold F_is_date b_is_date
  simp [runB_eq, startE, d_FIRST_YEAR, d_LAST_YEAR, h.1, h.2, h1, h2, n1, n2, s_length_of y m s h1 h2]
theorem s_is_whole (i : Int) (s : S) : F_is_whole [.int i] s = .ok (.bl true) s := by
  unfold F_is_whole b_is_whole
  simp [runB_eq, startE, isi_int, isi_intb]
theorem s_is_day {d : Int} (h0 : 0 ≤ d) (h1 : d ≤ 99999) (s : S) : F_is_day [.int d] s = .ok (.bl true) s := by
  unfold F_is_day b_is_day
  simp [runB_eq, startE, d_LAST_DAY, s_is_whole, h0, h1]
theorem dig_no {x : Str} {k : Nat} (h : x.cps.toList.all isDig = true) (hk : isDig k = false) : k ∉ x.cps.toList := fun hm => by
  rw [List.all_eq_true.mp h k hm] at hk
  cases hk
theorem app_assoc (a b c : Str) : a ++ b ++ c = a ++ (b ++ c) := by
  show (⟨a.cps ++ b.cps ++ c.cps⟩ : Str) = ⟨a.cps ++ (b.cps ++ c.cps)⟩
  rw [Array.append_assoc]
theorem dayText_join (y m n : Int) : dayText y m n = Txt.join "-" [dig y, two m, two n] := by
  rw [TL.join_eq]
  show dig y ++ "-" ++ two m ++ "-" ++ two n = dig y ++ "-" ++ (two m ++ "-" ++ two n)
  simp only [app_assoc]
theorem int_str {x : Str} {k : Int} (h : x.length ≤ 640) (e : PySem.intText? x = some k) (s : S) : intO [.str x] s = .ok (.int k) s := by
  show (if x.length ≤ 640 then _ else _) = _
  rw [if_pos h, e]
theorem atI_0 {α : Type} {l : List α} (h : l ≠ []) : atI l 0 = l.head? := by
  cases l with
  | nil => exact absurd rfl h
  | cons a r => simp [atI, ixN]
theorem s_read_day {d y m n : Int} (h0 : 0 ≤ d) (h1 : d ≤ 99999) (hD : Date d y m n) (s : S) : F_read_day [.str (dayText y m n)] s = .ok (.int d) s := by
  have hy := okY_of hD.y1 (hD.y2 h1)
  have hl := len_pos (y := y) (m := m)
  have hy1 := hD.y1
  have hy2 := hD.y2 h1
  have hm1 := hD.m1
  have hm2 := hD.m2
  have hn1 := hD.n1
  have hn2 := hD.n2
  have tm := okT_of (y := m) (by omega) (by omega)
  have tn := okT_of (y := n) (by omega) (by omega)
  have hlen : (dayText y m n).length = 10 := by
    unfold dayText
    simp only [app_len, hy.len, tm.len, tn.len]
    rfl
  have hsp : splitO (.str (dayText y m n)) [.str "-"] s = .ok (.lst [.str (dig y), .str (two m), .str (two n)]) s := by
    have e : Txt.split (dayText y m n) "-" = [dig y, two m, two n] := by
      rw [dayText_join]
      refine TL.split_join (s := 45) (S := []) rfl (by decide +kernel) (by simp) fun p hp => ?_
      simp only [List.mem_cons, List.mem_nil_iff, or_false] at hp
      rcases hp with rfl | rfl | rfl
      · exact dig_no hy.dig rfl
      · exact dig_no tm.dig rfl
      · exact dig_no tn.dig rfl
    show (if _ then _ else _) = _
    rw [if_pos ⟨by decide, by rw [hlen]; decide⟩, e]
    rfl
  have w1 := s_is_written (x := dig y) (k := 4) (by rw [hy.len]; decide) (by rw [hy.len]; decide) (by rw [hy.len]; decide) hy.dig
  have w2 := s_is_written (x := two m) (k := 4) (by rw [tm.len]; decide) (by rw [tm.len]; decide) (by rw [tm.len]; decide) tm.dig
  have w3 := s_is_written (x := two n) (k := 4) (by rw [tn.len]; decide) (by rw [tn.len]; decide) (by rw [tn.len]; decide) tn.dig
  obtain ⟨c0, hc0⟩ : ∃ c0, atI (dig y).cps.toList 0 = some c0 := by
    have : (dig y).cps.toList ≠ [] := fun e => by
      have := hy.len
      unfold Str.length at this
      rw [← Array.length_toList, e] at this
      cases this
    rw [atI_0 this]
    cases q : (dig y).cps.toList with
    | nil => exact absurd q this
    | cons a r => exact ⟨a, rfl⟩
  have hix : ixO (.str (dig y)) (.int 0) s = .ok (.str ⟨#[c0]⟩) s := by
    show (if (dig y).length ≤ sizeLine then _ else _) = _
    rw [if_pos (by rw [hy.len]; decide), hc0]
  have hc48 : c0 ≠ 48 := fun e => hy.hd (by rw [hc0, e])
  have hc0d : isDig c0 = true := by
    have hm : c0 ∈ (dig y).cps.toList := by
      unfold atI at hc0
      obtain ⟨j, _, e⟩ := Option.bind_eq_some_iff.mp hc0
      exact List.mem_of_getElem? e
    exact List.all_eq_true.mp hy.dig c0 hm
  have heq : eqO false (.str ⟨#[c0]⟩) (.str "0") s = .ok (.bl false) s := by
    have h58 : c0 < 58 := by
      have : 48 ≤ c0 ∧ c0 ≤ 57 := by simpa [isDig] using hc0d
      omega
    rw [eq_str0 (by show (#[c0] : Array Nat).all (· < 0x110000) = true; simp; omega) (by decide +kernel)]
    have : ¬ (⟨#[c0]⟩ : Str) = "0" := fun e => hc48 (by
      have : (#[c0] : Array Nat) = #[48] := congrArg Str.cps e
      simpa using this)
    simp [this]
  have l1 := len_ok (x := dig y) (n := 100) (by rw [hy.len]; decide)
  have l2 := len_ok (x := two m) (n := 100) (by rw [tm.len]; decide)
  have l3 := len_ok (x := two n) (n := 100) (by rw [tn.len]; decide)
  rw [hy.len] at l1
  rw [tm.len] at l2
  rw [tn.len] at l3
  have i1 := int_str (x := dig y) (by rw [hy.len]; decide) hy.int
  have i2 := int_str (x := two m) (by rw [tm.len]; decide) tm.int
  have i3 := int_str (x := two n) (by rw [tn.len]; decide) tn.int
  have hda := fun s => s_day_at (y := y) (m := m) (n := n) hm1 hm2 (by omega) (by omega) s
  rw [hD.eq] at hda
  have hid := fun s => s_is_date (y := y) (m := m) (n := n) ⟨hy1, by omega⟩ hm1 hm2 hn1 hn2 s
  have hdd := fun s => s_is_day h0 h1 s
  have hix' : ∀ t, ixO (.str (dig y)) (.int 0) t = .ok (.str ⟨#[c0]⟩) t := fun t => by
    show (if (dig y).length ≤ sizeLine then _ else _) = _
    rw [if_pos (by rw [hy.len]; decide), hc0]
  have heq' : ∀ t, eqO false (.str ⟨#[c0]⟩) (.str "0") t = .ok (.bl false) t := fun t => by
    have h58 : c0 < 58 := by
      have : 48 ≤ c0 ∧ c0 ≤ 57 := by simpa [isDig] using hc0d
      omega
    rw [eq_str0 (by show (#[c0] : Array Nat).all (· < 0x110000) = true; simp; omega) (by decide +kernel)]
    have : ¬ (⟨#[c0]⟩ : Str) = "0" := fun e => hc48 (by
      have : (#[c0] : Array Nat) = #[48] := congrArg Str.cps e
      simpa using this)
    simp [this]
  unfold F_read_day b_read_day
  simp [runB_eq, startE, isi_str, hsp, MSort.ty, isStr, cComp, ciAny, srcD, compF, Tgt.sem, Tgt.own, wipeE, cYes, w1, w2, w3, sizeLine, allO, rdLs, rdL, bls?, hix', heq', l1, l2, l3, i1, i2, i3, setAll, hda, hid, hdd]
theorem s_day_in {d y m n : Int} (h0 : 0 ≤ d) (h1 : d ≤ 99999) (hD : Date d y m n) (s : S) : F_day_in [.str (dayText y m n)] s = .ok (.int d) s := by
  unfold F_day_in b_day_in
  simp [runB_eq, startE, s_read_day h0 h1 hD]
end L2.GS.KK

namespace L2.GS.KK
open PySem PySem.Spec PyProof.Rows
/-! ### names -/
def isLow (c : Nat) : Bool := decide (97 ≤ c) && decide (c ≤ 122)
structure Nm (x : Str) : Prop where
  l1 : 1 ≤ x.length
  l8 : x.length ≤ 8
  low : x.cps.toList.all isLow = true
theorem lets {c : Nat} (h : isLow c = true) (s : S) : inO false (.str ⟨#[c]⟩) d_LETTERS s = .ok (.bl true) s := by
  have h' : 97 ≤ c ∧ c ≤ 122 := by simpa [isLow] using h
  have : c = 97 ∨ c = 98 ∨ c = 99 ∨ c = 100 ∨ c = 101 ∨ c = 102 ∨ c = 103 ∨ c = 104 ∨ c = 105 ∨ c = 106 ∨ c = 107 ∨ c = 108 ∨ c = 109 ∨ c = 110 ∨ c = 111 ∨ c = 112 ∨ c = 113 ∨ c = 114 ∨ c = 115 ∨ c = 116 ∨ c = 117 ∨ c = 118 ∨ c = 119 ∨ c = 120 ∨ c = 121 ∨ c = 122 := by omega
  rcases this with rfl | rfl | rfl | rfl | rfl | rfl | rfl | rfl | rfl | rfl | rfl | rfl | rfl | rfl | rfl | rfl | rfl | rfl | rfl | rfl | rfl | rfl | rfl | rfl | rfl | rfl <;> kernel_rfl
theorem low_ok {x : Str} (h : x.cps.toList.all isLow = true) : PyData.strOk x = true := by
  unfold PyData.strOk
  rw [Array.all_eq_true_iff_forall_mem]
  intro c hc
  have := List.all_eq_true.mp h c (by simpa using hc)
  have : 97 ≤ c ∧ c ≤ 122 := by simpa [isLow] using this
  simp; omega
theorem Nm.ok {x : Str} (h : Nm x) : PyData.strOk x = true := low_ok h.low
theorem Nm.no {x : Str} (h : Nm x) {k : Nat} (hk : isLow k = false) : k ∉ x.cps.toList := fun hm => by
  rw [List.all_eq_true.mp h.low k hm] at hk
  cases hk
theorem s_is_name {x : Str} (h : Nm x) (s : S) : F_is_name [.str x] s = .ok (.bl true) s := by
  unfold F_is_name b_is_name
  have ha := comp_signs (T := d_LETTERS) (i := 1) (env := [some (.str x), none]) (s := s) (a := cVar 0) (x := x) (fun _ => true) (by simp) (fun c hc => lets (List.all_eq_true.mp h.low c hc) s) (by simp) (Nat.le_trans h.l8 (by decide))
  have h1' : (1 : Int) ≤ (x.length : Int) := by have := h.l1; omega
  have h8' : (x.length : Int) ≤ 8 := by have := h.l8; omega
  simp [runB_eq, startE, isi_str, len_ok h.l8, d_MOST_LETTERS, h1', h8', ha]
/-! ### rules, deeds -/
inductive Sn where
  | coming | by_ (w : String) (n : Str)
def Sn.D : Sn → D
  | .coming => .tup [.str "coming"]
  | .by_ w n => .tup [.str (Str.ofString w), .str n]
def Sn.words : Sn → List Str
  | .coming => ["coming"]
  | .by_ w n => [Str.ofString w, n]
def Sn.Ok : Sn → Prop
  | .coming => True
  | .by_ w n => (w = "first" ∨ w = "last") ∧ Nm n
inductive Rl where
  | short (w : String) (k : Str) | long (w : String) (k : Str) (sn : Sn) (many : Int) (u : String)
def Rl.D : Rl → D
  | .short w k => .tup [.str (Str.ofString w), .str k]
  | .long w k sn m u => .tup [.str (Str.ofString w), .str k, sn.D, .int m, .str (Str.ofString u)]
def Rl.Ok : Rl → Prop
  | .short w k => (w = "while" ∨ w = "follow" ∨ w = "leave") ∧ Nm k
  | .long w k sn m u => (w = "keep" ∨ w = "gone") ∧ Nm k ∧ sn.Ok ∧ 0 ≤ m ∧ m ≤ 999 ∧ (u = "days" ∨ u = "months" ∨ u = "years")
theorem s_is_since {sn : Sn} (h : sn.Ok) (s : S) : F_is_since [sn.D] s = .ok (.bl true) s := by
  unfold F_is_since b_is_since
  have e0 : ∀ (x : D) (r : List D) (p : PyData) (ps : List PyData), toP x = some p → toPs r = some ps → (SeqAt.shaped (.tuple (p :: ps))) = true → ∀ s, eqO false (.tup (x :: r)) (.tup []) s = .ok (.bl false) s := fun x r p ps h1 h2 h3 s => by
    rw [eq_any (p := .tuple (p :: ps)) (q := .tuple []) (by simp [vw, toP, toPs, h1, h2]) rfl (by simp [h3]; rfl)]
    simp [PyData.eqv, PyData.eqvAll]
  cases sn with
  | coming =>
    have e1 := e0 (.str "coming") [] (.str "coming") [] rfl rfl (by simp [SeqAt.shaped, PyData.canLay0, PyData.canLayAll0, PyData.depth, PyData.depthAll])
    simp [runB_eq, startE, Sn.D, isi_tup, isi_str, sizeLine, e1]
  | by_ w n =>
    obtain ⟨hw, hn⟩ := h
    have e1 := e0 (.str (Str.ofString w)) [.str n] (.str (Str.ofString w)) [.str n] rfl rfl (by simp [SeqAt.shaped, PyData.canLay0, PyData.canLayAll0, PyData.depth, PyData.depthAll, hn.ok])
    rcases hw with rfl | rfl <;> simp [runB_eq, startE, Sn.D, isi_tup, isi_str, sizeLine, e1, inO, flD, eqF, s_is_name hn]
theorem s_is_span {m : Int} {u : String} (h0 : 0 ≤ m) (h1 : m ≤ 999) (hu : u = "days" ∨ u = "months" ∨ u = "years") (s : S) : F_is_span_told [.int m, .str (Str.ofString u)] s = .ok (.bl true) s := by
  unfold F_is_span_told b_is_span_told
  rcases hu with rfl | rfl | rfl <;> simp [runB_eq, startE, isi_str, s_is_whole, d_MOST_MANY, h0, h1, d_UNITS, inO, flD, eqF]
theorem s_is_rule {r : Rl} (h : r.Ok) (s : S) : F_is_rule [r.D] s = .ok (.bl true) s := by
  unfold F_is_rule b_is_rule
  cases r with
  | short w k =>
    obtain ⟨hw, hk⟩ := h
    rcases hw with rfl | rfl | rfl <;> simp [runB_eq, startE, Rl.D, isi_tup, isi_str, sizeLine, inO, flD, eqF, s_is_name hk]
  | long w k sn m u =>
    obtain ⟨hw, hk, hs, h0, h1, hu⟩ := h
    rcases hw with rfl | rfl <;> simp [runB_eq, startE, Rl.D, isi_tup, isi_str, sizeLine, inO, flD, eqF, s_is_name hk, s_is_since hs, s_is_span h0 h1 hu]
theorem s_is_aim {w : String} {n : Str} (hw : w = "paper" ∨ w = "kind") (hn : Nm n) (s : S) : F_is_aim [.tup [.str (Str.ofString w), .str n]] s = .ok (.bl true) s := by
  unfold F_is_aim b_is_aim
  rcases hw with rfl | rfl <;> simp [runB_eq, startE, isi_tup, isi_str, sizeLine, inO, flD, eqF, s_is_name hn]
end L2.GS.KK

namespace L2.GS.KK
open PySem PySem.Spec PyProof.Rows
/-! ### deeds -/
def ltS (a b : Str) : Prop := a.cps.toList < b.cps.toList
structure Mk (ms : List Str) : Prop where
  nm : ∀ x ∈ ms, Nm x
  l4 : ms.length ≤ 4
  up : ms.Pairwise ltS
theorem s_are_makers {ms : List Str} (h : Mk ms) (s : S) : F_are_makers [.tup (ms.map .str)] s = .ok (.bl true) s := by
  obtain ⟨hn, hl, hu⟩ := h
  unfold F_are_makers b_are_makers
  match ms, hn, hl, hu with
  | [], _, _, _ => simp [runB_eq, startE, isi_tup, d_MOST_MAKERS, cComp, ciAny, ciRng1, srcD, ranged, compF, allO, rdLs, rdL, bls?]
  | [a], hn, _, _ =>
    have ha := s_is_name (hn a (by simp))
    simp [runB_eq, startE, isi_tup, d_MOST_MAKERS, cComp, ciAny, ciRng1, srcD, ranged, compF, allO, rdLs, rdL, bls?, Tgt.sem, Tgt.own, wipeE, cYes, sizeLine, ha]
  | [a, b], hn, _, hu =>
    have ha := s_is_name (hn a (by simp))
    have hb := s_is_name (hn b (by simp))
    have u1 : a.cps.toList < b.cps.toList := by simp at hu; exact hu
    simp [runB_eq, startE, isi_tup, d_MOST_MAKERS, cComp, ciAny, ciRng1, srcD, ranged, List.range_succ, compF, allO, rdLs, rdL, bls?, Tgt.sem, Tgt.own, wipeE, cYes, sizeLine, ha, hb, ltO, u1]
    exact u1
  | [a, b, c], hn, _, hu =>
    have ha := s_is_name (hn a (by simp))
    have hb := s_is_name (hn b (by simp))
    have hc := s_is_name (hn c (by simp))
    have u1 : a.cps.toList < b.cps.toList := by simp at hu; exact hu.1.1
    have u2 : b.cps.toList < c.cps.toList := by simp at hu; exact hu.2
    simp [runB_eq, startE, isi_tup, d_MOST_MAKERS, cComp, ciAny, ciRng1, srcD, ranged, List.range_succ, compF, allO, rdLs, rdL, bls?, Tgt.sem, Tgt.own, wipeE, cYes, sizeLine, ha, hb, hc, ltO, u1, u2]
    exact ⟨u1, u2⟩
  | [a, b, c, d], hn, _, hu =>
    have ha := s_is_name (hn a (by simp))
    have hb := s_is_name (hn b (by simp))
    have hc := s_is_name (hn c (by simp))
    have hd := s_is_name (hn d (by simp))
    have u1 : a.cps.toList < b.cps.toList := by simp at hu; exact hu.1.1
    have u2 : b.cps.toList < c.cps.toList := by simp at hu; exact hu.2.1.1
    have u3 : c.cps.toList < d.cps.toList := by simp at hu; exact hu.2.2
    simp [runB_eq, startE, isi_tup, d_MOST_MAKERS, cComp, ciAny, ciRng1, srcD, ranged, List.range_succ, compF, allO, rdLs, rdL, bls?, Tgt.sem, Tgt.own, wipeE, cYes, sizeLine, ha, hb, hc, hd, ltO, u1, u2, u3]
    exact ⟨u1, u2, u3⟩
  | _ :: _ :: _ :: _ :: _ :: _, _, hl, _ => simp at hl
inductive Deed where
  | paper (d : Int) (n k : Str) (ms : List Str)
  | happens (d : Int) (n w : Str)
  | rule (d : Int) (n : Str) (r : Rl)
  | end_ (d : Int) (n : Str)
  | hold (d : Int) (n : Str) (tw : String) (tn : Str) (deep : Bool)
  | lift (d : Int) (n : Str)
  | leave (d : Int) (n k : Str)
def Deed.D : Deed → D
  | .paper d n k ms => .tup [.str "paper", .int d, .str n, .str k, .tup (ms.map .str)]
  | .happens d n w => .tup [.str "happens", .int d, .str n, .str w]
  | .rule d n r => .tup [.str "rule", .int d, .str n, r.D]
  | .end_ d n => .tup [.str "end", .int d, .str n]
  | .hold d n tw tn b => .tup [.str "hold", .int d, .str n, .tup [.str (Str.ofString tw), .str tn], .bl b]
  | .lift d n => .tup [.str "lift", .int d, .str n]
  | .leave d n k => .tup [.str "leave", .int d, .str n, .str k]
def Deed.day : Deed → Int
  | .paper d .. | .happens d .. | .rule d .. | .end_ d .. | .hold d .. | .lift d .. | .leave d .. => d
def Deed.name : Deed → Str
  | .paper _ n _ _ | .happens _ n _ | .rule _ n _ | .end_ _ n | .hold _ n _ _ _ | .lift _ n | .leave _ n _ => n
def Deed.Rest : Deed → Prop
  | .paper _ _ k ms => Nm k ∧ Mk ms
  | .happens _ _ w => Nm w
  | .rule _ _ r => r.Ok
  | .hold _ _ tw tn _ => (tw = "paper" ∨ tw = "kind") ∧ Nm tn
  | .leave _ _ k => Nm k
  | _ => True
structure Deed.Ok (x : Deed) : Prop where
  d0 : 0 ≤ x.day
  d1 : x.day ≤ 99999
  nm : Nm x.name
  rest : x.Rest
theorem f_n {x : Str} (h : Nm x) (s : S) : F_fits_form [.str x, .str "n"] s = .ok (.bl true) s := by
  unfold F_fits_form b_fits_form
  simp [runB_eq, startE, s_is_name h]
theorem f_m {ms : List Str} (h : Mk ms) (s : S) : F_fits_form [.tup (ms.map .str), .str "m"] s = .ok (.bl true) s := by
  unfold F_fits_form b_fits_form
  simp [runB_eq, startE, s_are_makers h]
theorem f_r {r : Rl} (h : r.Ok) (s : S) : F_fits_form [r.D, .str "r"] s = .ok (.bl true) s := by
  unfold F_fits_form b_fits_form
  simp [runB_eq, startE, s_is_rule h]
theorem f_t {w : String} {n : Str} (hw : w = "paper" ∨ w = "kind") (hn : Nm n) (s : S) : F_fits_form [.tup [.str (Str.ofString w), .str n], .str "t"] s = .ok (.bl true) s := by
  unfold F_fits_form b_fits_form
  simp [runB_eq, startE, s_is_aim hw hn]
theorem f_b {b : Bool} (s : S) : F_fits_form [.bl b, .str "b"] s = .ok (.bl true) s := by
  unfold F_fits_form b_fits_form
  simp [runB_eq, startE, isi_boolb]

theorem cut2 {α : Type} {a b : α} {l : List α} : ((a :: b :: l).drop (HT.sIx (a :: b :: l).length 0 (some 2))).take (HT.sIx (a :: b :: l).length (a :: b :: l).length none - HT.sIx (a :: b :: l).length 0 (some 2)) = l := by
  have h1 : HT.sIx (a :: b :: l).length 0 (some 2) = 2 := by simp [HT.sIx]
  have h2 : HT.sIx (a :: b :: l).length (a :: b :: l).length none = l.length + 2 := by simp [HT.sIx]
  rw [h1, h2]
  simp
theorem sl_from2 {a b : D} {l : List D} {s : S} : slO (.tup (a :: b :: l)) (some 2) none s = .ok (.tup l) s := by
  show R.ok (GS.D.tup (cutD _ _ _)) s = _
  unfold cutD
  rw [cut2]
theorem s_is_deed {x : Deed} (h : x.Ok) (s : S) : F_is_deed [x.D] s = .ok (.bl true) s := by
  obtain ⟨d0, d1, hn, hr⟩ := h
  have hd := s_is_day d0 d1
  unfold F_is_deed b_is_deed
  cases x with
  | paper d n k ms =>
    obtain ⟨hk, hm⟩ := hr
    replace hn : Nm n := hn
    replace hd : ∀ s, F_is_day [.int d] s = .ok (.bl true) s := hd
    have e1 : kdGetO k_FORMS (.str "paper") s = .ok (.str "nnm") s := by kernel_rfl
    have l1 : ∀ s, lenO [.str "nnm"] s = .ok (.int 3) s := fun s => rfl
    have sn : signs "nnm" = [.str "n", .str "n", .str "m"] := by kernel_rfl
    simp [runB_eq, startE, Deed.D, isi_tup, isi_str, e1, l1, isO, isNone, hd, cComp, ciZip, sl_from2, srcD, sn, zipD, compF, Tgt.sem, Tgt.own, setAll, wipeE, cYes, sizeLine, allO, rdLs, rdL, bls?, f_n hn, f_n hk, f_m hm]
  | happens d n w =>
    replace hr : Nm w := hr
    replace hn : Nm n := hn
    replace hd : ∀ s, F_is_day [.int d] s = .ok (.bl true) s := hd
    have e1 : kdGetO k_FORMS (.str "happens") s = .ok (.str "nn") s := by kernel_rfl
    have l1 : ∀ s, lenO [.str "nn"] s = .ok (.int 2) s := fun s => rfl
    have sn : signs "nn" = [.str "n", .str "n"] := by kernel_rfl
    simp [runB_eq, startE, Deed.D, isi_tup, isi_str, e1, l1, isO, isNone, hd, cComp, ciZip, sl_from2, srcD, sn, zipD, compF, Tgt.sem, Tgt.own, setAll, wipeE, cYes, sizeLine, allO, rdLs, rdL, bls?, f_n hn, f_n hr]
  | rule d n r =>
    replace hr : r.Ok := hr
    replace hn : Nm n := hn
    replace hd : ∀ s, F_is_day [.int d] s = .ok (.bl true) s := hd
    have e1 : kdGetO k_FORMS (.str "rule") s = .ok (.str "nr") s := by kernel_rfl
    have l1 : ∀ s, lenO [.str "nr"] s = .ok (.int 2) s := fun s => rfl
    have sn : signs "nr" = [.str "n", .str "r"] := by kernel_rfl
    simp [runB_eq, startE, Deed.D, isi_tup, isi_str, e1, l1, isO, isNone, hd, cComp, ciZip, sl_from2, srcD, sn, zipD, compF, Tgt.sem, Tgt.own, setAll, wipeE, cYes, sizeLine, allO, rdLs, rdL, bls?, f_n hn, f_r hr]
  | end_ d n =>
    replace hn : Nm n := hn
    replace hd : ∀ s, F_is_day [.int d] s = .ok (.bl true) s := hd
    have e1 : kdGetO k_FORMS (.str "end") s = .ok (.str "n") s := by kernel_rfl
    have l1 : ∀ s, lenO [.str "n"] s = .ok (.int 1) s := fun s => rfl
    have sn : signs "n" = [.str "n"] := by kernel_rfl
    simp [runB_eq, startE, Deed.D, isi_tup, isi_str, e1, l1, isO, isNone, hd, cComp, ciZip, sl_from2, srcD, sn, zipD, compF, Tgt.sem, Tgt.own, setAll, wipeE, cYes, sizeLine, allO, rdLs, rdL, bls?, f_n hn]
  | hold d n tw tn b =>
    obtain ⟨hw, ht⟩ := hr
    replace hn : Nm n := hn
    replace hd : ∀ s, F_is_day [.int d] s = .ok (.bl true) s := hd
    have e1 : kdGetO k_FORMS (.str "hold") s = .ok (.str "ntb") s := by kernel_rfl
    have l1 : ∀ s, lenO [.str "ntb"] s = .ok (.int 3) s := fun s => rfl
    have sn : signs "ntb" = [.str "n", .str "t", .str "b"] := by kernel_rfl
    simp [runB_eq, startE, Deed.D, isi_tup, isi_str, e1, l1, isO, isNone, hd, cComp, ciZip, sl_from2, srcD, sn, zipD, compF, Tgt.sem, Tgt.own, setAll, wipeE, cYes, sizeLine, allO, rdLs, rdL, bls?, f_n hn, f_t hw ht, f_b]
  | lift d n =>
    replace hn : Nm n := hn
    replace hd : ∀ s, F_is_day [.int d] s = .ok (.bl true) s := hd
    have e1 : kdGetO k_FORMS (.str "lift") s = .ok (.str "n") s := by kernel_rfl
    have l1 : ∀ s, lenO [.str "n"] s = .ok (.int 1) s := fun s => rfl
    have sn : signs "n" = [.str "n"] := by kernel_rfl
    simp [runB_eq, startE, Deed.D, isi_tup, isi_str, e1, l1, isO, isNone, hd, cComp, ciZip, sl_from2, srcD, sn, zipD, compF, Tgt.sem, Tgt.own, setAll, wipeE, cYes, sizeLine, allO, rdLs, rdL, bls?, f_n hn]
  | leave d n k =>
    replace hr : Nm k := hr
    replace hn : Nm n := hn
    replace hd : ∀ s, F_is_day [.int d] s = .ok (.bl true) s := hd
    have e1 : kdGetO k_FORMS (.str "leave") s = .ok (.str "nn") s := by kernel_rfl
    have l1 : ∀ s, lenO [.str "nn"] s = .ok (.int 2) s := fun s => rfl
    have sn : signs "nn" = [.str "n", .str "n"] := by kernel_rfl
    simp [runB_eq, startE, Deed.D, isi_tup, isi_str, e1, l1, isO, isNone, hd, cComp, ciZip, sl_from2, srcD, sn, zipD, compF, Tgt.sem, Tgt.own, setAll, wipeE, cYes, sizeLine, allO, rdLs, rdL, bls?, f_n hn, f_n hr]
end L2.GS.KK

namespace L2.GS
open PySem PySem.Spec PyProof.Rows
/-! ### an owned list at the store's end -/
section
variable {s : S} {l : List D}
@[simp] theorem own_at : (s ++ [MO.lst l])[s.length]? = some (.lst l) := by simp
@[simp] theorem own_isL : isL (.ref s.length) (s ++ [MO.lst l]) = true := by simp [isL, rdLs, rdL]
theorem own_rd : rdLs (s ++ [MO.lst l]) (.ref s.length) = some l := by simp [rdLs, rdL]
theorem own_append {d : D} (h : l.length < sizeLine) : appendO (.ref s.length) [d] (s ++ [.lst l]) = .ok .non (s ++ [.lst (l ++ [d])]) := by
  simp [appendO, h]
theorem own_extT {ys : List D} (h : l.length + ys.length ≤ sizeLine) : extendO (.ref s.length) [.tup ys] (s ++ [.lst l]) = .ok .non (s ++ [.lst (l ++ ys)]) := by
  simp [extendO, h]
theorem own_extL {ys : List D} (h : l.length + ys.length ≤ sizeLine) : extendO (.ref s.length) [.lst ys] (s ++ [.lst l]) = .ok .non (s ++ [.lst (l ++ ys)]) := by
  simp [extendO, h, rdL]
end
section
variable {s : S} {a : Str} {ys : List Str}
def joinOk (a : Str) (ys : List Str) : Prop := (ys.map (·.length)).sum + ys.length * a.length ≤ 16777216
theorem join_lst (h : joinOk a ys) : joinO (.str a) [.lst (ys.map .str)] s = .ok (.str (Txt.join a ys)) s := by
  unfold joinOk at h
  unfold joinO
  simp only [rdLs, rdL, Option.bind, strs_map]
  rw [if_pos h]
theorem join_tup (h : joinOk a ys) : joinO (.str a) [.tup (ys.map .str)] s = .ok (.str (Txt.join a ys)) s := by
  unfold joinOk at h
  unfold joinO
  simp only [strs_map]
  rw [if_pos h]
theorem join_own (h : joinOk a ys) : joinO (.str a) [.ref s.length] (s ++ [.lst (ys.map .str)]) = .ok (.str (Txt.join a ys)) (s ++ [.lst (ys.map .str)]) := by
  unfold joinOk at h
  unfold joinO
  simp only [own_rd, Option.bind, strs_map]
  rw [if_pos h]
@[simp] theorem lit_len {x : String} : (Str.ofString x).length = x.toList.length := by
  rw [Str.ofString_eq_toList]; simp [Str.length]
end
end L2.GS

namespace L2.GS.KK
open PySem PySem.Spec PyProof.Rows
/-! ### a deed's words -/
theorem joinOk_of {a : Str} {ys : List Str} (h : ∀ y ∈ ys, y.length ≤ 100) (hl : ys.length ≤ 100) (ha : a.length ≤ 10) : joinOk a ys := by
  unfold joinOk
  have h1 : (ys.map (·.length)).sum ≤ ys.length * 100 := by
    clear hl
    induction ys with
    | nil => simp
    | cons y r ih =>
      have := ih fun z hz => h z (List.mem_cons_of_mem _ hz)
      have := h y (List.mem_cons_self ..)
      simp only [List.map_cons, List.sum_cons, List.length_cons]
      omega
  have h2 : ys.length * a.length ≤ 100 * 10 := Nat.mul_le_mul hl ha
  omega
theorem joinOk_big {a : Str} {ys : List Str} (h : ∀ y ∈ ys, y.length ≤ 10000) (hl : ys.length ≤ 100) (ha : a.length ≤ 10) : joinOk a ys := by
  unfold joinOk
  have h1 : (ys.map (·.length)).sum ≤ ys.length * 10000 := by
    clear hl
    induction ys with
    | nil => simp
    | cons y r ih =>
      have := ih fun z hz => h z (List.mem_cons_of_mem _ hz)
      have := h y (List.mem_cons_self ..)
      simp only [List.map_cons, List.sum_cons, List.length_cons]
      omega
  have h2 : ys.length * a.length ≤ 100 * 10 := Nat.mul_le_mul hl ha
  omega
theorem join_len (a : Str) : ∀ ys : List Str, (Txt.join a ys).length ≤ (ys.map (·.length)).sum + ys.length * a.length
  | [] => by rw [TL.join_eq]; exact Nat.zero_le _
  | [x] => by rw [TL.join_eq]; show x.length ≤ _; simp
  | x :: y :: r => by
    have ih := join_len a (y :: r)
    rw [TL.join_eq] at ih ⊢
    show (x ++ a ++ Str.join a (y :: r)).length ≤ _
    rw [app_len, app_len]
    simp only [List.map_cons, List.sum_cons, List.length_cons] at ih ⊢
    have : (r.length + 1 + 1) * a.length = (r.length + 1) * a.length + a.length := by rw [Nat.succ_mul]
    omega
theorem join_len_of {a : Str} {ys : List Str} (h : joinOk a ys) (hs : ∀ y ∈ ys, y.length ≤ 100) (hl : ys.length ≤ 10) (ha : a.length ≤ 10) : (Txt.join a ys).length ≤ 10000 := by
  refine Nat.le_trans (join_len a ys) ?_
  have h1 : (ys.map (·.length)).sum ≤ ys.length * 100 := by
    clear hl h
    induction ys with
    | nil => simp
    | cons y r ih =>
      have := ih fun z hz => hs z (List.mem_cons_of_mem _ hz)
      have := hs y (List.mem_cons_self ..)
      simp only [List.map_cons, List.sum_cons, List.length_cons]
      omega
  have h2 : ys.length * a.length ≤ 10 * 10 := Nat.mul_le_mul hl ha
  omega
theorem join_app (a : Str) {ys : List Str} (hy : ys ≠ []) : ∀ xs : List Str, Txt.join a (xs ++ [Txt.join a ys]) = Txt.join a (xs ++ ys)
  | [] => by simp only [List.nil_append]; rw [TL.join_eq]; rfl
  | x :: r => by
    have ih := join_app a hy r
    simp only [TL.join_eq] at ih ⊢
    cases r with
    | nil =>
      cases ys with
      | nil => exact absurd rfl hy
      | cons y q => rfl
    | cons z q =>
      show x ++ a ++ Str.join a (z :: q ++ [Str.join a ys]) = x ++ a ++ Str.join a (z :: q ++ ys)
      rw [ih]
def Sn.text (sn : Sn) : Str := Txt.join ":" sn.words
def Rl.words : Rl → List Str
  | .short w k => [Str.ofString w, k]
  | .long w k sn m u => [Str.ofString w, k, sn.text, dig m, Str.ofString u]
def Deed.words (t : Str) : Deed → List Str
  | .paper _ n k ms => "paper" :: t :: n :: k :: ms
  | .happens _ n w => ["happens", t, n, w]
  | .rule _ n r => (["rule", t, n] : List Str) ++ r.words
  | .end_ _ n => ["end", t, n]
  | .hold _ n tw tn b => (["hold", t, n, Str.ofString tw, tn] : List Str) ++ (if b then (["deep"] : List Str) else [])
  | .lift _ n => ["lift", t, n]
  | .leave _ n k => ["leave", t, n, k]
/-- a word: short, no blank in it -/
structure Wd (x : Str) : Prop where
  l : x.length ≤ 100
  no : 32 ∉ x.cps.toList
  ok : PyData.strOk x = true
theorem Nm.wd {x : Str} (h : Nm x) : Wd x := ⟨Nat.le_trans h.l8 (by decide), h.no rfl, h.ok⟩
theorem wd_lit {x : String} (h : (x.toList.length ≤ 100 ∧ 32 ∉ (x.toList.map Char.toNat))) : Wd (Str.ofString x) := ⟨by rw [lit_len]; exact h.1, by rw [Str.ofString_eq_toList]; simpa using h.2, strOk_lit x⟩
theorem app_list (a b : Str) : (a ++ b).cps.toList = a.cps.toList ++ b.cps.toList := Array.toList_append
theorem ok_app {a b : Str} (ha : PyData.strOk a = true) (hb : PyData.strOk b = true) : PyData.strOk (a ++ b) = true := by
  have : (a ++ b).cps = a.cps ++ b.cps := rfl
  unfold PyData.strOk at *
  rw [this, Array.all_append, ha, hb]; rfl
theorem dig_strOk {x : Str} (h : x.cps.toList.all isDig = true) : PyData.strOk x = true := by
  unfold PyData.strOk
  rw [Array.all_eq_true_iff_forall_mem]
  intro c hc
  have := List.all_eq_true.mp h c (by simpa using hc)
  have : 48 ≤ c ∧ c ≤ 57 := by simpa [isDig] using this
  simp; omega
theorem Sn.wd {sn : Sn} (h : sn.Ok) : Wd sn.text := by
  cases sn with
  | coming => exact wd_lit (x := "coming") (by decide)
  | by_ w n =>
    obtain ⟨hw, hn⟩ := h
    have e : Sn.text (.by_ w n) = Str.ofString w ++ ":" ++ n := by
      unfold Sn.text; rw [TL.join_eq]; rfl
    have l1 := hn.l8
    refine ⟨?_, ?_, by rw [e]; exact ok_app (ok_app (strOk_lit w) (strOk_lit _)) hn.ok⟩
    · rw [e, app_len, app_len]
      rcases hw with rfl | rfl <;> simp <;> omega
    · rw [e, app_list, app_list]
      have := hn.no (k := 32) rfl
      rcases hw with rfl | rfl <;> simp [Str.ofString_eq_toList] at * <;> exact this
theorem okM_of {m : Int} (h0 : 0 ≤ m) (h1 : m ≤ 999) : 1 ≤ (dig m).length ∧ (dig m).length ≤ 3 ∧ (dig m).cps.toList.all isDig = true ∧ PySem.intText? (dig m) = some m ∧ (atI (dig m).cps.toList 0 = some 48 → dig m = "0") := by
  have h := List.all_eq_true.mp okM_all m.toNat (List.mem_range.mpr (by omega))
  have e : (m.toNat : Int) = m := by omega
  unfold okM at h
  rw [e] at h
  simp only [Bool.and_eq_true, decide_eq_true_eq, Bool.or_eq_true, Bool.not_eq_true', decide_eq_false_iff_not] at h
  refine ⟨h.1.1, h.1.2, h.2.1, h.2.2.1, fun q => ?_⟩
  rcases h.2.2.2 with z | z
  · exact absurd q z
  · exact z
theorem dig_wd {m : Int} (h0 : 0 ≤ m) (h1 : m ≤ 999) : Wd (dig m) := by
  obtain ⟨a, b, c, _⟩ := okM_of h0 h1
  exact ⟨by omega, dig_no c rfl, dig_strOk c⟩
theorem Rl.wd {r : Rl} (h : r.Ok) : ∀ x ∈ r.words, Wd x := by
  cases r with
  | short w k =>
    obtain ⟨hw, hk⟩ := h
    intro x hx
    simp only [Rl.words, List.mem_cons, List.mem_nil_iff, or_false] at hx
    rcases hx with rfl | rfl
    · rcases hw with rfl | rfl | rfl <;> exact wd_lit (by decide)
    · exact hk.wd
  | long w k sn m u =>
    obtain ⟨hw, hk, hs, h0, h1, hu⟩ := h
    intro x hx
    simp only [Rl.words, List.mem_cons, List.mem_nil_iff, or_false] at hx
    rcases hx with rfl | rfl | rfl | rfl | rfl
    · rcases hw with rfl | rfl <;> exact wd_lit (by decide)
    · exact hk.wd
    · exact Sn.wd hs
    · exact dig_wd h0 h1
    · rcases hu with rfl | rfl | rfl <;> exact wd_lit (by decide)
theorem s_show_since {sn : Sn} (h : sn.Ok) (s : S) : F_show_since [sn.D] s = .ok (.str sn.text) s := by
  unfold F_show_since b_show_since
  cases sn with
  | coming =>
    have hj := join_tup (s := s) (a := ":") (ys := ["coming"]) (joinOk_of (by simp) (by simp) (by simp))
    simp at hj
    simp [runB_eq, startE, Sn.D, MSort.ty, isStr, hj, Sn.text, Sn.words]
  | by_ w n =>
    obtain ⟨hw, hn⟩ := h
    have hj := join_tup (s := s) (a := ":") (ys := [Str.ofString w, n]) (joinOk_of (by have := hn.l8; rcases hw with rfl | rfl <;> simp <;> omega) (by simp) (by simp))
    simp at hj
    simp [runB_eq, startE, Sn.D, MSort.ty, isStr, hj, Sn.text, Sn.words]
theorem s_show_rule {r : Rl} (h : r.Ok) (s : S) : F_show_rule [r.D] s = .ok (.str (Txt.join " " r.words)) s := by
  have hwd := Rl.wd h
  unfold F_show_rule b_show_rule
  cases r with
  | short w k =>
    have hj := join_tup (s := s) (a := " ") (ys := [Str.ofString w, k]) (joinOk_of (fun y hy => (hwd y hy).l) (by simp) (by simp))
    simp at hj
    simp [runB_eq, startE, Rl.D, MSort.ty, isStr, hj, Rl.words]
  | long w k sn m u =>
    obtain ⟨hw, hk, hs, h0, h1, hu⟩ := h
    have hj := join_lst (s := s) (a := " ") (ys := [Str.ofString w, k, sn.text, dig m, Str.ofString u]) (joinOk_of (fun y hy => (hwd y hy).l) (by simp) (by simp))
    simp at hj
    have ds := dig_str (n := m) (by have : m.natAbs ≤ 999 := by omega
                                    exact Nat.lt_of_le_of_lt this (by decide)) s
    simp [runB_eq, startE, Rl.D, MSort.ty, isStr, gtTup, gtCons, gtNil, s_show_since hs, ds, sizeLine, hj, Rl.words]
end L2.GS.KK

namespace L2.GS.KK
open PySem PySem.Spec PyProof.Rows
theorem day_wd {d y m n : Int} (h1 : d ≤ 99999) (hD : Date d y m n) : Wd (dayText y m n) := by
  have hy := okY_of hD.y1 (hD.y2 h1)
  have hl := len_pos (y := y) (m := m)
  have hm1 := hD.m1
  have hm2 := hD.m2
  have hn1 := hD.n1
  have hn2 := hD.n2
  have tm := okT_of (y := m) (by omega) (by omega)
  have tn := okT_of (y := n) (by omega) (by omega)
  refine ⟨?_, ?_, ok_app (ok_app (ok_app (ok_app (dig_strOk hy.dig) (strOk_lit _)) (dig_strOk tm.dig)) (strOk_lit _)) (dig_strOk tn.dig)⟩
  · unfold dayText
    simp only [app_len, hy.len, tm.len, tn.len]
    simp
  · unfold dayText
    simp only [app_list, List.mem_append, not_or]
    exact ⟨⟨⟨⟨dig_no hy.dig rfl, by simp [Str.ofString_eq_toList]⟩, dig_no tm.dig rfl⟩, by simp [Str.ofString_eq_toList]⟩, dig_no tn.dig rfl⟩
theorem Deed.wd {x : Deed} (h : x.Ok) {t : Str} (ht : Wd t) : ∀ w ∈ x.words t, Wd w := by
  obtain ⟨d0, d1, hn, hr⟩ := h
  intro w hw
  cases x with
  | paper d n k ms =>
    obtain ⟨hk, hm⟩ := hr
    replace hn : Nm n := hn
    simp only [Deed.words, List.mem_cons] at hw
    rcases hw with rfl | rfl | rfl | rfl | hw
    · exact wd_lit (by decide)
    · exact ht
    · exact hn.wd
    · exact hk.wd
    · exact (hm.nm w hw).wd
  | happens d n k =>
    replace hr : Nm k := hr
    replace hn : Nm n := hn
    simp only [Deed.words, List.mem_cons, List.mem_nil_iff, or_false] at hw
    rcases hw with rfl | rfl | rfl | rfl
    · exact wd_lit (by decide)
    · exact ht
    · exact hn.wd
    · exact hr.wd
  | rule d n r =>
    replace hr : r.Ok := hr
    replace hn : Nm n := hn
    simp only [Deed.words, List.mem_append, List.mem_cons, List.mem_nil_iff, or_false] at hw
    rcases hw with (rfl | rfl | rfl) | hw
    · exact wd_lit (by decide)
    · exact ht
    · exact hn.wd
    · exact Rl.wd hr w hw
  | end_ d n =>
    replace hn : Nm n := hn
    simp only [Deed.words, List.mem_cons, List.mem_nil_iff, or_false] at hw
    rcases hw with rfl | rfl | rfl
    · exact wd_lit (by decide)
    · exact ht
    · exact hn.wd
  | hold d n tw tn b =>
    obtain ⟨hw', hn'⟩ := hr
    replace hn : Nm n := hn
    simp only [Deed.words, List.mem_append, List.mem_cons, List.mem_nil_iff, or_false] at hw
    rcases hw with (rfl | rfl | rfl | rfl | rfl) | hw
    · exact wd_lit (by decide)
    · exact ht
    · exact hn.wd
    · rcases hw' with rfl | rfl <;> exact wd_lit (by decide)
    · exact hn'.wd
    · cases b with
      | true => simp at hw; subst hw; exact wd_lit (by decide)
      | false => simp at hw
  | lift d n =>
    replace hn : Nm n := hn
    simp only [Deed.words, List.mem_cons, List.mem_nil_iff, or_false] at hw
    rcases hw with rfl | rfl | rfl
    · exact wd_lit (by decide)
    · exact ht
    · exact hn.wd
  | leave d n k =>
    replace hr : Nm k := hr
    replace hn : Nm n := hn
    simp only [Deed.words, List.mem_cons, List.mem_nil_iff, or_false] at hw
    rcases hw with rfl | rfl | rfl | rfl
    · exact wd_lit (by decide)
    · exact ht
    · exact hn.wd
    · exact hr.wd
theorem Deed.few {x : Deed} (h : x.Ok) {t : Str} : (x.words t).length ≤ 100 := by
  obtain ⟨d0, d1, hn, hr⟩ := h
  cases x with
  | paper d n k ms =>
    obtain ⟨hk, hm⟩ := hr
    have := hm.l4
    simp [Deed.words]; omega
  | rule d n r => cases r <;> simp [Deed.words, Rl.words]
  | hold d n tw tn b => cases b <;> simp [Deed.words]
  | _ => simp [Deed.words]
def Deed.text (x : Deed) (t : Str) : Str := Txt.join " " (x.words t)
/-! ### a deed shown -/
theorem s_show_deed {x : Deed} (h : x.Ok) {y m n : Int} (hD : Date x.day y m n) (s : S) : ∃ l, F_show_deed [x.D] s = .ok (.str (x.text (dayText y m n))) (s ++ [.lst l]) := by
  have hj := joinOk_of (a := " ") (fun w hw => (Deed.wd h (day_wd h.d1 hD) w hw).l) (Deed.few h) (by simp)
  have jo := fun s => join_own (s := s) hj
  obtain ⟨d0, d1, hn, hr⟩ := h
  have sd := s_show_day d0 d1 hD
  have ht := (day_wd d1 hD).l
  generalize dayText y m n = t at *
  unfold F_show_deed b_show_deed
  cases x with
  | paper d nn k ms =>
    obtain ⟨hk, hm⟩ := hr
    replace sd : ∀ s, F_show_day [.int d] s = .ok (.str t) s := sd
    have a1 := fun s => own_append (s := s) (l := [.str "paper", .str t, .str nn]) (d := .str k) (by simp [sizeLine])
    have a2 := fun s => own_extT (s := s) (l := [.str "paper", .str t, .str nn, .str k]) (ys := ms.map .str) (by have := hm.l4; simp [sizeLine]; omega)
    refine ⟨[.str "paper", .str t, .str nn, .str k] ++ ms.map .str, ?_⟩
    have jo' := jo s
    simp [Deed.words] at jo'
    simp at a1 a2
    simp [runB_eq, startE, Deed.D, sd, sizeLine, MSort.ty, isStr, a1, a2, jo', Deed.text, Deed.words]
  | happens d nn w =>
    replace sd : ∀ s, F_show_day [.int d] s = .ok (.str t) s := sd
    have a1 := fun s => own_extT (s := s) (l := [.str "happens", .str t, .str nn]) (ys := [.str w]) (by simp [sizeLine])
    refine ⟨[.str "happens", .str t, .str nn, .str w], ?_⟩
    have jo' := jo s
    simp [Deed.words] at jo'
    simp at a1
    simp [runB_eq, startE, Deed.D, sd, sizeLine, MSort.ty, isStr, slO, cutD, HT.sIx, a1, jo', Deed.text, Deed.words]
  | rule d nn r =>
    replace hr : r.Ok := hr
    replace hn : Nm nn := hn
    replace sd : ∀ s, F_show_day [.int d] s = .ok (.str t) s := sd
    have a1 := fun s => own_append (s := s) (l := [.str "rule", .str t, .str nn]) (d := .str (Txt.join " " r.words)) (by simp [sizeLine])
    refine ⟨[.str "rule", .str t, .str nn, .str (Txt.join " " r.words)], ?_⟩
    have hne : r.words ≠ [] := by cases r <;> simp [Rl.words]
    have e := join_app " " hne (["rule", t, nn] : List Str)
    have hrl : (Txt.join " " r.words).length ≤ 10000 := join_len_of (joinOk_of (fun w hw => (Rl.wd hr w hw).l) (by cases r <;> simp [Rl.words]) (by simp)) (fun w hw => (Rl.wd hr w hw).l) (by cases r <;> simp [Rl.words]) (by simp)
    have jo' := join_own (s := s) (a := " ") (ys := (["rule", t, nn, Txt.join " " r.words] : List Str)) (joinOk_big (by
      intro w hw
      simp only [List.mem_cons, List.mem_nil_iff, or_false] at hw
      rcases hw with rfl | rfl | rfl | rfl
      · simp
      · exact Nat.le_trans ht (by decide)
      · exact Nat.le_trans hn.l8 (by decide)
      · exact hrl) (by simp) (by simp))
    rw [show (["rule", t, nn, Txt.join " " r.words] : List Str) = (["rule", t, nn] : List Str) ++ [Txt.join " " r.words] from rfl, e] at jo'
    simp at jo'
    simp at a1
    simp [runB_eq, startE, Deed.D, sd, sizeLine, MSort.ty, isStr, s_show_rule hr, a1, jo', Deed.text, Deed.words]
  | end_ d nn =>
    replace sd : ∀ s, F_show_day [.int d] s = .ok (.str t) s := sd
    have a1 := fun s => own_extT (s := s) (l := [.str "end", .str t, .str nn]) (ys := []) (by simp [sizeLine])
    refine ⟨[.str "end", .str t, .str nn], ?_⟩
    have jo' := jo s
    simp [Deed.words] at jo'
    simp at a1
    simp [runB_eq, startE, Deed.D, sd, sizeLine, MSort.ty, isStr, slO, cutD, HT.sIx, a1, jo', Deed.text, Deed.words]
  | hold d nn tw tn b =>
    replace sd : ∀ s, F_show_day [.int d] s = .ok (.str t) s := sd
    have a1 := fun s => own_extT (s := s) (l := [.str "hold", .str t, .str nn]) (ys := [.str (Str.ofString tw), .str tn]) (by simp [sizeLine])
    have a2 := fun s ys hl => own_extL (s := s) (l := [.str "hold", .str t, .str nn, .str (Str.ofString tw), .str tn]) (ys := ys) hl
    have jo' := jo s
    simp [Deed.words] at jo'
    simp at a1
    cases b with
    | true =>
      have a3 := a2 s [.str "deep"] (by simp [sizeLine])
      simp at a3 jo'
      have hm : ∀ s, mulO (.lst [.str "deep"]) (.int 1) s = .ok (.lst [.str "deep"]) s := fun s => by kernel_rfl
      refine ⟨[.str "hold", .str t, .str nn, .str (Str.ofString tw), .str tn, .str "deep"], ?_⟩
      simp [runB_eq, startE, Deed.D, sd, sizeLine, MSort.ty, isStr, intO, hm, a1, a3, jo', Deed.text, Deed.words]
    | false =>
      have a3 := a2 s [] (by simp [sizeLine])
      simp at a3 jo'
      have hm : ∀ s, mulO (.lst [.str "deep"]) (.int 0) s = .ok (.lst []) s := fun s => by kernel_rfl
      refine ⟨[.str "hold", .str t, .str nn, .str (Str.ofString tw), .str tn], ?_⟩
      simp [runB_eq, startE, Deed.D, sd, sizeLine, MSort.ty, isStr, intO, hm, a1, a3, jo', Deed.text, Deed.words]
  | lift d nn =>
    replace sd : ∀ s, F_show_day [.int d] s = .ok (.str t) s := sd
    have a1 := fun s => own_extT (s := s) (l := [.str "lift", .str t, .str nn]) (ys := []) (by simp [sizeLine])
    refine ⟨[.str "lift", .str t, .str nn], ?_⟩
    have jo' := jo s
    simp [Deed.words] at jo'
    simp at a1
    simp [runB_eq, startE, Deed.D, sd, sizeLine, MSort.ty, isStr, slO, cutD, HT.sIx, a1, jo', Deed.text, Deed.words]
  | leave d nn w =>
    replace sd : ∀ s, F_show_day [.int d] s = .ok (.str t) s := sd
    have a1 := fun s => own_extT (s := s) (l := [.str "leave", .str t, .str nn]) (ys := [.str w]) (by simp [sizeLine])
    refine ⟨[.str "leave", .str t, .str nn, .str w], ?_⟩
    have jo' := jo s
    simp [Deed.words] at jo'
    simp at a1
    simp [runB_eq, startE, Deed.D, sd, sizeLine, MSort.ty, isStr, slO, cutD, HT.sIx, a1, jo', Deed.text, Deed.words]
end L2.GS.KK

namespace L2.GS
open PySem PySem.Spec PyProof.Rows
theorem own_add {s : S} {l ys : List D} (h : l.length + ys.length ≤ sizeLine) : addO (.ref s.length) (.lst ys) (s ++ [.lst l]) = .ok (.lst (l ++ ys)) (s ++ [.lst l]) := by
  simp [addO, rdL, h]
theorem add_lst {s : S} {l ys : List D} (h : l.length + ys.length ≤ sizeLine) : addO (.lst l) (.lst ys) s = .ok (.lst (l ++ ys)) s := by
  simp [addO, rdL, h]
theorem add_tup {s : S} {l ys : List D} (h : l.length + ys.length ≤ sizeLine) : addO (.tup l) (.tup ys) s = .ok (.tup (l ++ ys)) s := by
  simp [addO, h]
@[simp] theorem lis_tup {s : S} {l : List D} : lisO [.tup l] s = .ok (.lst l) s := rfl
@[simp] theorem tup_tup {s : S} {l : List D} : tupO [.tup l] s = .ok (.tup l) s := rfl
@[simp] theorem tup_lst {s : S} {l : List D} : tupO [.lst l] s = .ok (.tup l) s := rfl
end L2.GS
namespace L2.GS.KK
open PySem PySem.Spec PyProof.Rows
theorem s_w_written {x : Deed} (h : x.Ok) {y m n : Int} (hD : Date x.day y m n) (s : S) : ∃ l, F_w_written [x.D] s = .ok (.str (x.text (dayText y m n))) (s ++ [.lst l]) := by
  have hj := joinOk_of (a := " ") (fun w hw => (Deed.wd h (day_wd h.d1 hD) w hw).l) (Deed.few h) (by simp)
  have jo := fun s => join_own (s := s) hj
  have jl := fun s => join_lst (s := s) hj
  obtain ⟨d0, d1, hn, hr⟩ := h
  have sd := s_w_day_text d0 d1 hD
  have ht := (day_wd d1 hD).l
  generalize dayText y m n = t at *
  unfold F_w_written b_w_written
  cases x with
  | paper d nn k ms =>
    obtain ⟨hk, hm⟩ := hr
    replace sd : ∀ s, F_w_day_text [.int d] s = .ok (.str t) s := sd
    have a1 := own_add (s := s) (l := [.str "paper", .str t, .str nn]) (ys := [.str k]) (by simp [sizeLine])
    have a2 := fun s => add_lst (s := s) (l := [.str "paper", .str t, .str nn, .str k]) (ys := ms.map .str) (by have := hm.l4; simp [sizeLine]; omega)
    refine ⟨[.str "paper", .str t, .str nn], ?_⟩
    have jl' := fun s => jl s
    simp [Deed.words] at jl'
    simp at a1 a2
    simp [runB_eq, startE, Deed.D, sd, sizeLine, MSort.ty, isStr, a1, a2, jl', Deed.text, Deed.words]
  | happens d nn w =>
    replace sd : ∀ s, F_w_day_text [.int d] s = .ok (.str t) s := sd
    have a1 := own_append (s := s) (l := [.str "happens", .str t, .str nn]) (d := .str w) (by simp [sizeLine])
    refine ⟨[.str "happens", .str t, .str nn, .str w], ?_⟩
    have jo' := jo s
    simp [Deed.words] at jo'
    simp at a1
    simp [runB_eq, startE, Deed.D, sd, sizeLine, MSort.ty, isStr, a1, jo', Deed.text, Deed.words]
  | rule d nn r =>
    replace hr : r.Ok := hr
    replace sd : ∀ s, F_w_day_text [.int d] s = .ok (.str t) s := sd
    refine ⟨[.str "rule", .str t, .str nn], ?_⟩
    have jl' := fun s => jl s
    cases r with
    | short w k =>
      have a1 := own_add (s := s) (l := [.str "rule", .str t, .str nn]) (ys := [.str (Str.ofString w), .str k]) (by simp [sizeLine])
      simp [Deed.words, Rl.words] at jl'
      simp at a1
      simp [runB_eq, startE, Deed.D, Rl.D, sd, sizeLine, MSort.ty, isStr, slO, cutD, HT.sIx, a1, jl', Deed.text, Deed.words, Rl.words]
    | long w k sn m u =>
      obtain ⟨hw, hk, hs, h0, h1, hu⟩ := hr
      have a1 := own_add (s := s) (l := [.str "rule", .str t, .str nn]) (ys := [.str (Str.ofString w), .str k]) (by simp [sizeLine])
      have a2 := fun s => add_lst (s := s) (l := [.str "rule", .str t, .str nn, .str (Str.ofString w), .str k]) (ys := [.str sn.text, .str (dig m), .str (Str.ofString u)]) (by simp [sizeLine])
      have ds := fun s => dig_str (n := m) (by have : m.natAbs ≤ 999 := by omega
                                               exact Nat.lt_of_le_of_lt this (by decide)) s
      have js : ∀ s, joinO (.str ":") [sn.D] s = .ok (.str sn.text) s := fun s => by
        cases sn with
        | coming =>
          have hj := join_tup (s := s) (a := ":") (ys := ["coming"]) (joinOk_of (by simp) (by simp) (by simp))
          exact hj
        | by_ w n =>
          obtain ⟨hw, hn⟩ := hs
          have hj := join_tup (s := s) (a := ":") (ys := [Str.ofString w, n]) (joinOk_of (by have := hn.l8; rcases hw with rfl | rfl <;> simp <;> omega) (by simp) (by simp))
          exact hj
      simp [Deed.words, Rl.words] at jl'
      simp at a1 a2
      simp [runB_eq, startE, Deed.D, Rl.D, sd, sizeLine, MSort.ty, isStr, slO, cutD, HT.sIx, a1, a2, ds, js, jl', Deed.text, Deed.words, Rl.words]
  | end_ d nn =>
    replace sd : ∀ s, F_w_day_text [.int d] s = .ok (.str t) s := sd
    refine ⟨[.str "end", .str t, .str nn], ?_⟩
    have jo' := jo s
    simp [Deed.words] at jo'
    simp [runB_eq, startE, Deed.D, sd, sizeLine, MSort.ty, isStr, jo', Deed.text, Deed.words]
  | hold d nn tw tn b =>
    replace sd : ∀ s, F_w_day_text [.int d] s = .ok (.str t) s := sd
    have a1 := own_add (s := s) (l := [.str "hold", .str t, .str nn]) (ys := [.str (Str.ofString tw), .str tn]) (by simp [sizeLine])
    have a2 := fun s ys hl => add_lst (s := s) (l := [.str "hold", .str t, .str nn, .str (Str.ofString tw), .str tn]) (ys := ys) hl
    refine ⟨[.str "hold", .str t, .str nn], ?_⟩
    have jl' := fun s => jl s
    simp [Deed.words] at jl'
    simp at a1
    cases b with
    | true =>
      have a3 := fun s => a2 s [.str "deep"] (by simp [sizeLine])
      simp at a3 jl'
      have hm : ∀ s, mulO (.lst [.str "deep"]) (.int 1) s = .ok (.lst [.str "deep"]) s := fun s => by kernel_rfl
      simp [runB_eq, startE, Deed.D, sd, sizeLine, MSort.ty, isStr, intO, hm, a1, a3, jl', Deed.text, Deed.words]
    | false =>
      have a3 := fun s => a2 s [] (by simp [sizeLine])
      simp at a3 jl'
      have hm : ∀ s, mulO (.lst [.str "deep"]) (.int 0) s = .ok (.lst []) s := fun s => by kernel_rfl
      simp [runB_eq, startE, Deed.D, sd, sizeLine, MSort.ty, isStr, intO, hm, a1, a3, jl', Deed.text, Deed.words]
  | lift d nn =>
    replace sd : ∀ s, F_w_day_text [.int d] s = .ok (.str t) s := sd
    refine ⟨[.str "lift", .str t, .str nn], ?_⟩
    have jo' := jo s
    simp [Deed.words] at jo'
    simp [runB_eq, startE, Deed.D, sd, sizeLine, MSort.ty, isStr, jo', Deed.text, Deed.words]
  | leave d nn w =>
    replace sd : ∀ s, F_w_day_text [.int d] s = .ok (.str t) s := sd
    have a1 := own_append (s := s) (l := [.str "leave", .str t, .str nn]) (d := .str w) (by simp [sizeLine])
    refine ⟨[.str "leave", .str t, .str nn, .str w], ?_⟩
    have jo' := jo s
    simp [Deed.words] at jo'
    simp at a1
    simp [runB_eq, startE, Deed.D, sd, sizeLine, MSort.ty, isStr, a1, jo', Deed.text, Deed.words]
end L2.GS.KK

namespace L2.GS
open PySem PySem.Spec PyProof.Rows
theorem toPs_strs : ∀ ys : List Str, toPs (ys.map D.str) = some (ys.map PyData.str)
  | [] => rfl
  | y :: r => by simp [toPs, toP, toPs_strs r]
theorem can_strs : ∀ {ys : List Str}, (∀ y ∈ ys, PyData.strOk y = true) → PyData.canLayAll0 (ys.map PyData.str) = true
  | [], _ => rfl
  | y :: r, h => by
    simp only [List.map_cons, PyData.canLayAll0, PyData.canLay0, h y (List.mem_cons_self ..), can_strs (fun z hz => h z (List.mem_cons_of_mem _ hz)), Bool.and_self]
theorem depth_strs : ∀ ys : List Str, PyData.depthAll (ys.map PyData.str) = 0
  | [] => rfl
  | y :: r => by simp [PyData.depthAll, PyData.depth, depth_strs r]
theorem eqv_strs : ∀ xs ys : List Str, PyData.eqvAll (xs.map PyData.str) (ys.map PyData.str) = decide (xs = ys)
  | [], [] => rfl
  | [], _ :: _ => rfl
  | _ :: _, [] => rfl
  | x :: r, y :: q => by
    simp only [List.map_cons, PyData.eqvAll, PyData.eqv, eqv_strs r q]
    by_cases h1 : x = y <;> by_cases h2 : r = q <;> simp [h1, h2]
theorem eq_strs {n : Bool} {xs ys : List Str} {s : S} (hx : ∀ y ∈ xs, PyData.strOk y = true) (hy : ∀ y ∈ ys, PyData.strOk y = true) : eqO n (.lst (xs.map .str)) (.lst (ys.map .str)) s = .ok (.bl (if n then !decide (xs = ys) else decide (xs = ys))) s := by
  rw [eq_any (p := .list (xs.map .str)) (q := .list (ys.map .str)) (by simp [vw, toP, toPs_strs]) (by simp [vw, toP, toPs_strs]) (by simp [SeqAt.shaped, PyData.canLay0, can_strs hx, can_strs hy, PyData.depth, depth_strs])]
  simp only [PyData.eqv, eqv_strs]
end L2.GS
namespace L2.GS.KK
open PySem PySem.Spec PyProof.Rows
theorem s_many_in {m : Int} (h0 : 0 ≤ m) (h1 : m ≤ 999) (s : S) : F_many_in [.str (dig m)] s = .ok (.int m) s := by
  obtain ⟨a, b, hd, hi, hz⟩ := okM_of h0 h1
  have l1 := len_ok (x := dig m) (n := 100) (by omega)
  have a1 : (1 : Int) ≤ ((dig m).length : Int) := by omega
  have a2 : ((dig m).length : Int) ≤ 3 := by omega
  have ha := fun s => comp_signs (T := d_FIGURES) (i := 1) (env := [some (.str (dig m)), none]) (s := s) (a := cVar 0) (x := dig m) (fun _ => true) (by simp) (fun c hc => figs (List.all_eq_true.mp hd c hc) s) (by simp) (Nat.le_trans b (by decide))
  have i1 := int_str (x := dig m) (by omega) hi
  obtain ⟨c0, hc0⟩ : ∃ c0, atI (dig m).cps.toList 0 = some c0 := by
    have : (dig m).cps.toList ≠ [] := fun e => by
      unfold Str.length at a
      rw [← Array.length_toList, e] at a
      simp at a
    rw [atI_0 this]
    cases q : (dig m).cps.toList with
    | nil => exact absurd q this
    | cons a r => exact ⟨a, rfl⟩
  have hix : ∀ s, ixO (.str (dig m)) (.int 0) s = .ok (.str ⟨#[c0]⟩) s := fun s => by
    show (if (dig m).length ≤ sizeLine then _ else _) = _
    rw [if_pos (Nat.le_trans b (by decide)), hc0]
  have hc0d : isDig c0 = true := by
    have hm : c0 ∈ (dig m).cps.toList := by
      unfold atI at hc0
      obtain ⟨j, _, e⟩ := Option.bind_eq_some_iff.mp hc0
      exact List.mem_of_getElem? e
    exact List.all_eq_true.mp hd c0 hm
  have h58 : c0 < 58 := by
    have : 48 ≤ c0 ∧ c0 ≤ 57 := by simpa [isDig] using hc0d
    omega
  have ok0 : PyData.strOk ⟨#[c0]⟩ = true := by show (#[c0] : Array Nat).all (· < 0x110000) = true; simp; omega
  have he1 : ∀ s, eqO false (.str ⟨#[c0]⟩) (.str "0") s = .ok (.bl (decide (c0 = 48))) s := fun s => by
    rw [eq_str0 ok0 (by decide +kernel)]
    have : ((⟨#[c0]⟩ : Str) = "0") ↔ c0 = 48 := ⟨fun e => by
      have : (#[c0] : Array Nat) = #[48] := congrArg Str.cps e
      simpa using this, fun e => by subst e; rfl⟩
    simp [this]
  have he2 : ∀ s, eqO true (.str (dig m)) (.str "0") s = .ok (.bl (!decide (dig m = "0"))) s := fun s => by
    rw [eq_str0 (dig_strOk hd) (by decide +kernel)]
    rfl
  unfold F_many_in b_many_in
  by_cases hz0 : c0 = 48
  · subst hz0
    have hd0 := hz hc0
    have he2' : ∀ s, eqO true (.str (dig m)) (.str "0") s = .ok (.bl false) s := fun s => by rw [he2 s, decide_eq_true hd0]; rfl
    simp [runB_eq, startE, l1, a1, a2, ha, hix, he1, he2', i1]
  · simp [runB_eq, startE, l1, a1, a2, ha, hix, he1, he2, hz0, i1]
theorem sn_split {sn : Sn} (h : sn.Ok) (s : S) : splitO (.str sn.text) [.str ":"] s = .ok (.lst (sn.words.map .str)) s := by
  have e : Txt.split sn.text ":" = sn.words := by
    unfold Sn.text
    refine TL.split_join (s := 58) (S := []) rfl (by decide +kernel) (by cases sn <;> simp [Sn.words]) fun p hp => ?_
    cases sn with
    | coming =>
      simp only [Sn.words, List.mem_cons, List.mem_nil_iff, or_false] at hp
      subst hp
      simp [Str.ofString_eq_toList]
    | by_ w n =>
      obtain ⟨hw, hn⟩ := h
      simp only [Sn.words, List.mem_cons, List.mem_nil_iff, or_false] at hp
      rcases hp with rfl | rfl
      · rcases hw with rfl | rfl <;> simp [Str.ofString_eq_toList]
      · exact hn.no rfl
  have hl := (Sn.wd h).l
  show (if _ then _ else _) = _
  rw [if_pos ⟨by decide, Nat.le_trans (Nat.add_le_add_right hl 2) (by decide)⟩, e]
theorem s_parts_in {r : Rl} (h : r.Ok) (s : S) : F_parts_in [.lst (r.words.map .str)] s = .ok r.D s := by
  unfold F_parts_in b_parts_in
  cases r with
  | short w k => simp [runB_eq, startE, Rl.words, Rl.D]
  | long w k sn m u =>
    obtain ⟨hw, hk, hs, h0, h1, hu⟩ := h
    have sp := sn_split hs
    have e : sn.D = .tup (sn.words.map .str) := by cases sn <;> rfl
    simp [runB_eq, startE, Rl.words, Rl.D, MSort.ty, isStr, sp, s_many_in h0 h1, sizeLine, e]

theorem text_split {x : Deed} (h : x.Ok) {t : Str} (ht : Wd t) : Txt.split (x.text t) " " = x.words t := by
  unfold Deed.text
  exact TL.split_join (s := 32) (S := []) rfl (by decide +kernel) (by cases x <;> simp [Deed.words]) fun p hp => (Deed.wd h ht p hp).no
theorem text_len {x : Deed} (h : x.Ok) {t : Str} (ht : Wd t) : (x.text t).length ≤ 11000 := by
  have h1 := join_len " " (x.words t)
  have h2 : ((x.words t).map (·.length)).sum ≤ (x.words t).length * 100 := by
    have hw := fun w hw => (Deed.wd h ht w hw).l
    generalize x.words t = ys at *
    clear h1
    induction ys with
    | nil => simp
    | cons y r ih =>
      have := ih fun z hz => hw z (List.mem_cons_of_mem _ hz)
      have := hw y (List.mem_cons_self ..)
      simp only [List.map_cons, List.sum_cons, List.length_cons]
      omega
  have h3 := Deed.few h (t := t)
  have h4 : (" " : Str).length = 1 := rfl
  rw [h4] at h1
  unfold Deed.text
  omega
theorem text_count {x : Deed} (h : x.Ok) {t : Str} (ht : Wd t) : Txt.count (x.text t) " " = (x.words t).length - 1 := by
  have e : (" " : Str) = ⟨#[32]⟩ := rfl
  have h1 := PyProof.Rows.split_len (x.text t) 32
  have h2 := PyProof.Rows.count_is (x.text t) 32
  rw [← e] at h1 h2
  rw [text_split h ht] at h1
  have h3 : Txt.count (x.text t) " " = cnt 32 (x.text t).cps.toList := h2
  omega
theorem s_told_by {x : Deed} (h : x.Ok) {y m n : Int} (hD : Date x.day y m n) (s : S) : F_told_by [.lst ((x.words (dayText y m n)).map .str)] s = .ok x.D s := by
  obtain ⟨d0, d1, hn, hr⟩ := h
  have sd := s_day_in d0 d1 hD
  generalize dayText y m n = t at *
  unfold F_told_by b_told_by
  cases x with
  | paper d nn k ms =>
    obtain ⟨hk, hm⟩ := hr
    replace sd : ∀ s, F_day_in [.str t] s = .ok (.int d) s := sd
    have e1 := fun s => eq_strs (n := true) (xs := k :: ms) (ys := []) (s := s) (by
      intro z hz
      rcases List.mem_cons.mp hz with rfl | hz
      · exact hk.ok
      · exact (hm.nm z hz).ok) (by simp)
    have c3 : ∀ (a b c e : D) (l : List D) s, slO (.lst (a :: b :: c :: e :: l)) (some 3) none s = .ok (.lst (e :: l)) s := fun a b c e l s => by
      show R.ok (GS.D.lst (cutD _ _ _)) s = _
      unfold cutD
      have h1 : HT.sIx (a :: b :: c :: e :: l).length 0 (some 3) = 3 := by simp [HT.sIx]
      have h2 : HT.sIx (a :: b :: c :: e :: l).length (a :: b :: c :: e :: l).length none = l.length + 4 := by simp [HT.sIx]
      rw [h1, h2]; simp
    have c1 : ∀ (a : D) (l : List D) s, slO (.lst (a :: l)) (some 1) none s = .ok (.lst l) s := fun a l s => by
      show R.ok (GS.D.lst (cutD _ _ _)) s = _
      unfold cutD
      have h1 : HT.sIx (a :: l).length 0 (some 1) = 1 := by simp [HT.sIx]
      have h2 : HT.sIx (a :: l).length (a :: l).length none = l.length + 1 := by simp [HT.sIx]
      rw [h1, h2]; simp
    simp at e1
    have a1 := fun s => add_tup (s := s) (l := [.str "paper", .int d, .str nn]) (ys := [.str k, .tup (ms.map .str)]) (by simp [sizeLine])
    simp at a1
    simp [runB_eq, startE, Deed.words, Deed.D, sd, sizeLine, c3, c1, e1, a1]
  | happens d nn w =>
    replace sd : ∀ s, F_day_in [.str t] s = .ok (.int d) s := sd
    simp [runB_eq, startE, Deed.words, Deed.D, sd, sizeLine, slO, rdLs, rdL, cutD, HT.sIx, addO]
  | rule d nn r =>
    replace hr : r.Ok := hr
    replace sd : ∀ s, F_day_in [.str t] s = .ok (.int d) s := sd
    have sp := s_parts_in hr
    have c3 : ∀ (a b c : D) (l : List D) s, slO (.lst (a :: b :: c :: l)) (some 3) none s = .ok (.lst l) s := fun a b c l s => by
      show R.ok (GS.D.lst (cutD _ _ _)) s = _
      unfold cutD
      have h1 : HT.sIx (a :: b :: c :: l).length 0 (some 3) = 3 := by simp [HT.sIx]
      have h2 : HT.sIx (a :: b :: c :: l).length (a :: b :: c :: l).length none = l.length + 3 := by simp [HT.sIx]
      rw [h1, h2]; simp
    simp [runB_eq, startE, Deed.words, Deed.D, sd, sizeLine, c3, sp, addO]
  | end_ d nn =>
    replace sd : ∀ s, F_day_in [.str t] s = .ok (.int d) s := sd
    simp [runB_eq, startE, Deed.words, Deed.D, sd, sizeLine, slO, rdLs, rdL, cutD, HT.sIx, addO]
  | hold d nn tw tn b =>
    replace sd : ∀ s, F_day_in [.str t] s = .ok (.int d) s := sd
    have e1 := fun s xs h => eq_strs (n := false) (xs := xs) (ys := ["deep"]) (s := s) h (by simp)
    cases b with
    | true =>
      have e2 := fun s => e1 s ["deep"] (by simp)
      simp at e2
      simp [runB_eq, startE, Deed.words, Deed.D, sd, sizeLine, slO, rdLs, rdL, cutD, HT.sIx, addO, e2]
    | false =>
      have e2 := fun s => e1 s [] (by simp)
      simp at e2
      simp [runB_eq, startE, Deed.words, Deed.D, sd, sizeLine, slO, rdLs, rdL, cutD, HT.sIx, addO, e2]
  | lift d nn =>
    replace sd : ∀ s, F_day_in [.str t] s = .ok (.int d) s := sd
    simp [runB_eq, startE, Deed.words, Deed.D, sd, sizeLine, slO, rdLs, rdL, cutD, HT.sIx, addO]
  | leave d nn w =>
    replace sd : ∀ s, F_day_in [.str t] s = .ok (.int d) s := sd
    simp [runB_eq, startE, Deed.words, Deed.D, sd, sizeLine, slO, rdLs, rdL, cutD, HT.sIx, addO]
end L2.GS.KK

namespace L2.GS.KK
open PySem PySem.Spec PyProof.Rows
theorem join_ok {a : Str} (ha : PyData.strOk a = true) : ∀ {ys : List Str}, (∀ y ∈ ys, PyData.strOk y = true) → PyData.strOk (Txt.join a ys) = true
  | [], _ => by rw [TL.join_eq]; show PyData.strOk Str.empty = true; decide +kernel
  | [x], h => by rw [TL.join_eq]; exact h x (by simp)
  | x :: y :: r, h => by
    have ih := join_ok ha (ys := y :: r) fun z hz => h z (List.mem_cons_of_mem _ hz)
    rw [TL.join_eq] at ih ⊢
    show PyData.strOk (x ++ a ++ Str.join a (y :: r)) = true
    exact ok_app (ok_app (h x (by simp)) ha) ih
theorem text_ok {x : Deed} (h : x.Ok) {t : Str} (ht : Wd t) : PyData.strOk (x.text t) = true := join_ok (strOk_lit _) fun w hw => (Deed.wd h ht w hw).ok
theorem few3 {x : Deed} {t : Str} : 3 ≤ (x.words t).length := by
  cases x with
  | rule d n r => simp [Deed.words]
  | hold d n a b c => simp [Deed.words]
  | _ => simp [Deed.words]
theorem s_read_deed {x : Deed} (h : x.Ok) {y m n : Int} (hD : Date x.day y m n) (s : S) : ∃ l, F_read_deed [.str (x.text (dayText y m n))] s = .ok x.D (s ++ [.lst l]) := by
  have hw := day_wd h.d1 hD
  obtain ⟨l, hs⟩ := s_show_deed h hD s
  have ht := s_told_by h hD
  have hi := s_is_deed h
  have hc := text_count h hw
  have hsp := text_split h hw
  have hl := text_len h hw
  have ho := text_ok h hw
  have h3 := few3 (x := x) (t := dayText y m n)
  generalize dayText y m n = t at *
  have c1 : ∀ s, countO (.str (x.text t)) [.str " "] s = .ok (.int ((x.words t).length - 1)) s := fun s => by
    show R.ok (GS.D.int _) s = _
    rw [hc]
  have c2 : ¬ ((x.words t).length : Int) - 1 < 2 := by omega
  have c3 : ∀ s, splitO (.str (x.text t)) [.str " "] s = .ok (.lst ((x.words t).map .str)) s := fun s => by
    show (if _ then _ else _) = _
    rw [if_pos ⟨by decide, Nat.le_trans (Nat.add_le_add_right hl 2) (by decide)⟩, hsp]
  have e1 : ∀ s, eqO true (.str (x.text t)) (.str (x.text t)) s = .ok (.bl false) s := fun s => by
    rw [eq_str0 ho ho]; simp
  refine ⟨l, ?_⟩
  unfold F_read_deed b_read_deed
  simp [runB_eq, startE, isi_str, MSort.ty, isStr, c1, c2, c3, ht, hi, hs, e1]
/-! ### the same, part by part -/
def Same (n : Nat) (d : D) : Prop := ∀ s, F_w_sameN n [d, d] s = .ok (.bl true) s
theorem isi_strt (x : Str) (s : S) : isiO [.str x, .ty "tuple"] s = .ok (.bl false) s := by kernel_rfl
theorem isi_strb (x : Str) (s : S) : isiO [.str x, .ty "bool"] s = .ok (.bl false) s := by kernel_rfl
theorem isi_intt (x : Int) (s : S) : isiO [.int x, .ty "tuple"] s = .ok (.bl false) s := by kernel_rfl
theorem isi_boolt (x : Bool) (s : S) : isiO [.bl x, .ty "tuple"] s = .ok (.bl false) s := by kernel_rfl
@[simp] theorem eq_bool {n : Bool} {i j : Bool} {s : S} : eqO n (.bl i) (.bl j) s = .ok (.bl (if n then !decide (i = j) else decide (i = j))) s := by
  rw [eq_any (p := .bool i) (q := .bool j) rfl rfl rfl]
  cases i <;> cases j <;> rfl
theorem same_str {n : Nat} {x : Str} (h : PyData.strOk x = true) : Same (n + 1) (.str x) := fun s => by
  unfold F_w_sameN b_w_same
  simp [runB_eq, startE, isi_strt, isi_strb, eq_str0 h h]
theorem same_int {n : Nat} {x : Int} : Same (n + 1) (.int x) := fun s => by
  unfold F_w_sameN b_w_same
  simp [runB_eq, startE, isi_intt, isi_intb]
theorem same_bl {n : Nat} {x : Bool} : Same (n + 1) (.bl x) := fun s => by
  unfold F_w_sameN b_w_same
  simp [runB_eq, startE, isi_boolt, isi_boolb]
theorem same_tup {n : Nat} {xs : List D} (h : ∀ x ∈ xs, Same n x) (hl : xs.length ≤ sizeLine) : Same (n + 1) (.tup xs) := fun s => by
  have hc : cComp (ciZip (cVar 0) (cVar 1)) (.tp [2, 3]) cYes (cCall 2 (F_w_sameN n) (cCons (cVar 2) (cCons (cVar 3) cNil))) [some (.tup xs), some (.tup xs), none, none] s = .ok (.lst ((zipD xs xs).map fun d => .bl true)) s := by
    unfold cComp ciZip
    simp only [e_var, List.getElem?_cons_succ, List.getElem?_cons_zero, bind_ok, srcD]
    rw [compF_map (f := fun d => .bl true) ⟨trivial, trivial⟩]
    · rfl
    · intro d hd
      have : ∃ a ∈ xs, d = .tup [a, a] := by
        unfold zipD at hd
        clear h hl
        induction xs with
        | nil => simp at hd
        | cons b r ih =>
          simp only [List.zipWith_cons_cons, List.mem_cons] at hd
          rcases hd with rfl | hd
          · exact ⟨b, by simp, rfl⟩
          · obtain ⟨a, ha, e⟩ := ih hd
            exact ⟨a, List.mem_cons_of_mem _ ha, e⟩
      obtain ⟨a, ha, rfl⟩ := this
      refine ⟨[some (.tup xs), some (.tup xs), some a, some a], rfl, rfl, ?_⟩
      simp [h a ha s]
    · simp [zipD]; exact hl
  unfold F_w_sameN b_w_same
  simp [runB_eq, startE, isi_tup, hc]
theorem sn_same {n : Nat} {sn : Sn} (h : sn.Ok) : Same (n + 2) sn.D := by
  cases sn with
  | coming => exact same_tup (by intro x hx; simp at hx; subst hx; exact same_str (strOk_lit _)) (by simp [sizeLine])
  | by_ w k =>
    obtain ⟨hw, hk⟩ := h
    refine same_tup (fun x hx => ?_) (by simp [sizeLine])
    simp at hx
    rcases hx with rfl | rfl
    · exact same_str (strOk_lit _)
    · exact same_str hk.ok
theorem rl_same {n : Nat} {r : Rl} (h : r.Ok) : Same (n + 3) r.D := by
  cases r with
  | short w k =>
    obtain ⟨hw, hk⟩ := h
    refine same_tup (fun x hx => ?_) (by simp [sizeLine])
    simp at hx
    rcases hx with rfl | rfl
    · exact same_str (strOk_lit _)
    · exact same_str hk.ok
  | long w k sn m u =>
    obtain ⟨hw, hk, hs, h0, h1, hu⟩ := h
    refine same_tup (fun x hx => ?_) (by simp [sizeLine])
    simp at hx
    rcases hx with rfl | rfl | rfl | rfl | rfl
    · exact same_str (strOk_lit _)
    · exact same_str hk.ok
    · exact sn_same hs
    · exact same_int
    · exact same_str (strOk_lit _)
theorem s_same {x : Deed} (h : x.Ok) (s : S) : F_w_same [x.D, x.D] s = .ok (.bl true) s := by
  obtain ⟨d0, d1, hn, hr⟩ := h
  have key : Same 4 x.D := by
    cases x with
    | paper d n k ms =>
      obtain ⟨hk, hm⟩ := hr
      replace hn : Nm n := hn
      refine same_tup (fun x hx => ?_) (by simp [sizeLine])
      simp at hx
      rcases hx with rfl | rfl | rfl | rfl | rfl
      · exact same_str (strOk_lit _)
      · exact same_int
      · exact same_str hn.ok
      · exact same_str hk.ok
      · refine same_tup (fun x hx => ?_) (by have := hm.l4; simp [sizeLine]; omega)
        obtain ⟨z, hz, rfl⟩ := List.mem_map.mp hx
        exact same_str (hm.nm z hz).ok
    | happens d n k =>
      replace hr : Nm k := hr
      replace hn : Nm n := hn
      refine same_tup (fun x hx => ?_) (by simp [sizeLine])
      simp at hx
      rcases hx with rfl | rfl | rfl | rfl
      · exact same_str (strOk_lit _)
      · exact same_int
      · exact same_str hn.ok
      · exact same_str hr.ok
    | rule d n r =>
      replace hr : r.Ok := hr
      replace hn : Nm n := hn
      refine same_tup (fun x hx => ?_) (by simp [sizeLine])
      simp at hx
      rcases hx with rfl | rfl | rfl | rfl
      · exact same_str (strOk_lit _)
      · exact same_int
      · exact same_str hn.ok
      · exact rl_same hr
    | end_ d n =>
      replace hn : Nm n := hn
      refine same_tup (fun x hx => ?_) (by simp [sizeLine])
      simp at hx
      rcases hx with rfl | rfl | rfl
      · exact same_str (strOk_lit _)
      · exact same_int
      · exact same_str hn.ok
    | hold d n tw tn b =>
      obtain ⟨hw', hn'⟩ := hr
      replace hn : Nm n := hn
      refine same_tup (fun x hx => ?_) (by simp [sizeLine])
      simp at hx
      rcases hx with rfl | rfl | rfl | rfl | rfl
      · exact same_str (strOk_lit _)
      · exact same_int
      · exact same_str hn.ok
      · refine same_tup (fun x hx => ?_) (by simp [sizeLine])
        simp at hx
        rcases hx with rfl | rfl
        · exact same_str (strOk_lit _)
        · exact same_str hn'.ok
      · exact same_bl
    | lift d n =>
      replace hn : Nm n := hn
      refine same_tup (fun x hx => ?_) (by simp [sizeLine])
      simp at hx
      rcases hx with rfl | rfl | rfl
      · exact same_str (strOk_lit _)
      · exact same_int
      · exact same_str hn.ok
    | leave d n k =>
      replace hr : Nm k := hr
      replace hn : Nm n := hn
      refine same_tup (fun x hx => ?_) (by simp [sizeLine])
      simp at hx
      rcases hx with rfl | rfl | rfl | rfl
      · exact same_str (strOk_lit _)
      · exact same_int
      · exact same_str hn.ok
      · exact same_str hr.ok
  exact key s
end L2.GS.KK

namespace L2.GS.KK
open PySem PySem.Spec PyProof.Rows
/-! ### draws -/
/-- the pack: an owned list of one number -/
def Pk (s : S) (n : Nat) : Prop := ∃ p : Int, s[n]? = some (.lst [.int p])
theorem s_take {s : S} {n : Nat} (h : Pk s n) {k : Int} (k0 : 0 < k) (k1 : k < 1073741824) : ∃ v s', F_w_take [.ref n, .int k] s = .ok (.int v) s' ∧ 0 ≤ v ∧ v < k ∧ Pk s' n := by
  obtain ⟨p, hp⟩ := h
  have hn : n < s.length := (List.getElem?_eq_some_iff.mp hp).1
  refine ⟨p % k, s.set n (.lst [.int (p / k)]), ?_, Int.emod_nonneg _ (by omega), Int.emod_lt_of_pos _ k0, p / k, by simp [hn]⟩
  have hx : ixO (.ref n) (.int 0) s = .ok (.int p) s := by rw [ix_ref hp]; simp
  have hset : setO (.ref n) (.int 0) (.int (p / k)) s = some (s.set n (.lst [.int (p / k)])) := by
    unfold setO
    simp [hp, ixN]
  unfold F_w_take b_w_take
  simp [runB_eq, startE, hx, divmodO, k0, k1, gtTup, gtCons, gtNil, gtSub, hset]

theorem w_sum {w y m : Int} {x : D} {s : S} (h1 : 1 ≤ m) (h2 : m ≤ 12) : ∃ L, cComp (ciRng2 (cCst (.int 1)) (cOp addO (cVar 4) (cCst (.int 1)))) (.nm 5) cYes (cCall 2 F_w_length (cCons (cVar 3) (cCons (cVar 5) cNil))) [some x, some (.int w), none, some (.int y), some (.int m), none] s = .ok L s ∧ sumO [L] s = .ok (.int (cum y (m + 1))) s := by
  refine ⟨.lst ((ranged 1 m.toNat).map (lenF y)), ?_, ?_⟩
  · unfold cComp ciRng2
    have hb : -(2 ^ 62 : Int) ≤ 1 ∧ (1 : Int) < 2 ^ 62 ∧ -(2 ^ 62) ≤ m + 1 ∧ m + 1 < 2 ^ 62 := by omega
    have e : (m + 1 - 1).toNat = m.toNat := by omega
    simp only [e_cst, e_op, e_var, bind_ok, List.getElem?_cons_succ, List.getElem?_cons_zero, add_int]
    rw [if_pos hb, e]
    simp only [bind_ok]
    rw [compF_map (f := lenF y) trivial]
    · rfl
    · intro d hd
      unfold ranged at hd
      obtain ⟨i, hi, rfl⟩ := List.mem_map.mp hd
      have hi' := List.mem_range.mp hi
      refine ⟨_, rfl, rfl, ?_⟩
      simp [Tgt.own, wipeE, s_w_length y (1 + (i : Int)) s (by omega) (by omega), lenF]
    · have : (ranged 1 m.toNat).length = m.toNat := by simp [ranged]
      simp only [List.length_nil, this]
      have : (12 : Nat) ≤ sizeLine := by decide
      omega
  · rcases months h1 h2 with rfl | rfl | rfl | rfl | rfl | rfl | rfl | rfl | rfl | rfl | rfl | rfl <;> (simp [ranged, List.range_succ, lenF, sumO, rdLs, rdL, ints?, List.range_eq_nil]; unfold cum; (try unfold len); cases isLong y <;> decide)
theorem s_any_day {s : S} {n : Nat} (h : Pk s n) : ∃ d s', F_w_any_day [.ref n] s = .ok (.int d) s' ∧ 0 ≤ d ∧ d ≤ 99999 ∧ Pk s' n := by
  obtain ⟨w, s1, e1, w0, w1, h1⟩ := s_take h (k := 4) (by decide) (by decide)
  have hw : w = 0 ∨ w = 1 ∨ w = 2 ∨ w = 3 := by omega
  unfold F_w_any_day b_w_any_day
  rcases hw with rfl | rfl | rfl | rfl
  · obtain ⟨v, s2, e2, v0, v1, h2⟩ := s_take h1 (k := 100000) (by decide) (by decide)
    exact ⟨v, s2, by simp [runB_eq, startE, e1, e2], v0, by omega, h2⟩
  · obtain ⟨v, s2, e2, v0, v1, h2⟩ := s_take h1 (k := 70) (by decide) (by decide)
    exact ⟨v, s2, by simp [runB_eq, startE, e1, e2], v0, by omega, h2⟩
  · obtain ⟨v, s2, e2, v0, v1, h2⟩ := s_take h1 (k := 9) (by decide) (by decide)
    have hv : v = 0 ∨ v = 1 ∨ v = 2 ∨ v = 3 ∨ v = 4 ∨ v = 5 ∨ v = 6 ∨ v = 7 ∨ v = 8 := by omega
    rcases hv with rfl | rfl | rfl | rfl | rfl | rfl | rfl | rfl | rfl
    all_goals exact ⟨_, s2, by simp [runB_eq, startE, e1, e2, sizeLine, atI, ixN]; rfl, by decide, by decide, h2⟩
  · obtain ⟨y, s2, e2, y0, y1, h2⟩ := s_take h1 (k := 273) (by decide) (by decide)
    obtain ⟨m, s3, e3, m0, m1, h3⟩ := s_take h2 (k := 12) (by decide) (by decide)
    obtain ⟨b, s4, e4, b0, b1, h4⟩ := s_take h3 (k := 2) (by decide) (by decide)
    obtain ⟨L, hL, hs⟩ := w_sum (x := .ref n) (w := 3) (y := 2000 + y) (m := 1 + m) (s := s3) (by omega) (by omega)
    have ha := s_w_ahead (2000 + y) s3 (by omega) (by omega)
    have hlo := ahead_lo (2000 + y) (by omega)
    have hcu : 31 ≤ cum (2000 + y) (1 + m + 1) := by
      have e3 : cum (2000 + y) 2 = 31 := by simp [cum]
      rcases (by omega : m = 11 ∨ m ≤ 10) with q | q
      · have hcn' := cum_next (y := 2000 + y) (m := 1 + m) (by omega) (by omega)
        have := cum_mono (y := 2000 + y) (m := 2) (k := 1 + m) (by omega) (by omega) (by omega)
        have := (len_pos (y := 2000 + y) (m := 1 + m)).1
        omega
      · have := cum_mono (y := 2000 + y) (m := 2) (k := 1 + m + 1) (by omega) (by omega) (by omega)
        omega
    refine ⟨if ahead (2000 + y) + cum (2000 + y) (1 + m + 1) - 1 + b < 99999 then ahead (2000 + y) + cum (2000 + y) (1 + m + 1) - 1 + b else 99999, s4, ?_, ?_, ?_, h4⟩
    · simp [runB_eq, startE, e1, e2, e3, sizeLine, gtTup, gtCons, gtNil, ha, hL, hs, e4, minO]
    · split <;> omega
    · split <;> omega
end L2.GS.KK

namespace L2.GS
open PySem PySem.Spec PyProof.Rows
theorem compF_draw {still : S → Prop} {t : Tgt} {e : Ev} {env0 : En} {Q : D → Prop} (inv : S → Prop) (hs : ∀ s, still s) : ∀ (xs acc : List D) (s : S), inv s → (∀ x ∈ xs, ∀ s, inv s → ∃ env, t.sem x env0 = some env ∧ ∃ y s1, e env s = .ok y s1 ∧ inv s1 ∧ Q y) → acc.length + xs.length ≤ sizeLine →
    ∃ ys s', compF still t cYes e env0 xs acc s = .ok (acc ++ ys) s' ∧ inv s' ∧ ys.length = xs.length ∧ ∀ y ∈ ys, Q y
  | [], acc, s, hi, _, _ => ⟨[], s, by simp [compF, hs], hi, rfl, by simp⟩
  | x :: r, acc, s, hi, h, hl => by
    obtain ⟨env, e1, y, s1, e2, h1, q⟩ := h x (List.mem_cons_self ..) s hi
    obtain ⟨ys, s', e3, h3, l3, q3⟩ := compF_draw (Q := Q) inv hs r (acc ++ [y]) s1 h1 (fun z hz => h z (List.mem_cons_of_mem _ hz)) (by simp at hl ⊢; omega)
    simp only [List.length_cons] at hl
    refine ⟨y :: ys, s', ?_, h3, by simp [l3], ?_⟩
    · unfold compF
      rw [if_pos ⟨hs s, by omega⟩]
      simp only [e1, cYes, e2]
      rw [e3]
      simp
    · intro z hz
      rcases List.mem_cons.mp hz with rfl | hz
      · exact q
      · exact q3 z hz
theorem compF_filter {still : S → Prop} {t : Tgt} {c : Et} {e : Ev} {env0 : En} (inv : S → Prop) (hs : ∀ s, still s) : ∀ (xs acc : List D) (s : S), inv s → (∀ x ∈ xs, ∀ s, inv s → ∃ env, t.sem x env0 = some env ∧ ∃ b s1, c env s = .ok b s1 ∧ inv s1 ∧ ∀ s, e env s = .ok x s) → acc.length + xs.length ≤ sizeLine →
    ∃ ys s', compF still t c e env0 xs acc s = .ok (acc ++ ys) s' ∧ inv s' ∧ ys.Sublist xs
  | [], acc, s, hi, _, _ => ⟨[], s, by simp [compF, hs], hi, by simp⟩
  | x :: r, acc, s, hi, h, hl => by
    obtain ⟨env, e1, b, s1, e2, h1, q⟩ := h x (List.mem_cons_self ..) s hi
    simp only [List.length_cons] at hl
    cases b with
    | true =>
      obtain ⟨ys, s', e3, h3, l3⟩ := compF_filter inv hs r (acc ++ [x]) s1 h1 (fun z hz => h z (List.mem_cons_of_mem _ hz)) (by simp at hl ⊢; omega)
      refine ⟨x :: ys, s', ?_, h3, l3.cons₂ x⟩
      unfold compF
      rw [if_pos ⟨hs s, by omega⟩]
      simp only [e1, e2, q]
      rw [e3]
      simp
    | false =>
      obtain ⟨ys, s', e3, h3, l3⟩ := compF_filter inv hs r acc s1 h1 (fun z hz => h z (List.mem_cons_of_mem _ hz)) (by omega)
      refine ⟨ys, s', ?_, h3, l3.cons x⟩
      unfold compF
      rw [if_pos ⟨hs s, by omega⟩]
      simp only [e1, e2]
      exact e3
theorem sl_drop {xs : List D} {k : Int} {s : S} (h0 : 0 ≤ k) (h1 : k ≤ xs.length) : slO (.lst xs) (some k) none s = .ok (.lst (xs.drop k.toNat)) s := by
  show R.ok (D.lst (cutD _ _ _)) s = _
  unfold cutD
  have e1 : HT.sIx xs.length 0 (some k) = k.toNat := by
    show (if k < 0 then _ else min k.toNat xs.length) = _
    rw [if_neg (by omega)]; omega
  have e2 : HT.sIx xs.length xs.length none = xs.length := by simp [HT.sIx]
  rw [e1, e2]
  congr 2
  rw [List.take_of_length_le (by simp)]
theorem sl_take {xs : List D} {k : Int} {s : S} (h0 : 0 ≤ k) (h1 : k ≤ xs.length) : slO (.lst xs) none (some k) s = .ok (.lst (xs.take k.toNat)) s := by
  show R.ok (D.lst (cutD _ _ _)) s = _
  unfold cutD
  have e1 : HT.sIx xs.length 0 none = 0 := by simp [HT.sIx]
  have e2 : HT.sIx xs.length xs.length (some k) = k.toNat := by
    show (if k < 0 then _ else min k.toNat xs.length) = _
    rw [if_neg (by omega)]; omega
  rw [e1, e2]
  simp
end L2.GS
namespace L2.GS.KK
open PySem PySem.Spec PyProof.Rows
def alpha : Str := "abcdefghijklmnopqrstuvwxyz"
def okA (k : Nat) : Bool := decide (atI alpha.cps.toList (k : Int) = some (97 + k))
theorem okA_all : (List.range 26).all okA = true := by decide +kernel
theorem alpha_ix {v : Int} (h0 : 0 ≤ v) (h1 : v < 26) (s : S) : ixO (.str alpha) (.int v) s = .ok (.str ⟨#[97 + v.toNat]⟩) s := by
  have h := List.all_eq_true.mp okA_all v.toNat (List.mem_range.mpr (by omega))
  have e : (v.toNat : Int) = v := by omega
  unfold okA at h
  rw [e, decide_eq_true_eq] at h
  show (if alpha.length ≤ sizeLine then (match atI alpha.cps.toList v with
    | some c => R.ok (GS.D.str ⟨#[c]⟩) s
    | none => .bad) else .bad) = _
  rw [if_pos (by decide +kernel), h]
/-- five names, all unlike -/
structure Ns (ns : List Str) : Prop where
  l5 : ns.length = 5
  nm : ∀ x ∈ ns, Nm x
  nd : ns.Nodup
def wordsW : List String := ["paper", "kind", "keep", "days", "coming", "first", "deep", "none", "never", "gone", "held", "rule", "last", "end", "hold", "lift", "leave", "happens", "while", "follow", "months", "years"]
def okW (t : Nat) : Bool := let l := ((wordsW.drop t ++ wordsW.take t).take 5).map fun x => x.toList.map Char.toNat
  decide (l.length = 5) && (l.all fun x => decide (1 ≤ x.length) && (decide (x.length ≤ 8) && x.all isLow)) && decide l.Nodup
theorem okW_all : (List.range 22).all okW = true := by decide +kernel

theorem wordsW_ns {t : Int} (h0 : 0 ≤ t) (h1 : t < 22) : Ns (((wordsW.drop t.toNat ++ wordsW.take t.toNat).take 5).map Str.ofString) := by
  have h := List.all_eq_true.mp okW_all t.toNat (List.mem_range.mpr (by omega))
  unfold okW at h
  simp only [Bool.and_eq_true, decide_eq_true_eq, List.length_map] at h
  obtain ⟨⟨l5, hn⟩, hd⟩ := h
  generalize (wordsW.drop t.toNat ++ wordsW.take t.toNat).take 5 = l at *
  refine ⟨by simpa using l5, fun x hx => ?_, ?_⟩
  · obtain ⟨z, hz, rfl⟩ := List.mem_map.mp hx
    have q := List.all_eq_true.mp hn _ (List.mem_map_of_mem hz)
    simp only [Bool.and_eq_true, decide_eq_true_eq, List.length_map] at q
    refine ⟨by rw [lit_len]; exact q.1, by rw [lit_len]; exact q.2.1, ?_⟩
    rw [Str.ofString_eq_toList]
    simpa using q.2.2
  · exact List.pairwise_map.mpr ((List.pairwise_map.mp hd).imp fun {a b} h e => h (by rw [ofString_inj.mp e]))
/-! a text of drawn signs -/
def One (d : D) : Prop := ∃ c, d = .str ⟨#[c]⟩ ∧ isLow c = true
theorem ones_strs : ∀ {ys : List D}, (∀ y ∈ ys, One y) → ∃ zs : List Str, ys = zs.map .str ∧ (Txt.join "" zs).length = zs.length ∧ (Txt.join "" zs).cps.toList.all isLow = true ∧ ∀ z ∈ zs, z.length = 1
  | [], _ => ⟨[], rfl, by rw [TL.join_eq]; rfl, by rw [TL.join_eq]; rfl, by simp⟩
  | y :: r, h => by
    obtain ⟨zs, rfl, h1, h2, h3⟩ := ones_strs (ys := r) fun z hz => h z (List.mem_cons_of_mem _ hz)
    obtain ⟨c, rfl, hc⟩ := h y (List.mem_cons_self ..)
    refine ⟨⟨#[c]⟩ :: zs, rfl, ?_, ?_, ?_⟩
    · rw [TL.join_eq] at h1 ⊢
      cases zs with
      | nil => rfl
      | cons z q =>
        show ((⟨#[c]⟩ : Str) ++ "" ++ Str.join "" (z :: q)).length = _
        rw [app_len, app_len, h1]
        show 1 + 0 + _ = _
        simp; omega
    · rw [TL.join_eq] at h2 ⊢
      cases zs with
      | nil => show ([c] : List Nat).all isLow = true; simp [hc]
      | cons z q =>
        show ((⟨#[c]⟩ : Str) ++ "" ++ Str.join "" (z :: q)).cps.toList.all isLow = true
        rw [app_list, app_list]
        simp only [List.all_append, h2, Bool.and_true]
        show ([c] : List Nat).all isLow && ([] : List Nat).all isLow = true
        simp [hc]
    · intro z hz
      rcases List.mem_cons.mp hz with rfl | hz
      · rfl
      · exact h3 z hz
theorem stem_draw {env : En} {s : S} {n : Nat} {size : Int} (h : Pk s n) (h0 : 1 ≤ size) (h1 : size ≤ 8) (e3 : env[3]? = some (some (.int size))) (e0 : env[0]? = some (some (.ref n))) (e2 : env[2]? = some (some (.str alpha))) (e9 : 9 < env.length) :
    ∃ zs s', cComp (ciRng1 (cVar 3)) (.nm 9) cYes (cOp ixO (cVar 2) (cCall 2 F_w_take (cCons (cVar 0) (cCons (cCst (.int 26)) cNil)))) env s = .ok (.lst (zs.map .str)) s' ∧ Pk s' n ∧ (zs.length : Int) = size ∧ (Txt.join "" zs).length = zs.length ∧ (Txt.join "" zs).cps.toList.all isLow = true ∧ ∀ z ∈ zs, z.length = 1 := by
  obtain ⟨ys, s', e, h', hl, hq⟩ := compF_draw (still := fun _ => True) (t := .nm 9) (e := cOp ixO (cVar 2) (cCall 2 F_w_take (cCons (cVar 0) (cCons (cCst (.int 26)) cNil)))) (env0 := wipeE env [9]) (Q := One) (fun s => Pk s n) (fun _ => trivial) (ranged 0 size.toNat) [] s h
    (fun x hx s hs => by
      obtain ⟨v, s1, q1, v0, v1, h2⟩ := s_take hs (k := 26) (by decide) (by decide)
      refine ⟨_, rfl, .str ⟨#[97 + v.toNat]⟩, s1, ?_, h2, 97 + v.toNat, rfl, by unfold isLow; simp; omega⟩
      have g2 : ((wipeE env [9]).set 9 (some x))[2]? = some (some (.str alpha)) := by simp [wipeE, e2]
      have g0 : ((wipeE env [9]).set 9 (some x))[0]? = some (some (.ref n)) := by simp [wipeE, e0]
      simp only [e_op, e_var, g2, bind_ok, e_call, e_cons, g0, e_cst, e_nil]
      simp [q1, alpha_ix v0 v1])
    (by simp [ranged]; have : (8 : Nat) ≤ sizeLine := by decide
        omega)
  obtain ⟨zs, rfl, z1, z2, z3⟩ := ones_strs hq
  refine ⟨zs, s', ?_, h', ?_, z1, z2, z3⟩
  · unfold cComp ciRng1
    have hb : -(2 ^ 62 : Int) ≤ size ∧ size < 2 ^ 62 := by omega
    simp only [e_var, e3, bind_ok]
    rw [if_pos hb]
    simp only [bind_ok, Tgt.own]
    rw [e]
    rfl
  · simp [ranged] at hl
    omega
end L2.GS.KK

namespace L2.GS.KK
open PySem PySem.Spec PyProof.Rows
theorem sIx_le {k : Int} {n d : Nat} (h0 : 0 ≤ k) (h1 : k ≤ n) : HT.sIx n d (some k) = k.toNat := by
  show (if k < 0 then _ else min k.toNat n) = _
  rw [if_neg (by omega)]; omega
theorem cut_to {z : Str} {k : Int} (h0 : 0 ≤ k) (h1 : k ≤ z.length) (hz : z.length ≤ 100) (s : S) : slO (.str z) none (some k) s = .ok (.str ⟨(z.cps.toList.take k.toNat).toArray⟩) s := by
  show (if z.length ≤ sizeLine then R.ok (GS.D.str (cutS z none (some k))) s else _) = _
  rw [if_pos (Nat.le_trans hz (by decide))]
  unfold cutS
  rw [sIx_le h0 h1]
  show R.ok (GS.D.str ⟨(((z.cps.toList).drop 0).take (k.toNat - 0)).toArray⟩) s = _
  simp
theorem cut_from {z : Str} {k : Int} (h0 : 0 ≤ k) (h1 : k ≤ z.length) (hz : z.length ≤ 100) (s : S) : slO (.str z) (some k) none s = .ok (.str ⟨(z.cps.toList.drop k.toNat).toArray⟩) s := by
  show (if z.length ≤ sizeLine then R.ok (GS.D.str (cutS z (some k) none)) s else _) = _
  rw [if_pos (Nat.le_trans hz (by decide))]
  unfold cutS
  rw [sIx_le h0 h1]
  show R.ok (GS.D.str ⟨(((z.cps.toList).drop k.toNat).take (z.length - k.toNat)).toArray⟩) s = _
  rw [List.take_of_length_le]
  simp [Str.length]
/-- the k-th of the names that are alike but at one place -/
def nameOf (stem : List Nat) (at_ : Nat) (c : Nat) : Str := (⟨(stem.take at_).toArray⟩ : Str) ++ ⟨#[c]⟩ ++ ⟨(stem.drop (at_ + 1)).toArray⟩
theorem nameOf_list (stem : List Nat) (at_ c : Nat) : (nameOf stem at_ c).cps.toList = stem.take at_ ++ [c] ++ stem.drop (at_ + 1) := by
  unfold nameOf
  rw [app_list, app_list]
theorem nameOf_nm {stem : List Nat} {at_ c : Nat} (h1 : at_ < stem.length) (h8 : stem.length ≤ 8) (hl : stem.all isLow = true) (hc : isLow c = true) : Nm (nameOf stem at_ c) := by
  have e := nameOf_list stem at_ c
  have hlen : (nameOf stem at_ c).length = stem.length := by
    show (nameOf stem at_ c).cps.size = _
    rw [← Array.length_toList, e]
    simp; omega
  refine ⟨by omega, by omega, ?_⟩
  rw [e]
  simp only [List.all_append, List.all_cons, List.all_nil, hc, Bool.and_true, Bool.and_eq_true]
  refine ⟨List.all_eq_true.mpr fun x hx => List.all_eq_true.mp hl x (List.mem_of_mem_take hx), List.all_eq_true.mpr fun x hx => List.all_eq_true.mp hl x (List.mem_of_mem_drop hx)⟩
theorem nameOf_inj {stem : List Nat} {at_ c d : Nat} (h : nameOf stem at_ c = nameOf stem at_ d) : c = d := by
  have e : (nameOf stem at_ c).cps.toList = (nameOf stem at_ d).cps.toList := by rw [h]
  rw [nameOf_list, nameOf_list] at e
  simpa using e
theorem s_names {s : S} {n : Nat} (h : Pk s n) : ∃ ns s', F_w_names [.ref n, .int 5] s = .ok (.lst (ns.map .str)) s' ∧ Ns ns ∧ Pk s' n := by
  obtain ⟨w, s1, e1, w0, w1, h1⟩ := s_take h (k := 4) (by decide) (by decide)
  unfold F_w_names b_w_names
  by_cases hw : w = 0
  · subst hw
    obtain ⟨W, hW, hsum⟩ : ∃ W : List D, W = wordsW.map (fun x => GS.D.str (Str.ofString x)) ∧ ∀ s, addO (.lst [.str "paper", .str "kind", .str "keep", .str "days", .str "coming", .str "first", .str "deep", .str "none", .str "never", .str "gone", .str "held", .str "rule"]) (.lst [.str "last", .str "end", .str "hold", .str "lift", .str "leave", .str "happens", .str "while", .str "follow", .str "months", .str "years"]) s = .ok (.lst W) s := ⟨_, rfl, fun s => by
      rw [add_lst (by simp [sizeLine])]; rfl⟩
    have hl : W.length = 22 := by rw [hW]; rfl
    obtain ⟨t, s2, e2, t0, t1, h2⟩ := s_take h1 (k := 22) (by decide) (by decide)
    have hA := fun s => sl_drop (xs := W) (k := t) (s := s) t0 (by rw [hl]; omega)
    have hB := fun s => sl_take (xs := W) (k := t) (s := s) t0 (by rw [hl]; omega)
    have hC := fun s => add_lst (s := s) (l := W.drop t.toNat) (ys := W.take t.toNat) (by simp [hl, sizeLine]; omega)
    have hD := fun s => sl_take (xs := W.drop t.toNat ++ W.take t.toNat) (k := 5) (s := s) (by decide) (by simp [hl]; omega)
    refine ⟨((wordsW.drop t.toNat ++ wordsW.take t.toNat).take 5).map Str.ofString, s2, ?_, wordsW_ns t0 t1, h2⟩
    have e3 : ((W.drop t.toNat ++ W.take t.toNat).take 5) = (((wordsW.drop t.toNat ++ wordsW.take t.toNat).take 5).map Str.ofString).map .str := by
      rw [hW]
      simp only [← List.map_drop, ← List.map_take, ← List.map_append, List.map_map]
      rfl
    rw [← e3]
    simp [runB_eq, startE, e1, sizeLine, hsum, hl, e2, hA, hB, hC]
    rw [show slO (.lst (W.drop t.toNat ++ W.take t.toNat)) none (some 5) s2 = .ok (.lst ((W.drop t.toNat ++ W.take t.toNat).take 5)) s2 from hD s2]
    simp
  · obtain ⟨v, s2, e2, v0, v1, h2⟩ := s_take h1 (k := 8) (by decide) (by decide)
    obtain ⟨a, s3, e3, a0, a1, h3⟩ := s_take h2 (k := 1 + v) (by omega) (by omega)
    obtain ⟨zs, s4, e4, h4, hz, j1, j2, j3⟩ := stem_draw (env := [some (.ref n), some (.int 5), some (.str alpha), some (.int (1 + v)), some (.int a), none, none, none, none, none]) h3 (size := 1 + v) (by omega) (by omega) rfl rfl rfl (by simp)
    obtain ⟨f, s5, e5, f0, f1, h5⟩ := s_take h4 (k := 26) (by decide) (by decide)
    have hj := join_lst (s := s4) (a := "") (ys := zs) (joinOk_of (fun z hz' => by rw [j3 z hz']; decide) (by omega) (by decide +kernel))
    have hw' : ¬ (w = 0) := hw
    generalize hst : Txt.join "" zs = stem at *
    have hsl : (stem.length : Int) = 1 + v := by rw [j1]; exact hz
    have hsz : stem.cps.size ≤ 8 := by show stem.length ≤ 8; omega
    have hcs : ∀ k : Int, 0 ≤ k → k < 5 → isLow (97 + ((f + 5 * k) % 26).toNat) = true := fun k k0 k1 => by
      have := Int.emod_nonneg (f + 5 * k) (b := 26) (by decide)
      have := Int.emod_lt_of_pos (f + 5 * k) (b := 26) (by decide)
      unfold isLow; simp; omega
    let nm : Int → Str := fun k => nameOf stem.cps.toList a.toNat (97 + ((f + 5 * k) % 26).toNat)
    have hel : ∀ k : Int, 0 ≤ k → k < 5 → ∀ s, (cOp addO (cOp addO (cSl (cVar 5) cPno (cPart (cVar 4))) (cOp ixO (cVar 2) (cOp modO (cOp addO (cVar 6) (cOp mulO (cCst (.int 5)) (cVar 9))) (cCst (.int 26))))) (cSl (cVar 5) (cPart (cOp addO (cVar 4) (cCst (.int 1)))) cPno)) [some (.ref n), some (.int 5), some (.str alpha), some (.int (1 + v)), some (.int a), some (.str stem), some (.int f), none, none, some (.int k)] s = .ok (.str (nm k)) s := fun k k0 k1 s => by
      have c1 := cut_to (z := stem) (k := a) a0 (by omega) (by omega) s
      have c2 := cut_from (z := stem) (k := a + 1) (by omega) (by omega) (by omega) s
      have hm : bitsOk 5 k = true := bits_small (by decide) (by omega)
      have ix := alpha_ix (v := (f + 5 * k) % 26) (Int.emod_nonneg _ (by decide)) (Int.emod_lt_of_pos _ (by decide)) s
      have a1' := add_str (n := 100) (a := ⟨(stem.cps.toList.take a.toNat).toArray⟩) (b := ⟨#[97 + ((f + 5 * k) % 26).toNat]⟩) (by simp [Str.length]; omega) (by decide) s
      have a2' := add_str (n := 100) (a := (⟨(stem.cps.toList.take a.toNat).toArray⟩ : Str) ++ ⟨#[97 + ((f + 5 * k) % 26).toNat]⟩) (b := ⟨(stem.cps.toList.drop (a + 1).toNat).toArray⟩) (by
        rw [app_len]
        simp [Str.length]; omega) (by decide) s
      have e : (a + 1).toNat = a.toNat + 1 := by omega
      rw [e] at c2 a2'
      simp only [e_op, e_sl, e_var, e_pno, e_part, bind_ok, List.getElem?_cons_succ, List.getElem?_cons_zero, c1, e_cst, mul_int, hm, if_true, add_int, mod_int]
      rw [if_pos (by decide)]
      simp only [bind_ok, ix, a1', c2]
      exact a2'
    have hc : cComp (ciRng1 (cVar 1)) (.nm 9) cYes (cOp addO (cOp addO (cSl (cVar 5) cPno (cPart (cVar 4))) (cOp ixO (cVar 2) (cOp modO (cOp addO (cVar 6) (cOp mulO (cCst (.int 5)) (cVar 9))) (cCst (.int 26))))) (cSl (cVar 5) (cPart (cOp addO (cVar 4) (cCst (.int 1)))) cPno)) [some (.ref n), some (.int 5), some (.str alpha), some (.int (1 + v)), some (.int a), some (.str stem), some (.int f), none, none, none] s5 = .ok (.lst ([nm 0, nm 1, nm 2, nm 3, nm 4].map .str)) s5 := by
      unfold cComp ciRng1
      simp only [e_var, List.getElem?_cons_succ, List.getElem?_cons_zero, bind_ok]
      rw [if_pos (by decide)]
      simp only [bind_ok]
      rw [compF_map (f := fun d => match d with
        | .int k => .str (nm k)
        | _ => .non) trivial]
      · rfl
      · intro d hd
        unfold ranged at hd
        obtain ⟨i, hi, rfl⟩ := List.mem_map.mp hd
        have hi' : i < 5 := List.mem_range.mp hi
        refine ⟨_, rfl, rfl, ?_⟩
        have := hel (0 + (i : Int)) (by omega) (by omega) s5
        exact this
      · decide +kernel
    have hnd : Ns [nm 0, nm 1, nm 2, nm 3, nm 4] := by
      have hnm : ∀ k : Int, 0 ≤ k → k < 5 → Nm (nm k) := fun k k0 k1 => nameOf_nm (by simp; show a.toNat < stem.length; omega) (by simp; show stem.length ≤ 8; omega) j2 (hcs k k0 k1)
      have hne : ∀ k l : Int, 0 ≤ k → k < l → l < 5 → nm k ≠ nm l := fun k l k0 kl l5 e => by
        have := nameOf_inj e
        omega
      refine ⟨rfl, fun x hx => ?_, ?_⟩
      · simp at hx
        rcases hx with rfl | rfl | rfl | rfl | rfl <;> exact hnm _ (by decide) (by decide)
      · simp only [List.nodup_cons, List.mem_cons, List.mem_nil_iff, or_false, not_or]
        exact ⟨⟨hne _ _ (by decide) (by decide) (by decide), hne _ _ (by decide) (by decide) (by decide), hne _ _ (by decide) (by decide) (by decide), hne _ _ (by decide) (by decide) (by decide)⟩, ⟨hne _ _ (by decide) (by decide) (by decide), hne _ _ (by decide) (by decide) (by decide), hne _ _ (by decide) (by decide) (by decide)⟩, ⟨hne _ _ (by decide) (by decide) (by decide), hne _ _ (by decide) (by decide) (by decide)⟩, hne _ _ (by decide) (by decide) (by decide), fun h => h, List.nodup_nil⟩
    refine ⟨[nm 0, nm 1, nm 2, nm 3, nm 4], s5, ?_, hnd, h5⟩
    have e4' := e4
    unfold alpha at e4'
    have hc' := hc
    unfold alpha at hc'
    simp [runB_eq, startE, e1, hw', e2, e3]
    rw [e4']
    simp [MSort.ty, isStr, hj, e5]
    rw [hc']
    simp
end L2.GS.KK

namespace L2.GS.KK
open PySem PySem.Spec PyProof.Rows
theorem stepF {p q : Est} {env env' : En} {s s' : S} {X : R GS.D} (h : p env s = .nx env' s') (h2 : (q env' s').fin = X) : (cSeq p q env s).fin = X := by
  rw [e_seq, h]; exact h2
theorem stopF {p q : Est} {env : En} {s s' : S} {d : GS.D} (h : p env s = .rt d s') : (cSeq p q env s).fin = .ok d s' := by
  rw [e_seq, h]; rfl
theorem at_nat {α : Type} {l : List α} {v : Int} (h0 : 0 ≤ v) (h1 : v < l.length) : atI l v = l[v.toNat]? := by
  unfold atI ixN
  rw [if_pos h0, if_pos h1]; rfl
theorem pick {ns : List Str} (h : Ns ns) {v : Int} (h0 : 0 ≤ v) (h1 : v < 5) : ∃ x, Nm x ∧ ∀ s, ixO (.lst (ns.map .str)) (.int v) s = .ok (.str x) s := by
  have hl := h.l5
  have hv : v.toNat < ns.length := by omega
  refine ⟨ns[v.toNat], h.nm _ (List.getElem_mem hv), fun s => ?_⟩
  rw [ix_lst, at_nat h0 (by simp [hl]; omega), List.getElem?_map, List.getElem?_eq_getElem hv]
  rfl
theorem pickL (l : List String) {v : Int} (h0 : 0 ≤ v) (h1 : v < l.length) : ∃ x ∈ l, ∀ s, ixO (.lst (l.map fun x => .str (Str.ofString x))) (.int v) s = .ok (.str (Str.ofString x)) s := by
  have hv : v.toNat < l.length := by omega
  refine ⟨l[v.toNat], List.getElem_mem hv, fun s => ?_⟩
  rw [ix_lst, at_nat h0 (by simpa using h1), List.getElem?_map, List.getElem?_eq_getElem hv]
  rfl
theorem s_w_rule {s : S} {n : Nat} (h : Pk s n) {ns : List Str} (hn : Ns ns) : ∃ r : Rl, ∃ s', F_w_rule [.ref n, .lst (ns.map .str)] s = .ok r.D s' ∧ r.Ok ∧ Pk s' n := by
  obtain ⟨w, s1, e1, w0, w1, h1⟩ := s_take h (k := 7) (by decide) (by decide)
  obtain ⟨v, s2, e2, v0, v1, h2⟩ := s_take h1 (k := 5) (by decide) (by decide)
  obtain ⟨k, hk, ek⟩ := pick hn v0 v1
  obtain ⟨x, hx, ex⟩ := pickL ["keep", "gone", "keep", "gone", "while", "follow", "leave"] w0 w1
  simp only [List.map_cons, List.map_nil] at ex
  unfold F_w_rule b_w_rule
  have hxx : (x = "while" ∨ x = "follow" ∨ x = "leave") ∨ (x = "keep" ∨ x = "gone") := by
    simp only [List.mem_cons, List.mem_nil_iff, or_false] at hx
    rcases hx with rfl | rfl | rfl | rfl | rfl | rfl | rfl <;> simp
  rcases hxx with hs | hg
  · have hin : ∀ s, inO false (.str (Str.ofString x)) (.lst [.str "while", .str "follow", .str "leave"]) s = .ok (.bl true) s := fun s => by
      rcases hs with rfl | rfl | rfl <;> simp [inO, rdLs, rdL, flD, eqF]
    refine ⟨.short x k, s2, ?_, ⟨hs, hk⟩, h2⟩
    simp [runB_eq, startE, sizeLine, e1, ex, e2, ek, hin, Rl.D]
  · have hin : ∀ s, inO false (.str (Str.ofString x)) (.lst [.str "while", .str "follow", .str "leave"]) s = .ok (.bl false) s := fun s => by
      rcases hg with rfl | rfl <;> simp [inO, rdLs, rdL, flD, eqF]
    obtain ⟨q, s3, e3, q0, q1, h3⟩ := s_take h2 (k := 3) (by decide) (by decide)
    have since : ∃ sn : Sn, ∃ s4, (cIf (cB (cOp gtO (cVar 5) (cCst (.int 0)))) (cSet 4 (cTup (cCons (cOp ixO (cLst (cCons (cCst (.str "first")) (cCons (cCst (.str "last")) cNil))) (cOp subO (cVar 5) (cCst (.int 1)))) (cCons (cOp ixO (cVar 1) (cCall 2 F_w_take (cCons (cVar 0) (cCons (cCst (.int 5)) cNil)))) cNil)))) cSkip) [some (.ref n), some (.lst (ns.map .str)), some (.str (Str.ofString x)), some (.str k), some (.tup [.str "coming"]), some (.int q), none] s3 = .nx [some (.ref n), some (.lst (ns.map .str)), some (.str (Str.ofString x)), some (.str k), some sn.D, some (.int q), none] s4 ∧ sn.Ok ∧ Pk s4 n := by
      by_cases hq : q = 0
      · subst hq
        exact ⟨.coming, s3, by simp [Sn.D], trivial, h3⟩
      · obtain ⟨v', s4, e4, a0, a1, h4⟩ := s_take h3 (k := 5) (by decide) (by decide)
        obtain ⟨k', hk', ek'⟩ := pick hn a0 a1
        obtain ⟨y, hy, ey⟩ := pickL ["first", "last"] (v := q - 1) (by omega) (by simp; omega)
        simp only [List.map_cons, List.map_nil] at ey
        have hq' : 0 < q := by omega
        refine ⟨.by_ y k', s4, by simp [hq', sizeLine, ey, e4, ek', Sn.D], ⟨?_, hk'⟩, h4⟩
        simpa using hy
    obtain ⟨sn, s4, es, hsn, h4⟩ := since
    obtain ⟨q2, s5, e5, p0, p1, h5⟩ := s_take h4 (k := 4) (by decide) (by decide)
    have many : ∃ m : Int, ∃ s6, (cSeq (cSet 6 (cOp ixO (cLst (cCons (cCst (.int 0)) (cCons (cCst (.int 999)) cNil))) (cOp modO (cVar 5) (cCst (.int 2))))) (cIf (cB (cOp gtO (cVar 5) (cCst (.int 1)))) (cSet 6 (cCall 2 F_w_take (cCons (cVar 0) (cCons (cOp ixO (cLst (cCons (cCst (.int 1000)) (cCons (cCst (.int 13)) cNil))) (cOp subO (cVar 5) (cCst (.int 2)))) cNil)))) cSkip)) [some (.ref n), some (.lst (ns.map .str)), some (.str (Str.ofString x)), some (.str k), some sn.D, some (.int q2), none] s5 = .nx [some (.ref n), some (.lst (ns.map .str)), some (.str (Str.ofString x)), some (.str k), some sn.D, some (.int q2), some (.int m)] s6 ∧ 0 ≤ m ∧ m ≤ 999 ∧ Pk s6 n := by
      have hc : q2 = 0 ∨ q2 = 1 ∨ q2 = 2 ∨ q2 = 3 := by omega
      rcases hc with rfl | rfl | rfl | rfl
      · exact ⟨0, s5, by simp [sizeLine], by decide, by decide, h5⟩
      · exact ⟨999, s5, by simp [sizeLine], by decide, by decide, h5⟩
      · obtain ⟨m, s6, e6, m0, m1, h6⟩ := s_take h5 (k := 1000) (by decide) (by decide)
        exact ⟨m, s6, by simp [sizeLine, e6], m0, by omega, h6⟩
      · obtain ⟨m, s6, e6, m0, m1, h6⟩ := s_take h5 (k := 13) (by decide) (by decide)
        exact ⟨m, s6, by simp [sizeLine, e6], m0, by omega, h6⟩
    obtain ⟨m, s6, em, m0, m1, h6⟩ := many
    obtain ⟨u, s7, e7, u0, u1, h7⟩ := s_take h6 (k := 3) (by decide) (by decide)
    obtain ⟨y, hy, ey⟩ := pickL ["days", "months", "years"] (v := u) u0 u1
    simp only [List.map_cons, List.map_nil] at ey
    refine ⟨.long x k sn m y, s7, ?_, ⟨hg, hk, hsn, m0, m1, by simpa using hy⟩, h7⟩
    have em' : ∀ r, (cSeq (cSet 6 (cOp ixO (cLst (cCons (cCst (.int 0)) (cCons (cCst (.int 999)) cNil))) (cOp modO (cVar 5) (cCst (.int 2))))) (cSeq (cIf (cB (cOp gtO (cVar 5) (cCst (.int 1)))) (cSet 6 (cCall 2 F_w_take (cCons (cVar 0) (cCons (cOp ixO (cLst (cCons (cCst (.int 1000)) (cCons (cCst (.int 13)) cNil))) (cOp subO (cVar 5) (cCst (.int 2)))) cNil)))) cSkip) r)) [some (.ref n), some (.lst (ns.map .str)), some (.str (Str.ofString x)), some (.str k), some sn.D, some (.int q2), none] s5 = r [some (.ref n), some (.lst (ns.map .str)), some (.str (Str.ofString x)), some (.str k), some sn.D, some (.int q2), some (.int m)] s6 := fun r => by
      have as : ∀ (a b c : Est) env s, cSeq a (cSeq b c) env s = cSeq (cSeq a b) c env s := fun a b c env s => by
        show (a env s).nxt (cSeq b c) = ((a env s).nxt b).nxt c
        cases a env s <;> rfl
      rw [as, e_seq, em]
      rfl
    rw [runB_eq]
    simp only [startE, List.map_cons, List.map_nil, List.length_cons, List.length_nil, List.replicate, List.cons_append, List.nil_append]
    refine stepF (env' := [some (.ref n), some (.lst (ns.map .str)), some (.str (Str.ofString x)), none, none, none, none]) (s' := s1) (by simp [sizeLine, e1, ex]) ?_
    refine stepF (env' := [some (.ref n), some (.lst (ns.map .str)), some (.str (Str.ofString x)), some (.str k), none, none, none]) (s' := s2) (by simp [e2, ek]) ?_
    refine stepF (env' := [some (.ref n), some (.lst (ns.map .str)), some (.str (Str.ofString x)), some (.str k), none, none, none]) (s' := s2) (by simp [sizeLine, hin]) ?_
    refine stepF (env' := [some (.ref n), some (.lst (ns.map .str)), some (.str (Str.ofString x)), some (.str k), some (.tup [.str "coming"]), none, none]) (s' := s2) (by simp [sizeLine]) ?_
    refine stepF (env' := [some (.ref n), some (.lst (ns.map .str)), some (.str (Str.ofString x)), some (.str k), some (.tup [.str "coming"]), some (.int q), none]) (s' := s3) (by simp [e3]) ?_
    refine stepF es ?_
    refine stepF (env' := [some (.ref n), some (.lst (ns.map .str)), some (.str (Str.ofString x)), some (.str k), some sn.D, some (.int q2), none]) (s' := s5) (by simp [e5]) ?_
    rw [em']
    simp [e7, ey, sizeLine, Rl.D]
end L2.GS.KK

namespace L2.GS.KK
open PySem PySem.Spec PyProof.Rows
theorem sorted_some {zs : List Str} (h5 : zs.length ≤ 5) (hn : ∀ x ∈ zs, Nm x) (hd : zs.Nodup) (s : S) : ∃ ms, Mk ms ∧ ∃ L, sortO [.lst (zs.map .str)] s = .ok (.lst L) s ∧ (∀ s, slO (.lst L) none (some 4) s = .ok (.lst (ms.map .str)) s) := by
  have hp := sortB_perm (le := leS) zs
  have hs := sortB_sorted leS_tot leS_trans zs
  refine ⟨(sortB leS zs).take 4, ⟨fun x hx => hn x (hp.mem_iff.mp (List.mem_of_mem_take hx)), by rw [List.length_take]; omega, ?_⟩, (sortB leS zs).map .str, ?_, fun s => ?_⟩
  · have hnd : (sortB leS zs).Nodup := hp.nodup_iff.mpr hd
    have hb := List.Pairwise.and hs hnd
    refine (hb.imp fun {a b} q => ?_).sublist (List.take_sublist 4 _)
    obtain ⟨q1, q2⟩ := q
    unfold ltS
    refine Classical.byContradiction fun hc => q2 (leS_anti a b q1 ?_)
    unfold leS
    simp [hc]
  · unfold sortO
    simp only [rdLs, rdL]
    cases zs with
    | nil => rfl
    | cons z r =>
      have e1 : ints? ((z :: r).map GS.D.str) = none := rfl
      rw [e1, strs_map]
      simp only
      rw [if_pos (by omega)]
  · show R.ok (GS.D.lst (cutD _ _ _)) s = _
    unfold cutD
    have e1 : HT.sIx ((sortB leS zs).map GS.D.str).length 0 none = 0 := rfl
    have e2 : HT.sIx ((sortB leS zs).map GS.D.str).length ((sortB leS zs).map GS.D.str).length (some 4) = min 4 ((sortB leS zs).map GS.D.str).length := rfl
    rw [e1, e2]
    simp [List.map_take]
theorem s_drawn {s : S} {n : Nat} (h : Pk s n) {ns : List Str} (hn : Ns ns) : ∃ x : Deed, ∃ s', F_w_drawn [.ref n, .lst (ns.map .str)] s = .ok x.D s' ∧ x.Ok ∧ Pk s' n := by
  obtain ⟨w, s1, e1, w0, w1, h1⟩ := s_take h (k := 8) (by decide) (by decide)
  obtain ⟨x, hx, ex⟩ := pickL ["paper", "happens", "rule", "rule", "end", "hold", "lift", "leave"] w0 w1
  simp only [List.map_cons, List.map_nil] at ex
  obtain ⟨d, s2, e2, d0, d1, h2⟩ := s_any_day h1
  obtain ⟨v, s3, e3, v0, v1, h3⟩ := s_take h2 (k := 5) (by decide) (by decide)
  obtain ⟨nm, hnm, enm⟩ := pick hn v0 v1
  obtain ⟨v2, s4, e4, u0, u1, h4⟩ := s_take h3 (k := 5) (by decide) (by decide)
  obtain ⟨ot, hot, eot⟩ := pick hn u0 u1
  unfold F_w_drawn b_w_drawn
  rw [runB_eq]
  simp only [startE, List.map_cons, List.map_nil, List.length_cons, List.length_nil, List.replicate, List.cons_append, List.nil_append]
  have hx' : x = "paper" ∨ x = "happens" ∨ x = "rule" ∨ x = "end" ∨ x = "hold" ∨ x = "lift" ∨ x = "leave" := by
    simp only [List.mem_cons, List.mem_nil_iff, or_false] at hx
    rcases hx with rfl | rfl | rfl | rfl | rfl | rfl | rfl | rfl <;> simp
  have start : ∀ (X : R GS.D) (q : Est), (q [some (.ref n), some (.lst (ns.map .str)), some (.str (Str.ofString x)), some (.tup [.str (Str.ofString x), .int d, .str nm]), some (.str ot), none, none, none] s4).fin = X →
      (cSeq (cSet 2 (cOp ixO (cLst (cCons (cCst (.str "paper")) (cCons (cCst (.str "happens")) (cCons (cCst (.str "rule")) (cCons (cCst (.str "rule")) (cCons (cCst (.str "end")) (cCons (cCst (.str "hold")) (cCons (cCst (.str "lift")) (cCons (cCst (.str "leave")) cNil))))))))) (cCall 2 F_w_take (cCons (cVar 0) (cCons (cCst (.int 8)) cNil)))))
      (cSeq (cSet 3 (cTup (cCons (cVar 2) (cCons (cCall 1 F_w_any_day (cCons (cVar 0) cNil)) (cCons (cOp ixO (cVar 1) (cCall 2 F_w_take (cCons (cVar 0) (cCons (cCst (.int 5)) cNil)))) cNil)))))
      (cSeq (cSet 4 (cOp ixO (cVar 1) (cCall 2 F_w_take (cCons (cVar 0) (cCons (cCst (.int 5)) cNil))))) q)) [some (.ref n), some (.lst (ns.map .str)), none, none, none, none, none, none] s).fin = X := fun X q hq => by
    refine stepF (env' := [some (.ref n), some (.lst (ns.map .str)), some (.str (Str.ofString x)), none, none, none, none, none]) (s' := s1) (by simp [sizeLine, e1, ex]) ?_
    refine stepF (env' := [some (.ref n), some (.lst (ns.map .str)), some (.str (Str.ofString x)), some (.tup [.str (Str.ofString x), .int d, .str nm]), none, none, none, none]) (s' := s3) (by simp [sizeLine, e2, e3, enm]) ?_
    exact stepF (by simp [e4, eot]) hq
  rcases hx' with rfl | rfl | rfl | rfl | rfl | rfl | rfl
  · -- a paper
    obtain ⟨ys, s5, e5, h5, hsub⟩ := compF_filter (still := fun _ => True) (t := .nm 7) (c := cB (cOp (eqO false) (cCall 2 F_w_take (cCons (cVar 0) (cCons (cCst (.int 2)) cNil))) (cCst (.int 1)))) (e := cVar 7) (env0 := wipeE [some (.ref n), some (.lst (ns.map .str)), some (.str (Str.ofString "paper")), some (.tup [.str (Str.ofString "paper"), .int d, .str nm]), some (.str ot), none, none, none] [7]) (fun s => Pk s n) (fun _ => trivial) (ns.map .str) [] s4 h4
      (fun y hy s hs => by
        obtain ⟨b, s1, q1, b0, b1, h2⟩ := s_take hs (k := 2) (by decide) (by decide)
        exact ⟨_, rfl, decide (b = 1), s1, by simp [wipeE, q1], h2, fun s => by simp [wipeE]⟩)
      (by simp [hn.l5, sizeLine])
    obtain ⟨zs, hz, rfl⟩ : ∃ zs : List Str, zs.Sublist ns ∧ ys = zs.map .str := by
      obtain ⟨l', h1, h2⟩ := List.sublist_map_iff.mp hsub
      exact ⟨l', h1, h2⟩
    obtain ⟨ms, hm, L, hs1, hs2⟩ := sorted_some (zs := zs) (by have := hz.length_le; have := hn.l5; omega) (fun z hzz => hn.nm z (hz.subset hzz)) (hn.nd.sublist hz) s5
    have hc : cComp (ciAny (cVar 1)) (.nm 7) (cB (cOp (eqO false) (cCall 2 F_w_take (cCons (cVar 0) (cCons (cCst (.int 2)) cNil))) (cCst (.int 1)))) (cVar 7) [some (.ref n), some (.lst (ns.map .str)), some (.str (Str.ofString "paper")), some (.tup [.str (Str.ofString "paper"), .int d, .str nm]), some (.str ot), none, none, none] s4 = .ok (.lst (zs.map .str)) s5 := by
      unfold cComp ciAny
      simp only [e_var, List.getElem?_cons_succ, List.getElem?_cons_zero, bind_ok, srcD, Tgt.own]
      rw [e5]
      rfl
    refine ⟨.paper d nm ot ms, s5, start _ _ ?_, ⟨d0, d1, hnm, hot, hm⟩, h5⟩
    have ad := add_tup (s := s5) (l := [.str "paper", .int d, .str nm]) (ys := [.str ot, .tup (ms.map .str)]) (by simp [sizeLine])
    simp at ad
    refine stopF ?_
    simp [hc, hs1, hs2, sizeLine, ad, Deed.D]
  · refine ⟨.happens d nm ot, s4, start _ _ ?_, ⟨d0, d1, hnm, hot⟩, h4⟩
    simp [sizeLine, addO, Deed.D]
  · obtain ⟨r, s5, e5, hr, h5⟩ := s_w_rule h4 hn
    refine ⟨.rule d nm r, s5, start _ _ ?_, ⟨d0, d1, hnm, hr⟩, h5⟩
    simp [e5, sizeLine, addO, Deed.D]
  · refine ⟨.end_ d nm, s4, start _ _ ?_, ⟨d0, d1, hnm, trivial⟩, h4⟩
    simp [sizeLine, addO, Deed.D]
  · obtain ⟨t, s5, e5, t0, t1, h5⟩ := s_take h4 (k := 2) (by decide) (by decide)
    obtain ⟨b, s6, e6, b0, b1, h6⟩ := s_take h5 (k := 2) (by decide) (by decide)
    have ht : t = 0 ∨ t = 1 := by omega
    rcases ht with rfl | rfl
    · refine ⟨.hold d nm "paper" ot (decide (b = 1)), s6, start _ _ ?_, ⟨d0, d1, hnm, .inl rfl, hot⟩, h6⟩
      simp [e5, e6, sizeLine, addO, Deed.D]
    · refine ⟨.hold d nm "kind" ot (decide (b = 1)), s6, start _ _ ?_, ⟨d0, d1, hnm, .inr rfl, hot⟩, h6⟩
      simp [e5, e6, sizeLine, addO, Deed.D]
  · refine ⟨.lift d nm, s4, start _ _ ?_, ⟨d0, d1, hnm, trivial⟩, h4⟩
    simp [sizeLine, addO, Deed.D]
  · refine ⟨.leave d nm ot, s4, start _ _ ?_, ⟨d0, d1, hnm, hot⟩, h4⟩
    simp [sizeLine, addO, Deed.D]
end L2.GS.KK

namespace L2.GS.KK
open PySem PySem.Spec PyProof.Rows
/-! ### == of deeds -/
def Sn.P : Sn → PyData
  | .coming => .tuple [.str "coming"]
  | .by_ w n => .tuple [.str (Str.ofString w), .str n]
def Rl.P : Rl → PyData
  | .short w k => .tuple [.str (Str.ofString w), .str k]
  | .long w k sn m u => .tuple [.str (Str.ofString w), .str k, sn.P, .int m, .str (Str.ofString u)]
def Deed.P : Deed → PyData
  | .paper d n k ms => .tuple [.str "paper", .int d, .str n, .str k, .tuple (ms.map .str)]
  | .happens d n w => .tuple [.str "happens", .int d, .str n, .str w]
  | .rule d n r => .tuple [.str "rule", .int d, .str n, r.P]
  | .end_ d n => .tuple [.str "end", .int d, .str n]
  | .hold d n tw tn b => .tuple [.str "hold", .int d, .str n, .tuple [.str (Str.ofString tw), .str tn], .bool b]
  | .lift d n => .tuple [.str "lift", .int d, .str n]
  | .leave d n k => .tuple [.str "leave", .int d, .str n, .str k]
theorem sn_toP (sn : Sn) : toP sn.D = some sn.P := by cases sn <;> simp [Sn.D, Sn.P, toP, toPs]
theorem rl_toP (r : Rl) : toP r.D = some r.P := by cases r <;> simp [Rl.D, Rl.P, toP, toPs, sn_toP]
theorem deed_toP (x : Deed) : toP x.D = some x.P := by cases x <;> simp [Deed.D, Deed.P, toP, toPs, rl_toP, toPs_strs]
theorem sn_vw (x : Deed) (s : S) : vw s x.D = x.D := by cases x <;> rfl
theorem sn_can {sn : Sn} (h : sn.Ok) : PyData.canLay0 sn.P = true ∧ PyData.depth sn.P ≤ 5 := by
  cases sn with
  | coming => simp [Sn.P, PyData.canLay0, PyData.canLayAll0, PyData.depth, PyData.depthAll]
  | by_ w n =>
    obtain ⟨hw, hn⟩ := h
    simp [Sn.P, PyData.canLay0, PyData.canLayAll0, PyData.depth, PyData.depthAll, hn.ok]
theorem rl_can {r : Rl} (h : r.Ok) : PyData.canLay0 r.P = true ∧ PyData.depth r.P ≤ 10 := by
  cases r with
  | short w k =>
    obtain ⟨hw, hk⟩ := h
    simp [Rl.P, PyData.canLay0, PyData.canLayAll0, PyData.depth, PyData.depthAll, hk.ok]
  | long w k sn m u =>
    obtain ⟨hw, hk, hs, _⟩ := h
    obtain ⟨c1, c2⟩ := sn_can hs
    simp [Rl.P, PyData.canLay0, PyData.canLayAll0, PyData.depth, PyData.depthAll, hk.ok, c1]
    omega
theorem deed_can {x : Deed} (h : x.Ok) : PyData.canLay0 x.P = true ∧ PyData.depth x.P ≤ 20 := by
  obtain ⟨d0, d1, hn, hr⟩ := h
  cases x with
  | paper d n k ms =>
    obtain ⟨hk, hm⟩ := hr
    replace hn : Nm n := hn
    simp [Deed.P, PyData.canLay0, PyData.canLayAll0, PyData.depth, PyData.depthAll, hk.ok, hn.ok, can_strs (fun y hy => (hm.nm y hy).ok), depth_strs]
  | happens d n k =>
    replace hr : Nm k := hr
    replace hn : Nm n := hn
    simp [Deed.P, PyData.canLay0, PyData.canLayAll0, PyData.depth, PyData.depthAll, hr.ok, hn.ok]
  | rule d n r =>
    replace hr : r.Ok := hr
    replace hn : Nm n := hn
    obtain ⟨c1, c2⟩ := rl_can hr
    simp [Deed.P, PyData.canLay0, PyData.canLayAll0, PyData.depth, PyData.depthAll, hn.ok, c1]
    omega
  | end_ d n =>
    replace hn : Nm n := hn
    simp [Deed.P, PyData.canLay0, PyData.canLayAll0, PyData.depth, PyData.depthAll, hn.ok]
  | hold d n tw tn b =>
    obtain ⟨hw', hn'⟩ := hr
    replace hn : Nm n := hn
    simp [Deed.P, PyData.canLay0, PyData.canLayAll0, PyData.depth, PyData.depthAll, hn.ok, hn'.ok]
  | lift d n =>
    replace hn : Nm n := hn
    simp [Deed.P, PyData.canLay0, PyData.canLayAll0, PyData.depth, PyData.depthAll, hn.ok]
  | leave d n k =>
    replace hr : Nm k := hr
    replace hn : Nm n := hn
    simp [Deed.P, PyData.canLay0, PyData.canLayAll0, PyData.depth, PyData.depthAll, hr.ok, hn.ok]
theorem ev_nil : PyData.eqvAll [] [] = true := by simp [PyData.eqvAll]
theorem ev_nc {x : PyData} {xs : List PyData} : PyData.eqvAll [] (x :: xs) = false := by simp [PyData.eqvAll]
theorem ev_cn {x : PyData} {xs : List PyData} : PyData.eqvAll (x :: xs) [] = false := by simp [PyData.eqvAll]
theorem ev_cons {x y : PyData} {xs ys : List PyData} : PyData.eqvAll (x :: xs) (y :: ys) = (PyData.eqv x y && PyData.eqvAll xs ys) := by simp only [PyData.eqvAll]
theorem ev_str {a b : Str} : PyData.eqv (.str a) (.str b) = (a == b) := by simp only [PyData.eqv]
theorem ev_int {a b : Int} : PyData.eqv (.int a) (.int b) = (a == b) := by simp only [PyData.eqv]
theorem ev_bool {a b : Bool} : PyData.eqv (.bool a) (.bool b) = (a == b) := by simp only [PyData.eqv]
theorem ev_tup {a b : List PyData} : PyData.eqv (.tuple a) (.tuple b) = PyData.eqvAll a b := by simp only [PyData.eqv]
theorem sn_eqv {a b : Sn} (h : PyData.eqv a.P b.P = true) : a.D = b.D := by
  cases a <;> cases b <;> simp [Sn.P, ev_nil, ev_nc, ev_cn, ev_cons, ev_str, ev_int, ev_bool, ev_tup] at h
  · rfl
  · obtain ⟨rfl, rfl⟩ := h; rfl
theorem rl_eqv {a b : Rl} (h : PyData.eqv a.P b.P = true) : a.D = b.D := by
  cases a <;> cases b <;> simp [Rl.P, ev_nil, ev_nc, ev_cn, ev_cons, ev_str, ev_int, ev_bool, ev_tup] at h
  · obtain ⟨rfl, rfl⟩ := h; rfl
  · obtain ⟨rfl, rfl, h, rfl, rfl⟩ := h
    show GS.D.tup _ = GS.D.tup _
    rw [sn_eqv h]
theorem deed_eqv {a b : Deed} (h : PyData.eqv a.P b.P = true) : a.D = b.D := by
  cases a <;> cases b <;> simp [Deed.P, ev_nil, ev_nc, ev_cn, ev_cons, ev_str, ev_int, ev_bool, ev_tup, eqv_strs] at h
  · obtain ⟨rfl, rfl, rfl, rfl⟩ := h; rfl
  · obtain ⟨rfl, rfl, rfl⟩ := h; rfl
  · obtain ⟨rfl, rfl, h⟩ := h
    show GS.D.tup _ = GS.D.tup _
    rw [rl_eqv h]
  · obtain ⟨rfl, rfl⟩ := h; rfl
  · obtain ⟨rfl, rfl, ⟨rfl, rfl⟩, rfl⟩ := h; rfl
  · obtain ⟨rfl, rfl⟩ := h; rfl
  · obtain ⟨rfl, rfl, rfl⟩ := h; rfl
theorem eq_deeds {x y : Deed} (hx : x.Ok) (hy : y.Ok) {a b c a' b' c' : Int} (dx : Date x.day a b c) (dy : Date y.day a' b' c') (s : S) :
    eqO false x.D y.D s = .ok (.bl (decide (x.text (dayText a b c) = y.text (dayText a' b' c')))) s := by
  obtain ⟨c1, p1⟩ := deed_can hx
  obtain ⟨c2, p2⟩ := deed_can hy
  rw [eq_any (p := x.P) (q := y.P) (by rw [sn_vw]; exact deed_toP x) (by rw [sn_vw]; exact deed_toP y) (by unfold SeqAt.shaped; rw [c1, c2, decide_eq_true (by omega), decide_eq_true (by omega)]; rfl)]
  have key : PyData.eqv x.P y.P = true ↔ x.text (dayText a b c) = y.text (dayText a' b' c') := by
    constructor
    · intro h
      have e := deed_eqv h
      obtain ⟨l, q1⟩ := s_show_deed hx dx []
      obtain ⟨l', q2⟩ := s_show_deed hy dy []
      rw [e] at q1
      rw [q1] at q2
      injection q2 with q3 q4
      injection q3
    · intro h
      have w1 := text_split hx (day_wd hx.d1 dx)
      have w2 := text_split hy (day_wd hy.d1 dy)
      rw [h] at w1
      have w3 := w1.symm.trans w2
      have t1 := s_told_by hx dx []
      have t2 := s_told_by hy dy []
      rw [w3] at t1
      rw [t1] at t2
      injection t2 with t3 t4
      have e : some x.P = some y.P := by rw [← deed_toP, ← deed_toP, t3]
      have e2 := Option.some.inj e
      rw [e2]
      exact SeqAt.eqv_refl y.P c2
  by_cases h : PyData.eqv x.P y.P = true
  · simp [h, key.mp h]
  · have h' : ¬ x.text (dayText a b c) = y.text (dayText a' b' c') := fun q => h (key.mpr q)
    simp [h, h']
end L2.GS.KK

namespace L2.GS
open PySem PySem.Spec PyProof.Rows
theorem loop_inv {still : S → Prop} {body : D → Est} (I : En → S → Prop) (hs : ∀ s, still s) : ∀ (xs : List D) (env : En) (s : S), I env s → (∀ x ∈ xs, ∀ env s, I env s → ∃ env' s', body x env s = .nx env' s' ∧ I env' s') → ∃ env' s', loopF still body xs env s = .nx env' s' ∧ I env' s'
  | [], env, s, hi, _ => ⟨env, s, by simp [loopF, hs], hi⟩
  | x :: r, env, s, hi, h => by
    obtain ⟨env1, s1, e1, h1⟩ := h x (List.mem_cons_self ..) env s hi
    obtain ⟨env2, s2, e2, h2⟩ := loop_inv I hs r env1 s1 h1 fun y hy => h y (List.mem_cons_of_mem _ hy)
    refine ⟨env2, s2, ?_, h2⟩
    unfold loopF
    simp only [if_pos (hs s), e1, aft]
    exact e2
end L2.GS
namespace L2.GS.KK
open PySem PySem.Spec PyProof.Rows
theorem Pk.app {s : S} {n : Nat} (h : Pk s n) (r : S) : Pk (s ++ r) n := by
  obtain ⟨p, hp⟩ := h
  exact ⟨p, by rw [List.getElem?_append_left (List.getElem?_eq_some_iff.mp hp).1]; exact hp⟩
/-! ### the pack -/
theorem bits_le {a : Int} {n : Nat} (h : a.natAbs < 2 ^ n) : Builtin.Int.intBits a ≤ n := by
  unfold Builtin.Int.intBits
  split
  · omega
  · rename_i h0
    have : a.natAbs ≠ 0 := by simpa using h0
    have := (Nat.log2_lt this).mpr h
    omega
theorem bits_lt {a : Int} {n : Nat} (h : Builtin.Int.intBits a ≤ n) : a.natAbs < 2 ^ n := by
  unfold Builtin.Int.intBits at h
  split at h
  · rename_i h0
    have e : a = 0 := by simpa using h0
    rw [e]
    exact Nat.two_pow_pos n
  · rename_i h0
    have : a.natAbs ≠ 0 := by simpa using h0
    exact (Nat.log2_lt this).mp (by omega)
theorem bits_add {a k : Int} {n : Nat} (h : Builtin.Int.intBits a ≤ n) (hn : 20 ≤ n) (hk : k.natAbs ≤ 1000000) : Builtin.Int.intBits (a + k) ≤ n + 1 := by
  have h1 := bits_lt h
  have h2 : (2 : Nat) ^ 20 ≤ 2 ^ n := Nat.pow_le_pow_right (by decide) hn
  have h3 : (2 : Nat) ^ (n + 1) = 2 ^ n * 2 := Nat.pow_succ ..
  apply bits_le
  rw [h3]
  generalize (2 : Nat) ^ n = N at *
  have : (2 : Nat) ^ 20 = 1048576 := by decide
  omega
theorem s_mixed {a : Int} (h : Builtin.Int.intBits a ≤ 1048577) (s : S) : ∃ p, F_w_mixed [.int a] s = .ok (.int p) s := by
  have hb : bitsOk a 141421356237309504880168872420969807856967187537694807317667 = true := by
    have : Builtin.Int.intBits 141421356237309504880168872420969807856967187537694807317667 ≤ 200 := by decide +kernel
    unfold bitsOk
    rw [decide_eq_true_eq]; omega
  refine ⟨a * 141421356237309504880168872420969807856967187537694807317667 % 10 ^ 60, ?_⟩
  unfold F_w_mixed b_w_mixed
  simp [runB_eq, startE, hb, powO]
theorem s_pack {ns : List Int} (hb : ∀ z ∈ ns, Builtin.Int.intBits z ≤ 1048576) {k : Int} (k0 : 0 ≤ k) (k1 : k < 16) (s : S) : ∃ s', F_w_pack [.fls (ns.map GS.D.int), .int k] s = .ok (.ref s.length) s' ∧ Pk s' s.length := by
  unfold F_w_pack b_w_pack
  by_cases hk : k < ns.length
  · have hv : k.toNat < ns.length := by omega
    have hm : bitsOk 23 k = true := bits_small (by decide) (by omega)
    have hx : atI (ns.map GS.D.int) k = some (.int ns[k.toNat]) := by
      rw [at_nat k0 (by simpa using hk), List.getElem?_map, List.getElem?_eq_getElem hv]; rfl
    obtain ⟨p, hp⟩ := s_mixed (a := ns[k.toNat] + 23 * k) (bits_add (hb _ (List.getElem_mem hv)) (by decide) (by omega)) s
    refine ⟨s ++ [.lst [.int p]], ?_, p, by simp⟩
    simp [runB_eq, startE, hk, hx, hm, hp, sizeLine]
  · have hm : bitsOk 6007 k = true := bits_small (by decide) (by omega)
    obtain ⟨p, hp⟩ := s_mixed (a := 6007 * k + 13) (Nat.le_trans (bits_le (n := 64) (by omega)) (by decide)) s
    refine ⟨s ++ [.lst [.int p]], ?_, p, by simp⟩
    simp [runB_eq, startE, hk, hm, hp, sizeLine]
noncomputable def body3 : Est :=
  (cSeq (cSet 6 (cCall 2 F_w_drawn (cCons (cVar 3) (cCons (cVar 4) cNil))))
      (cSeq (cSet 7 (cCall 1 F_show_deed (cCons (cVar 6) cNil)))
      (cSeq (cIf (cOr (cNot (cB (cArg isiO (cCons (cVar 7) (cCons (cCst (.ty "str")) cNil))))) (cOr (cB (cOp (eqO true) (cVar 7) (cCall 1 F_w_written (cCons (cVar 6) cNil)))) (cNot (cB (cCall 2 F_w_same (cCons (cCall 1 F_read_deed (cCons (cVar 7) cNil)) (cCons (cVar 6) cNil))))))) (cRet (cCst (.bl false))) cSkip)
      (cSeq (cIf (cB (cOp (eqO true) (cOp (eqO false) (cCall 1 F_show_deed (cCons (cVar 1) cNil)) (cVar 7)) (cOp (eqO false) (cVar 1) (cVar 6)))) (cRet (cCst (.bl false))) cSkip)
      (cSet 1 (cVar 6))))))
theorem date_ex {x : Deed} (h : x.Ok) : ∃ y m n, Date x.day y m n := by
  obtain ⟨y, m, n, _, hD⟩ := s_date_of x.day [] h.d0 h.d1
  exact ⟨y, m, n, hD⟩
theorem s_body3 {sc : D} {x : Deed} (hx : x.Ok) {k t : D} {n : Nat} {ns : List Str} (hn : Ns ns) {s : S} (hp : Pk s n) :
    ∃ y : Deed, ∃ s', cDrop [5, 6, 7] body3 [some sc, some x.D, some k, some (.ref n), some (.lst (ns.map .str)), some t, none, none] s = .nx [some sc, some y.D, some k, some (.ref n), some (.lst (ns.map .str)), none, none, none] s' ∧ y.Ok ∧ Pk s' n := by
  obtain ⟨y, s1, e1, hy, h1⟩ := s_drawn hp hn
  obtain ⟨a, b, c, hD⟩ := date_ex hy
  obtain ⟨a', b', c', hD'⟩ := date_ex hx
  obtain ⟨l2, e2⟩ := s_show_deed hy hD s1
  obtain ⟨l3, e3⟩ := s_w_written hy hD (s1 ++ [.lst l2])
  obtain ⟨l4, e4⟩ := s_read_deed hy hD (s1 ++ [.lst l2] ++ [.lst l3])
  obtain ⟨l5, e5⟩ := s_show_deed hx hD' (s1 ++ [.lst l2] ++ [.lst l3] ++ [.lst l4])
  have e6 := s_same hy (s1 ++ [.lst l2] ++ [.lst l3] ++ [.lst l4])
  have o1 := text_ok hy (day_wd hy.d1 hD)
  have o2 := text_ok hx (day_wd hx.d1 hD')
  have e7 := eq_deeds hx hy hD' hD (s1 ++ [.lst l2] ++ [.lst l3] ++ [.lst l4] ++ [.lst l5])
  generalize hs5 : s1 ++ [.lst l2] ++ [.lst l3] ++ [.lst l4] ++ [.lst l5] = s5 at *
  have h5 : Pk s5 n := by rw [← hs5]; exact (((h1.app _).app _).app _).app _
  generalize hs4 : s1 ++ [.lst l2] ++ [.lst l3] ++ [.lst l4] = s4 at *
  generalize hs3 : s1 ++ [.lst l2] ++ [.lst l3] = s3 at *
  generalize hs2 : s1 ++ [.lst l2] = s2 at *
  generalize y.text (dayText a b c) = ty at *
  generalize x.text (dayText a' b' c') = tx at *
  have q1 : ∀ s, eqO true (.str ty) (.str ty) s = .ok (.bl false) s := fun s => by rw [eq_str0 o1 o1]; simp
  have q2 : ∀ s, eqO false (.str tx) (.str ty) s = .ok (.bl (decide (tx = ty))) s := fun s => by rw [eq_str0 o2 o1]; simp
  refine ⟨y, s5, ?_, hy, h5⟩
  unfold body3
  simp [e1, e2, isi_str, e3, q1, e4, e6, e5, q2, e7]
theorem law_true (ns : List Int) (hl : ns.length ≤ 63) (hb : ∀ z ∈ ns, Builtin.Int.intBits z ≤ 1048576) : ∃ s, F_law [.fls (ns.map GS.D.int)] [] = .ok (.bl true) s := by
  have hend : Deed.Ok (.end_ 0 "a") := ⟨by decide, by decide, ⟨by decide +kernel, by decide +kernel, by decide +kernel⟩, trivial⟩
  obtain ⟨env', s', e, x, hx, rfl⟩ := loop_inv (still := fun _ => True) (body := turnF (gtName 2) (cDrop [2, 3, 4, 5, 6, 7] (cSeq (cSet 3 (cCall 2 F_w_pack (cCons (cVar 0) (cCons (cVar 2) cNil))))
    (cSeq (cSet 4 (cCall 2 F_w_names (cCons (cVar 3) (cCons (cCst (.int 5)) cNil))))
    (cPre [5, 6, 7] (cFor (ciRng1 (cCst (.int 3))) (gtName 5) (cDrop [5, 6, 7] body3)))))))
    (fun env s => ∃ x : Deed, x.Ok ∧ env = [some (.fls (ns.map GS.D.int)), some x.D, none, none, none, none, none, none]) (fun _ => trivial)
    (ranged 0 ((if (if (16 : Int) < ns.length then (16 : Int) else ns.length) > 1 then (if (16 : Int) < ns.length then (16 : Int) else ns.length) else 1)).toNat)
    [some (.fls (ns.map GS.D.int)), some (Deed.end_ 0 "a").D, none, none, none, none, none, none] [] ⟨_, hend, rfl⟩ (by
      rintro d hd env s ⟨x, hx, rfl⟩
      unfold ranged at hd
      obtain ⟨i, hi, rfl⟩ := List.mem_map.mp hd
      have hi' := List.mem_range.mp hi
      have i16 : (0 : Int) + (i : Int) < 16 := by
        split at hi' <;> split at hi' <;> omega
      obtain ⟨s1, e1, h1⟩ := s_pack hb (k := 0 + (i : Int)) (by omega) i16 s
      obtain ⟨nm, s2, e2, hn, h2⟩ := s_names h1
      obtain ⟨env', s3, e3, y, hy, hp, rfl⟩ := loop_inv (still := fun _ => True) (body := turnF (gtName 5) (cDrop [5, 6, 7] body3))
        (fun env t => ∃ y : Deed, y.Ok ∧ Pk t s.length ∧ env = [some (.fls (ns.map GS.D.int)), some y.D, some (.int (0 + (i : Int))), some (.ref s.length), some (.lst (nm.map .str)), none, none, none]) (fun _ => trivial)
        (ranged 0 3) [some (.fls (ns.map GS.D.int)), some x.D, some (.int (0 + (i : Int))), some (.ref s.length), some (.lst (nm.map .str)), none, none, none] s2 ⟨x, hx, h2, rfl⟩ (by
          rintro d hd env t ⟨y, hy, hp, rfl⟩
          obtain ⟨z, s', e, hz, hp'⟩ := s_body3 (sc := .fls (ns.map GS.D.int)) hy (k := .int (0 + (i : Int))) (t := d) hn hp
          exact ⟨_, s', e, z, hz, hp', rfl⟩)
      refine ⟨[some (.fls (ns.map GS.D.int)), some y.D, none, none, none, none, none, none], s3, ?_, y, hy, rfl⟩
      have e3' : cFor (ciRng1 (cCst (.int 3))) (gtName 5) (cDrop [5, 6, 7] body3) [some (.fls (ns.map GS.D.int)), some x.D, some (.int (0 + (i : Int))), some (.ref s.length), some (.lst (nm.map .str)), none, none, none] s2 = .nx [some (.fls (ns.map GS.D.int)), some y.D, some (.int (0 + (i : Int))), some (.ref s.length), some (.lst (nm.map .str)), none, none, none] s3 := by
        unfold cFor ciRng1
        simp only [e_cst, bind_ok]
        rw [if_pos (by decide)]
        simp only [toS_ok]
        exact e3
      simp only [Int.zero_add] at e1 e2 e3'
      simp [turnF, thenG, e1, e2, e3'])
  refine ⟨s', ?_⟩
  unfold F_law b_law
  rw [runB_eq]
  simp only [startE, List.map_cons, List.map_nil, List.length_cons, List.length_nil, List.replicate, List.cons_append, List.nil_append]
  refine stepF (env' := [some (.fls (ns.map GS.D.int)), some (Deed.end_ 0 "a").D, none, none, none, none, none, none]) (s' := []) (by simp [sizeLine, Deed.D]) ?_
  refine stepF (env' := [some (.fls (ns.map GS.D.int)), some x.D, none, none, none, none, none, none]) (s' := s') ?_ (by simp)
  show cFor _ _ (cDrop [2, 3, 4, 5, 6, 7] (cSeq (cSet 3 (cCall 2 F_w_pack (cCons (cVar 0) (cCons (cVar 2) cNil))))
    (cSeq (cSet 4 (cCall 2 F_w_names (cCons (cVar 3) (cCons (cCst (.int 5)) cNil))))
    (cPre [5, 6, 7] (cFor (ciRng1 (cCst (.int 3))) (gtName 5) (cDrop [5, 6, 7] body3)))))) [some (.fls (ns.map GS.D.int)), some (Deed.end_ 0 "a").D, none, none, none, none, none, none] [] = _
  unfold cFor ciRng1
  have hmx : cArg maxO (cCons (cCst (.int 1)) (cCons (cArg minO (cCons (cArg lenO (cCons (cVar 0) cNil)) (cCons (cCst (.int 16)) cNil))) cNil)) [some (.fls (ns.map GS.D.int)), some (Deed.end_ 0 "a").D, none, none, none, none, none, none] [] = .ok (.int (if (if (16 : Int) < ns.length then (16 : Int) else ns.length) > 1 then (if (16 : Int) < ns.length then (16 : Int) else ns.length) else 1)) [] := by
    simp only [e_arg, e_cons, e_cst, e_var, List.getElem?_cons_zero, bind_ok, e_nil, len_fls, List.length_map]
    rfl
  rw [hmx]
  simp only [bind_ok]
  rw [if_pos (by split <;> split <;> omega)]
  simp only [toS_ok]
  exact e
end L2.GS.KK

open PySem PySem.W PySem.Calls PyProof.Rows
theorem PySem.Challenge.cw_goneday_k58_deeds_as_texts_holds : PySem.Challenge.rw_goneday_k58_deeds_as_texts.Holds := by
  w_on; o_law
  refine HandSHeadRun.head_any (r := OpenLaw.row PySem.Challenge.rw_goneday_k58_deeds_as_texts) (q := view (OpenLaw.row PySem.Challenge.rw_goneday_k58_deeds_as_texts).prog [59]) (H := L2.GS.KK.hkk) (ob := L2.GS.KK.ob) (M := 6000) (loose := L2.GS.KK.names) (d := HandSHeadRun.topDef (OpenLaw.row PySem.Challenge.rw_goneday_k58_deeds_as_texts).prog 59) (kwd := []) L2.GS.KK.ob_eq
    (by kernel_rfl) (fun s => by kernel_rfl) L2.GS.KK.run (by kernel_rfl) (by kernel_rfl) (by kernel_rfl) (by rfl) (by first | assumption | decide +kernel) (by decide +kernel) ⟨rfl, rfl, rfl, rfl, rfl, by decide +kernel⟩ ?hw ?hc
  case hw => w_witness2
  case hc =>
    refine L2.GS.walk_law (l := PySem.Challenge.rw_goneday_k58_deeds_as_texts) (k := 8) (x := "_law_script") (FL := L2.GS.KK.F_law) rfl (by kernel_rfl) ⟨rfl, by decide, by decide⟩ ?F L2.GS.KK.law_true
    intro w mg fa h Y G hmg0
    obtain ⟨K, KX, c⟩ := Y
    have hmg : mg ("law" : PySem.Str) = some (.ref fa) := by
      have e : (HandSHeadRun.topDef (OpenLaw.row PySem.Challenge.rw_goneday_k58_deeds_as_texts).prog 59).name = ("law" : PySem.Str) := by kernel_rfl
      rw [← e]
      exact hmg0
    obtain ⟨fd, hb, hF⟩ := L2.GS.KK.law_fn (P := (PySem.Challenge.rw_goneday_k58_deeds_as_texts).prog) (w := w) KX G c
    have e := hmg.symm.trans (He.glo_ok KX G (c.t.d.facts (f := .glo "law") (L2.GS.KK.law_in)))
    cases e
    exact ⟨K, fd, KX, hb, hF⟩

