import PyProof.Rows.All
import Wide.All
import OpenK.AllK
import Wide.FinOn
import HandS.ForMost
import HandS.Wide
import HandS.TupMul
import HandS.TupAny
import HandS.ForSpec
import HandS.Words
import HandS.Defaults
import HandS.Dict
import HandS.WordsDict
import HandS.Iter
import KE.GoesMore
import KE.GoesEnum
import KE.GoesZip
import HandS.SetFor
import HandS.SortInts
import HandS.Zip
import PyProof.ReprRoads
import PyProof.ReprLen
import PyProof.StrLawsRepr
import PyProof.CallFns
import HandS.Ends
import HandS.Style
import PySem.Challenge.RW_equalsums_k18_whole_main_middles
set_option Elab.async false
set_option linter.all false
set_option maxRecDepth 100000
set_option maxHeartbeats 2000000
/-! Vs0: values as trees (D), what of the heap bears them (RL, Good), the cells of a frame. -/
namespace Vs
open PySem PySem.Spec PyProof.Rows L2

/-- a value as a tree -/
inductive D where
  | non | bl (b : Bool) | int (i : Int) | str (x : Str)
  | tup (xs : List D) | lst (xs : List D)
  | dic (ks : List (Key × D)) | dit (ks : List (List Key × D))
  | iset (ns : List Int)
  /-- a list that is only read (the script) -/
  | rol (xs : List D)
  deriving Inhabited

abbrev LD := Nat × D
abbrev Item := Nat × D × V

/-- the items of a row, all of one level -/
def its (k : Nat) (ds : List D) (vs : List V) : List Item := List.zipWith (fun d v => (k, d, v)) ds vs
theorem its_nil {k : Nat} : its k [] [] = [] := rfl
theorem its_cons {k : Nat} {d : D} {v : V} {ds : List D} {vs : List V} : its k (d :: ds) (v :: vs) = (k, d, v) :: its k ds vs := rfl
theorem its_append {k : Nat} : ∀ {ds es : List D} {vs ws : List V}, ds.length = vs.length → its k (ds ++ es) (vs ++ ws) = its k ds vs ++ its k es ws
  | [], es, [], ws, _ => rfl
  | d :: ds, es, v :: vs, ws, h => by
    show (k, d, v) :: its k (ds ++ es) (vs ++ ws) = _
    rw [its_append (by simpa using h)]
    rfl
  | [], _, _ :: _, _, h => by simp at h
  | _ :: _, _, [], _, h => by simp at h

/-- a list that is not written: a locked one, one of the module's -/
def LockL (K : PySem.W.Frag) (H : Hp) (a : Addr) (xs : List V) : Prop :=
  (∃ o, H a = some (.frz o (.lst xs))) ∨
    ∃ (o : Obj) (its : Array Value) (n : Nat), K.lookup a = some o ∧ o.cls = .type "list" ∧ o.dict = none ∧ o.data = .seq its n ∧ its.size ≤ sizeLine ∧ Vals xs its.toList
theorem LockL.sq {K : PySem.W.Frag} {H : Hp} {a : Addr} {xs : List V} (h : LockL K H a xs) : SqL K H a xs := h.elim (fun x => .inl (.inr x)) .inr

/-- an own list's address is in F, a shared one's in G -/
inductive RL (K : PySem.W.Frag) (H : Hp) : List Item → List Addr → List Addr → Prop where
  | nil : RL K H [] [] []
  | non {k L F G} : RL K H L F G → RL K H ((k, .non, .non) :: L) F G
  | bl {k b L F G} : RL K H L F G → RL K H ((k, .bl b, .bl b) :: L) F G
  | int {k i L F G} : RL K H L F G → RL K H ((k, .int i, .int i) :: L) F G
  | str {k x L F G} : RL K H L F G → RL K H ((k, .str x, .str x) :: L) F G
  | tup {k ds a vs L F G} : SqT K H a vs → ds.length = vs.length → RL K H (its k ds vs ++ L) F G → RL K H ((k, .tup ds, .ref a) :: L) F G
  | own {k ds a vs L F G} : H a = some (.lst vs) → ds.length = vs.length → RL K H (its k ds vs ++ L) F G → RL K H ((k + 1, .lst ds, .ref a) :: L) (a :: F) G
  | frz {ds a vs L F G} : H a = some (.lst vs) → ds.length = vs.length → RL K H (its 0 ds vs ++ L) F G → RL K H ((0, .lst ds, .ref a) :: L) F (a :: G)
  | rd {ds a vs L F G} : LockL K H a vs → ds.length = vs.length → RL K H (its 0 ds vs ++ L) F G → RL K H ((0, .rol ds, .ref a) :: L) F G
  | dicO {k ks a kvs L F G} : H a = some (.dK kvs) → kvs.map (·.1) = ks.map (·.1) → RL K H (its k (ks.map (·.2)) (kvs.map (·.2)) ++ L) F G → RL K H ((k + 1, .dic ks, .ref a) :: L) (a :: F) G
  | dicF {ks a kvs L F G} : H a = some (.dK kvs) → kvs.map (·.1) = ks.map (·.1) → RL K H (its 0 (ks.map (·.2)) (kvs.map (·.2)) ++ L) F G → RL K H ((0, .dic ks, .ref a) :: L) F (a :: G)
  | ditO {k ks a kvs L F G} : H a = some (.dT kvs) → kvs.map (·.1) = ks.map (·.1) → RL K H (its k (ks.map (·.2)) (kvs.map (·.2)) ++ L) F G → RL K H ((k + 1, .dit ks, .ref a) :: L) (a :: F) G
  | ditF {ks a kvs L F G} : H a = some (.dT kvs) → kvs.map (·.1) = ks.map (·.1) → RL K H (its 0 (ks.map (·.2)) (kvs.map (·.2)) ++ L) F G → RL K H ((0, .dit ks, .ref a) :: L) F (a :: G)
  | isetO {k ns a S n L F G} : H a = some (.set S n) → ns.Nodup → ns.length = n → (∀ i, S i = decide (i ∈ ns)) → RL K H L F G → RL K H ((k + 1, .iset ns, .ref a) :: L) (a :: F) G
  | isetF {ns a S n L F G} : H a = some (.set S n) → ns.Nodup → ns.length = n → (∀ i, S i = decide (i ∈ ns)) → RL K H L F G → RL K H ((0, .iset ns, .ref a) :: L) F (a :: G)

/-- the whole: each own node once, none of them shared; R: nodes that are taken out -/
def Good (K : PySem.W.Frag) (R : List Addr) (H : Hp) (L : List Item) : Prop :=
  ∃ F G, RL K H L F G ∧ (R ++ F).Nodup ∧ (∀ a ∈ R ++ F, a ∉ G) ∧ ∀ a ∈ R, H a ≠ none

section
variable {K : PySem.W.Frag} {H H' : Hp} {L L' A B : List Item} {F G R : List Addr}

theorem RL.append (ha : RL K H A F G) : ∀ {F' G'}, RL K H B F' G' → RL K H (A ++ B) (F ++ F') (G ++ G') := by
  induction ha with
  | nil => intro F' G' h; exact h
  | non _ ih => intro F' G' h; exact .non (ih h)
  | bl _ ih => intro F' G' h; exact .bl (ih h)
  | int _ ih => intro F' G' h; exact .int (ih h)
  | str _ ih => intro F' G' h; exact .str (ih h)
  | tup h1 h2 _ ih => intro F' G' h; exact .tup h1 h2 (by have := ih h; rwa [List.append_assoc] at this)
  | own h1 h2 _ ih => intro F' G' h; exact .own h1 h2 (by have := ih h; rwa [List.append_assoc] at this)
  | frz h1 h2 _ ih => intro F' G' h; exact .frz h1 h2 (by have := ih h; rwa [List.append_assoc] at this)
  | rd h1 h2 _ ih => intro F' G' h; exact .rd h1 h2 (by have := ih h; rwa [List.append_assoc] at this)
  | dicO h1 h2 _ ih => intro F' G' h; exact .dicO h1 h2 (by have := ih h; rwa [List.append_assoc] at this)
  | dicF h1 h2 _ ih => intro F' G' h; exact .dicF h1 h2 (by have := ih h; rwa [List.append_assoc] at this)
  | ditO h1 h2 _ ih => intro F' G' h; exact .ditO h1 h2 (by have := ih h; rwa [List.append_assoc] at this)
  | ditF h1 h2 _ ih => intro F' G' h; exact .ditF h1 h2 (by have := ih h; rwa [List.append_assoc] at this)
  | isetO h1 h2 h3 h4 _ ih => intro F' G' h; exact .isetO h1 h2 h3 h4 (ih h)
  | isetF h1 h2 h3 h4 _ ih => intro F' G' h; exact .isetF h1 h2 h3 h4 (ih h)

theorem RL.split : ∀ {L : List Item} {F G : List Addr}, RL K H L F G → ∀ {A B : List Item}, L = A ++ B → ∃ F1 G1 F2 G2, RL K H A F1 G1 ∧ RL K H B F2 G2 ∧ F = F1 ++ F2 ∧ G = G1 ++ G2 := by
  intro L F G h
  induction h with
  | nil =>
    intro A B e
    obtain ⟨rfl, rfl⟩ := List.append_eq_nil_iff.mp e.symm
    exact ⟨[], [], [], [], .nil, .nil, rfl, rfl⟩
  | non h ih =>
    intro A B e
    cases A with
    | nil => subst e; exact ⟨[], [], _, _, .nil, .non h, rfl, rfl⟩
    | cons x A =>
      obtain ⟨rfl, e'⟩ := List.cons.inj e
      obtain ⟨F1, G1, F2, G2, h1, h2, e1, e2⟩ := ih e'
      exact ⟨F1, G1, F2, G2, .non h1, h2, e1, e2⟩
  | bl h ih =>
    intro A B e
    cases A with
    | nil => subst e; exact ⟨[], [], _, _, .nil, .bl h, rfl, rfl⟩
    | cons x A =>
      obtain ⟨rfl, e'⟩ := List.cons.inj e
      obtain ⟨F1, G1, F2, G2, h1, h2, e1, e2⟩ := ih e'
      exact ⟨F1, G1, F2, G2, .bl h1, h2, e1, e2⟩
  | int h ih =>
    intro A B e
    cases A with
    | nil => subst e; exact ⟨[], [], _, _, .nil, .int h, rfl, rfl⟩
    | cons x A =>
      obtain ⟨rfl, e'⟩ := List.cons.inj e
      obtain ⟨F1, G1, F2, G2, h1, h2, e1, e2⟩ := ih e'
      exact ⟨F1, G1, F2, G2, .int h1, h2, e1, e2⟩
  | str h ih =>
    intro A B e
    cases A with
    | nil => subst e; exact ⟨[], [], _, _, .nil, .str h, rfl, rfl⟩
    | cons x A =>
      obtain ⟨rfl, e'⟩ := List.cons.inj e
      obtain ⟨F1, G1, F2, G2, h1, h2, e1, e2⟩ := ih e'
      exact ⟨F1, G1, F2, G2, .str h1, h2, e1, e2⟩
  | tup q1 q2 h ih =>
    intro A B e
    cases A with
    | nil => subst e; exact ⟨[], [], _, _, .nil, .tup q1 q2 h, rfl, rfl⟩
    | cons x A =>
      obtain ⟨rfl, rfl⟩ := List.cons.inj e
      obtain ⟨F1, G1, F2, G2, h1, h2, e1, e2⟩ := ih (List.append_assoc ..).symm
      exact ⟨F1, G1, F2, G2, .tup q1 q2 h1, h2, e1, e2⟩
  | own q1 q2 h ih =>
    intro A B e
    cases A with
    | nil => subst e; exact ⟨[], [], _, _, .nil, .own q1 q2 h, rfl, rfl⟩
    | cons x A =>
      obtain ⟨rfl, rfl⟩ := List.cons.inj e
      obtain ⟨F1, G1, F2, G2, h1, h2, e1, e2⟩ := ih (List.append_assoc ..).symm
      exact ⟨_, G1, F2, G2, .own q1 q2 h1, h2, by rw [e1]; rfl, e2⟩
  | frz q1 q2 h ih =>
    intro A B e
    cases A with
    | nil => subst e; exact ⟨[], [], _, _, .nil, .frz q1 q2 h, rfl, rfl⟩
    | cons x A =>
      obtain ⟨rfl, rfl⟩ := List.cons.inj e
      obtain ⟨F1, G1, F2, G2, h1, h2, e1, e2⟩ := ih (List.append_assoc ..).symm
      exact ⟨F1, _, F2, G2, .frz q1 q2 h1, h2, e1, by rw [e2]; rfl⟩
  | rd q1 q2 h ih =>
    intro A B e
    cases A with
    | nil => subst e; exact ⟨[], [], _, _, .nil, .rd q1 q2 h, rfl, rfl⟩
    | cons x A =>
      obtain ⟨rfl, rfl⟩ := List.cons.inj e
      obtain ⟨F1, G1, F2, G2, h1, h2, e1, e2⟩ := ih (List.append_assoc ..).symm
      exact ⟨F1, G1, F2, G2, .rd q1 q2 h1, h2, e1, e2⟩
  | dicO q1 q2 h ih =>
    intro A B e
    cases A with
    | nil => subst e; exact ⟨[], [], _, _, .nil, .dicO q1 q2 h, rfl, rfl⟩
    | cons x A =>
      obtain ⟨rfl, rfl⟩ := List.cons.inj e
      obtain ⟨F1, G1, F2, G2, h1, h2, e1, e2⟩ := ih (List.append_assoc ..).symm
      exact ⟨_, G1, F2, G2, .dicO q1 q2 h1, h2, by rw [e1]; rfl, e2⟩
  | dicF q1 q2 h ih =>
    intro A B e
    cases A with
    | nil => subst e; exact ⟨[], [], _, _, .nil, .dicF q1 q2 h, rfl, rfl⟩
    | cons x A =>
      obtain ⟨rfl, rfl⟩ := List.cons.inj e
      obtain ⟨F1, G1, F2, G2, h1, h2, e1, e2⟩ := ih (List.append_assoc ..).symm
      exact ⟨F1, _, F2, G2, .dicF q1 q2 h1, h2, e1, by rw [e2]; rfl⟩
  | ditO q1 q2 h ih =>
    intro A B e
    cases A with
    | nil => subst e; exact ⟨[], [], _, _, .nil, .ditO q1 q2 h, rfl, rfl⟩
    | cons x A =>
      obtain ⟨rfl, rfl⟩ := List.cons.inj e
      obtain ⟨F1, G1, F2, G2, h1, h2, e1, e2⟩ := ih (List.append_assoc ..).symm
      exact ⟨_, G1, F2, G2, .ditO q1 q2 h1, h2, by rw [e1]; rfl, e2⟩
  | ditF q1 q2 h ih =>
    intro A B e
    cases A with
    | nil => subst e; exact ⟨[], [], _, _, .nil, .ditF q1 q2 h, rfl, rfl⟩
    | cons x A =>
      obtain ⟨rfl, rfl⟩ := List.cons.inj e
      obtain ⟨F1, G1, F2, G2, h1, h2, e1, e2⟩ := ih (List.append_assoc ..).symm
      exact ⟨F1, _, F2, G2, .ditF q1 q2 h1, h2, e1, by rw [e2]; rfl⟩
  | isetO q1 q2 q3 q4 h ih =>
    intro A B e
    cases A with
    | nil => subst e; exact ⟨[], [], _, _, .nil, .isetO q1 q2 q3 q4 h, rfl, rfl⟩
    | cons x A =>
      obtain ⟨rfl, e'⟩ := List.cons.inj e
      obtain ⟨F1, G1, F2, G2, h1, h2, e1, e2⟩ := ih e'
      exact ⟨_, G1, F2, G2, .isetO q1 q2 q3 q4 h1, h2, by rw [e1]; rfl, e2⟩
  | isetF q1 q2 q3 q4 h ih =>
    intro A B e
    cases A with
    | nil => subst e; exact ⟨[], [], _, _, .nil, .isetF q1 q2 q3 q4 h, rfl, rfl⟩
    | cons x A =>
      obtain ⟨rfl, e'⟩ := List.cons.inj e
      obtain ⟨F1, G1, F2, G2, h1, h2, e1, e2⟩ := ih e'
      exact ⟨F1, _, F2, G2, .isetF q1 q2 q3 q4 h1, h2, e1, by rw [e2]; rfl⟩

theorem RL.perm {L L' : List Item} (p : L.Perm L') : ∀ {F G}, RL K H L F G → ∃ F' G', RL K H L' F' G' ∧ F.Perm F' ∧ G.Perm G' := by
  induction p with
  | nil => intro F G h; exact ⟨F, G, h, .refl _, .refl _⟩
  | @cons x l₁ l₂ _ ih =>
    intro F G h
    obtain ⟨F1, G1, F2, G2, h1, h2, rfl, rfl⟩ := h.split (A := [x]) (B := l₁) rfl
    obtain ⟨F3, G3, h3, p1, p2⟩ := ih h2
    exact ⟨F1 ++ F3, G1 ++ G3, h1.append h3, p1.append_left F1, p2.append_left G1⟩
  | swap x y l =>
    intro F G h
    obtain ⟨F1, G1, F2, G2, h1, h2, rfl, rfl⟩ := h.split (A := [y]) (B := x :: l) rfl
    obtain ⟨F3, G3, F4, G4, h3, h4, rfl, rfl⟩ := h2.split (A := [x]) (B := l) rfl
    refine ⟨F3 ++ (F1 ++ F4), G3 ++ (G1 ++ G4), h3.append (h1.append h4), ?_, ?_⟩
    · rw [← List.append_assoc, ← List.append_assoc]; exact List.perm_append_comm.append_right _
    · rw [← List.append_assoc, ← List.append_assoc]; exact List.perm_append_comm.append_right _
  | trans _ _ ih1 ih2 =>
    intro F G h
    obtain ⟨F1, G1, h1, p1, p2⟩ := ih1 h
    obtain ⟨F2, G2, h2, q1, q2⟩ := ih2 h1
    exact ⟨F2, G2, h2, p1.trans q1, p2.trans q2⟩

theorem Good.perm (h : Good K R H L) (p : L.Perm L') : Good K R H L' := by
  obtain ⟨F, G, r, nd, dj, hr⟩ := h
  obtain ⟨F', G', r', p1, p2⟩ := r.perm p
  exact ⟨F', G', r', ((p1.append_left R).nodup_iff).mp nd, fun a ha hg => dj a (((p1.append_left R).mem_iff).mpr ha) ((p2.mem_iff).mpr hg), hr⟩
theorem Good.dropA (h : Good K R H (A ++ B)) : Good K R H B := by
  obtain ⟨F, G, r, nd, dj, hr⟩ := h
  obtain ⟨F1, G1, F2, G2, h1, h2, rfl, rfl⟩ := r.split rfl
  have s : (R ++ F2).Sublist (R ++ (F1 ++ F2)) := (List.sublist_append_right F1 F2).append_left R
  exact ⟨F2, G2, h2, nd.sublist s, fun a ha hg => dj a (s.subset ha) (List.mem_append_right _ hg), hr⟩
theorem Good.tail {x : Item} (h : Good K R H (x :: L)) : Good K R H L := Good.dropA (A := [x]) h
theorem Good.dropB (h : Good K R H (A ++ B)) : Good K R H A := (h.perm List.perm_append_comm).dropA
/-- any part -/
theorem Good.sub (h : Good K R H L) (s : ∃ M, (M ++ L').Perm L) : Good K R H L' := by
  obtain ⟨M, p⟩ := s
  exact (h.perm p.symm).dropA

/-- the tracked addresses of a row stand -/
theorem RL.there (h : RL K H L F G) : (∀ a ∈ F, H a ≠ none) ∧ ∀ a ∈ G, H a ≠ none := by
  induction h with
  | nil => exact ⟨fun _ h => (nomatch h), fun _ h => (nomatch h)⟩
  | non _ ih => exact ih
  | bl _ ih => exact ih
  | int _ ih => exact ih
  | str _ ih => exact ih
  | tup _ _ _ ih => exact ih
  | rd _ _ _ ih => exact ih
  | own h1 _ _ ih => exact ⟨fun a ha => by rcases List.mem_cons.mp ha with rfl | ha; rw [h1]; exact fun z => (nomatch z); exact ih.1 a ha, ih.2⟩
  | frz h1 _ _ ih => exact ⟨ih.1, fun a ha => by rcases List.mem_cons.mp ha with rfl | ha; rw [h1]; exact fun z => (nomatch z); exact ih.2 a ha⟩
  | dicO h1 _ _ ih => exact ⟨fun a ha => by rcases List.mem_cons.mp ha with rfl | ha; rw [h1]; exact fun z => (nomatch z); exact ih.1 a ha, ih.2⟩
  | dicF h1 _ _ ih => exact ⟨ih.1, fun a ha => by rcases List.mem_cons.mp ha with rfl | ha; rw [h1]; exact fun z => (nomatch z); exact ih.2 a ha⟩
  | ditO h1 _ _ ih => exact ⟨fun a ha => by rcases List.mem_cons.mp ha with rfl | ha; rw [h1]; exact fun z => (nomatch z); exact ih.1 a ha, ih.2⟩
  | ditF h1 _ _ ih => exact ⟨ih.1, fun a ha => by rcases List.mem_cons.mp ha with rfl | ha; rw [h1]; exact fun z => (nomatch z); exact ih.2 a ha⟩
  | isetO h1 _ _ _ _ ih => exact ⟨fun a ha => by rcases List.mem_cons.mp ha with rfl | ha; rw [h1]; exact fun z => (nomatch z); exact ih.1 a ha, ih.2⟩
  | isetF h1 _ _ _ _ ih => exact ⟨ih.1, fun a ha => by rcases List.mem_cons.mp ha with rfl | ha; rw [h1]; exact fun z => (nomatch z); exact ih.2 a ha⟩

theorem sqT_at {a b : Addr} {o : HO} {vs : List V} (h : SqT K H a vs) (ht : ∀ xs, H b ≠ some (.tup xs)) (hf : ∀ ob u, H b ≠ some (.frz ob u)) : SqT K (upd H b o) a vs := by
  rcases h with (h | ⟨ob, h⟩) | h
  · exact .inl (.inl (by rw [upd_ne (by rintro rfl; exact ht _ h)]; exact h))
  · exact .inl (.inr ⟨ob, by rw [upd_ne (by rintro rfl; exact hf _ _ h)]; exact h⟩)
  · exact .inr h
theorem lock_at {a b : Addr} {o : HO} {vs : List V} (h : LockL K H a vs) (hf : ∀ ob u, H b ≠ some (.frz ob u)) : LockL K (upd H b o) a vs := by
  rcases h with ⟨ob, h⟩ | h
  · exact .inl ⟨ob, by rw [upd_ne (by rintro rfl; exact hf _ _ h)]; exact h⟩
  · exact .inr h

/-- a row stays where a thing beside it is new or written -/
theorem RL.at {b : Addr} {o : HO} (h : RL K H L F G) (ht : ∀ xs, H b ≠ some (.tup xs)) (hf : ∀ ob u, H b ≠ some (.frz ob u)) : b ∉ F → b ∉ G → RL K (upd H b o) L F G := by
  induction h with
  | nil => exact fun _ _ => .nil
  | non _ ih => exact fun n m => .non (ih n m)
  | bl _ ih => exact fun n m => .bl (ih n m)
  | int _ ih => exact fun n m => .int (ih n m)
  | str _ ih => exact fun n m => .str (ih n m)
  | tup h1 h2 _ ih => exact fun n m => .tup (sqT_at h1 ht hf) h2 (ih n m)
  | rd h1 h2 _ ih => exact fun n m => .rd (lock_at h1 hf) h2 (ih n m)
  | own h1 h2 _ ih => exact fun n m => .own (by rw [upd_ne (fun e => n (by simp [e]))]; exact h1) h2 (ih (fun z => n (List.mem_cons_of_mem _ z)) m)
  | frz h1 h2 _ ih => exact fun n m => .frz (by rw [upd_ne (fun e => m (by simp [e]))]; exact h1) h2 (ih n (fun z => m (List.mem_cons_of_mem _ z)))
  | dicO h1 h2 _ ih => exact fun n m => .dicO (by rw [upd_ne (fun e => n (by simp [e]))]; exact h1) h2 (ih (fun z => n (List.mem_cons_of_mem _ z)) m)
  | dicF h1 h2 _ ih => exact fun n m => .dicF (by rw [upd_ne (fun e => m (by simp [e]))]; exact h1) h2 (ih n (fun z => m (List.mem_cons_of_mem _ z)))
  | ditO h1 h2 _ ih => exact fun n m => .ditO (by rw [upd_ne (fun e => n (by simp [e]))]; exact h1) h2 (ih (fun z => n (List.mem_cons_of_mem _ z)) m)
  | ditF h1 h2 _ ih => exact fun n m => .ditF (by rw [upd_ne (fun e => m (by simp [e]))]; exact h1) h2 (ih n (fun z => m (List.mem_cons_of_mem _ z)))
  | isetO h1 h2 h3 h4 _ ih => exact fun n m => .isetO (by rw [upd_ne (fun e => n (by simp [e]))]; exact h1) h2 h3 h4 (ih (fun z => n (List.mem_cons_of_mem _ z)) m)
  | isetF h1 h2 h3 h4 _ ih => exact fun n m => .isetF (by rw [upd_ne (fun e => m (by simp [e]))]; exact h1) h2 h3 h4 (ih n (fun z => m (List.mem_cons_of_mem _ z)))

/-! ### what may be done -/
theorem Good.new {p : Addr} {o : HO} (h : Good K R H L) (hp : H p = none) : Good K R (upd H p o) L := by
  obtain ⟨F, G, r, nd, dj, hr⟩ := h
  have t := r.there
  refine ⟨F, G, r.at (fun xs z => by rw [hp] at z; cases z) (fun _ _ z => by rw [hp] at z; cases z) (fun z => t.1 _ z hp) (fun z => t.2 _ z hp), nd, dj, fun a ha => ?_⟩
  rw [upd_ne (fun e => hr a ha (by rw [e]; exact hp))]
  exact hr a ha
/-- a node that is taken out is written -/
theorem Good.wr {a : Addr} {o : HO} (h : Good K (a :: R) H L) (mu : Mut (H a)) : Good K (a :: R) (upd H a o) L := by
  obtain ⟨F, G, r, nd, dj, hr⟩ := h
  have nF : a ∉ F := fun z => (List.nodup_cons.mp nd).1 (List.mem_append_right _ z)
  have nG : a ∉ G := dj a (by simp)
  refine ⟨F, G, r.at (fun xs z => by rw [z] at mu; exact mu) (fun _ _ z => by rw [z] at mu; exact mu) nF nG, nd, dj, fun b hb => ?_⟩
  by_cases e : b = a
  · rw [e, upd_same]; exact fun z => nomatch z
  · rw [upd_ne e]; exact hr b hb

theorem Good.non {k : Nat} (h : Good K R H L) : Good K R H ((k, .non, .non) :: L) := let ⟨F, G, r, x⟩ := h; ⟨F, G, .non r, x⟩
theorem Good.bl {k : Nat} {b : Bool} (h : Good K R H L) : Good K R H ((k, .bl b, .bl b) :: L) := let ⟨F, G, r, x⟩ := h; ⟨F, G, .bl r, x⟩
theorem Good.int {k : Nat} {i : Int} (h : Good K R H L) : Good K R H ((k, .int i, .int i) :: L) := let ⟨F, G, r, x⟩ := h; ⟨F, G, .int r, x⟩
theorem Good.str {k : Nat} {x : Str} (h : Good K R H L) : Good K R H ((k, .str x, .str x) :: L) := let ⟨F, G, r, y⟩ := h; ⟨F, G, .str r, y⟩
theorem Good.tup {k : Nat} {ds : List D} {vs : List V} {a : Addr} (ha : SqT K H a vs) (hl : ds.length = vs.length) (h : Good K R H (its k ds vs ++ L)) : Good K R H ((k, .tup ds, .ref a) :: L) :=
  let ⟨F, G, r, y⟩ := h; ⟨F, G, .tup ha hl r, y⟩
theorem Good.tup_inv {k : Nat} {ds : List D} {a : V} (h : Good K R H ((k, .tup ds, a) :: L)) : ∃ p vs, a = .ref p ∧ SqT K H p vs ∧ ds.length = vs.length ∧ Good K R H (its k ds vs ++ L) := by
  obtain ⟨F, G, r, y⟩ := h
  cases r with
  | tup h1 h2 r => exact ⟨_, _, rfl, h1, h2, F, G, r, y⟩
theorem Good.own_inv {k : Nat} {ds : List D} {a : V} (h : Good K R H ((k + 1, .lst ds, a) :: L)) : ∃ p vs, a = .ref p ∧ H p = some (.lst vs) ∧ ds.length = vs.length ∧ Good K (p :: R) H (its k ds vs ++ L) := by
  obtain ⟨F, G, r, nd, dj, hr⟩ := h
  cases r with
  | @own _ _ p vs _ F _ h1 h2 r =>
    refine ⟨p, vs, rfl, h1, h2, F, G, r, ?_, ?_, ?_⟩
    · exact (List.perm_middle.nodup_iff).mp nd
    · intro a ha
      exact dj a (List.perm_middle.mem_iff.mpr ha)
    · intro a ha
      rcases List.mem_cons.mp ha with rfl | ha
      · rw [h1]; exact fun z => nomatch z
      · exact hr a ha
theorem Good.own {k : Nat} {ds : List D} {vs : List V} {p : Addr} (h1 : H p = some (.lst vs)) (h2 : ds.length = vs.length) (h : Good K (p :: R) H (its k ds vs ++ L)) : Good K R H ((k + 1, .lst ds, .ref p) :: L) := by
  obtain ⟨F, G, r, nd, dj, hr⟩ := h
  exact ⟨p :: F, G, .own h1 h2 r, (List.perm_middle.nodup_iff).mpr nd, fun a ha => dj a (List.perm_middle.mem_iff.mp ha), fun a ha => hr a (List.mem_cons_of_mem _ ha)⟩
/-- a new node is put in -/
theorem Good.resv {p : Addr} {o : HO} (h : Good K R H L) (hp : H p = none) : Good K (p :: R) (upd H p o) L := by
  obtain ⟨F, G, r, nd, dj, hr⟩ := h.new (o := o) hp
  obtain ⟨F', G', r', nd', dj', hr'⟩ := h
  have t := r'.there
  have hRF : ∀ a ∈ R, a ≠ p := fun a ha e => hr' a ha (by rw [e]; exact hp)
  have same : ∀ a, a ≠ p → upd H p o a = H a := fun a e => upd_ne e
  have rr : RL K (upd H p o) L F' G' := r'.at (fun xs z => by rw [hp] at z; cases z) (fun _ _ z => by rw [hp] at z; cases z) (fun z => t.1 _ z hp) (fun z => t.2 _ z hp)
  refine ⟨F', G', rr, ?_, ?_, ?_⟩
  · refine List.nodup_cons.mpr ⟨fun z => ?_, nd'⟩
    rcases List.mem_append.mp z with z | z
    · exact hRF p z rfl
    · exact t.1 p z hp
  · intro a ha hg
    rcases List.mem_cons.mp ha with rfl | ha
    · exact t.2 a hg hp
    · exact dj' a ha hg
  · intro a ha
    rcases List.mem_cons.mp ha with rfl | ha
    · rw [upd_same]; exact fun z => nomatch z
    · rw [same a (hRF a ha)]; exact hr' a ha
theorem Good.newL {k : Nat} {ds : List D} {vs : List V} {p : Addr} (h : Good K R H (its k ds vs ++ L)) (hl : ds.length = vs.length) (hp : H p = none) : Good K R (upd H p (.lst vs)) ((k + 1, .lst ds, .ref p) :: L) :=
  Good.own upd_same hl (h.resv hp)
theorem Good.newT {k : Nat} {ds : List D} {vs : List V} {p : Addr} (h : Good K R H (its k ds vs ++ L)) (hl : ds.length = vs.length) (hp : H p = none) : Good K R (upd H p (.tup vs)) ((k, .tup ds, .ref p) :: L) :=
  Good.tup (SqT.of upd_same) hl (h.new hp)
end
end Vs
set_option Elab.async false
set_option linter.all false
set_option maxRecDepth 100000
set_option maxHeartbeats 2000000
/-! Vs1: levels, what is known of a value (KD), cells, the state of a frame (Rel). -/
namespace Vs
open PySem PySem.Spec PyProof.Rows L2
section
variable {K : PySem.W.Frag} {H H' : Hp} {L L' A B : List Item} {F G R : List Addr}

/-- the same items at lower levels -/
inductive Wk : List Item → List Item → Prop where
  | nil : Wk [] []
  | cons {k k' d v L L'} : k' ≤ k → Wk L L' → Wk ((k, d, v) :: L) ((k', d, v) :: L')
theorem Wk.refl : ∀ L : List Item, Wk L L
  | [] => .nil
  | (_, _, _) :: L => .cons (Nat.le_refl _) (Wk.refl L)
theorem Wk.append (h : Wk A B) (h' : Wk L L') : Wk (A ++ L) (B ++ L') := by
  induction h with
  | nil => exact h'
  | cons e _ ih => exact .cons e ih
theorem Wk.its {k k' : Nat} (h : k' ≤ k) : ∀ (ds : List D) (vs : List V), Wk (its k ds vs) (its k' ds vs)
  | [], _ => .nil
  | _ :: _, [] => .nil
  | d :: ds, v :: vs => .cons h (Wk.its h ds vs)

theorem RL.weak (h : RL K H L F G) : ∀ {L'}, Wk L L' → ∃ F' G' M, RL K H L' F' G' ∧ F.Perm (F' ++ M) ∧ G'.Perm (G ++ M) := by
  induction h with
  | nil => intro L' w; cases w; exact ⟨[], [], [], .nil, .refl _, .refl _⟩
  | non _ ih => intro L' w; cases w with | cons e w => obtain ⟨F', G', M, r, p, q⟩ := ih w; exact ⟨F', G', M, .non r, p, q⟩
  | bl _ ih => intro L' w; cases w with | cons e w => obtain ⟨F', G', M, r, p, q⟩ := ih w; exact ⟨F', G', M, .bl r, p, q⟩
  | int _ ih => intro L' w; cases w with | cons e w => obtain ⟨F', G', M, r, p, q⟩ := ih w; exact ⟨F', G', M, .int r, p, q⟩
  | str _ ih => intro L' w; cases w with | cons e w => obtain ⟨F', G', M, r, p, q⟩ := ih w; exact ⟨F', G', M, .str r, p, q⟩
  | tup h1 h2 _ ih =>
    intro L' w
    cases w with
    | cons e w =>
      obtain ⟨F', G', M, r, p, q⟩ := ih (Wk.append (Wk.its e _ _) w)
      exact ⟨F', G', M, .tup h1 h2 r, p, q⟩
  | @own k ds a vs L F G h1 h2 _ ih =>
    intro L' w
    cases w with
    | @cons _ k' _ _ _ L'' e w =>
      cases k' with
      | succ k' =>
        obtain ⟨F', G', M, r, p, q⟩ := ih (Wk.append (Wk.its (Nat.le_of_succ_le_succ e) _ _) w)
        exact ⟨a :: F', G', M, .own h1 h2 r, p.cons a, q⟩
      | zero =>
        obtain ⟨F', G', M, r, p, q⟩ := ih (Wk.append (Wk.its (Nat.zero_le _) _ _) w)
        exact ⟨F', a :: G', a :: M, .frz h1 h2 r, (p.cons a).trans List.perm_middle.symm, (q.cons a).trans List.perm_middle.symm⟩
  | @frz ds a vs L F G h1 h2 _ ih =>
    intro L' w
    cases w with
    | @cons _ k' _ _ _ L'' e w =>
      obtain rfl : k' = 0 := Nat.le_zero.mp e
      obtain ⟨F', G', M, r, p, q⟩ := ih (Wk.append (Wk.refl _) w)
      exact ⟨F', a :: G', M, .frz h1 h2 r, p, q.cons a⟩
  | @rd ds a vs L F G h1 h2 _ ih =>
    intro L' w
    cases w with
    | @cons _ k' _ _ _ L'' e w =>
      obtain rfl : k' = 0 := Nat.le_zero.mp e
      obtain ⟨F', G', M, r, p, q⟩ := ih (Wk.append (Wk.refl _) w)
      exact ⟨F', G', M, .rd h1 h2 r, p, q⟩
  | @dicO k ks a kvs L F G h1 h2 _ ih =>
    intro L' w
    cases w with
    | @cons _ k' _ _ _ L'' e w =>
      cases k' with
      | succ k' =>
        obtain ⟨F', G', M, r, p, q⟩ := ih (Wk.append (Wk.its (Nat.le_of_succ_le_succ e) _ _) w)
        exact ⟨a :: F', G', M, .dicO h1 h2 r, p.cons a, q⟩
      | zero =>
        obtain ⟨F', G', M, r, p, q⟩ := ih (Wk.append (Wk.its (Nat.zero_le _) _ _) w)
        exact ⟨F', a :: G', a :: M, .dicF h1 h2 r, (p.cons a).trans List.perm_middle.symm, (q.cons a).trans List.perm_middle.symm⟩
  | @dicF ks a kvs L F G h1 h2 _ ih =>
    intro L' w
    cases w with
    | @cons _ k' _ _ _ L'' e w =>
      obtain rfl : k' = 0 := Nat.le_zero.mp e
      obtain ⟨F', G', M, r, p, q⟩ := ih (Wk.append (Wk.refl _) w)
      exact ⟨F', a :: G', M, .dicF h1 h2 r, p, q.cons a⟩
  | @ditO k ks a kvs L F G h1 h2 _ ih =>
    intro L' w
    cases w with
    | @cons _ k' _ _ _ L'' e w =>
      cases k' with
      | succ k' =>
        obtain ⟨F', G', M, r, p, q⟩ := ih (Wk.append (Wk.its (Nat.le_of_succ_le_succ e) _ _) w)
        exact ⟨a :: F', G', M, .ditO h1 h2 r, p.cons a, q⟩
      | zero =>
        obtain ⟨F', G', M, r, p, q⟩ := ih (Wk.append (Wk.its (Nat.zero_le _) _ _) w)
        exact ⟨F', a :: G', a :: M, .ditF h1 h2 r, (p.cons a).trans List.perm_middle.symm, (q.cons a).trans List.perm_middle.symm⟩
  | @ditF ks a kvs L F G h1 h2 _ ih =>
    intro L' w
    cases w with
    | @cons _ k' _ _ _ L'' e w =>
      obtain rfl : k' = 0 := Nat.le_zero.mp e
      obtain ⟨F', G', M, r, p, q⟩ := ih (Wk.append (Wk.refl _) w)
      exact ⟨F', a :: G', M, .ditF h1 h2 r, p, q.cons a⟩
  | @isetO k ns a S n L F G h1 h2 h3 h4 _ ih =>
    intro L' w
    cases w with
    | @cons _ k' _ _ _ L'' e w =>
      obtain ⟨F', G', M, r, p, q⟩ := ih w
      cases k' with
      | succ k' => exact ⟨a :: F', G', M, .isetO h1 h2 h3 h4 r, p.cons a, q⟩
      | zero => exact ⟨F', a :: G', a :: M, .isetF h1 h2 h3 h4 r, (p.cons a).trans List.perm_middle.symm, (q.cons a).trans List.perm_middle.symm⟩
  | @isetF ns a S n L F G h1 h2 h3 h4 _ ih =>
    intro L' w
    cases w with
    | @cons _ k' _ _ _ L'' e w =>
      obtain rfl : k' = 0 := Nat.le_zero.mp e
      obtain ⟨F', G', M, r, p, q⟩ := ih w
      exact ⟨F', a :: G', M, .isetF h1 h2 h3 h4 r, p, q.cons a⟩

theorem Good.weak (h : Good K R H L) (w : Wk L L') : Good K R H L' := by
  obtain ⟨F, G, r, nd, dj, hr⟩ := h
  obtain ⟨F', G', M, r', p, q⟩ := r.weak w
  have p' : (R ++ F).Perm (R ++ F' ++ M) := by rw [List.append_assoc]; exact p.append_left R
  have nd' := (p'.nodup_iff).mp nd
  refine ⟨F', G', r', (List.nodup_append.mp nd').1, fun a ha hg => ?_, hr⟩
  rcases List.mem_append.mp ((q.mem_iff).mp hg) with hg | hg
  · exact dj a ((p'.mem_iff).mpr (List.mem_append_left _ ha)) hg
  · exact (List.nodup_append.mp nd').2.2 a ha a hg rfl
theorem Good.low {k k' : Nat} {d : D} {v : V} (h : Good K R H ((k, d, v) :: L)) (e : k' ≤ k) : Good K R H ((k', d, v) :: L) := h.weak (.cons e (Wk.refl L))

/-- at level 0 nothing is owned -/
theorem RL.zero (h : RL K H L F G) : (∀ x ∈ L, x.1 = 0) → F = [] := by
  have z : ∀ {ds : List D} {vs : List V} {L : List Item}, (∀ x ∈ L, x.1 = 0) → ∀ x ∈ Vs.its 0 ds vs ++ L, x.1 = 0 := by
    intro ds vs L hL x hx
    rcases List.mem_append.mp hx with hx | hx
    · have : ∀ (ds : List D) (vs : List V), ∀ x ∈ Vs.its 0 ds vs, x.1 = 0 := by
        intro ds
        induction ds with
        | nil => intro vs x hx; cases hx
        | cons d ds ih =>
          intro vs x hx
          cases vs with
          | nil => cases hx
          | cons v vs =>
            rcases List.mem_cons.mp hx with rfl | hx
            · rfl
            · exact ih vs x hx
      exact this _ _ x hx
    · exact hL x hx
  induction h with
  | nil => intro _; rfl
  | non _ ih => intro hL; exact ih fun x hx => hL x (List.mem_cons_of_mem _ hx)
  | bl _ ih => intro hL; exact ih fun x hx => hL x (List.mem_cons_of_mem _ hx)
  | int _ ih => intro hL; exact ih fun x hx => hL x (List.mem_cons_of_mem _ hx)
  | str _ ih => intro hL; exact ih fun x hx => hL x (List.mem_cons_of_mem _ hx)
  | @tup k ds a vs L F G _ _ _ ih =>
    intro hL
    obtain rfl : k = 0 := hL _ List.mem_cons_self
    exact ih (z fun x hx => hL x (List.mem_cons_of_mem _ hx))
  | own _ _ _ _ => intro hL; exact absurd (hL _ List.mem_cons_self) (Nat.succ_ne_zero _)
  | frz _ _ _ ih => intro hL; exact ih (z fun x hx => hL x (List.mem_cons_of_mem _ hx))
  | rd _ _ _ ih => intro hL; exact ih (z fun x hx => hL x (List.mem_cons_of_mem _ hx))
  | dicO _ _ _ _ => intro hL; exact absurd (hL _ List.mem_cons_self) (Nat.succ_ne_zero _)
  | dicF _ _ _ ih => intro hL; exact ih (z fun x hx => hL x (List.mem_cons_of_mem _ hx))
  | ditO _ _ _ _ => intro hL; exact absurd (hL _ List.mem_cons_self) (Nat.succ_ne_zero _)
  | ditF _ _ _ ih => intro hL; exact ih (z fun x hx => hL x (List.mem_cons_of_mem _ hx))
  | isetO _ _ _ _ _ _ => intro hL; exact absurd (hL _ List.mem_cons_self) (Nat.succ_ne_zero _)
  | isetF _ _ _ _ _ ih => intro hL; exact ih fun x hx => hL x (List.mem_cons_of_mem _ hx)

/-- what is shared may be had twice -/
theorem Good.dup {d : D} {v : V} (h : Good K R H ((0, d, v) :: L)) : Good K R H ((0, d, v) :: (0, d, v) :: L) := by
  obtain ⟨F, G, r, nd, dj, hr⟩ := h
  obtain ⟨F1, G1, F2, G2, h1, h2, rfl, rfl⟩ := r.split (A := [(0, d, v)]) (B := L) rfl
  obtain rfl := h1.zero (fun x hx => by rw [List.mem_singleton.mp hx])
  refine ⟨_, _, h1.append r, by simpa using nd, fun a ha hg => ?_, hr⟩
  refine dj a (by simpa using ha) ?_
  rcases List.mem_append.mp hg with hg | hg
  · exact List.mem_append_left _ hg
  · exact hg
theorem Good.dups {ds : List D} {vs : List V} (h : Good K R H (its 0 ds vs ++ L)) : Good K R H (its 0 ds vs ++ (its 0 ds vs ++ L)) := by
  obtain ⟨F, G, r, nd, dj, hr⟩ := h
  obtain ⟨F1, G1, F2, G2, h1, h2, rfl, rfl⟩ := r.split rfl
  have z : ∀ (ds : List D) (vs : List V), ∀ x ∈ Vs.its 0 ds vs, x.1 = 0 := by
    intro ds
    induction ds with
    | nil => intro vs x hx; cases hx
    | cons d ds ih =>
      intro vs x hx
      cases vs with
      | nil => cases hx
      | cons v vs =>
        rcases List.mem_cons.mp hx with rfl | hx
        · rfl
        · exact ih vs x hx
  obtain rfl := h1.zero (z ds vs)
  refine ⟨_, _, h1.append r, by simpa using nd, fun a ha hg => ?_, hr⟩
  refine dj a (by simpa using ha) ?_
  rcases List.mem_append.mp hg with hg | hg
  · exact List.mem_append_left _ hg
  · exact hg
/-- a name is read: shared from now on -/
theorem Good.share {k : Nat} {d : D} {v : V} (h : Good K R H ((k, d, v) :: L)) : Good K R H ((0, d, v) :: (0, d, v) :: L) := (h.low (Nat.zero_le _)).dup
theorem Good.unres {p : Addr} (h : Good K (p :: R) H L) : Good K R H L := by
  obtain ⟨F, G, r, nd, dj, hr⟩ := h
  exact ⟨F, G, r, (List.nodup_cons.mp nd).2, fun a ha => dj a (List.mem_cons_of_mem _ ha), fun a ha => hr a (List.mem_cons_of_mem _ ha)⟩

/-- a shared list: its items, shared -/
theorem Good.frz_inv {ds : List D} {a : V} (h : Good K R H ((0, .lst ds, a) :: L)) : ∃ p vs, a = .ref p ∧ H p = some (.lst vs) ∧ ds.length = vs.length ∧ Good K R H (its 0 ds vs ++ L) := by
  obtain ⟨F, G, r, nd, dj, hr⟩ := h
  cases r with
  | @frz _ p vs _ _ G h1 h2 r => exact ⟨p, vs, rfl, h1, h2, F, G, r, nd, fun a ha hg => dj a ha (List.mem_cons_of_mem _ hg), hr⟩
theorem Good.rol_inv {k : Nat} {ds : List D} {a : V} (h : Good K R H ((k, .rol ds, a) :: L)) : ∃ p vs, a = .ref p ∧ SqL K H p vs ∧ ds.length = vs.length ∧ Good K R H (its 0 ds vs ++ L) := by
  obtain ⟨F, G, r, nd, dj, hr⟩ := h
  cases r with
  | @rd _ p vs _ _ _ h1 h2 r => exact ⟨p, vs, rfl, h1.sq, h2, F, G, r, nd, dj, hr⟩
/-- a list that is used up: its items at one level less -/
theorem Good.lst_inv {k : Nat} {ds : List D} {a : V} (h : Good K R H ((k, .lst ds, a) :: L)) : ∃ p vs, a = .ref p ∧ H p = some (.lst vs) ∧ ds.length = vs.length ∧ Good K R H (its (k - 1) ds vs ++ L) := by
  cases k with
  | zero => exact h.frz_inv
  | succ k =>
    obtain ⟨p, vs, rfl, h1, h2, g⟩ := h.own_inv
    exact ⟨p, vs, rfl, h1, h2, g.unres⟩
/-- a list that stays, its items shared -/
theorem Good.lst_view {k : Nat} {ds : List D} {a : V} (h : Good K R H ((k, .lst ds, a) :: L)) : ∃ p vs, a = .ref p ∧ H p = some (.lst vs) ∧ ds.length = vs.length ∧ Good K R H (its 0 ds vs ++ (min k 1, .lst ds, .ref p) :: L) := by
  cases k with
  | zero =>
    obtain ⟨p, vs, rfl, h1, h2, g⟩ := h.dup.frz_inv
    exact ⟨p, vs, rfl, h1, h2, g⟩
  | succ k =>
    obtain ⟨p, vs, rfl, h1, h2, g⟩ := h.own_inv
    refine ⟨p, vs, rfl, h1, h2, ?_⟩
    have g2 := (g.weak (Wk.append (Wk.its (Nat.zero_le k) ds vs) (Wk.refl L))).dups
    have g3 : Good K (p :: R) H (its 0 ds vs ++ (its 0 ds vs ++ L)) := g2
    have e : min (k + 1) 1 = 0 + 1 := by omega
    rw [e]
    have g4 : Good K R H ((0 + 1, .lst ds, .ref p) :: (its 0 ds vs ++ L)) := Good.own h1 h2 g3
    exact g4.perm List.perm_middle.symm
/-- a tuple that stays, shared; its items shared -/
theorem Good.tup_view {k : Nat} {ds : List D} {a : V} (h : Good K R H ((k, .tup ds, a) :: L)) : ∃ p vs, a = .ref p ∧ SqT K H p vs ∧ ds.length = vs.length ∧ Good K R H (its 0 ds vs ++ (0, .tup ds, .ref p) :: L) := by
  obtain ⟨p, vs, rfl, h1, h2, g⟩ := h.share.tup_inv
  exact ⟨p, vs, rfl, h1, h2, g⟩

/-! ### what is known of a value -/
def KD (K : PySem.W.Frag) (H : Hp) (d : D) (v : V) : Prop := ∃ k R L, Good K R H ((k, d, v) :: L)
theorem Good.kd {k : Nat} {d : D} {v : V} (h : Good K R H ((k, d, v) :: L)) : KD K H d v := ⟨k, R, L, h⟩
theorem Good.kd_mem {k : Nat} {d : D} {v : V} (h : Good K R H L) (hm : (k, d, v) ∈ L) : KD K H d v := by
  obtain ⟨A, B, rfl⟩ := List.append_of_mem hm
  exact ⟨k, R, A ++ B, h.perm List.perm_middle⟩
theorem its_mem {k : Nat} : ∀ {ds : List D} {vs : List V} {i : Nat} {d : D} {v : V}, ds[i]? = some d → vs[i]? = some v → (k, d, v) ∈ its k ds vs
  | [], _, _, _, _, h, _ => by simp at h
  | _ :: _, [], _, _, _, _, h => by simp at h
  | d :: ds, v :: vs, 0, _, _, h1, h2 => by simp at h1 h2; subst h1; subst h2; exact List.mem_cons_self
  | d :: ds, v :: vs, i + 1, _, _, h1, h2 => List.mem_cons_of_mem _ (its_mem (i := i) (by simpa using h1) (by simpa using h2))
/-- a row of known values -/
abbrev KDs (K : PySem.W.Frag) (H : Hp) : List D → List V → Prop := Paired (KD K H)
theorem kds_of : ∀ {ds : List D} {vs : List V}, ds.length = vs.length → (∀ (i : Nat) (d : D) (v : V), ds[i]? = some d → vs[i]? = some v → KD K H d v) → KDs K H ds vs
  | [], [], _, _ => .nil
  | [], _ :: _, h, _ => by simp at h
  | _ :: _, [], h, _ => by simp at h
  | d :: ds, v :: vs, h, f => .cons (f 0 d v rfl rfl) (kds_of (by simpa using h) fun i d v h1 h2 => f (i + 1) d v (by simpa using h1) (by simpa using h2))
theorem Good.kds {k : Nat} {ds : List D} {vs : List V} (h : Good K R H L) (hl : ds.length = vs.length) (hs : ∀ x ∈ its k ds vs, x ∈ L) : KDs K H ds vs :=
  kds_of hl fun i d v h1 h2 => h.kd_mem (hs _ (its_mem h1 h2))
theorem KD.int {i : Int} {v : V} (h : KD K H (.int i) v) : v = .int i := by obtain ⟨_, _, _, _, _, r, _⟩ := h; cases r; rfl
theorem KD.bl {b : Bool} {v : V} (h : KD K H (.bl b) v) : v = .bl b := by obtain ⟨_, _, _, _, _, r, _⟩ := h; cases r; rfl
theorem KD.non {v : V} (h : KD K H .non v) : v = .non := by obtain ⟨_, _, _, _, _, r, _⟩ := h; cases r; rfl
theorem KD.str {x : Str} {v : V} (h : KD K H (.str x) v) : v = .str x := by obtain ⟨_, _, _, _, _, r, _⟩ := h; cases r; rfl
theorem KD.tup {ds : List D} {v : V} (h : KD K H (.tup ds) v) : ∃ p vs, v = .ref p ∧ SqT K H p vs ∧ KDs K H ds vs := by
  obtain ⟨k, R, L, h⟩ := h
  obtain ⟨p, vs, rfl, h1, h2, g⟩ := h.tup_inv
  exact ⟨p, vs, rfl, h1, g.kds h2 fun x hx => List.mem_append_left _ hx⟩
theorem KD.lst {ds : List D} {v : V} (h : KD K H (.lst ds) v) : ∃ p vs, v = .ref p ∧ H p = some (.lst vs) ∧ KDs K H ds vs := by
  obtain ⟨k, R, L, h⟩ := h
  obtain ⟨p, vs, rfl, h1, h2, g⟩ := h.lst_inv
  exact ⟨p, vs, rfl, h1, g.kds h2 fun x hx => List.mem_append_left _ hx⟩
theorem KD.rol {ds : List D} {v : V} (h : KD K H (.rol ds) v) : ∃ p vs, v = .ref p ∧ SqL K H p vs ∧ KDs K H ds vs := by
  obtain ⟨k, R, L, h⟩ := h
  obtain ⟨p, vs, rfl, h1, h2, g⟩ := h.rol_inv
  exact ⟨p, vs, rfl, h1, g.kds h2 fun x hx => List.mem_append_left _ hx⟩
theorem KDs.ints : ∀ {ns : List Int} {vs : List V}, KDs K H (ns.map .int) vs → vs = ns.map V.int
  | [], _, h => by cases h; rfl
  | n :: ns, _, h => by
    cases h with
    | cons h1 h2 => rw [h1.int, KDs.ints h2]; rfl

/-! ### the cells of a frame -/
inductive Cell where
  | u
  | c (k : Nat) (d : D)
abbrev Rho := List Cell
abbrev Sg := L2.St
inductive Cells : Rho → Sg → List Item → Prop where
  | nil : Cells [] [] []
  | u {ρ σ L x} : Cells ρ σ L → Cells (.u :: ρ) (x :: σ) L
  | c {ρ σ L k d v} : Cells ρ σ L → Cells (.c k d :: ρ) (some v :: σ) ((k, d, v) :: L)
theorem Cells.len {ρ : Rho} {σ : Sg} {L : List Item} (h : Cells ρ σ L) : ρ.length = σ.length := by
  induction h with
  | nil => rfl
  | u _ ih => simp [ih]
  | c _ ih => simp [ih]
theorem Cells.take {ρ : Rho} {σ : Sg} {L : List Item} (h : Cells ρ σ L) : ∀ {i k d}, ρ[i]? = some (.c k d) → ∃ v L', σ[i]? = some (some v) ∧ L.Perm ((k, d, v) :: L') ∧ Cells (ρ.set i .u) σ L' := by
  induction h with
  | nil => intro i k d e; simp at e
  | @u ρ σ L x h ih =>
    intro i k d e
    cases i with
    | zero => simp at e
    | succ i =>
      obtain ⟨v, L', h1, h2, h3⟩ := ih (i := i) (by simpa using e)
      exact ⟨v, L', by simpa using h1, h2, .u h3⟩
  | @c ρ σ L k0 d0 v0 h ih =>
    intro i k d e
    cases i with
    | zero =>
      simp at e
      obtain ⟨rfl, rfl⟩ := e
      exact ⟨v0, L, rfl, .refl _, .u h⟩
    | succ i =>
      obtain ⟨v, L', h1, h2, h3⟩ := ih (i := i) (by simpa using e)
      exact ⟨v, (k0, d0, v0) :: L', by simpa using h1, (h2.cons _).trans (.swap _ _ _), .c h3⟩
theorem Cells.put {ρ : Rho} {σ : Sg} {L : List Item} (h : Cells ρ σ L) : ∀ {i k d v}, ρ[i]? = some .u → σ[i]? = some (some v) → ∃ L', L'.Perm ((k, d, v) :: L) ∧ Cells (ρ.set i (.c k d)) σ L' := by
  induction h with
  | nil => intro i k d v e _; simp at e
  | @u ρ σ L x h ih =>
    intro i k d v e e2
    cases i with
    | zero =>
      simp at e2
      subst e2
      exact ⟨_, .refl _, .c h⟩
    | succ i =>
      obtain ⟨L', h1, h2⟩ := ih (i := i) (k := k) (d := d) (v := v) (by simpa using e) (by simpa using e2)
      exact ⟨L', h1, .u h2⟩
  | @c ρ σ L k0 d0 v0 h ih =>
    intro i k d v e e2
    cases i with
    | zero => simp at e
    | succ i =>
      obtain ⟨L', h1, h2⟩ := ih (i := i) (k := k) (d := d) (v := v) (by simpa using e) (by simpa using e2)
      exact ⟨(k0, d0, v0) :: L', (h1.cons _).trans (.swap _ _ _), .c h2⟩
/-- an undefined cell stands for any content -/
theorem Cells.free {ρ : Rho} {σ : Sg} {L : List Item} (h : Cells ρ σ L) : ∀ {i y}, ρ[i]? = some .u → Cells ρ (σ.set i y) L := by
  induction h with
  | nil => intro i y e; simp at e
  | @u ρ σ L x h ih =>
    intro i y e
    cases i with
    | zero => exact .u h
    | succ i => exact .u (ih (i := i) (by simpa using e))
  | @c ρ σ L k0 d0 v0 h ih =>
    intro i y e
    cases i with
    | zero => simp at e
    | succ i => exact .c (ih (i := i) (by simpa using e))
/-- a cell is forgotten -/
theorem Cells.wipe {ρ : Rho} {σ : Sg} {L : List Item} (h : Cells ρ σ L) (i : Nat) : ∃ M L', L.Perm (M ++ L') ∧ Cells (ρ.set i .u) σ L' := by
  cases e : ρ[i]? with
  | none =>
    refine ⟨[], L, .refl _, ?_⟩
    rw [List.set_eq_of_length_le (List.getElem?_eq_none_iff.mp e)]
    exact h
  | some x =>
    cases x with
    | u =>
      refine ⟨[], L, .refl _, ?_⟩
      obtain ⟨hi, e'⟩ := List.getElem?_eq_some_iff.mp e
      rw [← e', List.set_getElem_self]
      exact h
    | c k d =>
      obtain ⟨v, L', _, h2, h3⟩ := h.take e
      exact ⟨[(k, d, v)], L', h2, h3⟩

/-- the frame's cells and what is held beside them -/
def Rel (K : PySem.W.Frag) (H : Hp) (ρ : Rho) (σ : Sg) (T : List Item) : Prop := ∃ L, Cells ρ σ L ∧ Good K [] H (T ++ L)
end
section
variable {K : PySem.W.Frag} {H H' : Hp} {ρ : Rho} {σ : Sg} {T T' : List Item}
theorem Rel.good (h : Rel K H ρ σ T) (f : ∀ L, Good K [] H (T ++ L) → Good K [] H' (T' ++ L)) : Rel K H' ρ σ T' := let ⟨L, c, g⟩ := h; ⟨L, c, f L g⟩
theorem Rel.move {i k : Nat} {d : D} (h : Rel K H ρ σ T) (e : ρ[i]? = some (.c k d)) : ∃ v, σ[i]? = some (some v) ∧ Rel K H (ρ.set i .u) σ ((k, d, v) :: T) := by
  obtain ⟨L, c, g⟩ := h
  obtain ⟨v, L', h1, h2, h3⟩ := c.take e
  refine ⟨v, h1, L', h3, g.perm ?_⟩
  exact (h2.append_left T).trans List.perm_middle
theorem Rel.back {i k : Nat} {d : D} {v : V} (h : Rel K H ρ σ ((k, d, v) :: T)) (e : ρ[i]? = some .u) (hs : σ[i]? = some (some v)) : Rel K H (ρ.set i (.c k d)) σ T := by
  obtain ⟨L, c, g⟩ := h
  obtain ⟨L', h1, h2⟩ := c.put (k := k) (d := d) e hs
  refine ⟨L', h2, g.perm ?_⟩
  exact (List.perm_middle.symm).trans ((h1.symm).append_left T)
theorem getElem?_set_u {i : Nat} {x y : Cell} (e : ρ[i]? = some x) : (ρ.set i y)[i]? = some y := by
  obtain ⟨hi, _⟩ := List.getElem?_eq_some_iff.mp e
  rw [List.getElem?_set_self hi]
theorem set_set_c {i : Nat} {x y : Cell} : (ρ.set i x).set i y = ρ.set i y := by rw [List.set_set]
/-- a name is read -/
theorem Rel.read {i k : Nat} {d : D} (h : Rel K H ρ σ T) (e : ρ[i]? = some (.c k d)) : ∃ v, σ[i]? = some (some v) ∧ Rel K H (ρ.set i (.c 0 d)) σ ((0, d, v) :: T) := by
  obtain ⟨v, hv, r⟩ := h.move e
  refine ⟨v, hv, ?_⟩
  have r2 : Rel K H (ρ.set i .u) σ ((0, d, v) :: (0, d, v) :: T) := r.good fun L g => g.share
  have r3 := r2.back (i := i) (getElem?_set_u e) hv
  rwa [set_set_c] at r3
theorem Rel.kd {i k : Nat} {d : D} (h : Rel K H ρ σ T) (e : ρ[i]? = some (.c k d)) : ∃ v, σ[i]? = some (some v) ∧ KD K H d v := by
  obtain ⟨v, hv, L, c, g⟩ := h.move e
  exact ⟨v, hv, g.kd⟩
theorem Rel.top {k : Nat} {d : D} {v : V} (h : Rel K H ρ σ ((k, d, v) :: T)) : KD K H d v := let ⟨L, c, g⟩ := h; g.kd
theorem Rel.drop {x : Item} (h : Rel K H ρ σ (x :: T)) : Rel K H ρ σ T := h.good fun L g => g.tail
theorem Rel.store {i k : Nat} {d : D} {v : V} (h : Rel K H ρ σ ((k, d, v) :: T)) (hi : i < ρ.length) : Rel K H (ρ.set i (.c k d)) (σ.set i (some v)) T := by
  obtain ⟨L, c, g⟩ := h
  obtain ⟨M, L', p, c'⟩ := c.wipe i
  have e : (ρ.set i .u)[i]? = some .u := by rw [List.getElem?_set_self hi]
  have c2 := c'.free (y := some v) e
  have hσ : i < σ.length := by rw [← c.len]; exact hi
  obtain ⟨L2, h1, h2⟩ := c2.put (k := k) (d := d) (v := v) e (by rw [List.getElem?_set_self hσ])
  rw [set_set_c] at h2
  refine ⟨L2, h2, ?_⟩
  have g2 : Good K [] H (M ++ ((k, d, v) :: T ++ L')) := g.perm (by
    refine ((p.append_left ((k, d, v) :: T))).trans ?_
    rw [← List.append_assoc]
    exact (List.perm_append_comm.append_right L').trans (by rw [List.append_assoc]))
  refine g2.dropA.perm ?_
  exact (List.perm_middle (l₁ := T) (a := (k, d, v)) (l₂ := L')).symm.trans ((h1.symm).append_left T)
end
end Vs
set_option Elab.async false
set_option linter.all false
set_option maxRecDepth 100000
set_option maxHeartbeats 2000000
/-! Vs2: what a piece of code does to trees (M), and that the model does it (tV, tT, tArs): names, constants, one-value operations. -/
namespace Vs
open PySem PySem.Spec PyProof.Rows L2

/-- an exception: its class's name, what it carries -/
structure Xn where
  cls : Str
  fs : List (Str × D)
/-- no word of ours; a value and the cells behind it; an exception -/
inductive R (α : Type) where
  | no
  | ok (a : α) (ρ : Rho)
  | ex (x : Xn) (ρ : Rho)
abbrev M (α : Type) := Rho → R α
def M.bind {α β : Type} (m : M α) (f : α → M β) : M β := fun ρ => match m ρ with
  | .no => .no
  | .ok a ρ' => f a ρ'
  | .ex x ρ' => .ex x ρ'
def M.ret {α : Type} (a : α) : M α := fun ρ => .ok a ρ
def M.of {α : Type} (o : Option α) : M α := fun ρ => match o with
  | some a => .ok a ρ
  | none => .no

def D.isS : D → Bool
  | .non => true | .bl _ => true | .int _ => true | .str _ => true
  | _ => false
def D.sv : D → V
  | .non => .non | .bl b => .bl b | .int i => .int i | .str x => .str x
  | _ => .non

/-- what is allowed of exceptions -/
structure Wish where
  p : Xn → Rho → List Item → Prop
  up : ∀ x ρ T t, p x ρ T → p x ρ (t :: T)
def W0 : Wish := ⟨fun _ _ _ => False, fun _ _ _ _ h => h⟩
def Aft {α : Type} (W : Wish) (T : List Item) (r : R α) (k : α → Rho → Prop) : Prop := match r with
  | .no => False
  | .ok a ρ' => k a ρ'
  | .ex x ρ' => W.p x ρ' T
section
variable {α β : Type} {W : Wish} {T : List Item} {r : R α} {k k' : α → Rho → Prop}
theorem Aft.bind {m : M α} {f : α → M β} {ρ : Rho} {k : β → Rho → Prop} (h : Aft W T (M.bind m f ρ) k) : Aft W T (m ρ) fun a ρ1 => Aft W T (f a ρ1) k := by
  unfold M.bind at h
  cases e : m ρ with
  | no => rw [e] at h; exact h
  | ok a ρ' => rw [e] at h; exact h
  | ex x ρ' => rw [e] at h; exact h
theorem Aft.imp (h : Aft W T r k) (f : ∀ a ρ, k a ρ → k' a ρ) : Aft W T r k' := by
  cases r with
  | no => exact h
  | ok a ρ' => exact f _ _ h
  | ex x ρ' => exact h
theorem Aft.up {t : Item} (h : Aft W T r k) : Aft W (t :: T) r k := by
  cases r with
  | no => exact h
  | ok a ρ' => exact h
  | ex x ρ' => exact W.up _ _ _ _ h
theorem Aft.ups (h : Aft W T r k) : ∀ S : List Item, Aft W (S ++ T) r k
  | [] => h
  | t :: S => (Aft.ups h S).up (t := t)
theorem Aft.of {o : Option α} {ρ : Rho} (h : Aft W T (M.of o ρ) k) : ∃ a, o = some a ∧ k a ρ := by
  cases o with
  | none => exact False.elim h
  | some a => exact ⟨a, rfl, h⟩
end

/-! ### readings -/
def tV (K : PySem.W.Frag) (W : Wish) (m : M LD) : TE := fun σ H Q => ∃ ρ T, Rel K H ρ σ T ∧ Aft W T (m ρ) fun x ρ' => ∀ v H', Rel K H' ρ' σ ((x.1, x.2, v) :: T) → Q v H'
def tT (K : PySem.W.Frag) (W : Wish) (m : M Bool) : TT := fun σ H Q => ∃ ρ T, Rel K H ρ σ T ∧ Aft W T (m ρ) fun b ρ' => ∀ H', Rel K H' ρ' σ T → Q b H'
/-- an argument: a value, or the content of a name (looked at last) -/
inductive Ar where
  | val (x : LD)
  | view (i : Nat)
def Ar.tmp : Ar → V → List Item
  | .val x, v => [(x.1, x.2, v)]
  | .view _, _ => []
def Ar.at (σ : Sg) : Ar → V → Prop
  | .val _, _ => True
  | .view i, v => σ[i]? = some (some v)
def Ar.get (ρ : Rho) : Ar → Option D
  | .val x => some x.2
  | .view i => match ρ[i]? with
    | some (.c _ d) => some d
    | _ => none
def tA (K : PySem.W.Frag) (W : Wish) (m : M Ar) : TE := fun σ H Q => ∃ ρ T, Rel K H ρ σ T ∧ Aft W T (m ρ) fun a ρ' => ∀ v H', Rel K H' ρ' σ (a.tmp v ++ T) → a.at σ v → Q v H'
def tmps : List Ar → List V → List Item
  | a :: as, v :: vs => a.tmp v ++ tmps as vs
  | _, _ => []
def gets (ρ : Rho) : List Ar → Option (List D)
  | [] => some []
  | a :: as => match a.get ρ, gets ρ as with
    | some d, some ds => some (d :: ds)
    | _, _ => none
def tAs (K : PySem.W.Frag) (W : Wish) (m : M (List Ar)) : TA := fun σ H Q => ∃ ρ T, Rel K H ρ σ T ∧ Aft W T (m ρ) fun as ρ' => ∀ vs H', Rel K H' ρ' σ (tmps as vs ++ T) → Paired (Ar.at σ) as vs → Q vs H'
/-- values alone -/
def tVs (K : PySem.W.Frag) (W : Wish) (m : M (List LD)) : TA := fun σ H Q => ∃ ρ T, Rel K H ρ σ T ∧ Aft W T (m ρ) fun xs ρ' => ∀ vs H', xs.length = vs.length → Rel K H' ρ' σ (List.zipWith (fun (x : LD) v => (x.1, x.2, v)) xs vs ++ T) → Q vs H'

theorem PE.imp {X : Cx} {e : Expr} {t t' : TE} (h : PE X e t) (f : ∀ σ H Q, t' σ H Q → t σ H Q) : PE X e t' := ⟨fun pins s σ H Q I hq => h.run pins s σ H Q I (f σ H Q hq)⟩
theorem PT.imp {X : Cx} {e : Expr} {t t' : TT} (h : PT X e t) (f : ∀ σ H Q, t' σ H Q → t σ H Q) : PT X e t' := ⟨fun pins s σ H Q I hq => h.run pins s σ H Q I (f σ H Q hq)⟩
theorem PW.imp {X : Cx} {e : Expr} {t t' : TT} (h : PW X e t) (f : ∀ σ H Q, t' σ H Q → t σ H Q) : PW X e t' := ⟨fun wh pins s σ H Q I hq => h.run wh pins s σ H Q I (f σ H Q hq)⟩
theorem PA.imp {X : Cx} {es : List Expr} {t t' : TA} (h : PA X es t) (f : ∀ σ H Q, t' σ H Q → t σ H Q) : PA X es t' := ⟨fun pos pins s σ H Q I hq => h.run pos pins s σ H Q I (f σ H Q hq)⟩
theorem PK.imp {X : Cx} {es : List Keyword} {t t' : TA} (h : PK X es t) (f : ∀ σ H Q, t' σ H Q → t σ H Q) : PK X es t' := ⟨fun pos pins s σ H Q I hq => h.run pos pins s σ H Q I (f σ H Q hq)⟩
theorem PS.imp {X : Cx} {st : Stmt} {t t' : TS} (h : PS X st t) (f : ∀ D σ H, t' D σ H → t D σ H) : PS X st t' := ⟨fun pins s σ H D I hq => h.run pins s σ H D I (f D σ H hq)⟩
theorem PSs.imp {X : Cx} {st : List Stmt} {t t' : TS} (h : PSs X st t) (f : ∀ D σ H, t' D σ H → t D σ H) : PSs X st t' := ⟨fun pins s σ H D I hq => h.run pins s σ H D I (f D σ H hq)⟩

/-! ### names and constants -/
def rd (i : Nat) : M LD := fun ρ => match ρ[i]? with
  | some (.c k d) => if d.isS then .ok (9, d) ρ else .ok (0, d) (ρ.set i (.c 0 d))
  | _ => .no
def mv (i : Nat) : M LD := fun ρ => match ρ[i]? with
  | some (.c k d) => if d.isS then .ok (9, d) ρ else .ok (k, d) (ρ.set i .u)
  | _ => .no
def vw (i : Nat) : M Ar := M.ret (.view i)
def kc (d : D) : M LD := M.ret (9, d)
def asAr (m : M LD) : M Ar := m.bind fun x => M.ret (.val x)

section
variable {K : PySem.W.Frag} {H H' : Hp} {L : List Item} {Rs : List Addr} {ρ : Rho} {σ : Sg} {T : List Item}
theorem KD.isS {d : D} {v : V} (h : KD K H d v) (e : d.isS = true) : v = d.sv := by
  cases d with
  | non => exact h.non
  | bl b => exact h.bl
  | int i => exact h.int
  | str x => exact h.str
  | _ => cases e
theorem Good.scal {k : Nat} {d : D} {Rs : List Addr} (h : Good K Rs H L) (e : d.isS = true) : Good K Rs H ((k, d, d.sv) :: L) := by
  cases d with
  | non => exact h.non
  | bl b => exact h.bl
  | int i => exact h.int
  | str x => exact h.str
  | _ => cases e
theorem Rel.scal {k : Nat} {d : D} (h : Rel K H ρ σ T) (e : d.isS = true) : Rel K H ρ σ ((k, d, d.sv) :: T) := h.good fun L g => g.scal e
end

section
variable {X : Cx} {W : Wish} {e : Expr} {pos : Pos}
theorem v_rd {i : Nat} {x : Str} (h : PE X (.Name x pos) (tVar i)) : PE X (.Name x pos) (tV X.K W (rd i)) := by
  refine PE.imp h fun σ H Q hq => ?_
  obtain ⟨ρ, T, r, a⟩ := hq
  unfold rd at a
  cases q : ρ[i]? with
  | none => rw [q] at a; exact a.elim
  | some c =>
    cases c with
    | u => rw [q] at a; exact a.elim
    | c k d =>
      rw [q] at a
      simp only at a
      by_cases s : d.isS = true
      · rw [if_pos s] at a
        obtain ⟨v, hv, kd⟩ := r.kd q
        obtain rfl := kd.isS s
        exact ⟨_, hv, a _ H (r.scal s)⟩
      · rw [if_neg s] at a
        obtain ⟨v, hv, r2⟩ := r.read q
        exact ⟨v, hv, a v H r2⟩
theorem v_mv {i : Nat} {x : Str} (h : PE X (.Name x pos) (tVar i)) : PE X (.Name x pos) (tV X.K W (mv i)) := by
  refine PE.imp h fun σ H Q hq => ?_
  obtain ⟨ρ, T, r, a⟩ := hq
  unfold mv at a
  cases q : ρ[i]? with
  | none => rw [q] at a; exact a.elim
  | some c =>
    cases c with
    | u => rw [q] at a; exact a.elim
    | c k d =>
      rw [q] at a
      simp only at a
      by_cases s : d.isS = true
      · rw [if_pos s] at a
        obtain ⟨v, hv, kd⟩ := r.kd q
        obtain rfl := kd.isS s
        exact ⟨_, hv, a _ H (r.scal s)⟩
      · rw [if_neg s] at a
        obtain ⟨v, hv, r2⟩ := r.move q
        exact ⟨v, hv, a v H r2⟩
/-- a name that is looked at: it must have a value then -/
def vwOk (i : Nat) : M Ar := fun ρ => match ρ[i]? with
  | some (.c _ _) => .ok (.view i) ρ
  | _ => .no
theorem a_vw {i : Nat} {x : Str} (h : PE X (.Name x pos) (tVar i)) : PE X (.Name x pos) (tA X.K W (vwOk i)) := by
  refine PE.imp h fun σ H Q hq => ?_
  obtain ⟨ρ, T, r, a⟩ := hq
  unfold vwOk at a
  cases q : ρ[i]? with
  | none => rw [q] at a; exact a.elim
  | some c =>
    cases c with
    | u => rw [q] at a; exact a.elim
    | c k d =>
      rw [q] at a
      obtain ⟨v, hv, _⟩ := r.kd q
      exact ⟨v, hv, a v H r hv⟩
theorem a_of {m : M LD} (h : PE X e (tV X.K W m)) : PE X e (tA X.K W (asAr m)) := by
  refine PE.imp h fun σ H Q hq => ?_
  obtain ⟨ρ, T, r, a⟩ := hq
  refine ⟨ρ, T, r, a.bind.imp fun x ρ' q v H' r' => ?_⟩
  exact q v H' r' True.intro
theorem v_k {v : V} {d : D} (h : PE X e (tC v)) (hs : d.isS = true) (hv : d.sv = v) : PE X e (tV X.K W (kc d)) := by
  refine PE.imp h fun σ H Q hq => ?_
  obtain ⟨ρ, T, r, a⟩ := hq
  subst hv
  exact a _ H (r.scal hs)
theorem v_int {i : Int} {j : Nat} : PE X (.Constant (.int i) j pos) (tV X.K W (kc (.int i))) := v_k pe_int rfl rfl
theorem v_bl {b : Bool} {j : Nat} : PE X (.Constant (.bool b) j pos) (tV X.K W (kc (.bl b))) := v_k pe_bl rfl rfl
theorem v_non {j : Nat} : PE X (.Constant .none j pos) (tV X.K W (kc .non)) := v_k pe_non rfl rfl
theorem v_str {x : Str} {j : Nat} : PE X (.Constant (.str x) j pos) (tV X.K W (kc (.str x))) := v_k pe_str rfl rfl
/-- a module's number -/
theorem v_gI {x : Str} {i : Int} {t : Tok} (hg : Gl X x) (hm : X.mg x = some (.int i t)) (hd : (x == ("__debug__" : Str)) = false := by decide) : PE X (.Name x pos) (tV X.K W (kc (.int i))) :=
  v_k (v := .int i) (pe_glob hg hm ⟨t, rfl⟩ hd) rfl rfl

/-! ### rows of arguments -/
def noAr : M (List Ar) := M.ret []
def consAr (m : M Ar) (ms : M (List Ar)) : M (List Ar) := m.bind fun a => ms.bind fun as => M.ret (a :: as)
theorem as_nil : PA X [] (tAs X.K W noAr) := PA.imp pa_nil fun σ H Q ⟨ρ, T, r, a⟩ => a [] H r .nil
theorem as_cons {es : List Expr} {m : M Ar} {ms : M (List Ar)} (h : PE X e (tA X.K W m)) (hs : PA X es (tAs X.K W ms)) (he : starEach (e :: es) X.env = (false, eval e X.env) :: starEach es X.env := by rfl) :
    PA X (e :: es) (tAs X.K W (consAr m ms)) := by
  refine PA.imp (pa_cons h hs he) fun σ H Q ⟨ρ, T, r, a⟩ => ?_
  refine ⟨ρ, T, r, a.bind.imp fun x ρ1 q v H1 r1 ha => ?_⟩
  refine ⟨ρ1, x.tmp v ++ T, r1, (q.bind.ups _).imp fun as ρ2 q2 vs H2 r2 hs => ?_⟩
  refine q2 (v :: vs) H2 (r2.good fun L g => g.perm ?_) (.cons ha hs)
  show (tmps as vs ++ (x.tmp v ++ T) ++ L).Perm ((x.tmp v ++ tmps as vs) ++ T ++ L)
  rw [← List.append_assoc (tmps as vs)]
  exact (List.perm_append_comm.append_right T).append_right L
def noVs : M (List LD) := M.ret []
def consV (m : M LD) (ms : M (List LD)) : M (List LD) := m.bind fun a => ms.bind fun as => M.ret (a :: as)
theorem vs_nil : PA X [] (tVs X.K W noVs) := PA.imp pa_nil fun σ H Q ⟨ρ, T, r, a⟩ => a [] H rfl r
theorem vs_cons {es : List Expr} {m : M LD} {ms : M (List LD)} (h : PE X e (tV X.K W m)) (hs : PA X es (tVs X.K W ms)) (he : starEach (e :: es) X.env = (false, eval e X.env) :: starEach es X.env := by rfl) :
    PA X (e :: es) (tVs X.K W (consV m ms)) := by
  refine PA.imp (pa_cons h hs he) fun σ H Q ⟨ρ, T, r, a⟩ => ?_
  refine ⟨ρ, T, r, a.bind.imp fun x ρ1 q v H1 r1 => ?_⟩
  refine ⟨ρ1, (x.1, x.2, v) :: T, r1, (q.bind.up).imp fun as ρ2 q2 vs H2 hl r2 => ?_⟩
  refine q2 (v :: vs) H2 (by simp [hl]) (r2.good fun L g => g.perm ?_)
  rw [List.append_assoc, List.zipWith_cons_cons, List.cons_append]
  exact List.perm_middle.trans (by simp)
end

/-! ### arguments and what they are -/
section
variable {K : PySem.W.Frag} {H H' : Hp} {ρ : Rho} {σ : Sg} {T : List Item}
theorem kds_get {as : List Ar} : ∀ {vs : List V} {ds : List D} {T : List Item}, Rel K H ρ σ (tmps as vs ++ T) → Paired (Ar.at σ) as vs → gets ρ as = some ds → KDs K H ds vs := by
  induction as with
  | nil => intro vs ds T r p e; cases p; cases e; exact .nil
  | cons a as ih =>
    intro vs ds T r p e
    cases p with
    | @cons _ v _ vs p1 p2 =>
      unfold gets at e
      cases q : a.get ρ with
      | none => rw [q] at e; simp at e
      | some d =>
        cases q2 : gets ρ as with
        | none => rw [q, q2] at e; simp at e
        | some ds' =>
          rw [q, q2] at e
          simp only [Option.some.injEq] at e
          subst e
          have r' : Rel K H ρ σ (tmps as vs ++ (a.tmp v ++ T)) := r.good fun L g => g.perm (by
            show ((a.tmp v ++ tmps as vs) ++ T ++ L).Perm (tmps as vs ++ (a.tmp v ++ T) ++ L)
            rw [← List.append_assoc (tmps as vs)]
            exact (List.perm_append_comm.append_right T).append_right L)
          refine .cons ?_ (ih r' p2 q2)
          cases a with
          | val x =>
            have e : x.2 = d := by simpa [Ar.get] using q
            subst e
            have r2 : Rel K H ρ σ ((x.1, x.2, v) :: (tmps as vs ++ T)) := r
            exact r2.top
          | view i =>
            cases qc : ρ[i]? with
            | none => simp [Ar.get, qc] at q
            | some c =>
              cases c with
              | u => simp [Ar.get, qc] at q
              | c k d' =>
                have e : d' = d := by simpa [Ar.get, qc] using q
                subst e
                obtain ⟨v', hv, kd⟩ := r.kd qc
                have hv' : σ[i]? = some (some v) := p1
                rw [hv] at hv'
                cases hv'
                exact kd
theorem Rel.dropAs {as : List Ar} {vs : List V} (r : Rel K H ρ σ (tmps as vs ++ T)) : Rel K H ρ σ T := r.good fun L g => by
  rw [List.append_assoc] at g
  exact g.dropA
end

/-! ### operations whose answer is a number, a text, a truth value, None: the arguments are looked at alone -/
/-- the rule r does what o says -/
def SOp (K : PySem.W.Frag) (r : List V → Hp → VK → Prop) (o : List D → Option D) : Prop := ∀ H ds vs d, KDs K H ds vs → o ds = some d → d.isS = true ∧ ∀ Q : VK, Q d.sv H → r vs H Q
def sop (o : List D → Option D) (m : M (List Ar)) : M LD := m.bind fun as ρ => match gets ρ as with
  | some ds => match o ds with
    | some d => .ok (9, d) ρ
    | none => .no
  | none => .no
section
variable {X : Cx} {W : Wish} {e : Expr} {pos : Pos}
theorem sop_end {r : List V → Hp → VK → Prop} {o : List D → Option D} (ho : SOp X.K r o) {σ : Sg} {T : List Item} {as : List Ar} {ρ : Rho} {H : Hp} {vs : List V} {Q : VK} (rel : Rel X.K H ρ σ (tmps as vs ++ T)) (p : Paired (Ar.at σ) as vs)
    (h : Aft W T (match gets ρ as with | some ds => (match o ds with | some d => R.ok (9, d) ρ | none => R.no) | none => R.no) fun x ρ' => ∀ v H', Rel X.K H' ρ' σ ((x.1, x.2, v) :: T) → Q v H') : r vs H Q := by
  cases q : gets ρ as with
  | none => rw [q] at h; exact h.elim
  | some ds =>
    rw [q] at h
    simp only at h
    cases q2 : o ds with
    | none => rw [q2] at h; exact h.elim
    | some d =>
      rw [q2] at h
      obtain ⟨s, f⟩ := ho H ds vs d (kds_get rel p q) q2
      exact f Q (h _ H (rel.dropAs.scal s))
theorem v_callB {x : Str} {id : String} {r : List V → Hp → VK → Prop} {o : List D → Option D} {es : List Expr} {p : Pos} {m : M (List Ar)} (hc : CallR X (.builtin id) r) (ho : SOp X.K r o) (hg : Gl X x) (hm : X.mg x = none) (hv : bootBuiltins x = some (.builtin id)) (ha : PA X (e :: es) (tAs X.K W m))
    (hn : x ≠ "__name__" := by decide) (hdb : (x == ("__debug__" : Str)) = false := by decide) (he : starEach (e :: es) X.env = (false, eval e X.env) :: starEach es X.env := by rfl) (hpl : (backTo pos (starEach es X.env)).any (·.1) = false := by rfl) :
    PE X (.Call (.Name x p) (e :: es) [] pos) (tV X.K W (sop o m)) := by
  refine PE.imp (pe_callB hc hg hm hv ha hn hdb he hpl) fun σ H Q ⟨ρ, T, rel, a⟩ => ?_
  exact ⟨ρ, T, rel, a.bind.imp fun as ρ' h vs H' rel' p => sop_end ho rel' p h⟩
theorem v_callTy {x : Str} {id : String} {r : List V → Hp → VK → Prop} {o : List D → Option D} {es : List Expr} {p : Pos} {m : M (List Ar)} (hc : CallR X (.type id) r) (ho : SOp X.K r o) (hg : Gl X x) (hm : X.mg x = none) (hv : bootBuiltins x = some (.type id)) (ha : PA X (e :: es) (tAs X.K W m))
    (hn : x ≠ "__name__" := by decide) (hdb : (x == ("__debug__" : Str)) = false := by decide) (he : starEach (e :: es) X.env = (false, eval e X.env) :: starEach es X.env := by rfl) (hpl : (backTo pos (starEach es X.env)).any (·.1) = false := by rfl) :
    PE X (.Call (.Name x p) (e :: es) [] pos) (tV X.K W (sop o m)) := by
  refine PE.imp (pe_callTy hc hg hm hv ha hn hdb he hpl) fun σ H Q ⟨ρ, T, rel, a⟩ => ?_
  exact ⟨ρ, T, rel, a.bind.imp fun as ρ' h vs H' rel' p => sop_end ho rel' p h⟩
/-- two operands, one behind the other -/
def two (a b : M Ar) : M (List Ar) := a.bind fun x => b.bind fun y => M.ret [x, y]
theorem two_run {ea eb : Expr} {ma mb : M Ar} {r : R2} {σ : Sg} {H : Hp} {Q : VK} {o : List D → Option D} (ho : SOp X.K (fun vs H Q => ∃ x y, vs = [x, y] ∧ r x y H Q) o) (h : tV X.K W (sop o (two ma mb)) σ H Q) :
    tOp r (tA X.K W ma) (tA X.K W mb) σ H Q := by
  obtain ⟨ρ, T, rel, a⟩ := h
  refine ⟨ρ, T, rel, (a.bind.bind).imp fun x ρ1 q1 v H1 r1 p1 => ?_⟩
  refine ⟨ρ1, x.tmp v ++ T, r1, ((q1.bind).ups _).imp fun y ρ2 q2 w H2 r2 p2 => ?_⟩
  have r3 : Rel X.K H2 ρ2 σ (tmps [x, y] [v, w] ++ T) := r2.good fun L g => g.perm (by
    show (y.tmp w ++ (x.tmp v ++ T) ++ L).Perm (x.tmp v ++ (y.tmp w ++ []) ++ T ++ L)
    rw [List.append_nil, ← List.append_assoc (y.tmp w)]
    exact (List.perm_append_comm.append_right T).append_right L)
  have q2' : Aft W T (match gets ρ2 [x, y] with | some ds => (match o ds with | some d => R.ok (9, d) ρ2 | none => R.no) | none => R.no) fun x ρ' => ∀ v H', Rel X.K H' ρ' σ ((x.1, x.2, v) :: T) → Q v H' := q2
  obtain ⟨x', y', e, h⟩ := sop_end (W := W) (r := fun vs H Q => ∃ x y, vs = [x, y] ∧ r x y H Q) ho r3 (.cons p1 (.cons p2 .nil)) q2'
  cases e
  exact h
theorem v_op2 {ea eb : Expr} {op : Operator} {r : R2} {ma mb : M Ar} {o : List D → Option D} (hr : OpR X (binaryOp op) r) (ho : SOp X.K (fun vs H Q => ∃ x y, vs = [x, y] ∧ r x y H Q) o) (ha : PE X ea (tA X.K W ma)) (hb : PE X eb (tA X.K W mb)) :
    PE X (.BinOp ea op eb pos) (tV X.K W (sop o (two ma mb))) := PE.imp (pe_op hr ha hb) fun σ H Q h => two_run (ea := ea) (eb := eb) ho h
theorem v_cmp2 {ea eb : Expr} {op : CmpOp} {r : R2} {ma mb : M Ar} {o : List D → Option D} (hr : OpR X (compareOp op) r) (ho : SOp X.K (fun vs H Q => ∃ x y, vs = [x, y] ∧ r x y H Q) o) (ha : PE X ea (tA X.K W ma)) (hb : PE X eb (tA X.K W mb))
    (hm : behindInMarks op eb = false := by first | exact nomark _ (by decide) (by decide) | rfl) : PE X (.Compare ea [op] [eb] pos) (tV X.K W (sop o (two ma mb))) :=
  PE.imp (pe_cmpR hr ha hb hm) fun σ H Q h => two_run (ea := ea) (eb := eb) ho h
/-- the truth of a truth value -/
def asB (m : M LD) : M Bool := m.bind fun x => match x.2 with
  | .bl b => M.ret b
  | _ => fun _ => .no
theorem t_b {t : TE} {m : M LD} (h : PT X e (fun σ H Q => t σ H fun x H1 => ∃ c, x = V.bl c ∧ Q c H1)) (hm : ∀ σ H Q, tV X.K W m σ H Q → t σ H Q) : PT X e (tT X.K W (asB m)) := by
  refine PT.imp h fun σ H Q ⟨ρ, T, rel, a⟩ => hm σ H _ ⟨ρ, T, rel, a.bind.imp fun x ρ' q v H' r' => ?_⟩
  obtain ⟨k, d⟩ := x
  cases d with
  | bl b => exact ⟨b, r'.top.bl, q H' r'.drop⟩
  | _ => exact q.elim
/-- any expression that gives a truth value, as a test -/
theorem t_val {m : M LD} (h : PE X e (tV X.K W m)) (he : ∀ whole, isTrue e X.env whole = (do let v ← whole; standAt e.pos; holding [v] (truthy v)) := by intro _; rfl) : PT X e (tT X.K W (asB m)) :=
  t_b (t := tV X.K W m) (pt_val h he) fun _ _ _ h => h
theorem t_cmp2 {ea eb : Expr} {op : CmpOp} {r : R2} {ma mb : M Ar} {o : List D → Option D} (hr : OpR X (compareOp op) r) (ho : SOp X.K (fun vs H Q => ∃ x y, vs = [x, y] ∧ r x y H Q) o) (ha : PE X ea (tA X.K W ma)) (hb : PE X eb (tA X.K W mb))
    (hm : behindInMarks op eb = false := by first | exact nomark _ (by decide) (by decide) | rfl) : PT X (.Compare ea [op] [eb] pos) (tT X.K W (asB (sop o (two ma mb)))) :=
  t_b (t := tOp r (tA X.K W ma) (tA X.K W mb)) (pt_cmpR hr ha hb hm) fun σ H Q h => two_run (ea := ea) (eb := eb) ho h

/-! ### and, or, not, if else -/
def andT (a b : M Bool) : M Bool := a.bind fun x => if x then b else M.ret false
def orT (a b : M Bool) : M Bool := a.bind fun x => if x then M.ret true else b
def notT (a : M Bool) : M Bool := a.bind fun x => M.ret (!x)
variable {a b : Expr} {rest : List Expr} {ma mb : M Bool}
theorem w_one {op : BoolOp} (ha : PT X a (tT X.K W ma)) : PW X (.BoolOp op [a] pos) (tT X.K W ma) := by
  cases op with
  | And => exact pw_and1 ha
  | Or => exact pw_or1 ha
theorem w_and (ha : PT X a (tT X.K W ma)) (hb : PW X (.BoolOp .And (b :: rest) pos) (tT X.K W mb)) : PW X (.BoolOp .And (a :: b :: rest) pos) (tT X.K W (andT ma mb)) := by
  refine PW.imp (pw_and ha hb) fun σ H Q ⟨ρ, T, rel, h⟩ => ⟨ρ, T, rel, h.bind.imp fun x ρ' q H' r' => ?_⟩
  cases x with
  | true => rw [if_pos rfl]; exact ⟨ρ', T, r', q⟩
  | false => rw [if_neg Bool.false_ne_true]; exact q H' r'
theorem w_or (ha : PT X a (tT X.K W ma)) (hb : PW X (.BoolOp .Or (b :: rest) pos) (tT X.K W mb)) : PW X (.BoolOp .Or (a :: b :: rest) pos) (tT X.K W (orT ma mb)) := by
  refine PW.imp (pw_or ha hb) fun σ H Q ⟨ρ, T, rel, h⟩ => ⟨ρ, T, rel, h.bind.imp fun x ρ' q H' r' => ?_⟩
  cases x with
  | true => rw [if_pos rfl]; exact q H' r'
  | false => rw [if_neg Bool.false_ne_true]; exact ⟨ρ', T, r', q⟩
theorem t_w (h : PW X e (tT X.K W ma)) : PT X e (tT X.K W ma) := h.pt
theorem t_not (h : PT X a (tT X.K W ma)) : PT X (.UnaryOp .Not a pos) (tT X.K W (notT ma)) :=
  PT.imp (pt_not h) fun σ H Q ⟨ρ, T, rel, h⟩ => ⟨ρ, T, rel, h.bind.imp fun x ρ' q H' r' => q H' r'⟩
def iteV {α : Type} (c : M Bool) (x y : M α) : M α := c.bind fun b => if b then x else y
theorem v_ite {c : Expr} {mc : M Bool} {x y : M LD} (hc : PT X c (tT X.K W mc)) (ha : PE X a (tV X.K W x)) (hb : PE X b (tV X.K W y)) : PE X (.IfExp c a b pos) (tV X.K W (iteV mc x y)) := by
  refine PE.imp (pe_ifExp hc ha hb) fun σ H Q ⟨ρ, T, rel, h⟩ => ⟨ρ, T, rel, h.bind.imp fun z ρ' q H' r' => ?_⟩
  cases z with
  | true => rw [if_pos rfl]; exact ⟨ρ', T, r', q⟩
  | false => rw [if_neg Bool.false_ne_true]; exact ⟨ρ', T, r', q⟩
/-- as values, of truth values -/
def andV (a b : M LD) : M LD := a.bind fun x => match x.2 with
  | .bl true => b
  | .bl false => M.ret (9, .bl false)
  | _ => fun _ => .no
def orV (a b : M LD) : M LD := a.bind fun x => match x.2 with
  | .bl true => M.ret (9, .bl true)
  | .bl false => b
  | _ => fun _ => .no
def notV (a : M LD) : M LD := a.bind fun x => match x.2 with
  | .bl b => M.ret (9, .bl (!b))
  | _ => fun _ => .no
variable {va vb : M LD}
theorem v_one {op : BoolOp} (ha : PE X a (tV X.K W va)) : PE X (.BoolOp op [a] pos) (tV X.K W va) := pe_one ha
theorem v_and (ha : PE X a (tV X.K W va)) (hb : PE X (.BoolOp .And (b :: rest) pos) (tV X.K W vb)) : PE X (.BoolOp .And (a :: b :: rest) pos) (tV X.K W (andV va vb)) := by
  refine PE.imp (pe_and ha hb) fun σ H Q ⟨ρ, T, rel, h⟩ => ⟨ρ, T, rel, h.bind.imp fun x ρ' q v H' r' => ?_⟩
  obtain ⟨k, d⟩ := x
  cases d with
  | bl c =>
    refine ⟨c, r'.top.bl, ?_⟩
    cases c with
    | true => rw [if_pos rfl]; exact ⟨ρ', T, r'.drop, q⟩
    | false => rw [if_neg Bool.false_ne_true]; exact q _ H' (r'.drop.scal (d := .bl false) rfl)
  | _ => exact q.elim
theorem v_or (ha : PE X a (tV X.K W va)) (hb : PE X (.BoolOp .Or (b :: rest) pos) (tV X.K W vb)) : PE X (.BoolOp .Or (a :: b :: rest) pos) (tV X.K W (orV va vb)) := by
  refine PE.imp (pe_or ha hb) fun σ H Q ⟨ρ, T, rel, h⟩ => ⟨ρ, T, rel, h.bind.imp fun x ρ' q v H' r' => ?_⟩
  obtain ⟨k, d⟩ := x
  cases d with
  | bl c =>
    refine ⟨c, r'.top.bl, ?_⟩
    cases c with
    | true => rw [if_pos rfl]; exact q _ H' (r'.drop.scal (d := .bl true) rfl)
    | false => rw [if_neg Bool.false_ne_true]; exact ⟨ρ', T, r'.drop, q⟩
  | _ => exact q.elim
theorem v_not (ha : PE X a (tV X.K W va)) : PE X (.UnaryOp .Not a pos) (tV X.K W (notV va)) := by
  refine PE.imp (pe_not ha) fun σ H Q ⟨ρ, T, rel, h⟩ => ⟨ρ, T, rel, h.bind.imp fun x ρ' q v H' r' => ?_⟩
  obtain ⟨k, d⟩ := x
  cases d with
  | bl c => exact ⟨c, r'.top.bl, q _ H' (r'.drop.scal (d := .bl (!c)) rfl)⟩
  | _ => exact q.elim
end
end Vs
set_option Elab.async false
set_option linter.all false
set_option maxRecDepth 100000
set_option maxHeartbeats 2000000
/-! Vs3: operations. -/
namespace Vs
open PySem PySem.Spec PyProof.Rows L2

abbrev lineN : Nat := 16777216
theorem lineE : sizeLine = lineN := sizeLine_eq

/-! ### numbers -/
def oI2 (f : Int → Int → Int) : List D → Option D
  | [.int i, .int j] => some (.int (f i j))
  | _ => none
def oI2c (c : Int → Int → Bool) (f : Int → Int → Int) : List D → Option D
  | [.int i, .int j] => if c i j then some (.int (f i j)) else none
  | _ => none
def oB2 (f : Int → Int → Bool) : List D → Option D
  | [.int i, .int j] => some (.bl (f i j))
  | _ => none
def mulOk (i j : Int) : Bool := decide (i.natAbs < 2 ^ 64) || decide (j.natAbs < 2 ^ 64) || decide (i.natAbs.log2 + j.natAbs.log2 < 1000000)
def divOk (_ j : Int) : Bool := decide (0 < j) && decide (j.natAbs.log2 < 9000)
def modOk (_ j : Int) : Bool := decide (0 < j)
def powOk (i j : Int) : Bool := decide (0 ≤ j) && decide (j ≤ 1000000) && decide (i.natAbs < 2 ^ 64)
def shrOk (_ j : Int) : Bool := decide (0 ≤ j)
section
variable {K : PySem.W.Frag} {H : Hp}
theorem kds2 {x y : D} {vs : List V} (h : KDs K H [x, y] vs) : ∃ v w, vs = [v, w] ∧ KD K H x v ∧ KD K H y w := by
  cases h with
  | cons h1 h =>
    cases h with
    | cons h2 h => cases h; exact ⟨_, _, rfl, h1, h2⟩
theorem kds1 {x : D} {vs : List V} (h : KDs K H [x] vs) : ∃ v, vs = [v] ∧ KD K H x v := by
  cases h with
  | cons h1 h => cases h; exact ⟨_, rfl, h1⟩
theorem s_I2 {f : Int → Int → Int} : SOp K (fun vs H Q => ∃ x y, vs = [x, y] ∧ rI0 (fun i j => .int (f i j)) x y H Q) (oI2 f) := by
  intro H ds vs d h e
  unfold oI2 at e
  split at e
  · cases e
    obtain ⟨v, w, rfl, h1, h2⟩ := kds2 h
    obtain rfl := h1.int
    obtain rfl := h2.int
    exact ⟨rfl, fun Q q => ⟨_, _, rfl, _, _, rfl, rfl, q⟩⟩
  · cases e
theorem s_I2c {C : Int → Int → Prop} {c : Int → Int → Bool} {f : Int → Int → Int} (hc : ∀ i j, c i j = true → C i j) : SOp K (fun vs H Q => ∃ x y, vs = [x, y] ∧ rI C (fun i j => .int (f i j)) x y H Q) (oI2c c f) := by
  intro H ds vs d h e
  unfold oI2c at e
  split at e
  · rename_i i j
    by_cases q : c i j = true
    · rw [if_pos q] at e
      cases e
      obtain ⟨v, w, rfl, h1, h2⟩ := kds2 h
      obtain rfl := h1.int
      obtain rfl := h2.int
      exact ⟨rfl, fun Q q' => ⟨_, _, rfl, _, _, rfl, rfl, hc _ _ q, q'⟩⟩
    · rw [if_neg q] at e; cases e
  · cases e
theorem s_B2 {f : Int → Int → Bool} : SOp K (fun vs H Q => ∃ x y, vs = [x, y] ∧ rI0 (fun i j => .bl (f i j)) x y H Q) (oB2 f) := by
  intro H ds vs d h e
  unfold oB2 at e
  split at e
  · cases e
    obtain ⟨v, w, rfl, h1, h2⟩ := kds2 h
    obtain rfl := h1.int
    obtain rfl := h2.int
    exact ⟨rfl, fun Q q => ⟨_, _, rfl, _, _, rfl, rfl, q⟩⟩
  · cases e
theorem mulOk_ok {i j : Int} (h : mulOk i j = true) : IntMulOk i j := by
  unfold mulOk at h
  rcases Bool.or_eq_true_iff.mp h with h | h
  · rcases Bool.or_eq_true_iff.mp h with h | h
    · have := of_decide_eq_true h
      exact CMul.ok (.inl ⟨by omega, by omega⟩)
    · have := of_decide_eq_true h
      exact CMul.ok (.inr ⟨by omega, by omega⟩)
  · have h9 : i.natAbs.log2 + j.natAbs.log2 < 1000000 := of_decide_eq_true h; exact CMulW.ok h9
end
section
variable {X : Cx}
theorem op_mulX : OpR X (binaryOp .Mult) (rI (fun i j => mulOk i j = true) fun i j => .int (i * j)) := opI fun _ _ _ _ _ _ _ hc q => mul_int q (mulOk_ok hc)
end
def oSub := oI2 fun i j => i - j
def oDiv := oI2c divOk fun i j => i / j
def oMod := oI2c modOk fun i j => i % j
def oPow := oI2c powOk fun i j => i ^ j.toNat
def oShr := oI2c shrOk fun i j => i / 2 ^ j.toNat
def oShl := oI2c powOk fun i j => i * 2 ^ j.toNat
def oAnd := oI2 Builtin.bitAnd
def oOr := oI2 Builtin.bitOr
def oXor := oI2 Builtin.bitXor
def oLt := oB2 fun i j => decide (i < j)
def oLe := oB2 fun i j => decide (i ≤ j)
def oGt := oB2 fun i j => decide (j < i)
def oGe := oB2 fun i j => decide (j ≤ i)
section
variable {X : Cx} {W : Wish} {ea eb : Expr} {pos : Pos} {ma mb : M Ar}
theorem divOk_ok {i j : Int} (h : divOk i j = true) : CDivW i j := by
  unfold divOk at h
  rw [Bool.and_eq_true] at h
  exact ⟨of_decide_eq_true h.1, of_decide_eq_true h.2⟩
theorem powOk_ok {i j : Int} (h : powOk i j = true) : CPow i j := by
  unfold powOk at h
  rw [Bool.and_eq_true, Bool.and_eq_true] at h
  exact ⟨of_decide_eq_true h.1.1, of_decide_eq_true h.1.2, of_decide_eq_true h.2⟩
theorem v_sub (ha : PE X ea (tA X.K W ma)) (hb : PE X eb (tA X.K W mb)) : PE X (.BinOp ea .Sub eb pos) (tV X.K W (sop oSub (two ma mb))) := v_op2 op_sub s_I2 ha hb
theorem v_div (ha : PE X ea (tA X.K W ma)) (hb : PE X eb (tA X.K W mb)) : PE X (.BinOp ea .FloorDiv eb pos) (tV X.K W (sop oDiv (two ma mb))) := v_op2 op_fdivW (s_I2c fun _ _ => divOk_ok) ha hb
theorem v_mod (ha : PE X ea (tA X.K W ma)) (hb : PE X eb (tA X.K W mb)) : PE X (.BinOp ea .Mod eb pos) (tV X.K W (sop oMod (two ma mb))) := v_op2 op_mod (s_I2c fun _ _ h => of_decide_eq_true h) ha hb
theorem v_pow (ha : PE X ea (tA X.K W ma)) (hb : PE X eb (tA X.K W mb)) : PE X (.BinOp ea .Pow eb pos) (tV X.K W (sop oPow (two ma mb))) := v_op2 op_pow (s_I2c fun _ _ => powOk_ok) ha hb
theorem v_shr (ha : PE X ea (tA X.K W ma)) (hb : PE X eb (tA X.K W mb)) : PE X (.BinOp ea .RShift eb pos) (tV X.K W (sop oShr (two ma mb))) := v_op2 op_shr (s_I2c fun _ _ h => of_decide_eq_true h) ha hb
theorem v_shl (ha : PE X ea (tA X.K W ma)) (hb : PE X eb (tA X.K W mb)) : PE X (.BinOp ea .LShift eb pos) (tV X.K W (sop oShl (two ma mb))) := v_op2 op_shl (s_I2c fun _ _ => powOk_ok) ha hb
theorem v_band (ha : PE X ea (tA X.K W ma)) (hb : PE X eb (tA X.K W mb)) : PE X (.BinOp ea .BitAnd eb pos) (tV X.K W (sop oAnd (two ma mb))) := v_op2 op_and s_I2 ha hb
theorem v_bor (ha : PE X ea (tA X.K W ma)) (hb : PE X eb (tA X.K W mb)) : PE X (.BinOp ea .BitOr eb pos) (tV X.K W (sop oOr (two ma mb))) := v_op2 op_or s_I2 ha hb
theorem v_bxor (ha : PE X ea (tA X.K W ma)) (hb : PE X eb (tA X.K W mb)) : PE X (.BinOp ea .BitXor eb pos) (tV X.K W (sop oXor (two ma mb))) := v_op2 op_xor s_I2 ha hb
theorem v_lt (ha : PE X ea (tA X.K W ma)) (hb : PE X eb (tA X.K W mb)) : PE X (.Compare ea [.Lt] [eb] pos) (tV X.K W (sop oLt (two ma mb))) := v_cmp2 op_lt s_B2 ha hb
theorem v_le (ha : PE X ea (tA X.K W ma)) (hb : PE X eb (tA X.K W mb)) : PE X (.Compare ea [.LtE] [eb] pos) (tV X.K W (sop oLe (two ma mb))) := v_cmp2 op_le s_B2 ha hb
theorem v_gt (ha : PE X ea (tA X.K W ma)) (hb : PE X eb (tA X.K W mb)) : PE X (.Compare ea [.Gt] [eb] pos) (tV X.K W (sop oGt (two ma mb))) := v_cmp2 op_gt s_B2 ha hb
theorem v_ge (ha : PE X ea (tA X.K W ma)) (hb : PE X eb (tA X.K W mb)) : PE X (.Compare ea [.GtE] [eb] pos) (tV X.K W (sop oGe (two ma mb))) := v_cmp2 op_ge s_B2 ha hb
theorem t_lt (ha : PE X ea (tA X.K W ma)) (hb : PE X eb (tA X.K W mb)) : PT X (.Compare ea [.Lt] [eb] pos) (tT X.K W (asB (sop oLt (two ma mb)))) := t_cmp2 op_lt s_B2 ha hb
theorem t_le (ha : PE X ea (tA X.K W ma)) (hb : PE X eb (tA X.K W mb)) : PT X (.Compare ea [.LtE] [eb] pos) (tT X.K W (asB (sop oLe (two ma mb)))) := t_cmp2 op_le s_B2 ha hb
theorem t_gt (ha : PE X ea (tA X.K W ma)) (hb : PE X eb (tA X.K W mb)) : PT X (.Compare ea [.Gt] [eb] pos) (tT X.K W (asB (sop oGt (two ma mb)))) := t_cmp2 op_gt s_B2 ha hb
theorem t_ge (ha : PE X ea (tA X.K W ma)) (hb : PE X eb (tA X.K W mb)) : PT X (.Compare ea [.GtE] [eb] pos) (tT X.K W (asB (sop oGe (two ma mb)))) := t_cmp2 op_ge s_B2 ha hb
end

/-! ### == and != of data -/
mutual
def py : D → Option PyData
  | .non => some .none
  | .bl b => some (.bool b)
  | .int i => some (.int i)
  | .str x => some (.str x)
  | .tup xs => (pys xs).map .tuple
  | .lst xs => (pys xs).map .list
  | .dic _ => none
  | .dit _ => none
  | .iset _ => none
  | .rol _ => none
def pys : List D → Option (List PyData)
  | [] => some []
  | x :: xs => match py x, pys xs with
    | some a, some as => some (a :: as)
    | _, _ => none
end
section
variable {K : PySem.W.Frag} {H : Hp}
mutual
theorem py_dp : ∀ (d : D) {v : V} {p : PyData}, KD K H d v → py d = some p → Dp K H v p
  | .non, v, p, h, e => by rw [h.non]; unfold py at e; cases e; exact .non
  | .bl b, v, p, h, e => by rw [h.bl]; unfold py at e; cases e; exact .bl b
  | .int i, v, p, h, e => by rw [h.int]; unfold py at e; cases e; exact .int i
  | .str x, v, p, h, e => by rw [h.str]; unfold py at e; cases e; exact .str x
  | .tup xs, v, p, h, e => by
    obtain ⟨a, vs, rfl, h1, h2⟩ := h.tup
    unfold py at e
    cases q : pys xs with
    | none => rw [q] at e; cases e
    | some ps => rw [q] at e; cases e; exact .tup h1 (pys_dp xs h2 q)
  | .lst xs, v, p, h, e => by
    obtain ⟨a, vs, rfl, h1, h2⟩ := h.lst
    unfold py at e
    cases q : pys xs with
    | none => rw [q] at e; cases e
    | some ps => rw [q] at e; cases e; exact .lst (SqL.of h1) (pys_dp xs h2 q)
  | .dic _, _, _, _, e => by unfold py at e; cases e
  | .dit _, _, _, _, e => by unfold py at e; cases e
  | .iset _, _, _, _, e => by unfold py at e; cases e
  | .rol _, _, _, _, e => by unfold py at e; cases e
theorem pys_dp : ∀ (ds : List D) {vs : List V} {ps : List PyData}, KDs K H ds vs → pys ds = some ps → DpAll K H vs ps
  | [], vs, ps, h, e => by cases h; unfold pys at e; cases e; exact .nil
  | d :: ds, vs, ps, h, e => by
    cases h with
    | cons h1 h2 =>
      unfold pys at e
      cases q : py d with
      | none => rw [q] at e; simp at e
      | some a =>
        cases q2 : pys ds with
        | none => rw [q, q2] at e; simp at e
        | some as =>
          rw [q, q2] at e
          simp only [Option.some.injEq] at e
          subst e
          exact .cons (py_dp d h1 q) (pys_dp ds h2 q2)
end
end
/-- two data: whether they are == -/
def eqD (x y : D) : Option Bool := match x, y with
  | .int i, .int j => some (decide (i = j))
  | .str i, .str j => some (decide (i = j))
  | .bl i, .bl j => some (decide (i = j))
  | x, y => match py x, py y with
    | some a, some b => if SeqAt.shaped a && SeqAt.shaped b then some (PyData.eqv a b) else none
    | _, _ => none
def oEq : List D → Option D
  | [x, y] => (eqD x y).map .bl
  | _ => none
def oNe : List D → Option D
  | [x, y] => (eqD x y).map fun b => .bl (!b)
  | _ => none
/-- the rule of == -/
def rEqX (K : PySem.W.Frag) : R2 := fun x y H Q => rEq x y H Q ∨ rEqD K x y H Q
def rNeX (K : PySem.W.Frag) : R2 := fun x y H Q => rNe x y H Q ∨ rNeD K x y H Q
section
variable {K : PySem.W.Frag} {H : Hp}
theorem eqD_ok {x y : D} {v w : V} {b : Bool} (h1 : KD K H x v) (h2 : KD K H y w) (e : eqD x y = some b) :
    (∀ Q : VK, Q (.bl b) H → rEqX K v w H Q) ∧ ∀ Q : VK, Q (.bl (!b)) H → rNeX K v w H Q := by
  unfold eqD at e
  split at e
  · cases e; rw [h1.int, h2.int]
    exact ⟨fun Q q => .inl ⟨rfl, by rw [dec_int, Bool.beq_eq_decide_eq]; exact q⟩, fun Q q => .inl ⟨rfl, by rw [dec_int, Bool.beq_eq_decide_eq]; exact q⟩⟩
  · cases e; rw [h1.str, h2.str]
    exact ⟨fun Q q => .inl ⟨rfl, by rw [dec_str, Bool.beq_eq_decide_eq]; exact q⟩, fun Q q => .inl ⟨rfl, by rw [dec_str, Bool.beq_eq_decide_eq]; exact q⟩⟩
  · cases e; rw [h1.bl, h2.bl]
    exact ⟨fun Q q => .inl ⟨rfl, by rw [dec_bl, Bool.beq_eq_decide_eq]; exact q⟩, fun Q q => .inl ⟨rfl, by rw [dec_bl, Bool.beq_eq_decide_eq]; exact q⟩⟩
  · split at e
    · rename_i a b' p1 p2
      by_cases s : (SeqAt.shaped a && SeqAt.shaped b') = true
      · rw [if_pos s] at e
        cases e
        rw [Bool.and_eq_true] at s
        exact ⟨fun Q q => .inr ⟨a, b', py_dp x h1 p1, py_dp y h2 p2, s.1, s.2, q⟩, fun Q q => .inr ⟨a, b', py_dp x h1 p1, py_dp y h2 p2, s.1, s.2, q⟩⟩
      · rw [if_neg s] at e; cases e
    · cases e
theorem s_eq : SOp K (fun vs H Q => ∃ x y, vs = [x, y] ∧ rEqX K x y H Q) oEq := by
  intro H ds vs d h e
  unfold oEq at e
  split at e
  · rename_i x y
    cases q : eqD x y with
    | none => rw [q] at e; cases e
    | some b =>
      rw [q] at e; cases e
      obtain ⟨v, w, rfl, h1, h2⟩ := kds2 h
      exact ⟨rfl, fun Q q' => ⟨v, w, rfl, (eqD_ok h1 h2 q).1 Q q'⟩⟩
  · cases e
theorem s_ne : SOp K (fun vs H Q => ∃ x y, vs = [x, y] ∧ rNeX K x y H Q) oNe := by
  intro H ds vs d h e
  unfold oNe at e
  split at e
  · rename_i x y
    cases q : eqD x y with
    | none => rw [q] at e; cases e
    | some b =>
      rw [q] at e; cases e
      obtain ⟨v, w, rfl, h1, h2⟩ := kds2 h
      exact ⟨rfl, fun Q q' => ⟨v, w, rfl, (eqD_ok h1 h2 q).2 Q q'⟩⟩
  · cases e
end
section
variable {X : Cx} {W : Wish} {ea eb : Expr} {pos : Pos} {ma mb : M Ar} {k : Nat}
theorem v_eq (hr : Room k X.A) (ha : PE X ea (tA X.K W ma)) (hb : PE X eb (tA X.K W mb)) : PE X (.Compare ea [.Eq] [eb] pos) (tV X.K W (sop oEq (two ma mb))) := v_cmp2 (OpR.or op_eq (op_eqD hr.units)) s_eq ha hb
theorem v_ne (hr : Room k X.A) (ha : PE X ea (tA X.K W ma)) (hb : PE X eb (tA X.K W mb)) : PE X (.Compare ea [.NotEq] [eb] pos) (tV X.K W (sop oNe (two ma mb))) := v_cmp2 (OpR.or op_ne (op_neD hr.units)) s_ne ha hb
theorem t_eq (hr : Room k X.A) (ha : PE X ea (tA X.K W ma)) (hb : PE X eb (tA X.K W mb)) : PT X (.Compare ea [.Eq] [eb] pos) (tT X.K W (asB (sop oEq (two ma mb)))) := t_cmp2 (OpR.or op_eq (op_eqD hr.units)) s_eq ha hb
theorem t_ne (hr : Room k X.A) (ha : PE X ea (tA X.K W ma)) (hb : PE X eb (tA X.K W mb)) : PT X (.Compare ea [.NotEq] [eb] pos) (tT X.K W (asB (sop oNe (two ma mb)))) := t_cmp2 (OpR.or op_ne (op_neD hr.units)) s_ne ha hb
end

/-! ### is None -/
def D.isN : D → Bool
  | .non => true
  | _ => false
def oIsN : List D → Option D
  | [x, .non] => some (.bl x.isN)
  | _ => none
def oNotN : List D → Option D
  | [x, .non] => some (.bl (!x.isN))
  | _ => none
section
variable {K : PySem.W.Frag} {H : Hp}
theorem KD.isN {d : D} {v : V} (h : KD K H d v) : decide (v = .non) = d.isN := by
  obtain ⟨_, _, _, _, _, r, _⟩ := h
  cases r <;> simp [D.isN]
theorem s_isN : SOp K (fun vs H Q => ∃ x y, vs = [x, y] ∧ (y = .non ∧ Q (.bl (decide (x = .non))) H)) oIsN := by
  intro H ds vs d h e
  unfold oIsN at e
  split at e
  · cases e
    obtain ⟨v, w, rfl, h1, h2⟩ := kds2 h
    obtain rfl := h2.non
    exact ⟨rfl, fun Q q => ⟨_, _, rfl, rfl, by rw [h1.isN]; exact q⟩⟩
  · cases e
theorem s_notN : SOp K (fun vs H Q => ∃ x y, vs = [x, y] ∧ (y = .non ∧ Q (.bl (!decide (x = .non))) H)) oNotN := by
  intro H ds vs d h e
  unfold oNotN at e
  split at e
  · cases e
    obtain ⟨v, w, rfl, h1, h2⟩ := kds2 h
    obtain rfl := h2.non
    exact ⟨rfl, fun Q q => ⟨_, _, rfl, rfl, by rw [h1.isN]; exact q⟩⟩
  · cases e
end
section
variable {X : Cx} {W : Wish} {ea eb : Expr} {pos : Pos} {ma mb : M Ar} {k : Nat}
theorem v_isN (ha : PE X ea (tA X.K W ma)) (hb : PE X eb (tA X.K W mb)) : PE X (.Compare ea [.Is] [eb] pos) (tV X.K W (sop oIsN (two ma mb))) := v_cmp2 op_isN s_isN ha hb
theorem v_notN (ha : PE X ea (tA X.K W ma)) (hb : PE X eb (tA X.K W mb)) : PE X (.Compare ea [.IsNot] [eb] pos) (tV X.K W (sop oNotN (two ma mb))) := v_cmp2 op_notN s_notN ha hb
theorem t_isN (ha : PE X ea (tA X.K W ma)) (hb : PE X eb (tA X.K W mb)) : PT X (.Compare ea [.Is] [eb] pos) (tT X.K W (asB (sop oIsN (two ma mb)))) := t_cmp2 op_isN s_isN ha hb
theorem t_notN (ha : PE X ea (tA X.K W ma)) (hb : PE X eb (tA X.K W mb)) : PT X (.Compare ea [.IsNot] [eb] pos) (tT X.K W (asB (sop oNotN (two ma mb)))) := t_cmp2 op_notN s_notN ha hb
end

/-! ### -x; abs, int, len, sum -/
def oNeg : D → Option D
  | .int i => some (.int (-i))
  | _ => none
def un (o : D → Option D) (m : M Ar) : M LD := m.bind fun a ρ => match a.get ρ with
  | some x => match o x with
    | some d => .ok (9, d) ρ
    | none => .no
  | none => .no
section
variable {X : Cx} {W : Wish} {ea : Expr} {pos : Pos} {ma : M Ar}
theorem get_kd {K : PySem.W.Frag} {H : Hp} {ρ : Rho} {σ : Sg} {T : List Item} {a : Ar} {v : V} {d : D} (r : Rel K H ρ σ (a.tmp v ++ T)) (p : a.at σ v) (e : a.get ρ = some d) : KD K H d v := by
  have r' : Rel K H ρ σ (tmps [a] [v] ++ T) := r.good fun L g => by
    show Good K [] H ((a.tmp v ++ []) ++ T ++ L)
    rw [List.append_nil]; exact g
  have := kds_get r' (.cons p .nil) (by unfold gets; rw [e]; rfl)
  obtain ⟨w, e2, k⟩ := kds1 this
  cases e2
  exact k
theorem v_neg (ha : PE X ea (tA X.K W ma)) : PE X (.UnaryOp .USub ea pos) (tV X.K W (un oNeg ma)) := by
  refine PE.imp (pe_un un_neg ha) fun σ H Q ⟨ρ, T, rel, h⟩ => ⟨ρ, T, rel, h.bind.imp fun a ρ' q v H' r' p => ?_⟩
  cases e : a.get ρ' with
  | none => rw [e] at q; exact q.elim
  | some x =>
    rw [e] at q
    simp only at q
    cases x with
    | int i =>
      obtain rfl := (get_kd r' p e).int
      exact ⟨i, rfl, q (.int (-i)) H' ((r'.good fun L g => by rw [List.append_assoc] at g; exact g.dropA).scal (d := .int (-i)) rfl)⟩
    | _ => exact q.elim
end
def o1 (f : D → Option D) : List D → Option D
  | [x] => f x
  | _ => none
def fAbs : D → Option D
  | .int i => some (.int (if i < 0 then -i else i))
  | _ => none
def fInt : D → Option D
  | .int i => some (.int i)
  | .bl b => some (.int (if b then 1 else 0))
  | _ => none
def fLen : D → Option D
  | .tup xs => some (.int xs.length)
  | .lst xs => some (.int xs.length)
  | .rol xs => some (.int xs.length)
  | _ => none
/-- a row of numbers -/
def numsD : List D → Option (List Int)
  | [] => some []
  | .int i :: xs => (numsD xs).map (i :: ·)
  | _ => none
def fSum : D → Option D
  | .tup xs => (numsD xs).map fun ns => .int ns.sum
  | .lst xs => (numsD xs).map fun ns => .int ns.sum
  | _ => none
section
variable {K : PySem.W.Frag} {H : Hp}
theorem numsD_map : ∀ {ds : List D} {ns : List Int}, numsD ds = some ns → ds = ns.map .int
  | [], _, e => by cases e; rfl
  | .int i :: xs, ns, e => by
    unfold numsD at e
    cases q : numsD xs with
    | none => rw [q] at e; cases e
    | some ms => rw [q] at e; cases e; rw [numsD_map q]; rfl
  | .non :: _, _, e => by cases e
  | .bl _ :: _, _, e => by cases e
  | .str _ :: _, _, e => by cases e
  | .tup _ :: _, _, e => by cases e
  | .lst _ :: _, _, e => by cases e
  | .dic _ :: _, _, e => by cases e
  | .dit _ :: _, _, e => by cases e
  | .iset _ :: _, _, e => by cases e
  | .rol _ :: _, _, e => by cases e
theorem s_abs : SOp K (fun xs H Q => ∃ i, xs = [V.int i] ∧ Q (.int (if i < 0 then -i else i)) H) (o1 fAbs) := by
  intro H ds vs d h e
  unfold o1 at e
  split at e
  · obtain ⟨v, rfl, k⟩ := kds1 h
    unfold fAbs at e
    split at e
    · cases e
      obtain rfl := k.int
      exact ⟨rfl, fun Q q => ⟨_, rfl, q⟩⟩
    · cases e
  · cases e
theorem s_int : SOp K (fun xs H Q => (∃ i, xs = [V.int i] ∧ Q (.int i) H) ∨ ∃ k, xs = [V.bl k] ∧ Q (.int (if k then 1 else 0)) H) (o1 fInt) := by
  intro H ds vs d h e
  unfold o1 at e
  split at e
  · obtain ⟨v, rfl, k⟩ := kds1 h
    unfold fInt at e
    split at e
    · cases e
      obtain rfl := k.int
      exact ⟨rfl, fun Q q => .inl ⟨_, rfl, q⟩⟩
    · cases e
      obtain rfl := k.bl
      exact ⟨rfl, fun Q q => .inr ⟨_, rfl, q⟩⟩
    · cases e
  · cases e
theorem s_len : SOp K (fun xs H Q => ∃ p ys, xs = [V.ref p] ∧ (SqL K H p ys ∨ SqT K H p ys) ∧ Q (.int ys.length) H) (o1 fLen) := by
  intro H ds vs d h e
  unfold o1 at e
  split at e
  · obtain ⟨v, rfl, k⟩ := kds1 h
    unfold fLen at e
    split at e
    · cases e
      obtain ⟨p, ws, rfl, h1, h2⟩ := k.tup
      exact ⟨rfl, fun Q q => ⟨p, ws, rfl, .inr h1, by rw [← h2.length]; exact q⟩⟩
    · cases e
      obtain ⟨p, ws, rfl, h1, h2⟩ := k.lst
      exact ⟨rfl, fun Q q => ⟨p, ws, rfl, .inl (SqL.of h1), by rw [← h2.length]; exact q⟩⟩
    · cases e
      obtain ⟨p, ws, rfl, h1, h2⟩ := k.rol
      exact ⟨rfl, fun Q q => ⟨p, ws, rfl, .inl h1, by rw [← h2.length]; exact q⟩⟩
    · cases e
  · cases e
def rSumX (K : PySem.W.Frag) : List V → Hp → VK → Prop := fun vs H Q => ∃ (a : Addr) (ns : List Int), vs = [V.ref a] ∧ (SqL K H a (ns.map V.int) ∨ SqT K H a (ns.map V.int)) ∧ Q (.int ns.sum) H
theorem s_sum : SOp K (rSumX K) (o1 fSum) := by
  intro H ds vs d h e
  unfold o1 at e
  split at e
  · obtain ⟨v, rfl, k⟩ := kds1 h
    unfold fSum at e
    split at e
    · rename_i xs
      cases q : numsD xs with
      | none => rw [q] at e; cases e
      | some ns =>
        rw [q] at e; cases e
        obtain rfl := numsD_map q
        obtain ⟨p, ws, rfl, h1, h2⟩ := k.tup
        obtain rfl := h2.ints
        exact ⟨rfl, fun Q q => ⟨p, ns, rfl, .inr h1, q⟩⟩
    · rename_i xs
      cases q : numsD xs with
      | none => rw [q] at e; cases e
      | some ns =>
        rw [q] at e; cases e
        obtain rfl := numsD_map q
        obtain ⟨p, ws, rfl, h1, h2⟩ := k.lst
        obtain rfl := h2.ints
        exact ⟨rfl, fun Q q => ⟨p, ns, rfl, .inl (SqL.of h1), q⟩⟩
    · cases e
  · cases e
end
/-- sum of a tuple of numbers -/
theorem sum_tup {prog : Program} {w : World} {A : Around} {E : Value → Shared → Prop} {s : Shared} {l : Addr} {us : List Value} {ns : List Int} {Q : Value → Shared → Prop} (hh : A.handled = none) (hl : s.heap.IsTuple l us.toArray) (hi : IntsAre us ns)
    (h : ∀ h' tk t', (∀ b o, s.heap.get? b = some o → h'.get? b = some o) → Q (.int ns.sum t') { s with heap := h', toks := tk }) : wpAny (model prog w) A (call (.builtin "sum") [.ref l]) Q E s := by
  obtain ⟨xs, e⟩ := hi.allInts.items
  have hn : numsOf (intItems xs).toList = ns := by rw [← e]; exact hi.numsOf
  rw [nums_intItems] at hn
  rw [e] at hl
  refine call_sum_walkG (wpAny_pyIter_tuple hl ?_)
  have hlt : l < s.heap.objs.size := by
    obtain ⟨o, ho, _⟩ := hl
    exact Heap.lt_size ho
  have keep : ∀ b o, s.heap.get? b = some o → (s.heap.push { cls := .type "tuple_iterator", data := .fields #[rawInt 0, .ref l] }).get? b = some o := fun b o e => Heap.get?_push_of_some _ e
  refine ⟨s.heap.objs.size, [s.heap.objs.size, l], [s.heap.objs.size], (intItems xs).size, _, _, numAt xs, rfl, Walks.tuple (A := A.in1) hh s.heap.objs.size l (Nat.ne_of_lt hlt) (intItems xs), ⟨⟨_, Heap.get?_push_size _ rfl, rfl, rfl⟩, ?_⟩, fun b hb => ?_, (fun _ _ => intItems_at), fun h' tk t' hk => ?_⟩
  · obtain ⟨o, ho, r⟩ := hl
    exact ⟨o, Heap.get?_push_of_some _ ho, r⟩
  · rw [Heap.size_push]
    rcases List.mem_cons.mp hb with rfl | hb
    · exact Nat.lt_succ_self _
    · rw [List.mem_singleton.mp hb]; exact Nat.lt_succ_of_lt hlt
  · have k2 : ∀ b o, s.heap.get? b = some o → h'.get? b = some o := fun b o e => hk b o (by
      intro hm
      rw [List.mem_singleton.mp hm] at e
      exact Nat.lt_irrefl _ (Heap.lt_size e)) (Heap.get?_push_of_some _ e)
    have := h h' tk t' k2
    have hsz : (intItems xs).size = xs.size := by simp [intItems]
    rw [hsz, preSum_eq, List.take_of_length_le (by simp), hn]
    exact this
section
variable {X : Cx}
theorem cr_sumX (hc : X.calm = true) : CallR X (.builtin "sum") (rSumX X.K) := by
  intro pins s σ H xs us Q I r h
  obtain ⟨a, ns, rfl, hs, q⟩ := h
  rcases hs with hs | hs
  · exact cr_sum hc pins s σ H _ us Q I r ⟨a, ns, rfl, hs, q⟩
  · obtain rfl := Vals.ref1 r
    obtain ⟨its, rv, p, hz⟩ := I.tuple hs
    refine sum_tup (I.ok.hd hc) p (Vals.ints rv) fun h' tk t' k => ⟨.int ns.sum, H, I.kept k, ⟨t', rfl⟩, q⟩
end
end Vs
set_option Elab.async false
set_option linter.all false
set_option maxRecDepth 100000
set_option maxHeartbeats 2000000
/-! Vs4: rows of values: displays, +, *, items, slices, tuple(..), list(..). -/
namespace Vs
open PySem PySem.Spec PyProof.Rows L2

/-- the level of a row -/
def lvl : List LD → Nat
  | [] => 9
  | x :: xs => min x.1 (lvl xs)
def up (k : Nat) : Nat := min k 8 + 1
abbrev itemsOf (xs : List LD) (vs : List V) : List Item := List.zipWith (fun (x : LD) v => (x.1, x.2, v)) xs vs
section
variable {K : PySem.W.Frag} {H H' : Hp} {L : List Item} {Rs : List Addr} {ρ : Rho} {σ : Sg} {T : List Item}
theorem wk_lvl {k : Nat} : ∀ {xs : List LD} {vs : List V}, (∀ x ∈ xs, k ≤ x.1) → Wk (itemsOf xs vs) (its k (xs.map (·.2)) vs)
  | [], _, _ => by simp [itemsOf, its]; exact .nil
  | _ :: _, [], _ => by simp [itemsOf, its]; exact .nil
  | x :: xs, v :: vs, h => by
    show Wk ((x.1, x.2, v) :: itemsOf xs vs) ((k, x.2, v) :: its k (xs.map (·.2)) vs)
    exact .cons (h x List.mem_cons_self) (wk_lvl fun y hy => h y (List.mem_cons_of_mem _ hy))
theorem lvl_le : ∀ {xs : List LD}, ∀ x ∈ xs, lvl xs ≤ x.1
  | [], _, h => nomatch h
  | y :: ys, x, h => by
    rcases List.mem_cons.mp h with rfl | h
    · exact Nat.min_le_left _ _
    · exact Nat.le_trans (Nat.min_le_right _ _) (lvl_le x h)
theorem Good.row {xs : List LD} {vs : List V} {k : Nat} (h : Good K Rs H (itemsOf xs vs ++ L)) (hk : k ≤ lvl xs) : Good K Rs H (its k (xs.map (·.2)) vs ++ L) :=
  h.weak (Wk.append (wk_lvl fun x hx => Nat.le_trans hk (lvl_le x hx)) (Wk.refl L))
end

/-! ### displays -/
def mkTup (m : M (List LD)) : M LD := m.bind fun xs ρ => if xs.length ≤ lineN then .ok (lvl xs, .tup (xs.map (·.2))) ρ else .no
def mkLst (m : M (List LD)) : M LD := m.bind fun xs ρ => if xs.length ≤ lineN then .ok (up (lvl xs), .lst (xs.map (·.2))) ρ else .no
section
variable {X : Cx} {W : Wish} {es : List Expr} {pos : Pos} {m : M (List LD)}
theorem v_tup {j : Nat} (h : PA X es (tVs X.K W m)) : PE X (.Tuple es j pos) (tV X.K W (mkTup m)) := by
  refine PE.imp (pe_tup h) fun σ H Q ⟨ρ, T, rel, a⟩ => ⟨ρ, T, rel, a.bind.imp fun xs ρ' q vs H' hl r => ?_⟩
  by_cases hz : xs.length ≤ lineN
  · rw [if_pos hz] at q
    refine ⟨by rw [lineE, ← hl]; exact hz, fun p hp => q (.ref p) _ (r.good fun L g => ?_)⟩
    rw [List.append_assoc] at g
    exact (Good.row g (Nat.le_refl _)).newT (by rw [List.length_map]; exact hl) hp
  · rw [if_neg hz] at q; exact q.elim
theorem v_lst (h : PA X es (tVs X.K W m)) : PE X (.List es pos) (tV X.K W (mkLst m)) := by
  refine PE.imp (pe_lst h) fun σ H Q ⟨ρ, T, rel, a⟩ => ⟨ρ, T, rel, a.bind.imp fun xs ρ' q vs H' hl r => ?_⟩
  by_cases hz : xs.length ≤ lineN
  · rw [if_pos hz] at q
    refine ⟨by rw [lineE, ← hl]; exact hz, fun p hp => q (.ref p) _ (r.good fun L g => ?_)⟩
    rw [List.append_assoc] at g
    exact (Good.row g (Nat.min_le_left _ _)).newL (by rw [List.length_map]; exact hl) hp
  · rw [if_neg hz] at q; exact q.elim
end

/-! ### two operands, their values used up -/
def opV (o : LD → LD → Option LD) (a b : M LD) : M LD := a.bind fun x => b.bind fun y ρ => match o x y with
  | some z => .ok z ρ
  | none => .no
/-- the rule r does what o says, with the values at the state's top -/
def COp (K : PySem.W.Frag) (r : R2) (o : LD → LD → Option LD) : Prop := ∀ (H : Hp) (ρ : Rho) (σ : Sg) (T : List Item) (x y z : LD) (v w : V), Rel K H ρ σ ((y.1, y.2, w) :: (x.1, x.2, v) :: T) → o x y = some z →
  ∀ Q : VK, (∀ u H', Rel K H' ρ σ ((z.1, z.2, u) :: T) → Q u H') → r v w H Q
section
variable {X : Cx} {W : Wish} {ea eb : Expr} {pos : Pos} {ma mb : M LD} {o : LD → LD → Option LD}
theorem opV_run {r : R2} (ho : COp X.K r o) {σ : Sg} {H : Hp} {Q : VK} (h : tV X.K W (opV o ma mb) σ H Q) : tOp r (tV X.K W ma) (tV X.K W mb) σ H Q := by
  obtain ⟨ρ, T, rel, a⟩ := h
  refine ⟨ρ, T, rel, a.bind.imp fun x ρ1 q1 v H1 r1 => ⟨ρ1, _, r1, (q1.bind.up).imp fun y ρ2 q2 w H2 r2 => ?_⟩⟩
  have q2' : Aft W T (match o x y with | some z => R.ok z ρ2 | none => R.no) fun x ρ' => ∀ v H', Rel X.K H' ρ' σ ((x.1, x.2, v) :: T) → Q v H' := q2
  cases e : o x y with
  | none => rw [e] at q2'; exact q2'.elim
  | some z =>
    rw [e] at q2'
    exact ho H2 ρ2 σ T x y z v w r2 e Q q2'
theorem v_opV {op : Operator} {r : R2} (hr : OpR X (binaryOp op) r) (ho : COp X.K r o) (ha : PE X ea (tV X.K W ma)) (hb : PE X eb (tV X.K W mb)) : PE X (.BinOp ea op eb pos) (tV X.K W (opV o ma mb)) :=
  PE.imp (pe_op hr ha hb) fun σ H Q h => opV_run ho h
end

/-! ### + -/
def addD (x y : LD) : Option LD := match x.2, y.2 with
  | .int i, .int j => some (9, .int (i + j))
  | .str i, .str j => if i.length + j.length ≤ lineN then some (9, .str (i ++ j)) else none
  | .tup xs, .tup ys => if xs.length + ys.length ≤ lineN then some (min x.1 y.1, .tup (xs ++ ys)) else none
  | .lst xs, .lst ys => if xs.length + ys.length ≤ lineN then some (min (x.1 - 1) (y.1 - 1) + 1, .lst (xs ++ ys)) else none
  | _, _ => none
def rAddX (K : PySem.W.Frag) : R2 := fun x y H Q => rI0 (fun i j => .int (i + j)) x y H Q ∨ (∃ i j, x = .str i ∧ y = .str j ∧ i.length + j.length ≤ sizeLine ∧ Q (.str (i ++ j)) H) ∨ rCatA K x y H Q ∨ rCat x y H Q
section
variable {K : PySem.W.Frag} {H H' : Hp} {L : List Item} {Rs : List Addr} {ρ : Rho} {σ : Sg} {T : List Item}
theorem Rel.int_top {k : Nat} {i : Int} {v : V} (h : Rel K H ρ σ ((k, .int i, v) :: T)) : v = .int i := h.top.int
theorem its_both {k k1 k2 : Nat} {ds es : List D} {vs ws : List V} (hl : ds.length = vs.length) (h1 : k ≤ k1) (h2 : k ≤ k2) (h : Good K Rs H (its k1 ds vs ++ (its k2 es ws ++ L))) : Good K Rs H (its k (ds ++ es) (vs ++ ws) ++ L) := by
  rw [its_append hl, List.append_assoc]
  exact h.weak (Wk.append (Wk.its h1 ds vs) (Wk.append (Wk.its h2 es ws) (Wk.refl L)))
theorem c_add : COp K (rAddX K) addD := by
  intro H ρ σ T x y z v w r e Q q
  obtain ⟨k1, d1⟩ := x
  obtain ⟨k2, d2⟩ := y
  unfold addD at e
  split at e
  · rename_i i j h1 h2
    simp only at h1 h2
    subst h1 h2
    cases e
    obtain rfl := r.top.int
    obtain rfl := r.drop.top.int
    exact .inl ⟨_, _, rfl, rfl, q _ H (r.drop.drop.scal (d := .int (i + j)) rfl)⟩
  · rename_i i j h1 h2
    simp only at h1 h2
    subst h1 h2
    by_cases hz : i.length + j.length ≤ lineN
    · rw [if_pos hz] at e
      cases e
      obtain rfl := r.top.str
      obtain rfl := r.drop.top.str
      exact .inr (.inl ⟨_, _, rfl, rfl, by rw [lineE]; exact hz, q _ H (r.drop.drop.scal (d := .str (i ++ j)) rfl)⟩)
    · rw [if_neg hz] at e; cases e
  · rename_i xs ys h1 h2
    simp only at h1 h2
    subst h1 h2
    by_cases hz : xs.length + ys.length ≤ lineN
    · rw [if_pos hz] at e
      cases e
      obtain ⟨L, c, g⟩ := r
      obtain ⟨p2, ws, rfl, s2, l2, g2⟩ := g.tup_inv
      obtain ⟨p1, vs, rfl, s1, l1, g1⟩ := (g2.perm (List.perm_middle (l₁ := its k2 ys ws) (a := (k1, D.tup xs, v)) (l₂ := T ++ L))).tup_inv
      have g0 : Good K [] H (its (min k1 k2) (xs ++ ys) (vs ++ ws) ++ (T ++ L)) := its_both l1 (Nat.min_le_left _ _) (Nat.min_le_right _ _) g1
      refine .inr (.inr (.inl ⟨p1, p2, vs, ws, rfl, rfl, s1, s2, by rw [lineE, ← l1, ← l2]; exact hz, fun hx => ?_, fun hx hy => ?_, fun hx hy p hp => ?_⟩))
      · subst hx
        have : xs = [] := by simpa using l1
        subst this
        exact q _ H ⟨L, c, Good.tup s2 (by simpa using l2) (by simpa using g0)⟩
      · subst hy
        have : ys = [] := by simpa using l2
        subst this
        rw [List.append_nil, List.append_nil] at g0
        refine q _ H ⟨L, c, ?_⟩
        rw [List.append_nil]
        exact Good.tup s1 l1 g0
      · exact q _ _ ⟨L, c, g0.newT (by rw [List.length_append, List.length_append, l1, l2]) hp⟩
    · rw [if_neg hz] at e; cases e
  · rename_i xs ys h1 h2
    simp only at h1 h2
    subst h1 h2
    by_cases hz : xs.length + ys.length ≤ lineN
    · rw [if_pos hz] at e
      cases e
      obtain ⟨L, c, g⟩ := r
      obtain ⟨p2, ws, rfl, s2, l2, g2⟩ := g.lst_inv
      obtain ⟨p1, vs, rfl, s1, l1, g1⟩ := (g2.perm (List.perm_middle (l₁ := its (k2 - 1) ys ws) (a := (k1, D.lst xs, v)) (l₂ := T ++ L))).lst_inv
      have g0 : Good K [] H (its (min (k1 - 1) (k2 - 1)) (xs ++ ys) (vs ++ ws) ++ (T ++ L)) := its_both l1 (Nat.min_le_left _ _) (Nat.min_le_right _ _) g1
      exact .inr (.inr (.inr ⟨p1, p2, vs, ws, rfl, rfl, s1, s2, by rw [lineE, ← l1, ← l2]; exact hz, fun p hp => q _ _ ⟨L, c, g0.newL (by rw [List.length_append, List.length_append, l1, l2]) hp⟩⟩))
    · rw [if_neg hz] at e; cases e
  · cases e
end
section
variable {X : Cx} {W : Wish} {ea eb : Expr} {pos : Pos} {ma mb : M LD}
theorem v_add (ha : PE X ea (tV X.K W ma)) (hb : PE X eb (tV X.K W mb)) : PE X (.BinOp ea .Add eb pos) (tV X.K W (opV addD ma mb)) :=
  v_opV (OpR.or op_add (OpR.or op_add_str (OpR.or op_catA op_cat))) c_add ha hb
end

/-! ### * -/
def mulD (x y : LD) : Option LD := match x.2, y.2 with
  | .int i, .int j => if mulOk i j then some (9, .int (i * j)) else none
  | .lst xs, .int k => if xs.length * k.toNat ≤ lineN ∧ -(2 ^ 63) ≤ k ∧ k < 2 ^ 63 then some (if xs.all D.isS then 9 else 1, .lst (List.replicate k.toNat xs).flatten) else none
  | .tup xs, .int k => if xs ≠ [] ∧ 2 ≤ k ∧ k ≤ 1000 ∧ xs.length ≤ 1000 then some (0, .tup (List.replicate k.toNat xs).flatten) else none
  | _, _ => none
def rMulX (K : PySem.W.Frag) : R2 := fun x y H Q => rI (fun i j => mulOk i j = true) (fun i j => .int (i * j)) x y H Q ∨ rRep x y H Q ∨ rRepT K x y H Q
section
variable {K : PySem.W.Frag} {H H' : Hp} {L : List Item} {Rs : List Addr} {ρ : Rho} {σ : Sg} {T : List Item}
theorem Good.scalRow {k : Nat} : ∀ {ds : List D} {vs : List V}, ds.all D.isS = true → KDs K H ds vs → Good K Rs H L → Good K Rs H (its k ds vs ++ L)
  | [], _, _, h, g => by cases h; exact g
  | d :: ds, _, e, h, g => by
    cases h with
    | cons h1 h2 =>
      rw [List.all_cons, Bool.and_eq_true] at e
      obtain rfl := h1.isS e.1
      exact (Good.scalRow e.2 h2 g).scal e.1
theorem len_rep {α : Type} (xs : List α) : ∀ n : Nat, (List.replicate n xs).flatten.length = n * xs.length := by
  intro n
  simp
theorem Good.rep {ds : List D} {vs : List V} (hl : ds.length = vs.length) : ∀ (n : Nat), Good K Rs H (its 0 ds vs ++ L) → Good K Rs H (its 0 (List.replicate n ds).flatten (List.replicate n vs).flatten ++ (its 0 ds vs ++ L))
  | 0, g => g
  | n + 1, g => by
    rw [List.replicate_succ, List.replicate_succ, List.flatten_cons, List.flatten_cons, its_append hl, List.append_assoc]
    have g1 := Good.rep hl n g
    have g2 : Good K Rs H (its 0 ds vs ++ (its 0 (List.replicate n ds).flatten (List.replicate n vs).flatten ++ L)) := g1.perm (by
      rw [← List.append_assoc, ← List.append_assoc]
      exact List.perm_append_comm.append_right L)
    refine g2.dups.perm (List.Perm.append_left _ ?_)
    rw [← List.append_assoc, ← List.append_assoc]
    exact List.perm_append_comm.append_right L
theorem Good.mid {A B : List Item} (h : Good K Rs H (A ++ (B ++ L))) : Good K Rs H (A ++ L) := by
  have p : (A ++ (B ++ L)).Perm (B ++ (A ++ L)) := by
    rw [← List.append_assoc, ← List.append_assoc]
    exact List.perm_append_comm.append_right L
  exact (h.perm p).dropA
theorem all_rep {ds : List D} (h : ds.all D.isS = true) : ∀ n : Nat, (List.replicate n ds).flatten.all D.isS = true := by
  intro n
  rw [List.all_flatten, List.all_eq_true]
  intro x hx
  rw [(List.mem_replicate.mp hx).2]
  exact h
theorem KDs.append : ∀ {ds es : List D} {vs ws : List V}, KDs K H ds vs → KDs K H es ws → KDs K H (ds ++ es) (vs ++ ws)
  | [], _, _, _, .nil, h => h
  | _ :: _, _, _, _, .cons a b, h => .cons a (KDs.append b h)
theorem kds_rep {ds : List D} {vs : List V} (h : KDs K H ds vs) : ∀ n : Nat, KDs K H (List.replicate n ds).flatten (List.replicate n vs).flatten
  | 0 => .nil
  | n + 1 => by
    rw [List.replicate_succ, List.replicate_succ, List.flatten_cons, List.flatten_cons]
    exact h.append (kds_rep h n)
theorem c_mul : COp K (rMulX K) mulD := by
  intro H ρ σ T x y z v w r e Q q
  obtain ⟨k1, d1⟩ := x
  obtain ⟨k2, d2⟩ := y
  unfold mulD at e
  split at e
  · rename_i i j h1 h2
    simp only at h1 h2
    subst h1 h2
    by_cases hm : mulOk i j = true
    · rw [if_pos hm] at e
      cases e
      obtain rfl := r.top.int
      obtain rfl := r.drop.top.int
      exact .inl ⟨_, _, rfl, rfl, hm, q _ H (r.drop.drop.scal (d := .int (i * j)) rfl)⟩
    · rw [if_neg hm] at e; cases e
  · rename_i xs k h1 h2
    simp only at h1 h2
    subst h1 h2
    by_cases hz : xs.length * k.toNat ≤ lineN ∧ -(2 ^ 63) ≤ k ∧ k < 2 ^ 63
    · rw [if_pos hz] at e
      cases e
      obtain rfl := r.top.int
      obtain ⟨L, c, g⟩ := r.drop
      obtain ⟨p, vs, rfl, s1, l1, g1⟩ := g.lst_inv
      refine .inr (.inl ⟨p, k, vs, rfl, rfl, s1, hz.2.1, hz.2.2, by rw [lineE, ← l1]; exact hz.1, fun p2 hp => q _ _ ⟨L, c, ?_⟩⟩)
      have hl2 : (List.replicate k.toNat xs).flatten.length = (List.replicate k.toNat vs).flatten.length := by rw [len_rep, len_rep, l1]
      by_cases ha : xs.all D.isS = true
      · rw [if_pos ha]
        have kd : KDs K H xs vs := g1.kds l1 fun x hx => List.mem_append_left _ hx
        exact (Good.scalRow (k := 8) (all_rep ha _) (kds_rep kd _) g1.dropA).newL hl2 hp
      · rw [if_neg ha]
        have g2 := Good.rep l1 k.toNat (g1.weak (Wk.append (Wk.its (Nat.zero_le _) xs vs) (Wk.refl _)))
        exact (Good.mid g2).newL hl2 hp
    · rw [if_neg hz] at e; cases e
  · rename_i xs k h1 h2
    simp only at h1 h2
    subst h1 h2
    by_cases hz : xs ≠ [] ∧ 2 ≤ k ∧ k ≤ 1000 ∧ xs.length ≤ 1000
    · rw [if_pos hz] at e
      cases e
      obtain rfl := r.top.int
      obtain ⟨L, c, g⟩ := r.drop
      obtain ⟨p, vs, rfl, s1, l1, g1⟩ := g.tup_inv
      refine .inr (.inr ⟨p, k, vs, rfl, rfl, s1, fun e => hz.1 (by rw [e] at l1; simpa using l1), hz.2.1, hz.2.2.1, by rw [← l1]; exact hz.2.2.2, fun p2 hp => q _ _ ⟨L, c, ?_⟩⟩)
      have hl2 : (List.replicate k.toNat xs).flatten.length = (List.replicate k.toNat vs).flatten.length := by rw [len_rep, len_rep, l1]
      have g2 := Good.rep l1 k.toNat (g1.weak (Wk.append (Wk.its (Nat.zero_le _) xs vs) (Wk.refl _)))
      exact (Good.mid g2).newT hl2 hp
    · rw [if_neg hz] at e; cases e
  · cases e
end
section
variable {X : Cx} {W : Wish} {ea eb : Expr} {pos : Pos} {ma mb : M LD}
theorem v_mul (ha : PE X ea (tV X.K W ma)) (hb : PE X eb (tV X.K W mb)) : PE X (.BinOp ea .Mult eb pos) (tV X.K W (opV mulD ma mb)) :=
  v_opV (OpR.or op_mulX (OpR.or op_rep op_repT)) c_mul ha hb
end

/-! ### items -/
def idxD (x : LD) (i : Int) : Option LD := match x.2 with
  | .tup xs => (atI xs i).map fun d => (if d.isS then 9 else x.1, d)
  | .lst xs => (atI xs i).map fun d => (if d.isS then 9 else x.1 - 1, d)
  | .rol xs => (atI xs i).map fun d => (if d.isS then 9 else 0, d)
  | .str z => if z.length ≤ lineN then (atI z.cps.toList i).map fun c => (9, .str ⟨#[c]⟩) else none
  | _ => none
def idxO (x y : LD) : Option LD := match y.2 with
  | .int i => idxD x i
  | _ => none
section
variable {K : PySem.W.Frag} {H H' : Hp} {L : List Item} {Rs : List Addr} {ρ : Rho} {σ : Sg} {T : List Item}
theorem atI_at {α β : Type} {xs : List α} {ys : List β} {i : Int} {a : α} (h : atI xs i = some a) (hl : xs.length = ys.length) : ∃ (j : Nat) (b : β), xs[j]? = some a ∧ ys[j]? = some b ∧ atI ys i = some b := by
  obtain ⟨j, h1, h2, h3, h4, h5⟩ := atI_get h
  have hj : j < ys.length := by omega
  unfold atI at h ⊢
  cases q : ixN xs.length i with
  | none => rw [q] at h; simp at h
  | some j' =>
    have e : j' = j := by
      obtain ⟨z, _⟩ := ixN_seq q
      rw [z] at h1
      exact Option.some.inj h1
    subst e
    exact ⟨j', ys[j'], h2, by simp [hj], by rw [← hl, q]; simp [hj]⟩
/-- one of a row, the others dropped -/
theorem Good.pick {k : Nat} : ∀ {ds : List D} {vs : List V} {j : Nat} {d : D} {v : V}, Good K Rs H (its k ds vs ++ L) → ds[j]? = some d → vs[j]? = some v → Good K Rs H ((k, d, v) :: L)
  | [], _, _, _, _, _, h, _ => by simp at h
  | _ :: _, [], _, _, _, _, _, h => by simp at h
  | d :: ds, v :: vs, 0, _, _, g, h1, h2 => by
    simp at h1 h2
    subst h1 h2
    have g' : Good K Rs H ((k, d, v) :: (its k ds vs ++ L)) := g
    exact (g'.perm (List.perm_middle (l₁ := its k ds vs)).symm).dropA
  | d :: ds, v :: vs, j + 1, _, _, g, h1, h2 => by
    have g' : Good K Rs H ((k, d, v) :: (its k ds vs ++ L)) := g
    exact Good.pick g'.tail (j := j) (by simpa using h1) (by simpa using h2)
theorem Good.lift {k : Nat} {d : D} {v : V} (g : Good K Rs H ((k, d, v) :: L)) : Good K Rs H ((if d.isS then 9 else k, d, v) :: L) := by
  by_cases h : d.isS = true
  · rw [if_pos h]
    obtain rfl := g.kd.isS h
    exact g.tail.scal h
  · rw [if_neg h]; exact g
theorem c_idx : COp K (rIx K) idxO := by
  intro H ρ σ T x y z v w r e Q q
  obtain ⟨k1, d1⟩ := x
  obtain ⟨k2, d2⟩ := y
  unfold idxO at e
  split at e
  · rename_i i h2
    simp only at h2
    subst h2
    obtain rfl := r.top.int
    unfold idxD at e
    split at e
    · rename_i xs h1
      simp only at h1
      subst h1
      cases a : atI xs i with
      | none => rw [a] at e; cases e
      | some d =>
        rw [a] at e; cases e
        obtain ⟨L, c, g⟩ := r.drop
        obtain ⟨p, vs, rfl, s1, l1, g1⟩ := g.tup_inv
        obtain ⟨j, b, e1, e2, e3⟩ := atI_at a l1
        exact .inr (.inl ⟨p, vs, i, b, rfl, rfl, s1, e3, q _ H ⟨L, c, (g1.pick e1 e2).lift⟩⟩)
    · rename_i xs h1
      simp only at h1
      subst h1
      cases a : atI xs i with
      | none => rw [a] at e; cases e
      | some d =>
        rw [a] at e; cases e
        obtain ⟨L, c, g⟩ := r.drop
        obtain ⟨p, vs, rfl, s1, l1, g1⟩ := g.lst_inv
        obtain ⟨j, b, e1, e2, e3⟩ := atI_at a l1
        exact .inl ⟨p, vs, i, b, rfl, rfl, SqL.of s1, e3, q _ H ⟨L, c, (g1.pick e1 e2).lift⟩⟩
    · rename_i xs h1
      simp only at h1
      subst h1
      cases a : atI xs i with
      | none => rw [a] at e; cases e
      | some d =>
        rw [a] at e; cases e
        obtain ⟨L, c, g⟩ := r.drop
        obtain ⟨p, vs, rfl, s1, l1, g1⟩ := g.rol_inv
        obtain ⟨j, b, e1, e2, e3⟩ := atI_at a l1
        exact .inl ⟨p, vs, i, b, rfl, rfl, s1, e3, q _ H ⟨L, c, (g1.pick e1 e2).lift⟩⟩
    · rename_i s h1
      simp only at h1
      subst h1
      by_cases hz : s.length ≤ lineN
      · rw [if_pos hz] at e
        cases a : atI s.cps.toList i with
        | none => rw [a] at e; cases e
        | some c =>
          rw [a] at e; cases e
          obtain rfl := r.drop.top.str
          exact .inr (.inr ⟨s, i, c, rfl, rfl, by rw [lineE]; exact hz, a, q _ H (r.drop.drop.scal (d := .str ⟨#[c]⟩) rfl)⟩)
      · rw [if_neg hz] at e; cases e
    · cases e
  · cases e
/-- an item of a name's content, and the content's level afterwards -/
def viewI (k : Nat) (x : D) (i : Int) : Option (LD × Nat) := match x with
  | .tup xs => (atI xs i).map fun d => if d.isS then ((9, d), k) else ((0, d), 0)
  | .lst xs => (atI xs i).map fun d => if d.isS then ((9, d), k) else ((0, d), min k 1)
  | .rol xs => (atI xs i).map fun d => if d.isS then ((9, d), k) else ((0, d), 0)
  | _ => none
theorem Good.item {k k' : Nat} {x : D} {i : Int} {z : LD} {v : V} (g : Good K Rs H ((k, x, v) :: L)) (e : viewI k x i = some (z, k')) :
    ∃ u, Good K Rs H ((z.1, z.2, u) :: (k', x, v) :: L) ∧ ∀ Q : VK, Q u H → rIx K v (.int i) H Q := by
  unfold viewI at e
  split at e
  · rename_i xs
    cases a : atI xs i with
    | none => rw [a] at e; cases e
    | some d =>
      rw [a] at e
      simp only [Option.map_some, Option.some.injEq] at e
      by_cases s : d.isS = true
      · rw [if_pos s] at e
        cases e
        obtain ⟨p, vs, rfl, s1, l1, g1⟩ := id g.tup_inv
        obtain ⟨j, b, e1, e2, e3⟩ := atI_at a l1
        obtain rfl := (g1.pick e1 e2).kd.isS s
        exact ⟨_, g.scal s, fun Q q => .inr (.inl ⟨p, vs, i, _, rfl, rfl, s1, e3, q⟩)⟩
      · rw [if_neg s] at e
        cases e
        obtain ⟨p, vs, rfl, s1, l1, g1⟩ := g.tup_view
        obtain ⟨j, b, e1, e2, e3⟩ := atI_at a l1
        exact ⟨b, g1.pick e1 e2, fun Q q => .inr (.inl ⟨p, vs, i, _, rfl, rfl, s1, e3, q⟩)⟩
  · rename_i xs
    cases a : atI xs i with
    | none => rw [a] at e; cases e
    | some d =>
      rw [a] at e
      simp only [Option.map_some, Option.some.injEq] at e
      by_cases s : d.isS = true
      · rw [if_pos s] at e
        cases e
        obtain ⟨p, vs, rfl, s1, l1, g1⟩ := id g.lst_inv
        obtain ⟨j, b, e1, e2, e3⟩ := atI_at a l1
        obtain rfl := (g1.pick e1 e2).kd.isS s
        exact ⟨_, g.scal s, fun Q q => .inl ⟨p, vs, i, _, rfl, rfl, SqL.of s1, e3, q⟩⟩
      · rw [if_neg s] at e
        cases e
        obtain ⟨p, vs, rfl, s1, l1, g1⟩ := g.lst_view
        obtain ⟨j, b, e1, e2, e3⟩ := atI_at a l1
        exact ⟨b, g1.pick e1 e2, fun Q q => .inl ⟨p, vs, i, _, rfl, rfl, SqL.of s1, e3, q⟩⟩
  · rename_i xs
    cases a : atI xs i with
    | none => rw [a] at e; cases e
    | some d =>
      rw [a] at e
      simp only [Option.map_some, Option.some.injEq] at e
      by_cases s : d.isS = true
      · rw [if_pos s] at e
        cases e
        obtain ⟨p, vs, rfl, s1, l1, g1⟩ := id g.rol_inv
        obtain ⟨j, b, e1, e2, e3⟩ := atI_at a l1
        obtain rfl := (g1.pick e1 e2).kd.isS s
        exact ⟨_, g.scal s, fun Q q => .inl ⟨p, vs, i, _, rfl, rfl, s1, e3, q⟩⟩
      · rw [if_neg s] at e
        cases e
        have g2 := g.share
        obtain ⟨p, vs, rfl, s1, l1, g1⟩ := g2.rol_inv
        obtain ⟨j, b, e1, e2, e3⟩ := atI_at a l1
        exact ⟨b, g1.pick e1 e2, fun Q q => .inl ⟨p, vs, i, _, rfl, rfl, s1, e3, q⟩⟩
  · cases e
theorem Rel.move2 {j k : Nat} {d : D} {v : V} (h : Rel K H ρ σ T) (e : ρ[j]? = some (.c k d)) (hv : σ[j]? = some (some v)) : Rel K H (ρ.set j .u) σ ((k, d, v) :: T) := by
  obtain ⟨w, hw, r⟩ := h.move e
  rw [hv] at hw
  cases hw
  exact r
end
/-- x[i], x a name -/
def idxv (j : Nat) (mi : M LD) : M LD := fun ρ => match ρ[j]? with
  | some (.c _ _) => M.bind mi (fun y ρ1 => match y.2, ρ1[j]? with
    | .int i, some (.c k d) => match viewI k d i with
      | some (z, k') => .ok z (ρ1.set j (.c k' d))
      | none => .no
    | _, _ => .no) ρ
  | _ => .no
section
variable {X : Cx} {W : Wish} {ea eb : Expr} {pos p1 : Pos} {ma mb : M LD} {j : Nat} {x : Str}
theorem v_idx (ha : PE X ea (tV X.K W ma)) (hb : PE X eb (tV X.K W mb)) (hs : PlainIx eb) : PE X (.Subscript ea eb pos) (tV X.K W (opV idxO ma mb)) :=
  PE.imp (pe_ix ix_seq ha hb hs) fun σ H Q h => opV_run c_idx h
theorem v_idxv (ha : PE X (.Name x p1) (tVar j)) (hb : PE X eb (tV X.K W mb)) (hs : PlainIx eb) : PE X (.Subscript (.Name x p1) eb pos) (tV X.K W (idxv j mb)) := by
  refine PE.imp (pe_ix ix_seq ha hb hs) fun σ H Q ⟨ρ, T, rel, a⟩ => ?_
  unfold idxv at a
  cases q : ρ[j]? with
  | none => rw [q] at a; exact a.elim
  | some c0 =>
    cases c0 with
    | u => rw [q] at a; exact a.elim
    | c k0 d0 =>
      rw [q] at a
      obtain ⟨v, hv, _⟩ := rel.kd q
      refine ⟨v, hv, ρ, T, rel, a.bind.imp fun y ρ1 q1 w H1 r1 => ?_⟩
      obtain ⟨ky, dy⟩ := y
      cases dy with
      | int i =>
        cases e1 : ρ1[j]? with
        | none => simp only [e1] at q1; exact q1.elim
        | some c1 =>
          cases c1 with
          | u => simp only [e1] at q1; exact q1.elim
          | c k d =>
            simp only [e1] at q1
            cases e2 : viewI k d i with
            | none => rw [e2] at q1; exact q1.elim
            | some zz =>
              obtain ⟨z, k'⟩ := zz
              rw [e2] at q1
              obtain rfl := r1.top.int
              obtain ⟨L, c, g⟩ := r1.drop.move2 e1 hv
              obtain ⟨u, g2, f⟩ := g.item e2
              refine f Q (q1 u H1 ?_)
              have r2 : Rel X.K H1 (ρ1.set j .u) σ ((k', d, v) :: (z.1, z.2, u) :: T) := ⟨L, c, g2.perm (.swap _ _ _)⟩
              have r3 := r2.back (getElem?_set_u e1) hv
              rwa [set_set_c] at r3
      | _ => exact q1.elim
end

/-! ### slices -/
def cutL {α : Type} (xs : List α) (lo hi : Option Int) : List α := (xs.drop (HT.sIx xs.length 0 lo)).take (HT.sIx xs.length xs.length hi - HT.sIx xs.length 0 lo)
/-- a part of a slice -/
def noP : M (Option Int) := M.ret none
def asP (m : M LD) : M (Option Int) := m.bind fun x => match x.2 with
  | .int i => M.ret (some i)
  | _ => fun _ => .no
def tP (K : PySem.W.Frag) (W : Wish) (m : M (Option Int)) : TO := fun σ H Q => ∃ ρ T, Rel K H ρ σ T ∧ Aft W T (m ρ) fun o ρ' => ∀ H', Rel K H' ρ' σ T → Q o H'
def sliceD (x : LD) (lo hi : Option Int) : Option LD := match x.2 with
  | .tup xs => some (x.1, .tup (cutL xs lo hi))
  | .lst xs => some (x.1 - 1 + 1, .lst (cutL xs lo hi))
  | .rol xs => some (1, .lst (cutL xs lo hi))
  | _ => none
def slc (m : M LD) (l h : M (Option Int)) : M LD := m.bind fun x => l.bind fun lo => h.bind fun hi ρ => match sliceD x lo hi with
  | some z => .ok z ρ
  | none => .no
section
variable {K : PySem.W.Frag} {H H' : Hp} {L : List Item} {Rs : List Addr} {ρ : Rho} {σ : Sg} {T : List Item}
theorem its_take {k : Nat} : ∀ (ds : List D) (vs : List V) (n : Nat), its k (ds.take n) (vs.take n) = (its k ds vs).take n := by
  intro ds vs n
  unfold its
  rw [List.take_zipWith]
theorem its_drop {k : Nat} : ∀ (ds : List D) (vs : List V) (n : Nat), its k (ds.drop n) (vs.drop n) = (its k ds vs).drop n := by
  intro ds vs n
  unfold its
  rw [List.drop_zipWith]
theorem Good.cut {k : Nat} {ds : List D} {vs : List V} (hl : ds.length = vs.length) (lo hi : Option Int) (g : Good K Rs H (its k ds vs ++ L)) : Good K Rs H (its k (cutL ds lo hi) (cutL vs lo hi) ++ L) := by
  unfold cutL
  rw [hl, its_take, its_drop]
  generalize its k ds vs = M at g
  have s : (M.drop (HT.sIx vs.length 0 lo)).take (HT.sIx vs.length vs.length hi - HT.sIx vs.length 0 lo) ++ (M.drop (HT.sIx vs.length 0 lo)).drop (HT.sIx vs.length vs.length hi - HT.sIx vs.length 0 lo) = M.drop (HT.sIx vs.length 0 lo) := List.take_append_drop _ _
  have g1 : Good K Rs H (M.take (HT.sIx vs.length 0 lo) ++ (M.drop (HT.sIx vs.length 0 lo) ++ L)) := by rw [← List.append_assoc, List.take_append_drop]; exact g
  have g2 := g1.dropA
  rw [← s, List.append_assoc] at g2
  exact g2.mid
theorem cutL_len {ds : List D} {vs : List V} (hl : ds.length = vs.length) (lo hi : Option Int) : (cutL ds lo hi).length = (cutL vs lo hi).length := by
  unfold cutL
  rw [List.length_take, List.length_take, List.length_drop, List.length_drop, hl]
theorem cut_whole {vs : List V} {lo hi : Option Int} (h : HT.sIx vs.length 0 lo = 0 ∧ HT.sIx vs.length vs.length hi = vs.length) {ds : List D} (hl : ds.length = vs.length) : cutL ds lo hi = ds := by
  unfold cutL
  rw [hl, h.1, h.2, List.drop_zero, Nat.sub_zero, ← hl, List.take_length]
end
def rSlX (K : PySem.W.Frag) : V → Option Int → Option Int → Hp → VK → Prop := fun x lo hi H Q => rSlA K x lo hi H Q ∨ rSlL K x lo hi H Q
section
variable {X : Cx} {W : Wish} {ea : Expr} {pos p2 : Pos} {ma : M LD} {lo hi : Option Expr} {ml mh : M (Option Int)}
theorem p_none : PO X none (tP X.K W noP) := ⟨fun pins s σ H Q I h => po_none.run pins s σ H Q I (let ⟨ρ, T, rel, a⟩ := h; a H rel)⟩
theorem p_some {e : Expr} {m : M LD} (h : PE X e (tV X.K W m)) : PO X (some e) (tP X.K W (asP m)) := ⟨fun pins s σ H Q I ⟨ρ, T, rel, a⟩ => (po_some h).run pins s σ H Q I ⟨ρ, T, rel, a.bind.imp fun x ρ' q v H' r => by
  obtain ⟨k, d⟩ := x
  cases d with
  | int i => exact ⟨i, r.top.int, q H' r.drop⟩
  | _ => exact q.elim⟩⟩
theorem v_slice (ha : PE X ea (tV X.K W ma)) (hl : PO X lo (tP X.K W ml)) (hh : PO X hi (tP X.K W mh)) : PE X (.Subscript ea (.Slice lo hi none p2) pos) (tV X.K W (slc ma ml mh)) := by
  refine PE.imp (pe_slice (SlR.or sl_tupA sl_list) ha hl hh) fun σ H Q ⟨ρ, T, rel, a⟩ => ?_
  refine ⟨ρ, T, rel, a.bind.imp fun x ρ1 q1 v H1 r1 => ⟨ρ1, _, r1, (q1.bind.up).imp fun l ρ2 q2 H2 r2 => ⟨ρ2, _, r2, (q2.bind.up).imp fun h ρ3 q3 H3 r3 => ?_⟩⟩⟩
  have q3' : Aft W T (match sliceD x l h with | some z => R.ok z ρ3 | none => R.no) fun x ρ' => ∀ v H', Rel X.K H' ρ' σ ((x.1, x.2, v) :: T) → Q v H' := q3
  obtain ⟨k, d⟩ := x
  obtain ⟨L, c, g⟩ := r3
  unfold sliceD at q3'
  cases d with
  | tup xs =>
    obtain ⟨p, vs, rfl, s1, l1, g1⟩ := g.tup_inv
    refine .inl ⟨p, vs, rfl, s1, fun hw => q3' _ H3 ⟨L, c, ?_⟩, fun hw p hp => q3' _ _ ⟨L, c, (g1.cut l1 l h).newT (cutL_len l1 l h) hp⟩⟩
    show Good X.K [] H3 ((k, D.tup (cutL xs l h), V.ref p) :: T ++ L)
    rw [cut_whole hw l1]
    exact g
  | lst xs =>
    obtain ⟨p, vs, rfl, s1, l1, g1⟩ := g.lst_inv
    exact .inr ⟨p, vs, rfl, SqL.of s1, fun p hp => q3' _ _ ⟨L, c, (g1.cut l1 l h).newL (cutL_len l1 l h) hp⟩⟩
  | rol xs =>
    obtain ⟨p, vs, rfl, s1, l1, g1⟩ := g.rol_inv
    exact .inr ⟨p, vs, rfl, s1, fun p hp => q3' _ _ ⟨L, c, (g1.cut l1 l h).newL (cutL_len l1 l h) hp⟩⟩
  | _ => exact q3'.elim
end

/-! ### one operand, its value used up: tuple(..), list(..) -/
def op1 (o : LD → Option LD) (m : M LD) : M LD := m.bind fun x ρ => match o x with
  | some z => .ok z ρ
  | none => .no
def COp1 (K : PySem.W.Frag) (r : List V → Hp → VK → Prop) (o : LD → Option LD) : Prop := ∀ (H : Hp) (ρ : Rho) (σ : Sg) (T : List Item) (x z : LD) (v : V), Rel K H ρ σ ((x.1, x.2, v) :: T) → o x = some z →
  ∀ Q : VK, (∀ u H', Rel K H' ρ σ ((z.1, z.2, u) :: T) → Q u H') → r [v] H Q
def tupD (x : LD) : Option LD := match x.2 with
  | .tup xs => some (x.1, .tup xs)
  | .lst xs => some (x.1 - 1, .tup xs)
  | .rol xs => some (0, .tup xs)
  | _ => none
def lstD (x : LD) : Option LD := match x.2 with
  | .tup xs => some (up x.1, .lst xs)
  | .lst xs => some (x.1 - 1 + 1, .lst xs)
  | .rol xs => some (1, .lst xs)
  | _ => none
section
variable {K : PySem.W.Frag}
theorem c_tup : COp1 K (fun xs H Q => ∃ p ys, xs = [V.ref p] ∧ ((SqL K H p ys ∧ ∀ l, H l = none → Q (.ref l) (upd H l (.tup ys))) ∨ (SqT K H p ys ∧ Q (.ref p) H))) tupD := by
  intro H ρ σ T x z v r e Q q
  obtain ⟨k, d⟩ := x
  obtain ⟨L, c, g⟩ := r
  unfold tupD at e
  cases d with
  | tup xs =>
    cases e
    obtain ⟨p, vs, rfl, s1, l1, g1⟩ := id g.tup_inv
    exact ⟨p, vs, rfl, .inr ⟨s1, q _ H ⟨L, c, g⟩⟩⟩
  | lst xs =>
    cases e
    obtain ⟨p, vs, rfl, s1, l1, g1⟩ := g.lst_inv
    exact ⟨p, vs, rfl, .inl ⟨SqL.of s1, fun l hl => q _ _ ⟨L, c, g1.newT l1 hl⟩⟩⟩
  | rol xs =>
    cases e
    obtain ⟨p, vs, rfl, s1, l1, g1⟩ := g.rol_inv
    exact ⟨p, vs, rfl, .inl ⟨s1, fun l hl => q _ _ ⟨L, c, g1.newT l1 hl⟩⟩⟩
  | _ => cases e
theorem c_lst : COp1 K (fun xs H Q => ∃ p ys, xs = [V.ref p] ∧ (SqL K H p ys ∨ SqT K H p ys) ∧ ∀ l, H l = none → Q (.ref l) (upd H l (.lst ys))) lstD := by
  intro H ρ σ T x z v r e Q q
  obtain ⟨k, d⟩ := x
  obtain ⟨L, c, g⟩ := r
  unfold lstD at e
  cases d with
  | tup xs =>
    cases e
    obtain ⟨p, vs, rfl, s1, l1, g1⟩ := g.tup_inv
    refine ⟨p, vs, rfl, .inr s1, fun l hl => q _ _ ⟨L, c, ?_⟩⟩
    exact (g1.weak (Wk.append (Wk.its (Nat.min_le_left k 8) xs vs) (Wk.refl _))).newL l1 hl
  | lst xs =>
    cases e
    obtain ⟨p, vs, rfl, s1, l1, g1⟩ := g.lst_inv
    exact ⟨p, vs, rfl, .inl (SqL.of s1), fun l hl => q _ _ ⟨L, c, g1.newL l1 hl⟩⟩
  | rol xs =>
    cases e
    obtain ⟨p, vs, rfl, s1, l1, g1⟩ := g.rol_inv
    exact ⟨p, vs, rfl, .inl s1, fun l hl => q _ _ ⟨L, c, g1.newL l1 hl⟩⟩
  | _ => cases e
end
section
variable {X : Cx} {W : Wish} {e : Expr} {pos p : Pos} {m : M LD} {x : Str} {id : String} {r : List V → Hp → VK → Prop} {o : LD → Option LD}
theorem op1_run (ho : COp1 X.K r o) {σ : Sg} {H : Hp} {Q : VK} (h : tV X.K W (op1 o m) σ H Q) : tCB r (tVs X.K W (consV m noVs)) σ H Q := by
  obtain ⟨ρ, T, rel, a⟩ := h
  refine ⟨ρ, T, rel, ?_⟩
  show Aft W T (M.bind m (fun a => M.bind noVs fun as => M.ret (a :: as)) ρ) _
  unfold op1 at a
  unfold M.bind at a ⊢
  cases q : m ρ with
  | no => rw [q] at a; exact a
  | ex x ρ' => rw [q] at a; exact a
  | ok x ρ' =>
    rw [q] at a
    show ∀ vs H', _
    intro vs H' hl r'
    have a' : Aft W T (match o x with | some z => R.ok z ρ' | none => R.no) fun x ρ' => ∀ v H', Rel X.K H' ρ' σ ((x.1, x.2, v) :: T) → Q v H' := a
    cases e : o x with
    | none => rw [e] at a'; exact a'.elim
    | some z =>
      rw [e] at a'
      match vs, hl with
      | [v], _ => exact ho H' ρ' σ T x z v r' e Q a'
theorem v_callB1 (hc : CallR X (.builtin id) r) (ho : COp1 X.K r o) (hg : Gl X x) (hm : X.mg x = none) (hv : bootBuiltins x = some (.builtin id)) (h : PE X e (tV X.K W m))
    (hn : x ≠ "__name__" := by decide) (hdb : (x == ("__debug__" : Str)) = false := by decide) (he : starEach (e :: []) X.env = (false, eval e X.env) :: starEach [] X.env := by rfl) (hpl : (backTo pos (starEach [] X.env)).any (·.1) = false := by rfl) :
    PE X (.Call (.Name x p) [e] [] pos) (tV X.K W (op1 o m)) := PE.imp (pe_callB hc hg hm hv (vs_cons h vs_nil he) hn hdb he hpl) fun σ H Q h => op1_run ho h
theorem v_callT1 (hc : CallR X (.type id) r) (ho : COp1 X.K r o) (hg : Gl X x) (hm : X.mg x = none) (hv : bootBuiltins x = some (.type id)) (h : PE X e (tV X.K W m))
    (hn : x ≠ "__name__" := by decide) (hdb : (x == ("__debug__" : Str)) = false := by decide) (he : starEach (e :: []) X.env = (false, eval e X.env) :: starEach [] X.env := by rfl) (hpl : (backTo pos (starEach [] X.env)).any (·.1) = false := by rfl) :
    PE X (.Call (.Name x p) [e] [] pos) (tV X.K W (op1 o m)) := PE.imp (pe_callTy hc hg hm hv (vs_cons h vs_nil he) hn hdb he hpl) fun σ H Q h => op1_run ho h
end
end Vs
set_option Elab.async false
set_option linter.all false
set_option maxRecDepth 100000
set_option maxHeartbeats 2000000
/-! Vs5: statements, targets, loops, comprehensions. -/
namespace Vs
open PySem PySem.Spec PyProof.Rows L2

inductive Out where
  | nx | bk | ct
  | rt (x : LD)
def OutP (K : PySem.W.Frag) (P : Sg → Prop) (T : List Item) (D : Ends) (ρ' : Rho) : Out → Prop
  | .nx => ∀ σ' H', Rel K H' ρ' σ' T → P σ' → D.nx σ' H'
  | .bk => ∀ σ' H', Rel K H' ρ' σ' T → P σ' → D.bk σ' H'
  | .ct => ∀ σ' H', Rel K H' ρ' σ' T → P σ' → D.ct σ' H'
  | .rt x => ∀ v σ' H', Rel K H' ρ' σ' ((x.1, x.2, v) :: T) → P σ' → D.rt v H'
def tS (K : PySem.W.Frag) (W : Wish) (P : Sg → Prop) (m : M Out) : TS := fun D σ H => ∃ ρ T, Rel K H ρ σ T ∧ P σ ∧ Aft W T (m ρ) fun o ρ' => OutP K P T D ρ' o
/-- what is kept of the slots: those in io stand as they stood -/
def Pin (io : List Nat) (σ0 : Sg) (σ : Sg) : Prop := ∀ j ∈ io, σ[j]? = σ0[j]?
def Stays (P : Sg → Prop) (i : Nat) : Prop := ∀ σ (v : V), P σ → P (σ.set i (some v))
theorem pin_set {io : List Nat} {σ0 : Sg} {i : Nat} (h : i ∉ io) : Stays (Pin io σ0) i := fun σ v p j hj => by
  rw [List.getElem?_set_ne (by rintro rfl; exact h hj)]
  exact p j hj

/-! ### targets -/
def lv (d : D) : Nat := if d.isS then 9 else 0
abbrev G := LD → Rho → Option Rho
abbrev Gs := List LD → Rho → Option Rho
def gN (i : Nat) : G := fun x ρ => if i < ρ.length then some (ρ.set i (.c x.1 x.2)) else none
def gsN : Gs := fun xs ρ => match xs with
  | [] => some ρ
  | _ :: _ => none
def gsC (g : G) (gs : Gs) : Gs := fun xs ρ => match xs with
  | [] => none
  | x :: xs => (g x ρ).bind (gs xs)
/-- the parts of a tuple -/
def partsD (x : LD) : Option (List LD) := match x.2 with
  | .tup xs => some (xs.map fun d => (if d.isS then 9 else x.1, d))
  | _ => none
def gT (n : Nat) (gs : Gs) : G := fun x ρ => match partsD x with
  | some xs => if xs.length = n then gs xs ρ else none
  | none => none
def tG (K : PySem.W.Frag) (P : Sg → Prop) (g : G) : TG := fun v σ H Q => ∃ x ρ T, Rel K H ρ σ ((x.1, x.2, v) :: T) ∧ P σ ∧ ∃ ρ', g x ρ = some ρ' ∧ ∀ σ' H', Rel K H' ρ' σ' T → P σ' → Q σ' H'
def tGs (K : PySem.W.Frag) (P : Sg → Prop) (g : Gs) : TGs := fun vs σ H Q => ∃ xs ρ T, xs.length = vs.length ∧ Rel K H ρ σ (itemsOf xs vs ++ T) ∧ P σ ∧ ∃ ρ', g xs ρ = some ρ' ∧ ∀ σ' H', Rel K H' ρ' σ' T → P σ' → Q σ' H'
theorem PG.imp {X : Cx} {e : Expr} {t t' : TG} (h : PG X e t) (f : ∀ v σ H Q, t' v σ H Q → t v σ H Q) : PG X e t' := ⟨fun pins s σ H v u Q I r hq => h.run pins s σ H v u Q I r (f v σ H Q hq)⟩
theorem PGs.imp {X : Cx} {e : List Expr} {t t' : TGs} (h : PGs X e t) (f : ∀ v σ H Q, t' v σ H Q → t v σ H Q) : PGs X e t' := ⟨fun pins s σ H v u Q I r hq => h.run pins s σ H v u Q I r (f v σ H Q hq)⟩
theorem PI.imp {X : Cx} {a e : Expr} {t t' : TI} (h : PI X a e t) (f : ∀ σ H Q, t' σ H Q → t σ H Q) : PI X a e t' := ⟨fun pins s σ H Q I hq => h.run pins s σ H Q I (f σ H Q hq)⟩
section
variable {X : Cx} {W : Wish} {P : Sg → Prop} {e : Expr} {pos : Pos}
theorem g_name {i : Nat} {x : Str} (h : PG X (.Name x pos) (gName i)) (hP : Stays P i) : PG X (.Name x pos) (tG X.K P (gN i)) := by
  refine PG.imp h fun v σ H Q ⟨y, ρ, T, r, p, ρ', e, q⟩ => ?_
  unfold gN at e
  by_cases hi : i < ρ.length
  · rw [if_pos hi] at e
    cases e
    exact q _ H (r.store hi) (hP _ _ p)
  · rw [if_neg hi] at e; cases e
theorem gs_nil : PGs X [] (tGs X.K P gsN) := by
  refine PGs.imp pgs_nil fun vs σ H Q ⟨xs, ρ, T, hl, r, p, ρ', e, q⟩ => ?_
  cases xs with
  | nil =>
    cases vs with
    | nil => cases e; exact ⟨rfl, q σ H r p⟩
    | cons v vs => simp at hl
  | cons x xs => cases e
theorem gs_cons {es : List Expr} {g : G} {gs : Gs} (h1 : PG X e (tG X.K P g)) (h2 : PGs X es (tGs X.K P gs))
    (hs : (assignEach (e :: es) X.env).map (·.2) = assign e X.env :: (assignEach es X.env).map (·.2) := by rfl) : PGs X (e :: es) (tGs X.K P (gsC g gs)) := by
  refine PGs.imp (pgs_cons h1 h2 hs) fun vs σ H Q ⟨xs, ρ, T, hl, r, p, ρ', e, q⟩ => ?_
  cases xs with
  | nil => cases e
  | cons x xs =>
    cases vs with
    | nil => simp at hl
    | cons v vs =>
      have e' : (g x ρ).bind (gs xs) = some ρ' := e
      cases e1 : g x ρ with
      | none => rw [e1] at e'; cases e'
      | some ρ1 =>
        rw [e1] at e'
        exact ⟨v, vs, rfl, x, ρ, itemsOf xs vs ++ T, r, p, ρ1, e1, fun σ' H' r' p' => ⟨xs, ρ1, T, by simpa using hl, r', p', ρ', e', q⟩⟩
theorem Good.lifts {K : PySem.W.Frag} {Rs : List Addr} {H : Hp} {k : Nat} : ∀ {ds : List D} {vs : List V} {L : List Item}, ds.length = vs.length → Good K Rs H (its k ds vs ++ L) → Good K Rs H (itemsOf (ds.map fun d => (if d.isS then 9 else k, d)) vs ++ L)
  | [], _, _, _, g => by simpa [itemsOf, its] using g
  | _ :: _, [], _, h, _ => by simp at h
  | d :: ds, v :: vs, L, h, g => by
    have g' : Good K Rs H ((k, d, v) :: (its k ds vs ++ L)) := g
    have g2 := (g'.lift.perm (List.perm_middle (l₁ := its k ds vs)).symm)
    have g3 := Good.lifts (L := (if d.isS then 9 else k, d, v) :: L) (by simpa using h) g2
    exact g3.perm List.perm_middle
theorem g_tup {es : List Expr} {k n : Nat} {gs : Gs} (hc : X.calm = true) (h : PGs X es (tGs X.K P gs))
    (hn : (assignEach es X.env).length = n := by rfl) (hst : (assignEach es X.env).findIdx? (·.1) = none := by rfl) : PG X (.Tuple es k pos) (tG X.K P (gT n gs)) := by
  refine PG.imp (pg_tup hc h hn hst) fun v σ H Q ⟨x, ρ, T, r, p, ρ', e, q⟩ => ?_
  obtain ⟨kx, d⟩ := x
  unfold gT partsD at e
  cases d with
  | tup xs =>
    simp only at e
    by_cases hl : (xs.map fun d => (if d.isS then 9 else kx, d)).length = n
    · rw [if_pos hl] at e
      obtain ⟨L, c, g⟩ := r
      obtain ⟨a, vs, rfl, s1, l1, g1⟩ := g.tup_inv
      refine ⟨a, vs, rfl, s1, by rw [← hl, List.length_map, l1], _, ρ, T, by rw [List.length_map, l1], ⟨L, c, ?_⟩, p, ρ', e, q⟩
      have g2 := Good.lifts l1 g1
      rw [List.append_assoc]
      exact g2
    · rw [if_neg hl] at e; cases e
  | _ => cases e
end

/-! ### small statements -/
def sNx : M Out := M.ret .nx
def sSeq (a b : M Out) : M Out := a.bind fun o => match o with
  | .nx => b
  | o => M.ret o
def sAsg (m : M LD) (g : G) : M Out := m.bind fun x ρ => match g x ρ with
  | some ρ' => .ok .nx ρ'
  | none => .no
def sDrop (m : M LD) : M Out := m.bind fun _ => M.ret .nx
def sRet (m : M LD) : M Out := m.bind fun x => M.ret (.rt x)
def sIf (c : M Bool) (a b : M Out) : M Out := c.bind fun t => if t then a else b
section
variable {X : Cx} {W : Wish} {P : Sg → Prop} {e : Expr} {pos : Pos} {st : Stmt} {rest : List Stmt} {ma mb : M Out} {m : M LD}
theorem b_nil : PSs X [] (tS X.K W P sNx) := PSs.imp pss_nil fun D σ H ⟨ρ, T, r, p, a⟩ => a σ H r p
theorem b_cons (h1 : PS X st (tS X.K W P ma)) (h2 : PSs X rest (tS X.K W P mb)) : PSs X (st :: rest) (tS X.K W P (sSeq ma mb)) := by
  refine PSs.imp (pss_cons h1 h2) fun D σ H ⟨ρ, T, r, p, a⟩ => ⟨ρ, T, r, p, a.bind.imp fun o ρ' q => ?_⟩
  cases o with
  | nx => exact fun σ' H' r' p' => ⟨ρ', T, r', p', q⟩
  | bk => exact q
  | ct => exact q
  | rt x => exact q
theorem b_one (h1 : PS X st (tS X.K W P ma)) : PSs X [st] (tS X.K W P ma) := pss_one h1
theorem s_pass : PS X (.Pass pos) (tS X.K W P sNx) := PS.imp ps_pass fun D σ H ⟨ρ, T, r, p, a⟩ => a σ H r p
theorem s_break : PS X (.Break pos) (tS X.K W P (M.ret .bk)) := PS.imp ps_break fun D σ H ⟨ρ, T, r, p, a⟩ => a σ H r p
theorem s_continue : PS X (.Continue pos) (tS X.K W P (M.ret .ct)) := PS.imp ps_continue fun D σ H ⟨ρ, T, r, p, a⟩ => a σ H r p
theorem s_expr (h : PE X e (tV X.K W m)) (hs : swapsWith e none pos.line X.env = pure false := by rfl) : PS X (.Expr e pos) (tS X.K W P (sDrop m)) :=
  PS.imp (ps_expr h hs) fun D σ H ⟨ρ, T, r, p, a⟩ => ⟨ρ, T, r, a.bind.imp fun x ρ' q v H' r' => q σ H' r'.drop p⟩
theorem s_ret (h : PE X e (tV X.K W m)) : PS X (.Return (some e) pos) (tS X.K W P (sRet m)) :=
  PS.imp (ps_ret h) fun D σ H ⟨ρ, T, r, p, a⟩ => ⟨ρ, T, r, a.bind.imp fun x ρ' q v H' r' => q v σ H' r' p⟩
theorem s_retN : PS X (.Return none pos) (tS X.K W P (M.ret (.rt (9, .non)))) :=
  PS.imp ps_retN fun D σ H ⟨ρ, T, r, p, a⟩ => a .non σ H (r.scal (d := .non) rfl) p
theorem s_if {c : Expr} {a b : List Stmt} {mc : M Bool} (hc : PT X c (tT X.K W mc)) (ha : PSs X a (tS X.K W P ma)) (hb : PSs X b (tS X.K W P mb)) : PS X (.If c a b pos) (tS X.K W P (sIf mc ma mb)) := by
  refine PS.imp (ps_if hc ha hb) fun D σ H ⟨ρ, T, r, p, h⟩ => ⟨ρ, T, r, h.bind.imp fun t ρ' q H' r' => ?_⟩
  cases t with
  | true => rw [if_pos rfl]; exact ⟨ρ', T, r', p, q⟩
  | false => rw [if_neg Bool.false_ne_true]; exact ⟨ρ', T, r', p, q⟩
theorem asg_run {g : G} {D : Ends} {σ : Sg} {H : Hp} (h : tS X.K W P (sAsg m g) D σ H) : tAsg (tV X.K W m) (tG X.K P g) D σ H := by
  obtain ⟨ρ, T, r, p, a⟩ := h
  refine ⟨ρ, T, r, a.bind.imp fun x ρ' q v H' r' => ?_⟩
  have q' : Aft W T (match g x ρ' with | some ρ' => R.ok Out.nx ρ' | none => R.no) fun o ρ' => OutP X.K P T D ρ' o := q
  cases e : g x ρ' with
  | none => rw [e] at q'; exact q'.elim
  | some ρ2 => rw [e] at q'; exact ⟨x, ρ', T, r', p, ρ2, e, q'⟩
/-- name = e -/
theorem s_set {i : Nat} {x : Str} {pos' : Pos} (hN : X.N.Nodup) (hi : X.N[i]? = some x) (hx : Loc X.env.scope x) (h : PE X e (tV X.K W m)) (hP : Stays P i) (hs : swapsWith e (some (.Name x pos')) pos.line X.env = pure false := by rfl)
    (hf : X.fn x = true ∨ X.env.scope.names.lookup x = some .local := by first | exact .inl rfl | exact .inr rfl | assumption) : PS X (.Assign [.Name x pos'] e pos) (tS X.K W P (sAsg m (gN i))) := by
  refine PS.imp (ps_set hN hi hx h hs hf) fun D σ H hq => ?_
  obtain ⟨ρ, T, r, a⟩ := asg_run hq
  refine ⟨ρ, T, r, a.imp fun y ρ' q v H' r' => ?_⟩
  obtain ⟨y', ρ2, T2, r2, p2, ρ3, e3, q3⟩ := q v H' r'
  unfold gN at e3
  by_cases hi' : i < ρ2.length
  · rw [if_pos hi'] at e3
    cases e3
    exact q3 _ H' (r2.store hi') (hP _ _ p2)
  · rw [if_neg hi'] at e3; cases e3
/-- target = e -/
theorem s_asg {tg : Expr} {g : G} (h : PE X e (tV X.K W m)) (hg : PG X tg (tG X.K P g)) (hs : swapsWithSole [tg] e pos.line X.env = pure false := by rfl) (hw : swappedStores [tg] e X.env = pure none := by rfl)
    (h1 : (assignEach [tg] X.env).map (·.2) = [assign tg X.env] := by rfl) : PS X (.Assign [tg] e pos) (tS X.K W P (sAsg m g)) :=
  PS.imp (ps_asg h hg hs hw h1) fun D σ H hq => asg_run hq
/-- a, b = e1, e2 -/
def sPar (i j : Nat) (ma mb : M LD) : M Out := ma.bind fun x => mb.bind fun y ρ => if i < ρ.length ∧ j < ρ.length then .ok .nx ((ρ.set i (.c x.1 x.2)).set j (.c y.1 y.2)) else .no
theorem s_par {i j : Nat} {x y : Str} {a b : Expr} {ma mb : M LD} {px py pt : Pos} {kt k2 pt2} (hc : X.calm = true) (hN : X.N.Nodup) (hi : X.N[i]? = some x) (hj : X.N[j]? = some y) (hij : i ≠ j)
    (hx : X.env.scope.names.lookup x = some .local) (hy : X.env.scope.names.lookup y = some .local) (ha : PE X a (tV X.K W ma)) (hb : PE X b (tV X.K W mb)) (hPi : Stays P i) (hPj : Stays P j)
    (hw : swappedStores [.Tuple [.Name x px, .Name y py] kt pt] (.Tuple [a, b] k2 pt2) X.env = pure (some [x, y]))
    (hs : swapsWithSole [.Tuple [.Name x px, .Name y py] kt pt] (.Tuple [a, b] k2 pt2) pos.line X.env = pure false := by rfl)
    (he : starEach [a, b] X.env = (false, eval a X.env) :: starEach [b] X.env := by rfl) (he2 : starEach [b] X.env = (false, eval b X.env) :: starEach [] X.env := by rfl) :
    PS X (.Assign [.Tuple [.Name x px, .Name y py] kt pt] (.Tuple [a, b] k2 pt2) pos) (tS X.K W P (sPar i j ma mb)) := by
  refine PS.imp (ps_par hc hN hi hj hij hx hy (pa_cons ha (pa_cons hb pa_nil he2) he) hw hs) fun D σ H ⟨ρ, T, r, p, h⟩ => ?_
  refine ⟨ρ, T, r, h.bind.imp fun x1 ρ1 q1 v1 H1 r1 => ⟨ρ1, _, r1, (q1.bind.up).imp fun x2 ρ2 q2 v2 H2 r2 => ?_⟩⟩
  have q2' : Aft W T (if i < ρ2.length ∧ j < ρ2.length then R.ok Out.nx ((ρ2.set i (.c x1.1 x1.2)).set j (.c x2.1 x2.2)) else R.no) fun o ρ' => OutP X.K P T D ρ' o := q2
  by_cases hl : i < ρ2.length ∧ j < ρ2.length
  · rw [if_pos hl] at q2'
    refine ⟨v1, v2, rfl, ?_⟩
    have r3 : Rel X.K H2 ρ2 σ ((x1.1, x1.2, v1) :: (x2.1, x2.2, v2) :: T) := r2.good fun L g => g.perm (.swap _ _ _)
    have r4 := (r3.store hl.1).store (i := j) (by rw [List.length_set]; exact hl.2)
    exact q2' _ H2 r4 (hPj _ _ (hPi _ _ p))
  · rw [if_neg hl] at q2'; exact q2'.elim
end

/-! ### what is walked -/
/-- J gives ds, one by one, where the row S of values stands -/
structure Feeds (K : PySem.W.Frag) (J : It) (S : List Item) (ds : List D) : Prop where
  go : ∀ (i : Nat) (d : D) (H : Hp) (ρ : Rho) (σ : Sg) (T : List Item), Rel K H ρ σ (S ++ T) → ds[i]? = some d → J.go i H ∧ ∀ x H', J.yld i H x H' → Rel K H' ρ σ ((lv d, d, x) :: (S ++ T))
  stop : ∀ (i : Nat) (H : Hp) (ρ : Rho) (σ : Sg) (T : List Item), Rel K H ρ σ (S ++ T) → i = ds.length → J.stop i H
def tI (K : PySem.W.Frag) (W : Wish) (m : M (List D)) : TI := fun σ H R => ∃ ρ T, Rel K H ρ σ T ∧ Aft W T (m ρ) fun ds ρ' => ∀ J S H', Rel K H' ρ' σ (S ++ T) → Feeds K J S ds → R J H'
def seqM (m : M LD) : M (List D) := m.bind fun x => match x.2 with
  | .lst xs => M.ret xs
  | .tup xs => M.ret xs
  | .rol xs => M.ret xs
  | _ => fun _ => .no
section
variable {K : PySem.W.Frag} {H H' : Hp} {L : List Item} {Rs : List Addr} {ρ : Rho} {σ : Sg} {T S : List Item}
theorem Good.lv {d : D} {v : V} (g : Good K Rs H ((0, d, v) :: L)) : Good K Rs H ((Vs.lv d, d, v) :: L) := g.lift
/-- the i-th of a shared list, the list kept -/
theorem lst_at {ds : List D} {v : V} {i : Nat} {d : D} (r : Rel K H ρ σ ((0, .lst ds, v) :: T)) (e : ds[i]? = some d) : ∃ p vs x, v = .ref p ∧ H p = some (.lst vs) ∧ vs[i]? = some x ∧ Rel K H ρ σ ((lv d, d, x) :: (0, .lst ds, v) :: T) ∧ ds.length = vs.length := by
  obtain ⟨L, c, g⟩ := r
  obtain ⟨p, vs, rfl, h1, h2, g1⟩ := g.lst_view
  have hi : i < vs.length := by rw [← h2]; exact (List.getElem?_eq_some_iff.mp e).1
  exact ⟨p, vs, vs[i], rfl, h1, by simp [hi], ⟨L, c, (g1.pick e (by simp [hi])).lv⟩, h2⟩
theorem tup_at {ds : List D} {v : V} {i : Nat} {d : D} (r : Rel K H ρ σ ((0, .tup ds, v) :: T)) (e : ds[i]? = some d) : ∃ p vs x, v = .ref p ∧ SqT K H p vs ∧ vs[i]? = some x ∧ Rel K H ρ σ ((lv d, d, x) :: (0, .tup ds, v) :: T) ∧ ds.length = vs.length := by
  obtain ⟨L, c, g⟩ := r
  obtain ⟨p, vs, rfl, h1, h2, g1⟩ := g.tup_view
  have hi : i < vs.length := by rw [← h2]; exact (List.getElem?_eq_some_iff.mp e).1
  exact ⟨p, vs, vs[i], rfl, h1, by simp [hi], ⟨L, c, (g1.pick e (by simp [hi])).lv⟩, h2⟩
theorem rol_at {ds : List D} {v : V} {i : Nat} {d : D} (r : Rel K H ρ σ ((0, .rol ds, v) :: T)) (e : ds[i]? = some d) : ∃ p vs x, v = .ref p ∧ SqL K H p vs ∧ vs[i]? = some x ∧ Rel K H ρ σ ((lv d, d, x) :: (0, .rol ds, v) :: T) ∧ ds.length = vs.length := by
  obtain ⟨L, c, g⟩ := r
  obtain ⟨p, vs, rfl, h1, h2, g1⟩ := g.dup.rol_inv
  have hi : i < vs.length := by rw [← h2]; exact (List.getElem?_eq_some_iff.mp e).1
  exact ⟨p, vs, vs[i], rfl, h1, by simp [hi], ⟨L, c, (g1.pick e (by simp [hi])).lv⟩, h2⟩
theorem feeds_lst {ds : List D} {p : Addr} : Feeds K (Itl K p) [(0, .lst ds, .ref p)] ds := by
  refine ⟨fun i d H ρ σ T r e => ?_, fun i H ρ σ T r e => ?_⟩
  · obtain ⟨p', vs, x, e1, h1, h2, r2, _⟩ := lst_at r e
    cases e1
    refine ⟨⟨vs, x, SqL.of h1, h2⟩, fun y H' hy => ?_⟩
    obtain ⟨rfl, hy⟩ := hy
    have := hy vs (SqL.of h1)
    rw [h2] at this
    cases this
    exact r2
  · obtain ⟨vs, h1, h2⟩ : ∃ vs, H p = some (.lst vs) ∧ ds.length = vs.length := by
      obtain ⟨L, c, g⟩ := r
      obtain ⟨p', vs, e1, h1, h2, _⟩ := Good.lst_inv (L := T ++ L) g
      cases e1
      exact ⟨vs, h1, h2⟩
    exact ⟨vs, SqL.of h1, by omega⟩
theorem feeds_tup {ds : List D} {p : Addr} : Feeds K (Itt K p) [(0, .tup ds, .ref p)] ds := by
  refine ⟨fun i d H ρ σ T r e => ?_, fun i H ρ σ T r e => ?_⟩
  · obtain ⟨p', vs, x, e1, h1, h2, r2, _⟩ := tup_at r e
    cases e1
    refine ⟨⟨vs, x, h1, h2⟩, fun y H' hy => ?_⟩
    obtain ⟨rfl, hy⟩ := hy
    have := hy vs h1
    rw [h2] at this
    cases this
    exact r2
  · obtain ⟨vs, h1, h2⟩ : ∃ vs, SqT K H p vs ∧ ds.length = vs.length := by
      obtain ⟨L, c, g⟩ := r
      obtain ⟨p', vs, e1, h1, h2, _⟩ := Good.tup_inv (L := T ++ L) g
      cases e1
      exact ⟨vs, h1, h2⟩
    exact ⟨vs, h1, by omega⟩
theorem feeds_rol {ds : List D} {p : Addr} : Feeds K (Itl K p) [(0, .rol ds, .ref p)] ds := by
  refine ⟨fun i d H ρ σ T r e => ?_, fun i H ρ σ T r e => ?_⟩
  · obtain ⟨p', vs, x, e1, h1, h2, r2, _⟩ := rol_at r e
    cases e1
    refine ⟨⟨vs, x, h1, h2⟩, fun y H' hy => ?_⟩
    obtain ⟨rfl, hy⟩ := hy
    have := hy vs h1
    rw [h2] at this
    cases this
    exact r2
  · obtain ⟨vs, h1, h2⟩ : ∃ vs, SqL K H p vs ∧ ds.length = vs.length := by
      obtain ⟨L, c, g⟩ := r
      obtain ⟨p', vs, e1, h1, h2, _⟩ := Good.rol_inv (L := T ++ L) g
      cases e1
      exact ⟨vs, h1, h2⟩
    exact ⟨vs, h1, by omega⟩
def rangeD (lo hi : Int) : List D := (List.range (hi - lo).toNat).map fun (j : Nat) => D.int (lo + (j : Int))
theorem feeds_range {lo hi : Int} : Feeds K (Itr lo (hi - lo).toNat) [] (rangeD lo hi) := by
  refine ⟨fun i d H ρ σ T r e => ?_, fun i H ρ σ T r e => ?_⟩
  · unfold rangeD at e
    rw [List.getElem?_map] at e
    cases q : (List.range (hi - lo).toNat)[i]? with
    | none => rw [q] at e; cases e
    | some j =>
      rw [q] at e
      obtain ⟨hj, ej⟩ := List.getElem?_eq_some_iff.mp q
      rw [List.getElem_range] at ej
      subst ej
      cases e
      rw [List.length_range] at hj
      refine ⟨hj, fun x H' hy => ?_⟩
      obtain ⟨rfl, rfl⟩ := hy
      exact r.scal (d := .int (lo + (i : Int))) rfl
  · unfold rangeD at e
    rw [List.length_map, List.length_range] at e
    exact Nat.le_of_eq e.symm
end
/-- either a list or a tuple -/
def iSeq (K : PySem.W.Frag) (tl : TE) : TI := fun σ H R => tl σ H fun x H1 => ∃ a, x = .ref a ∧ ((∃ xs, SqL K H1 a xs) ∧ R (Itl K a) H1 ∨ (∃ xs, SqT K H1 a xs) ∧ R (Itt K a) H1)
section
variable {X : Cx} {W : Wish} {P : Sg → Prop} {tg e : Expr} {pos : Pos} {m : M LD}
theorem pi_seq {tl : TE} (h : PE X e tl) : PI X tg e (iSeq X.K tl) := by
  refine ⟨fun pins s σ H R I hq => thn (h.run pins s σ H _ I hq) fun v s1 ⟨x, H1, I1, r1, a, e1, q⟩ => ?_⟩
  subst e1
  cases r1
  have unit : ∀ s2 : Shared, s2 = s1 → s2 = s1 := fun _ z => z
  rcases q with ⟨⟨xs, hq⟩, q⟩ | ⟨⟨xs, hq⟩, q⟩
  · obtain ⟨us, rv, p, hz⟩ := I1.list hq
    refine wpAny_pyIter_list p.isList ⟨s1.heap.objs.size, [s1.heap.objs.size], _, _, H1, rfl, I1.kept (t' := s1.toks) fun b o e => Heap.get?_push_of_some _ e, turn_list a _, ⟨_, Heap.get?_push_size _ rfl, rfl, rfl⟩, fun b hb => ?_, q⟩
    obtain rfl : b = s1.heap.objs.size := by simpa using hb
    exact I1.fpOk (Nat.le_refl _) (I1.hok.fresh (Nat.le_refl _))
  · obtain ⟨us, rv, p, hz⟩ := I1.tuple hq
    refine wpAny_pyIter_tuple (show s1.heap.IsTuple a us.toArray from p) ⟨s1.heap.objs.size, [s1.heap.objs.size], _, _, H1, rfl, I1.kept (t' := s1.toks) fun b o e => Heap.get?_push_of_some _ e, turn_tuple a _, ⟨_, Heap.get?_push_size _ rfl, rfl, rfl⟩, fun b hb => ?_, q⟩
    obtain rfl : b = s1.heap.objs.size := by simpa using hb
    exact I1.fpOk (Nat.le_refl _) (I1.hok.fresh (Nat.le_refl _))
theorem i_seq (h : PE X e (tV X.K W m)) : PI X tg e (tI X.K W (seqM m)) := by
  refine PI.imp (pi_seq h) fun σ H R ⟨ρ, T, r, a⟩ => ⟨ρ, T, r, a.bind.imp fun x ρ' q v H' r' => ?_⟩
  obtain ⟨k, d⟩ := x
  have r2 : Rel X.K H' ρ' σ ((0, d, v) :: T) := r'.good fun L g => g.low (Nat.zero_le _)
  cases d with
  | lst xs =>
    obtain ⟨p, vs, rfl, h1, _⟩ := r2.top.lst
    exact ⟨p, rfl, .inl ⟨⟨vs, SqL.of h1⟩, q _ _ H' r2 feeds_lst⟩⟩
  | tup xs =>
    obtain ⟨p, vs, rfl, h1, _⟩ := r2.top.tup
    exact ⟨p, rfl, .inr ⟨⟨vs, h1⟩, q _ _ H' r2 feeds_tup⟩⟩
  | rol xs =>
    obtain ⟨p, vs, rfl, h1, _⟩ := r2.top.rol
    exact ⟨p, rfl, .inl ⟨⟨vs, h1⟩, q _ _ H' r2 feeds_rol⟩⟩
  | _ => exact q.elim
def rgOk (i : Int) : Bool := decide (-(2 ^ 62) ≤ i) && decide (i < 2 ^ 62)
def rng1 (m : M (List LD)) : M (List D) := m.bind fun xs => match xs with
  | [(_, .int j)] => if rgOk j then M.ret (rangeD 0 j) else fun _ => .no
  | _ => fun _ => .no
def rng2 (m : M (List LD)) : M (List D) := m.bind fun xs => match xs with
  | [(_, .int i), (_, .int j)] => if rgOk i && rgOk j then M.ret (rangeD i j) else fun _ => .no
  | _ => fun _ => .no
theorem i_range1 {a : Expr} {p : Pos} {m : M (List LD)} (hg : Gl X "range") (hm : X.mg "range" = none) (ha : PA X [a] (tVs X.K W m)) (hs : starEach [a] X.env = [(false, eval a X.env)] := by rfl) : PI X tg (.Call (.Name "range" p) [a] [] pos) (tI X.K W (rng1 m)) := by
  refine PI.imp (pi_range1 hg hm ha hs) fun σ H R ⟨ρ, T, r, h⟩ => ⟨ρ, T, r, h.bind.imp fun xs ρ' q vs H' hl r' => ?_⟩
  split at q
  · rename_i k j
    match vs, hl with
    | [v], _ =>
      have r2 : Rel X.K H' ρ' σ ((k, .int j, v) :: T) := r'
      obtain rfl := r2.top.int
      by_cases z : rgOk j = true
      · rw [if_pos z] at q
        unfold rgOk at z
        rw [Bool.and_eq_true] at z
        refine ⟨j, rfl, of_decide_eq_true z.1, of_decide_eq_true z.2, ?_⟩
        have := q (Itr 0 (j - 0).toNat) [] H' r2.drop feeds_range
        rwa [Int.sub_zero] at this
      · rw [if_neg z] at q; exact q.elim
  · exact q.elim
theorem i_range2 {a b : Expr} {p : Pos} {m : M (List LD)} (hg : Gl X "range") (hm : X.mg "range" = none) (ha : PA X [a, b] (tVs X.K W m)) (hs : starEach [a, b] X.env = [(false, eval a X.env), (false, eval b X.env)] := by rfl) (hs2 : starEach [b] X.env = [(false, eval b X.env)] := by rfl) :
    PI X tg (.Call (.Name "range" p) [a, b] [] pos) (tI X.K W (rng2 m)) := by
  refine PI.imp (pi_range2 hg hm ha hs hs2) fun σ H R ⟨ρ, T, r, h⟩ => ⟨ρ, T, r, h.bind.imp fun xs ρ' q vs H' hl r' => ?_⟩
  split at q
  · rename_i k i k' j
    match vs, hl with
    | [v, v'], _ =>
      have r2 : Rel X.K H' ρ' σ ((k, .int i, v) :: (k', .int j, v') :: T) := r'
      obtain rfl := r2.top.int
      obtain rfl := r2.drop.top.int
      by_cases z : (rgOk i && rgOk j) = true
      · rw [if_pos z] at q
        unfold rgOk at z
        simp only [Bool.and_eq_true] at z
        exact ⟨i, j, rfl, ⟨of_decide_eq_true z.1.1, of_decide_eq_true z.1.2, of_decide_eq_true z.2.1, of_decide_eq_true z.2.2⟩, q _ [] H' r2.drop.drop feeds_range⟩
      · rw [if_neg z] at q; exact q.elim
  · exact q.elim
end

/-! ### for -/
def forL (g : G) (b : M Out) : List D → M Out
  | [] => M.ret .nx
  | d :: ds => fun ρ => match g (lv d, d) ρ with
    | none => .no
    | some ρ1 => match b ρ1 with
      | .no => .no
      | .ex x ρ2 => .ex x ρ2
      | .ok .nx ρ2 => forL g b ds ρ2
      | .ok .ct ρ2 => forL g b ds ρ2
      | .ok .bk ρ2 => .ok .nx ρ2
      | .ok (.rt x) ρ2 => .ok (.rt x) ρ2
def sFor (i : M (List D)) (g : G) (b : M Out) : M Out := i.bind fun ds => forL g b ds
section
variable {X : Cx} {W : Wish} {P : Sg → Prop} {tg it : Expr} {pos : Pos} {body : List Stmt} {mi : M (List D)} {g : G} {mb : M Out}
theorem s_for (hp : PassesOwn (model X.prog X.w) X.A X.env X.xe) (hc : X.calm = true) (hi : PI X tg it (tI X.K W mi)) (hg : PG X tg (tG X.K P g)) (hb : PSs X body (tS X.K W P mb))
    (hs : ∀ x, foldedSetIterable it X.env x = pure x := by intro _; rfl) : PS X (.For tg it body [] pos) (tS X.K W P (sFor mi g mb)) := by
  refine PS.imp (ps_for hp hc hi hg hb hs) fun D σ H ⟨ρ, T, r, p, a⟩ => ⟨ρ, T, r, a.bind.imp fun ds ρ0 q J S H0 r0 fd => ?_⟩
  refine ⟨fun i n σ H => n = ds.length - i ∧ i ≤ ds.length ∧ ∃ ρ, Rel X.K H ρ σ (S ++ T) ∧ P σ ∧ Aft W T (forL g mb (ds.drop i) ρ) fun o ρ' => OutP X.K P T D ρ' o, ⟨_, rfl, Nat.zero_le _, ρ0, r0, p, q⟩, ?_⟩
  rintro i n σ1 H1 ⟨rfl, hle, ρ1, r1, p1, q1⟩
  have dropS : ∀ {H ρ σ}, Rel X.K H ρ σ (S ++ T) → Rel X.K H ρ σ T := fun r => r.good fun L g => by rw [List.append_assoc] at g; exact g.dropA
  have dropX : ∀ {H ρ σ} {x : Item}, Rel X.K H ρ σ (x :: (S ++ T)) → Rel X.K H ρ σ (x :: T) := fun {H ρ σ x} r => r.good fun L g => by
    have g2 : Good X.K [] H ([x] ++ (S ++ (T ++ L))) := by
      rw [List.cons_append, List.append_assoc] at g
      exact g
    exact g2.mid
  cases e : ds[i]? with
  | none =>
    have hl : ds.length ≤ i := List.getElem?_eq_none_iff.mp e
    rw [List.drop_eq_nil_of_le hl] at q1
    exact .inl ⟨fd.stop i H1 ρ1 σ1 T r1 (Nat.le_antisymm hle hl), q1 σ1 H1 (dropS r1) p1⟩
  | some d =>
    obtain ⟨hlt, ed⟩ := List.getElem?_eq_some_iff.mp e
    obtain ⟨h1, h2⟩ := fd.go i d H1 ρ1 σ1 T r1 e
    have e2 : ds.drop i = d :: ds.drop (i + 1) := by rw [List.drop_eq_getElem_cons hlt, ed]
    rw [e2] at q1
    refine .inr ⟨h1, fun σ' H' => ∃ ρ', Rel X.K H' ρ' σ' (S ++ T) ∧ P σ' ∧ Aft W T (forL g mb (ds.drop (i + 1)) ρ') fun o ρ' => OutP X.K P T D ρ' o, fun σ' H' ⟨ρ', r', p', q'⟩ => ⟨ds.length - (i + 1), by omega, rfl, hlt, ρ', r', p', q'⟩, fun x H' hy => ?_⟩
    have r2 := h2 x H' hy
    unfold forL at q1
    cases eg : g (lv d, d) ρ1 with
    | none => rw [eg] at q1; exact q1.elim
    | some ρ2 =>
      rw [eg] at q1
      simp only at q1
      refine ⟨(lv d, d), ρ1, S ++ T, r2, p1, ρ2, eg, fun σ2 H2 r3 p3 => ⟨ρ2, S ++ T, r3, p3, ?_⟩⟩
      cases eb : mb ρ2 with
      | no => rw [eb] at q1; exact q1.elim
      | ex x ρ3 => rw [eb] at q1; exact (Aft.ups (r := R.ex x ρ3) (α := Out) (k := fun _ _ => False) q1 S)
      | ok o ρ3 =>
        rw [eb] at q1
        cases o with
        | nx => exact fun σ' H' r' p' => ⟨ρ3, r', p', q1⟩
        | ct => exact fun σ' H' r' p' => ⟨ρ3, r', p', q1⟩
        | bk => exact fun σ' H' r' p' => q1 σ' H' (dropS r') p'
        | rt x => exact fun v σ' H' r' p' => q1 v σ' H' (dropX r') p'
end

/-! ### while -/
def whL (c : M Bool) (b : M Out) : Nat → M Out
  | 0 => fun _ => .no
  | n + 1 => c.bind fun t => if t then (fun ρ => match b ρ with
      | .no => .no
      | .ex x ρ2 => .ex x ρ2
      | .ok .nx ρ2 => whL c b n ρ2
      | .ok .ct ρ2 => whL c b n ρ2
      | .ok .bk ρ2 => .ok .nx ρ2
      | .ok (.rt x) ρ2 => .ok (.rt x) ρ2) else M.ret .nx
def whN : Nat := 1099511627776
def sWh (c : M Bool) (b : M Out) : M Out := whL c b whN
section
variable {X : Cx} {W : Wish} {P : Sg → Prop} {c : Expr} {pos : Pos} {body : List Stmt} {mc : M Bool} {mb : M Out}
theorem s_while (hp : PassesOwn (model X.prog X.w) X.A X.env X.xe) (hc : PT X c (tT X.K W mc)) (hb : PSs X body (tS X.K W P mb)) : PS X (.While c body [] pos) (tS X.K W P (sWh mc mb)) := by
  refine PS.imp (ps_while hp hc hb) fun D σ H ⟨ρ, T, r, p, a⟩ => ?_
  refine ⟨fun n σ H => ∃ ρ, Rel X.K H ρ σ T ∧ P σ ∧ Aft W T (whL mc mb n ρ) fun o ρ' => OutP X.K P T D ρ' o, ⟨whN, ρ, r, p, a⟩, ?_⟩
  rintro n σ1 H1 ⟨ρ1, r1, p1, q1⟩
  cases n with
  | zero => exact q1.elim
  | succ n =>
    refine ⟨ρ1, T, r1, q1.bind.imp fun t ρ2 q2 H2 r2 => ?_⟩
    cases t with
    | false => rw [if_neg Bool.false_ne_true] at q2 ⊢; exact q2 σ1 H2 r2 p1
    | true =>
      rw [if_pos rfl] at q2 ⊢
      refine ⟨fun σ' H' => ∃ ρ', Rel X.K H' ρ' σ' T ∧ P σ' ∧ Aft W T (whL mc mb n ρ') fun o ρ' => OutP X.K P T D ρ' o, fun σ' H' h => ⟨n, Nat.lt_succ_self n, h⟩, ρ2, T, r2, p1, ?_⟩
      cases eb : mb ρ2 with
      | no => rw [eb] at q2; exact q2.elim
      | ex x ρ3 => rw [eb] at q2; exact q2
      | ok o ρ3 =>
        rw [eb] at q2
        cases o with
        | nx => exact fun σ' H' r' p' => ⟨ρ3, r', p', q2⟩
        | ct => exact fun σ' H' r' p' => ⟨ρ3, r', p', q2⟩
        | bk => exact fun σ' H' r' p' => q2 σ' H' r' p'
        | rt x => exact fun v σ' H' r' p' => q2 v σ' H' r' p'
end
end Vs
set_option Elab.async false
set_option linter.all false
set_option maxRecDepth 100000
set_option maxHeartbeats 2000000
/-! Vs6: comprehensions; what changes a list, a dict; calls. -/
namespace Vs
open PySem PySem.Spec PyProof.Rows L2

/-! ### a block's own names -/
def wipeC (ρ : Rho) : List Nat → Rho
  | [] => ρ
  | v :: vs => (wipeC ρ vs).set v .u
/-- the cells at vs as they were -/
def backC (ρ0 : Rho) (ρ : Rho) : List Nat → Rho
  | [] => ρ
  | v :: vs => match ρ0[v]? with
    | some c => backC ρ0 (ρ.set v c) vs
    | none => backC ρ0 ρ vs
section
variable {K : PySem.W.Frag} {H H' : Hp} {L : List Item} {Rs : List Addr} {ρ ρ' : Rho} {σ : Sg} {T S : List Item}
theorem wipeC_len (ρ : Rho) : ∀ vs : List Nat, (wipeC ρ vs).length = ρ.length
  | [] => rfl
  | v :: vs => by unfold wipeC; rw [List.length_set, wipeC_len ρ vs]
theorem Cells.hide (h : Cells ρ σ L) (vs : List Nat) : ∃ M L', L.Perm (M ++ L') ∧ Cells (wipeC ρ vs) (L2.wipe σ vs) L' := by
  induction vs with
  | nil => exact ⟨[], L, .refl _, h⟩
  | cons v vs ih =>
    obtain ⟨M, L', p, c⟩ := ih
    obtain ⟨M2, Lb, p2, c2⟩ := c.wipe v
    refine ⟨M ++ M2, Lb, (p.trans (by rw [List.append_assoc]; exact p2.append_left M)), ?_⟩
    show Cells ((wipeC ρ vs).set v .u) ((L2.wipe σ vs).set v none) Lb
    by_cases hv : v < (wipeC ρ vs).length
    · exact c2.free (by rw [List.getElem?_set_self hv])
    · have hs : (L2.wipe σ vs).length ≤ v := by rw [← c.len]; omega
      rw [List.set_eq_of_length_le hs]
      exact c2
/-- the frame as it was ahead of the block: every cell is forgotten that the block wiped -/
theorem Cells.unhide {σ' : Sg} (h : Cells ρ' σ' L) (hl : σ'.length = σ.length) (vs : List Nat) (hs : ∀ (j : Nat) (v : V), σ'[j]? = some (some v) → σ[j]? = some (some v)) : Cells ρ' σ L := by
  induction h generalizing σ with
  | nil => cases σ with
    | nil => exact .nil
    | cons _ _ => simp at hl
  | @u ρ σ1 L x h ih =>
    cases σ with
    | nil => simp at hl
    | cons y σ => exact .u (ih (by simpa using hl) fun j v e => by simpa using hs (j + 1) v (by simpa using e))
  | @c ρ σ1 L k d v h ih =>
    cases σ with
    | nil => simp at hl
    | cons y σ =>
      have := hs 0 v rfl
      simp at this
      subst this
      exact .c (ih (by simpa using hl) fun j v e => by simpa using hs (j + 1) v (by simpa using e))
end
/-! ### comprehensions -/
def compL (own : List Nat) (g : G) (t : M Bool) (e : M LD) : List D → Nat → List D → M LD
  | [], k, acc => M.ret (k + 1, .lst acc)
  | d :: ds, k, acc => fun ρ => match g (lv d, d) ρ with
    | none => .no
    | some ρ1 => match t ρ1 with
      | .no => .no
      | .ex _ _ => .no
      | .ok false ρ2 => compL own g t e ds k acc (wipeC ρ2 own)
      | .ok true ρ2 => match e ρ2 with
        | .no => .no
        | .ex _ _ => .no
        | .ok x ρ3 => compL own g t e ds (min k x.1) (acc ++ [x.2]) (wipeC ρ3 own)
/-- [e for g in i if t]: the block's own names must have no value outside of it -/
def comp (own : List Nat) (i : M (List D)) (g : G) (t : M Bool) (e : M LD) : M LD := i.bind fun ds ρ => if ds.length ≤ lineN ∧ own.all (fun v => match ρ[v]? with | some (.c _ d) => d.isS | _ => true) then (match compL own g t e ds 8 [] (wipeC ρ own) with
  | .ok x ρ' => .ok x (backC ρ ρ' own)
  | _ => .no) else .no
section
variable {K : PySem.W.Frag} {H H' : Hp} {L : List Item} {Rs : List Addr} {ρ ρ' : Rho} {σ : Sg} {T S : List Item}
/-- a value is put behind a list's items -/
theorem Good.push {k k1 : Nat} {d : D} {v a : V} {ds : List D} (g : Good K Rs H ((k, d, v) :: (k1 + 1, .lst ds, a) :: L)) :
    ∃ p vs, a = .ref p ∧ H p = some (.lst vs) ∧ ds.length = vs.length ∧ Good K Rs (upd H p (.lst (vs ++ [v]))) ((min k1 k + 1, .lst (ds ++ [d]), .ref p) :: L) := by
  obtain ⟨p, vs, rfl, h1, h2, g1⟩ := (g.perm (.swap _ _ _)).own_inv
  have g2 : Good K (p :: Rs) H (its (min k1 k) (ds ++ [d]) (vs ++ [v]) ++ L) := by
    refine its_both (k1 := k1) (k2 := k) h2 (Nat.min_le_left _ _) (Nat.min_le_right _ _) ?_
    exact g1
  exact ⟨p, vs, rfl, h1, h2, Good.own upd_same (by simp [h2]) (g2.wr (by rw [h1]; exact True.intro))⟩
theorem wipe_idem (σ : L2.St) : ∀ vs : List Nat, (∀ j ∈ vs, ∀ x, (wipe σ vs)[j]? ≠ some (some x)) := by
  intro vs j hj x e
  exact (wipe_some e).2 hj
theorem backC_rel {ρ0 : Rho} : ∀ (vs : List Nat) {ρ : Rho}, (∀ v ∈ vs, ∀ k d, ρ0[v]? = some (.c k d) → d.isS = true ∧ σ[v]? = some (some d.sv)) → (∀ v ∈ vs, ρ[v]? = none ∨ ρ[v]? = some .u ∨ ρ[v]? = ρ0[v]?) → Rel K H ρ σ T → Rel K H (backC ρ0 ρ vs) σ T
  | [], _, _, _, r => r
  | v :: vs, ρ, hs, hu, r => by
    unfold backC
    cases e : ρ0[v]? with
    | none => exact backC_rel vs (fun w hw => hs w (List.mem_cons_of_mem _ hw)) (fun w hw => hu w (List.mem_cons_of_mem _ hw)) r
    | some c =>
      simp only
      have key : Rel K H (ρ.set v c) σ T := by
        rcases hu v List.mem_cons_self with h | h | h
        · rw [List.set_eq_of_length_le (List.getElem?_eq_none_iff.mp h)]; exact r
        · cases c with
          | u =>
            obtain ⟨hi, e'⟩ := List.getElem?_eq_some_iff.mp h
            rw [← e', List.set_getElem_self]
            exact r
          | c k d =>
            obtain ⟨s, hv⟩ := hs v List.mem_cons_self k d e
            exact (r.scal (k := k) s).back h hv
        · rw [e] at h
          obtain ⟨hi, e'⟩ := List.getElem?_eq_some_iff.mp h
          rw [← e', List.set_getElem_self]
          exact r
      refine backC_rel vs (fun w hw => hs w (List.mem_cons_of_mem _ hw)) (fun w hw => ?_) key
      by_cases hwv : v = w
      · subst hwv
        by_cases hl : v < ρ.length
        · rw [List.getElem?_set_self hl, e]; exact .inr (.inr rfl)
        · rw [List.getElem?_eq_none (by rw [List.length_set]; omega)]; exact .inl rfl
      · rw [List.getElem?_set_ne hwv]; exact hu w (List.mem_cons_of_mem _ hw)
theorem wipeC_at : ∀ (vs : List Nat) (ρ : Rho), ∀ v ∈ vs, (wipeC ρ vs)[v]? = none ∨ (wipeC ρ vs)[v]? = some .u
  | w :: vs, ρ, v, hv => by
    show ((wipeC ρ vs).set w .u)[v]? = none ∨ _
    by_cases e : w = v
    · subst e
      by_cases hl : w < (wipeC ρ vs).length
      · right; show ((wipeC ρ vs).set w .u)[w]? = _; rw [List.getElem?_set_self hl]
      · left; rw [List.getElem?_eq_none (by rw [List.length_set]; omega)]
    · have := wipeC_at vs ρ v (by rcases List.mem_cons.mp hv with h | h; exact absurd h.symm e; exact h)
      show ((wipeC ρ vs).set w .u)[v]? = none ∨ ((wipeC ρ vs).set w .u)[v]? = some .u
      rw [List.getElem?_set_ne e]
      exact this
end
section
variable {X : Cx} {W : Wish} {tg it elt : Expr} {pos : Pos} {ifs : List Expr} {scope : Scope} {own : List (Str × Nat)} {mi : M (List D)} {g : G} {mt : M Bool} {me : M LD}
/-- within a block: the slots but for its own stand -/
def Blk (vs : List Nat) (σ0 : Sg) (σ : Sg) : Prop := wipe σ vs = wipe σ0 vs
theorem blk_stays {vs : List Nat} {σ0 : Sg} {i : Nat} (h : i ∈ vs) : Stays (Blk vs σ0) i := by
  intro σ v p
  have key : ∀ (vs : List Nat), i ∈ vs → wipe (σ.set i (some v)) vs = wipe σ vs := by
    intro vs
    induction vs with
    | nil => intro h; cases h
    | cons w vs ih =>
      intro h
      show (wipe (σ.set i (some v)) vs).set w none = (wipe σ vs).set w none
      by_cases hi : i ∈ vs
      · rw [ih hi]
      · have hw : i = w := (List.mem_cons.mp h).elim id fun z => absurd z hi
        subst hw
        have : ∀ us : List Nat, i ∉ us → wipe (σ.set i (some v)) us = (wipe σ us).set i (some v) := by
          intro us
          induction us with
          | nil => intro _; rfl
          | cons u us ih2 =>
            intro hn
            rw [List.mem_cons, not_or] at hn
            show (wipe (σ.set i (some v)) us).set u none = ((wipe σ us).set u none).set i (some v)
            rw [ih2 hn.2, List.set_comm _ _ (fun e => hn.1 e)]
        rw [this vs hi, List.set_set]
  unfold Blk at p ⊢
  rw [key vs h, p]
theorem comp_run {vs : List Nat} {σ : Sg} {H : Hp} {Q : VK} (hq : tV X.K W (comp vs mi g mt me) σ H Q) :
    tLc (tI X.K W mi) (fun v σ' H Q => tG X.K (Blk vs σ) g v σ' H Q) (tT X.K W0 mt) (tV X.K W0 me) vs σ H Q := by
  obtain ⟨ρ, T, r, a⟩ := hq
  refine ⟨ρ, T, r, a.bind.imp fun ds ρ0 q J S H0 r0 fd D hD => ?_⟩
  by_cases hz : ds.length ≤ lineN ∧ vs.all (fun v => match ρ0[v]? with | some (.c _ d) => d.isS | _ => true) = true
  · rw [if_pos hz] at q
    cases ec : compL vs g mt me ds 8 [] (wipeC ρ0 vs) with
    | no => rw [ec] at q; exact q.elim
    | ex x ρ' => rw [ec] at q; exact q.elim
    | ok x ρe =>
      rw [ec] at q
      -- the block's own cells
      obtain ⟨L0, c0, g0⟩ := r0
      obtain ⟨M, L', pm, ch⟩ := c0.hide vs
      have own0 : ∀ v ∈ vs, ∀ k d, ρ0[v]? = some (.c k d) → d.isS = true ∧ σ[v]? = some (some d.sv) := fun v hv k d e => by
        have hs := List.all_eq_true.mp hz.2 v hv
        rw [e] at hs
        obtain ⟨w, hw, kd⟩ := Rel.kd (⟨L0, c0, g0⟩ : Rel X.K H0 ρ0 σ (S ++ T)) e
        exact ⟨hs, by rw [hw, kd.isS hs]⟩
      -- the invariant
      refine ⟨fun i n H => n = ds.length - i ∧ i ≤ ds.length ∧ ∃ ρ k acc, acc.length ≤ i ∧ Rel X.K H ρ (wipe σ vs) (S ++ ((k + 1, .lst acc, .ref D) :: T)) ∧ (∀ v ∈ vs, ρ[v]? = none ∨ ρ[v]? = some .u) ∧ compL vs g mt me (ds.drop i) k acc ρ = .ok x ρe, ⟨_, rfl, Nat.zero_le _, wipeC ρ0 vs, 8, [], Nat.zero_le _, ?_, wipeC_at vs ρ0, ec⟩, ?_⟩
      · refine ⟨L', ch, ?_⟩
        have g1 : Good X.K [] H0 (S ++ (T ++ L')) := by
          have := (g0.perm ((pm.append_left (S ++ T)).trans (by
            rw [← List.append_assoc]
            exact List.perm_append_comm.append_right L'))).perm (List.perm_append_comm (l₁ := M ++ (S ++ T)) (l₂ := L'))
          have g2 : Good X.K [] H0 (M ++ (S ++ T) ++ L') := this.perm List.perm_append_comm
          rw [List.append_assoc] at g2
          have g3 := g2.dropA
          rwa [List.append_assoc] at g3
        have g2 : Good X.K [] (upd H0 D (.lst [])) ((8 + 1, .lst [], .ref D) :: (S ++ (T ++ L'))) := Good.newL (ds := []) (vs := []) g1 rfl hD
        rw [List.append_assoc]
        exact g2.perm List.perm_middle.symm
      · rintro i n H1 ⟨rfl, hle, ρ1, k, acc, hacc, r1, hu, q1⟩
        have hT : Rel X.K H1 ρ1 (wipe σ vs) (S ++ ((k + 1, .lst acc, .ref D) :: T)) := r1
        cases e : ds[i]? with
        | none =>
          have hl : ds.length ≤ i := List.getElem?_eq_none_iff.mp e
          rw [List.drop_eq_nil_of_le hl] at q1
          have sp := fd.stop i H1 ρ1 _ _ r1 (Nat.le_antisymm hle hl)
          cases q1
          refine .inl ⟨sp, ?_⟩
          refine q (.ref D) H1 ?_
          have r2 : Rel X.K H1 ρe (wipe σ vs) ((k + 1, .lst acc, .ref D) :: T) := r1.good fun L g => by rw [List.append_assoc] at g; exact g.dropA
          obtain ⟨L2, c2, g2⟩ := r2
          have r3 : Rel X.K H1 ρe σ ((k + 1, .lst acc, .ref D) :: T) := ⟨L2, c2.unhide (wipe_length _ _) vs (fun j v e => (wipe_some e).1), g2⟩
          exact backC_rel vs own0 (fun v hv => (hu v hv).elim .inl fun z => .inr (.inl z)) r3
        | some d =>
          obtain ⟨hlt, ed⟩ := List.getElem?_eq_some_iff.mp e
          obtain ⟨h1, h2⟩ := fd.go i d H1 ρ1 _ _ r1 e
          have e2 : ds.drop i = d :: ds.drop (i + 1) := by rw [List.drop_eq_getElem_cons hlt, ed]
          rw [e2] at q1
          refine .inr ⟨h1, fun H' => ∃ ρ k acc, acc.length ≤ i + 1 ∧ Rel X.K H' ρ (wipe σ vs) (S ++ ((k + 1, .lst acc, .ref D) :: T)) ∧ (∀ v ∈ vs, ρ[v]? = none ∨ ρ[v]? = some .u) ∧ compL vs g mt me (ds.drop (i + 1)) k acc ρ = .ok x ρe,
            fun H' h => ⟨ds.length - (i + 1), by omega, rfl, hlt, h⟩, fun y H' hy => ?_⟩
          have r2 := h2 y H' hy
          unfold compL at q1
          cases eg : g (lv d, d) ρ1 with
          | none => rw [eg] at q1; cases q1
          | some ρ2 =>
            rw [eg] at q1
            simp only at q1
            refine ⟨(lv d, d), ρ1, _, r2, show wipe (wipe σ vs) vs = wipe σ vs from ?_, ρ2, eg, fun σ2 H2 r3 p3 => ⟨p3, ρ2, _, r3, ?_⟩⟩
            · have key : ∀ us : List Nat, (∀ u ∈ us, u ∈ vs) → wipe (wipe σ vs) us = wipe σ vs := by
                intro us
                induction us with
                | nil => intro _; rfl
                | cons u us ih =>
                  intro hu'
                  show (wipe (wipe σ vs) us).set u none = wipe σ vs
                  rw [ih fun w hw => hu' w (List.mem_cons_of_mem _ hw)]
                  by_cases hl : u < (wipe σ vs).length
                  · have hn : (wipe σ vs)[u] = none := by
                      cases q : (wipe σ vs)[u] with
                      | none => rfl
                      | some x => exact absurd (show (wipe σ vs)[u]? = some (some x) by rw [List.getElem?_eq_getElem hl, q]) (wipe_idem σ vs u (hu' u List.mem_cons_self) x)
                    conv => rhs; rw [← List.set_getElem_self hl]
                    rw [hn]
                  · rw [List.set_eq_of_length_le (by omega)]
              exact key vs fun u h => h
            · cases et : mt ρ2 with
              | no => rw [et] at q1; cases q1
              | ex z ρ3 => rw [et] at q1; cases q1
              | ok b ρ3 =>
                rw [et] at q1
                show ∀ H', _
                intro H3 r4
                have back : ∀ {ρ : Rho} {H : Hp} {T : List Item}, Rel X.K H ρ σ2 T → Rel X.K H (wipeC ρ vs) (wipe σ vs) T := fun {ρ H T} r => by
                  obtain ⟨L, c, g⟩ := r
                  obtain ⟨M, L', pm, ch⟩ := c.hide vs
                  rw [show wipe σ2 vs = wipe σ vs from p3] at ch
                  refine ⟨L', ch, ?_⟩
                  have g1 : Good X.K [] H (M ++ (T ++ L')) := g.perm ((pm.append_left T).trans (by
                    rw [← List.append_assoc, ← List.append_assoc]
                    exact List.perm_append_comm.append_right L'))
                  exact g1.dropA
                cases b with
                | false =>
                  rw [if_neg Bool.false_ne_true]
                  exact ⟨wipeC ρ3 vs, k, acc, Nat.le_succ_of_le hacc, back r4, wipeC_at vs ρ3, q1⟩
                | true =>
                  rw [if_pos rfl]
                  refine ⟨ρ3, _, r4, ?_⟩
                  simp only at q1
                  cases ee : me ρ3 with
                  | no => rw [ee] at q1; cases q1
                  | ex z ρ4 => rw [ee] at q1; cases q1
                  | ok z ρ4 =>
                    rw [ee] at q1
                    show ∀ v H', _
                    intro v H4 r5
                    obtain ⟨L5, c5, g5⟩ := back r5
                    have g6 : Good X.K [] H4 ((z.1, z.2, v) :: (k + 1, .lst acc, .ref D) :: (S ++ T ++ L5)) := g5.perm (by
                      rw [List.cons_append, List.append_assoc, List.append_assoc, List.cons_append]
                      exact (List.perm_middle.cons _))
                    obtain ⟨p, ws, e6, h6, hl6, g7⟩ := g6.push
                    cases e6
                    refine ⟨ws, h6, by rw [← hl6, lineE]; omega, wipeC ρ4 vs, min k z.1, acc ++ [z.2], by rw [List.length_append, List.length_singleton]; omega, ⟨L5, c5, ?_⟩, wipeC_at vs ρ4, q1⟩
                    refine g7.perm ?_
                    rw [List.append_assoc, List.append_assoc, List.cons_append]
                    exact List.perm_middle.symm
  · rw [if_neg hz] at q; exact q.elim
theorem v_comp (hc : X.calm = true) (hN : X.N.Nodup) (hi : PI X tg it (tI X.K W mi)) (ok : BlkOk X.N X.env.scope scope own)
    (hg : ∀ (σ0 : Sg) (s : Shared) (H : Hp) (C : Addr) (cl : List (Str × Addr)) (fp : List Addr), PG (X.blk s H scope (compEnvC scope cl C X.env) fp) tg (tG X.K (Blk (own.map (·.2)) σ0) g))
    (ht : ∀ (s : Shared) (H : Hp) (C : Addr) (cl : List (Str × Addr)) (fp : List Addr), PTs (X.blk s H scope (compEnvC scope cl C X.env) fp) ifs (tT X.K W0 mt))
    (he : ∀ (s : Shared) (H : Hp) (C : Addr) (cl : List (Str × Addr)) (fp : List Addr), PE (X.blk s H scope (compEnvC scope cl C X.env) fp) elt (tV X.K W0 me)) (hs : ∀ x, foldedSetIterable it X.env x = pure x := by intro _; rfl) :
    PE X (.ListComp elt [⟨tg, it, ifs, 0⟩] scope pos) (tV X.K W (comp (own.map (·.2)) mi g mt me)) :=
  ⟨fun pins s σ H Q I hq => (pe_lc (te := tV X.K W0 me) (tt := tT X.K W0 mt) (g := fun v σ' H Q => tG X.K (Blk (own.map (·.2)) σ) g v σ' H Q) hc hN hi ok (fun s H C cl fp => hg σ s H C cl fp) ht he hs).run pins s σ H Q I (comp_run hq)⟩
theorem pts_no : PTs X [] (tT X.K W0 (M.ret true)) := ⟨fun pins s σ H Q I h => pts_nil.run pins s σ H Q I (let ⟨ρ, T, r, a⟩ := h; a H r)⟩
theorem pts_if {c : Expr} {m : M Bool} (h : PT X c (tT X.K W0 m)) : PTs X [c] (tT X.K W0 m) := pts_one h
end
end Vs
set_option Elab.async false
set_option linter.all false
set_option maxRecDepth 100000
set_option maxHeartbeats 2000000
/-! Vs7: what changes a list or a dict: x.append(e), x.pop(), x[i] = e; x[i].append(e), x[i][j] = e; dicts. -/
namespace Vs
open PySem PySem.Spec PyProof.Rows L2

abbrev MO := Nat → D → List LD → Option (LD × Nat × D)
/-- the rule r changes the node of d as o says -/
def MutOp (K : PySem.W.Frag) (r : V → List V → Hp → VK → Prop) (o : MO) : Prop := ∀ (Rs : List Addr) (H : Hp) (L : List Item) (k : Nat) (d : D) (xs : List LD) (v : V) (vs : List V) (z : LD) (k' : Nat) (d' : D),
  Good K Rs H ((k, d, v) :: (itemsOf xs vs ++ L)) → xs.length = vs.length → o k d xs = some (z, k', d') →
  ∃ u b ob, v = .ref b ∧ (∀ p ∈ Rs, b ≠ p) ∧ Good K Rs (upd H b ob) ((k', d', v) :: (z.1, z.2, u) :: L) ∧ ∀ Q : VK, Q u (upd H b ob) → r v vs H Q
section
variable {K : PySem.W.Frag} {H H' : Hp} {L : List Item} {Rs : List Addr}
theorem nodup_res {b : Addr} (g : Good K (b :: Rs) H L) : ∀ p ∈ Rs, b ≠ p := by
  obtain ⟨F, G, r, nd, dj, hr⟩ := g
  intro p hp e
  subst e
  exact (List.nodup_cons.mp nd).1 (List.mem_append_left _ hp)
def moAppend : MO := fun k d xs => match k, d, xs with
  | k + 1, .lst ds, [x] => if ds.length < lineN then some ((9, .non), min k x.1 + 1, .lst (ds ++ [x.2])) else none
  | _, _, _ => none
theorem m_append : MutOp K rAppend moAppend := by
  intro Rs H L k d xs v vs z k' d' g hl e
  unfold moAppend at e
  split at e
  · rename_i k ds x
    by_cases hz : ds.length < lineN
    · rw [if_pos hz] at e
      cases e
      match vs, hl with
      | [w], _ =>
        have g1 : Good K Rs H ((x.1, x.2, w) :: (k + 1, .lst ds, v) :: L) := g.perm (.swap _ _ _)
        obtain ⟨p, ws, rfl, h1, h2, g2⟩ := g1.push
        have nd := nodup_res ((g1.perm (.swap _ _ _)).own_inv.choose_spec.choose_spec.2.2.2)
        obtain ⟨p', ws', e1, _, _, g3⟩ := (g1.perm (.swap _ _ _)).own_inv
        cases e1
        exact ⟨.non, p, _, rfl, nodup_res g3, (g2.non (k := 9)).perm (.swap _ _ _), fun Q q => ⟨p, ws, w, rfl, rfl, h1, by rw [lineE, ← h2]; exact hz, q⟩⟩
    · rw [if_neg hz] at e; cases e
  · cases e
def moExtend : MO := fun k d xs => match k, d, xs with
  | k + 1, .lst ds, [x] => match x.2 with
    | .lst es => if ds.length + es.length ≤ lineN then some ((9, .non), min k (x.1 - 1) + 1, .lst (ds ++ es)) else none
    | _ => none
  | _, _, _ => none
theorem m_extend : MutOp K rExtend moExtend := by
  intro Rs H L k d xs v vs z k' d' g hl e
  unfold moExtend at e
  split at e
  · rename_i k ds x
    split at e
    · rename_i es hx
      by_cases hz : ds.length + es.length ≤ lineN
      · rw [if_pos hz] at e
        cases e
        match vs, hl with
        | [w], _ =>
          have g1 : Good K Rs H ((k + 1, .lst ds, v) :: (x.1, .lst es, w) :: L) := by
            have : Good K Rs H ((k + 1, .lst ds, v) :: (x.1, x.2, w) :: L) := g
            rwa [hx] at this
          obtain ⟨p, ws, rfl, h1, h2, g2⟩ := g1.own_inv
          have g3 : Good K (p :: Rs) H ((x.1, .lst es, w) :: (its k ds ws ++ L)) := g2.perm List.perm_middle
          obtain ⟨p2, us, rfl, h3, h4, g4⟩ := g3.lst_inv
          have g5 : Good K (p :: Rs) H (its k ds ws ++ (its (x.1 - 1) es us ++ L)) := g4.perm (by
            rw [← List.append_assoc, ← List.append_assoc]
            exact List.perm_append_comm.append_right L)
          have g6 := its_both h2 (Nat.min_le_left k (x.1 - 1)) (Nat.min_le_right k (x.1 - 1)) g5
          refine ⟨.non, p, .lst (ws ++ us), rfl, nodup_res g2, ?_, fun Q q => ⟨p, p2, ws, us, rfl, rfl, h1, h3, by rw [lineE, ← h2, ← h4]; exact hz, q⟩⟩
          exact ((Good.own upd_same (by simp [h2, h4]) (g6.wr (by rw [h1]; exact True.intro))).non (k := 9)).perm (.swap _ _ _)
      · rw [if_neg hz] at e; cases e
    · cases e
  · cases e
def moPop : MO := fun k d xs => match k, d, xs with
  | k + 1, .lst ds, [] => match ds[ds.length - 1]? with
    | some y => some ((if y.isS then 9 else k, y), k + 1, .lst ds.dropLast)
    | none => none
  | _, _, _ => none
theorem its_last {k : Nat} {ds : List D} {ws : List V} {y : D} {u : V} (hl : ds.length = ws.length) (h1 : ds[ds.length - 1]? = some y) (h2 : ws[ws.length - 1]? = some u) : its k ds ws = its k ds.dropLast ws.dropLast ++ [(k, y, u)] := by
  have e1 : ds = ds.dropLast ++ [y] := by
    have hne : ds ≠ [] := by rintro rfl; simp at h1
    conv => lhs; rw [← List.dropLast_concat_getLast hne]
    congr 2
    rw [List.getLast_eq_getElem]
    obtain ⟨_, e⟩ := List.getElem?_eq_some_iff.mp h1
    exact e
  have e2 : ws = ws.dropLast ++ [u] := by
    have hne : ws ≠ [] := by rintro rfl; simp at h2
    conv => lhs; rw [← List.dropLast_concat_getLast hne]
    congr 2
    rw [List.getLast_eq_getElem]
    obtain ⟨_, e⟩ := List.getElem?_eq_some_iff.mp h2
    exact e
  conv => lhs; rw [e1, e2]
  rw [its_append (by simp [hl])]
  rfl
theorem m_pop : MutOp K rPop moPop := by
  intro Rs H L k d xs v vs z k' d' g hl e
  unfold moPop at e
  split at e
  · rename_i k ds
    cases hy : ds[ds.length - 1]? with
    | none => rw [hy] at e; cases e
    | some y =>
      rw [hy] at e
      cases e
      match vs, hl with
      | [], _ =>
        have g1 : Good K Rs H ((k + 1, .lst ds, v) :: L) := g
        obtain ⟨p, ws, rfl, h1, h2, g2⟩ := g1.own_inv
        obtain ⟨hlt, _⟩ := List.getElem?_eq_some_iff.mp hy
        have hw : ws[ws.length - 1]? = some ws[ws.length - 1] := List.getElem?_eq_getElem (by omega)
        rw [its_last h2 hy hw, List.append_assoc] at g2
        have g3 : Good K (p :: Rs) H ((k, y, ws[ws.length - 1]) :: (its k ds.dropLast ws.dropLast ++ L)) := g2.perm List.perm_middle
        have g4 := g3.lift.perm (List.perm_middle (l₁ := its k ds.dropLast ws.dropLast)).symm
        refine ⟨_, p, .lst ws.dropLast, rfl, nodup_res g2, ?_, fun Q q => ⟨p, ws, _, rfl, rfl, h1, hw, q⟩⟩
        exact Good.own upd_same (by simp [h2]) (g4.wr (by rw [h1]; exact True.intro))
  · cases e
/-- a place of a row -/
theorem its_at {k : Nat} : ∀ {ds : List D} {ws : List V} {j : Nat} {y : D} {u : V}, ds.length = ws.length → ds[j]? = some y → ws[j]? = some u → (its k ds ws).Perm ((k, y, u) :: its k (ds.eraseIdx j) (ws.eraseIdx j))
  | [], _, _, _, _, _, h, _ => by simp at h
  | _ :: _, [], _, _, _, h, _, _ => by simp at h
  | d :: ds, w :: ws, 0, y, u, _, h1, h2 => by
    simp at h1 h2
    subst h1 h2
    exact .refl _
  | d :: ds, w :: ws, j + 1, y, u, hl, h1, h2 => by
    have := its_at (k := k) (j := j) (by simpa using hl) (by simpa using h1) (by simpa using h2)
    exact (this.cons _).trans (.swap _ _ _)
theorem its_set {k : Nat} : ∀ {ds : List D} {ws : List V} {j : Nat} {y : D} {u : V}, ds.length = ws.length → j < ds.length → ((k, y, u) :: its k (ds.eraseIdx j) (ws.eraseIdx j)).Perm (its k (ds.set j y) (ws.set j u))
  | [], _, _, _, _, _, h => by simp at h
  | _ :: _, [], _, _, _, h, _ => by simp at h
  | d :: ds, w :: ws, 0, y, u, _, _ => .refl _
  | d :: ds, w :: ws, j + 1, y, u, hl, h => by
    have := its_set (k := k) (j := j) (y := y) (u := u) (by simpa using hl) (by simpa using h)
    exact (List.Perm.swap _ _ _).trans (this.cons _)
def moPopAt : MO := fun k d xs => match k, d, xs with
  | k + 1, .lst ds, [x] => match x.2 with
    | .int i => match ixN ds.length i with
      | some j => match ds[j]? with
        | some y => if ds.length ≤ lineN then some ((if y.isS then 9 else k, y), k + 1, .lst (ds.eraseIdx j)) else none
        | none => none
      | none => none
    | _ => none
  | _, _, _ => none
theorem m_popAt : MutOp K rPopAt moPopAt := by
  intro Rs H L k d xs v vs z k' d' g hl e
  unfold moPopAt at e
  split at e
  · rename_i k ds x
    split at e
    · rename_i i hx
      cases hj : ixN ds.length i with
      | none => rw [hj] at e; cases e
      | some j =>
        rw [hj] at e
        simp only at e
        cases hy : ds[j]? with
        | none => rw [hy] at e; cases e
        | some y =>
          rw [hy] at e
          simp only at e
          by_cases hz : ds.length ≤ lineN
          · rw [if_pos hz] at e
            cases e
            match vs, hl with
            | [w], _ =>
              have g1 : Good K Rs H ((k + 1, .lst ds, v) :: (x.1, x.2, w) :: L) := g
              rw [hx] at g1
              have ew : w = .int i := (g1.perm (.swap _ _ _)).kd.int
              subst ew
              obtain ⟨p, ws, rfl, h1, h2, g2⟩ := (g1.perm (.swap _ _ _)).tail.own_inv
              obtain ⟨hlt, _⟩ := List.getElem?_eq_some_iff.mp hy
              have hw : ws[j]? = some (ws[j]'(by omega)) := List.getElem?_eq_getElem (by omega)
              have g3 := g2.perm ((its_at h2 hy hw).append_right L)
              obtain ⟨i1, i2, i3, i4⟩ := ixN_seq hj
              have g4 : Good K (p :: Rs) H (its k (ds.eraseIdx j) (ws.eraseIdx j) ++ ((if y.isS then 9 else k, y, ws[j]'(by omega)) :: L)) := (Good.lift (L := its k (ds.eraseIdx j) (ws.eraseIdx j) ++ L) g3).perm List.perm_middle.symm
              refine ⟨_, p, .lst (ws.eraseIdx j), rfl, nodup_res g2, ?_, fun Q q => ⟨p, ws, i, j, _, rfl, rfl, h1, by have e9 : lineN = 16777216 := rfl; omega, by have e9 : lineN = 16777216 := rfl; omega, by rw [← h2]; exact i1, hw, q⟩⟩
              exact Good.own upd_same (by rw [List.length_eraseIdx, List.length_eraseIdx, h2]) (g4.wr (by rw [h1]; exact True.intro))
          · rw [if_neg hz] at e; cases e
    · cases e
  · cases e
/-- x[i] = e, as a change -/
def moSet (i : Int) : MO := fun k d xs => match k, d, xs with
  | k + 1, .lst ds, [x] => match ixN ds.length i with
    | some j => some ((9, .non), min k x.1 + 1, .lst (ds.set j x.2))
    | none => none
  | _, _, _ => none
theorem m_set {i : Int} : MutOp K (fun o vs H Q => ∃ v, vs = [v] ∧ rSetL o (.int i) v H fun H' => Q .non H') (moSet i) := by
  intro Rs H L k d xs v vs z k' d' g hl e
  unfold moSet at e
  split at e
  · rename_i k ds x
    cases hj : ixN ds.length i with
    | none => rw [hj] at e; cases e
    | some j =>
      rw [hj] at e
      cases e
      match vs, hl with
      | [w], _ =>
        have g1 : Good K Rs H ((k + 1, .lst ds, v) :: (x.1, x.2, w) :: L) := g
        obtain ⟨p, ws, rfl, h1, h2, g2⟩ := g1.own_inv
        obtain ⟨i1, i2, i3, i4⟩ := ixN_seq hj
        have hy : ds[j]? = some ds[j] := List.getElem?_eq_getElem i2
        have hw : ws[j]? = some (ws[j]'(by omega)) := List.getElem?_eq_getElem (by omega)
        have g3 := (g2.perm ((its_at h2 hy hw).append_right _)).tail
        have g4 : Good K (p :: Rs) H ((x.1, x.2, w) :: (its k (ds.eraseIdx j) (ws.eraseIdx j) ++ L)) := g3.perm List.perm_middle
        have g5 : Good K (p :: Rs) H ((min k x.1, x.2, w) :: (its (min k x.1) (ds.eraseIdx j) (ws.eraseIdx j) ++ L)) :=
          g4.weak (.cons (Nat.min_le_right _ _) (Wk.append (Wk.its (Nat.min_le_left _ _) _ _) (Wk.refl L)))
        have g6 : Good K (p :: Rs) H (its (min k x.1) (ds.set j x.2) (ws.set j w) ++ L) := g5.perm ((its_set (k := min k x.1) (y := x.2) (u := w) h2 i2).append_right L)
        refine ⟨.non, p, .lst (ws.set j w), rfl, nodup_res g2, ?_, fun Q q => ⟨w, rfl, p, ws, i, j, rfl, rfl, h1, by rw [← h2]; exact hj, q⟩⟩
        exact ((Good.own upd_same (by simp [h2]) (g6.wr (by rw [h1]; exact True.intro))).non (k := 9)).perm (.swap _ _ _)
  · cases e
end

/-! ### on a name's own content -/
def isLst : D → Bool
  | .lst _ => true
  | _ => false
def mut1 (j : Nat) (o : MO) (ma : M (List LD)) : M LD := fun ρ => match ρ[j]? with
  | some (.c _ (.lst _)) => M.bind ma (fun xs ρ1 => match ρ1[j]? with
    | some (.c k d) => match o k d xs with
      | some (z, k', d') => .ok z (ρ1.set j (.c k' d'))
      | none => .no
    | _ => .no) ρ
  | _ => .no
section
variable {X : Cx} {W : Wish} {P : Sg → Prop} {e : Expr} {es : List Expr} {pos : Pos} {x name : Str} {p1 apos cpos : Pos} {j : Nat} {id : String} {r : V → List V → Hp → VK → Prop} {o : MO} {ma : M (List LD)}
theorem mut_run (ho : MutOp X.K r o) {σ : Sg} {T : List Item} {ρ1 : Rho} {H1 : Hp} {xs : List LD} {vs : List V} {v : V} {Q : VK} (hv : σ[j]? = some (some v)) (hl : xs.length = vs.length) (r1 : Rel X.K H1 ρ1 σ (itemsOf xs vs ++ T))
    (q : Aft W T (match ρ1[j]? with | some (.c k d) => (match o k d xs with | some (z, k', d') => R.ok z (ρ1.set j (.c k' d')) | none => R.no) | _ => R.no) fun z ρ' => ∀ u H', Rel X.K H' ρ' σ ((z.1, z.2, u) :: T) → Q u H') : r v vs H1 Q := by
  cases e1 : ρ1[j]? with
  | none => rw [e1] at q; exact q.elim
  | some c =>
    cases c with
    | u => rw [e1] at q; exact q.elim
    | c k d =>
      rw [e1] at q
      simp only at q
      cases e2 : o k d xs with
      | none => rw [e2] at q; exact q.elim
      | some zz =>
        obtain ⟨z, k', d'⟩ := zz
        rw [e2] at q
        obtain ⟨L, c, g⟩ := r1.move2 e1 hv
        have g' : Good X.K [] H1 ((k, d, v) :: (itemsOf xs vs ++ (T ++ L))) := by
          rw [List.cons_append, List.append_assoc] at g
          exact g
        obtain ⟨u, b, ob, rfl, _, g2, f⟩ := ho [] H1 (T ++ L) k d xs v vs z k' d' g' hl e2
        refine f Q (q u _ ?_)
        have r2 : Rel X.K (upd H1 b ob) (ρ1.set j .u) σ ((k', d', .ref b) :: (z.1, z.2, u) :: T) := ⟨L, c, g2⟩
        have r3 := r2.back (getElem?_set_u e1) hv
        rwa [set_set_c] at r3
theorem v_mut1 (slot : Slot "list" name id) (hty : typeOf (.builtin id) = pure (.type "method_descriptor")) (hm : MtR X id r) (ho : MutOp X.K r o) (hn : PE X (.Name x p1) (tVar j)) (ha : PA X (e :: es) (tVs X.K W ma))
    (hbase : attributeBase (.Name x p1) name X.env (eval (.Name x p1) X.env) = eval (.Name x p1) X.env := by rfl)
    (hfew : ((backTo cpos (starEach (e :: es) X.env)).all (fun x => !x.1) && (backToKw cpos (keywordEach [] X.env)).all (fun x => x.1.isSome)
      && decide ((e :: es).length + ([] : List Keyword).length + (if ([] : List Keyword).isEmpty then 0 else 1) < 30)) = true := by rfl)
    (hline : (apos.endLine == cpos.line) = true := by rfl) (hs : starEach (e :: es) X.env = (false, eval e X.env) :: starEach es X.env := by rfl) (hplain : (backTo cpos (starEach es X.env)).any (·.1) = false := by rfl) :
    PE X (.Call (.Attribute (.Name x p1) name apos) (e :: es) [] cpos) (tV X.K W (mut1 j o ma)) := by
  refine PE.imp (pe_bm PySem.F.plainAttrs_list slot hty hm hn ha hbase hfew hline hs hplain) fun σ H Q ⟨ρ, T, rel, a⟩ => ?_
  unfold mut1 at a
  split at a
  · rename_i k0 ds0 q
    obtain ⟨v, hv, kd⟩ := rel.kd q
    obtain ⟨p, ws, rfl, h1, _⟩ := kd.lst
    refine ⟨.ref p, hv, .inl ⟨rfl, ws, SqL.of h1⟩, ρ, T, rel, a.bind.imp fun xs ρ1 q1 vs H1 hl r1 => ?_⟩
    exact mut_run ho hv hl r1 q1
  · exact a.elim
theorem v_mut0 (slot : Slot "list" name id) (hty : typeOf (.builtin id) = pure (.type "method_descriptor")) (hm : MtR X id r) (ho : MutOp X.K r o) (hn : PE X (.Name x p1) (tVar j))
    (hbase : attributeBase (.Name x p1) name X.env (eval (.Name x p1) X.env) = eval (.Name x p1) X.env := by rfl) (hline : (apos.endLine == cpos.line) = true := by rfl) :
    PE X (.Call (.Attribute (.Name x p1) name apos) [] [] cpos) (tV X.K W (mut1 j o noVs)) := by
  refine PE.imp (pe_bm0 PySem.F.plainAttrs_list slot hty hm hn hbase hline) fun σ H Q ⟨ρ, T, rel, a⟩ => ?_
  unfold mut1 at a
  split at a
  · rename_i k0 ds0 q
    obtain ⟨v, hv, kd⟩ := rel.kd q
    obtain ⟨p, ws, rfl, h1, _⟩ := kd.lst
    refine ⟨.ref p, hv, .inl ⟨rfl, ws, SqL.of h1⟩, ?_⟩
    exact mut_run (xs := []) (vs := []) ho hv rfl rel a
  · exact a.elim
/-- x[i] = .., as a target -/
def gSub (j : Nat) (mi : M LD) : G := fun y ρ => match ρ[j]? with
  | some (.c _ _) => match mi ρ with
    | .ok (_, .int i) ρ1 => match ρ1[j]? with
      | some (.c k d) => (moSet i k d [y]).map fun z => ρ1.set j (.c z.2.1 z.2.2)
      | _ => none
    | _ => none
  | _ => none
theorem g_sub {ei : Expr} {mi : M LD} (hn : PE X (.Name x p1) (tVar j)) (hi : PE X ei (tV X.K W0 mi))
    (ha : ∀ v, assign (.Subscript (.Name x p1) ei pos) X.env v = (do
      let ov ← holding [v] (eval (.Name x p1) X.env)
      let iv ← holding [v, ov] (eval ei X.env)
      standAt pos
      holding [v, ov, iv] (setItem ov iv v)
      release [v, ov, iv] []) := by intro _; rfl) : PG X (.Subscript (.Name x p1) ei pos) (tG X.K P (gSub j mi)) := by
  refine PG.imp (pg_sub hn hi set_list ha) fun v σ H Q ⟨y, ρ, T, r, p, ρ', e, q⟩ => ?_
  unfold gSub at e
  split at e
  · rename_i k0 d0 q0
    obtain ⟨w, hw, _⟩ := r.kd q0
    refine ⟨w, hw, ρ, _, r, ?_⟩
    cases em : mi ρ with
    | no => rw [em] at e; cases e
    | ex _ _ => rw [em] at e; cases e
    | ok z ρ1 =>
      obtain ⟨kz, dz⟩ := z
      rw [em] at e
      cases dz with
      | int i =>
        simp only at e
        show ∀ v H', _
        intro u H1 r1
        obtain rfl := r1.top.int
        cases e1 : ρ1[j]? with
        | none => rw [e1] at e; cases e
        | some c =>
          cases c with
          | u => rw [e1] at e; cases e
          | c k d =>
            rw [e1] at e
            simp only at e
            cases e2 : moSet i k d [y] with
            | none => rw [e2] at e; cases e
            | some zz =>
              obtain ⟨z, k', d'⟩ := zz
              rw [e2] at e
              cases e
              obtain ⟨L, c, g⟩ := r1.drop.move2 e1 hw
              obtain ⟨u2, b, ob, rfl, _, g2, f⟩ := m_set (i := i) [] H1 (T ++ L) k d [y] w [v] z k' d' g rfl e2
              obtain ⟨v', ev, hset⟩ := f (fun _ H' => Q σ H') (q σ _ (by
                have r2 : Rel X.K (upd H1 b ob) (ρ1.set j .u) σ ((k', d', .ref b) :: T) := ⟨L, c, (g2.perm (.swap _ _ _)).tail⟩
                have r3 := r2.back (getElem?_set_u e1) hw
                rwa [set_set_c] at r3) p)
              cases ev
              exact hset
      | _ => cases e
  · cases e
end
end Vs
set_option Elab.async false
set_option linter.all false
set_option maxRecDepth 100000
set_option maxHeartbeats 2000000
/-! Vs8: calls: what a def of the text does to values (FnG), and the call of one (by place, by names). -/
namespace Vs
open PySem PySem.Spec PyProof.Rows L2

/-! ### a def's body on values -/
def fnRun (n : Nat) (b : M Out) (xs : List LD) : R LD := match b (xs.map (fun x => Cell.c x.1 x.2) ++ List.replicate (n - xs.length) Cell.u) with
  | .ok (.rt z) ρ => .ok z ρ
  | .ok .nx ρ => .ok (9, .non) ρ
  | _ => .no
/-- what lies in the cells io, with the values vs -/
def ioIt : Rho → List V → List Nat → List Item
  | _, _, [] => []
  | ρ, vs, j :: io => (match ρ[j]?, vs[j]? with
    | some (.c k d), some v => [(k, d, v)]
    | _, _ => []) ++ ioIt (ρ.set j .u) vs io
/-- the arguments are taken out of the names -/
def takeA : Rho → List Ar → Option (List LD × Rho)
  | ρ, [] => some ([], ρ)
  | ρ, .val x :: as => (takeA ρ as).map fun y => (x :: y.1, y.2)
  | ρ, .view i :: as => match ρ[i]? with
    | some (.c k d) => if d.isS then (takeA ρ as).map fun y => ((9, d) :: y.1, y.2) else (takeA (ρ.set i .u) as).map fun y => ((k, d) :: y.1, y.2)
    | _ => none
/-- behind a call: what lies in the callee's cells io comes back to the names -/
def backA (as : List Ar) : Rho → Rho → List Nat → Option Rho
  | ρ, _, [] => some ρ
  | ρ, ρc, j :: io => match as[j]?, ρc[j]? with
    | some (.view i), some (.c k d) => match ρ[i]? with
      | some .u => backA as (ρ.set i (.c k d)) (ρc.set j .u) io
      | _ => none
    | _, _ => backA as ρ (ρc.set j .u) io
def callV (F : List LD → R LD) (io : List Nat) (m : M (List Ar)) : M LD := m.bind fun as ρ => match takeA ρ as with
  | none => .no
  | some (xs, ρ1) => match F xs with
    | .ok z ρc => match backA as ρ1 ρc io with
      | some ρ2 => .ok z ρ2
      | none => .no
    | _ => .no
section
variable {K : PySem.W.Frag} {H H' : Hp} {L : List Item} {Rs : List Addr} {ρ ρ' : Rho} {σ : Sg} {T S : List Item}
theorem cells_start : ∀ {xs : List LD} {vs : List V} (n : Nat), xs.length = vs.length → Cells (xs.map (fun x => Cell.c x.1 x.2) ++ List.replicate n Cell.u) (vs.map some ++ List.replicate n none) (itemsOf xs vs)
  | [], [], n, _ => by
    induction n with
    | zero => exact .nil
    | succ n ih => exact .u ih
  | x :: xs, v :: vs, n, h => .c (cells_start n (by simpa using h))
  | [], _ :: _, _, h => by simp at h
  | _ :: _, [], _, h => by simp at h
theorem io_out {vs : List V} : ∀ (io : List Nat) {ρ : Rho} {σ : Sg} {L : List Item}, Cells ρ σ L → (∀ j ∈ io, ∀ v, vs[j]? = some v → σ[j]? = some (some v)) → ∃ M, L.Perm (ioIt ρ vs io ++ M)
  | [], _, _, L, _, _ => ⟨L, .refl _⟩
  | j :: io, ρ, σ, L, c, h => by
    have h2 : ∀ i ∈ io, ∀ v, vs[i]? = some v → σ[i]? = some (some v) := fun i hi => h i (List.mem_cons_of_mem _ hi)
    unfold ioIt
    cases e : ρ[j]? with
    | none =>
      rw [List.set_eq_of_length_le (List.getElem?_eq_none_iff.mp e)]
      exact io_out io c h2
    | some x =>
      cases x with
      | u =>
        obtain ⟨hi, e'⟩ := List.getElem?_eq_some_iff.mp e
        have : ρ.set j .u = ρ := by
          conv => rhs; rw [← List.set_getElem_self hi]
          rw [e']
        rw [this]
        exact io_out io c h2
      | c k d =>
        obtain ⟨v, L', h3, p, c'⟩ := c.take e
        obtain ⟨M, pm⟩ := io_out io c' h2
        cases ev : vs[j]? with
        | none => exact ⟨(k, d, v) :: M, p.trans ((pm.cons _).trans List.perm_middle.symm)⟩
        | some w =>
          have := h j List.mem_cons_self w ev
          rw [h3] at this
          cases this
          exact ⟨M, p.trans (pm.cons _)⟩
theorem take_rel {as : List Ar} : ∀ {ρ : Rho} {vs : List V} {T : List Item} {xs : List LD} {ρ1 : Rho}, Rel K H ρ σ (tmps as vs ++ T) → Paired (Ar.at σ) as vs → takeA ρ as = some (xs, ρ1) → xs.length = vs.length ∧ Rel K H ρ1 σ (itemsOf xs vs ++ T) := by
  induction as with
  | nil =>
    intro ρ vs T xs ρ1 r p e
    cases p
    cases e
    exact ⟨rfl, r⟩
  | cons a as ih =>
    intro ρ vs T xs ρ1 r p e
    cases p with
    | @cons _ v _ vs p1 p2 =>
      cases a with
      | val x =>
        have e' : (takeA ρ as).map (fun y => (x :: y.1, y.2)) = some (xs, ρ1) := e
        cases q : takeA ρ as with
        | none => rw [q] at e'; cases e'
        | some y =>
          obtain ⟨ys, ρ2⟩ := y
          rw [q] at e'
          cases e'
          have r' : Rel K H ρ σ (tmps as vs ++ ((x.1, x.2, v) :: T)) := r.good fun L g => g.perm (by
            show ((x.1, x.2, v) :: (tmps as vs ++ T) ++ L).Perm (tmps as vs ++ ((x.1, x.2, v) :: T) ++ L)
            exact (List.perm_middle.symm).append_right L)
          obtain ⟨l, r2⟩ := ih r' p2 q
          exact ⟨by simp [l], r2.good fun L g => g.perm (List.perm_middle.append_right L)⟩
      | view i =>
        have e' : (match ρ[i]? with
          | some (.c k d) => if d.isS then (takeA ρ as).map (fun y => ((9, d) :: y.1, y.2)) else (takeA (ρ.set i .u) as).map (fun y => ((k, d) :: y.1, y.2))
          | _ => none) = some (xs, ρ1) := e
        cases q : ρ[i]? with
        | none => rw [q] at e'; cases e'
        | some c =>
          cases c with
          | u => rw [q] at e'; cases e'
          | c k d =>
            rw [q] at e'
            simp only at e'
            have hv : σ[i]? = some (some v) := p1
            by_cases s : d.isS = true
            · rw [if_pos s] at e'
              cases q2 : takeA ρ as with
              | none => rw [q2] at e'; cases e'
              | some y =>
                obtain ⟨ys, ρ2⟩ := y
                rw [q2] at e'
                cases e'
                obtain ⟨l, r2⟩ := ih r p2 q2
                obtain ⟨w, hw, kd⟩ := r.kd q
                rw [hv] at hw
                cases hw
                obtain rfl := kd.isS s
                exact ⟨by simp [l], r2.scal s⟩
            · rw [if_neg s] at e'
              cases q2 : takeA (ρ.set i .u) as with
              | none => rw [q2] at e'; cases e'
              | some y =>
                obtain ⟨ys, ρ2⟩ := y
                rw [q2] at e'
                cases e'
                have r1 := r.move2 q hv
                have r' : Rel K H (ρ.set i .u) σ (tmps as vs ++ ((k, d, v) :: T)) := r1.good fun L g => g.perm ((List.perm_middle.symm).append_right L)
                obtain ⟨l, r2⟩ := ih r' p2 q2
                exact ⟨by simp [l], r2.good fun L g => g.perm (List.perm_middle.append_right L)⟩
theorem back_rel {as : List Ar} {vs : List V} (hp : Paired (Ar.at σ) as vs) : ∀ (io : List Nat) {ρ ρc ρ2 : Rho} {T : List Item}, Rel K H ρ σ (ioIt ρc vs io ++ T) → backA as ρ ρc io = some ρ2 → Rel K H ρ2 σ T
  | [], ρ, ρc, ρ2, T, r, e => by cases e; exact r
  | j :: io, ρ, ρc, ρ2, T, r, e => by
    unfold backA at e
    unfold ioIt at r
    have dr : ∀ {M : List Item}, Rel K H ρ σ (M ++ ioIt (ρc.set j .u) vs io ++ T) → Rel K H ρ σ (ioIt (ρc.set j .u) vs io ++ T) := fun r => r.good fun L g => by
      rw [List.append_assoc, List.append_assoc] at g
      rw [List.append_assoc]
      exact g.dropA
    split at e
    · rename_i i k d ea ec
      split at e
      · rename_i eu
        have hv : ∃ v, vs[j]? = some v ∧ σ[i]? = some (some v) := by
          have key : ∀ {as : List Ar} {vs : List V} {j : Nat}, Paired (Ar.at σ) as vs → as[j]? = some (.view i) → ∃ v, vs[j]? = some v ∧ σ[i]? = some (some v) := by
            intro as vs j p
            induction p generalizing j with
            | nil => intro h; simp at h
            | @cons a v as vs h1 _ ih =>
              intro h
              cases j with
              | zero =>
                simp at h
                subst h
                exact ⟨v, rfl, h1⟩
              | succ j => exact ih (by simpa using h)
          exact key hp ea
        obtain ⟨v, h1, h2⟩ := hv
        rw [ec, h1] at r
        have r1 : Rel K H ρ σ ((k, d, v) :: (ioIt (ρc.set j .u) vs io ++ T)) := r
        exact back_rel hp io (r1.back eu h2) e
      · cases e
    · exact back_rel hp io (dr r) e
end

/-! ### a def of the text -/
/-- the def at f, on values: what F says of the arguments comes back, and what lies in the parameters io -/
structure FnG (P : Program) (w : World) (K : PySem.W.Frag) (mg : Str → Option Value) (base : Heap) (k : Nat) (f : Addr) (fd : FuncData) (ps : List Str) (io : List Nat) (F : List LD → R LD) : Prop where
  run : ∀ (A : Around) (outer : List Env) (s : Shared) (H : Hp) (args : Args) (us : List Value) (vs : List V) (xs : List LD) (T : List Item) (Q : VK), Room k A → A.guards = some [] → Env0 P w K mg base A outer s H →
    us.length = ps.length → BindsTo s fd args (ps.zip us) → Vals vs us → xs.length = vs.length → Good K [] H (itemsOf xs vs ++ T) →
    (∃ z ρc, F xs = .ok z ρc ∧ ∀ v H', Good K [] H' ((z.1, z.2, v) :: (ioIt ρc vs io ++ T)) → Q v H') →
    codeAny (model P w) A (.call (.ref f) args) (CR CX0 outer P w H s Q E0) s
theorem FnG.mono {P : Program} {w : World} {K : PySem.W.Frag} {mg : Str → Option Value} {base : Heap} {j k : Nat} {f : Addr} {fd : FuncData} {ps : List Str} {io : List Nat} {F : List LD → R LD} (G : FnG P w K mg base j f fd ps io F) (h : j ≤ k) :
    FnG P w K mg base k f fd ps io F := ⟨fun A outer s H args us vs xs T Q hr => G.run A outer s H args us vs xs T Q (hr.mono h)⟩
section
variable {P : Program} {w : World} {K : PySem.W.Frag} {mg : Str → Option Value} {base : Heap}
/-- THE RULE: a def, by its body on values -/
theorem fnG_of {x qual : Str} {st : Stmt} {f : Addr} {fd : FuncData} {N ps : List Str} {k : Nat} {io : List Nat} {b : M Out} (F : Fun K x qual st f fd) (S : FnScope N ps (defScope st))
    (hbody : ∀ (σ0 : Sg) (cdv : Value) (A : Around) (outer : List Env) (s : Shared) (H : Hp), Room k (A.deeper (envOfC qual (defScope st) s.heap.objs.size f cdv)) → (A.deeper (envOfC qual (defScope st) s.heap.objs.size f cdv)).guards = some [] →
      PSs (cxOf CX0 P w K mg base N qual (defScope st) f cdv A outer s H E0).nox (defBody st) (tS K W0 (Pin io σ0) b)) : FnG P w K mg base (k + 1) f fd ps io (fnRun N.length b) := by
  obtain ⟨oc, od, kV, doc, pm, an, cdv, ct, osl, rfl, lk, hcd⟩ := F.ex
  refine ⟨fun A outer s H args us vs xs T Q hr hgd e0 hus hb rv hl g hF => ?_⟩
  have hA : (A.deeper (envOfC qual (defScope st) s.heap.objs.size f cdv)).guards = some [] := hgd
  have HB := hbody (start N vs) cdv A outer s H (hr.deeper _) hA
  have hvs : vs.length = ps.length := by rw [rv.length, hus]
  have kx : K.In s.heap := e0.mod.kin.keeps fun b o e => (e0.bs b o e).1
  have lim : s.heap.NoLimit := e0.mod.nolimit.keeps fun b o e => (e0.bs b o e).1
  have pk : ∀ y ∈ ps.zip us, (defScope st).names.lookup y.1 = some .local ∨ ((defScope st).names.lookup y.1 = some .cell ∧ ((cellsFrom (s.heap.objs.size + 1) (defScope st).names []).lookup y.1).isSome = true) := by
    rintro ⟨n, v⟩ hy
    exact (S.par n (List.of_mem_zip hy).1).elim .inl fun q => .inr ⟨q, PySem.W.cellsFrom_some _ _ _ (.inl q)⟩
  refine codeAny_call_function hr.depth (kx _ _ lk) rfl S.co S.gen rfl (PySem.W.codeRec_of kx hcd) (hb _ _ _ _ ?_)
  refine wpAny_newFunctionEnv_cells S.kind pk fun env he s1 ic => ?_
  subst he
  refine ⟨lim.keeps ic.toInCall.keep, codeAny_func ?_⟩
  have I := inv_start (CX := CX0) (E := E0) S hr.hd e0 hvs rv ic
  -- the cells at the entry
  obtain ⟨z, ρc, eF, hQ⟩ := hF
  have hpl : vs.length ≤ N.length := by have := congrArg List.length S.pre; rw [List.length_take] at this; omega
  have rel0 : Rel K H (xs.map (fun x => Cell.c x.1 x.2) ++ List.replicate (N.length - xs.length) Cell.u) (start N vs) T := by
    refine ⟨itemsOf xs vs, ?_, g.perm List.perm_append_comm⟩
    unfold L2.start
    rw [hl]
    exact cells_start _ hl
  have pin0 : Pin io (start N vs) (start N vs) := fun j _ => rfl
  -- the end: what the slots io still hold
  have fin : ∀ {ρ : Rho} {σ' : Sg} {H' : Hp} {T' : List Item}, Rel K H' ρ σ' (T' ++ T) → Pin io (start N vs) σ' → Good K [] H' (T' ++ (ioIt ρ vs io ++ T)) := fun {ρ σ' H' T'} r p => by
    obtain ⟨L, c, g⟩ := r
    obtain ⟨M, pm⟩ := io_out (vs := vs) io c (fun j hj v hv => by
      rw [p j hj]
      unfold L2.start
      obtain ⟨hj', ev⟩ := List.getElem?_eq_some_iff.mp hv
      rw [List.getElem?_append_left (by simpa using hj'), List.getElem?_map, hv]
      rfl)
    have g2 : Good K [] H' (M ++ (T' ++ (ioIt ρ vs io ++ T))) := g.perm ((pm.append_left (T' ++ T)).trans (by
      rw [← List.append_assoc]
      refine List.perm_append_comm.trans (List.Perm.append_left M ?_)
      rw [List.append_assoc]
      exact List.Perm.append_left T' List.perm_append_comm))
    exact g2.dropA
  have hrun : tS K W0 (Pin io (start N vs)) b { nx := fun _ H' => Q .non H', rt := Q } (start N vs) H := by
    refine ⟨_, T, rel0, pin0, ?_⟩
    unfold fnRun at eF
    split at eF
    · rename_i z' ρ' eb
      cases eF
      rw [eb]
      exact fun v σ' H' r p => hQ v H' (fin (T' := [(z.1, z.2, v)]) r p)
    · rename_i ρ' eb
      cases eF
      rw [eb]
      exact fun σ' H' r p => hQ .non H' ((fin (T' := []) r p).non)
    · cases eF
  refine wpAny_mono (HB.nox.run [] s1 (start N vs) H _ I hrun) (fun fl s' hs => ?_) fun e s' hs => hs
  have done : ∀ {σ' : Sg} {H' : Hp} {v : V} {u : Value}, Inv (cxOf CX0 P w K mg base N qual (defScope st) f cdv A outer s H E0) [] σ' H' s' → RelV v u → Q v H' → CE outer P w H s Q u s' := fun {σ' H' v u} J q1 q2 => ⟨v, H', J.os, J.bare, J.base, J.hok, q1, q2⟩
  match fl, hs with
  | .ret u, ⟨v, σ', H', J, q1, q2⟩ => exact done J q1 q2
  | .next, ⟨σ', H', J, q⟩ => exact done (v := V.non) (u := Value.none) J rfl q
  | .brk, ⟨_, _, _, q⟩ => exact False.elim q
  | .cont, ⟨_, _, _, q⟩ => exact False.elim q
end

/-! ### its call -/
/-- the values in the parameters' order -/
def pickL {α : Type} (pm : List Nat) (l : List α) : List α := pm.filterMap (l[·]?)
/-- binding by n places, then names ks -/
def BindG (K : PySem.W.Frag) (fd : FuncData) (ps ks : List Str) (n : Nat) (pm : List Nat) : Prop := ∀ (s : Shared) (us ws : List Value), us.length = n → ws.length = ks.length → BindsTo s fd ⟨us, ks.zip ws⟩ (ps.zip (pickL pm (us ++ ws))) ∧ (pickL pm (us ++ ws)).length = ps.length
theorem Fun.bindG {K : PySem.W.Frag} {x qual : Str} {st : Stmt} {f : Addr} {fd : FuncData} {ps : List Str} (ks : List Str) (n : Nat) (pm : List Nat) (F : Fun K x qual st f fd)
    (h : ∀ (kV doc pmv : Value) (an : Option Addr) (cdv ct : Value) (us ws : List Value), us.length = n → ws.length = ks.length → bindArgs (PySem.W.fnOf x qual (defArgs st) (defBody st) (defScope st) .none kV doc pmv an cdv ct) ⟨us, ks.zip ws⟩ = pure (ps.zip (pickL pm (us ++ ws))) ∧ (pickL pm (us ++ ws)).length = ps.length) : BindG K fd ps ks n pm := by
  obtain ⟨oc, od, kV, doc, pmv, an, cdv, ct, osl, rfl, lk, hcd⟩ := F.ex
  exact fun s us ws h1 h2 => let ⟨a, b⟩ := h kV doc pmv an cdv ct us ws h1 h2; ⟨.of_eq a, b⟩
section
variable {X : Cx} {W : Wish} {k : Nat} {f : Addr} {fd : FuncData} {ps ks : List Str} {io pm : List Nat} {F : List LD → R LD} {x : Str} {p pos kpos : Pos} {e : Expr} {es : List Expr} {kws : List Keyword} {m mk : M (List Ar)}
theorem vals_pick {vs : List V} {us : List Value} (r : Vals vs us) : ∀ pm : List Nat, Vals (pickL pm vs) (pickL pm us)
  | [] => .nil
  | j :: pm => by
    unfold pickL
    rw [List.filterMap_cons, List.filterMap_cons]
    cases e : vs[j]? with
    | none =>
      have : us[j]? = none := by
        rw [List.getElem?_eq_none_iff] at e ⊢
        rw [← r.length]; exact e
      rw [this]
      exact vals_pick r pm
    | some v =>
      obtain ⟨u, hu, q⟩ := r.get e
      rw [hu]
      exact .cons q (vals_pick r pm)
/-- the callee runs, from a state of ours -/
theorem run_G {pins : List (Addr × Obj)} {σ : Sg} {s : Shared} {H : Hp} {Q : VK} {us ws : List Value} {vs : List V} {as : List Ar} {ρ : Rho} {T : List Item} {n : Nat} (G : FnG X.prog X.w X.K X.mg X.base k f fd ps io F) (hr : Room k X.A) (hgd : X.A.guards = some []) (hb : BindG X.K fd ps ks n pm)
    (hx : Passes CX0 X E0) (I : Inv X pins σ H s) (rv : Vals vs (us ++ ws)) (hn : us.length = n) (hk : ws.length = ks.length) (rel : Rel X.K H ρ σ (tmps (pickL pm as) (pickL pm vs) ++ T)) (pa : Paired (Ar.at σ) (pickL pm as) (pickL pm vs))
    (h : Aft W T (match takeA ρ (pickL pm as) with
      | none => R.no
      | some (xs, ρ1) => match F xs with
        | .ok z ρc => match backA (pickL pm as) ρ1 ρc io with
          | some ρ2 => R.ok z ρ2
          | none => R.no
        | _ => R.no) fun z ρ' => ∀ v H', Rel X.K H' ρ' σ ((z.1, z.2, v) :: T) → Q v H') :
    wpAny (model X.prog X.w) X.A (call (.ref f) us (ks.zip ws)) (EP X pins σ Q) X.xe s := by
  cases e1 : takeA ρ (pickL pm as) with
  | none => rw [e1] at h; exact h.elim
  | some y =>
    obtain ⟨xs, ρ1⟩ := y
    rw [e1] at h
    simp only at h
    obtain ⟨hl, L, c, g⟩ := take_rel rel pa e1
    cases e2 : F xs with
    | no => rw [e2] at h; exact h.elim
    | ex _ _ => rw [e2] at h; exact h.elim
    | ok z ρc =>
      rw [e2] at h
      simp only at h
      cases e3 : backA (pickL pm as) ρ1 ρc io with
      | none => rw [e3] at h; exact h.elim
      | some ρ2 =>
        rw [e3] at h
        obtain ⟨hb1, hb2⟩ := hb s us ws hn hk
        rw [List.append_assoc] at g
        refine wpAny_call (codeAny_mono (G.run X.A X.stack s H ⟨us, ks.zip ws⟩ _ _ xs (T ++ L) Q hr hgd I.env0 hb2 hb1 (vals_pick rv pm) hl g ⟨z, ρc, e2, fun v H' g' => h v H' ?_⟩) fun r s' hq => ?_)
        · have r1 : Rel X.K H' ρ1 σ (ioIt ρc (pickL pm vs) io ++ ((z.1, z.2, v) :: T)) := ⟨L, c, g'.perm (by
            rw [List.append_assoc, List.cons_append]
            exact List.perm_middle.symm)⟩
          exact back_rel pa io r1 e3
        · cases r with
          | error e => exact hx pins σ H s e s' I hq
          | ok fl =>
            match fl, hq with
            | .ret u, hq => exact I.after hq
theorem pick_range {α : Type} (l : List α) : ∀ (pre : List α), pickL ((List.range l.length).map (· + pre.length)) (pre ++ l) = l := by
  induction l with
  | nil => intro pre; rfl
  | cons a l ih =>
    intro pre
    have := ih (pre ++ [a])
    rw [List.length_cons, List.range_succ_eq_map, List.map_cons, List.map_map]
    unfold pickL
    rw [List.filterMap_cons]
    have e0 : (pre ++ a :: l)[0 + pre.length]? = some a := by simp
    rw [e0]
    have e2 : (List.range l.length).map ((fun x => x + pre.length) ∘ Nat.succ) = (List.range l.length).map (· + (pre ++ [a]).length) := by
      apply List.map_congr_left
      intro x _
      simp [Function.comp]
      omega
    rw [e2]
    have e3 : pre ++ a :: l = (pre ++ [a]) ++ l := by simp
    rw [e3]
    show a :: pickL _ _ = _
    rw [this]
theorem pick_perm {α : Type} {pm : List Nat} {l : List α} (h : pm.Perm (List.range l.length)) : (pickL pm l).Perm l := by
  have h1 := h.filterMap (l[·]?)
  have h2 := pick_range l []
  simp only [List.length_nil, Nat.add_zero, List.map_id', List.nil_append] at h2
  unfold pickL at h2 ⊢
  rwa [h2] at h1
theorem pick_zip {as : List Ar} {vs : List V} (hl : as.length = vs.length) : ∀ pm : List Nat, pickL pm (as.zip vs) = (pickL pm as).zip (pickL pm vs)
  | [] => rfl
  | j :: pm => by
    have ih := pick_zip hl pm
    unfold pickL at ih ⊢
    rw [List.filterMap_cons, List.filterMap_cons, List.filterMap_cons, ih]
    by_cases hj : j < as.length
    · have h1 : as[j]? = some as[j] := List.getElem?_eq_getElem hj
      have h2 : vs[j]? = some (vs[j]'(by omega)) := List.getElem?_eq_getElem (by omega)
      have h3 : (as.zip vs)[j]? = some (as[j], vs[j]'(by omega)) := by
        rw [List.getElem?_eq_getElem (by rw [List.length_zip]; omega), List.getElem_zip]
      rw [h1, h2, h3]
      rfl
    · have h1 : as[j]? = none := List.getElem?_eq_none (by omega)
      have h2 : vs[j]? = none := List.getElem?_eq_none (by omega)
      have h3 : (as.zip vs)[j]? = none := List.getElem?_eq_none (by rw [List.length_zip]; omega)
      rw [h1, h2, h3]
theorem tmps_zip : ∀ (as : List Ar) (vs : List V), tmps as vs = (as.zip vs).flatMap fun q => q.1.tmp q.2
  | [], _ => by simp [tmps]
  | _ :: _, [] => by simp [tmps]
  | a :: as, v :: vs => by
    show a.tmp v ++ tmps as vs = _
    rw [tmps_zip as vs, List.zip_cons_cons, List.flatMap_cons]
theorem tmps_pick {as : List Ar} {vs : List V} {pm : List Nat} (hl : as.length = vs.length) (h : pm.Perm (List.range as.length)) : (tmps as vs).Perm (tmps (pickL pm as) (pickL pm vs)) := by
  rw [tmps_zip, tmps_zip, ← pick_zip hl]
  exact ((pick_perm (l := as.zip vs) (by rw [List.length_zip, ← hl, Nat.min_self]; exact h)).symm).flatMap_right _
theorem paired_get {σ : Sg} : ∀ {as : List Ar} {vs : List V} (j : Nat), Paired (Ar.at σ) as vs → (as[j]? = none ∧ vs[j]? = none) ∨ ∃ a v, as[j]? = some a ∧ vs[j]? = some v ∧ a.at σ v
  | _, _, _, .nil => .inl ⟨rfl, rfl⟩
  | _, _, 0, .cons h _ => .inr ⟨_, _, rfl, rfl, h⟩
  | _, _, j + 1, .cons _ t => paired_get j t
theorem paired_pick {σ : Sg} {as : List Ar} {vs : List V} (p : Paired (Ar.at σ) as vs) : ∀ pm : List Nat, Paired (Ar.at σ) (pickL pm as) (pickL pm vs)
  | [] => .nil
  | j :: pm => by
    have ih := paired_pick p pm
    unfold pickL at ih ⊢
    rw [List.filterMap_cons, List.filterMap_cons]
    rcases paired_get j p with ⟨h1, h2⟩ | ⟨a, v, h1, h2, h3⟩
    · rw [h1, h2]; exact ih
    · rw [h1, h2]; exact .cons h3 ih
theorem paired_append {σ : Sg} : ∀ {as bs : List Ar} {vs ws : List V}, Paired (Ar.at σ) as vs → Paired (Ar.at σ) bs ws → Paired (Ar.at σ) (as ++ bs) (vs ++ ws)
  | _, _, _, _, .nil, h => h
  | _, _, _, _, .cons a b, h => .cons a (paired_append b h)
theorem tmps_append : ∀ {as bs : List Ar} {vs ws : List V}, as.length = vs.length → tmps (as ++ bs) (vs ++ ws) = tmps as vs ++ tmps bs ws
  | [], _, [], _, _ => rfl
  | a :: as, bs, v :: vs, ws, h => by
    show a.tmp v ++ tmps (as ++ bs) (vs ++ ws) = (a.tmp v ++ tmps as vs) ++ tmps bs ws
    rw [tmps_append (by simpa using h), List.append_assoc]
  | [], _, _ :: _, _, h => by simp at h
  | _ :: _, _, [], _, h => by simp at h
/-- the call: n places, then kn names; pm puts them in the parameters' order -/
def callG (F : List LD → R LD) (io pm : List Nat) (n kn : Nat) (m mk : M (List Ar)) : M LD := m.bind fun as => mk.bind fun bs ρ => if as.length = n ∧ bs.length = kn then (match takeA ρ (pickL pm (as ++ bs)) with
  | none => .no
  | some (xs, ρ1) => match F xs with
    | .ok z ρc => match backA (pickL pm (as ++ bs)) ρ1 ρc io with
      | some ρ2 => .ok z ρ2
      | none => .no
    | _ => .no) else .no
theorem k_nil : PK X [] (tAs X.K W noAr) := PK.imp pk_nil fun σ H Q ⟨ρ, T, r, a⟩ => a [] H r .nil
theorem k_cons {nm : Option Str} {ma : M Ar} (h : PE X e (tA X.K W ma)) (hs : PK X kws (tAs X.K W mk)) : PK X (⟨nm, e, kpos⟩ :: kws) (tAs X.K W (consAr ma mk)) := by
  refine PK.imp (pk_cons h hs) fun σ H Q ⟨ρ, T, r, a⟩ => ?_
  refine ⟨ρ, T, r, a.bind.imp fun x ρ1 q v H1 r1 ha => ?_⟩
  refine ⟨ρ1, x.tmp v ++ T, r1, (q.bind.ups _).imp fun as ρ2 q2 vs H2 r2 hs => q2 (v :: vs) H2 (r2.good fun L g => g.perm ?_) (.cons ha hs)⟩
  show (tmps as vs ++ (x.tmp v ++ T) ++ L).Perm ((x.tmp v ++ tmps as vs) ++ T ++ L)
  rw [← List.append_assoc (tmps as vs)]
  exact (List.perm_append_comm.append_right T).append_right L
theorem callG_end {pins : List (Addr × Obj)} {σ : Sg} {s : Shared} {H : Hp} {Q : VK} {us ws : List Value} {vs zs : List V} {as bs : List Ar} {ρ : Rho} {T : List Item} {n kn : Nat} (G : FnG X.prog X.w X.K X.mg X.base k f fd ps io F) (hr : Room k X.A) (hgd : X.A.guards = some []) (hb : BindG X.K fd ps ks n pm)
    (hpm : pm.Perm (List.range (n + kn))) (hkn : ks.length = kn) (hx : Passes CX0 X E0) (I : Inv X pins σ H s) (rv : Vals vs us) (rz : Vals zs ws) (rel : Rel X.K H ρ σ (tmps bs zs ++ (tmps as vs ++ T))) (pa : Paired (Ar.at σ) as vs) (pb : Paired (Ar.at σ) bs zs)
    (h : Aft W T (if as.length = n ∧ bs.length = kn then (match takeA ρ (pickL pm (as ++ bs)) with
      | none => R.no
      | some (xs, ρ1) => match F xs with
        | .ok z ρc => match backA (pickL pm (as ++ bs)) ρ1 ρc io with
          | some ρ2 => R.ok z ρ2
          | none => R.no
        | _ => R.no) else R.no) fun z ρ' => ∀ v H', Rel X.K H' ρ' σ ((z.1, z.2, v) :: T) → Q v H') :
    wpAny (model X.prog X.w) X.A (call (.ref f) us (ks.zip ws)) (EP X pins σ Q) X.xe s := by
  by_cases hp : as.length = n ∧ bs.length = kn
  · rw [if_pos hp] at h
    have la := pa.length
    have lb := pb.length
    refine run_G (as := as ++ bs) (vs := vs ++ zs) G hr hgd hb hx I (rv.append rz) (by rw [← rv.length, ← la]; exact hp.1) (by rw [← rz.length, ← lb, hkn]; exact hp.2) (rel.good fun L g => g.perm ?_) (paired_pick (paired_append pa pb) pm) h
    have p1 : (tmps bs zs ++ (tmps as vs ++ T)).Perm (tmps (as ++ bs) (vs ++ zs) ++ T) := by
      rw [tmps_append la, ← List.append_assoc]
      exact List.perm_append_comm.append_right T
    have p2 := (tmps_pick (as := as ++ bs) (vs := vs ++ zs) (pm := pm) (by rw [List.length_append, List.length_append, la, lb]) (by rw [List.length_append, hp.1, hp.2]; exact hpm)).append_right T
    exact (p1.trans p2).append_right L
  · rw [if_neg hp] at h; exact h.elim
variable {n kn : Nat}
/-- f(e, ..) -/
theorem v_call (G : FnG X.prog X.w X.K X.mg X.base k f fd ps io F) (hr : Room k X.A) (hgd : X.A.guards = some []) (hb : BindG X.K fd ps [] n pm) (hpm : pm.Perm (List.range (n + 0))) (hx : Passes CX0 X E0) (hg : Gl X x) (hm : X.mg x = some (.ref f)) (hk : PySem.W.keepIn X.K (.ref f) = true)
    (ha : PA X (e :: es) (tAs X.K W m)) (hdb : (x == ("__debug__" : Str)) = false := by decide) (he : starEach (e :: es) X.env = (false, eval e X.env) :: starEach es X.env := by rfl) (hpl : (backTo pos (starEach es X.env)).any (·.1) = false := by rfl) :
    PE X (.Call (.Name x p) (e :: es) [] pos) (tV X.K W (callG F io pm n 0 m noAr)) := by
  refine ⟨fun pins s σ H Q I ⟨ρ, T, rel, a⟩ => ?_⟩
  refine wpAny_Call_Name_kw (ld_glob I hg hm ?_ hdb)
  refine PySem.W.callWith_K (h₀ := X.base) I.ok.mod.kin hk (thn (ha.run pos pins s σ H (fun vs H1 => ∃ (as : List Ar) (ρ1 : Rho), Rel X.K H1 ρ1 σ (tmps as vs ++ T) ∧ Paired (Ar.at σ) as vs ∧ Aft W T (noAr.bind _ ρ1) _) I ⟨ρ, T, rel, a.bind.imp fun as ρ1 q1 vs H1 r1 p1 => ⟨as, ρ1, r1, p1, q1⟩⟩) fun us s1 hq => ?_) he hpl
  obtain ⟨vs, H1, I1, rv, as, ρ1, r1, p1, q1⟩ := hq
  exact ⟨I1.kIn, callG_end (zs := []) (ws := []) (bs := []) G hr hgd hb hpm rfl hx I1 rv .nil r1 p1 .nil q1⟩
/-- f() -/
theorem v_call0 (G : FnG X.prog X.w X.K X.mg X.base k f fd ps io F) (hr : Room k X.A) (hgd : X.A.guards = some []) (hb : BindG X.K fd ps [] 0 []) (hx : Passes CX0 X E0) (hg : Gl X x) (hm : X.mg x = some (.ref f)) (hk : PySem.W.keepIn X.K (.ref f) = true)
    (hdb : (x == ("__debug__" : Str)) = false := by decide) : PE X (.Call (.Name x p) [] [] pos) (tV X.K W (callG F io [] 0 0 noAr noAr)) := by
  refine ⟨fun pins s σ H Q I ⟨ρ, T, rel, a⟩ => ?_⟩
  refine wpAny_Call_Name_kw (ld_glob I hg hm ?_ hdb)
  exact PySem.W.callWith_K0 I.kIn hk (callG_end (us := []) (ws := []) (vs := []) (zs := []) (as := []) (bs := []) G hr hgd hb (.refl _) rfl hx I .nil .nil rel .nil .nil a)
/-- f(k = e, ..) -/
theorem v_callK (G : FnG X.prog X.w X.K X.mg X.base k f fd ps io F) (hr : Room k X.A) (hgd : X.A.guards = some []) (hb : BindG X.K fd ps ks 0 pm) (hpm : pm.Perm (List.range (0 + kn))) (hkn : ks.length = kn) (hx : Passes CX0 X E0) (hg : Gl X x) (hm : X.mg x = some (.ref f)) (hk : PySem.W.keepIn X.K (.ref f) = true)
    (ha : PK X kws (tAs X.K W mk)) (hall : (backToKw pos (keywordEach kws X.env)).all (·.1.isSome) = true := by rfl) (hks : (backToKw pos (keywordEach kws X.env)).filterMap (·.1) = ks := by rfl) (hdb : (x == ("__debug__" : Str)) = false := by decide)
    (hpl : ((backTo pos (starEach [] X.env)).any (·.1) || (backToKw pos (keywordEach kws X.env)).any (·.1.isNone)) = false := by rfl) :
    PE X (.Call (.Name x p) [] kws pos) (tV X.K W (callG F io pm 0 kn noAr mk)) := by
  refine ⟨fun pins s σ H Q I ⟨ρ, T, rel, a⟩ => ?_⟩
  refine wpAny_Call_Name_kw (ld_glob I hg hm ?_ hdb)
  have a' : Aft W T (M.bind mk (fun bs ρ => if ([] : List Ar).length = 0 ∧ bs.length = kn then (match takeA ρ (pickL pm ([] ++ bs)) with
      | none => R.no
      | some (xs, ρ1) => match F xs with
        | .ok z ρc => match backA (pickL pm ([] ++ bs)) ρ1 ρc io with
          | some ρ2 => R.ok z ρ2
          | none => R.no
        | _ => R.no) else R.no) ρ) fun z ρ' => ∀ v H', Rel X.K H' ρ' σ ((z.1, z.2, v) :: T) → Q v H' := a
  refine PySem.W.callWith_KW0 (h₀ := X.base) I.ok.mod.kin hk hall (thn (ha.run pos pins s σ H (fun zs H1 => ∃ (bs : List Ar) (ρ1 : Rho), Rel X.K H1 ρ1 σ (tmps bs zs ++ T) ∧ Paired (Ar.at σ) bs zs ∧ Aft W T _ _) I ⟨ρ, T, rel, a'.bind.imp fun bs ρ1 q1 zs H1 r1 p1 => ⟨bs, ρ1, r1, p1, q1⟩⟩) fun ws s1 hq => ?_) hpl
  obtain ⟨zs, H1, I1, rz, bs, ρ1, r1, p1, q1⟩ := hq
  refine ⟨I1.kIn, ?_⟩
  rw [hks]
  exact callG_end (us := []) (vs := []) (as := []) G hr hgd hb hpm hkn hx I1 .nil rz r1 .nil p1 q1
/-- f(e, .., k = e, ..) -/
theorem v_callKW (G : FnG X.prog X.w X.K X.mg X.base k f fd ps io F) (hr : Room k X.A) (hgd : X.A.guards = some []) (hb : BindG X.K fd ps ks n pm) (hpm : pm.Perm (List.range (n + kn))) (hkn : ks.length = kn) (hx : Passes CX0 X E0) (hg : Gl X x) (hm : X.mg x = some (.ref f)) (hk : PySem.W.keepIn X.K (.ref f) = true)
    (ha : PA X (e :: es) (tAs X.K W m)) (hb2 : PK X kws (tAs X.K W mk)) (hall : (backToKw pos (keywordEach kws X.env)).all (·.1.isSome) = true := by rfl) (hks : (backToKw pos (keywordEach kws X.env)).filterMap (·.1) = ks := by rfl) (hdb : (x == ("__debug__" : Str)) = false := by decide)
    (he : starEach (e :: es) X.env = (false, eval e X.env) :: starEach es X.env := by rfl) (hpl : ((backTo pos (starEach (e :: es) X.env)).any (·.1) || (backToKw pos (keywordEach kws X.env)).any (·.1.isNone)) = false := by rfl) :
    PE X (.Call (.Name x p) (e :: es) kws pos) (tV X.K W (callG F io pm n kn m mk)) := by
  refine ⟨fun pins s σ H Q I ⟨ρ, T, rel, a⟩ => ?_⟩
  refine wpAny_Call_Name_kw (ld_glob I hg hm ?_ hdb)
  refine PySem.W.callWith_KW (h₀ := X.base) I.ok.mod.kin hk hall (thn (ha.run pos pins s σ H (fun vs H1 => ∃ (as : List Ar) (ρ1 : Rho), Rel X.K H1 ρ1 σ (tmps as vs ++ T) ∧ Paired (Ar.at σ) as vs ∧ Aft W T _ _) I ⟨ρ, T, rel, a.bind.imp fun as ρ1 q1 vs H1 r1 p1 => ⟨as, ρ1, r1, p1, q1⟩⟩) fun us s1 hq => ?_) hpl he
  obtain ⟨vs, H1, I1, rv, as, ρ1, r1, p1, q1⟩ := hq
  refine thn (hb2.run pos pins s1 σ H1 (fun zs H2 => ∃ (bs : List Ar) (ρ2 : Rho), Rel X.K H2 ρ2 σ (tmps bs zs ++ (tmps as vs ++ T)) ∧ Paired (Ar.at σ) bs zs ∧ Aft W T _ _) I1 ⟨ρ1, tmps as vs ++ T, r1, (q1.bind.ups _).imp fun bs ρ2 q2 zs H2 r2 p2 => ⟨bs, ρ2, r2, p2, q2⟩⟩) fun ws s2 hq2 => ?_
  obtain ⟨zs, H2, I2, rz, bs, ρ2, r2, p2, q2⟩ := hq2
  refine ⟨I2.kIn, ?_⟩
  rw [hks]
  exact callG_end G hr hgd hb hpm hkn hx I2 rv rz r2 p1 p2 q2
end
end Vs
set_option Elab.async false
set_option linter.all false
set_option maxRecDepth 100000
set_option maxHeartbeats 2000000
/-! Vs9: dicts with numbers and texts as keys; places within a name's content (x[i], d['k']) and what changes there. -/
namespace Vs
open PySem PySem.Spec PyProof.Rows L2

def lookK {α κ : Type} [DecidableEq κ] : List (κ × α) → κ → Option α
  | [], _ => none
  | (j, a) :: r, k => if j = k then some a else lookK r k
def setK {α κ : Type} [DecidableEq κ] : List (κ × α) → κ → α → List (κ × α)
  | [], k, a => [(k, a)]
  | (j, b) :: r, k, a => if j = k then (j, a) :: r else (j, b) :: setK r k a
section
variable {κ : Type} [DecidableEq κ]
theorem valV_look (k : κ) : ∀ kvs : List (κ × V), valV kvs k = lookK kvs k
  | [] => rfl
  | (j, a) :: r => by
    unfold lookK
    by_cases h : j = k
    · rw [if_pos h]; exact valV_pos h
    · rw [if_neg h, ← valV_look k r]; exact valV_neg h
theorem setK_keys {α : Type} (k : κ) (a : α) : ∀ ks : List (κ × α), (setK ks k a).map (·.1) = if k ∈ ks.map (·.1) then ks.map (·.1) else ks.map (·.1) ++ [k]
  | [] => by simp [setK]
  | (j, b) :: r => by
    unfold setK
    by_cases h : j = k
    · rw [if_pos h]; simp [h]
    · rw [if_neg h, List.map_cons, setK_keys k a r]
      have h' : ¬ k = j := fun e => h e.symm
      simp only [List.map_cons, List.mem_cons, h', false_or]
      by_cases m : k ∈ r.map (·.1)
      · rw [if_pos m, if_pos m]
      · rw [if_neg m, if_neg m]; rfl
theorem putK_set {k : κ} {v : V} : ∀ {kvs : List (κ × V)}, (kvs.map (·.1)).Nodup → putK kvs k v = setK kvs k v
  | [], _ => by simp [putK, setK]
  | (j, b) :: r, h => by
    rw [List.map_cons, List.nodup_cons] at h
    have ih := putK_set (k := k) (v := v) h.2
    unfold setK
    by_cases e : j = k
    · rw [if_pos e]
      unfold putK
      have : (((j, b) :: r).any fun kv => decide (kv.1 = k)) = true := by simp [e]
      rw [if_pos this, List.map_cons]
      have nr : ∀ kv ∈ r, ¬ kv.1 = k := fun kv hm e2 => h.1 (by rw [e, ← e2]; exact List.mem_map.mpr ⟨kv, hm, rfl⟩)
      have : (r.map fun kv => if kv.1 = k then (kv.1, v) else kv) = r := by
        conv => rhs; rw [← List.map_id r]
        exact List.map_congr_left fun kv hm => by rw [if_neg (nr kv hm)]; rfl
      rw [this, if_pos e]
    · rw [if_neg e, ← ih]
      unfold putK
      rw [List.any_cons]
      simp only [e, decide_false, Bool.false_or]
      split
      · rw [List.map_cons, if_neg e]
      · rfl
theorem mergeK_id : ∀ (kvs acc : List (Key × V)), ((acc ++ kvs).map (·.1)).Nodup → mergeK acc kvs = acc ++ kvs
  | [], acc, _ => by rw [List.append_nil]; rfl
  | p :: r, acc, h => by
    show mergeK (putK acc p.1 p.2) r = _
    have hn : ¬ p.1 ∈ acc.map (·.1) := by
      rw [List.map_append, List.map_cons] at h
      intro hm
      exact (List.nodup_append.mp h).2.2 _ hm _ List.mem_cons_self rfl
    have e : putK acc p.1 p.2 = acc ++ [p] := by
      refine putK_new _ ?_
      cases q : valV acc p.1 with
      | none => rfl
      | some v => exact absurd (valV_in q) hn
    rw [e, mergeK_id r (acc ++ [p]) (by rw [List.append_assoc]; exact h), List.append_assoc]
    rfl
end

/-! ### dicts as nodes -/
section
variable {K : PySem.W.Frag} {H H' : Hp} {L : List Item} {Rs : List Addr} {ρ : Rho} {σ : Sg} {T : List Item} {k : Nat} {ks : List (Key × D)} {v : V}
theorem Good.dicO_inv (h : Good K Rs H ((k + 1, .dic ks, v) :: L)) : ∃ p kvs, v = .ref p ∧ H p = some (.dK kvs) ∧ kvs.map (·.1) = ks.map (·.1) ∧ Good K (p :: Rs) H (its k (ks.map (·.2)) (kvs.map (·.2)) ++ L) := by
  obtain ⟨F, G, r, nd, dj, hr⟩ := h
  cases r with
  | @dicO _ _ p kvs _ F _ h1 h2 r =>
    refine ⟨p, kvs, rfl, h1, h2, F, G, r, (List.perm_middle.nodup_iff).mp nd, fun a ha => dj a (List.perm_middle.mem_iff.mpr ha), fun a ha => ?_⟩
    rcases List.mem_cons.mp ha with rfl | ha
    · rw [h1]; exact fun z => nomatch z
    · exact hr a ha
theorem Good.dicO {p : Addr} {kvs : List (Key × V)} (h1 : H p = some (.dK kvs)) (h2 : kvs.map (·.1) = ks.map (·.1)) (h : Good K (p :: Rs) H (its k (ks.map (·.2)) (kvs.map (·.2)) ++ L)) : Good K Rs H ((k + 1, .dic ks, .ref p) :: L) := by
  obtain ⟨F, G, r, nd, dj, hr⟩ := h
  exact ⟨p :: F, G, .dicO h1 h2 r, (List.perm_middle.nodup_iff).mpr nd, fun a ha => dj a (List.perm_middle.mem_iff.mp ha), fun a ha => hr a (List.mem_cons_of_mem _ ha)⟩
theorem Good.dicF_inv (h : Good K Rs H ((0, .dic ks, v) :: L)) : ∃ p kvs, v = .ref p ∧ H p = some (.dK kvs) ∧ kvs.map (·.1) = ks.map (·.1) ∧ Good K Rs H (its 0 (ks.map (·.2)) (kvs.map (·.2)) ++ L) := by
  obtain ⟨F, G, r, nd, dj, hr⟩ := h
  cases r with
  | @dicF _ p kvs _ _ G h1 h2 r => exact ⟨p, kvs, rfl, h1, h2, F, G, r, nd, fun a ha hg => dj a ha (List.mem_cons_of_mem _ hg), hr⟩
theorem Good.dic_inv (h : Good K Rs H ((k, .dic ks, v) :: L)) : ∃ p kvs, v = .ref p ∧ H p = some (.dK kvs) ∧ kvs.map (·.1) = ks.map (·.1) ∧ Good K Rs H (its (k - 1) (ks.map (·.2)) (kvs.map (·.2)) ++ L) := by
  cases k with
  | zero => exact h.dicF_inv
  | succ k =>
    obtain ⟨p, kvs, e, h1, h2, g⟩ := h.dicO_inv
    exact ⟨p, kvs, e, h1, h2, g.unres⟩
theorem KD.dic (h : KD K H (.dic ks) v) : ∃ p kvs, v = .ref p ∧ H p = some (.dK kvs) ∧ kvs.map (·.1) = ks.map (·.1) ∧ KDs K H (ks.map (·.2)) (kvs.map (·.2)) := by
  obtain ⟨k, R, L, h⟩ := h
  obtain ⟨p, kvs, rfl, h1, h2, g⟩ := h.dic_inv
  have hl : (ks.map (·.2)).length = (kvs.map (·.2)).length := by
    have := congrArg List.length h2
    simpa using this.symm
  exact ⟨p, kvs, rfl, h1, h2, g.kds hl fun x hx => List.mem_append_left _ hx⟩
theorem Good.newD {p : Addr} {kvs : List (Key × V)} (h : Good K Rs H (its k (ks.map (·.2)) (kvs.map (·.2)) ++ L)) (hk : kvs.map (·.1) = ks.map (·.1)) (hp : H p = none) : Good K Rs (upd H p (.dK kvs)) ((k + 1, .dic ks, .ref p) :: L) :=
  Good.dicO upd_same hk (h.resv hp)
/-- where a key stands -/
theorem lookK_at {α β : Type} {key : Key} : ∀ {ks : List (Key × α)} {kvs : List (Key × β)} {a : α}, kvs.map (·.1) = ks.map (·.1) → lookK ks key = some a → ∃ (n : Nat) (b : β), lookK kvs key = some b ∧ (ks.map (·.2))[n]? = some a ∧ (kvs.map (·.2))[n]? = some b ∧
    (∀ a', (setK ks key a').map (·.2) = (ks.map (·.2)).set n a' ∧ (setK ks key a').map (·.1) = ks.map (·.1)) ∧ setK kvs key b = kvs ∧ ∀ b', (setK kvs key b').map (·.2) = (kvs.map (·.2)).set n b'
  | [], _, _, _, h => by cases h
  | (j, x) :: ks, [], _, h, _ => by simp at h
  | (j, x) :: ks, (j', y) :: kvs, a, hk, h => by
    rw [List.map_cons, List.map_cons] at hk
    obtain ⟨e1, e2⟩ := List.cons.inj hk
    simp only at e1
    subst e1
    unfold lookK at h
    by_cases e : j' = key
    · rw [if_pos e] at h
      cases h
      refine ⟨0, y, by unfold lookK; rw [if_pos e], rfl, rfl, fun a' => ?_, by unfold setK; rw [if_pos e], fun b' => by unfold setK; rw [if_pos e]; rfl⟩
      unfold setK
      rw [if_pos e]
      exact ⟨rfl, rfl⟩
    · rw [if_neg e] at h
      obtain ⟨n, b, h1, h2, h3, h4, h5, h6⟩ := lookK_at e2 h
      refine ⟨n + 1, b, by unfold lookK; rw [if_neg e]; exact h1, by simpa using h2, by simpa using h3, fun a' => ?_, by unfold setK; rw [if_neg e, h5], fun b' => by unfold setK; rw [if_neg e, List.map_cons, h6 b']; rfl⟩
      unfold setK
      rw [if_neg e]
      exact ⟨by rw [List.map_cons, (h4 a').1]; rfl, by rw [List.map_cons, (h4 a').2]; rfl⟩
theorem lookK_none {α β : Type} {key : Key} : ∀ {ks : List (Key × α)} {kvs : List (Key × β)}, kvs.map (·.1) = ks.map (·.1) → lookK ks key = none → lookK kvs key = none
  | [], [], _, _ => rfl
  | [], _ :: _, h, _ => by simp at h
  | (j, x) :: ks, [], h, _ => by simp at h
  | (j, x) :: ks, (j', y) :: kvs, hk, h => by
    rw [List.map_cons, List.map_cons] at hk
    obtain ⟨e1, e2⟩ := List.cons.inj hk
    simp only at e1
    subst e1
    unfold lookK at h ⊢
    by_cases e : j' = key
    · rw [if_pos e] at h; cases h
    · rw [if_neg e] at h ⊢; exact lookK_none e2 h
end

section
variable {K : PySem.W.Frag} {H : Hp}
theorem KDs.at {xs : List D} {vs : List V} (h : KDs K H xs vs) : ∀ {n : Nat} {d : D}, xs[n]? = some d → ∃ v, vs[n]? = some v ∧ KD K H d v := by
  induction h with
  | nil => intro n d z; simp at z
  | @cons a c as cs q _ ih =>
    intro n d z
    cases n with
    | zero => simp at z; subst z; exact ⟨c, rfl, q⟩
    | succ n => obtain ⟨v, h1, h2⟩ := ih (n := n) (by simpa using z); exact ⟨v, by simpa using h1, h2⟩
end
/-! ### still expressions: the heap is not touched -/
def tQ (K : PySem.W.Frag) (m : Rho → Option D) : TE := fun σ H Q => ∃ ρ T, Rel K H ρ σ T ∧ ∃ d, m ρ = some d ∧ d.isS = true ∧ Q d.sv H
def qN (i : Nat) : Rho → Option D := fun ρ => match ρ[i]? with
  | some (.c _ d) => if d.isS then some d else none
  | _ => none
def qK (d : D) : Rho → Option D := fun _ => some d
def q2 (o : List D → Option D) (a b : Rho → Option D) : Rho → Option D := fun ρ => match a ρ, b ρ with
  | some x, some y => if x.isS && y.isS then o [x, y] else none
  | _, _ => none
def qU (o : D → Option D) (a : Rho → Option D) : Rho → Option D := fun ρ => (a ρ).bind o
/-- a scalar at a place of a name's content -/
def qX (j : Nat) (a : Rho → Option D) : Rho → Option D := fun ρ => match ρ[j]?, a ρ with
  | some (.c _ d), some (.int i) => match d with
    | .lst xs => (atI xs i).bind fun d => if d.isS then some d else none
    | .tup xs => (atI xs i).bind fun d => if d.isS then some d else none
    | .rol xs => (atI xs i).bind fun d => if d.isS then some d else none
    | _ => none
  | _, _ => none
def qL (j : Nat) : Rho → Option D := fun ρ => match ρ[j]? with
  | some (.c _ d) => fLen d
  | _ => none
section
variable {X : Cx} {W : Wish} {e ea eb : Expr} {pos p1 : Pos} {a b : Rho → Option D}
theorem s_kd {K : PySem.W.Frag} {H : Hp} {d : D} (h : d.isS = true) : KD K H d d.sv := ⟨0, [], [], by
  have : Good K [] H [] := ⟨[], [], .nil, List.nodup_nil, fun a h => (nomatch h), fun a h => (nomatch h)⟩
  exact this.scal h⟩
theorem qe_name {i : Nat} {x : Str} (h : PE X (.Name x pos) (tVar i)) : PE X (.Name x pos) (tQ X.K (qN i)) := by
  refine PE.imp h fun σ H Q ⟨ρ, T, r, d, e, s, q⟩ => ?_
  unfold qN at e
  split at e
  · rename_i k d' ec
    split at e
    · cases e
      obtain ⟨v, hv, kd⟩ := r.kd ec
      obtain rfl := kd.isS s
      exact ⟨_, hv, q⟩
    · cases e
  · cases e
theorem qe_k {v : V} {d : D} (h : PE X e (tC v)) (hs : d.isS = true) (hv : d.sv = v) : PE X e (tQ X.K (qK d)) := by
  refine PE.imp h fun σ H Q ⟨ρ, T, r, d', e, s, q⟩ => ?_
  cases e
  subst hv
  exact q
theorem qe_int {i : Int} {j : Nat} : PE X (.Constant (.int i) j pos) (tQ X.K (qK (.int i))) := qe_k pe_int rfl rfl
theorem qe_str {x : Str} {j : Nat} : PE X (.Constant (.str x) j pos) (tQ X.K (qK (.str x))) := qe_k pe_str rfl rfl
theorem qe_bl {x : Bool} {j : Nat} : PE X (.Constant (.bool x) j pos) (tQ X.K (qK (.bl x))) := qe_k pe_bl rfl rfl
theorem q2_run {r : R2} {o : List D → Option D} (ho : SOp X.K (fun vs H Q => ∃ x y, vs = [x, y] ∧ r x y H Q) o) {σ : Sg} {H : Hp} {Q : VK} (h : tQ X.K (q2 o a b) σ H Q) : tOp r (tQ X.K a) (tQ X.K b) σ H Q := by
  obtain ⟨ρ, T, rel, d, e, s, q⟩ := h
  unfold q2 at e
  split at e
  · rename_i x y ea eb
    by_cases sxy : (x.isS && y.isS) = true
    · rw [if_pos sxy] at e
      rw [Bool.and_eq_true] at sxy
      refine ⟨ρ, T, rel, x, ea, sxy.1, ρ, T, rel, y, eb, sxy.2, ?_⟩
      obtain ⟨_, f⟩ := ho H [x, y] [x.sv, y.sv] d (.cons (s_kd sxy.1) (.cons (s_kd sxy.2) .nil)) e
      obtain ⟨x', y', e', h'⟩ := f Q q
      cases e'
      exact h'
    · rw [if_neg sxy] at e; cases e
  · cases e
theorem qe_op2 {op : Operator} {r : R2} {o : List D → Option D} (hr : OpR X (binaryOp op) r) (ho : SOp X.K (fun vs H Q => ∃ x y, vs = [x, y] ∧ r x y H Q) o) (ha : PE X ea (tQ X.K a)) (hb : PE X eb (tQ X.K b)) : PE X (.BinOp ea op eb pos) (tQ X.K (q2 o a b)) :=
  PE.imp (pe_op hr ha hb) fun σ H Q h => q2_run ho h
/-- + of two numbers -/
def oAddI := oI2 fun i j => i + j
def oMulI := oI2c mulOk fun i j => i * j
theorem qe_add (ha : PE X ea (tQ X.K a)) (hb : PE X eb (tQ X.K b)) : PE X (.BinOp ea .Add eb pos) (tQ X.K (q2 oAddI a b)) := qe_op2 op_add s_I2 ha hb
theorem qe_sub (ha : PE X ea (tQ X.K a)) (hb : PE X eb (tQ X.K b)) : PE X (.BinOp ea .Sub eb pos) (tQ X.K (q2 oSub a b)) := qe_op2 op_sub s_I2 ha hb
theorem qe_mul (ha : PE X ea (tQ X.K a)) (hb : PE X eb (tQ X.K b)) : PE X (.BinOp ea .Mult eb pos) (tQ X.K (q2 oMulI a b)) := qe_op2 op_mulX (s_I2c fun _ _ h => h) ha hb
theorem qe_div (ha : PE X ea (tQ X.K a)) (hb : PE X eb (tQ X.K b)) : PE X (.BinOp ea .FloorDiv eb pos) (tQ X.K (q2 oDiv a b)) := qe_op2 op_fdivW (s_I2c fun _ _ => divOk_ok) ha hb
theorem qe_mod (ha : PE X ea (tQ X.K a)) (hb : PE X eb (tQ X.K b)) : PE X (.BinOp ea .Mod eb pos) (tQ X.K (q2 oMod a b)) := qe_op2 op_mod (s_I2c fun _ _ h => of_decide_eq_true h) ha hb
theorem qe_band (ha : PE X ea (tQ X.K a)) (hb : PE X eb (tQ X.K b)) : PE X (.BinOp ea .BitAnd eb pos) (tQ X.K (q2 oAnd a b)) := qe_op2 op_and s_I2 ha hb
theorem qe_neg (ha : PE X ea (tQ X.K a)) : PE X (.UnaryOp .USub ea pos) (tQ X.K (qU oNeg a)) := by
  refine PE.imp (pe_un un_neg ha) fun σ H Q ⟨ρ, T, rel, d, e, s, q⟩ => ?_
  unfold qU at e
  cases ex : a ρ with
  | none => rw [ex] at e; cases e
  | some x =>
    rw [ex] at e
    cases x with
    | int i =>
      cases e
      exact ⟨ρ, T, rel, .int i, ex, rfl, i, rfl, q⟩
    | _ => cases e
theorem qe_idx {j : Nat} {x : Str} (ha : PE X (.Name x p1) (tVar j)) (hb : PE X eb (tQ X.K b)) (hs : PlainIx eb) : PE X (.Subscript (.Name x p1) eb pos) (tQ X.K (qX j b)) := by
  refine PE.imp (pe_ix ix_seq ha hb hs) fun σ H Q ⟨ρ, T, rel, d, e, s, q⟩ => ?_
  unfold qX at e
  split at e
  · rename_i k d0 i ec eb
    obtain ⟨v, hv, kd⟩ := rel.kd ec
    refine ⟨v, hv, ρ, T, rel, .int i, eb, rfl, ?_⟩
    have fin : ∀ {xs : List D} {vs : List V}, KDs X.K H xs vs → ((atI xs i).bind fun d => if d.isS then some d else none) = some d → atI vs i = some d.sv := fun {xs vs} kds e => by
      cases ea : atI xs i with
      | none => rw [ea] at e; cases e
      | some d' =>
        rw [ea] at e
        by_cases s' : d'.isS = true
        · have e' : (if d'.isS then some d' else none) = some d := e
          rw [if_pos s'] at e'
          obtain rfl := Option.some.inj e'
          obtain ⟨j', b', h1, h2, h3⟩ := atI_at ea kds.length
          obtain ⟨b2, h4, kk⟩ := kds.at h1
          rw [h2] at h4
          obtain rfl := Option.some.inj h4
          rw [h3, kk.isS s']
        · have e' : (if d'.isS then some d' else none) = some d := e
          rw [if_neg s'] at e'; cases e'
    cases d0 with
    | lst xs =>
      obtain ⟨p, vs, rfl, h1, h2⟩ := kd.lst
      exact .inl ⟨p, vs, i, _, rfl, rfl, SqL.of h1, fin h2 e, q⟩
    | tup xs =>
      obtain ⟨p, vs, rfl, h1, h2⟩ := kd.tup
      exact .inr (.inl ⟨p, vs, i, _, rfl, rfl, h1, fin h2 e, q⟩)
    | rol xs =>
      obtain ⟨p, vs, rfl, h1, h2⟩ := kd.rol
      exact .inl ⟨p, vs, i, _, rfl, rfl, h1, fin h2 e, q⟩
    | _ => cases e
  · cases e
end

/-! ### places -/
inductive Step where
  | ix (n : Nat)
  | ky (k : Key)
def subT : D → List Step → Option D
  | d, [] => some d
  | .lst ds, .ix n :: π => (ds[n]?).bind fun x => subT x π
  | .dic ks, .ky k :: π => (lookK ks k).bind fun x => subT x π
  | _, _ => none
def Fol (H : Hp) : V → List Step → V → Prop
  | v, [], u => u = v
  | v, .ix n :: π, u => ∃ p ws w, v = .ref p ∧ H p = some (.lst ws) ∧ ws[n]? = some w ∧ Fol H w π u
  | v, .ky k :: π, u => ∃ p kvs w, v = .ref p ∧ H p = some (.dK kvs) ∧ lookK kvs k = some w ∧ Fol H w π u
abbrev Place := Nat × List Step
def tPl (K : PySem.W.Frag) (W : Wish) (m : M Place) : TE := fun σ H Q => ∃ ρ T, Rel K H ρ σ T ∧ Aft W T (m ρ) fun jp ρ' => ∀ v H', Rel K H' ρ' σ T → (∃ r, σ[jp.1]? = some (some r) ∧ Fol H' r jp.2 v) → Q v H'
def plN (j : Nat) : M Place := fun ρ => match ρ[j]? with
  | some (.c _ _) => .ok (j, []) ρ
  | _ => .no
/-- a place's item: the index is still -/
def plX (m : M Place) (i : Rho → Option D) : M Place := m.bind fun jp ρ => match ρ[jp.1]?, i ρ with
  | some (.c _ d), some y => match subT d jp.2, y with
    | some (.lst ds), .int z => match ixN ds.length z with
      | some n => .ok (jp.1, jp.2 ++ [.ix n]) ρ
      | none => .no
    | some (.dic ks), .str x => match lookK ks (Sum.inr x) with
      | some _ => .ok (jp.1, jp.2 ++ [.ky (Sum.inr x)]) ρ
      | none => .no
    | some (.dic ks), .int z => match lookK ks (Sum.inl z) with
      | some _ => .ok (jp.1, jp.2 ++ [.ky (Sum.inl z)]) ρ
      | none => .no
    | _, _ => .no
  | _, _ => .no
section
variable {K : PySem.W.Frag} {H H' : Hp} {L : List Item} {Rs : List Addr} {ρ : Rho} {σ : Sg} {T : List Item}
theorem KD.sub {d : D} {r v : V} {d' : D} : ∀ {π : List Step} {d : D} {r : V}, KD K H d r → Fol H r π v → subT d π = some d' → KD K H d' v
  | [], d, r, h, f, e => by cases e; cases f; exact h
  | .ix n :: π, d, r, h, f, e => by
    cases d with
    | lst ds =>
      obtain ⟨p, ws, w, rfl, h1, h2, f'⟩ := f
      obtain ⟨p', ws', e1, h3, kds⟩ := h.lst
      cases e1
      rw [h1] at h3
      cases h3
      have e' : (ds[n]?).bind (fun x => subT x π) = some d' := e
      cases ex : ds[n]? with
      | none => rw [ex] at e'; cases e'
      | some x =>
        rw [ex] at e'
        obtain ⟨w', h4, kd⟩ := kds.at ex
        rw [h2] at h4
        cases h4
        exact KD.sub (d := d) (r := r) kd f' e'
    | _ => cases e
  | .ky k :: π, d, r, h, f, e => by
    cases d with
    | dic ks =>
      obtain ⟨p, kvs, w, rfl, h1, h2, f'⟩ := f
      obtain ⟨p', kvs', e1, h3, hk, kds⟩ := h.dic
      cases e1
      rw [h1] at h3
      cases h3
      have e' : (lookK ks k).bind (fun x => subT x π) = some d' := e
      cases ex : lookK ks k with
      | none => rw [ex] at e'; cases e'
      | some x =>
        rw [ex] at e'
        obtain ⟨n, b, h4, h5, h6, _⟩ := lookK_at hk ex
        rw [h2] at h4
        cases h4
        obtain ⟨w', h7, kd⟩ := kds.at h5
        rw [h6] at h7
        cases h7
        exact KD.sub (d := d) (r := r) kd f' e'
    | _ => cases e
theorem Fol.snoc {π2 : List Step} {v u : V} : ∀ {π : List Step} {r : V}, Fol H r π v → Fol H v π2 u → Fol H r (π ++ π2) u
  | [], r, f, g => by cases f; exact g
  | .ix n :: π, r, ⟨p, ws, w, e, h1, h2, f⟩, g => ⟨p, ws, w, e, h1, h2, Fol.snoc f g⟩
  | .ky n :: π, r, ⟨p, ws, w, e, h1, h2, f⟩, g => ⟨p, ws, w, e, h1, h2, Fol.snoc f g⟩
end
section
variable {X : Cx} {W : Wish} {e ea eb : Expr} {pos p1 : Pos} {mp : M Place} {b : Rho → Option D} {k : Nat}
theorem l_name {i : Nat} {x : Str} (h : PE X (.Name x pos) (tVar i)) : PE X (.Name x pos) (tPl X.K W (plN i)) := by
  refine PE.imp h fun σ H Q ⟨ρ, T, r, a⟩ => ?_
  unfold plN at a
  split at a
  · rename_i k d ec
    obtain ⟨v, hv, kd⟩ := r.kd ec
    exact ⟨v, hv, a v H r ⟨v, hv, rfl⟩⟩
  · exact a.elim
/-- x[i] or x[k], a list or a dict: one rule of subscripts -/
def rSub (K : PySem.W.Frag) : R2 := fun x y H Q => rIx K x y H Q ∨ ∃ a v, x = .ref a ∧ DGet H a y (some v) ∧ Q v H
theorem ix_sub (hu : X.A.units + 1 < cLine) : IxR X (rSub X.K) := by
  intro value slice pins s σ H x y v u Q I rx ry h hs
  rcases h with h | ⟨a, w, rfl, g, q⟩
  · exact ix_seq value slice pins s σ H x y v u Q I rx ry h hs
  · cases rx
    exact tail_any (dict_typeIs I g) PySem.F.slot_dict_getitem.lookup (d_getItem hu I g ry fun w' s3 I3 rw' => ⟨w, H, I3, rw', q⟩) hs
theorem l_item (hr : Room k X.A) (ha : PE X ea (tPl X.K W mp)) (hb : PE X eb (tQ X.K b)) (hs : PlainIx eb) : PE X (.Subscript ea eb pos) (tPl X.K W (plX mp b)) := by
  refine PE.imp (pe_ix (ix_sub (hu_of hr)) ha hb hs) fun σ H Q ⟨ρ, T, rel, a⟩ => ?_
  refine ⟨ρ, T, rel, a.bind.imp fun jp ρ1 q1 v H1 r1 ⟨r, hr, f⟩ => ?_⟩
  obtain ⟨j, π⟩ := jp
  cases ec : ρ1[j]? with
  | none => simp only [ec] at q1; exact q1.elim
  | some c =>
    cases c with
    | u => simp only [ec] at q1; exact q1.elim
    | c k d =>
      cases ey : b ρ1 with
      | none => simp only [ec, ey] at q1; exact q1.elim
      | some y =>
        simp only [ec, ey] at q1
        obtain ⟨r', hr', kd⟩ := r1.kd ec
        rw [hr] at hr'
        cases hr'
        have step : ∀ {y d1 : D} {st : Step}, y.isS = true → b ρ1 = some y → subT d π = some d1 → (KD X.K H1 d1 v → ∃ u, Fol H1 v [st] u ∧ ∀ Q : VK, Q u H1 → rSub X.K v y.sv H1 Q) →
            Aft W T (R.ok (j, π ++ [st]) ρ1) (fun jp ρ' => ∀ v H', Rel X.K H' ρ' σ T → (∃ r, σ[jp.1]? = some (some r) ∧ Fol H' r jp.2 v) → Q v H') → tQ X.K b σ H1 fun y H2 => rSub X.K v y H2 Q := fun {y d1 st} ys ey es hst q => by
          obtain ⟨u, hf, hq⟩ := hst (KD.sub (d := d) (r := r) kd f es)
          exact ⟨ρ1, T, r1, y, ey, ys, hq Q (q u H1 r1 ⟨r, hr, f.snoc hf⟩)⟩
        cases es : subT d π with
        | none => rw [es] at q1; exact q1.elim
        | some d1 =>
          rw [es] at q1
          have key : ∀ {ks : List (Key × D)} {kk : Key} {x : D}, lookK ks kk = some x → KD X.K H1 (.dic ks) v → ∃ u, Fol H1 v [.ky kk] u ∧ ∀ Q : VK, Q u H1 → rSub X.K v (kV kk) H1 Q := fun {ks kk x} en kd => by
            obtain ⟨p, kvs, rfl, h1, h2, _⟩ := kd.dic
            obtain ⟨n, u, h3, _⟩ := lookK_at h2 en
            have g : DGet H1 p (kV kk) (some u) := by
              have := DGet.k (k := kk) h1
              rwa [valV_look, h3] at this
            exact ⟨u, ⟨p, kvs, u, rfl, h1, h3, rfl⟩, fun Q q => .inr ⟨p, u, rfl, g, q⟩⟩
          cases d1 with
          | lst ds =>
            cases y with
            | int z =>
              simp only at q1
              cases en : ixN ds.length z with
              | none => rw [en] at q1; exact q1.elim
              | some n =>
                rw [en] at q1
                refine step (y := .int z) rfl ey es (fun kd => ?_) q1
                obtain ⟨i1, i2, i3, i4⟩ := ixN_seq en
                obtain ⟨p, ws, rfl, h1, kds⟩ := kd.lst
                obtain ⟨u, h2, _⟩ := kds.at (List.getElem?_eq_getElem i2)
                exact ⟨u, ⟨p, ws, u, rfl, h1, h2, rfl⟩, fun Q q => .inl (.inl ⟨p, ws, z, u, rfl, rfl, SqL.of h1, by unfold atI; rw [← kds.length, en]; exact h2, q⟩)⟩
            | _ => exact q1.elim
          | dic ks =>
            cases y with
            | int z =>
              simp only at q1
              cases en : lookK ks (Sum.inl z) with
              | none => rw [en] at q1; exact q1.elim
              | some x =>
                rw [en] at q1
                exact step (y := .int z) rfl ey es (key en) q1
            | str z =>
              simp only at q1
              cases en : lookK ks (Sum.inr z) with
              | none => rw [en] at q1; exact q1.elim
              | some x =>
                rw [en] at q1
                exact step (y := .str z) rfl ey es (key en) q1
            | _ => exact q1.elim
          | _ => exact q1.elim
/-- what stands at a place, read: shared from now on, a scalar as it is -/
def rdP (m : M Place) : M LD := m.bind fun jp ρ => match ρ[jp.1]? with
  | some (.c k d) => match subT d jp.2 with
    | some d1 => if d1.isS then .ok (9, d1) ρ else .ok (0, d1) (ρ.set jp.1 (.c (min k jp.2.length) d))
    | none => .no
  | _ => .no
end
section
variable {K : PySem.W.Frag} {H H' : Hp} {L : List Item} {Rs : List Addr} {ρ : Rho} {σ : Sg} {T : List Item}
theorem its_map_at {k : Nat} {ds : List D} {ws : List V} {n : Nat} {y : D} {u : V} (hl : ds.length = ws.length) (h1 : ds[n]? = some y) (h2 : ws[n]? = some u) : (its k ds ws).Perm ((k, y, u) :: its k (ds.eraseIdx n) (ws.eraseIdx n)) := its_at hl h1 h2
theorem set_same {α : Type} {l : List α} {n : Nat} {a : α} (h : l[n]? = some a) : l.set n a = l := by
  obtain ⟨hi, e⟩ := List.getElem?_eq_some_iff.mp h
  rw [← e, List.set_getElem_self]
theorem Good.shareAt {d1 : D} {u : V} : ∀ {π : List Step} {Rs : List Addr} {L : List Item} {k : Nat} {d : D} {v : V}, Good K Rs H ((k, d, v) :: L) → Fol H v π u → subT d π = some d1 → Good K Rs H ((0, d1, u) :: (min k π.length, d, v) :: L)
  | [], Rs, L, k, d, v, g, f, e => by cases e; cases f; rw [List.length_nil, Nat.min_zero]; exact g.share
  | .ix n :: π, Rs, L, k, d, v, g, f, e => by
    cases d with
    | lst ds =>
      obtain ⟨p, ws, w, rfl, h1, h2, f'⟩ := f
      have e' : (ds[n]?).bind (fun x => subT x π) = some d1 := e
      cases ex : ds[n]? with
      | none => rw [ex] at e'; cases e'
      | some x =>
        rw [ex] at e'
        have e2 : subT x π = some d1 := e'
        cases k with
        | zero =>
          obtain ⟨p', ws', e3, h3, hl, g1⟩ := g.dup.frz_inv
          cases e3
          rw [h1] at h3; cases h3
          have g2 : Good K Rs H ((0, x, w) :: (its 0 (ds.eraseIdx n) (ws.eraseIdx n) ++ ((0, .lst ds, .ref p) :: L))) := g1.perm ((its_at hl ex h2).append_right _)
          have g3 := Good.shareAt g2 f' e2
          rw [Nat.zero_min]
          have g4 : Good K Rs H ([(0, d1, u)] ++ (((min 0 π.length, x, w) :: its 0 (ds.eraseIdx n) (ws.eraseIdx n)) ++ ((0, .lst ds, .ref p) :: L))) := g3
          exact g4.mid
        | succ k =>
          obtain ⟨p', ws', e3, h3, hl, g1⟩ := g.own_inv
          cases e3
          rw [h1] at h3; cases h3
          have g2 : Good K (p :: Rs) H ((k, x, w) :: (its k (ds.eraseIdx n) (ws.eraseIdx n) ++ L)) := g1.perm ((its_at hl ex h2).append_right _)
          have g3 := Good.shareAt g2 f' e2
          have g4 : Good K (p :: Rs) H ((0, d1, u) :: ((min k π.length, x, w) :: its (min k π.length) (ds.eraseIdx n) (ws.eraseIdx n) ++ L)) :=
            g3.weak (.cons (Nat.le_refl _) (.cons (Nat.le_refl _) (Wk.append (Wk.its (Nat.min_le_left _ _) _ _) (Wk.refl L))))
          have g5 : Good K (p :: Rs) H (its (min k π.length) ds ws ++ ((0, d1, u) :: L)) := g4.perm (by
            refine (List.Perm.trans ?_ ((its_at hl ex h2).symm.append_right _))
            exact (List.perm_middle (l₁ := (min k π.length, x, w) :: its (min k π.length) (ds.eraseIdx n) (ws.eraseIdx n)) (a := (0, d1, u)) (l₂ := L)).symm)
          rw [List.length_cons, Nat.succ_min_succ]
          exact (Good.own h1 hl g5).perm (.swap _ _ _)
    | _ => cases e
  | .ky kk :: π, Rs, L, k, d, v, g, f, e => by
    cases d with
    | dic ks =>
      obtain ⟨p, kvs, w, rfl, h1, h2, f'⟩ := f
      have e' : (lookK ks kk).bind (fun x => subT x π) = some d1 := e
      cases ex : lookK ks kk with
      | none => rw [ex] at e'; cases e'
      | some x =>
        rw [ex] at e'
        have e2 : subT x π = some d1 := e'
        cases k with
        | zero =>
          obtain ⟨p', kvs', e3, h3, hk, g1⟩ := g.dup.dicF_inv
          cases e3
          rw [h1] at h3; cases h3
          have hl : (ks.map (·.2)).length = (kvs.map (·.2)).length := by simpa using (congrArg List.length hk).symm
          obtain ⟨n, b, q1, q2, q3, _⟩ := lookK_at hk ex
          rw [h2] at q1; cases q1
          have g2 := g1.perm ((its_at hl q2 q3).append_right _)
          have g3 := Good.shareAt g2 f' e2
          rw [Nat.zero_min]
          have g4 : Good K Rs H ([(0, d1, u)] ++ (((min 0 π.length, x, w) :: its 0 ((ks.map (·.2)).eraseIdx n) ((kvs.map (·.2)).eraseIdx n)) ++ ((0, .dic ks, .ref p) :: L))) := g3
          exact g4.mid
        | succ k =>
          obtain ⟨p', kvs', e3, h3, hk, g1⟩ := g.dicO_inv
          cases e3
          rw [h1] at h3; cases h3
          have hl : (ks.map (·.2)).length = (kvs.map (·.2)).length := by simpa using (congrArg List.length hk).symm
          obtain ⟨n, b, q1, q2, q3, _⟩ := lookK_at hk ex
          rw [h2] at q1; cases q1
          have g2 := g1.perm ((its_at hl q2 q3).append_right _)
          have g3 := Good.shareAt g2 f' e2
          have g4 : Good K (p :: Rs) H ((0, d1, u) :: ((min k π.length, x, w) :: its (min k π.length) ((ks.map (·.2)).eraseIdx n) ((kvs.map (·.2)).eraseIdx n) ++ L)) :=
            g3.weak (.cons (Nat.le_refl _) (.cons (Nat.le_refl _) (Wk.append (Wk.its (Nat.min_le_left _ _) _ _) (Wk.refl L))))
          have g5 : Good K (p :: Rs) H (its (min k π.length) (ks.map (·.2)) (kvs.map (·.2)) ++ ((0, d1, u) :: L)) := g4.perm (by
            refine (List.Perm.trans ?_ ((its_at hl q2 q3).symm.append_right _))
            exact (List.perm_middle (l₁ := (min k π.length, x, w) :: its (min k π.length) ((ks.map (·.2)).eraseIdx n) ((kvs.map (·.2)).eraseIdx n)) (a := (0, d1, u)) (l₂ := L)).symm)
          rw [List.length_cons, Nat.succ_min_succ]
          exact (Good.dicO h1 hk g5).perm (.swap _ _ _)
    | _ => cases e
end
section
variable {X : Cx} {W : Wish} {P : Sg → Prop} {e ea eb : Expr} {es : List Expr} {pos p1 : Pos} {mp : M Place} {b : Rho → Option D} {k : Nat}
theorem v_rdP (h : PE X e (tPl X.K W mp)) : PE X e (tV X.K W (rdP mp)) := by
  refine PE.imp h fun σ H Q ⟨ρ, T, rel, a⟩ => ⟨ρ, T, rel, a.bind.imp fun jp ρ1 q1 v H1 r1 ⟨r, hr, f⟩ => ?_⟩
  obtain ⟨j, π⟩ := jp
  cases ec : ρ1[j]? with
  | none => simp only [ec] at q1; exact q1.elim
  | some c =>
    cases c with
    | u => simp only [ec] at q1; exact q1.elim
    | c k d =>
      simp only [ec] at q1
      cases es : subT d π with
      | none => rw [es] at q1; exact q1.elim
      | some d1 =>
        rw [es] at q1
        simp only at q1
        obtain ⟨r', hr', kd⟩ := r1.kd ec
        rw [hr] at hr'
        cases hr'
        by_cases s : d1.isS = true
        · rw [if_pos s] at q1
          obtain rfl := (KD.sub (d := d) (r := r) kd f es).isS s
          exact q1 _ H1 (r1.scal s)
        · rw [if_neg s] at q1
          obtain ⟨L, c, g⟩ := r1.move2 ec hr
          have g2 := Good.shareAt (L := T ++ L) g f es
          have r2 : Rel X.K H1 (ρ1.set j .u) σ ((min k π.length, d, r) :: (0, d1, v) :: T) := ⟨L, c, g2.perm (.swap _ _ _)⟩
          have r3 := r2.back (getElem?_set_u ec) hr
          rw [set_set_c] at r3
          exact q1 v H1 r3

/-! ### a change at a place -/
def lift1 (o : MO) : Step → MO
  | .ix n => fun k d xs => match k, d with
    | k + 1, .lst ds => match ds[n]? with
      | some d1 => match o k d1 xs with
        | some (z, k2, d2) => some (z, min k k2 + 1, .lst (ds.set n d2))
        | none => none
      | none => none
    | _, _ => none
  | .ky kk => fun k d xs => match k, d with
    | k + 1, .dic ks => match lookK ks kk with
      | some d1 => match o k d1 xs with
        | some (z, k2, d2) => some (z, min k k2 + 1, .dic (setK ks kk d2))
        | none => none
      | none => none
    | _, _ => none
def liftP (o : MO) : List Step → MO
  | [] => o
  | s :: π => lift1 (liftP o π) s
def rAt (r : V → List V → Hp → VK → Prop) (π : List Step) : V → List V → Hp → VK → Prop := fun v vs H Q => ∃ u, Fol H v π u ∧ r u vs H Q
end
section
variable {K : PySem.W.Frag}
/-- the same, whatever the node that is changed -/
def MutAt (K : PySem.W.Frag) (r : V → List V → Hp → VK → Prop) (o : MO) : Prop := ∀ (Rs : List Addr) (H : Hp) (L : List Item) (k : Nat) (d : D) (xs : List LD) (v : V) (vs : List V) (z : LD) (k' : Nat) (d' : D),
  Good K Rs H ((k, d, v) :: (itemsOf xs vs ++ L)) → xs.length = vs.length → o k d xs = some (z, k', d') →
  ∃ u b ob, (∀ p ∈ Rs, b ≠ p) ∧ Good K Rs (upd H b ob) ((k', d', v) :: (z.1, z.2, u) :: L) ∧ ∀ Q : VK, Q u (upd H b ob) → r v vs H Q
theorem m_at {r : V → List V → Hp → VK → Prop} {o : MO} (h : MutOp K r o) : ∀ π : List Step, MutAt K (rAt r π) (liftP o π)
  | [] => by
    intro Rs H L k d xs v vs z k' d' g hl e
    obtain ⟨u, b, ob, e1, e2, g2, f⟩ := h Rs H L k d xs v vs z k' d' g hl e
    exact ⟨u, b, ob, e2, g2, fun Q q => ⟨v, rfl, f Q q⟩⟩
  | .ix n :: π => by
    intro Rs H L k d xs v vs z k' d' g hl e
    have e0 : lift1 (liftP o π) (.ix n) k d xs = some (z, k', d') := e
    unfold lift1 at e0
    cases k with
    | zero => cases e0
    | succ k =>
      cases d with
      | lst ds =>
        simp only at e0
        cases ex : ds[n]? with
        | none => rw [ex] at e0; cases e0
        | some d1 =>
          rw [ex] at e0
          simp only at e0
          cases eo : liftP o π k d1 xs with
          | none => rw [eo] at e0; cases e0
          | some zz =>
            obtain ⟨z', k2, d2⟩ := zz
            rw [eo] at e0
            cases e0
            obtain ⟨p, ws, rfl, h1, h2, g1⟩ := g.own_inv
            have hn : n < ws.length := by rw [← h2]; exact (List.getElem?_eq_some_iff.mp ex).1
            have hw : ws[n]? = some ws[n] := List.getElem?_eq_getElem hn
            have g2 : Good K (p :: Rs) H ((k, d1, ws[n]) :: (itemsOf xs vs ++ (its k (ds.eraseIdx n) (ws.eraseIdx n) ++ L))) := g1.perm ((((its_at h2 ex hw).append_right _)).trans (by
              rw [List.cons_append]
              refine List.Perm.cons _ ?_
              rw [← List.append_assoc, ← List.append_assoc]
              exact List.perm_append_comm.append_right L))
            obtain ⟨u, b, ob, e2, g3, f⟩ := m_at h π (p :: Rs) H _ k d1 xs ws[n] vs z k2 d2 g2 hl eo
            have hb : b ≠ p := e2 p List.mem_cons_self
            have h3 : upd H b ob p = some (.lst ws) := by rw [upd_ne (fun e => hb e.symm)]; exact h1
            have g4 : Good K (p :: Rs) (upd H b ob) ((min k k2, d2, ws[n]) :: (z.1, z.2, u) :: (its (min k k2) (ds.eraseIdx n) (ws.eraseIdx n) ++ L)) :=
              g3.weak (.cons (Nat.min_le_right _ _) (.cons (Nat.le_refl _) (Wk.append (Wk.its (Nat.min_le_left _ _) _ _) (Wk.refl L))))
            have g5 : Good K (p :: Rs) (upd H b ob) (its (min k k2) (ds.set n d2) ws ++ ((z.1, z.2, u) :: L)) := g4.perm (by
              have p1 := its_set (k := min k k2) (y := d2) (u := ws[n]) h2 (by rw [h2]; exact hn)
              rw [set_same hw] at p1
              exact ((List.perm_middle (l₁ := (min k k2, d2, ws[n]) :: its (min k k2) (ds.eraseIdx n) (ws.eraseIdx n)) (a := (z.1, z.2, u)) (l₂ := L)).trans (.swap _ _ _)).symm.trans (p1.append_right _))
            refine ⟨u, b, ob, fun q hq => e2 q (List.mem_cons_of_mem _ hq), Good.own h3 (by rw [List.length_set]; exact h2) g5, fun Q q => ?_⟩
            obtain ⟨u', f1, f2⟩ := f Q q
            exact ⟨u', ⟨p, ws, _, rfl, h1, hw, f1⟩, f2⟩
      | _ => cases e0
  | .ky kk :: π => by
    intro Rs H L k d xs v vs z k' d' g hl e
    have e0 : lift1 (liftP o π) (.ky kk) k d xs = some (z, k', d') := e
    unfold lift1 at e0
    cases k with
    | zero => cases e0
    | succ k =>
      cases d with
      | dic ks =>
        simp only at e0
        cases ex : lookK ks kk with
        | none => rw [ex] at e0; cases e0
        | some d1 =>
          rw [ex] at e0
          simp only at e0
          cases eo : liftP o π k d1 xs with
          | none => rw [eo] at e0; cases e0
          | some zz =>
            obtain ⟨z', k2, d2⟩ := zz
            rw [eo] at e0
            cases e0
            obtain ⟨p, kvs, rfl, h1, hk, g1⟩ := g.dicO_inv
            have h2 : (ks.map (·.2)).length = (kvs.map (·.2)).length := by simpa using (congrArg List.length hk).symm
            obtain ⟨n, w, q1, q2, hw, q4, q5, q6⟩ := lookK_at hk ex
            have hn : n < (kvs.map (·.2)).length := (List.getElem?_eq_some_iff.mp hw).1
            have g2 : Good K (p :: Rs) H ((k, d1, w) :: (itemsOf xs vs ++ (its k ((ks.map (·.2)).eraseIdx n) ((kvs.map (·.2)).eraseIdx n) ++ L))) := g1.perm ((((its_at h2 q2 hw).append_right _)).trans (by
              rw [List.cons_append]
              refine List.Perm.cons _ ?_
              rw [← List.append_assoc, ← List.append_assoc]
              exact List.perm_append_comm.append_right L))
            obtain ⟨u, b, ob, e2, g3, f⟩ := m_at h π (p :: Rs) H _ k d1 xs w vs z k2 d2 g2 hl eo
            have hb : b ≠ p := e2 p List.mem_cons_self
            have h3 : upd H b ob p = some (.dK kvs) := by rw [upd_ne (fun e => hb e.symm)]; exact h1
            have g4 : Good K (p :: Rs) (upd H b ob) ((min k k2, d2, w) :: (z.1, z.2, u) :: (its (min k k2) ((ks.map (·.2)).eraseIdx n) ((kvs.map (·.2)).eraseIdx n) ++ L)) :=
              g3.weak (.cons (Nat.min_le_right _ _) (.cons (Nat.le_refl _) (Wk.append (Wk.its (Nat.min_le_left _ _) _ _) (Wk.refl L))))
            have g5 : Good K (p :: Rs) (upd H b ob) (its (min k k2) ((setK ks kk d2).map (·.2)) (kvs.map (·.2)) ++ ((z.1, z.2, u) :: L)) := g4.perm (by
              have p1 := its_set (k := min k k2) (y := d2) (u := w) h2 (by rw [h2]; exact hn)
              rw [set_same hw] at p1
              rw [(q4 d2).1]
              exact ((List.perm_middle (l₁ := (min k k2, d2, w) :: its (min k k2) ((ks.map (·.2)).eraseIdx n) ((kvs.map (·.2)).eraseIdx n)) (a := (z.1, z.2, u)) (l₂ := L)).trans (.swap _ _ _)).symm.trans (p1.append_right _))
            refine ⟨u, b, ob, fun q hq => e2 q (List.mem_cons_of_mem _ hq), Good.dicO h3 (by rw [(q4 d2).2]; exact hk) g5, fun Q q => ?_⟩
            obtain ⟨u', f1, f2⟩ := f Q q
            exact ⟨u', ⟨p, kvs, w, rfl, h1, q1, f1⟩, f2⟩
      | _ => cases e0
/-- d[k] = e, as a change -/
def moPut (kk : Key) : MO := fun k d xs => match k, d, xs with
  | k + 1, .dic ks, [x] => if (ks.map (·.1)).Nodup ∧ ks.length < lineN then some ((9, .non), min k x.1 + 1, .dic (setK ks kk x.2)) else none
  | _, _, _ => none
theorem setK_none {α : Type} {κ : Type} [DecidableEq κ] {kk : κ} {a : α} : ∀ {ks : List (κ × α)}, lookK ks kk = none → setK ks kk a = ks ++ [(kk, a)]
  | [], _ => rfl
  | (j, b) :: r, h => by
    unfold lookK at h
    unfold setK
    by_cases e : j = kk
    · rw [if_pos e] at h; cases h
    · rw [if_neg e] at h ⊢; rw [setK_none h]; rfl
theorem m_put {kk : Key} : MutOp K (fun o vs H Q => ∃ v a H4, vs = [v] ∧ o = .ref a ∧ DPut H a (kV kk) v H4 ∧ Q .non H4) (moPut kk) := by
  intro Rs H L k d xs v vs z k' d' g hl e
  unfold moPut at e
  split at e
  · rename_i k ks x
    by_cases hz : (ks.map (·.1)).Nodup ∧ ks.length < lineN
    · rw [if_pos hz] at e
      cases e
      match vs, hl with
      | [w], _ =>
        have g1 : Good K Rs H ((k + 1, .dic ks, v) :: (x.1, x.2, w) :: L) := g
        obtain ⟨p, kvs, rfl, h1, hk, g2⟩ := g1.dicO_inv
        have h2 : (ks.map (·.2)).length = (kvs.map (·.2)).length := by simpa using (congrArg List.length hk).symm
        have hl2 : kvs.length = ks.length := by simpa using congrArg List.length hk
        have ep : putK kvs kk w = setK kvs kk w := putK_set (by rw [hk]; exact hz.1)
        have dp : DPut H p (kV kk) w (upd H p (.dK (setK kvs kk w))) := by
          rw [← ep]
          exact DPut.k h1 (by rw [lineE, hl2]; exact hz.2)
        refine ⟨.non, p, .dK (setK kvs kk w), rfl, nodup_res g2, ?_, fun Q q => ⟨w, p, _, rfl, rfl, dp, q⟩⟩
        have key : Good K (p :: Rs) H (its (min k x.1) ((setK ks kk x.2).map (·.2)) ((setK kvs kk w).map (·.2)) ++ L) ∧ (setK kvs kk w).map (·.1) = (setK ks kk x.2).map (·.1) := by
          cases ex : lookK ks kk with
          | none =>
            rw [setK_none ex, setK_none (lookK_none hk ex), List.map_append, List.map_append, List.map_append, List.map_append, hk]
            exact ⟨its_both (k1 := k) (k2 := x.1) h2 (Nat.min_le_left _ _) (Nat.min_le_right _ _) g2, rfl⟩
          | some d1 =>
            obtain ⟨n, w1, q1, q2, hw, q4, q5, q6⟩ := lookK_at hk ex
            have hn : n < (kvs.map (·.2)).length := (List.getElem?_eq_some_iff.mp hw).1
            have g3 := (g2.perm ((its_at h2 q2 hw).append_right _)).tail
            have g4 : Good K (p :: Rs) H ((x.1, x.2, w) :: (its k ((ks.map (·.2)).eraseIdx n) ((kvs.map (·.2)).eraseIdx n) ++ L)) := g3.perm List.perm_middle
            have g5 : Good K (p :: Rs) H ((min k x.1, x.2, w) :: (its (min k x.1) ((ks.map (·.2)).eraseIdx n) ((kvs.map (·.2)).eraseIdx n) ++ L)) :=
              g4.weak (.cons (Nat.min_le_right _ _) (Wk.append (Wk.its (Nat.min_le_left _ _) _ _) (Wk.refl L)))
            have e3 := q6 w
            rw [(q4 x.2).1, e3]
            refine ⟨g5.perm ((its_set (k := min k x.1) (y := x.2) (u := w) h2 (by rw [h2]; exact hn)).append_right L), ?_⟩
            rw [setK_keys, setK_keys, hk]
        exact ((Good.dicO upd_same key.2 (key.1.wr (by rw [h1]; exact True.intro))).non (k := 9)).perm (.swap _ _ _)
    · rw [if_neg hz] at e; cases e
  · cases e
end
end Vs
set_option Elab.async false
set_option linter.all false
set_option maxRecDepth 100000
set_option maxHeartbeats 2000000
/-! Vs10: methods of a list at a place, stores at a place, displays of dicts. -/
namespace Vs
open PySem PySem.Spec PyProof.Rows L2

/-! ### still rows -/
def qRow : List (Rho → Option D) → Rho → Option (List D)
  | [], _ => some []
  | m :: ms, ρ => match m ρ, qRow ms ρ with
    | some d, some ds => if d.isS then some (d :: ds) else none
    | _, _ => none
def tQs (K : PySem.W.Frag) (ms : List (Rho → Option D)) : TA := fun σ H Q => ∃ ρ T, Rel K H ρ σ T ∧ ∃ ds, qRow ms ρ = some ds ∧ Q (ds.map D.sv) H
section
variable {X : Cx} {W : Wish} {P : Sg → Prop} {e ea eb : Expr} {es : List Expr} {pos p1 apos cpos : Pos} {mp : M Place} {b : Rho → Option D} {bs : List (Rho → Option D)} {k : Nat} {name : Str} {id : String} {r : V → List V → Hp → VK → Prop} {o : MO}
theorem qs_nil : PA X [] (tQs X.K []) := PA.imp pa_nil fun σ H Q ⟨ρ, T, rel, ds, e, q⟩ => by cases e; exact q
theorem qs_cons (h : PE X e (tQ X.K b)) (hs : PA X es (tQs X.K bs)) (he : starEach (e :: es) X.env = (false, eval e X.env) :: starEach es X.env := by rfl) : PA X (e :: es) (tQs X.K (b :: bs)) := by
  refine PA.imp (pa_cons h hs he) fun σ H Q ⟨ρ, T, rel, ds, e, q⟩ => ?_
  unfold qRow at e
  cases e1 : b ρ with
  | none => rw [e1] at e; simp at e
  | some d =>
    cases e2 : qRow bs ρ with
    | none => rw [e1, e2] at e; simp at e
    | some ds' =>
      rw [e1, e2] at e
      simp only at e
      by_cases s : d.isS = true
      · rw [if_pos s] at e
        cases e
        exact ⟨ρ, T, rel, d, e1, s, ρ, T, rel, ds', e2, q⟩
      · rw [if_neg s] at e; cases e
theorem qRow_s : ∀ {ms : List (Rho → Option D)} {ρ : Rho} {ds : List D}, qRow ms ρ = some ds → ds.all D.isS = true
  | [], _, _, e => by cases e; rfl
  | m :: ms, ρ, ds, e => by
    unfold qRow at e
    cases e1 : m ρ with
    | none => rw [e1] at e; simp at e
    | some d =>
      cases e2 : qRow ms ρ with
      | none => rw [e1, e2] at e; simp at e
      | some ds' =>
        rw [e1, e2] at e
        simp only at e
        by_cases s : d.isS = true
        · rw [if_pos s] at e
          cases e
          rw [List.all_cons, s, qRow_s e2]
          rfl
        · rw [if_neg s] at e; cases e
theorem Fol.det {H : Hp} : ∀ {π : List Step} {r u w : V}, Fol H r π u → Fol H r π w → u = w
  | [], _, _, _, a, b => by cases a; cases b; rfl
  | .ix n :: π, _, _, _, ⟨p, ws, x, e, h1, h2, f⟩, ⟨p', ws', x', e', h1', h2', f'⟩ => by
    subst e
    cases e'
    rw [h1] at h1'; cases h1'
    rw [h2] at h2'; cases h2'
    exact Fol.det f f'
  | .ky n :: π, _, _, _, ⟨p, ws, x, e, h1, h2, f⟩, ⟨p', ws', x', e', h1', h2', f'⟩ => by
    subst e
    cases e'
    rw [h1] at h1'; cases h1'
    rw [h2] at h2'; cases h2'
    exact Fol.det f f'
theorem scal_row {K : PySem.W.Frag} {H : Hp} {Rs : List Addr} {L : List Item} : ∀ {ds : List D}, ds.all D.isS = true → Good K Rs H L → Good K Rs H (itemsOf (ds.map fun d => ((9, d) : LD)) (ds.map D.sv) ++ L)
  | [], _, g => g
  | d :: ds, h, g => by
    rw [List.all_cons, Bool.and_eq_true] at h
    exact (scal_row h.2 g).scal h.1

/-! ### x.append(e) ..., x a place, e still -/
def isL : Option D → Bool
  | some (.lst _) => true
  | _ => false
/-- a change at a place, on values -/
def atP (o : MO) (jp : Place) (xs : List LD) (ρ : Rho) : R LD := match ρ[jp.1]? with
  | some (.c k d) => match liftP o jp.2 k d xs with
    | some (z, k', d') => .ok z (ρ.set jp.1 (.c k' d'))
    | none => .no
  | _ => .no
def mutP (o : MO) (mp : M Place) (bs : List (Rho → Option D)) : M LD := mp.bind fun jp ρ => match ρ[jp.1]?, qRow bs ρ with
  | some (.c _ d), some ds => if isL (subT d jp.2) then atP o jp (ds.map fun d => (9, d)) ρ else .no
  | _, _ => .no
theorem atP_run (ho : MutOp X.K r o) {σ : Sg} {T : List Item} {ρ1 : Rho} {H1 : Hp} {xs : List LD} {vs : List V} {rt v : V} {j : Nat} {π : List Step} {Q : VK} {Wt : Wish} (hv : σ[j]? = some (some rt)) (hf : Fol H1 rt π v) (hl : xs.length = vs.length) (r1 : Rel X.K H1 ρ1 σ (itemsOf xs vs ++ T))
    (q : Aft Wt T (atP o (j, π) xs ρ1) fun z ρ' => ∀ u H', Rel X.K H' ρ' σ ((z.1, z.2, u) :: T) → Q u H') : r v vs H1 Q := by
  unfold atP at q
  cases e1 : ρ1[j]? with
  | none => simp only [e1] at q; exact q.elim
  | some c =>
    cases c with
    | u => simp only [e1] at q; exact q.elim
    | c k d =>
      simp only [e1] at q
      cases e2 : liftP o π k d xs with
      | none => rw [e2] at q; exact q.elim
      | some zz =>
        obtain ⟨z, k', d'⟩ := zz
        rw [e2] at q
        obtain ⟨L, c, g⟩ := r1.move2 e1 hv
        have g' : Good X.K [] H1 ((k, d, rt) :: (itemsOf xs vs ++ (T ++ L))) := by
          rw [List.cons_append, List.append_assoc] at g
          exact g
        obtain ⟨u, b, ob, _, g2, f⟩ := m_at ho π [] H1 (T ++ L) k d xs rt vs z k' d' g' hl e2
        obtain ⟨v', f1, f2⟩ := f Q (q u _ (by
          have r2 : Rel X.K (upd H1 b ob) (ρ1.set j .u) σ ((k', d', rt) :: (z.1, z.2, u) :: T) := ⟨L, c, g2⟩
          have r3 := r2.back (getElem?_set_u e1) hv
          rwa [set_set_c] at r3))
        obtain rfl := Fol.det hf f1
        exact f2
theorem v_mutP (slot : Slot "list" name id) (hty : typeOf (.builtin id) = pure (.type "method_descriptor")) (hm : MtR X id r) (ho : MutOp X.K r o) (hn : PE X ea (tPl X.K W mp)) (ha : PA X (e :: es) (tQs X.K bs))
    (hbase : attributeBase ea name X.env (eval ea X.env) = eval ea X.env := by rfl)
    (hfew : ((backTo cpos (starEach (e :: es) X.env)).all (fun x => !x.1) && (backToKw cpos (keywordEach [] X.env)).all (fun x => x.1.isSome)
      && decide ((e :: es).length + ([] : List Keyword).length + (if ([] : List Keyword).isEmpty then 0 else 1) < 30)) = true := by rfl)
    (hline : (apos.endLine == cpos.line) = true := by rfl) (hs : starEach (e :: es) X.env = (false, eval e X.env) :: starEach es X.env := by rfl) (hplain : (backTo cpos (starEach es X.env)).any (·.1) = false := by rfl) :
    PE X (.Call (.Attribute ea name apos) (e :: es) [] cpos) (tV X.K W (mutP o mp bs)) := by
  refine PE.imp (pe_bm PySem.F.plainAttrs_list slot hty hm hn ha hbase hfew hline hs hplain) fun σ H Q ⟨ρ, T, rel, a⟩ => ?_
  refine ⟨ρ, T, rel, a.bind.imp fun jp ρ1 q1 v H1 r1 ⟨rt, hrt, f⟩ => ?_⟩
  obtain ⟨j, π⟩ := jp
  cases ec : ρ1[j]? with
  | none => simp only [ec] at q1; exact q1.elim
  | some c =>
    cases c with
    | u => simp only [ec] at q1; exact q1.elim
    | c k d =>
      cases eq : qRow bs ρ1 with
      | none => simp only [ec, eq] at q1; exact q1.elim
      | some ds =>
        simp only [ec, eq] at q1
        by_cases hL : isL (subT d π) = true
        · rw [if_pos hL] at q1
          obtain ⟨r', hr', kd⟩ := r1.kd ec
          rw [hrt] at hr'
          cases hr'
          cases es : subT d π with
          | none => rw [es] at hL; cases hL
          | some d1 =>
            cases d1 with
            | lst xs =>
              obtain ⟨p, ws, rfl, h1, _⟩ := (KD.sub (d := d) (r := rt) kd f es).lst
              refine ⟨.inl ⟨rfl, ws, SqL.of h1⟩, ρ1, T, r1, ds, eq, ?_⟩
              have rs : Rel X.K H1 ρ1 σ (itemsOf (ds.map fun d => ((9, d) : LD)) (ds.map D.sv) ++ T) := r1.good fun L g => by
                rw [List.append_assoc]
                exact scal_row (qRow_s eq) g
              exact atP_run ho hrt f (by simp) rs q1
            | _ => rw [es] at hL; cases hL
        · rw [if_neg hL] at q1; exact q1.elim
theorem v_mutP0 (slot : Slot "list" name id) (hty : typeOf (.builtin id) = pure (.type "method_descriptor")) (hm : MtR X id r) (ho : MutOp X.K r o) (hn : PE X ea (tPl X.K W mp))
    (hbase : attributeBase ea name X.env (eval ea X.env) = eval ea X.env := by rfl) (hline : (apos.endLine == cpos.line) = true := by rfl) :
    PE X (.Call (.Attribute ea name apos) [] [] cpos) (tV X.K W (mutP o mp [])) := by
  refine PE.imp (pe_bm0 PySem.F.plainAttrs_list slot hty hm hn hbase hline) fun σ H Q ⟨ρ, T, rel, a⟩ => ?_
  refine ⟨ρ, T, rel, a.bind.imp fun jp ρ1 q1 v H1 r1 ⟨rt, hrt, f⟩ => ?_⟩
  obtain ⟨j, π⟩ := jp
  cases ec : ρ1[j]? with
  | none => simp only [ec] at q1; exact q1.elim
  | some c =>
    cases c with
    | u => simp only [ec] at q1; exact q1.elim
    | c k d =>
      simp only [ec, qRow] at q1
      by_cases hL : isL (subT d π) = true
      · rw [if_pos hL] at q1
        obtain ⟨r', hr', kd⟩ := r1.kd ec
        rw [hrt] at hr'
        cases hr'
        cases es : subT d π with
        | none => rw [es] at hL; cases hL
        | some d1 =>
          cases d1 with
          | lst xs =>
            obtain ⟨p, ws, rfl, h1, _⟩ := (KD.sub (d := d) (r := rt) kd f es).lst
            exact ⟨.inl ⟨rfl, ws, SqL.of h1⟩, atP_run (xs := []) (vs := []) ho hrt f rfl r1 q1⟩
          | _ => rw [es] at hL; cases hL
      · rw [if_neg hL] at q1; exact q1.elim

/-! ### place[i] = e -/
def rSetX : V → V → V → Hp → (Hp → Prop) → Prop := fun o i v H Q => rSetL o i v H Q ∨ ∃ a H4, o = .ref a ∧ DPut H a i v H4 ∧ Q H4
theorem set_any (hu : X.A.units + 1 < cLine) : PSet X rSetX := by
  intro pins s σ H o i v ov iv u Q I ro ri rv h
  rcases h with h | ⟨a, H4, rfl, g, q⟩
  · exact set_list pins s σ H o i v ov iv u Q I ro ri rv h
  · cases ro
    exact d_setItem hu I g ri rv fun s4 I4 => ⟨H4, I4, q⟩
def putO (d : Option D) (y : D) : Option MO := match d, y with
  | some (.lst _), .int i => some (moSet i)
  | some (.dic _), .int i => some (moPut (Sum.inl i))
  | some (.dic _), .str x => some (moPut (Sum.inr x))
  | _, _ => none
def gAt (mp : M Place) (b : Rho → Option D) : G := fun y ρ => match mp ρ with
  | .ok (j, π) ρ1 => match ρ1[j]?, b ρ1 with
    | some (.c k d), some i => match putO (subT d π) i with
      | some o => match liftP o π k d [y] with
        | some (_, k', d') => some (ρ1.set j (.c k' d'))
        | none => none
      | none => none
    | _, _ => none
  | _ => none
theorem g_at (hr : Room k X.A) (hn : PE X ea (tPl X.K W0 mp)) (hi : PE X eb (tQ X.K b))
    (ha : ∀ v, assign (.Subscript ea eb pos) X.env v = (do
      let ov ← holding [v] (eval ea X.env)
      let iv ← holding [v, ov] (eval eb X.env)
      standAt pos
      holding [v, ov, iv] (setItem ov iv v)
      release [v, ov, iv] []) := by intro _; rfl) : PG X (.Subscript ea eb pos) (tG X.K P (gAt mp b)) := by
  refine PG.imp (pg_sub hn hi (set_any (hu_of hr)) ha) fun w σ H Q ⟨y, ρ, T, rel, p, ρ', e, q⟩ => ?_
  unfold gAt at e
  cases em : mp ρ with
  | no => rw [em] at e; cases e
  | ex _ _ => rw [em] at e; cases e
  | ok jp ρ1 =>
    obtain ⟨j, π⟩ := jp
    rw [em] at e
    simp only at e
    refine ⟨ρ, _, rel, ?_⟩
    rw [em]
    intro v H1 r1 ⟨rt, hrt, f⟩
    cases ec : ρ1[j]? with
    | none => rw [ec] at e; simp at e
    | some c =>
      cases c with
      | u => rw [ec] at e; simp at e
      | c k d =>
        cases ei : b ρ1 with
        | none => rw [ec, ei] at e; simp at e
        | some i =>
          rw [ec, ei] at e
          simp only at e
          cases eo : putO (subT d π) i with
          | none => rw [eo] at e; cases e
          | some o =>
            rw [eo] at e
            simp only at e
            cases el : liftP o π k d [y] with
            | none => rw [el] at e; cases e
            | some zz =>
              obtain ⟨z, k', d'⟩ := zz
              rw [el] at e
              cases e
              have fin : ∀ {r : V → List V → Hp → VK → Prop}, i.isS = true → MutOp X.K r o → (∀ Q : Hp → Prop, r v [w] H1 (fun _ H' => Q H') → rSetX v i.sv w H1 Q) → tQ X.K b σ H1 fun i H2 => rSetX v i w H2 fun H3 => Q σ H3 := fun {r} si hm hs => by
                refine ⟨ρ1, _, r1, i, ei, si, hs _ ?_⟩
                refine atP_run (X := X) (o := o) (j := j) (π := π) (ρ1 := ρ1) (xs := [y]) (vs := [w]) (T := T) (Wt := W0) hm hrt f rfl r1 ?_
                unfold atP
                simp only [ec, el]
                exact fun u H' r' => q σ H' r'.drop p
              unfold putO at eo
              split at eo
              · cases eo
                exact fin rfl m_set fun Q h => by
                  obtain ⟨v', ev, hset⟩ := h
                  cases ev
                  exact .inl hset
              · cases eo
                exact fin rfl m_put fun Q h => by
                  obtain ⟨v', a, H4, ev, eo, dp, q⟩ := h
                  cases ev
                  exact .inr ⟨a, H4, eo, dp, q⟩
              · cases eo
                exact fin rfl m_put fun Q h => by
                  obtain ⟨v', a, H4, ev, eo, dp, q⟩ := h
                  cases ev
                  exact .inr ⟨a, H4, eo, dp, q⟩
              · cases eo

/-! ### displays of dicts -/
def rowM : List (M LD) → M (List LD)
  | [] => noVs
  | m :: ms => consV m (rowM ms)
def dispD (ks : List Key) (ms : List (M LD)) : M LD := (rowM ms).bind fun xs ρ => if xs.length = ks.length then .ok (up (lvl xs), .dic (ks.zip (xs.map (·.2)))) ρ else .no
def trsOf (K : PySem.W.Frag) (W : Wish) (ks : List Key) (ms : List (M LD)) : List (TE × TE) := (ks.zip ms).map fun q => (tC (kV q.1), tV K W q.2)
theorem pairs_run {K : PySem.W.Frag} : ∀ {ks : List Key} {ms : List (M LD)} {σ : Sg} {H : Hp} {Q : List (V × V) → Hp → Prop}, ks.length = ms.length →
    (∃ ρ T, Rel K H ρ σ T ∧ Aft W T (rowM ms ρ) fun xs ρ' => ∀ vs H', xs.length = vs.length → Rel K H' ρ' σ (itemsOf xs vs ++ T) → Q ((ks.map kV).zip vs) H') → tPairs (trsOf K W ks ms) σ H Q
  | [], [], σ, H, Q, _, ⟨ρ, T, rel, a⟩ => a [] H rfl rel
  | [], _ :: _, _, _, _, h, _ => by simp at h
  | _ :: _, [], _, _, _, h, _ => by simp at h
  | k :: ks, m :: ms, σ, H, Q, hl, ⟨ρ, T, rel, a⟩ => by
    show tC (kV k) σ H _
    refine ⟨ρ, T, rel, a.bind.imp fun x ρ1 q1 v H1 r1 => ?_⟩
    refine pairs_run (by simpa using hl) ⟨ρ1, _, r1, (q1.bind.up).imp fun xs ρ2 q2 vs H2 hl2 r2 => ?_⟩
    refine q2 (v :: vs) H2 (by simp [hl2]) (r2.good fun L g => g.perm ?_)
    exact List.perm_middle.append_right L
theorem v_disp {keys : List (Option Expr)} {values : List Expr} {ks : List Key} {ms : List (M LD)} (h : PPs X pos keys values (trsOf X.K W ks ms)) (hk : ks.length = ms.length) (nd : ks.Nodup) (h15 : ks.length ≤ 15)
    (hall : keys.all (·.isSome) = true := by rfl) (hl : keys.length = values.length := by rfl) (h0 : keys ≠ [] := by exact List.cons_ne_nil _ _) (hz : keys.length ≤ 15 := by decide) : PE X (.Dict keys values pos) (tV X.K W (dispD ks ms)) := by
  refine PE.imp (pe_disp h hall hl h0 hz) fun σ H Q ⟨ρ, T, rel, a⟩ p hp => ?_
  have r0 : Rel X.K (upd H p (.dK [])) ρ σ ((8 + 1, .dic [], .ref p) :: T) := rel.good fun L g => Good.newD (k := 8) (ks := []) (kvs := []) g rfl hp
  refine pairs_run hk ⟨ρ, _, r0, (a.bind.up).imp fun xs ρ1 q1 vs H1 hl1 r1 => ?_⟩
  by_cases hx : xs.length = ks.length
  · rw [if_pos hx] at q1
    obtain ⟨L, c, g⟩ := r1
    have g1 : Good X.K [] H1 ((8 + 1, .dic [], .ref p) :: (itemsOf xs vs ++ (T ++ L))) := g.perm (by
      rw [List.append_assoc, List.cons_append]
      exact List.perm_middle)
    obtain ⟨p', kvs, e1, h1, h2, g2⟩ := g1.dicO_inv
    cases e1
    have hkv : kvs = [] := by
      cases kvs with
      | nil => rfl
      | cons a b => simp at h2
    subst hkv
    have hv : ks.length = vs.length := by rw [← hx, hl1]
    have ez : (ks.zip vs).map (·.1) = ks := by rw [List.map_fst_zip]; omega
    refine ⟨h1, ks.zip vs, ?_, by rw [List.length_zip]; omega, ?_⟩
    · rw [List.zip_map_left]
      rfl
    · rw [mergeK_id (ks.zip vs) [] (by rw [List.nil_append, ez]; exact nd), List.nil_append]
      refine q1 (.ref p) _ ⟨L, c, ?_⟩
      have g3 : Good X.K [p] H1 (its (min (lvl xs) 8) (xs.map (·.2)) vs ++ (T ++ L)) := Good.row (xs := xs) (k := min (lvl xs) 8) g2 (Nat.min_le_left _ _)
      refine Good.dicO upd_same ?_ ((Good.wr (o := .dK (ks.zip vs)) ?_ (by rw [h1]; exact True.intro)))
      · rw [ez, List.map_fst_zip]; simp; omega
      · have e2 : (ks.zip (xs.map (·.2))).map (·.2) = xs.map (·.2) := by rw [List.map_snd_zip]; simp; omega
        have e3 : (ks.zip vs).map (·.2) = vs := by rw [List.map_snd_zip]; omega
        rw [e2, e3]
        exact g3
  · rw [if_neg hx] at q1; exact q1.elim
theorem pp_nil : PPs X pos [] [] (trsOf X.K W [] []) := pps_nil
theorem pp_str {x : Str} {j : Nat} {kp : Pos} {v : Expr} {keys : List (Option Expr)} {vs : List Expr} {ks : List Key} {m : M LD} {ms : List (M LD)} (h : PE X v (tV X.K W m)) (hr : PPs X pos keys vs (trsOf X.K W ks ms)) :
    PPs X pos (some (.Constant (.str x) j kp) :: keys) (v :: vs) (trsOf X.K W (Sum.inr x :: ks) (m :: ms)) := pps_cons pe_str h hr
theorem pp_int {x : Int} {j : Nat} {kp : Pos} {v : Expr} {keys : List (Option Expr)} {vs : List Expr} {ks : List Key} {m : M LD} {ms : List (M LD)} (h : PE X v (tV X.K W m)) (hr : PPs X pos keys vs (trsOf X.K W ks ms)) :
    PPs X pos (some (.Constant (.int x) j kp) :: keys) (v :: vs) (trsOf X.K W (Sum.inl x :: ks) (m :: ms)) := pps_cons pe_int h hr
end
end Vs
set_option Elab.async false
set_option linter.all false
set_option maxRecDepth 100000
set_option maxHeartbeats 2000000
/-! Vs11: zip of two rows, enumerate of a row: lists and tuples in any mixture. -/
namespace Vs
open PySem PySem.Spec PyProof.Rows L2

/-- a row: a list (true) or a tuple -/
def SqB (K : PySem.W.Frag) (H : Hp) : Bool → Addr → List V → Prop
  | true, a, xs => SqL K H a xs
  | false, a, xs => SqT K H a xs
def ItB (h : Heap) : Bool → Addr → Addr → Nat → Prop
  | true, it, a, i => h.IsListIter it a i
  | false, it, a, i => h.IsTupleIter it a i
def HoB (h : Heap) : Bool → Addr → Array Value → Prop
  | true, a, xs => h.IsList a xs
  | false, a, xs => h.IsTuple a xs
def newI : Bool → Addr → Obj
  | true, a => { cls := .type "list_iterator", data := .fields #[.ref a, .int 0 0] }
  | false, a => { cls := .type "tuple_iterator", data := .fields #[.ref a, .int 0 0] }
theorem begB (b : Bool) (a : Addr) (xs : Array Value) : Begins (.ref a) (newI b a) fun h => HoB h b a xs := by
  cases b with
  | true => exact begins_list a xs
  | false => exact begins_tuple a xs
theorem drawB {prog : Program} {w : World} {A : Around} (hh : A.handled = none) (b : Bool) (it a : Addr) (hne : a ≠ it) (xs : Array Value) :
    Draws prog w A it [it, a] xs.size (fun i v => xs[i]? = some v) (fun i h => ItB h b it a i ∧ HoB h b a xs) := by
  cases b with
  | true => exact Draws.list hh it a hne xs
  | false => exact Draws.tuple hh it a hne xs
theorem iniB {h : Heap} (b : Bool) {it a : Addr} (e : h.get? it = some (newI b a)) : ItB h b it a 0 := by
  cases b with
  | true => exact ⟨_, e, rfl, rfl⟩
  | false => exact ⟨_, e, rfl, rfl⟩
theorem ItB.obj {h : Heap} {b : Bool} {it a : Addr} {i : Nat} (t : ItB h b it a i) : ∃ o vs, h.get? it = some o ∧ o.data = .fields vs := by
  cases b with
  | true => obtain ⟨o, e, _, d⟩ := t; exact ⟨o, _, e, d⟩
  | false => obtain ⟨o, e, _, d⟩ := t; exact ⟨o, _, e, d⟩
theorem ItB.at {h h' : Heap} {b : Bool} {it a : Addr} {i : Nat} (t : ItB h b it a i) (k : ∀ o, h.get? it = some o → h'.get? it = some o) : ItB h' b it a i := by
  cases b with
  | true => obtain ⟨o, e, c, d⟩ := t; exact ⟨o, k o e, c, d⟩
  | false => obtain ⟨o, e, c, d⟩ := t; exact ⟨o, k o e, c, d⟩
section
variable {X : Cx} {pins : List (Addr × Obj)} {σ : Sg} {H : Hp} {s : Shared}
theorem rowB (I : Inv X pins σ H s) {b : Bool} {a : Addr} {xs : List V} (h : SqB X.K H b a xs) : ∃ us : List Value, Vals xs us ∧ HoB s.heap b a us.toArray := by
  cases b with
  | true => obtain ⟨us, r, p, _⟩ := I.list h; exact ⟨us, r, p.isList⟩
  | false => obtain ⟨us, r, p, _⟩ := I.tuple h; exact ⟨us, r, p⟩
theorem injB (I : Inv X pins σ H s) {b : Bool} {a : Addr} {xs ys : List V} (h : SqB X.K H b a xs) (h' : SqB X.K H b a ys) : xs = ys := by
  cases b with
  | true => exact I.list_inj h h'
  | false => exact I.tuple_inj h h'
theorem HoB.lt {h : Heap} {b : Bool} {a : Addr} {xs : Array Value} (t : HoB h b a xs) : a < h.objs.size := by
  cases b with
  | true => obtain ⟨o, e, _⟩ := t; exact Heap.lt_size e
  | false => obtain ⟨o, e, _⟩ := t; exact Heap.lt_size e
end

/-! ### enumerate -/
def Ien (K : PySem.W.Frag) (b : Bool) (a : Addr) : It :=
  ⟨fun i H => ∃ (xs : List V) (x : V), SqB K H b a xs ∧ xs[i]? = some x, fun i H v H' => ∃ T x, v = .ref T ∧ H T = none ∧ H' = upd H T (.tup [.int (i : Nat), x]) ∧ ∀ xs, SqB K H b a xs → xs[i]? = some x, fun i H => ∃ xs : List V, SqB K H b a xs ∧ xs.length = i⟩
theorem turn_en {P : Program} {w : World} {K : PySem.W.Frag} {elts : List Expr} {kk : Nat} {tpos : Pos} (b : Bool) (a e it : Addr) (hai : a ≠ it) (hea : e ≠ a) :
    Turn P w K (.Tuple elts kk tpos) (Ien K b a) [e, it] e (fun i h => (∃ old, IsEnum h e it ((i : Nat) : Int) old) ∧ ItB h b it a i ∧ e ≠ it) where
  mem := by simp
  obj := fun i h st c hc => by
    obtain ⟨⟨old, he⟩, hi, _⟩ := st
    obtain ⟨o, vs, ho, hd⟩ := hi.obj
    have ec : c = e ∨ c = it := by simpa using hc
    rcases ec with z | z
    · rw [z]; exact ⟨_, he, fun v q => nomatch q⟩
    · rw [z]; exact ⟨o, ho, fun v q => by rw [hd] at q; cases q⟩
  keep := fun i h h' st k => let ⟨⟨old, he⟩, hi, hne⟩ := st; ⟨⟨old, k e (by simp) _ he⟩, hi.at fun o q => k it (by simp) o q, hne⟩
  item := by
    intro X hP hw hK hc i pins s σ H E I hf st hg
    subst hP hw hK
    obtain ⟨⟨old, he⟩, hit, hne⟩ := st
    obtain ⟨xs, x, hq, hx⟩ := id hg
    obtain ⟨us, rv, ho⟩ := rowB I hq
    obtain ⟨u, hu, ru⟩ := rv.get hx
    have hel : e < s.heap.objs.size := Heap.lt_size he
    have hil : it < s.heap.objs.size := by obtain ⟨o, _, q, _⟩ := hit.obj; exact Heap.lt_size q
    have hlt : i < us.toArray.size := by rw [List.size_toArray]; exact (List.getElem?_eq_some_iff.mp hu).1
    refine wpAny_pyNext_enum_itemD (drawB (A := X.A.in1) (I.ok.hd hc) b it a hai us.toArray) he ⟨hit, ho⟩ hlt hne (by simp [hne, hea]) fun y h' tk hy hout hst hT hsz hk => ?_
    obtain rfl : y = u := by
      have hy' : us.toArray[i]? = some y := hy
      rw [List.getElem?_toArray, hu] at hy'
      exact (Option.some.inj hy').symm
    refine ⟨_, rfl, wpAny_letOwnedTupleGo_enum (s := { s with heap := h', toks := tk + 1 }) hout fun h'' he' sb => ?_⟩
    have hT2 : h''.get? s.heap.objs.size = some { cls := .type "tuple", data := .seq #[.int i tk, y] } := (sb.2 _ (Nat.ne_of_gt hel)).trans hT
    have new : ObjOk X.prog X.w (upd H s.heap.objs.size (.tup [.int (i : Nat), x])) h'' s.heap.objs.size (.tup [.int (i : Nat), x]) :=
      ⟨by show 2 ≤ sizeLine; decide, [.int i tk, y], .cons ⟨_, rfl⟩ (.cons ru .nil), ⟨_, hT2, rfl, _, rfl⟩⟩
    have I1 : Inv X pins σ (upd H s.heap.objs.size (.tup [.int (i : Nat), x])) { s with heap := h'', toks := tk + 1 } :=
      I.turnedNew (ch := [e, it]) (fun c ob hb q => (sb.2 c (fun z => hb (by simp [z]))).trans (hk c ob (fun z => hb (by simp [z])) (fun z => hb (by simp [z])) q)) hf (Nat.le_refl _) new
    refine ⟨.ref s.heap.objs.size, _, I1, rfl, ⟨_, x, rfl, I.hok.fresh (Nat.le_refl _), rfl, fun ys hy => by rw [injB I hy hq]; exact hx⟩, ⟨⟨y, ?_⟩, hst.1.at fun o q => (sb.2 it (Ne.symm hne)).trans q, hne⟩, fun c hc => ?_⟩
    · have e1 : ((i + 1 : Nat) : Int) = (i : Int) + 1 := by omega
      rw [e1]; exact he'
    · have hlc : c < s.heap.objs.size := by
        have ec : c = e ∨ c = it := by simpa using hc
        rcases ec with z | z
        · rw [z]; exact hel
        · rw [z]; exact hil
      rw [upd_ne (Nat.ne_of_lt hlc)]
      exact (hf c hc).1
  done := by
    intro X hP hw hK hc i pins s σ H E I hf st hg
    subst hP hw hK
    obtain ⟨⟨old, he⟩, hit, hne⟩ := st
    obtain ⟨xs, hq, hx⟩ := hg
    obtain ⟨us, rv, ho⟩ := rowB I hq
    obtain ⟨f0, f1, f2, f3, f4, f5⟩ := hf it (by simp)
    have hl := rv.length
    have hi : i = us.toArray.size := by rw [List.size_toArray, ← hl, hx]
    refine wpAny_pyNext_enum_endD (drawB (A := X.A.in1) (I.ok.hd hc) b it a hai us.toArray) he (by rw [← hi]; exact ⟨hit, ho⟩) fun h' eb => ⟨rfl, I.turned (t' := s.toks) (fun c o hb q => eb c o hb q) f0 f1 f3 f4 f5⟩
  self := fun A i s Q E st h => let ⟨⟨_, he⟩, _⟩ := st; wpAny_pyIter_enum he h
theorem new_enumB {v : Value} {o : Obj} {H : Heap → Prop} (B : Begins v o H) : Meets (Builtin.«enumerate.__new__» ⟨[.type "enumerate", v], []⟩) (fun _ R s => H s.heap ∧
      R (.ok (.ret (.ref (s.heap.push o).objs.size))) { s with heap := (s.heap.push o).push { cls := .type "enumerate", data := .fields #[.none, .bool false, .ref s.heap.objs.size, rawInt 0, .none, .none] } }) :=
  .of_wp fun prog w A R s h => by
    obtain ⟨hp, g, d, tk, os⟩ := s; obtain ⟨h1, h⟩ := h
    have hsub := sub_enumerate
    have q1 : ∀ {A' : Around} {E : Value → Shared → Prop} {Q : Value → Shared → Prop}, Q (.ref hp.objs.size) ⟨hp.push o, g, d, tk, os⟩ → wpAny (model prog w) A' (pyIter v) Q E ⟨hp, g, d, tk, os⟩ := fun q => B.iter prog w _ _ ⟨hp, g, d, tk, os⟩ _ h1 q
    wp_walk using q1
    refine wpAny_stack_any fun st => wpAny_pure ?_
    split
    · rename_i c _ _ _ _ _
      cases (c == Value.type "enumerate") <;> (wp_walk using q1; exact ⟨_, rfl, h⟩)
    · wp_walk using q1
      exact ⟨_, rfl, h⟩
theorem call_enumB {prog : Program} {w : World} {A : Around} {E : Value → Shared → Prop} {s : Shared} {b : Bool} {a : Addr} {xs : Array Value} {Q : Value → Shared → Prop} (ho : HoB s.heap b a xs)
    (h : ∀ h', IsEnum h' (s.heap.objs.size + 1) s.heap.objs.size 0 .none → ItB h' b s.heap.objs.size a 0 → h'.objs.size = s.heap.objs.size + 2 →
      (∀ c o, s.heap.get? c = some o → h'.get? c = some o) → Q (.ref (s.heap.objs.size + 1)) { s with heap := h' }) :
    wpAny (model prog w) A (call (.type "enumerate") [.ref a]) Q E s := by
  have B := begB b a xs
  refine callType_new F.called_enumerate (by decide) (F.typeCall_enumerate_1 _) (F.newCall_enumerate_1 _) (fun obj => F.args_object_init_2 obj _) F.entry_enumerate_new (new_enumB B) ⟨ho, ?_⟩
  have hz : (s.heap.push (newI b a)).objs.size = s.heap.objs.size + 1 := Heap.size_push ..
  show _ ∧ _
  rw [hz]
  have he : IsEnum ((s.heap.push (newI b a)).push { cls := .type "enumerate", data := .fields #[.none, .bool false, .ref s.heap.objs.size, rawInt 0, .none, .none] }) (s.heap.objs.size + 1) s.heap.objs.size 0 .none := by
    have q := Heap.get?_push_size (s.heap.push (newI b a)) (o := { cls := .type "enumerate", data := .fields #[.none, .bool false, .ref s.heap.objs.size, rawInt 0, .none, .none] }) rfl
    rw [hz] at q
    exact q
  exact ⟨⟨_, he, rfl⟩, h _ he (iniB b (Heap.get?_push_of_some _ (Heap.get?_push_size _ B.free))) (by rw [Heap.size_push, hz]) fun c o x => Heap.get?_push_of_some _ (Heap.get?_push_of_some _ x)⟩

/-! ### zip of two -/
def Izi (K : PySem.W.Frag) (b1 b2 : Bool) (a1 a2 : Addr) : It :=
  ⟨fun i H => ∃ (xs ys : List V) (x y : V), SqB K H b1 a1 xs ∧ SqB K H b2 a2 ys ∧ xs[i]? = some x ∧ ys[i]? = some y,
    fun i H v H' => ∃ T x y, v = .ref T ∧ H T = none ∧ H' = upd H T (.tup [x, y]) ∧ (∀ xs, SqB K H b1 a1 xs → xs[i]? = some x) ∧ ∀ ys, SqB K H b2 a2 ys → ys[i]? = some y,
    fun i H => ∃ xs ys : List V, SqB K H b1 a1 xs ∧ SqB K H b2 a2 ys ∧ i = min xs.length ys.length⟩
theorem turn_zi {P : Program} {w : World} {K : PySem.W.Frag} {elts : List Expr} {kk : Nat} {tpos : Pos} {b1 b2 : Bool} {a1 a2 z TI TO i1 i2 : Addr} (D : ZipSep2 z TI TO i1 i2 [i1, a1] [i2, a2]) (n1 : a1 ≠ i1) (n2 : a2 ≠ i2) :
    Turn P w K (.Tuple elts kk tpos) (Izi K b1 b2 a1 a2) [z, TI, TO, i1, i2] z (fun i h => IsZip h z TI TO .none ∧ IsTupOf2 h TI (.ref i1) (.ref i2) ∧ (∃ x y, IsTupOf2 h TO x y) ∧ ItB h b1 i1 a1 i ∧ ItB h b2 i2 a2 i) where
  mem := by simp
  obj := fun i h st c hc => by
    obtain ⟨hz, hTI, ⟨x, y, hTO⟩, t1, t2⟩ := st
    obtain ⟨o1, v1, e1, d1⟩ := t1.obj
    obtain ⟨o2, v2, e2, d2⟩ := t2.obj
    have ec : c = z ∨ c = TI ∨ c = TO ∨ c = i1 ∨ c = i2 := by simpa using hc
    rcases ec with q | q | q | q | q
    · rw [q]; exact ⟨_, hz, fun v q => nomatch q⟩
    · rw [q]; exact ⟨_, hTI, fun v q => nomatch q⟩
    · rw [q]; exact ⟨_, hTO, fun v q => nomatch q⟩
    · rw [q]; exact ⟨o1, e1, fun v q => by rw [d1] at q; cases q⟩
    · rw [q]; exact ⟨o2, e2, fun v q => by rw [d2] at q; cases q⟩
  keep := fun i h h' st k => by
    obtain ⟨hz, hTI, ⟨x, y, hTO⟩, t1, t2⟩ := st
    exact ⟨k z (by simp) _ hz, k TI (by simp) _ hTI, ⟨x, y, k TO (by simp) _ hTO⟩, t1.at fun o q => k i1 (by simp) o q, t2.at fun o q => k i2 (by simp) o q⟩
  item := by
    intro X hP hw hK hc i pins s σ H E I hf st hg
    subst hP hw hK
    obtain ⟨hz, hTI, ⟨x0, y0, hTO⟩, t1, t2⟩ := st
    obtain ⟨xs, ys, x, y, hqx, hqy, hx, hy⟩ := id hg
    obtain ⟨us, rv, ho⟩ := rowB I hqx
    obtain ⟨us2, rv2, ho2⟩ := rowB I hqy
    obtain ⟨u, hu, ru⟩ := rv.get hx
    obtain ⟨u2, hu2, ru2⟩ := rv2.get hy
    have hzl : z < s.heap.objs.size := Heap.lt_size hz
    have l1 : i < us.toArray.size := by rw [List.size_toArray]; exact (List.getElem?_eq_some_iff.mp hu).1
    have l2 : i < us2.toArray.size := by rw [List.size_toArray]; exact (List.getElem?_eq_some_iff.mp hu2).1
    refine wpAny_pyNext_zipD2_item D (drawB (A := X.A.in1) (I.ok.hd hc) b1 i1 a1 n1 us.toArray) (drawB (A := X.A.in1) (I.ok.hd hc) b2 i2 a2 n2 us2.toArray) hz hTI hTO ⟨t1, ho⟩ ⟨t2, ho2⟩ l1 l2 fun y1 y2 h' tk p1 p2 z' TO' st1 st2 hT hsz hk => ?_
    obtain rfl : y1 = u := by
      have q : us.toArray[i]? = some y1 := p1
      rw [List.getElem?_toArray, hu] at q
      exact (Option.some.inj q).symm
    obtain rfl : y2 = u2 := by
      have q : us2.toArray[i]? = some y2 := p2
      rw [List.getElem?_toArray, hu2] at q
      exact (Option.some.inj q).symm
    refine ⟨_, rfl, wpAny_letOwnedTupleGo_zip (s := { s with heap := h', toks := tk }) z' fun h'' z'' sb => ?_⟩
    have hT2 : h''.get? s.heap.objs.size = some { cls := .type "tuple", data := .seq #[y1, y2] } := (sb.2 _ (Nat.ne_of_gt hzl)).trans hT
    have new : ObjOk X.prog X.w (upd H s.heap.objs.size (.tup [x, y])) h'' s.heap.objs.size (.tup [x, y]) :=
      ⟨by show 2 ≤ sizeLine; decide, [y1, y2], .cons ru (.cons ru2 .nil), ⟨_, hT2, rfl, _, rfl⟩⟩
    have I1 : Inv X pins σ (upd H s.heap.objs.size (.tup [x, y])) { s with heap := h'', toks := tk } :=
      I.turnedNew (t' := tk) (ch := [z, TI, TO, i1, i2]) (fun c o hb q => (sb.2 c (fun q' => hb (by simp [q']))).trans (hk c o (fun q' => hb (by simp [q'])) (fun q' => hb (by simp [q'])) (fun q' => hb (by simp [q'])) (fun q' => hb (by simp [q'])) q)) hf (Nat.le_refl _) new
    refine ⟨.ref s.heap.objs.size, _, I1, rfl, ⟨_, x, y, rfl, I.hok.fresh (Nat.le_refl _), rfl, fun l hl => by rw [injB I hl hqx]; exact hx, fun l hl => by rw [injB I hl hqy]; exact hy⟩, ⟨z'', ?_, ⟨y1, y2, ?_⟩, ?_, ?_⟩, fun c hcm => ?_⟩
    · exact (sb.2 _ D.TIz).trans (hk _ _ D.TIz D.TITO D.TIi1 D.TIi2 hTI)
    · exact (sb.2 _ D.TOz).trans TO'
    · exact st1.1.at fun o q => (sb.2 _ (Ne.symm D.zi1)).trans q
    · exact st2.1.at fun o q => (sb.2 _ (Ne.symm D.zi2)).trans q
    · have hlt : c < s.heap.objs.size := by
        have ec : c = z ∨ c = TI ∨ c = TO ∨ c = i1 ∨ c = i2 := by simpa using hcm
        rcases ec with q | q | q | q | q
        · rw [q]; exact hzl
        · rw [q]; exact Heap.lt_size hTI
        · rw [q]; exact Heap.lt_size hTO
        · rw [q]; obtain ⟨_, _, e1, _⟩ := t1.obj; exact Heap.lt_size e1
        · rw [q]; obtain ⟨_, _, e2, _⟩ := t2.obj; exact Heap.lt_size e2
      rw [upd_ne (Nat.ne_of_lt hlt)]
      exact (hf c hcm).1
  done := by
    intro X hP hw hK hc i pins s σ H E I hf st hg
    subst hP hw hK
    obtain ⟨hz, hTI, ⟨x0, y0, hTO⟩, t1, t2⟩ := st
    obtain ⟨xs, ys, hqx, hqy, hend⟩ := hg
    obtain ⟨us, rv, ho⟩ := rowB I hqx
    obtain ⟨us2, rv2, ho2⟩ := rowB I hqy
    have l1 := rv.length
    have l2 := rv2.length
    have s1 : us.toArray.size = xs.length := by rw [List.size_toArray, l1]
    have s2 : us2.toArray.size = ys.length := by rw [List.size_toArray, l2]
    refine wpAny_pyNext_zipD2_end D (drawB (A := X.A.in1) (I.ok.hd hc) b1 i1 a1 n1 us.toArray) (drawB (A := X.A.in1) (I.ok.hd hc) b2 i2 a2 n2 us2.toArray) hz hTI hTO ⟨t1, ho⟩ ⟨t2, ho2⟩ (by omega) (by omega) (by omega) fun h' tk hk => ⟨rfl, ?_⟩
    exact I.turnedL (t' := tk) (ch := [z, TI, TO, i1, i2]) (fun c o hb q => hk c o (fun q' => hb (by simp [q'])) (fun q' => hb (by simp [q'])) (fun q' => hb (by simp [q'])) (fun q' => hb (by simp [q'])) q) hf
  self := fun A i s Q E st h => wpAny_pyIter_zip st.1 h

/-! ### the rules -/
/-- what can be walked as a row -/
def rowD : D → Option (Bool × List D)
  | .lst xs => some (true, xs)
  | .rol xs => some (true, xs)
  | .tup xs => some (false, xs)
  | _ => none
section
variable {K : PySem.W.Frag} {H H' : Hp} {ρ : Rho} {σ : Sg} {T : List Item}
theorem KD.row {d : D} {v : V} {b : Bool} {ds : List D} (h : KD K H d v) (e : rowD d = some (b, ds)) : ∃ p vs, v = .ref p ∧ SqB K H b p vs ∧ KDs K H ds vs := by
  cases d with
  | lst xs => cases e; obtain ⟨p, vs, e1, h1, h2⟩ := h.lst; exact ⟨p, vs, e1, SqL.of h1, h2⟩
  | rol xs => cases e; obtain ⟨p, vs, e1, h1, h2⟩ := h.rol; exact ⟨p, vs, e1, h1, h2⟩
  | tup xs => cases e; obtain ⟨p, vs, e1, h1, h2⟩ := h.tup; exact ⟨p, vs, e1, h1, h2⟩
  | _ => cases e
theorem row_at {d : D} {v : V} {b : Bool} {ds : List D} {i : Nat} {x : D} (r : Rel K H ρ σ ((0, d, v) :: T)) (e : rowD d = some (b, ds)) (ex : ds[i]? = some x) : ∃ p vs y, v = .ref p ∧ SqB K H b p vs ∧ vs[i]? = some y ∧ Rel K H ρ σ ((lv x, x, y) :: (0, d, v) :: T) ∧ ds.length = vs.length := by
  cases d with
  | lst xs => cases e; obtain ⟨p, vs, y, e1, h1, h2⟩ := lst_at r ex; exact ⟨p, vs, y, e1, SqL.of h1, h2⟩
  | rol xs => cases e; exact rol_at r ex
  | tup xs => cases e; exact tup_at r ex
  | _ => cases e
end
def enumD (xs : List D) : List D := xs.zipIdx.map fun q => .tup [.int (q.2 : Int), q.1]
def zipD (xs ys : List D) : List D := (xs.zip ys).map fun q => .tup [q.1, q.2]
section
variable {K : PySem.W.Frag}
theorem enumD_get {xs : List D} {i : Nat} {d : D} (h : (enumD xs)[i]? = some d) : ∃ x, xs[i]? = some x ∧ d = .tup [.int (i : Int), x] := by
  unfold enumD at h
  rw [List.getElem?_map, List.getElem?_zipIdx] at h
  cases e : xs[i]? with
  | none => rw [e] at h; cases h
  | some x =>
    rw [e] at h
    simp only [Option.map_some, Option.some.injEq, Nat.zero_add] at h
    exact ⟨x, rfl, h.symm⟩
theorem zipD_get {xs ys : List D} {i : Nat} {d : D} (h : (zipD xs ys)[i]? = some d) : ∃ x y, xs[i]? = some x ∧ ys[i]? = some y ∧ d = .tup [x, y] := by
  unfold zipD at h
  rw [List.getElem?_map] at h
  cases e : (xs.zip ys)[i]? with
  | none => rw [e] at h; cases h
  | some q =>
    rw [e] at h
    obtain ⟨x, y⟩ := q
    have e' := List.getElem?_zip_eq_some.mp e
    exact ⟨x, y, e'.1, e'.2, (Option.some.inj h).symm⟩
theorem feeds_en {d : D} {b : Bool} {ds : List D} {p : Addr} (e : rowD d = some (b, ds)) : Feeds K (Ien K b p) [(0, d, .ref p)] (enumD ds) := by
  refine ⟨fun i x H ρ σ T r ex => ?_, fun i H ρ σ T r ei => ?_⟩
  · obtain ⟨y, ey, rfl⟩ := enumD_get ex
    obtain ⟨p', vs, u, e1, h1, h2, r2, _⟩ := row_at r e ey
    cases e1
    refine ⟨⟨vs, u, h1, h2⟩, fun w H' hw => ?_⟩
    obtain ⟨T', z, rfl, hT, rfl, hz⟩ := hw
    have := hz vs h1
    rw [h2] at this
    cases this
    have r3 : Rel K H ρ σ ((9, .int (i : Int), .int (i : Int)) :: (lv y, y, u) :: (0, d, .ref p) :: T) := r2.scal (d := .int (i : Int)) rfl
    refine r3.good fun L g => ?_
    have g2 : Good K [] H (its 0 [.int (i : Int), y] [.int (i : Int), u] ++ ((0, d, .ref p) :: T ++ L)) := g.weak (.cons (Nat.zero_le _) (.cons (Nat.zero_le _) (Wk.refl _)))
    exact g2.newT rfl hT
  · obtain ⟨p', vs, e1, h1, h2⟩ := r.top.row e
    cases e1
    refine ⟨vs, h1, ?_⟩
    rw [ei, ← h2.length]
    simp [enumD]
theorem feeds_zi {d1 d2 : D} {b1 b2 : Bool} {xs ys : List D} {p1 p2 : Addr} (e1 : rowD d1 = some (b1, xs)) (e2 : rowD d2 = some (b2, ys)) : Feeds K (Izi K b1 b2 p1 p2) [(0, d1, .ref p1), (0, d2, .ref p2)] (zipD xs ys) := by
  refine ⟨fun i x H ρ σ T r eg => ?_, fun i H ρ σ T r ei => ?_⟩
  · obtain ⟨x, y, ex, ey, rfl⟩ := zipD_get eg
    have r0 : Rel K H ρ σ ((0, d1, .ref p1) :: (0, d2, .ref p2) :: T) := r
    obtain ⟨p', vs, u, q1, h1, h2, r2, _⟩ := row_at r0 e1 ex
    cases q1
    have r3 : Rel K H ρ σ ((0, d2, .ref p2) :: ((lv x, x, u) :: (0, d1, .ref p1) :: T)) := r2.good fun L g => g.perm (by
      show ((lv x, x, u) :: (0, d1, V.ref p1) :: (0, d2, V.ref p2) :: (T ++ L)).Perm ((0, d2, V.ref p2) :: (lv x, x, u) :: (0, d1, V.ref p1) :: (T ++ L))
      exact (List.perm_middle (l₁ := [(lv x, x, u), (0, d1, V.ref p1)])))
    obtain ⟨p'', ws, w, q2, h3, h4, r4, _⟩ := row_at r3 e2 ey
    cases q2
    refine ⟨⟨vs, ws, u, w, h1, h3, h2, h4⟩, fun o H' ho => ?_⟩
    obtain ⟨T', z1, z2, rfl, hT, rfl, hz1, hz2⟩ := ho
    have t1 := hz1 vs h1
    rw [h2] at t1
    cases t1
    have t2 := hz2 ws h3
    rw [h4] at t2
    cases t2
    refine r4.good fun L g => ?_
    have g1 : Good K [] H ((lv x, x, u) :: (lv y, y, w) :: (0, d1, .ref p1) :: (0, d2, .ref p2) :: (T ++ L)) := g.perm (by
      show ((lv y, y, w) :: (0, d2, V.ref p2) :: (lv x, x, u) :: (0, d1, V.ref p1) :: (T ++ L)).Perm _
      exact ((List.perm_middle (l₁ := [(lv y, y, w), (0, d2, V.ref p2)]) (a := (lv x, x, u)) (l₂ := (0, d1, V.ref p1) :: (T ++ L)))).trans ((List.Perm.swap _ _ _).cons _ |>.cons _))
    have g2 : Good K [] H (its 0 [x, y] [u, w] ++ ((0, d1, .ref p1) :: (0, d2, .ref p2) :: (T ++ L))) := g1.weak (.cons (Nat.zero_le _) (.cons (Nat.zero_le _) (Wk.refl _)))
    exact g2.newT rfl hT
  · have r0 : Rel K H ρ σ ((0, d1, .ref p1) :: (0, d2, .ref p2) :: T) := r
    obtain ⟨p', vs, q1, h1, h2⟩ := r0.top.row e1
    cases q1
    obtain ⟨p'', ws, q2, h3, h4⟩ := r0.drop.top.row e2
    cases q2
    refine ⟨vs, ws, h1, h3, ?_⟩
    rw [ei, ← h2.length, ← h4.length]
    simp [zipD]
end
def enumR : List LD → Option (List D)
  | [x] => (rowD x.2).map fun q => enumD q.2
  | _ => none
def zipR : List LD → Option (List D)
  | [x, y] => (rowD x.2).bind fun q => (rowD y.2).map fun q' => zipD q.2 q'.2
  | _ => none
def viaR (f : List LD → Option (List D)) (m : M (List LD)) : M (List D) := m.bind fun xs ρ => match f xs with
  | some ds => .ok ds ρ
  | none => .no
def enumM := viaR enumR
def zipM := viaR zipR
theorem enumR_eq {xs : List LD} {es : List D} (h : enumR xs = some es) : ∃ k d b ds, xs = [(k, d)] ∧ rowD d = some (b, ds) ∧ es = enumD ds := by
  unfold enumR at h
  split at h
  · rename_i x
    cases e : rowD x.2 with
    | none => rw [e] at h; cases h
    | some q => rw [e] at h; exact ⟨x.1, x.2, q.1, q.2, rfl, e, (Option.some.inj h).symm⟩
  · cases h
theorem zipR_eq {xs : List LD} {es : List D} (h : zipR xs = some es) : ∃ k d b ds k' d' b' ds', xs = [(k, d), (k', d')] ∧ rowD d = some (b, ds) ∧ rowD d' = some (b', ds') ∧ es = zipD ds ds' := by
  unfold zipR at h
  split at h
  · rename_i x y
    cases e : rowD x.2 with
    | none => rw [e] at h; cases h
    | some q =>
      cases e' : rowD y.2 with
      | none => rw [e, e'] at h; cases h
      | some q' => rw [e, e'] at h; exact ⟨x.1, x.2, q.1, q.2, y.1, y.2, q'.1, q'.2, rfl, e, e', (Option.some.inj h).symm⟩
  · cases h
theorem viaR_run {f : List LD → Option (List D)} {W : Wish} {T : List Item} {xs : List LD} {ρ : Rho} {k : List D → Rho → Prop} (h : Aft W T (match f xs with | some ds => R.ok ds ρ | none => R.no) k) : ∃ es, f xs = some es ∧ k es ρ := by
  cases e : f xs with
  | none => rw [e] at h; exact h.elim
  | some es => rw [e] at h; exact ⟨es, rfl, h⟩
section
variable {X : Cx} {W : Wish} {e e2 : Expr} {p pos tpos : Pos} {elts : List Expr} {kk : Nat} {m : M (List LD)}
theorem i_enum (hg : Gl X "enumerate") (hm : X.mg "enumerate" = none) (ha : PA X [e] (tVs X.K W m)) (hs : starEach [e] X.env = [(false, eval e X.env)] := by rfl) : PI X (.Tuple elts kk tpos) (.Call (.Name "enumerate" p) [e] [] pos) (tI X.K W (enumM m)) := by
  refine ⟨fun pins s σ H R I h => ?_⟩
  obtain ⟨ρ, T, rel, a⟩ := h
  refine Call_ (ld_blt I hg hm boot_enumerate (PyProof.Rows.callWith_type1 (thn (ha.run pos pins s σ H (fun vs H1 => ∃ d v b ds ρ1, vs = [v] ∧ rowD d = some (b, ds) ∧ Rel X.K H1 ρ1 σ ((0, d, v) :: T) ∧ ∀ J S H', Rel X.K H' ρ1 σ (S ++ T) → Feeds X.K J S (enumD ds) → R J H') I ⟨ρ, T, rel, a.bind.imp fun xs ρ1 q vs H1 hl r => ?_⟩) fun us s1 hq => ?_) hs rfl))
  · obtain ⟨es, ee, q⟩ := viaR_run q
    obtain ⟨k, d, b, ds, rfl, ed, rfl⟩ := enumR_eq ee
    match vs, hl with
    | [v], _ => exact ⟨d, v, b, ds, ρ1, rfl, ed, r.good fun L g => Good.low g (Nat.zero_le _), q⟩
  · obtain ⟨vs, H1, I1, rv, d, v, b, ds, ρ1, rfl, ed, r1, q⟩ := hq
    obtain ⟨a, ws, rfl, hq1, _⟩ := r1.top.row ed
    cases rv with
    | cons r rr =>
      cases rr
      cases r
      obtain ⟨us', rv', ho⟩ := rowB I1 hq1
      have la := ho.lt
      refine call_enumB ho fun h' he hit hsz hk => wpAny_pyIter_enum he ?_
      have I2 : Inv X pins σ H1 { s1 with heap := h' } := I1.kept (t' := s1.toks) hk
      refine ⟨s1.heap.objs.size + 1, [s1.heap.objs.size + 1, s1.heap.objs.size], _, _, H1, rfl, I2, turn_en b a (s1.heap.objs.size + 1) s1.heap.objs.size (Nat.ne_of_lt la) (Nat.ne_of_gt (Nat.lt_succ_of_lt la)), ⟨⟨.none, he⟩, hit, Nat.succ_ne_self _⟩, fun c hc => ?_, q _ _ H1 r1 (feeds_en ed)⟩
      have hle : s1.heap.objs.size ≤ c := by
        have ec : c = s1.heap.objs.size + 1 ∨ c = s1.heap.objs.size := by simpa using hc
        rcases ec with z | z
        · rw [z]; exact Nat.le_succ _
        · rw [z]; exact Nat.le_refl _
      exact I1.fpOk hle (I1.hok.fresh hle)
theorem i_zip (hg : Gl X "zip") (hm : X.mg "zip" = none) (ha : PA X [e, e2] (tVs X.K W m)) (hs : starEach [e, e2] X.env = (false, eval e X.env) :: starEach [e2] X.env := by rfl) (hpl : (backTo pos (starEach [e2] X.env)).any (·.1) = false := by rfl) :
    PI X (.Tuple elts kk tpos) (.Call (.Name "zip" p) [e, e2] [] pos) (tI X.K W (zipM m)) := by
  refine ⟨fun pins s σ H R I h => ?_⟩
  obtain ⟨ρ, T, rel, a⟩ := h
  refine Call_ (ld_blt I hg hm PyProof.Rows.boot_zip (PyProof.Rows.callWith_type1 (thn (ha.run pos pins s σ H (fun vs H1 => ∃ d d' v v' b b' ds ds' ρ1, vs = [v, v'] ∧ rowD d = some (b, ds) ∧ rowD d' = some (b', ds') ∧ Rel X.K H1 ρ1 σ ((0, d, v) :: (0, d', v') :: T) ∧ ∀ J S H', Rel X.K H' ρ1 σ (S ++ T) → Feeds X.K J S (zipD ds ds') → R J H') I ⟨ρ, T, rel, a.bind.imp fun xs ρ1 q vs H1 hl r => ?_⟩) fun us s1 hq => ?_) hs hpl))
  · obtain ⟨es, ee, q⟩ := viaR_run q
    obtain ⟨k, d, b, ds, k', d', b', ds', rfl, ed, ed', rfl⟩ := zipR_eq ee
    match vs, hl with
    | [v, v'], _ => exact ⟨d, d', v, v', b, b', ds, ds', ρ1, rfl, ed, ed', r.good fun L g => g.weak (.cons (Nat.zero_le _) (.cons (Nat.zero_le _) (Wk.refl _))), q⟩
  · obtain ⟨vs, H1, I1, rv, d, d', v, v', b, b', ds, ds', ρ1, rfl, ed, ed', r1, q⟩ := hq
    obtain ⟨a, ws, rfl, hq1, _⟩ := r1.top.row ed
    obtain ⟨a', ws', rfl, hq2, _⟩ := r1.drop.top.row ed'
    cases rv with
    | cons r rr =>
      cases rr with
      | cons r' rr =>
        cases rr
        cases r
        cases r'
        obtain ⟨us1, rv1, ho1⟩ := rowB I1 hq1
        obtain ⟨us2, rv2, ho2⟩ := rowB I1 hq2
        have la := ho1.lt
        have la' := ho2.lt
        refine zip_begins2 (begB b a us1.toArray) (begB b' a' us2.toArray) ho1 ho2 fun h' hz hTI hTO e1 e2 hsz hk => wpAny_pyIter_zip hz ?_
        have I2 : Inv X pins σ H1 { s1 with heap := h' } := I1.kept (t' := s1.toks) hk
        have D := zip_sep2 (N := s1.heap.objs.size) (fp1 := [a]) (fp2 := [a']) (fun c hc => by rw [List.mem_singleton.mp hc]; exact la) (fun c hc => by rw [List.mem_singleton.mp hc]; exact la')
        refine ⟨s1.heap.objs.size + 4, [s1.heap.objs.size + 4, s1.heap.objs.size + 2, s1.heap.objs.size + 3, s1.heap.objs.size, s1.heap.objs.size + 1], _, _, H1, rfl, I2, turn_zi D (Nat.ne_of_lt la) (Nat.ne_of_lt (Nat.lt_succ_of_lt la')), ⟨hz, hTI, ⟨_, _, hTO⟩, iniB b e1, iniB b' e2⟩, fun c hc => ?_, q _ _ H1 r1 (feeds_zi ed ed')⟩
        have hle : s1.heap.objs.size ≤ c := by
          have ec : c = s1.heap.objs.size + 4 ∨ c = s1.heap.objs.size + 2 ∨ c = s1.heap.objs.size + 3 ∨ c = s1.heap.objs.size ∨ c = s1.heap.objs.size + 1 := by simpa using hc
          rcases ec with z | z | z | z | z <;> rw [z]
          · exact Nat.le_add_right _ _
          · exact Nat.le_add_right _ _
          · exact Nat.le_add_right _ _
          · exact Nat.le_refl _
          · exact Nat.le_add_right _ _
        exact I1.fpOk hle (I1.hok.fresh hle)
end
end Vs
set_option Elab.async false
set_option linter.all false
set_option maxRecDepth 100000
set_option maxHeartbeats 4000000
/-! Vs12: sets of numbers that are made and used up at once; a list's parts; repr. -/
namespace Vs
open PySem PySem.Spec PyProof.Rows L2
section
variable {P : Program} {w : World} {A : Around} {E : Value → Shared → Prop} {s : Shared}
set_option maxHeartbeats 8000000 in
theorem set_lstI {l : Addr} {items : Array Value} (ns : List Int) {Q : Value → Shared → Prop} (hh : A.handled = none) (hl : s.heap.IsList l items) (hit : IntsAre items.toList ns) (hb : ns.length + 1 < scanBound)
    (h : ∀ (h' : Heap) (tk c : Nat), SetR w h' s.heap.objs.size (fun j => decide (j ∈ ns)) c → c ≤ ns.length → (∀ b o, s.heap.get? b = some o → h'.get? b = some o) → Q (.ref s.heap.objs.size) { s with heap := h', toks := tk }) :
    wpAny (model P w) A (call (.type "set") [.ref l]) Q E s := by
  have hisz : items.size = ns.length := by
    have q := IntsAre.length hit
    rw [Array.length_toList] at q
    exact q
  obtain ⟨c, tl, hmro⟩ := F.called_set.mro
  have hmade := F.called_set.made
  have hsub := F.called_set.sub
  refine wpAny_call (codeAny_of_tree ?_)
  show wpAny _ _ (callAny (.type "set") _) _ _ _
  refine wpAny_pure ⟨Code.quiet_builtin _ (by decide +kernel), codeAny_builtin F.entry_type_call ?_⟩
  rw [Around.under_plain (weight_type_call_type "set" [.ref l] []) rfl]
  have h1 := F.called_set.notType
  have h2 := F.called_set.canCreate
  have hct := F.typeCall_set_1 (.ref l)
  repeat (any_goals (first | assumption | wp_step))

  refine codeAny_mono (code_set_led1 (.ref l) (E := E) (Q₁ := fun obj s₁ => obj = .ref s.heap.objs.size ∧ s₁ = { s with heap := s.heap.push { cls := .type "set", dict := none, data := .set #[] 0 (.fresh 0 0 (!w.params.followText "set-order")) } }) ⟨rfl, rfl⟩) fun r s₁ hr => ?_
  cases r with
  | error e => exact hr
  | ok fl =>
    cases fl with
    | ret obj =>
      obtain ⟨rfl, rfl⟩ := hr
      have hS : (s.heap.push { cls := .type "set", dict := none, data := .set #[] 0 (.fresh 0 0 (!w.params.followText "set-order")) }).get? s.heap.objs.size = some { cls := .type "set", dict := none, data := .set #[] 0 (.fresh 0 0 (!w.params.followText "set-order")) } := Heap.get?_push_size _ rfl
      have hT : Shared.TypeIs { s with heap := s.heap.push { cls := .type "set", dict := none, data := .set #[] 0 (.fresh 0 0 (!w.params.followText "set-order")) } } (.ref s.heap.objs.size) "set" := ⟨_, hS, rfl⟩
      have hli := F.called_set.init.lookup
      have hbi := F.called_set.init.bind (.ref s.heap.objs.size)
      repeat (any_goals (first | assumption | wp_step))

      refine codeAny_mono (codeAny_call_builtin (R := wants (fun r s₂ => r = .none ∧ ∃ h' tk c, s₂ = { s with heap := h', toks := tk } ∧ SetR w h' s.heap.objs.size (fun j => decide (j ∈ ns)) c ∧ c ≤ ns.length ∧
          (∀ b o, s.heap.get? b = some o → h'.get? b = some o)) E) F.called_set.init.plain F.entry_set_init (check_set_init_1 hT ?_)) fun r₂ s₂ hr₂ => ?_
      · obtain ⟨ol, hol, hcl, nl, hdl⟩ := hl
        obtain ⟨ocls, odict, odata, oslots⟩ := ol
        simp only at hcl hdl
        subst hcl; subst hdl
        have hol' : (s.heap.push { cls := .type "set", dict := none, data := .set #[] 0 (.fresh 0 0 (!w.params.followText "set-order")) }).get? l = some { cls := .type "list", dict := odict, data := .seq items nl, slots := oslots } := Heap.get?_push_of_some _ hol
        have hsls := F.sub_list_set
        have hslf := F.sub_list_frozenset
        have hne : (Value.type "list" == Value.type "dict") = false := by decide
        have hl1 : (s.heap.push { cls := .type "set", dict := none, data := .set #[] 0 (.fresh 0 0 (!w.params.followText "set-order")) }).IsList l items := ⟨_, hol', rfl, nl, rfl⟩
        unfold Builtin.«set.__init__» noKeywords Builtin.Frozenset.updateFrom
        generalize hPI : pyIter = PI
        wp_walk
        subst hPI

        refine wpAny_pyIter_list hl1 ?_
        refine wpAny_bind (wpAny_runValue ?_)
        have hlS : l < s.heap.objs.size := Heap.lt_size hol
        have hh3 : A.in1.in1.in1.handled = none := by simp [hh]
        have hz1 : (s.heap.push { cls := .type "set", dict := none, data := .set #[] 0 (.fresh 0 0 (!w.params.followText "set-order")) }).objs.size = s.heap.objs.size + 1 := Heap.size_push ..
        have hneI : l ≠ (s.heap.push { cls := .type "set", dict := none, data := .set #[] 0 (.fresh 0 0 (!w.params.followText "set-order")) }).objs.size := by
          rw [Heap.size_push]; exact Nat.ne_of_lt (Nat.lt_succ_of_lt hlS)
        have hSf : s.heap.objs.size ∉ [(s.heap.push { cls := .type "set", dict := none, data := .set #[] 0 (.fresh 0 0 (!w.params.followText "set-order")) }).objs.size, l] := by
          rw [Heap.size_push]; simp only [List.mem_cons, List.mem_singleton, List.not_mem_nil, or_false, not_or]
          exact ⟨Nat.ne_of_lt (Nat.lt_succ_self _), Nat.ne_of_gt hlS⟩
        have hval : ∀ (i : Nat) (v : Value), items[i]? = some v → ∃ k t, ns[i]? = some k ∧ v = .int k t := fun i v hv => by
          have hi : i < ns.length := by rw [← hisz]; exact (Array.getElem?_eq_some_iff.mp hv).1
          obtain ⟨t, e⟩ := PyProof.Rows.IntsAre.int_at hit i v (by rw [Array.getElem?_toList]; exact hv)
          refine ⟨ns[i], t, List.getElem?_eq_getElem hi, ?_⟩
          rw [e, List.getD_eq_getElem?_getD, List.getElem?_eq_getElem hi] <;> rfl
        refine set_update_ints ((Walks.list hh3 _ l hneI items).toS) s.heap.objs.size
          hSf ns hisz hb hval (items.size - 0) 0 _ (by omega) (Nat.zero_le _)
          ⟨⟨_, Heap.get?_push_size _ rfl, rfl, rfl⟩, (hl1.push _)⟩ ?hS0 ?hR
        case hS0 =>
          have hget : ((s.heap.push { cls := .type "set", dict := none, data := .set #[] 0 (.fresh 0 0 (!w.params.followText "set-order")) }).push { cls := .type "list_iterator", data := .fields #[.ref l, .int 0 0] }).get? s.heap.objs.size
              = some { cls := .type "set", dict := none, data := .set #[] 0 (.fresh 0 0 (!w.params.followText "set-order")) } := Heap.get?_push_of_some _ hS
          exact ⟨0, Nat.le_refl 0, setR_new_at hget⟩
        case hR =>
          intro s' c' hm hc' hS'
          obtain ⟨h', g2, d', tk', os'⟩ := s'
          have eg : g2 = s.gens := hm.gens
          have ed : d' = s.drawn := hm.drawn
          have eo : os' = s.os := hm.os
          subst eg; subst ed; subst eo
          show wpAny _ _ _ _ _ _
          refine wpAny_pure ?_
          show wpAny _ _ (ret Value.none) _ _ _
          rw [hisz] at hc'
          refine wpAny_pure ⟨rfl, h', tk', c', rfl, hS', hc', fun b o e => ?_⟩
          have hb0 : b < s.heap.objs.size := Heap.lt_size e
          have hb1 : b ≠ s.heap.objs.size := Nat.ne_of_lt hb0
          have hb2 : b ≠ (s.heap.push { cls := .type "set", dict := none, data := .set #[] 0 (.fresh 0 0 (!w.params.followText "set-order")) }).objs.size := by
            rw [Heap.size_push]; exact Nat.ne_of_lt (Nat.lt_succ_of_lt hb0)
          exact hm.heap b o (by simp only [List.mem_cons, List.mem_singleton, List.not_mem_nil, or_false, not_or]; exact ⟨hb1, hb2⟩) (Heap.get?_push_of_some _ (Heap.get?_push_of_some _ e))

      · cases r₂ with
        | error e => exact hr₂
        | ok fl₂ =>
          cases fl₂ with
          | ret r =>
            obtain ⟨rfl, h', tk, c', rfl, hS', hc', hk'⟩ := hr₂
            repeat (any_goals (first | assumption | wp_step))
            exact h _ _ _ hS' hc' hk'
          | _ => exact hr₂.elim
    | _ => exact hr.elim

end
end Vs
set_option Elab.async false
set_option linter.all false
set_option maxRecDepth 4000
set_option maxHeartbeats 2000000
/-! Vs13: sorted(set(..)), len(set(..)); a list's parts; repr. -/
namespace Vs
open PySem PySem.Spec PyProof.Rows L2

/-! ### the members of a row of numbers, rising -/
def insU (x : Int) : List Int → List Int
  | [] => [x]
  | y :: ys => if x < y then x :: y :: ys else if x = y then y :: ys else y :: insU x ys
def sortU : List Int → List Int
  | [] => []
  | x :: xs => insU x (sortU xs)
theorem insU_mem (x k : Int) : ∀ ys : List Int, k ∈ insU x ys ↔ k = x ∨ k ∈ ys
  | [] => by simp [insU]
  | y :: ys => by
    unfold insU
    by_cases h : x < y
    · rw [if_pos h]; simp
    · rw [if_neg h]
      by_cases e : x = y
      · rw [if_pos e]; simp [e]
      · rw [if_neg e, List.mem_cons, insU_mem x k ys, List.mem_cons]
        constructor
        · rintro (h | h | h)
          · exact .inr (.inl h)
          · exact .inl h
          · exact .inr (.inr h)
        · rintro (h | h | h)
          · exact .inr (.inl h)
          · exact .inl h
          · exact .inr (.inr h)
theorem insU_lt (x : Int) : ∀ ys : List Int, ys.Pairwise (· < ·) → (insU x ys).Pairwise (· < ·)
  | [], _ => by simp [insU]
  | y :: ys, h => by
    obtain ⟨h1, h2⟩ := List.pairwise_cons.mp h
    unfold insU
    by_cases hx : x < y
    · rw [if_pos hx]
      refine List.pairwise_cons.mpr ⟨fun k hk => ?_, h⟩
      rcases List.mem_cons.mp hk with rfl | hk
      · exact hx
      · exact Int.lt_trans hx (h1 k hk)
    · rw [if_neg hx]
      by_cases e : x = y
      · rw [if_pos e]; exact h
      · rw [if_neg e]
        refine List.pairwise_cons.mpr ⟨fun k hk => ?_, insU_lt x ys h2⟩
        rcases (insU_mem x k ys).mp hk with rfl | hk
        · omega
        · exact h1 k hk
theorem sortU_mem (k : Int) : ∀ ns : List Int, k ∈ sortU ns ↔ k ∈ ns
  | [] => Iff.rfl
  | n :: ns => by
    unfold sortU
    rw [insU_mem, sortU_mem k ns, List.mem_cons]
theorem sortU_lt : ∀ ns : List Int, (sortU ns).Pairwise (· < ·)
  | [] => .nil
  | n :: ns => insU_lt n _ (sortU_lt ns)
theorem rise_eq : ∀ {xs ys : List Int}, xs.Pairwise (· < ·) → ys.Pairwise (· < ·) → (∀ k, k ∈ xs ↔ k ∈ ys) → xs = ys
  | [], [], _, _, _ => rfl
  | [], y :: ys, _, _, h => absurd ((h y).mpr List.mem_cons_self) (by simp)
  | x :: xs, [], _, _, h => absurd ((h x).mp List.mem_cons_self) (by simp)
  | x :: xs, y :: ys, hx, hy, h => by
    obtain ⟨x1, x2⟩ := List.pairwise_cons.mp hx
    obtain ⟨y1, y2⟩ := List.pairwise_cons.mp hy
    have e : x = y := by
      rcases List.mem_cons.mp ((h x).mp List.mem_cons_self) with e | m
      · exact e
      · rcases List.mem_cons.mp ((h y).mpr List.mem_cons_self) with e | m'
        · exact e.symm
        · have := y1 x m
          have := x1 y m'
          omega
    subst e
    have h' : ∀ k, k ∈ xs ↔ k ∈ ys := fun k => by
      constructor
      · intro m
        rcases List.mem_cons.mp ((h k).mp (List.mem_cons_of_mem _ m)) with e | m'
        · have := x1 k m; omega
        · exact m'
      · intro m
        rcases List.mem_cons.mp ((h k).mpr (List.mem_cons_of_mem _ m)) with e | m'
        · have := y1 k m; omega
        · exact m'
    rw [rise_eq x2 y2 h']
/-- the numbers of a row -/
def rowN (d : D) : Option (List Int) := (rowD d).bind fun q => numsD q.2
section
variable {K : PySem.W.Frag} {H H' : Hp} {ρ : Rho} {σ : Sg} {T : List Item}
theorem KD.rowN {d : D} {v : V} {ns : List Int} (h : KD K H d v) (e : Vs.rowN d = some ns) : ∃ b p, v = .ref p ∧ SqB K H b p (ns.map V.int) := by
  unfold Vs.rowN at e
  cases q : rowD d with
  | none => rw [q] at e; cases e
  | some x =>
    obtain ⟨b, ds⟩ := x
    rw [q] at e
    have e' : numsD ds = some ns := e
    obtain ⟨p, vs, rfl, h1, h2⟩ := h.row q
    obtain rfl := numsD_map e'
    obtain rfl := h2.ints
    exact ⟨b, p, rfl, h1⟩
end
section
variable {P : Program} {w : World} {A : Around} {E : Value → Shared → Prop} {s : Shared}
theorem set_rowI {b : Bool} {l : Addr} {items : Array Value} (ns : List Int) {Q : Value → Shared → Prop} (hh : A.handled = none) (hl : HoB s.heap b l items) (hit : IntsAre items.toList ns) (hb : ns.length + 1 < scanBound)
    (h : ∀ (h' : Heap) (tk c : Nat), SetR w h' s.heap.objs.size (fun j => decide (j ∈ ns)) c → c ≤ ns.length → (∀ b o, s.heap.get? b = some o → h'.get? b = some o) → Q (.ref s.heap.objs.size) { s with heap := h', toks := tk }) :
    wpAny (model P w) A (call (.type "set") [.ref l]) Q E s := by
  cases b with
  | true => exact set_lstI ns hh hl hit hb h
  | false => exact call_set_tupI ns hh hl hit hb h
theorem setR_card {h : Heap} {a : Addr} {ns : List Int} {c : Nat} (R : SetR w h a (fun j => decide (j ∈ ns)) c) : c = (sortU ns).length := by
  obtain ⟨o, es, ep, t, ho, hex, hd, g, nd, hm, hb, hf, hn, hr, hl⟩ := R
  have p : (es.toList.map keyOf).Perm (sortU ns) := by
    refine (List.perm_ext_iff_of_nodup nd ((sortU_lt ns).imp fun h => Int.ne_of_lt h)).mpr fun k => ?_
    rw [← hm k, sortU_mem, decide_eq_true_iff]
  rw [← p.length_eq, List.length_map, Array.length_toList, hn]
end
/-- one operand, its value looked at, a new value -/
def srtU (m : M LD) : M LD := m.bind fun x ρ => match rowN x.2 with
  | some ns => if ns.length ≤ 4000 ∧ (sortU ns).length < 64 then .ok (9, .lst ((sortU ns).map .int)) ρ else .no
  | none => .no
def lenU (m : M LD) : M LD := m.bind fun x ρ => match rowN x.2 with
  | some ns => if ns.length ≤ 4000 then .ok (9, .int (sortU ns).length) ρ else .no
  | none => .no
section
variable {X : Cx} {W : Wish} {a : Expr} {p p2 q pos : Pos} {m : M LD}
theorem kd_ints {K : PySem.W.Frag} {H : Hp} : ∀ ns : List Int, KDs K H (ns.map D.int) (ns.map V.int)
  | [] => .nil
  | n :: ns => .cons (s_kd (d := .int n) rfl) (kd_ints ns)
theorem sorted_then {pins : List (Addr × Obj)} {σ : Sg} {H : Hp} {s : Shared} {a : Addr} {ns : List Int} {c : Nat} {Q : VK} (hc : X.calm = true) (I : Inv X pins σ H s) (R : SetR X.w s.heap a (fun j => decide (j ∈ ns)) c) (hz : (sortU ns).length < 64)
    (h : ∀ p, H p = none → Q (.ref p) (upd H p (.lst ((sortU ns).map V.int)))) : wpAny (model X.prog X.w) X.A (call (.builtin "sorted") [.ref a]) (EP X pins σ Q) X.xe s := by
  have hc64 : c < 64 := by rw [setR_card R]; exact hz
  refine sorted_set R (I.ok.hd hc) hc64 fun s' p out c' ns' k2 g2 o2 hp hgt hi hlt hmem hlen => ?_
  have en : ns' = sortU ns := rise_eq hlt (sortU_lt ns) fun j => by rw [hmem, sortU_mem, decide_eq_true_iff]
  subst en
  have hn : H p = none := I.hok.fresh hp
  have hln : ((sortU ns).map V.int).length ≤ sizeLine := by rw [List.length_map, lineE]; have e9 : lineN = 16777216 := rfl; omega
  have J : Inv X pins σ (upd H p (.lst ((sortU ns).map V.int))) { s with heap := s'.heap, gens := s'.gens, drawn := s'.drawn, toks := s'.toks } :=
    I.call (ch := []) (Un.laid k2 hp hn) (I.hok.laid k2 hp ⟨hln, out.toList, c', vals_of_ints hi, hgt⟩) (by rw [g2]; exact I.bare) (fun _ z => nomatch z)
  have es : s' = { s with heap := s'.heap, gens := s'.gens, drawn := s'.drawn, toks := s'.toks } := by
    cases s'
    cases s
    cases o2
    rfl
  rw [es]
  exact ⟨.ref p, _, J, rfl, h p hn⟩
theorem v_srtU (hc : X.calm = true) (hg : Gl X "sorted") (hm : X.mg "sorted" = none) (hg2 : Gl X "set") (hm2 : X.mg "set" = none) (ha : PE X a (tV X.K W m))
    (na : starEach [a] X.env = (false, eval a X.env) :: starEach [] X.env := by rfl) : PE X (.Call (.Name "sorted" p) [.Call (.Name "set" p2) [a] [] q] [] pos) (tV X.K W (srtU m)) := by
  refine ⟨fun pins s σ H Q I ⟨ρ, T, rel, h⟩ => ?_⟩
  refine Call_ (ld_blt I hg hm PyProof.Rows.boot_sorted ?_)
  refine PyProof.Rows.callWith_builtin1 (PyProof.Rows.args_cons ?_ rfl) rfl rfl
  refine Call_ (ld_blt I hg2 hm2 PyProof.Rows.boot_set ?_)
  refine PyProof.Rows.callWith_type1 (PyProof.Rows.args_cons (thn (ha.run pins s σ H (fun v H1 => ∃ d ρ1 ns, Rel X.K H1 ρ1 σ ((0, d, v) :: T) ∧ rowN d = some ns ∧ ns.length ≤ 4000 ∧ (sortU ns).length < 64 ∧ ∀ u H', Rel X.K H' ρ1 σ ((9, .lst ((sortU ns).map .int), u) :: T) → Q u H') I ⟨ρ, T, rel, h.bind.imp fun x ρ1 q1 v H1 r1 => ?_⟩) fun v s1 hq => PyProof.Rows.args_nil ?_) na) na rfl
  · cases e : rowN x.2 with
    | none => rw [e] at q1; exact q1.elim
    | some ns =>
      rw [e] at q1
      simp only at q1
      by_cases hz : ns.length ≤ 4000 ∧ (sortU ns).length < 64
      · rw [if_pos hz] at q1
        exact ⟨x.2, ρ1, ns, r1.good fun L g => Good.low g (Nat.zero_le _), e, hz.1, hz.2, q1⟩
      · rw [if_neg hz] at q1; exact q1.elim
  · obtain ⟨v', H1, I1, rv, d, ρ1, ns, r1, e, hz1, hz2, q1⟩ := hq
    obtain ⟨b, l, rfl, hs⟩ := r1.top.rowN e
    cases rv
    obtain ⟨us, rus, ho⟩ := rowB I1 hs
    refine set_rowI ns (I1.ok.hd hc) ho (ints_of_vals rus) (by unfold scanBound; omega) fun h' tk c R hcn k => ?_
    refine PyProof.Rows.args_nil ?_
    have I2 : Inv X pins σ H1 { s1 with heap := h', toks := tk } := I1.kept k
    refine sorted_then hc I2 R hz2 fun p hn => q1 _ _ (r1.drop.good fun L g => ?_)
    have g3 : Good X.K [] H1 (its 8 ((sortU ns).map D.int) ((sortU ns).map V.int) ++ (T ++ L)) := by
      refine Good.scalRow ?_ (kd_ints _) g
      rw [List.all_eq_true]
      intro y hy
      obtain ⟨z, _, rfl⟩ := List.mem_map.mp hy
      rfl
    exact g3.newL (by simp) hn
theorem v_lenU (hc : X.calm = true) (hg : Gl X "len") (hm : X.mg "len" = none) (hg2 : Gl X "set") (hm2 : X.mg "set" = none) (ha : PE X a (tV X.K W m))
    (na : starEach [a] X.env = (false, eval a X.env) :: starEach [] X.env := by rfl) : PE X (.Call (.Name "len" p) [.Call (.Name "set" p2) [a] [] q] [] pos) (tV X.K W (lenU m)) := by
  refine ⟨fun pins s σ H Q I ⟨ρ, T, rel, h⟩ => ?_⟩
  refine Call_ (ld_blt I hg hm PySem.boot_len ?_)
  refine PyProof.Rows.callWith_builtin1 (PyProof.Rows.args_cons ?_ rfl) rfl rfl
  refine Call_ (ld_blt I hg2 hm2 PyProof.Rows.boot_set ?_)
  refine PyProof.Rows.callWith_type1 (PyProof.Rows.args_cons (thn (ha.run pins s σ H (fun v H1 => ∃ d ρ1 ns, Rel X.K H1 ρ1 σ ((0, d, v) :: T) ∧ rowN d = some ns ∧ ns.length ≤ 4000 ∧ ∀ u H', Rel X.K H' ρ1 σ ((9, .int (sortU ns).length, u) :: T) → Q u H') I ⟨ρ, T, rel, h.bind.imp fun x ρ1 q1 v H1 r1 => ?_⟩) fun v s1 hq => PyProof.Rows.args_nil ?_) na) na rfl
  · cases e : rowN x.2 with
    | none => rw [e] at q1; exact q1.elim
    | some ns =>
      rw [e] at q1
      simp only at q1
      by_cases hz : ns.length ≤ 4000
      · rw [if_pos hz] at q1
        exact ⟨x.2, ρ1, ns, r1.good fun L g => Good.low g (Nat.zero_le _), e, hz, q1⟩
      · rw [if_neg hz] at q1; exact q1.elim
  · obtain ⟨v', H1, I1, rv, d, ρ1, ns, r1, e, hz1, q1⟩ := hq
    obtain ⟨b, l, rfl, hs⟩ := r1.top.rowN e
    cases rv
    obtain ⟨us, rus, ho⟩ := rowB I1 hs
    refine set_rowI ns (I1.ok.hd hc) ho (ints_of_vals rus) (by unfold scanBound; omega) fun h' tk c R hcn k => ?_
    refine PyProof.Rows.args_nil ?_
    have I2 : Inv X pins σ H1 { s1 with heap := h', toks := tk } := I1.kept k
    have ec := setR_card R
    obtain ⟨o, es, ep, t, ho, hex, hd, g, nd, hm, hb, hf, hn, hr, hl⟩ := R
    refine call_len_set ho hex hd hf (by rw [hn] <;> omega) ⟨.int ((sortU ns).length : Nat), H1, I2.tok _, ⟨_, by rw [hn, ec]⟩, q1 _ H1 (r1.drop.scal (d := .int ((sortU ns).length : Nat)) rfl)⟩
end
end Vs
set_option Elab.async false
set_option linter.all false
set_option maxRecDepth 100000
set_option maxHeartbeats 2000000
/-! Vs14: repr; the parts of a list. -/
namespace Vs
open PySem PySem.Spec PyProof.Rows L2

/-! ### repr of a tree -/
mutual
/-- it can be shown: small numbers, texts of code points; what its text weighs at most -/
def shW : D → Option (Nat × Nat)
  | .non => some (8, 0)
  | .bl _ => some (8, 0)
  | .int i => if i.natAbs.log2 < 1920 then some (1921, 0) else none
  | .str x => if x.cps.toList.all (fun c => decide (c < 16 ^ 8)) then some (10 * x.length + 2, 0) else none
  | .tup xs => (shWs xs).map fun q => (q.1 + 3, q.2 + 1)
  | .lst xs => (shWs xs).map fun q => (q.1 + 3, q.2 + 1)
  | .dic _ => none
  | .dit _ => none
  | .iset _ => none
  | .rol _ => none
def shWs : List D → Option (Nat × Nat)
  | [] => some (0, 0)
  | x :: xs => match shW x, shWs xs with
    | some a, some b => some (a.1 + b.1 + 2, max a.2 b.2)
    | _, _ => none
end
mutual
theorem shW_py : ∀ {d : D} {q : Nat × Nat}, shW d = some q → ∃ p, py d = some p ∧ p.showable = true ∧ p.hasDict = false ∧ p.shown.length ≤ q.1 ∧ p.depth ≤ q.2
  | .non, q, e => by unfold shW at e; cases e; exact ⟨.none, rfl, rfl, rfl, by decide, Nat.le_refl _⟩
  | .bl b, q, e => by unfold shW at e; cases e; exact ⟨.bool b, rfl, rfl, rfl, by cases b <;> decide, Nat.le_refl _⟩
  | .int i, q, e => by
    unfold shW at e
    by_cases h : i.natAbs.log2 < 1920
    · rw [if_pos h] at e
      cases e
      exact ⟨.int i, rfl, by simp [PyData.showable, h], rfl, int_text_len_1921 h, Nat.le_refl _⟩
    · rw [if_neg h] at e; cases e
  | .str x, q, e => by
    unfold shW at e
    by_cases h : x.cps.toList.all (fun c => decide (c < 16 ^ 8)) = true
    · rw [if_pos h] at e
      cases e
      exact ⟨.str x, rfl, rfl, rfl, StrLaws.reprText_len x fun c hc => of_decide_eq_true (List.all_eq_true.mp h c hc), Nat.le_refl _⟩
    · rw [if_neg h] at e; cases e
  | .tup xs, q, e => by
    unfold shW at e
    cases e1 : shWs xs with
    | none => rw [e1] at e; cases e
    | some a =>
      rw [e1] at e
      cases e
      obtain ⟨ps, h1, h2, h3, h4, h5⟩ := shWs_py e1
      refine ⟨.tuple ps, by unfold py; rw [h1]; rfl, by simpa [PyData.showable] using h2, by simpa [PyData.hasDict] using h3, ?_, ?_⟩
      · have := tupleText_len_le (PyData.shownAll ps)
        rw [PyData.shown]
        rw [PyData.shownAll_length] at this
        show _ ≤ a.1 + 3
        omega
      · rw [PyData.depth]; show _ ≤ a.2 + 1; omega
  | .lst xs, q, e => by
    unfold shW at e
    cases e1 : shWs xs with
    | none => rw [e1] at e; cases e
    | some a =>
      rw [e1] at e
      cases e
      obtain ⟨ps, h1, h2, h3, h4, h5⟩ := shWs_py e1
      refine ⟨.list ps, by unfold py; rw [h1]; rfl, by simpa [PyData.showable] using h2, by simpa [PyData.hasDict] using h3, ?_, ?_⟩
      · have := listText_len_le (PyData.shownAll ps)
        rw [PyData.shown]
        rw [PyData.shownAll_length] at this
        show _ ≤ a.1 + 3
        omega
      · rw [PyData.depth]; show _ ≤ a.2 + 1; omega
  | .dic _, _, e => by unfold shW at e; cases e
  | .dit _, _, e => by unfold shW at e; cases e
  | .iset _, _, e => by unfold shW at e; cases e
  | .rol _, _, e => by unfold shW at e; cases e
theorem shWs_py : ∀ {xs : List D} {q : Nat × Nat}, shWs xs = some q → ∃ ps, pys xs = some ps ∧ PyData.showableAll ps = true ∧ PyData.hasDictAll ps = false ∧ ((PyData.shownAll ps).map (·.length)).sum + 2 * ps.length ≤ q.1 ∧ PyData.depthAll ps ≤ q.2
  | [], q, e => by unfold shWs at e; cases e; exact ⟨[], by unfold pys; rfl, rfl, rfl, by simp [PyData.shownAll], by simp [PyData.depthAll]⟩
  | x :: xs, q, e => by
    unfold shWs at e
    cases e1 : shW x with
    | none => rw [e1] at e; simp at e
    | some a =>
      cases e2 : shWs xs with
      | none => rw [e1, e2] at e; simp at e
      | some b =>
        rw [e1, e2] at e
        simp only [Option.some.injEq] at e
        subst e
        obtain ⟨p, h1, h2, h3, h4, h5⟩ := shW_py e1
        obtain ⟨ps, g1, g2, g3, g4, g5⟩ := shWs_py e2
        refine ⟨p :: ps, by unfold pys; rw [h1, g1], ?_, ?_, ?_, ?_⟩
        · simp [PyData.showableAll, h2, g2]
        · simp [PyData.hasDictAll, h3, g3]
        · rw [PyData.shownAll, List.map_cons, List.sum_cons, List.length_cons]
          show p.shown.length + _ + _ ≤ a.1 + b.1 + 2
          omega
        · rw [PyData.depthAll]
          show max p.depth _ ≤ max a.2 b.2
          omega
end
/-- the text -/
def shT (d : D) : Str := match py d with
  | some p => p.shown
  | none => Str.empty
def fRepr (d : D) : Option D := match shW d with
  | some q => if q.1 ≤ lineN ∧ q.2 ≤ 40 then some (.str (shT d)) else none
  | none => none
section
variable {X : Cx} {k : Nat}
def rRepr (K : PySem.W.Frag) : List V → Hp → VK → Prop := fun vs H Q => ∃ v p, vs = [v] ∧ Dp K H v p ∧ p.showable = true ∧ p.hasDict = false ∧ p.shown.length ≤ sizeLine ∧ p.depth ≤ 40 ∧ Q (.str p.shown) H
theorem cr_repr (hr : Room k X.A) (hgd : X.A.guards = some []) : CallR X (.builtin "repr") (rRepr X.K) := by
  intro pins s σ H vs us Q I r h
  obtain ⟨v, p, rfl, dp, hs, hd, hl, hdp, q⟩ := h
  have hu := hr.units
  match us, r with
  | [u], .cons ru _ =>
    obtain ⟨as, rd⟩ := Dp.reads I p v u dp ru
    have fin : ∀ tk t h', (∀ b o, s.heap.get? b = some o → h'.get? b = some o) → EP X pins σ Q (.str p.shown t) { s with heap := h', toks := tk } := fun tk t h' kk => ⟨.str p.shown, H, I.kept kk, ⟨t, rfl⟩, q⟩
    cases dp with
    | non => cases ru; exact P.repr_of_none (fin _ _ s.heap fun _ _ e => e)
    | bl b => cases ru; exact P.repr_of_bool (fin _ _ s.heap fun _ _ e => e)
    | int i =>
      obtain ⟨t, rfl⟩ := ru
      have hi : i.natAbs.log2 < 1920 := by simpa [PyData.showable] using hs
      exact P.repr_of_int hi (fin _ _ s.heap fun _ _ e => e)
    | str x =>
      obtain ⟨t, rfl⟩ := ru
      exact P.repr_of_str (fin _ _ s.heap fun _ _ e => e) hl
    | tup h1 h2 =>
      cases ru
      exact repr_of_reads' rd hs (PyData.noDict_hsm hd) hgd (by omega) (fun _ _ e => e) (fun h' t tk kk => fin tk t h' kk) hl
    | lst h1 h2 =>
      cases ru
      exact repr_of_reads' rd hs (PyData.noDict_hsm hd) hgd (by omega) (fun _ _ e => e) (fun h' t tk kk => fin tk t h' kk) hl
theorem s_repr {K : PySem.W.Frag} : SOp K (rRepr K) (o1 fRepr) := by
  intro H ds vs d h e
  unfold o1 at e
  split at e
  · rename_i x
    obtain ⟨v, rfl, kd⟩ := kds1 h
    unfold fRepr at e
    cases e1 : shW x with
    | none => rw [e1] at e; cases e
    | some q =>
      rw [e1] at e
      simp only at e
      by_cases hz : q.1 ≤ lineN ∧ q.2 ≤ 40
      · rw [if_pos hz] at e
        cases e
        obtain ⟨p, h1, h2, h3, h4, h5⟩ := shW_py e1
        have et : shT x = p.shown := by unfold shT; rw [h1]
        rw [et]
        exact ⟨rfl, fun Q q' => ⟨v, p, rfl, py_dp x kd h1, h2, h3, by rw [lineE]; omega, by omega, q'⟩⟩
      · rw [if_neg hz] at e; cases e
  · cases e
end

/-! ### a, b, .. = a list -/
section
variable {prog : Program} {w : World} {A : Around} {E : Value → Shared → Prop} {s : Shared}
theorem draw_list {it l : Addr} {items : Array Value} (hne : l ≠ it) : ∀ (n i : Nat) (s : Shared) (Q : List Value → Shared → Prop), s.heap.IsListIter it l i → s.heap.IsList l items → i + n ≤ items.size →
    (∀ h', h'.IsListIter it l (i + n) → Heap.SameBut it s.heap h' → Q ((items.toList.drop i).take n) { s with heap := h' }) → wpAny (model prog w) A (draw (.ref it) n) Q E s
  | 0, i, s, Q, hit, _, _, hQ => wpAny_pure (by simpa using hQ s.heap hit (Heap.SameBut.refl ..))
  | n + 1, i, s, Q, hit, hl, hle, hQ => by
    have hlt : i < items.size := by omega
    show wpAny _ _ (pyNext (.ref it) >>= _) Q E s
    refine wpAny_bind (wpAny_pyNext_list_item hit hl (x := items[i]) (by simp [hlt]) fun h1 hit1 hs1 => ?_)
    refine wpAny_bind (wpAny_holding (draw_list hne n (i + 1) _ _ hit1 (hl.extBut hs1.extBut hne) (by omega) fun h2 hit2 hs2 => wpAny_pure ?_))
    have hd : items.toList.drop i = items[i] :: items.toList.drop (i + 1) := by simp [List.drop_eq_getElem_cons, hlt]
    have q := hQ h2 (by rw [show i + (n + 1) = i + 1 + n by omega]; exact hit2) (hs1.trans hs2)
    rw [hd, List.take_succ_cons] at q
    exact q
theorem unpack_list {l : Addr} {items : Array Value} {Q : List Value → Shared → Prop} (hh : A.handled = none) (hl : s.heap.IsList l items)
    (hQ : ∀ h', Heap.ExtBut s.heap.objs.size s.heap h' → Q items.toList { s with heap := h' }) : wpAny (model prog w) A (unpackItems (.ref l) items.size none) Q E s := by
  have hlt : l ≠ s.heap.objs.size := by obtain ⟨o, ho, _⟩ := hl; exact Nat.ne_of_lt (Heap.lt_size ho)
  unfold unpackItems
  refine wpAny_bind ?_
  unfold notIterableAtAll
  refine wpAny_bind (wpAny_specialOf hl.typeIs slot_list_iter.lookup ?_)
  refine wpAny_pure ?_
  simp only [Bool.false_eq_true, if_false]
  refine wpAny_bind (wpAny_holding (wpAny_pyIter_list hl ?_))
  refine wpAny_bind (wpAny_holding (draw_list hlt items.size 0 _ _ ⟨_, Heap.get?_push_size _ rfl, rfl, rfl⟩ (hl.push _) (by omega) fun h1 hit1 hs1 => ?_))
  have hall : List.take items.size (List.drop 0 items.toList) = items.toList := by
    rw [List.drop_zero]; exact List.take_of_length_le (by simp)
  rw [hall, if_neg (by simp)]
  have hl1 : h1.IsList l items := (hl.push _).extBut hs1.extBut hlt
  refine wpAny_bind (wpAny_holding (wpAny_pyNext_list_end hh hit1 hl1 (by simp) fun h2 he2 => ?_))
  simp only [Option.isSome_none, Bool.false_eq_true, if_false]
  exact wpAny_pure (hQ h2 fun b o hb e => he2 b o hb (hs1.extBut b o hb (Heap.get?_push_of_some _ e)))
theorem assign_list {env : Env} {elts : List Expr} {x1} {pos : Pos} {l : Addr} {items : Array Value} {Q : Unit → Shared → Prop} (hh : A.handled = none) (hl : s.heap.IsList l items)
    (hn : (assignEach elts env).length = items.size) (hstar : (assignEach elts env).findIdx? (·.1) = none)
    (h : ∀ h', Heap.ExtBut s.heap.objs.size s.heap h' → wpAny (model prog w) A (assignInOrder ((assignEach elts env).map (·.2)) items.toList) Q E { s with heap := h' }) :
    wpAny (model prog w) A (assign (.Tuple elts x1 pos) env (.ref l)) Q E s := by
  rw [arm_assign_Tuple]
  refine wpAny_bind (wpAny_standAt ?_)
  unfold unpack
  rw [hn, hstar]
  exact wpAny_bind (wpAny_holding (unpack_list hh hl h))
end
/-- the parts of a tuple or a list -/
def partsR (x : LD) : Option (List LD) := match x.2 with
  | .tup xs => some (xs.map fun d => (if d.isS then 9 else x.1, d))
  | .lst xs => some (xs.map fun d => (if d.isS then 9 else x.1 - 1, d))
  | .rol xs => some (xs.map fun d => (if d.isS then 9 else 0, d))
  | _ => none
def gR (n : Nat) (gs : Gs) : G := fun x ρ => match partsR x with
  | some xs => if xs.length = n then gs xs ρ else none
  | none => none
section
variable {X : Cx} {P : Sg → Prop} {pos : Pos}
theorem g_row {es : List Expr} {k n : Nat} {gs : Gs} (hc : X.calm = true) (h : PGs X es (tGs X.K P gs))
    (hn : (assignEach es X.env).length = n := by rfl) (hst : (assignEach es X.env).findIdx? (·.1) = none := by rfl) : PG X (.Tuple es k pos) (tG X.K P (gR n gs)) := by
  refine ⟨fun pins s σ H v u Q I r hw => ?_⟩
  obtain ⟨⟨kx, d⟩, ρ, T, rel, p, ρ', e, q⟩ := hw
  unfold gR at e
  have fin : ∀ {k' : Nat} {b : Bool} {a : Addr} {ds : List D} {vs : List V}, v = .ref a → SqB X.K H b a vs → ds.length = vs.length → Rel X.K H ρ σ (its k' ds vs ++ T) → (if (ds.map fun d => ((if d.isS then 9 else k', d) : LD)).length = n then gs (ds.map fun d => (if d.isS then 9 else k', d)) ρ else none) = some ρ' →
      wpAny (model X.prog X.w) X.A (assign (.Tuple es k pos) X.env u) (fun _ s' => ∃ σ' H', Inv X pins σ' H' s' ∧ Q σ' H') X.xe s := fun {k' b a ds vs} ev hs hl r2 e2 => by
    subst ev
    cases r
    by_cases hz : (ds.map fun d => ((if d.isS then 9 else k', d) : LD)).length = n
    · rw [if_pos hz] at e2
      have hds : ds.length = n := by rw [← hz, List.length_map]
      obtain ⟨us, rv, ho⟩ := rowB I hs
      have r3 : Rel X.K H ρ σ (itemsOf (ds.map fun d => ((if d.isS then 9 else k', d) : LD)) vs ++ T) := by
        obtain ⟨L, c, g⟩ := r2
        refine ⟨L, c, ?_⟩
        rw [List.append_assoc] at g ⊢
        exact Good.lifts hl g
      have hsz : (assignEach es X.env).length = us.toArray.size := by rw [List.size_toArray, ← rv.length, ← hl, hds, hn]
      have go : ∀ h', (Heap.ExtBut s.heap.objs.size s.heap h') → wpAny (model X.prog X.w) X.A (assignInOrder ((assignEach es X.env).map (·.2)) us.toArray.toList) (fun _ s' => ∃ σ' H', Inv X pins σ' H' s' ∧ Q σ' H') X.xe { s with heap := h' } := fun h' hx => by
        have I1 : Inv X pins σ H { s with heap := h' } := I.kept (t' := s.toks) fun b o e => hx b o (Nat.ne_of_lt (Heap.lt_size e)) e
        exact h.run pins _ σ H vs _ Q I1 (by simpa using rv) ⟨_, ρ, T, by rw [List.length_map, hl], r3, p, ρ', e2, q⟩
      cases b with
      | true => exact assign_list (I.ok.hd hc) ho hsz hst go
      | false => exact assign_Tuple_tuple (I.ok.hd hc) ho hsz hst go
    · rw [if_neg hz] at e2; cases e2
  obtain ⟨L, c, g⟩ := rel
  cases d with
  | tup xs =>
    obtain ⟨a, vs, rfl, s1, l1, g1⟩ := g.tup_inv
    exact fin (b := false) rfl s1 l1 ⟨L, c, by rw [List.append_assoc]; exact g1⟩ e
  | lst xs =>
    obtain ⟨a, vs, rfl, s1, l1, g1⟩ := g.lst_inv
    exact fin (b := true) rfl (SqL.of s1) l1 ⟨L, c, by rw [List.append_assoc]; exact g1⟩ e
  | rol xs =>
    obtain ⟨a, vs, rfl, s1, l1, g1⟩ := g.rol_inv
    exact fin (b := true) rfl s1 l1 ⟨L, c, by rw [List.append_assoc]; exact g1⟩ e
  | _ => cases e
end
end Vs
set_option Elab.async false
set_option linter.all false
set_option maxRecDepth 100000
set_option maxHeartbeats 2000000
/-! Vs15: the law's own end: from its def on values to the statement. -/
namespace Vs
open PySem PySem.Spec PyProof.Rows L2
/-- the script as a tree -/
abbrev scr (ns : List Int) : LD := (0, .rol (ns.map .int))
theorem good_scr {K : PySem.W.Frag} {H : Hp} {a : Addr} {ns : List Int} (hO : Only H) (hS : SqL K H a (ns.map V.int)) : Good K [] H (itemsOf [scr ns] [.ref a] ++ []) := by
  have lk : LockL K H a (ns.map V.int) := by
    rcases hS with (h | h) | h
    · rcases hO a with z | ⟨o, xs, z⟩
      · rw [z] at h; cases h
      · rw [z] at h; cases h
    · exact .inl h
    · exact .inr h
  have g0 : Good K [] H [] := ⟨[], [], .nil, List.nodup_nil, fun _ h => (nomatch h), fun _ h => (nomatch h)⟩
  have g1 : Good K [] H (its 0 (ns.map D.int) (ns.map V.int) ++ []) := by
    refine Good.scalRow ?_ (kd_ints ns) g0
    rw [List.all_eq_true]
    intro y hy
    obtain ⟨z, _, rfl⟩ := List.mem_map.mp hy
    rfl
  obtain ⟨F, G, r, x⟩ := g1
  exact ⟨F, G, .rd lk (by simp) r, x⟩
section
variable {P : Program} {w : World} {K : PySem.W.Frag} {mg mb : Str → Option Value} {k : Nat} {fa a : Addr} {fd : FuncData} {F : List LD → R LD} {s0 : Shared} {vs : List Value} {ns : List Int}
theorem law_end (KX : K.In s0.heap) (hns : s0.heap.Ns mainGlobals mg) (hb : s0.heap.Ns builtinsNs mb) (hbb : ∀ x : Str, x ≠ "__name__" → mb x = bootBuiltins x) (hlim : s0.heap.NoLimit) (hg : s0.gens = #[])
    (ha : s0.heap.get? a = some { cls := .type "list", data := .seq vs.toArray }) (hi : IntsAre vs ns) (hl : ns.length ≤ sizeLine) (hr : Room k callerA)
    (hF : ∀ base : Heap, K.In base → base.Ns mainGlobals mg → FnG P w K mg base k fa fd ["script"] [] F) (hbind : ∀ (s : Shared) (u : Value), BindsTo s fd ⟨[u], []⟩ [("script", u)])
    (hT : ∃ kz ρ, F [scr ns] = .ok (kz, .bl true) ρ) :
    codeAny (model P w) callerA (.call (.ref fa) ⟨[.ref a], []⟩) (fun r s' => r = .ok (.ret (.bool true)) ∧ OldK s0.heap s'.heap ∧ s'.os = s0.os ∧ AllBare s'.gens) s0 := by
  have rv := vals_ints hi
  -- the heap H: nothing is tracked, or the script alone
  have main : ∀ H : Hp, Only H → SqL K H a (ns.map V.int) → HOk P w H s0.heap → (∀ b, H b ≠ none → b = a) → (H a ≠ none → K.lookup a = none) →
      codeAny (model P w) callerA (.call (.ref fa) ⟨[.ref a], []⟩) (fun r s' => r = .ok (.ret (.bool true)) ∧ OldK s0.heap s'.heap ∧ s'.os = s0.os ∧ AllBare s'.gens) s0 := by
    intro H hO hS hok hA hK
    have at_a : ∀ {b : Addr} {u : HO}, H b = some u → b = a := fun {b u} e => hA b (by rw [e]; exact fun z => nomatch z)
    have noD : ∀ {b : Addr} {o : Obj} {es : Array DictEntry} {ep : Nat}, s0.heap.get? b = some o → o.data = .dict es ep → H b = none := fun {b o es ep} e d => by
      cases q : H b with
      | none => rfl
      | some u =>
        rw [at_a q, ha] at e
        cases e
        cases (show Data.seq vs.toArray _ = Data.dict es ep from d)
    have toB : ∀ {b : Addr} {m : Str → Option Value}, s0.heap.Ns b m → (hidT s0.heap H).Ns b m := fun {b m} ⟨o, es, ep, e, d, r⟩ => ⟨o, es, ep, hidT_get e (noD e d), d, r⟩
    have kB : K.In (hidT s0.heap H) := fun b o e => hidT_get (KX b o e) (by
      cases q : H b with
      | none => rfl
      | some u =>
        have eb := at_a q
        subst eb
        rw [hK (by rw [q]; exact fun z => nomatch z)] at e
        cases e)
    have mB : Mod K mg (hidT s0.heap H) := ⟨kB, toB hns, ⟨mb, toB hb, hbb⟩, let ⟨mc, h1, h2⟩ := hlim; ⟨mc, toB h1, h2⟩⟩
    have e0 : Env0 P w K mg (hidT s0.heap H) callerA [] s0 H := ⟨rfl, mB, fun b o e => of_hidT e, Nat.le_of_eq (hidT_size _ _), trivial, fun b hb => absurd (show b ∈ ([] : List Addr) from hb) (by simp), hok, .of_eq hg⟩
    obtain ⟨kz, ρ, eF⟩ := hT
    refine codeAny_mono ((hF _ kB (toB hns)).run callerA [] s0 H ⟨[.ref a], []⟩ [.ref a] [.ref a] [scr ns] [] (fun v _ => v = .bl true) hr rfl e0 rfl (hbind s0 (.ref a)) (.cons rfl .nil) rfl (good_scr hO hS) ⟨_, ρ, eF, fun v H' g => g.kd.bl⟩) fun r s' h => ?_
    match r, h with
    | .ok (.ret u), ⟨v, H', os, bare, un, hok', r', q⟩ =>
      have q' : v = .bl true := q
      subst q'
      obtain rfl : u = Value.bool true := r'
      refine ⟨rfl, OldK.of_keep fun b o e => ?_, os, bare⟩
      cases q : H b with
      | none => exact un.keep b o e q (fun z => nomatch z) (by simp)
      | some u =>
        rcases hO b with z | ⟨ob, xs, z⟩
        · rw [q] at z; cases z
        · obtain ⟨e1, _⟩ := hok b _ z
          obtain ⟨e2, _⟩ := hok' b _ (un.frzs b ob _ z)
          rw [e] at e1
          cases e1
          exact e2
  cases hk : K.lookup a with
  | some o =>
    have e := KX a o hk
    rw [ha] at e
    cases e
    exact main (fun _ => none) (fun _ => .inl rfl) (.inr ⟨_, vs.toArray, _, hk, rfl, rfl, rfl, by rw [List.size_toArray, hi.length]; exact hl, by simpa using rv⟩) (fun b u z => nomatch (show (none : Option HO) = some u from z)) (fun b z => absurd rfl z) fun z => absurd rfl z
  | none =>
    have yes : ∀ {b : Addr} {o : HO}, (if b = a then some o else none) = (if b = a then some o else (none : Option HO)) := rfl
    refine main (fun b => if b = a then some (.frz { cls := .type "list", data := .seq vs.toArray } (.lst (ns.map V.int))) else none) (fun b => ?_) (.inl (.inr ⟨_, if_pos rfl⟩)) (fun b u z => ?_) (fun b z => ?_) fun _ => hk
    · by_cases h : b = a
      · exact .inr ⟨_, _, if_pos h⟩
      · exact .inl (if_neg h)
    · by_cases h : b = a
      · cases (if_pos h).symm.trans z
        subst h
        exact ⟨ha, by rw [List.length_map]; exact hl, vs, _, rv, ha⟩
      · cases (if_neg h).symm.trans z
    · by_cases h : b = a
      · exact h
      · exact absurd (if_neg h) z
end
theorem walk_G {l : PySem.W.OpenLaw} {n k : Nat} {q : Program} {loose : List Str} {XP : (Str → Option Value) → Heap → Prop} {YP : World → Heap → Prop} {d : DefRec} {K : Params → PySem.W.Frag} {F : List LD → R LD} (hn : l.most = some n) (hn2 : n ≤ sizeLine) (hdf : d.params.defaults = []) (hr : Room k callerA)
    (hY : ∀ (w : World) (h : Heap), YP w h → (K w.params).In h)
    (hF : ∀ (w : World) (mg : Str → Option Value) (fa : Addr) (h : Heap), (K w.params).In h → h.Ns mainGlobals mg → mg d.name = some (.ref fa) →
      ∃ fd : FuncData, (∀ (s : Shared) (u : Value), BindsTo s fd ⟨[u], []⟩ [("script", u)]) ∧ ∀ base : Heap, (K w.params).In base → base.Ns mainGlobals mg → FnG l.prog w (K w.params) mg base k fa fd ["script"] [] F)
    (hT : ∀ ns : List Int, ns.length ≤ n → ∃ kz ρ, F [scr ns] = .ok (kz, .bl true) ρ) : PySem.W.WalkO q loose XP YP l.row.toRowW d [] (fun f vs => PySem.call f vs) := by
  refine Att.attach_call hn hdf fun w s₀ s1 mg mb fa o pm cd doc a vs ns G Y ho hd hcd hmg hobj hints hlen hg => ?_
  have kx := hY w _ Y
  obtain ⟨fd, hb, hf⟩ := hF w mg fa _ kx G.T.g hmg
  exact law_end kx G.T.g G.T.b G.T.builtins G.T.nolimit hg hobj hints (Nat.le_trans hlen hn2) hr hf hb (hT ns hlen)
end Vs
set_option Elab.async false
set_option linter.all false
set_option maxRecDepth 100000
set_option maxHeartbeats 2000000
/-! Vs16: the generator's rules: calls by a bundle, subscripts of names, what is forgotten, y = [..], three names at once, tests of places. -/
namespace Vs
open PySem PySem.Spec PyProof.Rows L2

/-! ### a def and how it is called, in one -/
structure Cal (P : Program) (w : World) (K : PySem.W.Frag) (mg : Str → Option Value) (base : Heap) (k : Nat) (x : Str) (st : Stmt) (ps : List Str) (io : List Nat) (F : List LD → R LD) : Prop where
  ex : ∃ f fd, FnG P w K mg base k f fd ps io F ∧ Fun K x x st f fd ∧ mg x = some (.ref f)
def BindS (x : Str) (st : Stmt) (ps ks : List Str) (n : Nat) (pm : List Nat) : Prop := ∀ (kV doc pmv : Value) (an : Option Addr) (cdv ct : Value) (us ws : List Value), us.length = n → ws.length = ks.length →
  bindArgs (PySem.W.fnOf x x (defArgs st) (defBody st) (defScope st) .none kV doc pmv an cdv ct) ⟨us, ks.zip ws⟩ = pure (ps.zip (pickL pm (us ++ ws))) ∧ (pickL pm (us ++ ws)).length = ps.length
section
variable {X : Cx} {W : Wish} {k j : Nat} {st : Stmt} {ps ks : List Str} {io pm : List Nat} {F : List LD → R LD} {x : Str} {p pos : Pos} {e : Expr} {es : List Expr} {kws : List Keyword} {m mk : M (List Ar)} {n kn : Nat}
theorem c_call (C : Cal X.prog X.w X.K X.mg X.base j x st ps io F) (hb : BindS x st ps [] n pm) (hpm : pm.Perm (List.range (n + 0))) (hr : Room k X.A) (hj : j ≤ k) (hgd : X.A.guards = some []) (hx : Passes CX0 X E0) (hg : Gl X x) (ha : PA X (e :: es) (tAs X.K W m))
    (hdb : (x == ("__debug__" : Str)) = false := by decide) (he : starEach (e :: es) X.env = (false, eval e X.env) :: starEach es X.env := by rfl) (hpl : (backTo pos (starEach es X.env)).any (·.1) = false := by rfl) :
    PE X (.Call (.Name x p) (e :: es) [] pos) (tV X.K W (callG F io pm n 0 m noAr)) := by
  obtain ⟨f, fd, G, U, hm⟩ := C.ex
  exact v_call G (hr.mono hj) hgd (Vs.Fun.bindG [] n pm U hb) hpm hx hg hm U.kp ha hdb he hpl
theorem c_call0 (C : Cal X.prog X.w X.K X.mg X.base j x st ps io F) (hb : BindS x st ps [] 0 []) (hr : Room k X.A) (hj : j ≤ k) (hgd : X.A.guards = some []) (hx : Passes CX0 X E0) (hg : Gl X x) (hdb : (x == ("__debug__" : Str)) = false := by decide) :
    PE X (.Call (.Name x p) [] [] pos) (tV X.K W (callG F io [] 0 0 noAr noAr)) := by
  obtain ⟨f, fd, G, U, hm⟩ := C.ex
  exact v_call0 G (hr.mono hj) hgd (Vs.Fun.bindG [] 0 [] U hb) hx hg hm U.kp hdb
theorem c_callK (C : Cal X.prog X.w X.K X.mg X.base j x st ps io F) (hb : BindS x st ps ks 0 pm) (hpm : pm.Perm (List.range (0 + kn))) (hkn : ks.length = kn) (hr : Room k X.A) (hj : j ≤ k) (hgd : X.A.guards = some []) (hx : Passes CX0 X E0) (hg : Gl X x) (ha : PK X kws (tAs X.K W mk))
    (hall : (backToKw pos (keywordEach kws X.env)).all (·.1.isSome) = true := by rfl) (hks : (backToKw pos (keywordEach kws X.env)).filterMap (·.1) = ks := by rfl) (hdb : (x == ("__debug__" : Str)) = false := by decide)
    (hpl : ((backTo pos (starEach [] X.env)).any (·.1) || (backToKw pos (keywordEach kws X.env)).any (·.1.isNone)) = false := by rfl) : PE X (.Call (.Name x p) [] kws pos) (tV X.K W (callG F io pm 0 kn noAr mk)) := by
  obtain ⟨f, fd, G, U, hm⟩ := C.ex
  exact v_callK G (hr.mono hj) hgd (Vs.Fun.bindG ks 0 pm U hb) hpm hkn hx hg hm U.kp ha hall hks hdb hpl
theorem c_callKW (C : Cal X.prog X.w X.K X.mg X.base j x st ps io F) (hb : BindS x st ps ks n pm) (hpm : pm.Perm (List.range (n + kn))) (hkn : ks.length = kn) (hr : Room k X.A) (hj : j ≤ k) (hgd : X.A.guards = some []) (hx : Passes CX0 X E0) (hg : Gl X x) (ha : PA X (e :: es) (tAs X.K W m)) (hb2 : PK X kws (tAs X.K W mk))
    (hall : (backToKw pos (keywordEach kws X.env)).all (·.1.isSome) = true := by rfl) (hks : (backToKw pos (keywordEach kws X.env)).filterMap (·.1) = ks := by rfl) (hdb : (x == ("__debug__" : Str)) = false := by decide)
    (he : starEach (e :: es) X.env = (false, eval e X.env) :: starEach es X.env := by rfl) (hpl : ((backTo pos (starEach (e :: es) X.env)).any (·.1) || (backToKw pos (keywordEach kws X.env)).any (·.1.isNone)) = false := by rfl) :
    PE X (.Call (.Name x p) (e :: es) kws pos) (tV X.K W (callG F io pm n kn m mk)) := by
  obtain ⟨f, fd, G, U, hm⟩ := C.ex
  exact v_callKW G (hr.mono hj) hgd (Vs.Fun.bindG ks n pm U hb) hpm hkn hx hg hm U.kp ha hb2 hall hks hdb he hpl
end

/-! ### what is forgotten -/
def forget {α : Type} (vs : List Nat) (m : M α) : M α := fun ρ => m (wipeC ρ vs)
section
variable {K : PySem.W.Frag} {H : Hp} {ρ : Rho} {σ : Sg} {T : List Item}
theorem Rel.wipe1 (r : Rel K H ρ σ T) (i : Nat) : Rel K H (ρ.set i .u) σ T := by
  obtain ⟨L, c, g⟩ := r
  obtain ⟨M, L', p, c'⟩ := c.wipe i
  refine ⟨L', c', ?_⟩
  have g1 : Good K [] H (M ++ (T ++ L')) := g.perm ((p.append_left T).trans (by
    rw [← List.append_assoc, ← List.append_assoc]
    exact List.perm_append_comm.append_right L'))
  exact g1.dropA
theorem Rel.wipes (r : Rel K H ρ σ T) : ∀ vs : List Nat, Rel K H (wipeC ρ vs) σ T
  | [] => r
  | v :: vs => (Rel.wipes r vs).wipe1 v
end
section
variable {X : Cx} {W : Wish} {P : Sg → Prop} {e : Expr} {st : Stmt} {m : M LD} {mo : M Out} {mt : M Bool}
theorem v_forget (vs : List Nat) (h : PE X e (tV X.K W m)) : PE X e (tV X.K W (forget vs m)) := PE.imp h fun σ H Q ⟨ρ, T, r, a⟩ => ⟨_, T, r.wipes vs, a⟩
theorem s_forget (vs : List Nat) (h : PS X st (tS X.K W P mo)) : PS X st (tS X.K W P (forget vs mo)) := PS.imp h fun σ H Q ⟨ρ, T, r, p, a⟩ => ⟨_, T, r.wipes vs, p, a⟩
end

/-! ### y = [..], a, b, c = .. -/
section
variable {X : Cx} {W : Wish} {P : Sg → Prop} {tg it elt : Expr} {pos : Pos} {ifs : List Expr} {scope : Scope} {own : List (Str × Nat)} {mi : M (List D)} {g : G} {mt : M Bool} {me : M LD}
theorem s_setLc {i : Nat} {y : Str} {py spos : Pos} (hc : X.calm = true) (hN : X.N.Nodup) (hy : X.N[i]? = some y) (hyl : X.env.scope.names.lookup y = some .local)
    (hsw : swapsWith (.ListComp elt [⟨tg, it, ifs, 0⟩] scope pos) (some (.Name y py)) spos.line X.env = pure true) (hi : PI X tg it (tI X.K W mi)) (ok : BlkOk X.N X.env.scope scope own)
    (hg : ∀ (σ0 : Sg) (s : Shared) (H : Hp) (C : Addr) (cl : List (Str × Addr)) (fp : List Addr), PG (X.blk s H scope (compEnvC scope cl C X.env) fp) tg (tG X.K (Blk (own.map (·.2)) σ0) g))
    (ht : ∀ (s : Shared) (H : Hp) (C : Addr) (cl : List (Str × Addr)) (fp : List Addr), PTs (X.blk s H scope (compEnvC scope cl C X.env) fp) ifs (tT X.K W0 mt))
    (he : ∀ (s : Shared) (H : Hp) (C : Addr) (cl : List (Str × Addr)) (fp : List Addr), PE (X.blk s H scope (compEnvC scope cl C X.env) fp) elt (tV X.K W0 me)) (hP : Stays P i) (hs : ∀ x, foldedSetIterable it X.env x = pure x := by intro _; rfl) :
    PS X (.Assign [.Name y py] (.ListComp elt [⟨tg, it, ifs, 0⟩] scope pos) spos) (tS X.K W P (sAsg (comp (own.map (·.2)) mi g mt me) (gN i))) := by
  refine ⟨fun pins s σ H D I hq => ?_⟩
  refine (ps_setLc (te := tV X.K W0 me) (tt := tT X.K W0 mt) (g := fun v σ' H Q => tG X.K (Blk (own.map (·.2)) σ) g v σ' H Q) hc hN hy hyl hsw hi ok (fun s H C cl fp => hg σ s H C cl fp) ht he hs).run pins s σ H D I ?_
  refine comp_run (W := W) ?_
  obtain ⟨ρ, T, r, a⟩ := asg_run hq
  refine ⟨ρ, T, r, a.imp fun y ρ' q v H' r' => ?_⟩
  obtain ⟨y', ρ2, T2, r2, p2, ρ3, e3, q3⟩ := q v H' r'
  unfold gN at e3
  by_cases hi' : i < ρ2.length
  · rw [if_pos hi'] at e3
    cases e3
    exact q3 _ H' (r2.store hi') (hP _ _ p2)
  · rw [if_neg hi'] at e3; cases e3
def sPar3 (i j l : Nat) (ma mb mc : M LD) : M Out := ma.bind fun x => mb.bind fun y => mc.bind fun z ρ => if i < ρ.length ∧ j < ρ.length ∧ l < ρ.length then .ok .nx (((ρ.set i (.c x.1 x.2)).set j (.c y.1 y.2)).set l (.c z.1 z.2)) else .no
theorem s_par3 {i j l : Nat} {x y z : Str} {a b c : Expr} {ma mb mc : M LD} {px py pz pt : Pos} {kt k2 pt2} (hc : X.calm = true) (hN : X.N.Nodup) (hi : X.N[i]? = some x) (hj : X.N[j]? = some y) (hl : X.N[l]? = some z) (hij : i ≠ j) (hil : i ≠ l) (hjl : j ≠ l)
    (hx : X.env.scope.names.lookup x = some .local) (hy : X.env.scope.names.lookup y = some .local) (hz : X.env.scope.names.lookup z = some .local) (ha : PE X a (tV X.K W ma)) (hb : PE X b (tV X.K W mb)) (hcc : PE X c (tV X.K W mc)) (hPi : Stays P i) (hPj : Stays P j) (hPl : Stays P l)
    (hw : swappedStores [.Tuple [.Name x px, .Name y py, .Name z pz] kt pt] (.Tuple [a, b, c] k2 pt2) X.env = pure (some [x, y, z]))
    (hs : swapsWithSole [.Tuple [.Name x px, .Name y py, .Name z pz] kt pt] (.Tuple [a, b, c] k2 pt2) pos.line X.env = pure false := by rfl)
    (he : starEach [a, b, c] X.env = (false, eval a X.env) :: starEach [b, c] X.env := by rfl) (he2 : starEach [b, c] X.env = (false, eval b X.env) :: starEach [c] X.env := by rfl) (he3 : starEach [c] X.env = (false, eval c X.env) :: starEach [] X.env := by rfl) :
    PS X (.Assign [.Tuple [.Name x px, .Name y py, .Name z pz] kt pt] (.Tuple [a, b, c] k2 pt2) pos) (tS X.K W P (sPar3 i j l ma mb mc)) := by
  refine PS.imp (ps_par3 hc hN hi hj hl hij hil hjl hx hy hz (pa_cons ha (pa_cons hb (pa_cons hcc pa_nil he3) he2) he) hw hs) fun D σ H ⟨ρ, T, r, p, h⟩ => ?_
  refine ⟨ρ, T, r, h.bind.imp fun x1 ρ1 q1 v1 H1 r1 => ⟨ρ1, _, r1, (q1.bind.up).imp fun x2 ρ2 q2 v2 H2 r2 => ⟨ρ2, _, r2, (q2.bind.up.up).imp fun x3 ρ3 q3 v3 H3 r3 => ?_⟩⟩⟩
  have q3' : Aft W T (if i < ρ3.length ∧ j < ρ3.length ∧ l < ρ3.length then R.ok Out.nx (((ρ3.set i (.c x1.1 x1.2)).set j (.c x2.1 x2.2)).set l (.c x3.1 x3.2)) else R.no) fun o ρ' => OutP X.K P T D ρ' o := q3
  by_cases hl : i < ρ3.length ∧ j < ρ3.length ∧ l < ρ3.length
  · rw [if_pos hl] at q3'
    refine ⟨v1, v2, v3, rfl, ?_⟩
    have r4 : Rel X.K H3 ρ3 σ ((x1.1, x1.2, v1) :: (x2.1, x2.2, v2) :: (x3.1, x3.2, v3) :: T) := r3.good fun L g => g.perm (by
      show ((x3.1, x3.2, v3) :: (x2.1, x2.2, v2) :: (x1.1, x1.2, v1) :: (T ++ L)).Perm ((x1.1, x1.2, v1) :: (x2.1, x2.2, v2) :: (x3.1, x3.2, v3) :: (T ++ L))
      exact ((List.Perm.swap _ _ _).trans ((List.Perm.swap _ _ _).cons _)).trans (List.Perm.swap _ _ _) |>.trans (by
        refine (List.Perm.refl _).trans ?_
        exact List.Perm.refl _))
    have r5 := ((r4.store hl.1).store (i := j) (by rw [List.length_set]; exact hl.2.1)).store (i := l) (by rw [List.length_set, List.length_set]; exact hl.2.2)
    exact q3' _ H3 r5 (hPl _ _ (hPj _ _ (hPi _ _ p)))
  · rw [if_neg hl] at q3'; exact q3'.elim
end
end Vs
set_option Elab.async false
set_option linter.all false
set_option maxRecDepth 100000
set_option maxHeartbeats 2000000
/-! Vs17: x[i] of a name whatever it holds; a place that is compared. -/
namespace Vs
open PySem PySem.Spec PyProof.Rows L2

def keyOfD : D → Option Key
  | .int i => some (Sum.inl i)
  | .str x => some (Sum.inr x)
  | _ => none
/-- an item of a name's content: the item, the content's level afterwards -/
def subI (k : Nat) (x y : D) : Option (LD × Nat) := match x with
  | .dic ks => (keyOfD y).bind fun kk => (lookK ks kk).map fun d => if d.isS then ((9, d), k) else ((0, d), min k 1)
  | .str z => match y with
    | .int i => if z.length ≤ lineN then (atI z.cps.toList i).map fun c => ((9, .str ⟨#[c]⟩), k) else none
    | _ => none
  | x => match y with
    | .int i => viewI k x i
    | _ => none
section
variable {K : PySem.W.Frag} {H H' : Hp} {L : List Item} {Rs : List Addr} {ρ : Rho} {σ : Sg} {T : List Item}
theorem keyOfD_eq {y : D} {kk : Key} (e : keyOfD y = some kk) : y.isS = true ∧ y.sv = kV kk := by
  cases y with
  | int i => cases e; exact ⟨rfl, rfl⟩
  | str x => cases e; exact ⟨rfl, rfl⟩
  | _ => cases e
theorem Good.item2 {k k' : Nat} {x y : D} {z : LD} {v : V} (g : Good K Rs H ((k, x, v) :: L)) (e : subI k x y = some (z, k')) :
    ∃ u, Good K Rs H ((z.1, z.2, u) :: (k', x, v) :: L) ∧ y.isS = true ∧ ∀ Q : VK, Q u H → rSub K v y.sv H Q := by
  have plain : ∀ i, y = .int i → viewI k x i = some (z, k') → ∃ u, Good K Rs H ((z.1, z.2, u) :: (k', x, v) :: L) ∧ y.isS = true ∧ ∀ Q : VK, Q u H → rSub K v y.sv H Q := fun i ey ev => by
    subst ey
    obtain ⟨u, g2, f⟩ := g.item ev
    exact ⟨u, g2, rfl, fun Q q => .inl (f Q q)⟩
  unfold subI at e
  cases x with
  | dic ks =>
    simp only at e
    cases ek : keyOfD y with
    | none => rw [ek] at e; cases e
    | some kk =>
      cases el : lookK ks kk with
      | none => rw [ek] at e; simp [el] at e
      | some d =>
        rw [ek] at e
        obtain ⟨ys, yk⟩ := keyOfD_eq ek
        obtain ⟨p, kvs, e1, h1, h2, _⟩ := g.kd.dic
        subst e1
        obtain ⟨n, u, h3, h4, h5, _⟩ := lookK_at h2 el
        have dg : DGet H p (kV kk) (some u) := by
          have := DGet.k (k := kk) h1
          rwa [valV_look, h3] at this
        have fo : Fol H (.ref p) [.ky kk] u := ⟨p, kvs, u, rfl, h1, h3, rfl⟩
        have su : subT (.dic ks) [.ky kk] = some d := by
          show (lookK ks kk).bind (fun x => subT x []) = some d
          rw [el]
          rfl
        have e' : (if d.isS then (((9, d) : LD), k) else ((0, d), min k 1)) = (z, k') := by
          have : ((some kk).bind fun kk => (lookK ks kk).map fun d => if d.isS then (((9, d) : LD), k) else ((0, d), min k 1)) = some (z, k') := e
          rw [Option.bind_some, el, Option.map_some] at this
          exact Option.some.inj this
        by_cases s : d.isS = true
        · rw [if_pos s] at e'
          cases e'
          obtain rfl := (KD.sub (d := .dic ks) (r := .ref p) g.kd fo su).isS s
          exact ⟨_, g.scal s, ys, fun Q q => .inr ⟨p, _, rfl, by rw [yk]; exact dg, q⟩⟩
        · rw [if_neg s] at e'
          cases e'
          exact ⟨u, Good.shareAt g fo su, ys, fun Q q => .inr ⟨p, u, rfl, by rw [yk]; exact dg, q⟩⟩
  | str s =>
    simp only at e
    cases y with
    | int i =>
      simp only at e
      by_cases hz : s.length ≤ lineN
      · rw [if_pos hz] at e
        cases ea : atI s.cps.toList i with
        | none => rw [ea] at e; cases e
        | some c =>
          rw [ea] at e
          cases e
          obtain rfl := g.kd.str
          exact ⟨.str ⟨#[c]⟩, g.scal (d := .str ⟨#[c]⟩) rfl, rfl, fun Q q => .inl (.inr (.inr ⟨s, i, c, rfl, rfl, by rw [lineE]; exact hz, ea, q⟩))⟩
      · rw [if_neg hz] at e; cases e
    | _ => cases e
  | lst xs => cases y with
    | int i => exact plain i rfl e
    | _ => cases e
  | tup xs => cases y with
    | int i => exact plain i rfl e
    | _ => cases e
  | rol xs => cases y with
    | int i => exact plain i rfl e
    | _ => cases e
  | _ =>
    simp only at e
    cases y with
    | int i => exact plain i rfl e
    | _ => cases e
end
def subN (j : Nat) (mi : M LD) : M LD := fun ρ => match ρ[j]? with
  | some (.c _ _) => M.bind mi (fun y ρ1 => match ρ1[j]? with
    | some (.c k d) => match subI k d y.2 with
      | some (z, k') => .ok z (ρ1.set j (.c k' d))
      | none => .no
    | _ => .no) ρ
  | _ => .no
section
variable {X : Cx} {W : Wish} {ea eb : Expr} {pos p1 : Pos} {ma mb : M LD} {j k : Nat} {x : Str}
theorem v_subN (hr : Room k X.A) (ha : PE X (.Name x p1) (tVar j)) (hb : PE X eb (tV X.K W mb)) (hs : PlainIx eb) : PE X (.Subscript (.Name x p1) eb pos) (tV X.K W (subN j mb)) := by
  refine PE.imp (pe_ix (ix_sub (hu_of hr)) ha hb hs) fun σ H Q ⟨ρ, T, rel, a⟩ => ?_
  unfold subN at a
  cases q : ρ[j]? with
  | none => rw [q] at a; exact a.elim
  | some c0 =>
    cases c0 with
    | u => rw [q] at a; exact a.elim
    | c k0 d0 =>
      rw [q] at a
      obtain ⟨v, hv, _⟩ := rel.kd q
      refine ⟨v, hv, ρ, T, rel, a.bind.imp fun y ρ1 q1 w H1 r1 => ?_⟩
      cases e1 : ρ1[j]? with
      | none => rw [e1] at q1; exact q1.elim
      | some c1 =>
        cases c1 with
        | u => rw [e1] at q1; exact q1.elim
        | c k d =>
          rw [e1] at q1
          simp only at q1
          cases e2 : subI k d y.2 with
          | none => rw [e2] at q1; exact q1.elim
          | some zz =>
            obtain ⟨z, k'⟩ := zz
            rw [e2] at q1
            obtain ⟨L, c, g⟩ := r1.drop.move2 e1 hv
            obtain ⟨u, g2, ys, f⟩ := g.item2 e2
            obtain rfl := r1.top.isS ys
            refine f Q (q1 u H1 ?_)
            have r2 : Rel X.K H1 (ρ1.set j .u) σ ((k', d, v) :: (z.1, z.2, u) :: T) := ⟨L, c, g2.perm (.swap _ _ _)⟩
            have r3 := r2.back (getElem?_set_u e1) hv
            rwa [set_set_c] at r3
end

/-! ### a place compared with [] or with something still -/
def tNw (K : PySem.W.Frag) (ms : List (Rho → Option D)) : TE := fun σ H Q => ∃ ρ T, Rel K H ρ σ T ∧ ∃ ds, qRow ms ρ = some ds ∧ ds.length ≤ lineN ∧ ∀ p, H p = none → Q (.ref p) (upd H p (.lst (ds.map D.sv)))
def cmpP (o : List D → Option D) (mp : M Place) (bs : List (Rho → Option D)) : M LD := mp.bind fun jp ρ => match ρ[jp.1]?, qRow bs ρ with
  | some (.c _ d), some ds => match subT d jp.2 with
    | some d1 => if ds.length ≤ lineN then (match o [d1, .lst ds] with
      | some z => .ok (9, z) ρ
      | none => .no) else .no
    | none => .no
  | _, _ => .no
section
variable {X : Cx} {W : Wish} {P : Sg → Prop} {ea : Expr} {es : List Expr} {pos p2 : Pos} {mp : M Place} {bs : List (Rho → Option D)} {k : Nat} {o : List D → Option D} {r : R2} {op : CmpOp}
theorem n_lst (h : PA X es (tQs X.K bs)) : PE X (.List es p2) (tNw X.K bs) := by
  refine PE.imp (pe_lst h) fun σ H Q ⟨ρ, T, rel, ds, e, hz, q⟩ => ⟨ρ, T, rel, ds, e, by rw [List.length_map, lineE]; exact hz, q⟩
theorem Fol.up {H : Hp} {p : Addr} {ob : HO} (hp : H p = none) : ∀ {π : List Step} {r u : V}, Fol H r π u → Fol (upd H p ob) r π u
  | [], _, _, e => e
  | .ix n :: π, _, _, ⟨q, ws, w, e, h1, h2, f⟩ => ⟨q, ws, w, e, by rw [upd_ne (fun z => by rw [z, hp] at h1; cases h1)]; exact h1, h2, Fol.up hp f⟩
  | .ky n :: π, _, _, ⟨q, ws, w, e, h1, h2, f⟩ => ⟨q, ws, w, e, by rw [upd_ne (fun z => by rw [z, hp] at h1; cases h1)]; exact h1, h2, Fol.up hp f⟩
theorem cmpP_run (ho : SOp X.K (fun vs H Q => ∃ x y, vs = [x, y] ∧ r x y H Q) o) {σ : Sg} {H : Hp} {Q : VK} (h : tV X.K W (cmpP o mp bs) σ H Q) : tOp r (tPl X.K W mp) (tNw X.K bs) σ H Q := by
  obtain ⟨ρ, T, rel, a⟩ := h
  refine ⟨ρ, T, rel, a.bind.imp fun jp ρ1 q1 v H1 r1 ⟨rt, hrt, f⟩ => ?_⟩
  obtain ⟨j, π⟩ := jp
  cases ec : ρ1[j]? with
  | none => simp only [ec] at q1; exact q1.elim
  | some c =>
    cases c with
    | u => simp only [ec] at q1; exact q1.elim
    | c k d =>
      cases eq : qRow bs ρ1 with
      | none => simp only [ec, eq] at q1; exact q1.elim
      | some ds =>
        simp only [ec, eq] at q1
        cases es : subT d π with
        | none => rw [es] at q1; exact q1.elim
        | some d1 =>
          rw [es] at q1
          simp only at q1
          by_cases hz : ds.length ≤ lineN
          · rw [if_pos hz] at q1
            cases eo : o [d1, .lst ds] with
            | none => rw [eo] at q1; exact q1.elim
            | some z =>
              rw [eo] at q1
              refine ⟨ρ1, T, r1, ds, eq, hz, fun p hp => ?_⟩
              have r2 : Rel X.K (upd H1 p (.lst (ds.map D.sv))) ρ1 σ ((0 + 1, .lst ds, .ref p) :: T) := r1.good fun L g => by
                have g2 : Good X.K [] H1 (its 0 ds (ds.map D.sv) ++ (T ++ L)) := by
                  refine Good.scalRow (qRow_s eq) ?_ g
                  have key : ∀ ds : List D, ds.all D.isS = true → KDs X.K H1 ds (ds.map D.sv) := by
                    intro ds
                    induction ds with
                    | nil => intro _; exact .nil
                    | cons d ds ih =>
                      intro h
                      rw [List.all_cons, Bool.and_eq_true] at h
                      exact .cons (s_kd h.1) (ih h.2)
                  exact key ds (qRow_s eq)
                exact g2.newL (by simp) hp
              obtain ⟨r', hr', kd⟩ := r2.drop.kd ec
              rw [hrt] at hr'
              cases hr'
              have k1 : KD X.K _ d1 v := KD.sub (d := d) (r := rt) kd (f.up hp) es
              obtain ⟨s, g⟩ := ho _ [d1, .lst ds] [v, .ref p] z (.cons k1 (.cons r2.top .nil)) eo
              obtain ⟨x', y', e', h'⟩ := g Q (q1 _ _ (r2.drop.scal s))
              cases e'
              exact h'
          · rw [if_neg hz] at q1; exact q1.elim
theorem v_cmpP (hr : OpR X (compareOp op) r) (ho : SOp X.K (fun vs H Q => ∃ x y, vs = [x, y] ∧ r x y H Q) o) (ha : PE X ea (tPl X.K W mp)) (hb : PA X es (tQs X.K bs))
    (hm : behindInMarks op (.List es p2) = false := by first | exact nomark _ (by decide) (by decide) | rfl) : PE X (.Compare ea [op] [.List es p2] pos) (tV X.K W (cmpP o mp bs)) :=
  PE.imp (pe_cmpR hr ha (n_lst hb) hm) fun σ H Q h => cmpP_run ho h
theorem t_cmpP (hr : OpR X (compareOp op) r) (ho : SOp X.K (fun vs H Q => ∃ x y, vs = [x, y] ∧ r x y H Q) o) (ha : PE X ea (tPl X.K W mp)) (hb : PA X es (tQs X.K bs))
    (hm : behindInMarks op (.List es p2) = false := by first | exact nomark _ (by decide) (by decide) | rfl) : PT X (.Compare ea [op] [.List es p2] pos) (tT X.K W (asB (cmpP o mp bs))) :=
  t_b (t := tOp r (tPl X.K W mp) (tNw X.K bs)) (pt_cmpR hr ha (n_lst hb) hm) fun σ H Q h => cmpP_run ho h
theorem t_neP (hr : Room k X.A) (ha : PE X ea (tPl X.K W mp)) (hb : PA X es (tQs X.K bs)) : PT X (.Compare ea [.NotEq] [.List es p2] pos) (tT X.K W (asB (cmpP oNe mp bs))) := t_cmpP (OpR.or op_ne (op_neD hr.units)) s_ne ha hb
theorem t_eqP (hr : Room k X.A) (ha : PE X ea (tPl X.K W mp)) (hb : PA X es (tQs X.K bs)) : PT X (.Compare ea [.Eq] [.List es p2] pos) (tT X.K W (asB (cmpP oEq mp bs))) := t_cmpP (OpR.or op_eq (op_eqD hr.units)) s_eq ha hb
end
end Vs
set_option Elab.async false
set_option linter.all false
set_option maxRecDepth 100000
set_option maxHeartbeats 2000000
/-! Vs18: all, any, min, max of two; chains of comparisons; is True. -/
namespace Vs
open PySem PySem.Spec PyProof.Rows L2

def blsD : List D → Option (List Bool)
  | [] => some []
  | .bl b :: xs => (blsD xs).map (b :: ·)
  | _ => none
def fAll : D → Option D
  | .lst xs => (blsD xs).map fun bs => .bl (bs.all id)
  | _ => none
def fAny : D → Option D
  | .lst xs => (blsD xs).map fun bs => .bl (bs.any id)
  | _ => none
def omin2 : List D → Option D
  | [.int i, .int j] => some (.int (if j < i then j else i))
  | _ => none
def omax2 : List D → Option D
  | [.int i, .int j] => some (.int (if j > i then j else i))
  | _ => none
section
variable {K : PySem.W.Frag} {H : Hp}
theorem blsD_map : ∀ {ds : List D} {bs : List Bool}, blsD ds = some bs → ds = bs.map .bl
  | [], _, e => by cases e; rfl
  | .bl b :: xs, ns, e => by
    unfold blsD at e
    cases q : blsD xs with
    | none => rw [q] at e; cases e
    | some ms => rw [q] at e; cases e; rw [blsD_map q]; rfl
  | .non :: _, _, e => by cases e
  | .int _ :: _, _, e => by cases e
  | .str _ :: _, _, e => by cases e
  | .tup _ :: _, _, e => by cases e
  | .lst _ :: _, _, e => by cases e
  | .dic _ :: _, _, e => by cases e
  | .dit _ :: _, _, e => by cases e
  | .iset _ :: _, _, e => by cases e
  | .rol _ :: _, _, e => by cases e
theorem KDs.bls : ∀ {bs : List Bool} {vs : List V}, KDs K H (bs.map .bl) vs → vs = bs.map V.bl
  | [], _, h => by cases h; rfl
  | b :: bs, _, h => by
    cases h with
    | cons h1 h2 => rw [h1.bl, KDs.bls h2]; rfl
theorem s_all : SOp K (rAll K) (o1 fAll) := by
  intro H ds vs d h e
  unfold o1 at e
  split at e
  · obtain ⟨v, rfl, k⟩ := kds1 h
    unfold fAll at e
    split at e
    · rename_i xs
      cases q : blsD xs with
      | none => rw [q] at e; cases e
      | some bs =>
        rw [q] at e; cases e
        obtain rfl := blsD_map q
        obtain ⟨p, ws, rfl, h1, h2⟩ := k.lst
        obtain rfl := h2.bls
        exact ⟨rfl, fun Q q => ⟨p, bs, rfl, SqL.of h1, q⟩⟩
    · cases e
  · cases e
theorem s_any : SOp K (rAny K) (o1 fAny) := by
  intro H ds vs d h e
  unfold o1 at e
  split at e
  · obtain ⟨v, rfl, k⟩ := kds1 h
    unfold fAny at e
    split at e
    · rename_i xs
      cases q : blsD xs with
      | none => rw [q] at e; cases e
      | some bs =>
        rw [q] at e; cases e
        obtain rfl := blsD_map q
        obtain ⟨p, ws, rfl, h1, h2⟩ := k.lst
        obtain rfl := h2.bls
        exact ⟨rfl, fun Q q => ⟨p, bs, rfl, SqL.of h1, q⟩⟩
    · cases e
  · cases e
theorem s_min2 : SOp K (fun xs H Q => ∃ i j, xs = [V.int i, V.int j] ∧ Q (.int (if j < i then j else i)) H) omin2 := by
  intro H ds vs d h e
  unfold omin2 at e
  split at e
  · cases e
    obtain ⟨v, w, rfl, h1, h2⟩ := kds2 h
    obtain rfl := h1.int
    obtain rfl := h2.int
    exact ⟨rfl, fun Q q => ⟨_, _, rfl, q⟩⟩
  · cases e
theorem s_max2 : SOp K (fun xs H Q => ∃ i j, xs = [V.int i, V.int j] ∧ Q (.int (if j > i then j else i)) H) omax2 := by
  intro H ds vs d h e
  unfold omax2 at e
  split at e
  · cases e
    obtain ⟨v, w, rfl, h1, h2⟩ := kds2 h
    obtain rfl := h1.int
    obtain rfl := h2.int
    exact ⟨rfl, fun Q q => ⟨_, _, rfl, q⟩⟩
  · cases e
/-- is, is not, of truth values -/
def oIsB : List D → Option D
  | [.bl a, .bl b] => some (.bl (decide (a = b)))
  | _ => none
def oNotB : List D → Option D
  | [.bl a, .bl b] => some (.bl (!decide (a = b)))
  | _ => none
theorem s_isB : SOp K (fun vs H Q => ∃ x y, vs = [x, y] ∧ rIsB x y H Q) oIsB := by
  intro H ds vs d h e
  unfold oIsB at e
  split at e
  · cases e
    obtain ⟨v, w, rfl, h1, h2⟩ := kds2 h
    obtain rfl := h1.bl
    obtain rfl := h2.bl
    exact ⟨rfl, fun Q q => ⟨_, _, rfl, _, _, rfl, rfl, q⟩⟩
  · cases e
theorem s_notB : SOp K (fun vs H Q => ∃ x y, vs = [x, y] ∧ rNotB x y H Q) oNotB := by
  intro H ds vs d h e
  unfold oNotB at e
  split at e
  · cases e
    obtain ⟨v, w, rfl, h1, h2⟩ := kds2 h
    obtain rfl := h1.bl
    obtain rfl := h2.bl
    exact ⟨rfl, fun Q q => ⟨_, _, rfl, _, _, rfl, rfl, q⟩⟩
  · cases e
end
section
variable {X : Cx} {W : Wish} {ea eb ec : Expr} {pos : Pos} {ma mb mc : M Ar}
theorem v_isB (ha : PE X ea (tA X.K W ma)) (hb : PE X eb (tA X.K W mb)) : PE X (.Compare ea [.Is] [eb] pos) (tV X.K W (sop oIsB (two ma mb))) := v_cmp2 op_isBl s_isB ha hb
theorem v_notB (ha : PE X ea (tA X.K W ma)) (hb : PE X eb (tA X.K W mb)) : PE X (.Compare ea [.IsNot] [eb] pos) (tV X.K W (sop oNotB (two ma mb))) := v_cmp2 op_notBl s_notB ha hb
theorem t_isB (ha : PE X ea (tA X.K W ma)) (hb : PE X eb (tA X.K W mb)) : PT X (.Compare ea [.Is] [eb] pos) (tT X.K W (asB (sop oIsB (two ma mb)))) := t_cmp2 op_isBl s_isB ha hb
theorem t_notB (ha : PE X ea (tA X.K W ma)) (hb : PE X eb (tA X.K W mb)) : PT X (.Compare ea [.IsNot] [eb] pos) (tT X.K W (asB (sop oNotB (two ma mb)))) := t_cmp2 op_notBl s_notB ha hb

/-! ### a op b op c, of numbers that are there (names, constants, their sums ..): the middle one is looked at twice -/
def chn (o o' : Int → Int → Bool) (a b c : M LD) : M LD := a.bind fun x => b.bind fun y => match x.2, y.2 with
  | .int i, .int j => if o i j then c.bind fun z => match z.2 with
      | .int l => M.ret (9, .bl (o' j l))
      | _ => fun _ => .no
    else M.ret (9, .bl false)
  | _, _ => fun _ => .no
variable {va vb vc : M LD} {op op' : CmpOp} {o o' : Int → Int → Bool}
theorem chn_run {σ : Sg} {H : Hp} {Q : VK} (h : tV X.K W (chn o o' va vb vc) σ H Q) : tChain (rI0 fun i j => .bl (o i j)) (rI0 fun i j => .bl (o' i j)) (tV X.K W va) (tV X.K W vb) (tV X.K W vc) σ H Q := by
  obtain ⟨ρ, T, rel, a⟩ := h
  refine ⟨ρ, T, rel, a.bind.imp fun x ρ1 q1 v H1 r1 => ⟨ρ1, _, r1, (q1.bind.up).imp fun y ρ2 q2 w H2 r2 => ?_⟩⟩
  obtain ⟨kx, dx⟩ := x
  obtain ⟨ky, dy⟩ := y
  cases dx with
  | int i =>
    cases dy with
    | int j =>
      obtain rfl := r2.top.int
      obtain rfl := r2.drop.top.int
      refine ⟨i, j, rfl, rfl, o i j, rfl, ?_⟩
      simp only at q2
      cases e : o i j with
      | false =>
        rw [e, if_neg Bool.false_ne_true] at q2
        rw [if_neg Bool.false_ne_true]
        exact q2 _ H2 (r2.drop.drop.scal (d := .bl false) rfl)
      | true =>
        rw [e, if_pos rfl] at q2
        rw [if_pos rfl]
        refine ⟨ρ2, T, r2.drop.drop, q2.bind.imp fun z ρ3 q3 u H3 r3 => ?_⟩
        obtain ⟨kz, dz⟩ := z
        cases dz with
        | int l =>
          obtain rfl := r3.top.int
          exact ⟨j, l, rfl, rfl, q3 _ H3 (r3.drop.scal (d := .bl (o' j l)) rfl)⟩
        | _ => exact q3.elim
    | _ => exact q2.elim
  | _ => exact q2.elim
theorem v_chn (h1 : OpR X (compareOp op) (rI0 fun i j => .bl (o i j))) (h2 : OpR X (compareOp op') (rI0 fun i j => .bl (o' i j))) (ha : PE X ea (tV X.K W va)) (hb : PE X eb (tV X.K W vb)) (hc : PE X ec (tV X.K W vc))
    (hm : lastMarks [op, op'] [eb, ec] = false := by with_unfolding_all rfl) : PE X (.Compare ea [op, op'] [eb, ec] pos) (tV X.K W (chn o o' va vb vc)) := PE.imp (pe_chain h1 h2 ha hb hc hm) fun σ H Q h => chn_run h
theorem t_chn (h1 : OpR X (compareOp op) (rI0 fun i j => .bl (o i j))) (h2 : OpR X (compareOp op') (rI0 fun i j => .bl (o' i j))) (ha : PE X ea (tV X.K W va)) (hb : PE X eb (tV X.K W vb)) (hc : PE X ec (tV X.K W vc))
    (hm : lastMarks [op, op'] [eb, ec] = false := by with_unfolding_all rfl) : PT X (.Compare ea [op, op'] [eb, ec] pos) (tT X.K W (asB (chn o o' va vb vc))) :=
  t_b (t := tChain (rI0 fun i j => .bl (o i j)) (rI0 fun i j => .bl (o' i j)) (tV X.K W va) (tV X.K W vb) (tV X.K W vc)) (pt_chain h1 h2 ha hb hc hm) fun σ H Q h => chn_run h
end
def bLt (i j : Int) : Bool := decide (i < j)
def bLe (i j : Int) : Bool := decide (i ≤ j)
def bGt (i j : Int) : Bool := decide (j < i)
def bGe (i j : Int) : Bool := decide (j ≤ i)
theorem lt_b {X : Cx} : OpR X (compareOp .Lt) (rI0 fun i j => .bl (bLt i j)) := op_lt
theorem le_b {X : Cx} : OpR X (compareOp .LtE) (rI0 fun i j => .bl (bLe i j)) := op_le
theorem gt_b {X : Cx} : OpR X (compareOp .Gt) (rI0 fun i j => .bl (bGt i j)) := op_gt
theorem ge_b {X : Cx} : OpR X (compareOp .GtE) (rI0 fun i j => .bl (bGe i j)) := op_ge
/-! ### two readings of one expression: the second where the first has no word -/
def altM {α : Type} (a b : M α) : M α := fun ρ => match a ρ with
  | .no => b ρ
  | r => r
theorem v_alt {X : Cx} {W : Wish} {e : Expr} {a b : M LD} (ha : PE X e (tV X.K W a)) (hb : PE X e (tV X.K W b)) : PE X e (tV X.K W (altM a b)) := by
  refine ⟨fun pins s σ H Q I ⟨ρ, T, r, h⟩ => ?_⟩
  unfold altM at h
  cases q : a ρ with
  | no => rw [q] at h; exact hb.run pins s σ H Q I ⟨ρ, T, r, h⟩
  | ok x ρ' => rw [q] at h; exact ha.run pins s σ H Q I ⟨ρ, T, r, by rw [q]; exact h⟩
  | ex x ρ' => rw [q] at h; exact ha.run pins s σ H Q I ⟨ρ, T, r, by rw [q]; exact h⟩
end Vs
set_option Elab.async false
set_option linter.all false
set_option maxRecDepth 100000
set_option maxHeartbeats 4000000
/-! Vs19: the plain side: what a run gives (Ok), loops by an invariant, facts about trees of numbers. -/
namespace Vs
open PySem PySem.Spec PyProof.Rows L2

def OkD {α : Type} (r : R α) (Q : α → Rho → Prop) : Prop := match r with
  | .ok a ρ => Q a ρ
  | _ => False
/-- the run gives something of which Q holds -/
structure Ok {α : Type} (r : R α) (Q : α → Rho → Prop) : Prop where
  out : OkD r Q
theorem Ok.get {α : Type} {r : R α} {Q : α → Rho → Prop} (h : Ok r Q) : ∃ a ρ, r = .ok a ρ ∧ Q a ρ := by
  obtain ⟨h⟩ := h
  cases r with
  | no => exact h.elim
  | ex _ _ => exact h.elim
  | ok a ρ => exact ⟨a, ρ, rfl, h⟩
theorem Ok.of {α : Type} {r : R α} {a : α} {ρ : Rho} {Q : α → Rho → Prop} (e : r = .ok a ρ) (h : Q a ρ) : Ok r Q := by rw [e]; exact ⟨h⟩
theorem Ok.imp {α : Type} {r : R α} {Q Q' : α → Rho → Prop} (h : Ok r Q) (f : ∀ a ρ, Q a ρ → Q' a ρ) : Ok r Q' := by
  obtain ⟨a, ρ, e, q⟩ := h.get
  exact .of e (f a ρ q)
theorem Ok.bind {α β : Type} {m : M α} {f : α → M β} {ρ : Rho} {Q : β → Rho → Prop} (h : Ok (m ρ) fun a ρ' => Ok (f a ρ') Q) : Ok (M.bind m f ρ) Q := by
  obtain ⟨a, ρ1, e, q⟩ := h.get
  obtain ⟨b, ρ2, e2, q2⟩ := q.get
  exact .of (by unfold M.bind; rw [e]; exact e2) q2
theorem Ok.seq {a b : M Out} {ρ : Rho} {Q : Out → Rho → Prop} (h : Ok (a ρ) fun o ρ' => o = .nx ∧ Ok (b ρ') Q) : Ok (sSeq a b ρ) Q :=
  Ok.bind (h.imp fun o ρ' ⟨e, q⟩ => by subst e; exact q)
theorem seqE {a b : M Out} {ρ ρ' : Rho} {Q : Out → Rho → Prop} (e : a ρ = .ok .nx ρ') (h : Ok (b ρ') Q) : Ok (sSeq a b ρ) Q := Ok.seq (Ok.of e ⟨rfl, h⟩)
/-- what is given back -/
def vl : R LD → Option D
  | .ok z _ => some z.2
  | _ => none
theorem of_vl {r : R LD} {d : D} (h : vl r = some d) : ∃ k ρ, r = .ok (k, d) ρ := by
  cases r with
  | no => cases h
  | ex _ _ => cases h
  | ok z ρ => exact ⟨z.1, ρ, by cases h; rfl⟩
/-- a loop: I i holds ahead of the i-th turn -/
theorem forL_ix {g : G} {b : M Out} {I : Nat → Rho → Prop} : ∀ {ds : List D} {i : Nat} {ρ : Rho}, (∀ j d ρ, i ≤ j → ds[j - i]? = some d → I j ρ → ∃ ρ1, g (lv d, d) ρ = some ρ1 ∧ Ok (b ρ1) fun o ρ2 => (o = .nx ∨ o = .ct) ∧ I (j + 1) ρ2) → I i ρ →
    Ok (forL g b ds ρ) fun o ρ' => o = .nx ∧ I (i + ds.length) ρ'
  | [], i, ρ, _, h0 => .of rfl ⟨rfl, h0⟩
  | d :: ds, i, ρ, hs, h0 => by
    obtain ⟨ρ1, e1, h1⟩ := hs i d ρ (Nat.le_refl _) (by simp) h0
    obtain ⟨o, ρ2, e2, ho, h2⟩ := h1.get
    have rest : Ok (forL g b ds ρ2) fun o ρ' => o = .nx ∧ I (i + 1 + ds.length) ρ' := forL_ix (fun j d ρ hj hd hI => hs j d ρ (by omega) (by
      have : j - i = (j - (i + 1)) + 1 := by omega
      rw [this]; simpa using hd) hI) h2
    have e3 : i + (d :: ds).length = i + 1 + ds.length := by simp; omega
    rw [e3]
    unfold forL
    rw [e1]
    simp only [e2]
    rcases ho with rfl | rfl
    · exact rest
    · exact rest
theorem forL_inv {g : G} {b : M Out} {I : Rho → Prop} {ds : List D} {ρ : Rho} (hs : ∀ d ∈ ds, ∀ ρ, I ρ → ∃ ρ1, g (lv d, d) ρ = some ρ1 ∧ Ok (b ρ1) fun o ρ2 => (o = .nx ∨ o = .ct) ∧ I ρ2) (h : I ρ) : Ok (forL g b ds ρ) fun o ρ' => o = .nx ∧ I ρ' :=
  forL_ix (I := fun _ => I) (i := 0) (fun j d ρ _ hd hI => hs d (List.mem_of_getElem? hd) ρ hI) h

@[simp] theorem isS_non : D.isS .non = true := rfl
@[simp] theorem isS_bl {b : Bool} : D.isS (.bl b) = true := rfl
@[simp] theorem isS_int {i : Int} : D.isS (.int i) = true := rfl
@[simp] theorem isS_str {x : Str} : D.isS (.str x) = true := rfl
@[simp] theorem isS_tup {xs : List D} : D.isS (.tup xs) = false := rfl
@[simp] theorem isS_lst {xs : List D} : D.isS (.lst xs) = false := rfl
@[simp] theorem isS_rol {xs : List D} : D.isS (.rol xs) = false := rfl
@[simp] theorem isS_dic {ks : List (Key × D)} : D.isS (.dic ks) = false := rfl

/-! ### numbers -/
@[simp] theorem mulOk_l {i j : Int} (h : i.natAbs < 2 ^ 64) : mulOk i j = true := by simp [mulOk, h]
@[simp] theorem mulOk_r {i j : Int} (h : j.natAbs < 2 ^ 64) : mulOk i j = true := by simp [mulOk, h]
theorem mod_small (x : Int) {n : Int} (h0 : 0 < n) (h1 : n < 2 ^ 63) : (x % n).natAbs < 2 ^ 64 := by
  have := Int.emod_nonneg x (by omega : n ≠ 0)
  have := Int.emod_lt_of_pos x h0
  omega
theorem log2_lt {n k : Nat} (h : n < 2 ^ k) (hk : 0 < k) : n.log2 < k := by
  by_cases h0 : n = 0
  · subst h0; simpa using hk
  · exact (Nat.log2_lt h0).mpr h

/-! ### rows of numbers as data -/
theorem pys_int : ∀ gs : List Int, pys (gs.map D.int) = some (gs.map PyData.int)
  | [] => by simp [pys]
  | g :: gs => by simp [pys, py, pys_int gs]
theorem lay_int : ∀ gs : List Int, PyData.canLayAll0 (gs.map PyData.int) = true
  | [] => by simp [PyData.canLayAll0]
  | g :: gs => by simp [PyData.canLayAll0, PyData.canLay0, lay_int gs]
theorem depth_int : ∀ gs : List Int, PyData.depthAll (gs.map PyData.int) = 0
  | [] => by simp [PyData.depthAll]
  | g :: gs => by simp [PyData.depthAll, PyData.depth, depth_int gs]
theorem ne_nil (gs : List Int) : eqD (.lst (gs.map D.int)) (.lst []) = some (decide (gs = [])) := by
  have e1 : py (.lst (gs.map D.int)) = some (.list (gs.map PyData.int)) := by simp [py, pys_int]
  have e2 : py (.lst []) = some (.list []) := by simp [py, pys]
  have s1 : SeqAt.shaped (.list (gs.map PyData.int)) = true := by simp [SeqAt.shaped, PyData.canLay0, lay_int, PyData.depth, depth_int]
  have s2 : SeqAt.shaped (.list []) = true := by simp [SeqAt.shaped, PyData.canLay0, PyData.canLayAll0, PyData.depth, PyData.depthAll]
  simp only [eqD, e1, e2, s1, s2, Bool.and_self, if_true]
  cases gs with
  | nil => simp [PyData.eqv, PyData.eqvAll]
  | cons g gs => simp [PyData.eqv, PyData.eqvAll]
theorem ne_app (gs : List Int) (g : Int) : eqD (.lst (gs.map D.int ++ [.int g])) (.lst []) = some false := by
  have h := ne_nil (gs ++ [g])
  simpa using h
theorem sortU_rep (c : Int) : ∀ n : Nat, sortU (List.replicate (n + 1) c) = [c]
  | 0 => by simp [sortU, insU]
  | n + 1 => by
    rw [List.replicate_succ, sortU, sortU_rep c n]
    simp [insU]
/-- the same data are == -/
theorem eqv_self_int (i : Int) : decide (i = i) = true := by simp
end Vs
set_option Elab.async false
set_option linter.all false
set_option maxRecDepth 100000
set_option maxHeartbeats 4000000
/-! Vs20: runs by simp: each piece of a term, applied to the cells. -/
namespace Vs
open PySem PySem.Spec PyProof.Rows L2
def bindR {α β : Type} (r : R α) (f : α → M β) : R β := match r with
  | .no => .no
  | .ok a ρ => f a ρ
  | .ex x ρ => .ex x ρ
section
variable {α β : Type} {ρ ρ' : Rho} {a b : M LD} {x y z : LD} {i j k n : Nat}
@[simp] theorem bindR_ok {a : α} {f : α → M β} : bindR (.ok a ρ) f = f a ρ := rfl
@[simp] theorem bindR_no {f : α → M β} : bindR (.no : R α) f = .no := rfl
@[simp ↓] theorem ap_bind {m : M α} {f : α → M β} : M.bind m f ρ = bindR (m ρ) f := by cases e : m ρ <;> simp [M.bind, bindR, e]
@[simp ↓] theorem ap_ret {a : α} : M.ret a ρ = .ok a ρ := rfl
@[simp ↓] theorem ap_kc {d : D} : kc d ρ = .ok (9, d) ρ := rfl
@[simp] theorem ap_rd : rd i ρ = match ρ[i]? with | some (.c k d) => if d.isS then .ok (9, d) ρ else .ok (0, d) (ρ.set i (.c 0 d)) | _ => .no := rfl
@[simp] theorem ap_mv : mv i ρ = match ρ[i]? with | some (.c k d) => if d.isS then .ok (9, d) ρ else .ok (k, d) (ρ.set i .u) | _ => .no := rfl
@[simp] theorem ap_vwOk : vwOk i ρ = match ρ[i]? with | some (.c _ _) => .ok (.view i) ρ | _ => .no := rfl
@[simp ↓] theorem ap_asAr {m : M LD} : asAr m ρ = bindR (m ρ) fun x => M.ret (.val x) := ap_bind
@[simp ↓] theorem ap_noAr : noAr ρ = .ok [] ρ := rfl
@[simp ↓] theorem ap_consAr {m : M Ar} {ms : M (List Ar)} : consAr m ms ρ = bindR (m ρ) fun a => ms.bind fun as => M.ret (a :: as) := ap_bind
@[simp ↓] theorem ap_noVs : noVs ρ = .ok [] ρ := rfl
@[simp ↓] theorem ap_consV {m : M LD} {ms : M (List LD)} : consV m ms ρ = bindR (m ρ) fun a => ms.bind fun as => M.ret (a :: as) := ap_bind
@[simp ↓] theorem ap_two {a b : M Ar} : two a b ρ = bindR (a ρ) fun x => b.bind fun y => M.ret [x, y] := ap_bind
@[simp ↓] theorem ap_sop {o : List D → Option D} {m : M (List Ar)} : sop o m ρ = bindR (m ρ) fun as ρ => match gets ρ as with
  | some ds => match o ds with
    | some d => .ok (9, d) ρ
    | none => .no
  | none => .no := ap_bind
@[simp ↓] theorem ap_asB {m : M LD} : asB m ρ = bindR (m ρ) fun x => match x.2 with
  | .bl b => M.ret b
  | _ => fun _ => .no := ap_bind
@[simp ↓] theorem ap_un {o : D → Option D} {m : M Ar} : un o m ρ = bindR (m ρ) fun a ρ => match a.get ρ with
  | some x => match o x with
    | some d => .ok (9, d) ρ
    | none => .no
  | none => .no := ap_bind
@[simp ↓] theorem ap_opV {o : LD → LD → Option LD} : opV o a b ρ = bindR (a ρ) fun x => b.bind fun y ρ => match o x y with
  | some z => .ok z ρ
  | none => .no := ap_bind
@[simp ↓] theorem ap_op1 {o : LD → Option LD} : op1 o a ρ = bindR (a ρ) fun x ρ => match o x with
  | some z => .ok z ρ
  | none => .no := ap_bind
@[simp ↓] theorem ap_andT {a b : M Bool} : andT a b ρ = bindR (a ρ) fun x => if x then b else M.ret false := ap_bind
@[simp ↓] theorem ap_orT {a b : M Bool} : orT a b ρ = bindR (a ρ) fun x => if x then M.ret true else b := ap_bind
@[simp ↓] theorem ap_notT {a : M Bool} : notT a ρ = bindR (a ρ) fun x => M.ret (!x) := ap_bind
@[simp ↓] theorem ap_iteV {c : M Bool} {x y : M α} : iteV c x y ρ = bindR (c ρ) fun b => if b then x else y := ap_bind
@[simp ↓] theorem ap_mkTup {m : M (List LD)} : mkTup m ρ = bindR (m ρ) fun xs ρ => if xs.length ≤ lineN then .ok (lvl xs, .tup (xs.map (·.2))) ρ else .no := ap_bind
@[simp ↓] theorem ap_mkLst {m : M (List LD)} : mkLst m ρ = bindR (m ρ) fun xs ρ => if xs.length ≤ lineN then .ok (up (lvl xs), .lst (xs.map (·.2))) ρ else .no := ap_bind
@[simp ↓] theorem ap_sSeq {a b : M Out} : sSeq a b ρ = bindR (a ρ) fun o => match o with
  | .nx => b
  | o => M.ret o := ap_bind
@[simp ↓] theorem ap_sAsg {m : M LD} {g : G} : sAsg m g ρ = bindR (m ρ) fun x ρ => match g x ρ with
  | some ρ' => .ok .nx ρ'
  | none => .no := ap_bind
@[simp ↓] theorem ap_sDrop {m : M LD} : sDrop m ρ = bindR (m ρ) fun _ => M.ret .nx := ap_bind
@[simp ↓] theorem ap_sRet {m : M LD} : sRet m ρ = bindR (m ρ) fun x => M.ret (.rt x) := ap_bind
@[simp ↓] theorem ap_sIf {c : M Bool} {a b : M Out} : sIf c a b ρ = bindR (c ρ) fun t => if t then a else b := ap_bind
@[simp ↓] theorem ap_sNx : sNx ρ = .ok .nx ρ := rfl
@[simp ↓] theorem ap_sFor {i : M (List D)} {g : G} {b : M Out} : sFor i g b ρ = bindR (i ρ) fun ds => forL g b ds := ap_bind
@[simp ↓] theorem ap_sPar {a b : M LD} : sPar i j a b ρ = bindR (a ρ) fun x => b.bind fun y ρ => if i < ρ.length ∧ j < ρ.length then .ok .nx ((ρ.set i (.c x.1 x.2)).set j (.c y.1 y.2)) else .no := ap_bind
@[simp ↓] theorem ap_sPar3 {a b c : M LD} : sPar3 i j k a b c ρ = bindR (a ρ) fun x => b.bind fun y => c.bind fun z ρ => if i < ρ.length ∧ j < ρ.length ∧ k < ρ.length then .ok .nx (((ρ.set i (.c x.1 x.2)).set j (.c y.1 y.2)).set k (.c z.1 z.2)) else .no := ap_bind
@[simp ↓] theorem ap_forget {m : M α} {vs : List Nat} : forget vs m ρ = m (wipeC ρ vs) := rfl
@[simp ↓] theorem ap_altM {a b : M α} : altM a b ρ = match a ρ with | .no => b ρ | r => r := rfl
@[simp] theorem ap_gN : gN i x ρ = if i < ρ.length then some (ρ.set i (.c x.1 x.2)) else none := rfl
@[simp] theorem ap_gsN : gsN [] ρ = some ρ := rfl
@[simp] theorem ap_gsC {g : G} {gs : Gs} {xs : List LD} : gsC g gs (x :: xs) ρ = (g x ρ).bind (gs xs) := rfl
@[simp] theorem ap_gR {gs : Gs} : gR n gs x ρ = match partsR x with | some xs => if xs.length = n then gs xs ρ else none | none => none := rfl
@[simp ↓] theorem ap_subN {mi : M LD} : subN j mi ρ = match ρ[j]? with
  | some (.c _ _) => bindR (mi ρ) (fun y ρ1 => match ρ1[j]? with
    | some (.c k d) => match subI k d y.2 with
      | some (z, k') => .ok z (ρ1.set j (.c k' d))
      | none => .no
    | _ => .no)
  | _ => .no := by unfold subN; split <;> (simp [*] <;> rfl)
@[simp ↓] theorem ap_callG {F : List LD → R LD} {io pm : List Nat} {n kn : Nat} {m mk : M (List Ar)} : callG F io pm n kn m mk ρ = bindR (m ρ) fun as => mk.bind fun bs ρ => if as.length = n ∧ bs.length = kn then (match takeA ρ (pickL pm (as ++ bs)) with
  | none => .no
  | some (xs, ρ1) => match F xs with
    | .ok z ρc => match backA (pickL pm (as ++ bs)) ρ1 ρc io with
      | some ρ2 => .ok z ρ2
      | none => .no
    | _ => .no) else .no := ap_bind
@[simp ↓] theorem ap_rng1 {m : M (List LD)} : rng1 m ρ = bindR (m ρ) fun xs => match xs with
  | [(_, .int j)] => if rgOk j then M.ret (rangeD 0 j) else fun _ => .no
  | _ => fun _ => .no := ap_bind
@[simp ↓] theorem ap_rng2 {m : M (List LD)} : rng2 m ρ = bindR (m ρ) fun xs => match xs with
  | [(_, .int i), (_, .int j)] => if rgOk i && rgOk j then M.ret (rangeD i j) else fun _ => .no
  | _ => fun _ => .no := ap_bind
@[simp ↓] theorem ap_seqM {m : M LD} : seqM m ρ = bindR (m ρ) fun x => match x.2 with
  | .lst xs => M.ret xs
  | .tup xs => M.ret xs
  | .rol xs => M.ret xs
  | _ => fun _ => .no := ap_bind
@[simp ↓] theorem ap_enumM {m : M (List LD)} : enumM m ρ = bindR (m ρ) fun xs ρ => match enumR xs with
  | some ds => .ok ds ρ
  | none => .no := ap_bind
@[simp ↓] theorem ap_zipM {m : M (List LD)} : zipM m ρ = bindR (m ρ) fun xs ρ => match zipR xs with
  | some ds => .ok ds ρ
  | none => .no := ap_bind
@[simp ↓] theorem ap_srtU {m : M LD} : srtU m ρ = bindR (m ρ) fun x ρ => match rowN x.2 with
  | some ns => if ns.length ≤ 4000 ∧ (sortU ns).length < 64 then .ok (9, .lst ((sortU ns).map .int)) ρ else .no
  | none => .no := ap_bind
@[simp ↓] theorem ap_lenU {m : M LD} : lenU m ρ = bindR (m ρ) fun x ρ => match rowN x.2 with
  | some ns => if ns.length ≤ 4000 then .ok (9, .int (sortU ns).length) ρ else .no
  | none => .no := ap_bind
@[simp ↓] theorem ap_noP : noP ρ = .ok none ρ := rfl
@[simp ↓] theorem ap_asP {m : M LD} : asP m ρ = bindR (m ρ) fun x => match x.2 with
  | .int i => M.ret (some i)
  | _ => fun _ => .no := ap_bind
@[simp ↓] theorem ap_slc {m : M LD} {l h : M (Option Int)} : slc m l h ρ = bindR (m ρ) fun x => l.bind fun lo => h.bind fun hi ρ => match sliceD x lo hi with
  | some z => .ok z ρ
  | none => .no := ap_bind
@[simp ↓] theorem ap_comp {own : List Nat} {i : M (List D)} {g : G} {t : M Bool} {e : M LD} : comp own i g t e ρ = bindR (i ρ) fun ds ρ => if ds.length ≤ lineN ∧ own.all (fun v => match ρ[v]? with | some (.c _ d) => d.isS | _ => true) then (match compL own g t e ds 8 [] (wipeC ρ own) with
  | .ok x ρ' => .ok x (backC ρ ρ' own)
  | _ => .no) else .no := ap_bind
@[simp] theorem ap_comp0 {own : List Nat} {g : G} {t : M Bool} {e : M LD} {acc : List D} : compL own g t e [] k acc ρ = .ok (k + 1, .lst acc) ρ := rfl
@[simp] theorem ap_comp1 {own : List Nat} {g : G} {t : M Bool} {e : M LD} {d : D} {ds acc : List D} : compL own g t e (d :: ds) k acc ρ = match g (lv d, d) ρ with
  | none => .no
  | some ρ1 => match t ρ1 with
    | .no => .no
    | .ex _ _ => .no
    | .ok false ρ2 => compL own g t e ds k acc (wipeC ρ2 own)
    | .ok true ρ2 => match e ρ2 with
      | .no => .no
      | .ex _ _ => .no
      | .ok x ρ3 => compL own g t e ds (min k x.1) (acc ++ [x.2]) (wipeC ρ3 own) := rfl
@[simp] theorem ap_for0 {g : G} {b : M Out} : forL g b [] ρ = .ok .nx ρ := rfl
@[simp] theorem ap_for1 {g : G} {b : M Out} {d : D} {ds : List D} : forL g b (d :: ds) ρ = match g (lv d, d) ρ with
    | none => .no
    | some ρ1 => match b ρ1 with
      | .no => .no
      | .ex x ρ2 => .ex x ρ2
      | .ok .nx ρ2 => forL g b ds ρ2
      | .ok .ct ρ2 => forL g b ds ρ2
      | .ok .bk ρ2 => .ok .nx ρ2
      | .ok (.rt x) ρ2 => .ok (.rt x) ρ2 := rfl
@[simp] theorem ap_mut1 {o : MO} {ma : M (List LD)} : mut1 j o ma ρ = match ρ[j]? with
  | some (.c _ (.lst _)) => bindR (ma ρ) (fun xs ρ1 => match ρ1[j]? with
    | some (.c k d) => match o k d xs with
      | some (z, k', d') => .ok z (ρ1.set j (.c k' d'))
      | none => .no
    | _ => .no)
  | _ => .no := by unfold mut1; split <;> (simp [*] <;> rfl)
end
theorem rg2 : List.range 2 = [0, 1] := rfl
theorem rg3 : List.range 3 = [0, 1, 2] := rfl
theorem rg4 : List.range 4 = [0, 1, 2, 3] := rfl
theorem rg5 : List.range 5 = [0, 1, 2, 3, 4] := rfl
end Vs
set_option Elab.async false
set_option linter.all false
set_option maxRecDepth 100000
set_option maxHeartbeats 2000000
namespace Lk18
open PySem PySem.Spec PyProof.Rows L2 Vs
def top (i : Nat) : Stmt := PySem.Challenge.pw_equalsums_k18_whole_main_middles.main.body.getD i (.Pass ⟨0, 0, 0, 0⟩)
abbrev s_middle_thrice : Stmt := top 1
abbrev s_four_lots : Stmt := top 2
abbrev s__law_deck : Stmt := top 4
abbrev s__law_draw : Stmt := top 5
abbrev s__law_pick : Stmt := top 6
abbrev s__law_lines : Stmt := top 7
abbrev s__law_turned : Stmt := top 8
abbrev s__law_mixed_four : Stmt := top 9
abbrev s__law_plain_four : Stmt := top 10
abbrev s__law_even_three : Stmt := top 11
abbrev s__law_even_four : Stmt := top 12
abbrev s_law : Stmt := top 13
structure Txt (mg : Str → Option Value) : Prop where
  z_abs : mg "abs" = none
  z_enumerate : mg "enumerate" = none
  z_int : mg "int" = none
  z_len : mg "len" = none
  z_range : mg "range" = none
  z_repr : mg "repr" = none
  z_set : mg "set" = none
  z_sorted : mg "sorted" = none
  z_sum : mg "sum" = none
  z_tuple : mg "tuple" = none
  z_zip : mg "zip" = none
theorem bd__law_draw_0 : BindS "_law_draw" s__law_draw ["deck", "many"] [] 2 [0, 1] := fun _ _ _ _ _ _ us ws h1 h2 => match us, ws, h1, h2 with | [_, _], [], _, _ => ⟨rfl, rfl⟩
theorem bd__law_turned_0 : BindS "_law_turned" s__law_turned ["square", "k"] [] 2 [0, 1] := fun _ _ _ _ _ _ us ws h1 h2 => match us, ws, h1, h2 with | [_, _], [], _, _ => ⟨rfl, rfl⟩
theorem bd__law_pick_0 : BindS "_law_pick" s__law_pick ["deck", "row"] [] 2 [0, 1] := fun _ _ _ _ _ _ us ws h1 h2 => match us, ws, h1, h2 with | [_, _], [], _, _ => ⟨rfl, rfl⟩
theorem bd__law_mixed_four_0 : BindS "_law_mixed_four" s__law_mixed_four ["deck", "square"] [] 2 [0, 1] := fun _ _ _ _ _ _ us ws h1 h2 => match us, ws, h1, h2 with | [_, _], [], _, _ => ⟨rfl, rfl⟩
theorem bd__law_plain_four_0 : BindS "_law_plain_four" s__law_plain_four ["deck"] [] 1 [0] := fun _ _ _ _ _ _ us ws h1 h2 => match us, ws, h1, h2 with | [_], [], _, _ => ⟨rfl, rfl⟩
theorem bd__law_deck_0 : BindS "_law_deck" s__law_deck ["script"] [] 1 [0] := fun _ _ _ _ _ _ us ws h1 h2 => match us, ws, h1, h2 with | [_], [], _, _ => ⟨rfl, rfl⟩
theorem bd__law_even_three_0 : BindS "_law_even_three" s__law_even_three ["deck", "most"] [] 2 [0, 1] := fun _ _ _ _ _ _ us ws h1 h2 => match us, ws, h1, h2 with | [_, _], [], _, _ => ⟨rfl, rfl⟩
theorem bd__law_lines_0 : BindS "_law_lines" s__law_lines ["square"] [] 1 [0] := fun _ _ _ _ _ _ us ws h1 h2 => match us, ws, h1, h2 with | [_], [], _, _ => ⟨rfl, rfl⟩
theorem bd_middle_thrice_0 : BindS "middle_thrice" s_middle_thrice ["square"] [] 1 [0] := fun _ _ _ _ _ _ us ws h1 h2 => match us, ws, h1, h2 with | [_], [], _, _ => ⟨rfl, rfl⟩
theorem bd_middle_thrice_1 : BindS "middle_thrice" s_middle_thrice ["square"] ["square"] 0 [0] := fun _ _ _ _ _ _ us ws h1 h2 => match us, ws, h1, h2 with | [], [_], _, _ => ⟨rfl, rfl⟩
theorem bd__law_even_four_0 : BindS "_law_even_four" s__law_even_four ["deck", "most"] [] 2 [0, 1] := fun _ _ _ _ _ _ us ws h1 h2 => match us, ws, h1, h2 with | [_, _], [], _, _ => ⟨rfl, rfl⟩
theorem bd_four_lots_0 : BindS "four_lots" s_four_lots ["square"] [] 1 [0] := fun _ _ _ _ _ _ us ws h1 h2 => match us, ws, h1, h2 with | [_], [], _, _ => ⟨rfl, rfl⟩
theorem bd_four_lots_1 : BindS "four_lots" s_four_lots ["square"] ["square"] 0 [0] := fun _ _ _ _ _ _ us ws h1 h2 => match us, ws, h1, h2 with | [], [_], _, _ => ⟨rfl, rfl⟩
section
variable {P : Program} {w : World} {K : PySem.W.Frag} {mg : Str → Option Value} {base : Heap}
def m_middle_thrice : M Out :=
  sRet (opV mulD (kc (.int 3)) (opV idxO (subN 0 (kc (.int 1))) (kc (.int 1))))
def F_middle_thrice : List LD → R LD := fnRun 1 m_middle_thrice
theorem sc_middle_thrice : FnScope ["square"] ["square"] (defScope s_middle_thrice) := ⟨rfl, rfl, rfl, by decide +kernel, rfl, by decide +kernel, by decide +kernel⟩
theorem ok_middle_thrice {f : Addr} {fd : FuncData} (T : Txt mg) (F : Fun K "middle_thrice" "middle_thrice" s_middle_thrice f fd) : FnG P w K mg base 1 f fd ["square"] [] F_middle_thrice := by
  refine fnG_of F sc_middle_thrice fun σ0 cdv A outer s H hr hgd => ?_
  unfold m_middle_thrice
  exact b_one (s_ret (v_mul (v_int) (v_idx (v_subN hr (pv 0) (v_int) (fun _ _ => rfl)) (v_int) (fun _ _ => rfl))))
def m_four_lots : M Out :=
  sSeq (sAsg (rd 0) (gR 4 (gsC (gN 1) (gsC (gN 2) (gsC (gN 3) (gsC (gN 4) (gsN)))))))
    (sSeq (sAsg (opV addD (opV addD (opV addD (subN 1 (kc (.int 0))) (subN 1 (kc (.int 3)))) (subN 4 (kc (.int 0)))) (subN 4 (kc (.int 3)))) (gN 5))
    (sSeq (sAsg (opV addD (opV addD (opV addD (subN 2 (kc (.int 1))) (subN 2 (kc (.int 2)))) (subN 3 (kc (.int 1)))) (subN 3 (kc (.int 2)))) (gN 6))
    (sSeq (sAsg (opV addD (opV addD (opV addD (subN 2 (kc (.int 0))) (subN 3 (kc (.int 0)))) (subN 2 (kc (.int 3)))) (subN 3 (kc (.int 3)))) (gN 7))
    (sRet (mkTup (consV (rd 5) (consV (rd 6) (consV (opV addD (opV addD (opV addD (subN 1 (kc (.int 1))) (subN 1 (kc (.int 2)))) (subN 4 (kc (.int 1)))) (subN 4 (kc (.int 2)))) (consV (rd 7) (noVs))))))))))
def F_four_lots : List LD → R LD := fnRun 8 m_four_lots
theorem sc_four_lots : FnScope ["square", "first", "second", "third", "last", "corners", "middle", "sides"] ["square"] (defScope s_four_lots) := ⟨rfl, rfl, rfl, by decide +kernel, rfl, by decide +kernel, by decide +kernel⟩
theorem ok_four_lots {f : Addr} {fd : FuncData} (T : Txt mg) (F : Fun K "four_lots" "four_lots" s_four_lots f fd) : FnG P w K mg base 1 f fd ["square"] [] F_four_lots := by
  refine fnG_of F sc_four_lots fun σ0 cdv A outer s H hr hgd => ?_
  unfold m_four_lots
  exact b_cons (s_asg (v_rd (pv 0)) (g_row rfl (gs_cons (g_name (pg_name (i := 1) sc_four_lots.nd rfl (Or.inl rfl)) (pin_set (by decide))) (gs_cons (g_name (pg_name (i := 2) sc_four_lots.nd rfl (Or.inl rfl)) (pin_set (by decide))) (gs_cons (g_name (pg_name (i := 3) sc_four_lots.nd rfl (Or.inl rfl)) (pin_set (by decide))) (gs_cons (g_name (pg_name (i := 4) sc_four_lots.nd rfl (Or.inl rfl)) (pin_set (by decide))) (gs_nil)))))))
    (b_cons (s_set sc_four_lots.nd rfl (Or.inl rfl) (v_add (v_add (v_add (v_subN hr (pv 1) (v_int) (fun _ _ => rfl)) (v_subN hr (pv 1) (v_int) (fun _ _ => rfl))) (v_subN hr (pv 4) (v_int) (fun _ _ => rfl))) (v_subN hr (pv 4) (v_int) (fun _ _ => rfl))) (pin_set (by decide)))
    (b_cons (s_set sc_four_lots.nd rfl (Or.inl rfl) (v_add (v_add (v_add (v_subN hr (pv 2) (v_int) (fun _ _ => rfl)) (v_subN hr (pv 2) (v_int) (fun _ _ => rfl))) (v_subN hr (pv 3) (v_int) (fun _ _ => rfl))) (v_subN hr (pv 3) (v_int) (fun _ _ => rfl))) (pin_set (by decide)))
    (b_cons (s_set sc_four_lots.nd rfl (Or.inl rfl) (v_add (v_add (v_add (v_subN hr (pv 2) (v_int) (fun _ _ => rfl)) (v_subN hr (pv 3) (v_int) (fun _ _ => rfl))) (v_subN hr (pv 2) (v_int) (fun _ _ => rfl))) (v_subN hr (pv 3) (v_int) (fun _ _ => rfl))) (pin_set (by decide)))
    (b_one (s_ret (v_tup (vs_cons (v_rd (pv 5)) (vs_cons (v_rd (pv 6)) (vs_cons (v_add (v_add (v_add (v_subN hr (pv 1) (v_int) (fun _ _ => rfl)) (v_subN hr (pv 1) (v_int) (fun _ _ => rfl))) (v_subN hr (pv 4) (v_int) (fun _ _ => rfl))) (v_subN hr (pv 4) (v_int) (fun _ _ => rfl))) (vs_cons (v_rd (pv 7)) (vs_nil)))))))))))
def m__law_deck : M Out :=
  sSeq (sAsg (dispD [Sum.inr "great", Sum.inr "mixed", Sum.inr "turns"] [mkLst (noVs), opV addD (kc (.int 1959118)) (sop (o1 fLen) (consAr (asAr (slc (rd 0) (noP) (asP (kc (.int 63))))) noAr)), kc (.int 0)]) (gN 1))
    (sSeq (sFor (seqM (slc (rd 0) (noP) (asP (kc (.int 63))))) (gN 2) (sSeq (sAsg (opV addD (opV mulD (kc (.int 2)) (sop (o1 fAbs) (consAr (vwOk 2) noAr))) (sop (o1 fInt) (consAr (asAr (sop oLt (two (vwOk 2) (asAr (kc (.int 0)))))) noAr))) (gN 3))
    (sSeq (sIf (asB (sop oGe (two (vwOk 3) (asAr (sop oPow (two (asAr (kc (.int 10))) (asAr (kc (.int 16))))))))) (sDrop (mutP moAppend (plX (plN 1) (qK (.str "great"))) [qN 3])) (sNx))
    (sAsg (sop oMod (two (asAr (sop (o1 fInt) (consAr (asAr (opV addD (opV addD (opV mulD (subN 1 (kc (.str "mixed"))) (kc (.int 69621))) (rd 3)) (kc (.int 29)))) noAr))) (asAr (kc (.int 4294967291))))) (gAt (plN 1) (qK (.str "mixed")))))))
    (sRet (mv 1)))
def F__law_deck : List LD → R LD := fnRun 4 m__law_deck
theorem sc__law_deck : FnScope ["script", "deck", "cell", "own"] ["script"] (defScope s__law_deck) := ⟨rfl, rfl, rfl, by decide +kernel, rfl, by decide +kernel, by decide +kernel⟩
theorem ok__law_deck {f : Addr} {fd : FuncData} (T : Txt mg) (F : Fun K "_law_deck" "_law_deck" s__law_deck f fd) : FnG P w K mg base 1 f fd ["script"] [] F__law_deck := by
  refine fnG_of F sc__law_deck fun σ0 cdv A outer s H hr hgd => ?_
  unfold m__law_deck
  exact b_cons (s_set sc__law_deck.nd rfl (Or.inl rfl) (v_disp (pp_str (v_lst (vs_nil)) (pp_str (v_add (v_int) (v_callB call_len_seq s_len rfl T.z_len PySem.boot_len (as_cons (a_of (v_slice (v_rd (pv 0)) p_none (p_some (v_int)))) as_nil))) (pp_str (v_int) (pp_nil)))) rfl (by decide +kernel) (by decide)) (pin_set (by decide)))
    (b_cons (s_for PassesOwn.never rfl (i_seq (v_slice (v_rd (pv 0)) p_none (p_some (v_int)))) (g_name (pg_name (i := 2) sc__law_deck.nd rfl (Or.inl rfl)) (pin_set (by decide))) (b_cons (s_set sc__law_deck.nd rfl (Or.inl rfl) (v_add (v_mul (v_int) (v_callB call_abs s_abs rfl T.z_abs PyProof.Rows.boot_abs (as_cons (a_vw (pv 2)) as_nil))) (v_callTy call_int1 s_int rfl T.z_int PyProof.Rows.boot_int (as_cons (a_of (v_lt (a_vw (pv 2)) (a_of (v_int)))) as_nil))) (pin_set (by decide)))
    (b_cons (s_if (t_ge (a_vw (pv 3)) (a_of (v_pow (a_of (v_int)) (a_of (v_int))))) (b_one (s_expr (v_mutP PySem.F.slot_list_append PySem.F.type_list_append mt_append m_append (l_item hr (l_name (pv 1)) (qe_str) (fun _ _ => rfl)) (qs_cons (qe_name (pv 3)) (qs_nil))))) (b_nil))
    (b_one (s_asg (v_mod (a_of (v_callTy call_int1 s_int rfl T.z_int PyProof.Rows.boot_int (as_cons (a_of (v_add (v_add (v_mul (v_subN hr (pv 1) (v_str) (fun _ _ => rfl)) (v_int)) (v_rd (pv 3))) (v_int))) as_nil))) (a_of (v_int))) (g_at hr (l_name (pv 1)) (qe_str)))))))
    (b_one (s_ret (v_mv (pv 1)))))
def m__law_draw : M Out :=
  sSeq (sIf (asB (sop oLt (two (vwOk 1) (asAr (kc (.int 2)))))) (sRet (kc (.int 0))) (sNx))
    (sSeq (sIf (asB (cmpP oNe (plX (plN 0) (qK (.str "great"))) [])) (sSeq (sAsg (mutP moPop (plX (plN 0) (qK (.str "great"))) []) (gN 2))
    (sSeq (sIf (asB (sop oGe (two (vwOk 2) (vwOk 1)))) (sDrop (mutP moAppend (plX (plN 0) (qK (.str "great"))) [q2 oDiv (qN 2) (qN 1)])) (sNx))
    (sRet (sop oMod (two (asAr (sop (o1 fInt) (consAr (vwOk 2) noAr))) (vwOk 1)))))) (sNx))
    (sSeq (sAsg (opV addD (subN 0 (kc (.str "turns"))) (kc (.int 1))) (gAt (plN 0) (qK (.str "turns"))))
    (sSeq (sAsg (sop oMod (two (asAr (sop (o1 fInt) (consAr (asAr (opV addD (subN 0 (kc (.str "mixed"))) (opV mulD (kc (.int 2654435761)) (subN 0 (kc (.str "turns")))))) noAr))) (asAr (kc (.int 4294967279))))) (gN 3))
    (sSeq (sAsg (sop oMod (two (asAr (sop (o1 fInt) (consAr (asAr (opV addD (opV addD (opV mulD (rd 3) (rd 3)) (opV mulD (kc (.int 40692)) (subN 0 (kc (.str "turns"))))) (kc (.int 23)))) noAr))) (asAr (kc (.int 4294967231))))) (gN 3))
    (sSeq (sAsg (sop oMod (two (asAr (sop (o1 fInt) (consAr (asAr (opV addD (opV mulD (rd 3) (rd 3)) (opV mulD (subN 0 (kc (.str "mixed"))) (kc (.int 11))))) noAr))) (asAr (kc (.int 4294967197))))) (gN 3))
    (sRet (sop oMod (two (asAr (sop (o1 fInt) (consAr (asAr (sop oDiv (two (vwOk 3) (asAr (kc (.int 64)))))) noAr))) (vwOk 1)))))))))
def F__law_draw : List LD → R LD := fnRun 4 m__law_draw
theorem sc__law_draw : FnScope ["deck", "many", "great", "number"] ["deck", "many"] (defScope s__law_draw) := ⟨rfl, rfl, rfl, by decide +kernel, rfl, by decide +kernel, by decide +kernel⟩
theorem ok__law_draw {f : Addr} {fd : FuncData} (T : Txt mg) (F : Fun K "_law_draw" "_law_draw" s__law_draw f fd) : FnG P w K mg base 1 f fd ["deck", "many"] [0] F__law_draw := by
  refine fnG_of F sc__law_draw fun σ0 cdv A outer s H hr hgd => ?_
  unfold m__law_draw
  exact b_cons (s_if (t_lt (a_vw (pv 1)) (a_of (v_int))) (b_one (s_ret (v_int))) (b_nil))
    (b_cons (s_if (t_neP hr (l_item hr (l_name (pv 0)) (qe_str) (fun _ _ => rfl)) (qs_nil)) (b_cons (s_set sc__law_draw.nd rfl (Or.inl rfl) (v_mutP0 PySem.F.slot_list_pop PySem.F.type_list_pop mt_pop m_pop (l_item hr (l_name (pv 0)) (qe_str) (fun _ _ => rfl))) (pin_set (by decide)))
    (b_cons (s_if (t_ge (a_vw (pv 2)) (a_vw (pv 1))) (b_one (s_expr (v_mutP PySem.F.slot_list_append PySem.F.type_list_append mt_append m_append (l_item hr (l_name (pv 0)) (qe_str) (fun _ _ => rfl)) (qs_cons (qe_div (qe_name (pv 2)) (qe_name (pv 1))) (qs_nil))))) (b_nil))
    (b_one (s_ret (v_mod (a_of (v_callTy call_int1 s_int rfl T.z_int PyProof.Rows.boot_int (as_cons (a_vw (pv 2)) as_nil))) (a_vw (pv 1))))))) (b_nil))
    (b_cons (s_asg (v_add (v_subN hr (pv 0) (v_str) (fun _ _ => rfl)) (v_int)) (g_at hr (l_name (pv 0)) (qe_str)))
    (b_cons (s_set sc__law_draw.nd rfl (Or.inl rfl) (v_mod (a_of (v_callTy call_int1 s_int rfl T.z_int PyProof.Rows.boot_int (as_cons (a_of (v_add (v_subN hr (pv 0) (v_str) (fun _ _ => rfl)) (v_mul (v_int) (v_subN hr (pv 0) (v_str) (fun _ _ => rfl))))) as_nil))) (a_of (v_int))) (pin_set (by decide)))
    (b_cons (s_set sc__law_draw.nd rfl (Or.inl rfl) (v_mod (a_of (v_callTy call_int1 s_int rfl T.z_int PyProof.Rows.boot_int (as_cons (a_of (v_add (v_add (v_mul (v_rd (pv 3)) (v_rd (pv 3))) (v_mul (v_int) (v_subN hr (pv 0) (v_str) (fun _ _ => rfl)))) (v_int))) as_nil))) (a_of (v_int))) (pin_set (by decide)))
    (b_cons (s_set sc__law_draw.nd rfl (Or.inl rfl) (v_mod (a_of (v_callTy call_int1 s_int rfl T.z_int PyProof.Rows.boot_int (as_cons (a_of (v_add (v_mul (v_rd (pv 3)) (v_rd (pv 3))) (v_mul (v_subN hr (pv 0) (v_str) (fun _ _ => rfl)) (v_int)))) as_nil))) (a_of (v_int))) (pin_set (by decide)))
    (b_one (s_ret (v_mod (a_of (v_callTy call_int1 s_int rfl T.z_int PyProof.Rows.boot_int (as_cons (a_of (v_div (a_vw (pv 3)) (a_of (v_int)))) as_nil))) (a_vw (pv 1))))))))))
def m__law_pick : M Out :=
  sRet (subN 1 (callG F__law_draw [0] [0, 1] 2 0 (consAr (vwOk 0) (consAr (asAr (sop (o1 fLen) (consAr (vwOk 1) noAr))) (noAr))) (noAr)))
def F__law_pick : List LD → R LD := fnRun 2 m__law_pick
theorem sc__law_pick : FnScope ["deck", "row"] ["deck", "row"] (defScope s__law_pick) := ⟨rfl, rfl, rfl, by decide +kernel, rfl, by decide +kernel, by decide +kernel⟩
theorem ok__law_pick {f : Addr} {fd : FuncData} (T : Txt mg) (F : Fun K "_law_pick" "_law_pick" s__law_pick f fd) (C__law_draw : Cal P w K mg base 1 "_law_draw" s__law_draw ["deck", "many"] [0] F__law_draw) : FnG P w K mg base 2 f fd ["deck", "row"] [0] F__law_pick := by
  refine fnG_of F sc__law_pick fun σ0 cdv A outer s H hr hgd => ?_
  unfold m__law_pick
  exact b_one (s_ret (v_subN hr (pv 1) (c_call C__law_draw bd__law_draw_0 (by decide) hr (by decide) hgd pass0 rfl (as_cons (a_vw (pv 0)) (as_cons (a_of (v_callB call_len_seq s_len rfl T.z_len PySem.boot_len (as_cons (a_vw (pv 1)) as_nil))) (as_nil)))) (fun _ _ => rfl)))
def m__law_lines : M Out :=
  sSeq (sAsg (sop (o1 fLen) (consAr (vwOk 0) noAr)) (gN 1))
    (sSeq (sAsg (opV addD (comp [3] (seqM (rd 0)) (gN 3) (M.ret true) (sop (o1 fSum) (consAr (vwOk 3) noAr))) (comp [4] (rng1 (consV (rd 1) (noVs))) (gN 4) (M.ret true) (sop (o1 fSum) (consAr (asAr (comp [3] (seqM (rd 0)) (gN 3) (M.ret true) (subN 3 (rd 4)))) noAr)))) (gN 2))
    (sRet (opV addD (rd 2) (mkLst (consV (sop (o1 fSum) (consAr (asAr (comp [5] (rng1 (consV (rd 1) (noVs))) (gN 5) (M.ret true) (opV idxO (subN 0 (rd 5)) (rd 5)))) noAr)) (consV (sop (o1 fSum) (consAr (asAr (comp [5] (rng1 (consV (rd 1) (noVs))) (gN 5) (M.ret true) (opV idxO (subN 0 (rd 5)) (sop oSub (two (asAr (sop oSub (two (vwOk 1) (asAr (kc (.int 1)))))) (vwOk 5)))))) noAr)) (noVs)))))))
def F__law_lines : List LD → R LD := fnRun 6 m__law_lines
theorem sc__law_lines : FnScope ["square", "n", "found", "row", "j", "i"] ["square"] (defScope s__law_lines) := ⟨rfl, rfl, rfl, by decide +kernel, rfl, by decide +kernel, by decide +kernel⟩
theorem ok__law_lines {f : Addr} {fd : FuncData} (T : Txt mg) (F : Fun K "_law_lines" "_law_lines" s__law_lines f fd) : FnG P w K mg base 1 f fd ["square"] [] F__law_lines := by
  refine fnG_of F sc__law_lines fun σ0 cdv A outer s H hr hgd => ?_
  unfold m__law_lines
  exact b_cons (s_set sc__law_lines.nd rfl (Or.inr rfl) (v_callB call_len_seq s_len rfl T.z_len PySem.boot_len (as_cons (a_vw (pv 0)) as_nil)) (pin_set (by decide)))
    (b_cons (s_set sc__law_lines.nd rfl (Or.inl rfl) (v_add (v_comp rfl sc__law_lines.nd (i_seq (v_rd (pv 0))) (own := [("row", 3)]) (blkOk_by (by kernel_rfl)) (fun _ _ _ _ _ _ => g_name (pg_name (i := 3) sc__law_lines.nd rfl (Or.inl rfl)) (blk_stays (by decide))) (fun _ _ _ _ _ => pts_no) (fun _ _ _ _ _ => v_callB (cr_sumX rfl) s_sum rfl T.z_sum PyProof.Rows.boot_sum (as_cons (a_vw (pv 3)) as_nil))) (v_comp rfl sc__law_lines.nd (i_range1 rfl T.z_range (vs_cons (v_rd (pv 1)) (vs_nil))) (own := [("j", 4)]) (blkOk_by (by kernel_rfl)) (fun _ _ _ _ _ _ => g_name (pg_name (i := 4) sc__law_lines.nd rfl (Or.inr rfl)) (blk_stays (by decide))) (fun _ _ _ _ _ => pts_no) (fun _ _ _ _ _ => v_callB (cr_sumX rfl) s_sum rfl T.z_sum PyProof.Rows.boot_sum (as_cons (a_of (v_comp rfl sc__law_lines.nd (i_seq (v_rd (pv 0))) (own := [("row", 3)]) (blkOk_by (by kernel_rfl)) (fun _ _ _ _ _ _ => g_name (pg_name (i := 3) sc__law_lines.nd rfl (Or.inl rfl)) (blk_stays (by decide))) (fun _ _ _ _ _ => pts_no) (fun _ _ _ _ _ => v_subN hr (pv 3) (v_rd (pv 4)) (fun _ _ => rfl)))) as_nil)))) (pin_set (by decide)))
    (b_one (s_ret (v_add (v_rd (pv 2)) (v_lst (vs_cons (v_callB (cr_sumX rfl) s_sum rfl T.z_sum PyProof.Rows.boot_sum (as_cons (a_of (v_comp rfl sc__law_lines.nd (i_range1 rfl T.z_range (vs_cons (v_rd (pv 1)) (vs_nil))) (own := [("i", 5)]) (blkOk_by (by kernel_rfl)) (fun _ _ _ _ _ _ => g_name (pg_name (i := 5) sc__law_lines.nd rfl (Or.inl rfl)) (blk_stays (by decide))) (fun _ _ _ _ _ => pts_no) (fun _ _ _ _ _ => v_idx (v_subN hr (pv 0) (v_rd (pv 5)) (fun _ _ => rfl)) (v_rd (pv 5)) (fun _ _ => rfl)))) as_nil)) (vs_cons (v_callB (cr_sumX rfl) s_sum rfl T.z_sum PyProof.Rows.boot_sum (as_cons (a_of (v_comp rfl sc__law_lines.nd (i_range1 rfl T.z_range (vs_cons (v_rd (pv 1)) (vs_nil))) (own := [("i", 5)]) (blkOk_by (by kernel_rfl)) (fun _ _ _ _ _ _ => g_name (pg_name (i := 5) sc__law_lines.nd rfl (Or.inl rfl)) (blk_stays (by decide))) (fun _ _ _ _ _ => pts_no) (fun _ _ _ _ _ => v_idx (v_subN hr (pv 0) (v_rd (pv 5)) (fun _ _ => rfl)) (v_sub (a_of (v_sub (a_vw (pv 1)) (a_of (v_int)))) (a_vw (pv 5))) (fun _ _ => rfl)))) as_nil)) (vs_nil))))))))
def m__law_turned : M Out :=
  sSeq (sAsg (sop (o1 fLen) (consAr (vwOk 0) noAr)) (gN 2))
    (sSeq (sAsg (iteV (asB (sop oGt (two (vwOk 1) (asAr (kc (.int 3)))))) (op1 tupD (comp [5] (rng1 (consV (rd 2) (noVs))) (gN 5) (M.ret true) (op1 tupD (comp [6] (seqM (rd 0)) (gN 6) (M.ret true) (subN 6 (rd 5)))))) (rd 0)) (gN 3))
    (sSeq (sFor (rng1 (consV (iteV (asB (sop oGt (two (vwOk 1) (asAr (kc (.int 3)))))) (sop oSub (two (vwOk 1) (asAr (kc (.int 4))))) (rd 1)) (noVs))) (gN 4) (sAsg (op1 tupD (comp [7] (rng1 (consV (rd 2) (noVs))) (gN 7) (M.ret true) (op1 tupD (comp [5] (rng1 (consV (rd 2) (noVs))) (gN 5) (M.ret true) (opV idxO (subN 3 (sop oSub (two (asAr (sop oSub (two (vwOk 2) (asAr (kc (.int 1)))))) (vwOk 5)))) (rd 7)))))) (gN 3)))
    (sRet (mv 3))))
def F__law_turned : List LD → R LD := fnRun 8 m__law_turned
theorem sc__law_turned : FnScope ["square", "k", "n", "found", "turn", "j", "row", "i"] ["square", "k"] (defScope s__law_turned) := ⟨rfl, rfl, rfl, by decide +kernel, rfl, by decide +kernel, by decide +kernel⟩
theorem ok__law_turned {f : Addr} {fd : FuncData} (T : Txt mg) (F : Fun K "_law_turned" "_law_turned" s__law_turned f fd) : FnG P w K mg base 1 f fd ["square", "k"] [] F__law_turned := by
  refine fnG_of F sc__law_turned fun σ0 cdv A outer s H hr hgd => ?_
  unfold m__law_turned
  exact b_cons (s_set sc__law_turned.nd rfl (Or.inr rfl) (v_callB call_len_seq s_len rfl T.z_len PySem.boot_len (as_cons (a_vw (pv 0)) as_nil)) (pin_set (by decide)))
    (b_cons (s_set sc__law_turned.nd rfl (Or.inr rfl) (v_ite (t_gt (a_vw (pv 1)) (a_of (v_int))) (v_callT1 call_tuple_of c_tup rfl T.z_tuple PyProof.Rows.boot_tuple (v_comp rfl sc__law_turned.nd (i_range1 rfl T.z_range (vs_cons (v_rd (pv 2)) (vs_nil))) (own := [("j", 5)]) (blkOk_by (by kernel_rfl)) (fun _ _ _ _ _ _ => g_name (pg_name (i := 5) sc__law_turned.nd rfl (Or.inr rfl)) (blk_stays (by decide))) (fun _ _ _ _ _ => pts_no) (fun _ _ _ _ _ => v_callT1 call_tuple_of c_tup rfl T.z_tuple PyProof.Rows.boot_tuple (v_comp rfl sc__law_turned.nd (i_seq (v_rd (pv 0))) (own := [("row", 6)]) (blkOk_by (by kernel_rfl)) (fun _ _ _ _ _ _ => g_name (pg_name (i := 6) sc__law_turned.nd rfl (Or.inl rfl)) (blk_stays (by decide))) (fun _ _ _ _ _ => pts_no) (fun _ _ _ _ _ => v_subN hr (pv 6) (v_rd (pv 5)) (fun _ _ => rfl)))))) (v_rd (pv 0))) (pin_set (by decide)))
    (b_cons (s_for PassesOwn.never rfl (i_range1 rfl T.z_range (vs_cons (v_ite (t_gt (a_vw (pv 1)) (a_of (v_int))) (v_sub (a_vw (pv 1)) (a_of (v_int))) (v_rd (pv 1))) (vs_nil))) (g_name (pg_name (i := 4) sc__law_turned.nd rfl (Or.inl rfl)) (pin_set (by decide))) (b_one (s_set sc__law_turned.nd rfl (Or.inr rfl) (v_callT1 call_tuple_of c_tup rfl T.z_tuple PyProof.Rows.boot_tuple (v_comp rfl sc__law_turned.nd (i_range1 rfl T.z_range (vs_cons (v_rd (pv 2)) (vs_nil))) (own := [("i", 7)]) (blkOk_by (by kernel_rfl)) (fun _ _ _ _ _ _ => g_name (pg_name (i := 7) sc__law_turned.nd rfl (Or.inr rfl)) (blk_stays (by decide))) (fun _ _ _ _ _ => pts_no) (fun _ _ _ _ _ => v_callT1 call_tuple_of c_tup rfl T.z_tuple PyProof.Rows.boot_tuple (v_comp rfl sc__law_turned.nd (i_range1 rfl T.z_range (vs_cons (v_rd (pv 2)) (vs_nil))) (own := [("j", 5)]) (blkOk_by (by kernel_rfl)) (fun _ _ _ _ _ _ => g_name (pg_name (i := 5) sc__law_turned.nd rfl (Or.inl rfl)) (blk_stays (by decide))) (fun _ _ _ _ _ => pts_no) (fun _ _ _ _ _ => v_idx (v_subN hr (pv 3) (v_sub (a_of (v_sub (a_vw (pv 2)) (a_of (v_int)))) (a_vw (pv 5))) (fun _ _ => rfl)) (v_rd (pv 7)) (fun _ _ => rfl)))))) (pin_set (by decide)))))
    (b_one (s_ret (v_mv (pv 3))))))
def m__law_mixed_four : M Out :=
  sSeq (sAsg (callG F__law_turned [] [0, 1] 2 0 (consAr (asAr (rd 1)) (consAr (asAr (callG F__law_draw [0] [0, 1] 2 0 (consAr (vwOk 0) (consAr (asAr (kc (.int 8))) (noAr))) (noAr))) (noAr))) (noAr)) (gN 2))
    (sSeq (sAsg (callG F__law_pick [0] [0, 1] 2 0 (consAr (vwOk 0) (consAr (asAr (mkLst (consV (mkTup (consV (kc (.int 0)) (consV (kc (.int 1)) (consV (kc (.int 2)) (consV (kc (.int 3)) (noVs)))))) (consV (mkTup (consV (kc (.int 1)) (consV (kc (.int 0)) (consV (kc (.int 3)) (consV (kc (.int 2)) (noVs)))))) (consV (mkTup (consV (kc (.int 0)) (consV (kc (.int 2)) (consV (kc (.int 1)) (consV (kc (.int 3)) (noVs)))))) (consV (mkTup (consV (kc (.int 2)) (consV (kc (.int 0)) (consV (kc (.int 3)) (consV (kc (.int 1)) (noVs)))))) (consV (mkTup (consV (kc (.int 3)) (consV (kc (.int 1)) (consV (kc (.int 2)) (consV (kc (.int 0)) (noVs)))))) (noVs)))))))) (noAr))) (noAr)) (gN 3))
    (sSeq (sAsg (op1 tupD (comp [4] (seqM (rd 3)) (gN 4) (M.ret true) (op1 tupD (comp [5] (seqM (rd 3)) (gN 5) (M.ret true) (opV idxO (subN 2 (rd 4)) (rd 5)))))) (gN 2))
    (sSeq (sIf (asB (sop oEq (two (asAr (callG F__law_draw [0] [0, 1] 2 0 (consAr (vwOk 0) (consAr (asAr (kc (.int 3))) (noAr))) (noAr))) (asAr (kc (.int 0)))))) (sAsg (op1 tupD (comp [6] (seqM (rd 2)) (gN 6) (M.ret true) (op1 tupD (comp [7] (seqM (rd 6)) (gN 7) (M.ret true) (sop oSub (two (asAr (kc (.int 17))) (vwOk 7))))))) (gN 2)) (sNx))
    (sRet (mv 2)))))
def F__law_mixed_four : List LD → R LD := fnRun 8 m__law_mixed_four
theorem sc__law_mixed_four : FnScope ["deck", "square", "found", "row", "i", "j", "line", "own"] ["deck", "square"] (defScope s__law_mixed_four) := ⟨rfl, rfl, rfl, by decide +kernel, rfl, by decide +kernel, by decide +kernel⟩
theorem ok__law_mixed_four {f : Addr} {fd : FuncData} (T : Txt mg) (F : Fun K "_law_mixed_four" "_law_mixed_four" s__law_mixed_four f fd) (C__law_draw : Cal P w K mg base 1 "_law_draw" s__law_draw ["deck", "many"] [0] F__law_draw) (C__law_pick : Cal P w K mg base 2 "_law_pick" s__law_pick ["deck", "row"] [0] F__law_pick) (C__law_turned : Cal P w K mg base 1 "_law_turned" s__law_turned ["square", "k"] [] F__law_turned) : FnG P w K mg base 3 f fd ["deck", "square"] [0] F__law_mixed_four := by
  refine fnG_of F sc__law_mixed_four fun σ0 cdv A outer s H hr hgd => ?_
  unfold m__law_mixed_four
  exact b_cons (s_set sc__law_mixed_four.nd rfl (Or.inr rfl) (c_call C__law_turned bd__law_turned_0 (by decide) hr (by decide) hgd pass0 rfl (as_cons (a_of (v_rd (pv 1))) (as_cons (a_of (c_call C__law_draw bd__law_draw_0 (by decide) hr (by decide) hgd pass0 rfl (as_cons (a_vw (pv 0)) (as_cons (a_of (v_int)) (as_nil))))) (as_nil)))) (pin_set (by decide)))
    (b_cons (s_set sc__law_mixed_four.nd rfl (Or.inr rfl) (c_call C__law_pick bd__law_pick_0 (by decide) hr (by decide) hgd pass0 rfl (as_cons (a_vw (pv 0)) (as_cons (a_of (v_lst (vs_cons (v_tup (vs_cons (v_int) (vs_cons (v_int) (vs_cons (v_int) (vs_cons (v_int) (vs_nil)))))) (vs_cons (v_tup (vs_cons (v_int) (vs_cons (v_int) (vs_cons (v_int) (vs_cons (v_int) (vs_nil)))))) (vs_cons (v_tup (vs_cons (v_int) (vs_cons (v_int) (vs_cons (v_int) (vs_cons (v_int) (vs_nil)))))) (vs_cons (v_tup (vs_cons (v_int) (vs_cons (v_int) (vs_cons (v_int) (vs_cons (v_int) (vs_nil)))))) (vs_cons (v_tup (vs_cons (v_int) (vs_cons (v_int) (vs_cons (v_int) (vs_cons (v_int) (vs_nil)))))) (vs_nil)))))))) (as_nil)))) (pin_set (by decide)))
    (b_cons (s_set sc__law_mixed_four.nd rfl (Or.inr rfl) (v_callT1 call_tuple_of c_tup rfl T.z_tuple PyProof.Rows.boot_tuple (v_comp rfl sc__law_mixed_four.nd (i_seq (v_rd (pv 3))) (own := [("i", 4)]) (blkOk_by (by kernel_rfl)) (fun _ _ _ _ _ _ => g_name (pg_name (i := 4) sc__law_mixed_four.nd rfl (Or.inr rfl)) (blk_stays (by decide))) (fun _ _ _ _ _ => pts_no) (fun _ _ _ _ _ => v_callT1 call_tuple_of c_tup rfl T.z_tuple PyProof.Rows.boot_tuple (v_comp rfl sc__law_mixed_four.nd (i_seq (v_rd (pv 3))) (own := [("j", 5)]) (blkOk_by (by kernel_rfl)) (fun _ _ _ _ _ _ => g_name (pg_name (i := 5) sc__law_mixed_four.nd rfl (Or.inl rfl)) (blk_stays (by decide))) (fun _ _ _ _ _ => pts_no) (fun _ _ _ _ _ => v_idx (v_subN hr (pv 2) (v_rd (pv 4)) (fun _ _ => rfl)) (v_rd (pv 5)) (fun _ _ => rfl)))))) (pin_set (by decide)))
    (b_cons (s_if (t_eq hr (a_of (c_call C__law_draw bd__law_draw_0 (by decide) hr (by decide) hgd pass0 rfl (as_cons (a_vw (pv 0)) (as_cons (a_of (v_int)) (as_nil))))) (a_of (v_int))) (b_one (s_set sc__law_mixed_four.nd rfl (Or.inr rfl) (v_callT1 call_tuple_of c_tup rfl T.z_tuple PyProof.Rows.boot_tuple (v_comp rfl sc__law_mixed_four.nd (i_seq (v_rd (pv 2))) (own := [("line", 6)]) (blkOk_by (by kernel_rfl)) (fun _ _ _ _ _ _ => g_name (pg_name (i := 6) sc__law_mixed_four.nd rfl (Or.inl rfl)) (blk_stays (by decide))) (fun _ _ _ _ _ => pts_no) (fun _ _ _ _ _ => v_callT1 call_tuple_of c_tup rfl T.z_tuple PyProof.Rows.boot_tuple (v_comp rfl sc__law_mixed_four.nd (i_seq (v_rd (pv 6))) (own := [("own", 7)]) (blkOk_by (by kernel_rfl)) (fun _ _ _ _ _ _ => g_name (pg_name (i := 7) sc__law_mixed_four.nd rfl (Or.inl rfl)) (blk_stays (by decide))) (fun _ _ _ _ _ => pts_no) (fun _ _ _ _ _ => v_sub (a_of (v_int)) (a_vw (pv 7))))))) (pin_set (by decide)))) (b_nil))
    (b_one (s_ret (v_mv (pv 2)))))))
def m__law_plain_four : M Out :=
  sSeq (sAsg (mkLst (consV (mkTup (consV (mkTup (consV (kc (.int 16)) (consV (kc (.int 3)) (consV (kc (.int 2)) (consV (kc (.int 13)) (noVs)))))) (consV (mkTup (consV (kc (.int 5)) (consV (kc (.int 10)) (consV (kc (.int 11)) (consV (kc (.int 8)) (noVs)))))) (consV (mkTup (consV (kc (.int 9)) (consV (kc (.int 6)) (consV (kc (.int 7)) (consV (kc (.int 12)) (noVs)))))) (consV (mkTup (consV (kc (.int 4)) (consV (kc (.int 15)) (consV (kc (.int 14)) (consV (kc (.int 1)) (noVs)))))) (noVs)))))) (noVs))) (gN 1))
    (sSeq (sDrop (mut1 1 moAppend (consV (mkTup (consV (mkTup (consV (kc (.int 1)) (consV (kc (.int 15)) (consV (kc (.int 14)) (consV (kc (.int 4)) (noVs)))))) (consV (mkTup (consV (kc (.int 12)) (consV (kc (.int 6)) (consV (kc (.int 7)) (consV (kc (.int 9)) (noVs)))))) (consV (mkTup (consV (kc (.int 8)) (consV (kc (.int 10)) (consV (kc (.int 11)) (consV (kc (.int 5)) (noVs)))))) (consV (mkTup (consV (kc (.int 13)) (consV (kc (.int 3)) (consV (kc (.int 2)) (consV (kc (.int 16)) (noVs)))))) (noVs)))))) (noVs))))
    (sSeq (sDrop (mut1 1 moAppend (consV (mkTup (consV (mkTup (consV (kc (.int 1)) (consV (kc (.int 8)) (consV (kc (.int 13)) (consV (kc (.int 12)) (noVs)))))) (consV (mkTup (consV (kc (.int 14)) (consV (kc (.int 11)) (consV (kc (.int 2)) (consV (kc (.int 7)) (noVs)))))) (consV (mkTup (consV (kc (.int 4)) (consV (kc (.int 5)) (consV (kc (.int 16)) (consV (kc (.int 9)) (noVs)))))) (consV (mkTup (consV (kc (.int 15)) (consV (kc (.int 10)) (consV (kc (.int 3)) (consV (kc (.int 6)) (noVs)))))) (noVs)))))) (noVs))))
    (sRet (callG F__law_mixed_four [0] [0, 1] 2 0 (consAr (vwOk 0) (consAr (asAr (callG F__law_pick [0] [0, 1] 2 0 (consAr (vwOk 0) (consAr (asAr (rd 1)) (noAr))) (noAr))) (noAr))) (noAr)))))
def F__law_plain_four : List LD → R LD := fnRun 2 m__law_plain_four
theorem sc__law_plain_four : FnScope ["deck", "some"] ["deck"] (defScope s__law_plain_four) := ⟨rfl, rfl, rfl, by decide +kernel, rfl, by decide +kernel, by decide +kernel⟩
theorem ok__law_plain_four {f : Addr} {fd : FuncData} (T : Txt mg) (F : Fun K "_law_plain_four" "_law_plain_four" s__law_plain_four f fd) (C__law_mixed_four : Cal P w K mg base 3 "_law_mixed_four" s__law_mixed_four ["deck", "square"] [0] F__law_mixed_four) (C__law_pick : Cal P w K mg base 2 "_law_pick" s__law_pick ["deck", "row"] [0] F__law_pick) : FnG P w K mg base 4 f fd ["deck"] [0] F__law_plain_four := by
  refine fnG_of F sc__law_plain_four fun σ0 cdv A outer s H hr hgd => ?_
  unfold m__law_plain_four
  exact b_cons (s_set sc__law_plain_four.nd rfl (Or.inl rfl) (v_lst (vs_cons (v_tup (vs_cons (v_tup (vs_cons (v_int) (vs_cons (v_int) (vs_cons (v_int) (vs_cons (v_int) (vs_nil)))))) (vs_cons (v_tup (vs_cons (v_int) (vs_cons (v_int) (vs_cons (v_int) (vs_cons (v_int) (vs_nil)))))) (vs_cons (v_tup (vs_cons (v_int) (vs_cons (v_int) (vs_cons (v_int) (vs_cons (v_int) (vs_nil)))))) (vs_cons (v_tup (vs_cons (v_int) (vs_cons (v_int) (vs_cons (v_int) (vs_cons (v_int) (vs_nil)))))) (vs_nil)))))) (vs_nil))) (pin_set (by decide)))
    (b_cons (s_expr (v_mut1 PySem.F.slot_list_append PySem.F.type_list_append mt_append m_append (pv 1) (vs_cons (v_tup (vs_cons (v_tup (vs_cons (v_int) (vs_cons (v_int) (vs_cons (v_int) (vs_cons (v_int) (vs_nil)))))) (vs_cons (v_tup (vs_cons (v_int) (vs_cons (v_int) (vs_cons (v_int) (vs_cons (v_int) (vs_nil)))))) (vs_cons (v_tup (vs_cons (v_int) (vs_cons (v_int) (vs_cons (v_int) (vs_cons (v_int) (vs_nil)))))) (vs_cons (v_tup (vs_cons (v_int) (vs_cons (v_int) (vs_cons (v_int) (vs_cons (v_int) (vs_nil)))))) (vs_nil)))))) (vs_nil))))
    (b_cons (s_expr (v_mut1 PySem.F.slot_list_append PySem.F.type_list_append mt_append m_append (pv 1) (vs_cons (v_tup (vs_cons (v_tup (vs_cons (v_int) (vs_cons (v_int) (vs_cons (v_int) (vs_cons (v_int) (vs_nil)))))) (vs_cons (v_tup (vs_cons (v_int) (vs_cons (v_int) (vs_cons (v_int) (vs_cons (v_int) (vs_nil)))))) (vs_cons (v_tup (vs_cons (v_int) (vs_cons (v_int) (vs_cons (v_int) (vs_cons (v_int) (vs_nil)))))) (vs_cons (v_tup (vs_cons (v_int) (vs_cons (v_int) (vs_cons (v_int) (vs_cons (v_int) (vs_nil)))))) (vs_nil)))))) (vs_nil))))
    (b_one (s_ret (c_call C__law_mixed_four bd__law_mixed_four_0 (by decide) hr (by decide) hgd pass0 rfl (as_cons (a_vw (pv 0)) (as_cons (a_of (c_call C__law_pick bd__law_pick_0 (by decide) hr (by decide) hgd pass0 rfl (as_cons (a_vw (pv 0)) (as_cons (a_of (v_rd (pv 1))) (as_nil))))) (as_nil))))))))
def m__law_even_three : M Out :=
  sSeq (sAsg (comp [6] (rng1 (consV (kc (.int 3)) (noVs))) (gN 6) (M.ret true) (sop oSub (two (asAr (callG F__law_draw [0] [0, 1] 2 0 (consAr (vwOk 0) (consAr (asAr (opV addD (opV mulD (kc (.int 2)) (rd 1)) (kc (.int 1)))) (noAr))) (noAr))) (vwOk 1)))) (gR 3 (gsC (gN 2) (gsC (gN 3) (gsC (gN 4) (gsN))))))
    (sSeq (sAsg (mkTup (consV (mkTup (consV (sop oSub (two (vwOk 4) (vwOk 3))) (consV (opV addD (opV addD (rd 4) (rd 2)) (rd 3)) (consV (sop oSub (two (vwOk 4) (vwOk 2))) (noVs))))) (consV (mkTup (consV (opV addD (sop oSub (two (vwOk 4) (vwOk 2))) (rd 3)) (consV (rd 4) (consV (sop oSub (two (asAr (opV addD (rd 4) (rd 2))) (vwOk 3))) (noVs))))) (consV (mkTup (consV (opV addD (rd 4) (rd 2)) (consV (sop oSub (two (asAr (sop oSub (two (vwOk 4) (vwOk 2)))) (vwOk 3))) (consV (opV addD (rd 4) (rd 3)) (noVs))))) (noVs))))) (gN 5))
    (sRet (callG F__law_turned [] [0, 1] 2 0 (consAr (asAr (rd 5)) (consAr (asAr (callG F__law_draw [0] [0, 1] 2 0 (consAr (vwOk 0) (consAr (asAr (kc (.int 8))) (noAr))) (noAr))) (noAr))) (noAr))))
def F__law_even_three : List LD → R LD := fnRun 7 m__law_even_three
theorem sc__law_even_three : FnScope ["deck", "most", "a", "b", "c", "rows", "again"] ["deck", "most"] (defScope s__law_even_three) := ⟨rfl, rfl, rfl, by decide +kernel, rfl, by decide +kernel, by decide +kernel⟩
theorem ok__law_even_three {f : Addr} {fd : FuncData} (T : Txt mg) (F : Fun K "_law_even_three" "_law_even_three" s__law_even_three f fd) (C__law_draw : Cal P w K mg base 1 "_law_draw" s__law_draw ["deck", "many"] [0] F__law_draw) (C__law_turned : Cal P w K mg base 1 "_law_turned" s__law_turned ["square", "k"] [] F__law_turned) : FnG P w K mg base 2 f fd ["deck", "most"] [0] F__law_even_three := by
  refine fnG_of F sc__law_even_three fun σ0 cdv A outer s H hr hgd => ?_
  unfold m__law_even_three
  exact b_cons (s_asg (v_comp rfl sc__law_even_three.nd (i_range1 rfl T.z_range (vs_cons (v_int) (vs_nil))) (own := [("again", 6)]) (blkOk_by (by kernel_rfl)) (fun _ _ _ _ _ _ => g_name (pg_name (i := 6) sc__law_even_three.nd rfl (Or.inl rfl)) (blk_stays (by decide))) (fun _ _ _ _ _ => pts_no) (fun _ _ _ _ _ => v_sub (a_of (c_call C__law_draw bd__law_draw_0 (by decide) hr (by decide) hgd pass0 rfl (as_cons (a_vw (pv 0)) (as_cons (a_of (v_add (v_mul (v_int) (v_rd (pv 1))) (v_int))) (as_nil))))) (a_vw (pv 1)))) (g_row rfl (gs_cons (g_name (pg_name (i := 2) sc__law_even_three.nd rfl (Or.inl rfl)) (pin_set (by decide))) (gs_cons (g_name (pg_name (i := 3) sc__law_even_three.nd rfl (Or.inl rfl)) (pin_set (by decide))) (gs_cons (g_name (pg_name (i := 4) sc__law_even_three.nd rfl (Or.inl rfl)) (pin_set (by decide))) (gs_nil))))))
    (b_cons (s_set sc__law_even_three.nd rfl (Or.inl rfl) (v_tup (vs_cons (v_tup (vs_cons (v_sub (a_vw (pv 4)) (a_vw (pv 3))) (vs_cons (v_add (v_add (v_rd (pv 4)) (v_rd (pv 2))) (v_rd (pv 3))) (vs_cons (v_sub (a_vw (pv 4)) (a_vw (pv 2))) (vs_nil))))) (vs_cons (v_tup (vs_cons (v_add (v_sub (a_vw (pv 4)) (a_vw (pv 2))) (v_rd (pv 3))) (vs_cons (v_rd (pv 4)) (vs_cons (v_sub (a_of (v_add (v_rd (pv 4)) (v_rd (pv 2)))) (a_vw (pv 3))) (vs_nil))))) (vs_cons (v_tup (vs_cons (v_add (v_rd (pv 4)) (v_rd (pv 2))) (vs_cons (v_sub (a_of (v_sub (a_vw (pv 4)) (a_vw (pv 2)))) (a_vw (pv 3))) (vs_cons (v_add (v_rd (pv 4)) (v_rd (pv 3))) (vs_nil))))) (vs_nil))))) (pin_set (by decide)))
    (b_one (s_ret (c_call C__law_turned bd__law_turned_0 (by decide) hr (by decide) hgd pass0 rfl (as_cons (a_of (v_rd (pv 5))) (as_cons (a_of (c_call C__law_draw bd__law_draw_0 (by decide) hr (by decide) hgd pass0 rfl (as_cons (a_vw (pv 0)) (as_cons (a_of (v_int)) (as_nil))))) (as_nil)))))))
def m__law_even_four : M Out :=
  sSeq (sAsg (mkLst (consV (mkTup (consV (kc (.int 0)) (consV (kc (.int 2)) (consV (kc (.int 3)) (consV (kc (.int 1)) (noVs)))))) (consV (mkTup (consV (kc (.int 0)) (consV (kc (.int 3)) (consV (kc (.int 1)) (consV (kc (.int 2)) (noVs)))))) (consV (mkTup (consV (kc (.int 1)) (consV (kc (.int 3)) (consV (kc (.int 2)) (consV (kc (.int 0)) (noVs)))))) (consV (mkTup (consV (kc (.int 1)) (consV (kc (.int 2)) (consV (kc (.int 0)) (consV (kc (.int 3)) (noVs)))))) (consV (mkTup (consV (kc (.int 2)) (consV (kc (.int 0)) (consV (kc (.int 1)) (consV (kc (.int 3)) (noVs)))))) (consV (mkTup (consV (kc (.int 2)) (consV (kc (.int 1)) (consV (kc (.int 3)) (consV (kc (.int 0)) (noVs)))))) (noVs)))))))) (gN 2))
    (sSeq (sAsg (opV addD (rd 2) (mkLst (consV (mkTup (consV (kc (.int 3)) (consV (kc (.int 1)) (consV (kc (.int 0)) (consV (kc (.int 2)) (noVs)))))) (consV (mkTup (consV (kc (.int 3)) (consV (kc (.int 0)) (consV (kc (.int 2)) (consV (kc (.int 1)) (noVs)))))) (noVs))))) (gN 2))
    (sSeq (sAsg (comp [6] (rng1 (consV (kc (.int 4)) (noVs))) (gN 6) (M.ret true) (opV mulD (mkLst (consV (kc (.int 0)) (noVs))) (kc (.int 4)))) (gN 3))
    (sSeq (sFor (seqM (rd 2)) (gN 4) (sSeq (sAsg (sop oSub (two (asAr (callG F__law_draw [0] [0, 1] 2 0 (consAr (vwOk 0) (consAr (asAr (opV addD (opV mulD (kc (.int 2)) (rd 1)) (kc (.int 1)))) (noAr))) (noAr))) (vwOk 1))) (gN 5))
    (sFor (enumM (consV (rd 4) (noVs))) (gR 2 (gsC (gN 6) (gsC (gN 7) (gsN)))) (sAsg (opV addD (altM (rdP (plX (plX (plN 3) (qN 6)) (qN 7))) (opV idxO (subN 3 (rd 6)) (rd 7))) (rd 5)) (gAt (plX (plN 3) (qN 6)) (qN 7))))))
    (sSeq (sAsg (mkTup (consV (callG F__law_plain_four [0] [0] 1 0 (consAr (vwOk 0) (noAr)) (noAr)) (consV (sop oSub (two (asAr (callG F__law_draw [0] [0, 1] 2 0 (consAr (vwOk 0) (consAr (asAr (kc (.int 9))) (noAr))) (noAr))) (asAr (kc (.int 4))))) (noVs)))) (gR 2 (gsC (gN 8) (gsC (gN 9) (gsN)))))
    (sRet (op1 tupD (comp [10, 11] (zipM (consV (rd 3) (consV (rd 8) (noVs)))) (gR 2 (gsC (gN 10) (gsC (gN 11) (gsN)))) (M.ret true) (op1 tupD (comp [12, 13] (zipM (consV (rd 10) (consV (rd 11) (noVs)))) (gR 2 (gsC (gN 12) (gsC (gN 13) (gsN)))) (M.ret true) (opV addD (rd 12) (opV mulD (rd 9) (rd 13))))))))))))
def F__law_even_four : List LD → R LD := fnRun 14 m__law_even_four
theorem sc__law_even_four : FnScope ["deck", "most", "orders", "rows", "order", "times", "i", "j", "square", "more", "row", "line", "a", "b"] ["deck", "most"] (defScope s__law_even_four) := ⟨rfl, rfl, rfl, by decide +kernel, rfl, by decide +kernel, by decide +kernel⟩
theorem ok__law_even_four {f : Addr} {fd : FuncData} (T : Txt mg) (F : Fun K "_law_even_four" "_law_even_four" s__law_even_four f fd) (C__law_draw : Cal P w K mg base 1 "_law_draw" s__law_draw ["deck", "many"] [0] F__law_draw) (C__law_plain_four : Cal P w K mg base 4 "_law_plain_four" s__law_plain_four ["deck"] [0] F__law_plain_four) : FnG P w K mg base 5 f fd ["deck", "most"] [0] F__law_even_four := by
  refine fnG_of F sc__law_even_four fun σ0 cdv A outer s H hr hgd => ?_
  unfold m__law_even_four
  exact b_cons (s_set sc__law_even_four.nd rfl (Or.inl rfl) (v_lst (vs_cons (v_tup (vs_cons (v_int) (vs_cons (v_int) (vs_cons (v_int) (vs_cons (v_int) (vs_nil)))))) (vs_cons (v_tup (vs_cons (v_int) (vs_cons (v_int) (vs_cons (v_int) (vs_cons (v_int) (vs_nil)))))) (vs_cons (v_tup (vs_cons (v_int) (vs_cons (v_int) (vs_cons (v_int) (vs_cons (v_int) (vs_nil)))))) (vs_cons (v_tup (vs_cons (v_int) (vs_cons (v_int) (vs_cons (v_int) (vs_cons (v_int) (vs_nil)))))) (vs_cons (v_tup (vs_cons (v_int) (vs_cons (v_int) (vs_cons (v_int) (vs_cons (v_int) (vs_nil)))))) (vs_cons (v_tup (vs_cons (v_int) (vs_cons (v_int) (vs_cons (v_int) (vs_cons (v_int) (vs_nil)))))) (vs_nil)))))))) (pin_set (by decide)))
    (b_cons (s_set sc__law_even_four.nd rfl (Or.inl rfl) (v_add (v_rd (pv 2)) (v_lst (vs_cons (v_tup (vs_cons (v_int) (vs_cons (v_int) (vs_cons (v_int) (vs_cons (v_int) (vs_nil)))))) (vs_cons (v_tup (vs_cons (v_int) (vs_cons (v_int) (vs_cons (v_int) (vs_cons (v_int) (vs_nil)))))) (vs_nil))))) (pin_set (by decide)))
    (b_cons (s_setLc rfl sc__law_even_four.nd rfl rfl (sw_true rfl rfl rfl (by decide +kernel)) (i_range1 rfl T.z_range (vs_cons (v_int) (vs_nil))) (own := [("i", 6)]) (blkOk_by (by kernel_rfl)) (fun _ _ _ _ _ _ => g_name (pg_name (i := 6) sc__law_even_four.nd rfl (Or.inl rfl)) (blk_stays (by decide))) (fun _ _ _ _ _ => pts_no) (fun _ _ _ _ _ => v_mul (v_lst (vs_cons (v_int) (vs_nil))) (v_int)) (pin_set (by decide)))
    (b_cons (s_for PassesOwn.never rfl (i_seq (v_rd (pv 2))) (g_name (pg_name (i := 4) sc__law_even_four.nd rfl (Or.inl rfl)) (pin_set (by decide))) (b_cons (s_set sc__law_even_four.nd rfl (Or.inl rfl) (v_sub (a_of (c_call C__law_draw bd__law_draw_0 (by decide) hr (by decide) hgd pass0 rfl (as_cons (a_vw (pv 0)) (as_cons (a_of (v_add (v_mul (v_int) (v_rd (pv 1))) (v_int))) (as_nil))))) (a_vw (pv 1))) (pin_set (by decide)))
    (b_one (s_for PassesOwn.never rfl (i_enum rfl T.z_enumerate (vs_cons (v_rd (pv 4)) (vs_nil))) (g_row rfl (gs_cons (g_name (pg_name (i := 6) sc__law_even_four.nd rfl (Or.inl rfl)) (pin_set (by decide))) (gs_cons (g_name (pg_name (i := 7) sc__law_even_four.nd rfl (Or.inl rfl)) (pin_set (by decide))) (gs_nil)))) (b_one (s_asg (v_add (v_alt (v_rdP (l_item hr (l_item hr (l_name (pv 3)) (qe_name (pv 6)) (fun _ _ => rfl)) (qe_name (pv 7)) (fun _ _ => rfl))) (v_idx (v_subN hr (pv 3) (v_rd (pv 6)) (fun _ _ => rfl)) (v_rd (pv 7)) (fun _ _ => rfl))) (v_rd (pv 5))) (g_at hr (l_item hr (l_name (pv 3)) (qe_name (pv 6)) (fun _ _ => rfl)) (qe_name (pv 7)))))))))
    (b_cons (s_asg (v_tup (vs_cons (c_call C__law_plain_four bd__law_plain_four_0 (by decide) hr (by decide) hgd pass0 rfl (as_cons (a_vw (pv 0)) (as_nil))) (vs_cons (v_sub (a_of (c_call C__law_draw bd__law_draw_0 (by decide) hr (by decide) hgd pass0 rfl (as_cons (a_vw (pv 0)) (as_cons (a_of (v_int)) (as_nil))))) (a_of (v_int))) (vs_nil)))) (g_row rfl (gs_cons (g_name (pg_name (i := 8) sc__law_even_four.nd rfl (Or.inl rfl)) (pin_set (by decide))) (gs_cons (g_name (pg_name (i := 9) sc__law_even_four.nd rfl (Or.inr rfl)) (pin_set (by decide))) (gs_nil)))))
    (b_one (s_ret (v_callT1 call_tuple_of c_tup rfl T.z_tuple PyProof.Rows.boot_tuple (v_comp rfl sc__law_even_four.nd (i_zip rfl T.z_zip (vs_cons (v_rd (pv 3)) (vs_cons (v_rd (pv 8)) (vs_nil)))) (own := [("row", 10), ("line", 11)]) (blkOk_by (by kernel_rfl)) (fun _ _ _ _ _ _ => g_row rfl (gs_cons (g_name (pg_name (i := 10) sc__law_even_four.nd rfl (Or.inl rfl)) (blk_stays (by decide))) (gs_cons (g_name (pg_name (i := 11) sc__law_even_four.nd rfl (Or.inl rfl)) (blk_stays (by decide))) (gs_nil)))) (fun _ _ _ _ _ => pts_no) (fun _ _ _ _ _ => v_callT1 call_tuple_of c_tup rfl T.z_tuple PyProof.Rows.boot_tuple (v_comp rfl sc__law_even_four.nd (i_zip rfl T.z_zip (vs_cons (v_rd (pv 10)) (vs_cons (v_rd (pv 11)) (vs_nil)))) (own := [("a", 12), ("b", 13)]) (blkOk_by (by kernel_rfl)) (fun _ _ _ _ _ _ => g_row rfl (gs_cons (g_name (pg_name (i := 12) sc__law_even_four.nd rfl (Or.inl rfl)) (blk_stays (by decide))) (gs_cons (g_name (pg_name (i := 13) sc__law_even_four.nd rfl (Or.inl rfl)) (blk_stays (by decide))) (gs_nil)))) (fun _ _ _ _ _ => pts_no) (fun _ _ _ _ _ => v_add (v_rd (pv 12)) (v_mul (v_rd (pv 9)) (v_rd (pv 13))))))))))))))
def m_law : M Out :=
  sSeq (sAsg (callG F__law_deck [] [0] 1 0 (consAr (asAr (rd 0)) (noAr)) (noAr)) (gN 1))
    (sSeq (sFor (rng1 (consV (kc (.int 5)) (noVs))) (gN 2) (sSeq (sAsg (callG F__law_pick [0] [0, 1] 2 0 (consAr (vwOk 1) (consAr (asAr (mkLst (consV (kc (.int 3)) (consV (kc (.int 20)) (consV (sop oPow (two (asAr (kc (.int 10))) (asAr (kc (.int 6))))) (consV (sop oPow (two (asAr (kc (.int 10))) (asAr (kc (.int 28))))) (noVs))))))) (noAr))) (noAr)) (gN 3))
    (sSeq (sAsg (callG F__law_even_three [0] [0, 1] 2 0 (consAr (vwOk 1) (consAr (asAr (rd 3)) (noAr))) (noAr)) (gN 4))
    (sSeq (sPar 5 6 (sop (o1 fRepr) (consAr (vwOk 4) noAr)) (callG F__law_lines [] [0] 1 0 (consAr (asAr (rd 4)) (noAr)) (noAr)))
    (sSeq (sIf (asB (sop oNe (two (asAr (sop (o1 fLen) (consAr (asAr (srtU (rd 6))) noAr))) (asAr (kc (.int 1)))))) (sRet (kc (.bl false))) (sNx))
    (sSeq (sIf (asB (sop oNe (two (asAr (sop (o1 fRepr) (consAr (asAr (mkLst (consV (callG F_middle_thrice [] [0] 1 0 (consAr (asAr (rd 4)) (noAr)) (noAr)) (consV (callG F_middle_thrice [] [0] 0 1 (noAr) (consAr (asAr (rd 4)) (noAr))) (noVs))))) noAr))) (asAr (sop (o1 fRepr) (consAr (asAr (mkLst (consV (subN 6 (kc (.int 0))) (consV (subN 6 (kc (.int 0))) (noVs))))) noAr)))))) (sRet (kc (.bl false))) (sNx))
    (sSeq (sIf (orT (asB (sop oNe (two (asAr (subN 6 (kc (.int 0)))) (asAr (opV mulD (kc (.int 3)) (opV idxO (subN 4 (kc (.int 1))) (kc (.int 1)))))))) (asB (sop oNe (two (asAr (sop (o1 fRepr) (consAr (vwOk 4) noAr))) (vwOk 5))))) (sRet (kc (.bl false))) (sNx))
    (sSeq (sAsg (callG F__law_even_four [0] [0, 1] 2 0 (consAr (vwOk 1) (consAr (asAr (rd 3)) (noAr))) (noAr)) (gN 4))
    (sSeq (sPar 5 6 (sop (o1 fRepr) (consAr (vwOk 4) noAr)) (callG F__law_lines [] [0] 1 0 (consAr (asAr (rd 4)) (noAr)) (noAr)))
    (sSeq (sAsg (opV addD (opV addD (opV addD (opV idxO (subN 4 (kc (.int 0))) (kc (.int 0))) (opV idxO (subN 4 (kc (.int 0))) (kc (.int 3)))) (opV idxO (subN 4 (kc (.int 3))) (kc (.int 0)))) (opV idxO (subN 4 (kc (.int 3))) (kc (.int 3)))) (gN 7))
    (sSeq (sAsg (opV addD (sop (o1 fSum) (consAr (asAr (slc (subN 4 (kc (.int 1))) (asP (kc (.int 1))) (asP (kc (.int 3))))) noAr)) (sop (o1 fSum) (consAr (asAr (slc (subN 4 (kc (.int 2))) (asP (kc (.int 1))) (asP (kc (.int 3))))) noAr))) (gN 8))
    (sSeq (sAsg (mkTup (consV (rd 7) (consV (rd 8) (consV (opV addD (sop (o1 fSum) (consAr (asAr (slc (subN 4 (kc (.int 0))) (asP (kc (.int 1))) (asP (kc (.int 3))))) noAr)) (sop (o1 fSum) (consAr (asAr (slc (subN 4 (kc (.int 3))) (asP (kc (.int 1))) (asP (kc (.int 3))))) noAr))) (noVs))))) (gN 9))
    (sSeq (sAsg (opV addD (rd 9) (mkTup (consV (opV addD (opV addD (opV addD (opV idxO (subN 4 (kc (.int 1))) (kc (.int 0))) (opV idxO (subN 4 (kc (.int 2))) (kc (.int 0)))) (opV idxO (subN 4 (kc (.int 1))) (kc (.int 3)))) (opV idxO (subN 4 (kc (.int 2))) (kc (.int 3)))) (noVs)))) (gN 9))
    (sSeq (sIf (orT (asB (sop oNe (two (asAr (sop (o1 fLen) (consAr (asAr (srtU (rd 6))) noAr))) (asAr (kc (.int 1)))))) (asB (sop oNe (two (vwOk 9) (asAr (opV mulD (mkTup (consV (subN 6 (kc (.int 0))) (noVs))) (kc (.int 4)))))))) (sRet (kc (.bl false))) (sNx))
    (sIf (orT (asB (sop oNe (two (asAr (sop (o1 fRepr) (consAr (asAr (mkLst (consV (callG F_four_lots [] [0] 1 0 (consAr (asAr (rd 4)) (noAr)) (noAr)) (consV (callG F_four_lots [] [0] 0 1 (noAr) (consAr (asAr (rd 4)) (noAr))) (noVs))))) noAr))) (asAr (sop (o1 fRepr) (consAr (asAr (mkLst (consV (rd 9) (consV (rd 9) (noVs))))) noAr)))))) (asB (sop oNe (two (asAr (sop (o1 fRepr) (consAr (vwOk 4) noAr))) (vwOk 5))))) (sRet (kc (.bl false))) (sNx))))))))))))))))
    (sRet (kc (.bl true))))
def F_law : List LD → R LD := fnRun 10 m_law
theorem sc_law : FnScope ["script", "deck", "turn", "most", "square", "kept", "lines", "corners", "inner", "due"] ["script"] (defScope s_law) := ⟨rfl, rfl, rfl, by decide +kernel, rfl, by decide +kernel, by decide +kernel⟩
theorem ok_law {f : Addr} {fd : FuncData} (T : Txt mg) (F : Fun K "law" "law" s_law f fd) (C__law_deck : Cal P w K mg base 1 "_law_deck" s__law_deck ["script"] [] F__law_deck) (C__law_even_four : Cal P w K mg base 5 "_law_even_four" s__law_even_four ["deck", "most"] [0] F__law_even_four) (C__law_even_three : Cal P w K mg base 2 "_law_even_three" s__law_even_three ["deck", "most"] [0] F__law_even_three) (C__law_lines : Cal P w K mg base 1 "_law_lines" s__law_lines ["square"] [] F__law_lines) (C__law_pick : Cal P w K mg base 2 "_law_pick" s__law_pick ["deck", "row"] [0] F__law_pick) (C_four_lots : Cal P w K mg base 1 "four_lots" s_four_lots ["square"] [] F_four_lots) (C_middle_thrice : Cal P w K mg base 1 "middle_thrice" s_middle_thrice ["square"] [] F_middle_thrice) : FnG P w K mg base 6 f fd ["script"] [] F_law := by
  refine fnG_of F sc_law fun σ0 cdv A outer s H hr hgd => ?_
  unfold m_law
  exact b_cons (s_set sc_law.nd rfl (Or.inl rfl) (c_call C__law_deck bd__law_deck_0 (by decide) hr (by decide) hgd pass0 rfl (as_cons (a_of (v_rd (pv 0))) (as_nil))) (pin_set (by decide)))
    (b_cons (s_for PassesOwn.never rfl (i_range1 rfl T.z_range (vs_cons (v_int) (vs_nil))) (g_name (pg_name (i := 2) sc_law.nd rfl (Or.inl rfl)) (pin_set (by decide))) (b_cons (s_set sc_law.nd rfl (Or.inl rfl) (c_call C__law_pick bd__law_pick_0 (by decide) hr (by decide) hgd pass0 rfl (as_cons (a_vw (pv 1)) (as_cons (a_of (v_lst (vs_cons (v_int) (vs_cons (v_int) (vs_cons (v_pow (a_of (v_int)) (a_of (v_int))) (vs_cons (v_pow (a_of (v_int)) (a_of (v_int))) (vs_nil))))))) (as_nil)))) (pin_set (by decide)))
    (b_cons (s_set sc_law.nd rfl (Or.inl rfl) (c_call C__law_even_three bd__law_even_three_0 (by decide) hr (by decide) hgd pass0 rfl (as_cons (a_vw (pv 1)) (as_cons (a_of (v_rd (pv 3))) (as_nil)))) (pin_set (by decide)))
    (b_cons (s_par rfl sc_law.nd (i := 5) (j := 6) rfl rfl (by decide) rfl rfl (v_callB (cr_repr hr hgd) s_repr rfl T.z_repr PyProof.Rows.boot_repr (as_cons (a_vw (pv 4)) as_nil)) (c_call C__law_lines bd__law_lines_0 (by decide) hr (by decide) hgd pass0 rfl (as_cons (a_of (v_rd (pv 4))) (as_nil))) (pin_set (by decide)) (pin_set (by decide)) rfl)
    (b_cons (s_if (t_ne hr (a_of (v_callB call_len_seq s_len rfl T.z_len PySem.boot_len (as_cons (a_of (v_srtU rfl rfl T.z_sorted rfl T.z_set (v_rd (pv 6)))) as_nil))) (a_of (v_int))) (b_one (s_ret (v_bl))) (b_nil))
    (b_cons (s_if (t_ne hr (a_of (v_callB (cr_repr hr hgd) s_repr rfl T.z_repr PyProof.Rows.boot_repr (as_cons (a_of (v_lst (vs_cons (c_call C_middle_thrice bd_middle_thrice_0 (by decide) hr (by decide) hgd pass0 rfl (as_cons (a_of (v_rd (pv 4))) (as_nil))) (vs_cons (c_callK C_middle_thrice bd_middle_thrice_1 (by decide) rfl hr (by decide) hgd pass0 rfl (k_cons (a_of (v_rd (pv 4))) (k_nil))) (vs_nil))))) as_nil))) (a_of (v_callB (cr_repr hr hgd) s_repr rfl T.z_repr PyProof.Rows.boot_repr (as_cons (a_of (v_lst (vs_cons (v_subN hr (pv 6) (v_int) (fun _ _ => rfl)) (vs_cons (v_subN hr (pv 6) (v_int) (fun _ _ => rfl)) (vs_nil))))) as_nil)))) (b_one (s_ret (v_bl))) (b_nil))
    (b_cons (s_if (t_w (w_or (t_ne hr (a_of (v_subN hr (pv 6) (v_int) (fun _ _ => rfl))) (a_of (v_mul (v_int) (v_idx (v_subN hr (pv 4) (v_int) (fun _ _ => rfl)) (v_int) (fun _ _ => rfl))))) (w_one (t_ne hr (a_of (v_callB (cr_repr hr hgd) s_repr rfl T.z_repr PyProof.Rows.boot_repr (as_cons (a_vw (pv 4)) as_nil))) (a_vw (pv 5)))))) (b_one (s_ret (v_bl))) (b_nil))
    (b_cons (s_set sc_law.nd rfl (Or.inl rfl) (c_call C__law_even_four bd__law_even_four_0 (by decide) hr (by decide) hgd pass0 rfl (as_cons (a_vw (pv 1)) (as_cons (a_of (v_rd (pv 3))) (as_nil)))) (pin_set (by decide)))
    (b_cons (s_par rfl sc_law.nd (i := 5) (j := 6) rfl rfl (by decide) rfl rfl (v_callB (cr_repr hr hgd) s_repr rfl T.z_repr PyProof.Rows.boot_repr (as_cons (a_vw (pv 4)) as_nil)) (c_call C__law_lines bd__law_lines_0 (by decide) hr (by decide) hgd pass0 rfl (as_cons (a_of (v_rd (pv 4))) (as_nil))) (pin_set (by decide)) (pin_set (by decide)) rfl)
    (b_cons (s_set sc_law.nd rfl (Or.inl rfl) (v_add (v_add (v_add (v_idx (v_subN hr (pv 4) (v_int) (fun _ _ => rfl)) (v_int) (fun _ _ => rfl)) (v_idx (v_subN hr (pv 4) (v_int) (fun _ _ => rfl)) (v_int) (fun _ _ => rfl))) (v_idx (v_subN hr (pv 4) (v_int) (fun _ _ => rfl)) (v_int) (fun _ _ => rfl))) (v_idx (v_subN hr (pv 4) (v_int) (fun _ _ => rfl)) (v_int) (fun _ _ => rfl))) (pin_set (by decide)))
    (b_cons (s_set sc_law.nd rfl (Or.inl rfl) (v_add (v_callB (cr_sumX rfl) s_sum rfl T.z_sum PyProof.Rows.boot_sum (as_cons (a_of (v_slice (v_subN hr (pv 4) (v_int) (fun _ _ => rfl)) (p_some (v_int)) (p_some (v_int)))) as_nil)) (v_callB (cr_sumX rfl) s_sum rfl T.z_sum PyProof.Rows.boot_sum (as_cons (a_of (v_slice (v_subN hr (pv 4) (v_int) (fun _ _ => rfl)) (p_some (v_int)) (p_some (v_int)))) as_nil))) (pin_set (by decide)))
    (b_cons (s_set sc_law.nd rfl (Or.inl rfl) (v_tup (vs_cons (v_rd (pv 7)) (vs_cons (v_rd (pv 8)) (vs_cons (v_add (v_callB (cr_sumX rfl) s_sum rfl T.z_sum PyProof.Rows.boot_sum (as_cons (a_of (v_slice (v_subN hr (pv 4) (v_int) (fun _ _ => rfl)) (p_some (v_int)) (p_some (v_int)))) as_nil)) (v_callB (cr_sumX rfl) s_sum rfl T.z_sum PyProof.Rows.boot_sum (as_cons (a_of (v_slice (v_subN hr (pv 4) (v_int) (fun _ _ => rfl)) (p_some (v_int)) (p_some (v_int)))) as_nil))) (vs_nil))))) (pin_set (by decide)))
    (b_cons (s_set sc_law.nd rfl (Or.inl rfl) (v_add (v_rd (pv 9)) (v_tup (vs_cons (v_add (v_add (v_add (v_idx (v_subN hr (pv 4) (v_int) (fun _ _ => rfl)) (v_int) (fun _ _ => rfl)) (v_idx (v_subN hr (pv 4) (v_int) (fun _ _ => rfl)) (v_int) (fun _ _ => rfl))) (v_idx (v_subN hr (pv 4) (v_int) (fun _ _ => rfl)) (v_int) (fun _ _ => rfl))) (v_idx (v_subN hr (pv 4) (v_int) (fun _ _ => rfl)) (v_int) (fun _ _ => rfl))) (vs_nil)))) (pin_set (by decide)))
    (b_cons (s_if (t_w (w_or (t_ne hr (a_of (v_callB call_len_seq s_len rfl T.z_len PySem.boot_len (as_cons (a_of (v_srtU rfl rfl T.z_sorted rfl T.z_set (v_rd (pv 6)))) as_nil))) (a_of (v_int))) (w_one (t_ne hr (a_vw (pv 9)) (a_of (v_mul (v_tup (vs_cons (v_subN hr (pv 6) (v_int) (fun _ _ => rfl)) (vs_nil))) (v_int))))))) (b_one (s_ret (v_bl))) (b_nil))
    (b_one (s_if (t_w (w_or (t_ne hr (a_of (v_callB (cr_repr hr hgd) s_repr rfl T.z_repr PyProof.Rows.boot_repr (as_cons (a_of (v_lst (vs_cons (c_call C_four_lots bd_four_lots_0 (by decide) hr (by decide) hgd pass0 rfl (as_cons (a_of (v_rd (pv 4))) (as_nil))) (vs_cons (c_callK C_four_lots bd_four_lots_1 (by decide) rfl hr (by decide) hgd pass0 rfl (k_cons (a_of (v_rd (pv 4))) (k_nil))) (vs_nil))))) as_nil))) (a_of (v_callB (cr_repr hr hgd) s_repr rfl T.z_repr PyProof.Rows.boot_repr (as_cons (a_of (v_lst (vs_cons (v_rd (pv 9)) (vs_cons (v_rd (pv 9)) (vs_nil))))) as_nil)))) (w_one (t_ne hr (a_of (v_callB (cr_repr hr hgd) s_repr rfl T.z_repr PyProof.Rows.boot_repr (as_cons (a_vw (pv 4)) as_nil))) (a_vw (pv 5)))))) (b_one (s_ret (v_bl))) (b_nil)))))))))))))))))
    (b_one (s_ret (v_bl))))
end
theorem all_mk {l : PySem.W.OpenLaw} {w : World} {K : PySem.W.Frag} {h : Heap} {mg : Str → Option Value} {fa f1 f2 f3 f4 f5 f6 f7 f8 f9 f10 f11 f12 : Addr} (X : K.In h) (G : h.Ns mainGlobals mg) (hfa : mg "law" = some (.ref fa))
    {od1 an1 od2 an2 od3 an3 od4 an4 od5 an5 od6 an6 od7 an7 od8 an8 od9 an9 od10 an10 od11 an11 od12 an12 : Option Addr} {sl1 sl2 sl3 sl4 sl5 sl6 sl7 sl8 sl9 sl10 sl11 sl12 : Array (Option Value)} {oc1 kV1 dc1 pm1 cd1 ct1 oc2 kV2 dc2 pm2 cd2 ct2 oc3 kV3 dc3 pm3 cd3 ct3 oc4 kV4 dc4 pm4 cd4 ct4 oc5 kV5 dc5 pm5 cd5 ct5 oc6 kV6 dc6 pm6 cd6 ct6 oc7 kV7 dc7 pm7 cd7 ct7 oc8 kV8 dc8 pm8 cd8 ct8 oc9 kV9 dc9 pm9 cd9 ct9 oc10 kV10 dc10 pm10 cd10 ct10 oc11 kV11 dc11 pm11 cd11 ct11 oc12 kV12 dc12 pm12 cd12 ct12 : Value}
    (a1 : PySem.W.nsIn K mainGlobals "middle_thrice" = some (some (.ref f1))) (l1 : K.lookup f1 = some ⟨oc1, od1, .func (PySem.W.fnOf "middle_thrice" "middle_thrice" (defArgs s_middle_thrice) (defBody s_middle_thrice) (defScope s_middle_thrice) .none kV1 dc1 pm1 an1 cd1 ct1), sl1⟩) (c1 : PySem.W.codeIn K cd1 "middle_thrice" = true) (k1 : PySem.W.keepIn K (.ref f1) = true)
    (a2 : PySem.W.nsIn K mainGlobals "four_lots" = some (some (.ref f2))) (l2 : K.lookup f2 = some ⟨oc2, od2, .func (PySem.W.fnOf "four_lots" "four_lots" (defArgs s_four_lots) (defBody s_four_lots) (defScope s_four_lots) .none kV2 dc2 pm2 an2 cd2 ct2), sl2⟩) (c2 : PySem.W.codeIn K cd2 "four_lots" = true) (k2 : PySem.W.keepIn K (.ref f2) = true)
    (a3 : PySem.W.nsIn K mainGlobals "_law_deck" = some (some (.ref f3))) (l3 : K.lookup f3 = some ⟨oc3, od3, .func (PySem.W.fnOf "_law_deck" "_law_deck" (defArgs s__law_deck) (defBody s__law_deck) (defScope s__law_deck) .none kV3 dc3 pm3 an3 cd3 ct3), sl3⟩) (c3 : PySem.W.codeIn K cd3 "_law_deck" = true) (k3 : PySem.W.keepIn K (.ref f3) = true)
    (a4 : PySem.W.nsIn K mainGlobals "_law_draw" = some (some (.ref f4))) (l4 : K.lookup f4 = some ⟨oc4, od4, .func (PySem.W.fnOf "_law_draw" "_law_draw" (defArgs s__law_draw) (defBody s__law_draw) (defScope s__law_draw) .none kV4 dc4 pm4 an4 cd4 ct4), sl4⟩) (c4 : PySem.W.codeIn K cd4 "_law_draw" = true) (k4 : PySem.W.keepIn K (.ref f4) = true)
    (a5 : PySem.W.nsIn K mainGlobals "_law_pick" = some (some (.ref f5))) (l5 : K.lookup f5 = some ⟨oc5, od5, .func (PySem.W.fnOf "_law_pick" "_law_pick" (defArgs s__law_pick) (defBody s__law_pick) (defScope s__law_pick) .none kV5 dc5 pm5 an5 cd5 ct5), sl5⟩) (c5 : PySem.W.codeIn K cd5 "_law_pick" = true) (k5 : PySem.W.keepIn K (.ref f5) = true)
    (a6 : PySem.W.nsIn K mainGlobals "_law_lines" = some (some (.ref f6))) (l6 : K.lookup f6 = some ⟨oc6, od6, .func (PySem.W.fnOf "_law_lines" "_law_lines" (defArgs s__law_lines) (defBody s__law_lines) (defScope s__law_lines) .none kV6 dc6 pm6 an6 cd6 ct6), sl6⟩) (c6 : PySem.W.codeIn K cd6 "_law_lines" = true) (k6 : PySem.W.keepIn K (.ref f6) = true)
    (a7 : PySem.W.nsIn K mainGlobals "_law_turned" = some (some (.ref f7))) (l7 : K.lookup f7 = some ⟨oc7, od7, .func (PySem.W.fnOf "_law_turned" "_law_turned" (defArgs s__law_turned) (defBody s__law_turned) (defScope s__law_turned) .none kV7 dc7 pm7 an7 cd7 ct7), sl7⟩) (c7 : PySem.W.codeIn K cd7 "_law_turned" = true) (k7 : PySem.W.keepIn K (.ref f7) = true)
    (a8 : PySem.W.nsIn K mainGlobals "_law_mixed_four" = some (some (.ref f8))) (l8 : K.lookup f8 = some ⟨oc8, od8, .func (PySem.W.fnOf "_law_mixed_four" "_law_mixed_four" (defArgs s__law_mixed_four) (defBody s__law_mixed_four) (defScope s__law_mixed_four) .none kV8 dc8 pm8 an8 cd8 ct8), sl8⟩) (c8 : PySem.W.codeIn K cd8 "_law_mixed_four" = true) (k8 : PySem.W.keepIn K (.ref f8) = true)
    (a9 : PySem.W.nsIn K mainGlobals "_law_plain_four" = some (some (.ref f9))) (l9 : K.lookup f9 = some ⟨oc9, od9, .func (PySem.W.fnOf "_law_plain_four" "_law_plain_four" (defArgs s__law_plain_four) (defBody s__law_plain_four) (defScope s__law_plain_four) .none kV9 dc9 pm9 an9 cd9 ct9), sl9⟩) (c9 : PySem.W.codeIn K cd9 "_law_plain_four" = true) (k9 : PySem.W.keepIn K (.ref f9) = true)
    (a10 : PySem.W.nsIn K mainGlobals "_law_even_three" = some (some (.ref f10))) (l10 : K.lookup f10 = some ⟨oc10, od10, .func (PySem.W.fnOf "_law_even_three" "_law_even_three" (defArgs s__law_even_three) (defBody s__law_even_three) (defScope s__law_even_three) .none kV10 dc10 pm10 an10 cd10 ct10), sl10⟩) (c10 : PySem.W.codeIn K cd10 "_law_even_three" = true) (k10 : PySem.W.keepIn K (.ref f10) = true)
    (a11 : PySem.W.nsIn K mainGlobals "_law_even_four" = some (some (.ref f11))) (l11 : K.lookup f11 = some ⟨oc11, od11, .func (PySem.W.fnOf "_law_even_four" "_law_even_four" (defArgs s__law_even_four) (defBody s__law_even_four) (defScope s__law_even_four) .none kV11 dc11 pm11 an11 cd11 ct11), sl11⟩) (c11 : PySem.W.codeIn K cd11 "_law_even_four" = true) (k11 : PySem.W.keepIn K (.ref f11) = true)
    (a12 : PySem.W.nsIn K mainGlobals "law" = some (some (.ref f12))) (l12 : K.lookup f12 = some ⟨oc12, od12, .func (PySem.W.fnOf "law" "law" (defArgs s_law) (defBody s_law) (defScope s_law) .none kV12 dc12 pm12 an12 cd12 ct12), sl12⟩) (c12 : PySem.W.codeIn K cd12 "law" = true) (k12 : PySem.W.keepIn K (.ref f12) = true)
    (z_abs : PySem.W.nsIn K mainGlobals "abs" = some none) (z_enumerate : PySem.W.nsIn K mainGlobals "enumerate" = some none) (z_int : PySem.W.nsIn K mainGlobals "int" = some none) (z_len : PySem.W.nsIn K mainGlobals "len" = some none) (z_range : PySem.W.nsIn K mainGlobals "range" = some none) (z_repr : PySem.W.nsIn K mainGlobals "repr" = some none) (z_set : PySem.W.nsIn K mainGlobals "set" = some none) (z_sorted : PySem.W.nsIn K mainGlobals "sorted" = some none) (z_sum : PySem.W.nsIn K mainGlobals "sum" = some none) (z_tuple : PySem.W.nsIn K mainGlobals "tuple" = some none) (z_zip : PySem.W.nsIn K mainGlobals "zip" = some none) :
    ∃ fd : FuncData, (∀ (s : Shared) (v : Value), BindsTo s fd ⟨[v], []⟩ [("script", v)]) ∧ ∀ base : Heap, K.In base → base.Ns mainGlobals mg → FnG l.prog w K mg base 6 fa fd ["script"] [] F_law := by
  have e := hfa.symm.trans (PySem.W.mg_of X G a12)
  cases e
  have T : Txt mg := ⟨PySem.W.mg_none_of X G z_abs, PySem.W.mg_none_of X G z_enumerate, PySem.W.mg_none_of X G z_int, PySem.W.mg_none_of X G z_len, PySem.W.mg_none_of X G z_range, PySem.W.mg_none_of X G z_repr, PySem.W.mg_none_of X G z_set, PySem.W.mg_none_of X G z_sorted, PySem.W.mg_none_of X G z_sum, PySem.W.mg_none_of X G z_tuple, PySem.W.mg_none_of X G z_zip⟩
  have U1 := fun_mk (x := "middle_thrice") (qual := "middle_thrice") (st := s_middle_thrice) l1 c1 k1
  have U2 := fun_mk (x := "four_lots") (qual := "four_lots") (st := s_four_lots) l2 c2 k2
  have U3 := fun_mk (x := "_law_deck") (qual := "_law_deck") (st := s__law_deck) l3 c3 k3
  have U4 := fun_mk (x := "_law_draw") (qual := "_law_draw") (st := s__law_draw) l4 c4 k4
  have U5 := fun_mk (x := "_law_pick") (qual := "_law_pick") (st := s__law_pick) l5 c5 k5
  have U6 := fun_mk (x := "_law_lines") (qual := "_law_lines") (st := s__law_lines) l6 c6 k6
  have U7 := fun_mk (x := "_law_turned") (qual := "_law_turned") (st := s__law_turned) l7 c7 k7
  have U8 := fun_mk (x := "_law_mixed_four") (qual := "_law_mixed_four") (st := s__law_mixed_four) l8 c8 k8
  have U9 := fun_mk (x := "_law_plain_four") (qual := "_law_plain_four") (st := s__law_plain_four) l9 c9 k9
  have U10 := fun_mk (x := "_law_even_three") (qual := "_law_even_three") (st := s__law_even_three) l10 c10 k10
  have U11 := fun_mk (x := "_law_even_four") (qual := "_law_even_four") (st := s__law_even_four) l11 c11 k11
  have U12 := fun_mk (x := "law") (qual := "law") (st := s_law) l12 c12 k12
  refine ⟨PySem.W.fnOf "law" "law" (defArgs s_law) (defBody s_law) (defScope s_law) .none kV12 dc12 pm12 an12 cd12 ct12, fun s v => .of_eq rfl, fun base _ _ => ?_⟩
  have C_middle_thrice : ∀ base, Cal l.prog w K mg base 1 "middle_thrice" s_middle_thrice ["square"] [] F_middle_thrice := fun base => ⟨_, _, ok_middle_thrice T U1, U1, PySem.W.mg_of X G a1⟩
  have C_four_lots : ∀ base, Cal l.prog w K mg base 1 "four_lots" s_four_lots ["square"] [] F_four_lots := fun base => ⟨_, _, ok_four_lots T U2, U2, PySem.W.mg_of X G a2⟩
  have C__law_deck : ∀ base, Cal l.prog w K mg base 1 "_law_deck" s__law_deck ["script"] [] F__law_deck := fun base => ⟨_, _, ok__law_deck T U3, U3, PySem.W.mg_of X G a3⟩
  have C__law_draw : ∀ base, Cal l.prog w K mg base 1 "_law_draw" s__law_draw ["deck", "many"] [0] F__law_draw := fun base => ⟨_, _, ok__law_draw T U4, U4, PySem.W.mg_of X G a4⟩
  have C__law_pick : ∀ base, Cal l.prog w K mg base 2 "_law_pick" s__law_pick ["deck", "row"] [0] F__law_pick := fun base => ⟨_, _, ok__law_pick T U5 (C__law_draw base), U5, PySem.W.mg_of X G a5⟩
  have C__law_lines : ∀ base, Cal l.prog w K mg base 1 "_law_lines" s__law_lines ["square"] [] F__law_lines := fun base => ⟨_, _, ok__law_lines T U6, U6, PySem.W.mg_of X G a6⟩
  have C__law_turned : ∀ base, Cal l.prog w K mg base 1 "_law_turned" s__law_turned ["square", "k"] [] F__law_turned := fun base => ⟨_, _, ok__law_turned T U7, U7, PySem.W.mg_of X G a7⟩
  have C__law_mixed_four : ∀ base, Cal l.prog w K mg base 3 "_law_mixed_four" s__law_mixed_four ["deck", "square"] [0] F__law_mixed_four := fun base => ⟨_, _, ok__law_mixed_four T U8 (C__law_draw base) (C__law_pick base) (C__law_turned base), U8, PySem.W.mg_of X G a8⟩
  have C__law_plain_four : ∀ base, Cal l.prog w K mg base 4 "_law_plain_four" s__law_plain_four ["deck"] [0] F__law_plain_four := fun base => ⟨_, _, ok__law_plain_four T U9 (C__law_mixed_four base) (C__law_pick base), U9, PySem.W.mg_of X G a9⟩
  have C__law_even_three : ∀ base, Cal l.prog w K mg base 2 "_law_even_three" s__law_even_three ["deck", "most"] [0] F__law_even_three := fun base => ⟨_, _, ok__law_even_three T U10 (C__law_draw base) (C__law_turned base), U10, PySem.W.mg_of X G a10⟩
  have C__law_even_four : ∀ base, Cal l.prog w K mg base 5 "_law_even_four" s__law_even_four ["deck", "most"] [0] F__law_even_four := fun base => ⟨_, _, ok__law_even_four T U11 (C__law_draw base) (C__law_plain_four base), U11, PySem.W.mg_of X G a11⟩
  exact ok_law T U12 (C__law_deck base) (C__law_even_four base) (C__law_even_three base) (C__law_lines base) (C__law_pick base) (C_four_lots base) (C_middle_thrice base)
theorem walk {l : PySem.W.OpenLaw} {q : Program} {loose : List Str} {XP : (Str → Option Value) → Heap → Prop} {YP : World → Heap → Prop} {d : DefRec} {K : Params → PySem.W.Frag} (hn : l.most = some 63) (hdf : d.params.defaults = []) (hY : ∀ (w : World) (h : Heap), YP w h → (K w.params).In h)
    (hT : ∀ ns : List Int, ns.length ≤ 63 → ∃ kz ρ, F_law [scr ns] = .ok (kz, .bl true) ρ)
    (F : ∀ (w : World) (mg : Str → Option Value) (fa : Addr) (h : Heap), (K w.params).In h → h.Ns mainGlobals mg → mg d.name = some (.ref fa) →
      ∃ fd : FuncData, (∀ (s : Shared) (u : Value), BindsTo s fd ⟨[u], []⟩ [("script", u)]) ∧ ∀ base : Heap, (K w.params).In base → base.Ns mainGlobals mg → FnG l.prog w (K w.params) mg base 6 fa fd ["script"] [] F_law) :
    PySem.W.WalkO q loose XP YP l.row.toRowW d [] (fun f vs => PySem.call f vs) :=
  walk_G (n := 63) (k := 6) hn (by decide) hdf ⟨rfl, by decide, by decide⟩ hY F hT
end Lk18
set_option Elab.async false
set_option linter.all false
set_option maxRecDepth 100000
set_option maxHeartbeats 4000000
namespace Lk18
open PySem PySem.Spec PyProof.Rows L2 Vs
/-! ### the deck -/
structure Dk where
  gs : List Int
  few : gs.length < 1000
  m : Int
  t : Int
abbrev deckD (gs : List Int) (m t : Int) : D := .dic [(Sum.inr "great", .lst (gs.map D.int)), (Sum.inr "mixed", .int m), (Sum.inr "turns", .int t)]
def Dk.d (k : Dk) : D := deckD k.gs k.m k.t
theorem j1 : ¬ (Str.ofString "great" = Str.ofString "mixed") := by decide +kernel
theorem j2 : ¬ (Str.ofString "great" = Str.ofString "turns") := by decide +kernel
theorem j3 : ¬ (Str.ofString "mixed" = Str.ofString "turns") := by decide +kernel
theorem kn : ([Sum.inr (Str.ofString "great"), Sum.inr (Str.ofString "mixed"), Sum.inr (Str.ofString "turns")] : List Key).Nodup := by decide +kernel
theorem lg64 : Nat.log2 64 < 9000 := by decide +kernel
theorem mulOk_mod {x n y : Int} (h0 : 0 < n) (h1 : n < 2 ^ 63) : mulOk (x % n) y = true := mulOk_l (mod_small x h0 h1)
/-- what a draw of many gives back -/
def DrawOk (many : Int) (z : LD) (ρ : Rho) : Prop := ∃ (r : Int) (k : Dk), z = (9, .int r) ∧ ρ[0]? = some (.c 9 k.d) ∧ (2 ≤ many → 0 ≤ r ∧ r < many) ∧ (many < 2 → r = 0)
theorem draw_small (gs : List Int) (m t many : Int) (h : many < 2) : F__law_draw [(9, deckD gs m t), (9, .int many)] = .ok (9, .int 0) [.c 9 (deckD gs m t), .c 9 (.int many), .u, .u] := by
  simp [F__law_draw, fnRun, m__law_draw, sSeq, sIf, M.bind, M.ret, asB, sop, two, vwOk, asAr, kc, gets, Ar.get, oLt, oB2, h, sRet]
theorem draw_great (gs : List Int) (g m t many : Int) (h : ¬ many < 2) (hb : many.natAbs.log2 < 9000) (hl : gs.length < 999) : ∃ gs', gs'.length ≤ gs.length + 1 ∧ F__law_draw [(9, deckD (gs ++ [g]) m t), (9, .int many)] = .ok (9, .int (g % many)) [.c 9 (deckD gs' m t), .c 9 (.int many), .c 9 (.int g), .u] := by
  have h0 : (0 : Int) < many := by omega
  have hl2 : gs.length < 16777216 := by omega
  by_cases hg : many ≤ g
  · refine ⟨gs ++ [g / many], by simp, ?_⟩
    simp [F__law_draw, fnRun, m__law_draw, sSeq, sIf, M.bind, M.ret, asB, sop, two, vwOk, asAr, kc, gets, Ar.get, oLt, oB2, h, sRet, cmpP, plX, plN, qK, subT, lookK, oNe, ne_app, mutP, isL, atP, liftP, lift1, moPop, setK, j1, j2, j3, qRow, sAsg, gN, oGe, hg, q2, qN, oDiv, oI2c, divOk, h0, hb, moAppend, sDrop, consAr, noAr, o1, fInt, oMod, modOk, sNx, hl2]
  · refine ⟨gs, by simp, ?_⟩
    simp [F__law_draw, fnRun, m__law_draw, sSeq, sIf, M.bind, M.ret, asB, sop, two, vwOk, asAr, kc, gets, Ar.get, oLt, oB2, h, sRet, cmpP, plX, plN, qK, subT, lookK, oNe, ne_app, mutP, isL, atP, liftP, lift1, moPop, setK, j1, j2, j3, qRow, sAsg, gN, oGe, hg, q2, qN, oDiv, oI2c, divOk, h0, hb, moAppend, sDrop, consAr, noAr, o1, fInt, oMod, modOk, sNx]
theorem draw_hash (m t many : Int) (h : ¬ many < 2) : Ok (F__law_draw [(9, deckD [] m t), (9, .int many)]) fun z ρ => (∃ r : Int, z = (9, .int (r % many))) ∧ ∃ t', ρ[0]? = some (.c 9 (deckD [] m t')) := by
  have h0 : (0 : Int) < many := by omega
  have ne0 := ne_nil []
  simp only [List.map_nil] at ne0
  refine ⟨?_⟩
  simp [lineN, OkD, F__law_draw, fnRun, m__law_draw, sSeq, sIf, M.bind, M.ret, asB, sop, two, vwOk, asAr, kc, gets, Ar.get, oLt, oB2, h, sRet, cmpP, plX, plN, qK, subT, lookK, oNe, ne0, isL, setK, j1, j2, j3, qRow, sAsg, gN, oDiv, oI2c, divOk, h0, consAr, noAr, o1, fInt, oMod, modOk, sNx, opV, addD, mulD, subN, subI, keyOfD, gAt, putO, liftP, moPut, kn, rd, lg64, mulOk_l, mulOk_r, mulOk_mod]
  exact ⟨_, rfl⟩
theorem draw_ok (k : Dk) (many : Int) (hb : many < 2 ^ 200) : Ok (F__law_draw [(9, k.d), (9, .int many)]) (DrawOk many) := by
  obtain ⟨gs, few, m, t⟩ := k
  by_cases h : many < 2
  · refine .of (draw_small gs m t many h) ⟨0, ⟨gs, few, m, t⟩, rfl, rfl, fun h' => by omega, fun _ => rfl⟩
  · have h0 : (0 : Int) < many := by omega
    have hlog : many.natAbs.log2 < 9000 := Nat.lt_trans (log2_lt (k := 200) (by omega) (by decide)) (by decide)
    have hr : ∀ x : Int, 0 ≤ x % many ∧ x % many < many := fun x => ⟨Int.emod_nonneg x (by omega), Int.emod_lt_of_pos x h0⟩
    have two : gs = [] ∨ ∃ gs' g, gs = gs' ++ [g] := by
      rcases List.eq_nil_or_concat gs with h | ⟨a, b, h⟩
      · exact .inl h
      · exact .inr ⟨a, b, by rw [h, List.concat_eq_append]⟩
    rcases two with rfl | ⟨gs', g, rfl⟩
    · refine (draw_hash m t many h).imp fun z ρ ⟨⟨r, e1⟩, t', e2⟩ => ⟨_, ⟨[], by decide, m, t'⟩, e1, e2, fun _ => hr r, fun h' => absurd h' h⟩
    · have few' : gs'.length < 999 := by simp at few; omega
      obtain ⟨gs2, hl, e⟩ := draw_great gs' g m t many h hlog few'
      exact .of e ⟨_, ⟨gs2, by omega, m, t⟩, rfl, rfl, fun _ => hr g, fun h' => absurd h' h⟩
theorem draw_eq (k : Dk) (many : Int) (hb : many < 2 ^ 200) : ∃ (r : Int) (k' : Dk) (ρ : Rho), F__law_draw [(9, k.d), (9, .int many)] = .ok (9, .int r) ρ ∧ ρ[0]? = some (.c 9 k'.d) ∧ (2 ≤ many → 0 ≤ r ∧ r < many) ∧ (many < 2 → r = 0) := by
  obtain ⟨z, ρ, e, r, k', rfl, h⟩ := (draw_ok k many hb).get
  exact ⟨r, k', ρ, e, h⟩
/-- the deck that the law starts with -/
theorem cut_int {ns : List Int} {lo hi : Option Int} {d : D} (h : d ∈ cutL (ns.map D.int) lo hi) : ∃ n : Int, d = .int n := by
  unfold cutL at h
  have h2 := List.mem_of_mem_drop (List.mem_of_mem_take h)
  obtain ⟨n, _, e⟩ := List.mem_map.mp h2
  exact ⟨n, e.symm⟩
theorem cut_len {ns : List Int} {lo hi : Option Int} : (cutL (ns.map D.int) lo hi).length ≤ ns.length := by
  unfold cutL
  simp
  omega
theorem deck_ok (ns : List Int) (hl : ns.length ≤ 63) : ∃ (k : Dk) (ρ : Rho), F__law_deck [scr ns] = .ok (9, k.d) ρ := by
  have key : Ok (m__law_deck [.c 0 (.rol (ns.map .int)), .u, .u, .u]) fun o ρ => ∃ k : Dk, o = .rt (9, k.d) := by
    unfold m__law_deck
    refine Ok.seq (.of (a := .nx) (ρ := [.c 0 (.rol (ns.map .int)), .c 9 (deckD [] (1959118 + (cutL (ns.map D.int) none (some 63)).length) 0), .u, .u]) ?_ ⟨rfl, ?_⟩)
    · simp [sAsg, dispD, rowM, consV, mkLst, noVs, M.bind, M.ret, opV, kc, sop, o1, fLen, consAr, asAr, slc, rd, noP, asP, sliceD, noAr, gets, Ar.get, addD, gN, lvl, up]
    refine Ok.seq ?_
    unfold sFor
    refine Ok.bind (.of (a := cutL (ns.map D.int) none (some 63)) (ρ := [.c 0 (.rol (ns.map .int)), .c 9 (deckD [] (1959118 + (cutL (ns.map D.int) none (some 63)).length) 0), .u, .u]) ?_ ?_)
    · simp [seqM, M.bind, M.ret, kc, slc, rd, noP, asP, sliceD]
    refine (forL_ix (I := fun i ρ => ∃ gs m c2 c3, gs.length ≤ i ∧ i ≤ 63 ∧ ρ = [.c 0 (.rol (ns.map .int)), .c 9 (deckD gs m 0), c2, c3]) (i := 0) ?_ ⟨[], _, .u, .u, Nat.le_refl _, by decide, rfl⟩).imp fun o ρ ⟨ho, gs, m, c2, c3, h1, h2, e⟩ => ⟨ho, ?_⟩
    · rintro i d ρ _ hd ⟨gs, m, c2, c3, h1, h2, rfl⟩
      obtain ⟨n, rfl⟩ := cut_int (List.mem_of_getElem? hd)
      have hi : i < 63 := by
        have := (List.getElem?_eq_some_iff.mp hd).1
        have := cut_len (ns := ns) (lo := none) (hi := some 63)
        omega
      refine ⟨_, rfl, ?_⟩
      have hown : ∃ w : Int, sAsg (opV addD (opV mulD (kc (.int 2)) (sop (o1 fAbs) (consAr (vwOk 2) noAr))) (sop (o1 fInt) (consAr (asAr (sop oLt (two (vwOk 2) (asAr (kc (.int 0)))))) noAr))) (gN 3) [.c 0 (.rol (ns.map .int)), .c 9 (deckD gs m 0), .c 9 (.int n), c3] = .ok .nx [.c 0 (.rol (ns.map .int)), .c 9 (deckD gs m 0), .c 9 (.int n), .c 9 (.int w)] := by
        refine ⟨2 * (if n < 0 then -n else n) + (if n < 0 then 1 else 0), ?_⟩
        simp [sAsg, M.bind, M.ret, opV, kc, sop, o1, fAbs, fInt, consAr, noAr, asAr, vwOk, two, oLt, oB2, gets, Ar.get, addD, mulD, gN, mulOk_l]
      obtain ⟨w, hown⟩ := hown
      refine Ok.seq (.of hown ⟨rfl, ?_⟩)
      have hl16 : gs.length < 16777216 := by omega
      by_cases hw : (10000000000000000 : Int) ≤ w
      · refine ⟨?_⟩
        simp [OkD, sSeq, sIf, sAsg, sDrop, sNx, M.bind, M.ret, asB, opV, kc, sop, o1, fInt, consAr, noAr, asAr, vwOk, two, oGe, oB2, oPow, oI2c, powOk, oMod, modOk, gets, Ar.get, addD, mulD, gN, hw, mulOk_r, subN, subI, keyOfD, lookK, setK, j1, j2, j3, rd, gAt, plN, qK, subT, putO, liftP, lift1, moPut, kn, lineN, mutP, plX, qRow, qN, isL, atP, moAppend, hl16]
        exact ⟨gs ++ [w], by simp; omega, by omega, by simp⟩
      · refine ⟨?_⟩
        simp [OkD, sSeq, sIf, sAsg, sDrop, sNx, M.bind, M.ret, asB, opV, kc, sop, o1, fInt, consAr, noAr, asAr, vwOk, two, oGe, oB2, oPow, oI2c, powOk, oMod, modOk, gets, Ar.get, addD, mulD, gN, hw, mulOk_r, subN, subI, keyOfD, lookK, setK, j1, j2, j3, rd, gAt, plN, qK, subT, putO, liftP, lift1, moPut, kn, lineN, mutP, plX, qRow, qN, isL, atP, moAppend, hl16]
        exact ⟨gs, by omega, by omega, rfl⟩
    · subst e
      refine .of (a := .rt (9, deckD gs m 0)) (ρ := _) (by simp [sRet, mv, M.bind, M.ret]; rfl) ⟨⟨gs, by have := cut_len (ns := ns) (lo := none) (hi := some 63); omega, m, 0⟩, rfl⟩
  obtain ⟨o, ρ, e, k, rfl⟩ := key.get
  exact ⟨k, ρ, by simp [F__law_deck, fnRun, e]⟩
/-! ### an item that is drawn -/
theorem atI_nat {α : Type} {xs : List α} {r : Int} (h0 : 0 ≤ r) (h1 : r < xs.length) : ∃ x, x ∈ xs ∧ atI xs r = some x := by
  have hn : r.toNat < xs.length := by omega
  refine ⟨xs[r.toNat], List.getElem_mem hn, ?_⟩
  unfold atI ixN
  rw [if_pos h0, if_pos h1]
  simp [hn]
theorem pick_lst (k : Dk) (kl : Nat) (xs : List D) (hn : 2 ≤ xs.length) (hl : xs.length < 1000) (hs : ∀ x ∈ xs, x.isS = true) : ∃ (x : D) (k' : Dk) (ρ : Rho), x ∈ xs ∧ F__law_pick [(9, k.d), (kl, .lst xs)] = .ok (9, x) ρ ∧ ρ[0]? = some (.c 9 k'.d) := by
  obtain ⟨r, k', ρ, e, e0, hr, _⟩ := draw_eq k xs.length (by omega)
  obtain ⟨h0, h1⟩ := hr (by omega)
  obtain ⟨x, hx, ex⟩ := atI_nat h0 h1
  refine ⟨x, k', [.c 9 k'.d, .c kl (.lst xs)], hx, ?_, rfl⟩
  have ek : k.d.isS = false := rfl
  simp [F__law_pick, fnRun, m__law_pick, sRet, M.bind, M.ret, subN, callG, consAr, noAr, asAr, vwOk, sop, o1, fLen, gets, Ar.get, pickL, takeA, ek, e, backA, e0, subI, viewI, ex, hs x hx]
theorem pick_tup (k : Dk) (kl : Nat) (xs : List D) (hn : 2 ≤ xs.length) (hl : xs.length < 1000) (hs : ∀ x ∈ xs, x.isS = false) : ∃ (x : D) (k' : Dk) (ρ : Rho), x ∈ xs ∧ F__law_pick [(9, k.d), (kl, .lst xs)] = .ok (0, x) ρ ∧ ρ[0]? = some (.c 9 k'.d) := by
  obtain ⟨r, k', ρ, e, e0, hr, _⟩ := draw_eq k xs.length (by omega)
  obtain ⟨h0, h1⟩ := hr (by omega)
  obtain ⟨x, hx, ex⟩ := atI_nat h0 h1
  refine ⟨x, k', [.c 9 k'.d, .c (min kl 1) (.lst xs)], hx, ?_, rfl⟩
  have ek : k.d.isS = false := rfl
  simp [F__law_pick, fnRun, m__law_pick, sRet, M.bind, M.ret, subN, callG, consAr, noAr, asAr, vwOk, sop, o1, fLen, gets, Ar.get, pickL, takeA, ek, e, backA, e0, subI, viewI, ex, hs x hx]
end Lk18
set_option Elab.async false
set_option linter.all false
set_option maxRecDepth 100000
set_option maxHeartbeats 4000000
namespace Lk18
open PySem PySem.Spec PyProof.Rows L2 Vs
/-! ### squares of three and four rows -/
abbrev r3 (a b c : Int) : D := .tup [.int a, .int b, .int c]
abbrev r4 (a b c d : Int) : D := .tup [.int a, .int b, .int c, .int d]
abbrev sq3 (a b c d e f g h i : Int) : D := .tup [r3 a b c, r3 d e f, r3 g h i]
abbrev sq4 (a b c d e f g h i j k l m n o p : Int) : D := .tup [r4 a b c d, r4 e f g h, r4 i j k l, r4 m n o p]
def Bd (B x : Int) : Prop := -B < x ∧ x < B
def Even3 (B S a b c d e f g h i : Int) : Prop := a + b + c = S ∧ d + e + f = S ∧ g + h + i = S ∧ a + d + g = S ∧ b + e + h = S ∧ c + f + i = S ∧ a + e + i = S ∧ c + e + g = S ∧ Bd B a ∧ Bd B b ∧ Bd B c ∧ Bd B d ∧ Bd B e ∧ Bd B f ∧ Bd B g ∧ Bd B h ∧ Bd B i
def Even4 (B S a b c d e f g h i j k l m n o p : Int) : Prop := a + b + c + d = S ∧ e + f + g + h = S ∧ i + j + k + l = S ∧ m + n + o + p = S ∧ a + e + i + m = S ∧ b + f + j + n = S ∧ c + g + k + o = S ∧ d + h + l + p = S ∧ a + f + k + p = S ∧ d + g + j + m = S ∧ Bd B a ∧ Bd B b ∧ Bd B c ∧ Bd B d ∧ Bd B e ∧ Bd B f ∧ Bd B g ∧ Bd B h ∧ Bd B i ∧ Bd B j ∧ Bd B k ∧ Bd B l ∧ Bd B m ∧ Bd B n ∧ Bd B o ∧ Bd B p
theorem lines3 (kl : Nat) (a b c d e f g h i B S : Int) (E : Even3 B S a b c d e f g h i) : vl (F__law_lines [(kl, sq3 a b c d e f g h i)]) = some (.lst ((List.replicate 8 S).map D.int)) := by
  have q : vl (F__law_lines [(kl, sq3 a b c d e f g h i)]) = some (.lst ([a + (b + (c + 0)), d + (e + (f + 0)), g + (h + (i + 0)), a + (d + (g + 0)), b + (e + (h + 0)), c + (f + (i + 0)), a + (e + (i + 0)), c + (e + (g + 0))].map D.int)) := by kernel_rfl
  obtain ⟨h1, h2, h3, h4, h5, h6, h7, h8, _⟩ := E
  rw [q]
  have e : [a + (b + (c + 0)), d + (e + (f + 0)), g + (h + (i + 0)), a + (d + (g + 0)), b + (e + (h + 0)), c + (f + (i + 0)), a + (e + (i + 0)), c + (e + (g + 0))] = List.replicate 8 S := by
    simp only [List.replicate, List.cons.injEq, and_true]
    omega
  rw [e]
theorem lines4 (kl : Nat) (a b c d e f g h i j k l m n o p B S : Int) (E : Even4 B S a b c d e f g h i j k l m n o p) : vl (F__law_lines [(kl, sq4 a b c d e f g h i j k l m n o p)]) = some (.lst ((List.replicate 10 S).map D.int)) := by
  have q : vl (F__law_lines [(kl, sq4 a b c d e f g h i j k l m n o p)]) = some (.lst ([a + (b + (c + (d + 0))), e + (f + (g + (h + 0))), i + (j + (k + (l + 0))), m + (n + (o + (p + 0))), a + (e + (i + (m + 0))), b + (f + (j + (n + 0))), c + (g + (k + (o + 0))), d + (h + (l + (p + 0))), a + (f + (k + (p + 0))), d + (g + (j + (m + 0)))].map D.int)) := by kernel_rfl
  obtain ⟨h1, h2, h3, h4, h5, h6, h7, h8, h9, h10, _⟩ := E
  rw [q]
  have e : [a + (b + (c + (d + 0))), e + (f + (g + (h + 0))), i + (j + (k + (l + 0))), m + (n + (o + (p + 0))), a + (e + (i + (m + 0))), b + (f + (j + (n + 0))), c + (g + (k + (o + 0))), d + (h + (l + (p + 0))), a + (f + (k + (p + 0))), d + (g + (j + (m + 0)))] = List.replicate 10 S := by
    simp only [List.replicate, List.cons.injEq, and_true]
    omega
  rw [e]
theorem turned3 (kl : Nat) (r : Int) (h0 : 0 ≤ r) (h1 : r < 8) (B S a b c d e f g h i : Int) (E : Even3 B S a b c d e f g h i) : ∃ a' b' c' d' e' f' g' h' i' : Int, vl (F__law_turned [(kl, sq3 a b c d e f g h i), (9, .int r)]) = some (sq3 a' b' c' d' e' f' g' h' i') ∧ Even3 B S a' b' c' d' e' f' g' h' i' := by
  have hr : r = 0 ∨ r = 1 ∨ r = 2 ∨ r = 3 ∨ r = 4 ∨ r = 5 ∨ r = 6 ∨ r = 7 := by omega
  obtain ⟨z0, z1, z2, z3, z4, z5, z6, z7, ba, bb, bc, bd, be, bf, bg, bh, bi⟩ := E
  rcases hr with rfl | rfl | rfl | rfl | rfl | rfl | rfl | rfl
  · exact ⟨a, b, c, d, e, f, g, h, i, by kernel_rfl, by omega, by omega, by omega, by omega, by omega, by omega, by omega, by omega, ba, bb, bc, bd, be, bf, bg, bh, bi⟩
  · exact ⟨g, d, a, h, e, b, i, f, c, by kernel_rfl, by omega, by omega, by omega, by omega, by omega, by omega, by omega, by omega, bg, bd, ba, bh, be, bb, bi, bf, bc⟩
  · exact ⟨i, h, g, f, e, d, c, b, a, by kernel_rfl, by omega, by omega, by omega, by omega, by omega, by omega, by omega, by omega, bi, bh, bg, bf, be, bd, bc, bb, ba⟩
  · exact ⟨c, f, i, b, e, h, a, d, g, by kernel_rfl, by omega, by omega, by omega, by omega, by omega, by omega, by omega, by omega, bc, bf, bi, bb, be, bh, ba, bd, bg⟩
  · exact ⟨a, d, g, b, e, h, c, f, i, by kernel_rfl, by omega, by omega, by omega, by omega, by omega, by omega, by omega, by omega, ba, bd, bg, bb, be, bh, bc, bf, bi⟩
  · exact ⟨c, b, a, f, e, d, i, h, g, by kernel_rfl, by omega, by omega, by omega, by omega, by omega, by omega, by omega, by omega, bc, bb, ba, bf, be, bd, bi, bh, bg⟩
  · exact ⟨i, f, c, h, e, b, g, d, a, by kernel_rfl, by omega, by omega, by omega, by omega, by omega, by omega, by omega, by omega, bi, bf, bc, bh, be, bb, bg, bd, ba⟩
  · exact ⟨g, h, i, d, e, f, a, b, c, by kernel_rfl, by omega, by omega, by omega, by omega, by omega, by omega, by omega, by omega, bg, bh, bi, bd, be, bf, ba, bb, bc⟩
theorem turned4 (kl : Nat) (r : Int) (h0 : 0 ≤ r) (h1 : r < 8) (B S a b c d e f g h i j k l m n o p : Int) (E : Even4 B S a b c d e f g h i j k l m n o p) : ∃ a' b' c' d' e' f' g' h' i' j' k' l' m' n' o' p' : Int, vl (F__law_turned [(kl, sq4 a b c d e f g h i j k l m n o p), (9, .int r)]) = some (sq4 a' b' c' d' e' f' g' h' i' j' k' l' m' n' o' p') ∧ Even4 B S a' b' c' d' e' f' g' h' i' j' k' l' m' n' o' p' := by
  have hr : r = 0 ∨ r = 1 ∨ r = 2 ∨ r = 3 ∨ r = 4 ∨ r = 5 ∨ r = 6 ∨ r = 7 := by omega
  obtain ⟨z0, z1, z2, z3, z4, z5, z6, z7, z8, z9, ba, bb, bc, bd, be, bf, bg, bh, bi, bj, bk, bl, bm, bn, bo, bp⟩ := E
  rcases hr with rfl | rfl | rfl | rfl | rfl | rfl | rfl | rfl
  · exact ⟨a, b, c, d, e, f, g, h, i, j, k, l, m, n, o, p, by kernel_rfl, by omega, by omega, by omega, by omega, by omega, by omega, by omega, by omega, by omega, by omega, ba, bb, bc, bd, be, bf, bg, bh, bi, bj, bk, bl, bm, bn, bo, bp⟩
  · exact ⟨m, i, e, a, n, j, f, b, o, k, g, c, p, l, h, d, by kernel_rfl, by omega, by omega, by omega, by omega, by omega, by omega, by omega, by omega, by omega, by omega, bm, bi, be, ba, bn, bj, bf, bb, bo, bk, bg, bc, bp, bl, bh, bd⟩
  · exact ⟨p, o, n, m, l, k, j, i, h, g, f, e, d, c, b, a, by kernel_rfl, by omega, by omega, by omega, by omega, by omega, by omega, by omega, by omega, by omega, by omega, bp, bo, bn, bm, bl, bk, bj, bi, bh, bg, bf, be, bd, bc, bb, ba⟩
  · exact ⟨d, h, l, p, c, g, k, o, b, f, j, n, a, e, i, m, by kernel_rfl, by omega, by omega, by omega, by omega, by omega, by omega, by omega, by omega, by omega, by omega, bd, bh, bl, bp, bc, bg, bk, bo, bb, bf, bj, bn, ba, be, bi, bm⟩
  · exact ⟨a, e, i, m, b, f, j, n, c, g, k, o, d, h, l, p, by kernel_rfl, by omega, by omega, by omega, by omega, by omega, by omega, by omega, by omega, by omega, by omega, ba, be, bi, bm, bb, bf, bj, bn, bc, bg, bk, bo, bd, bh, bl, bp⟩
  · exact ⟨d, c, b, a, h, g, f, e, l, k, j, i, p, o, n, m, by kernel_rfl, by omega, by omega, by omega, by omega, by omega, by omega, by omega, by omega, by omega, by omega, bd, bc, bb, ba, bh, bg, bf, be, bl, bk, bj, bi, bp, bo, bn, bm⟩
  · exact ⟨p, l, h, d, o, k, g, c, n, j, f, b, m, i, e, a, by kernel_rfl, by omega, by omega, by omega, by omega, by omega, by omega, by omega, by omega, by omega, by omega, bp, bl, bh, bd, bo, bk, bg, bc, bn, bj, bf, bb, bm, bi, be, ba⟩
  · exact ⟨m, n, o, p, i, j, k, l, e, f, g, h, a, b, c, d, by kernel_rfl, by omega, by omega, by omega, by omega, by omega, by omega, by omega, by omega, by omega, by omega, bm, bn, bo, bp, bi, bj, bk, bl, be, bf, bg, bh, ba, bb, bc, bd⟩
end Lk18
set_option Elab.async false
set_option linter.all false
set_option maxRecDepth 100000
set_option maxHeartbeats 4000000
namespace Lk18
open PySem PySem.Spec PyProof.Rows L2 Vs
@[simp] theorem kS (k : Dk) : k.d.isS = false := rfl
/-- a square of three rows with equal lines, drawn -/
theorem even_three (k : Dk) (most : Int) (h0 : 0 ≤ most) (h1 : most < 2 ^ 150) : ∃ (kz : Nat) (ρ : Rho) (k' : Dk) (S a b c d e f g h i : Int), F__law_even_three [(9, k.d), (9, .int most)] = .ok (kz, sq3 a b c d e f g h i) ρ ∧ ρ[0]? = some (.c 9 k'.d) ∧ Even3 (2 ^ 300) S a b c d e f g h i := by
  obtain ⟨r1, k1, ρ1, e1, f1, b1, c1⟩ := draw_eq k (2 * most + 1) (by omega)
  obtain ⟨r2, k2, ρ2, e2, f2, b2, c2⟩ := draw_eq k1 (2 * most + 1) (by omega)
  obtain ⟨r3, k3, ρ3, e3, f3, b3, c3⟩ := draw_eq k2 (2 * most + 1) (by omega)
  obtain ⟨r4, k4, ρ4, e4, f4, b4, _⟩ := draw_eq k3 8 (by decide)
  have q1 : 0 ≤ r1 ∧ r1 ≤ 2 * most := by omega
  have q2 : 0 ≤ r2 ∧ r2 ≤ 2 * most := by omega
  have q3 : 0 ≤ r3 ∧ r3 ≤ 2 * most := by omega
  obtain ⟨q4, q5⟩ := b4 (by decide)
  have x : ∃ A, A = r1 - most := ⟨_, rfl⟩
  have y : ∃ B, B = r2 - most := ⟨_, rfl⟩
  have z : ∃ C, C = r3 - most := ⟨_, rfl⟩
  obtain ⟨A, hA⟩ := x
  obtain ⟨B, hB⟩ := y
  obtain ⟨C, hC⟩ := z
  have E : Even3 (2 ^ 300) (3 * C) (C - B) (C + A + B) (C - A) (C - A + B) C (C + A - B) (C + A) (C - A - B) (C + B) := by
    unfold Even3 Bd
    omega
  obtain ⟨a', b', c', d', e', f', g', h', i', ev, E'⟩ := turned3 0 r4 q4 q5 _ _ _ _ _ _ _ _ _ _ _ E
  obtain ⟨kz, ρz, ez⟩ := of_vl ev
  refine ⟨kz, [.c 9 k4.d, .c 9 (.int most), .c 9 (.int A), .c 9 (.int B), .c 9 (.int C), .c 0 (sq3 (C - B) (C + A + B) (C - A) (C - A + B) C (C + A - B) (C + A) (C - A - B) (C + B)), .u], k4, 3 * C, a', b', c', d', e', f', g', h', i', ?_, rfl, E'⟩
  have s1 : sAsg (comp [6] (rng1 (consV (kc (.int 3)) (noVs))) (gN 6) (M.ret true) (sop oSub (two (asAr (callG F__law_draw [0] [0, 1] 2 0 (consAr (vwOk 0) (consAr (asAr (opV addD (opV mulD (kc (.int 2)) (rd 1)) (kc (.int 1)))) (noAr))) (noAr))) (vwOk 1)))) (gR 3 (gsC (gN 2) (gsC (gN 3) (gsC (gN 4) (gsN)))))
      [.c 9 k.d, .c 9 (.int most), .u, .u, .u, .u, .u] = .ok .nx [.c 9 k3.d, .c 9 (.int most), .c 9 (.int A), .c 9 (.int B), .c 9 (.int C), .u, .u] := by
    subst hA hB hC
    simp [lineN, gets, Ar.get, oI2, oB2, oSub, oMod, oDiv, oPow, oI2c, oLt, oLe, oGt, oGe, o1, addD, mulD, idxO, idxD, subI, viewI, keyOfD, lookK, setK, lvl, up, pickL, takeA, backA, wipeC, backC, lv, rangeD, rgOk, partsR, divOk, modOk, fInt, fLen, tupD, lstD, sliceD, enumR, zipR, rowD, enumD, zipD, rg2, rg3, rg4, rg5, e1, e2, e3, f1, f2, f3]
  have key : m__law_even_three [.c 9 k.d, .c 9 (.int most), .u, .u, .u, .u, .u] = .ok (.rt (kz, sq3 a' b' c' d' e' f' g' h' i')) [.c 9 k4.d, .c 9 (.int most), .c 9 (.int A), .c 9 (.int B), .c 9 (.int C), .c 0 (sq3 (C - B) (C + A + B) (C - A) (C - A + B) C (C + A - B) (C + A) (C - A - B) (C + B)), .u] := by
    unfold m__law_even_three
    rw [ap_sSeq, s1]
    simp [lineN, gets, Ar.get, oI2, oB2, oSub, oMod, oDiv, oPow, oI2c, oLt, oLe, oGt, oGe, o1, addD, mulD, idxO, idxD, subI, viewI, keyOfD, lookK, setK, lvl, up, pickL, takeA, backA, wipeC, backC, lv, rangeD, rgOk, partsR, divOk, modOk, fInt, fLen, tupD, lstD, sliceD, enumR, zipR, rowD, enumD, zipD, rg2, rg3, rg4, rg5, e4, f4, ez]
  simp [lineN, gets, Ar.get, oI2, oB2, oSub, oMod, oDiv, oPow, oI2c, oLt, oLe, oGt, oGe, o1, addD, mulD, idxO, idxD, subI, viewI, keyOfD, lookK, setK, lvl, up, pickL, takeA, backA, wipeC, backC, lv, rangeD, rgOk, partsR, divOk, modOk, fInt, fLen, tupD, lstD, sliceD, enumR, zipR, rowD, enumD, zipD, rg2, rg3, rg4, rg5, F__law_even_three, fnRun, key]
end Lk18
set_option Elab.async false
set_option linter.all false
set_option maxRecDepth 100000
set_option maxHeartbeats 1000000
namespace Lk18
open PySem PySem.Spec PyProof.Rows L2 Vs
theorem perm4 (dk : D) (ks k0 k1 : Nat) (sq : D) (c4 c5 c6 c7 : Cell) (row : D) (hrow : row ∈ [.tup [.int 0, .int 1, .int 2, .int 3], .tup [.int 1, .int 0, .int 3, .int 2], .tup [.int 0, .int 2, .int 1, .int 3], .tup [.int 2, .int 0, .int 3, .int 1], .tup [.int 3, .int 1, .int 2, .int 0]]) (B S a b c d e f g h i j k l m n o p : Int) (E : Even4 B S a b c d e f g h i j k l m n o p) : ∃ a' b' c' d' e' f' g' h' i' j' k' l' m' n' o' p' : Int,
    sAsg (op1 tupD (comp [4] (seqM (rd 3)) (gN 4) (M.ret true) (op1 tupD (comp [5] (seqM (rd 3)) (gN 5) (M.ret true) (opV idxO (subN 2 (rd 4)) (rd 5)))))) (gN 2) [.c 9 dk, .c ks sq, .c k0 (sq4 a b c d e f g h i j k l m n o p), .c k1 row, .u, .u, c6, c7] = .ok .nx [.c 9 dk, .c ks sq, .c 8 (sq4 a' b' c' d' e' f' g' h' i' j' k' l' m' n' o' p'), .c 0 row, .u, .u, c6, c7] ∧ Even4 B S a' b' c' d' e' f' g' h' i' j' k' l' m' n' o' p' := by
  obtain ⟨z0, z1, z2, z3, z4, z5, z6, z7, z8, z9, ba, bb, bc, bd, be, bf, bg, bh, bi, bj, bk, bl, bm, bn, bo, bp⟩ := E
  simp only [List.mem_cons, List.not_mem_nil, or_false] at hrow
  rcases hrow with rfl | rfl | rfl | rfl | rfl
  · exact ⟨a, b, c, d, e, f, g, h, i, j, k, l, m, n, o, p, by kernel_rfl, by omega, by omega, by omega, by omega, by omega, by omega, by omega, by omega, by omega, by omega, ba, bb, bc, bd, be, bf, bg, bh, bi, bj, bk, bl, bm, bn, bo, bp⟩
  · exact ⟨f, e, h, g, b, a, d, c, n, m, p, o, j, i, l, k, by kernel_rfl, by omega, by omega, by omega, by omega, by omega, by omega, by omega, by omega, by omega, by omega, bf, be, bh, bg, bb, ba, bd, bc, bn, bm, bp, bo, bj, bi, bl, bk⟩
  · exact ⟨a, c, b, d, i, k, j, l, e, g, f, h, m, o, n, p, by kernel_rfl, by omega, by omega, by omega, by omega, by omega, by omega, by omega, by omega, by omega, by omega, ba, bc, bb, bd, bi, bk, bj, bl, be, bg, bf, bh, bm, bo, bn, bp⟩
  · exact ⟨k, i, l, j, c, a, d, b, o, m, p, n, g, e, h, f, by kernel_rfl, by omega, by omega, by omega, by omega, by omega, by omega, by omega, by omega, by omega, by omega, bk, bi, bl, bj, bc, ba, bd, bb, bo, bm, bp, bn, bg, be, bh, bf⟩
  · exact ⟨p, n, o, m, h, f, g, e, l, j, k, i, d, b, c, a, by kernel_rfl, by omega, by omega, by omega, by omega, by omega, by omega, by omega, by omega, by omega, by omega, bp, bn, bo, bm, bh, bf, bg, be, bl, bj, bk, bi, bd, bb, bc, ba⟩
theorem back4 (dk : D) (ks : Nat) (sq row : D) (c3 c4 c5 : Cell) (a b c d e f g h i j k l m n o p : Int) :
    sAsg (op1 tupD (comp [6] (seqM (rd 2)) (gN 6) (M.ret true) (op1 tupD (comp [7] (seqM (rd 6)) (gN 7) (M.ret true) (sop oSub (two (asAr (kc (.int 17))) (vwOk 7))))))) (gN 2) [.c 9 dk, .c ks sq, .c 8 (sq4 a b c d e f g h i j k l m n o p), c3, c4, c5, .u, .u] = .ok .nx [.c 9 dk, .c ks sq, .c 8 (sq4 (17 - a) (17 - b) (17 - c) (17 - d) (17 - e) (17 - f) (17 - g) (17 - h) (17 - i) (17 - j) (17 - k) (17 - l) (17 - m) (17 - n) (17 - o) (17 - p)), c3, c4, c5, .u, .u] := by kernel_rfl
theorem even_back {pwa pwb pwc pwd pwe pwf pwg pwh pwi pwj pwk pwl pwm pwn pwo pwp : Int} (E : Even4 100 34 pwa pwb pwc pwd pwe pwf pwg pwh pwi pwj pwk pwl pwm pwn pwo pwp) : Even4 200 34 (17 - pwa) (17 - pwb) (17 - pwc) (17 - pwd) (17 - pwe) (17 - pwf) (17 - pwg) (17 - pwh) (17 - pwi) (17 - pwj) (17 - pwk) (17 - pwl) (17 - pwm) (17 - pwn) (17 - pwo) (17 - pwp) := by
  obtain ⟨z0, z1, z2, z3, z4, z5, z6, z7, z8, z9, ba, bb, bc, bd, be, bf, bg, bh, bi, bj, bk, bl, bm, bn, bo, bp⟩ := E
  exact ⟨by omega, by omega, by omega, by omega, by omega, by omega, by omega, by omega, by omega, by omega, ⟨by have := ba.2; omega, by have := ba.1; omega⟩, ⟨by have := bb.2; omega, by have := bb.1; omega⟩, ⟨by have := bc.2; omega, by have := bc.1; omega⟩, ⟨by have := bd.2; omega, by have := bd.1; omega⟩, ⟨by have := be.2; omega, by have := be.1; omega⟩, ⟨by have := bf.2; omega, by have := bf.1; omega⟩, ⟨by have := bg.2; omega, by have := bg.1; omega⟩, ⟨by have := bh.2; omega, by have := bh.1; omega⟩, ⟨by have := bi.2; omega, by have := bi.1; omega⟩, ⟨by have := bj.2; omega, by have := bj.1; omega⟩, ⟨by have := bk.2; omega, by have := bk.1; omega⟩, ⟨by have := bl.2; omega, by have := bl.1; omega⟩, ⟨by have := bm.2; omega, by have := bm.1; omega⟩, ⟨by have := bn.2; omega, by have := bn.1; omega⟩, ⟨by have := bo.2; omega, by have := bo.1; omega⟩, ⟨by have := bp.2; omega, by have := bp.1; omega⟩⟩
theorem even_more {pwa pwb pwc pwd pwe pwf pwg pwh pwi pwj pwk pwl pwm pwn pwo pwp : Int} (E : Even4 100 34 pwa pwb pwc pwd pwe pwf pwg pwh pwi pwj pwk pwl pwm pwn pwo pwp) : Even4 200 34 pwa pwb pwc pwd pwe pwf pwg pwh pwi pwj pwk pwl pwm pwn pwo pwp := by
  obtain ⟨z0, z1, z2, z3, z4, z5, z6, z7, z8, z9, ba, bb, bc, bd, be, bf, bg, bh, bi, bj, bk, bl, bm, bn, bo, bp⟩ := E
  exact ⟨z0, z1, z2, z3, z4, z5, z6, z7, z8, z9, ⟨by have := ba.1; omega, by have := ba.2; omega⟩, ⟨by have := bb.1; omega, by have := bb.2; omega⟩, ⟨by have := bc.1; omega, by have := bc.2; omega⟩, ⟨by have := bd.1; omega, by have := bd.2; omega⟩, ⟨by have := be.1; omega, by have := be.2; omega⟩, ⟨by have := bf.1; omega, by have := bf.2; omega⟩, ⟨by have := bg.1; omega, by have := bg.2; omega⟩, ⟨by have := bh.1; omega, by have := bh.2; omega⟩, ⟨by have := bi.1; omega, by have := bi.2; omega⟩, ⟨by have := bj.1; omega, by have := bj.2; omega⟩, ⟨by have := bk.1; omega, by have := bk.2; omega⟩, ⟨by have := bl.1; omega, by have := bl.2; omega⟩, ⟨by have := bm.1; omega, by have := bm.2; omega⟩, ⟨by have := bn.1; omega, by have := bn.2; omega⟩, ⟨by have := bo.1; omega, by have := bo.2; omega⟩, ⟨by have := bp.1; omega, by have := bp.2; omega⟩⟩
/-- a plain even square of four rows is mixed -/
theorem mixed_four (k : Dk) (kl : Nat) (pxa pxb pxc pxd pxe pxf pxg pxh pxi pxj pxk pxl pxm pxn pxo pxp : Int) (E : Even4 100 34 pxa pxb pxc pxd pxe pxf pxg pxh pxi pxj pxk pxl pxm pxn pxo pxp) : ∃ (kz : Nat) (ρ : Rho) (k' : Dk) (pya pyb pyc pyd pye pyf pyg pyh pyi pyj pyk pyl pym pyn pyo pyp : Int),
    F__law_mixed_four [(9, k.d), (kl, sq4 pxa pxb pxc pxd pxe pxf pxg pxh pxi pxj pxk pxl pxm pxn pxo pxp)] = .ok (kz, sq4 pya pyb pyc pyd pye pyf pyg pyh pyi pyj pyk pyl pym pyn pyo pyp) ρ ∧ ρ[0]? = some (.c 9 k'.d) ∧ Even4 200 34 pya pyb pyc pyd pye pyf pyg pyh pyi pyj pyk pyl pym pyn pyo pyp := by
  obtain ⟨r1, k1, ρ1, e1, f1, b1, _⟩ := draw_eq k 8 (by decide)
  obtain ⟨q1, q2⟩ := b1 (by decide)
  obtain ⟨pua, pub, puc, pud, pue, puf, pug, puh, pui, puj, puk, pul, pum, pun, puo, pup, ev, E1⟩ := turned4 0 r1 q1 q2 _ _ _ _ _ _ _ _ _ _ _ _ _ _ _ _ _ _ E
  obtain ⟨kz, ρz, ez⟩ := of_vl ev
  obtain ⟨row, k2, ρ2, hrow, e2, f2⟩ := pick_tup k1 9 [.tup [.int 0, .int 1, .int 2, .int 3], .tup [.int 1, .int 0, .int 3, .int 2], .tup [.int 0, .int 2, .int 1, .int 3], .tup [.int 2, .int 0, .int 3, .int 1], .tup [.int 3, .int 1, .int 2, .int 0]] (by decide) (by decide) (by simp [lineN, gets, Ar.get, oI2, oB2, oSub, oMod, oDiv, oPow, oI2c, oLt, oLe, oGt, oGe, o1, addD, mulD, idxO, idxD, subI, viewI, keyOfD, lookK, setK, lvl, up, pickL, takeA, backA, wipeC, backC, lv, rangeD, rgOk, partsR, divOk, modOk, fInt, fLen, tupD, lstD, sliceD, enumR, zipR, rowD, enumD, zipD, rg2, rg3, rg4, rg5])
  obtain ⟨pwa, pwb, pwc, pwd, pwe, pwf, pwg, pwh, pwi, pwj, pwk, pwl, pwm, pwn, pwo, pwp, s3, E2⟩ := perm4 k2.d 0 kz 0 (sq4 pxa pxb pxc pxd pxe pxf pxg pxh pxi pxj pxk pxl pxm pxn pxo pxp) .u .u .u .u row hrow _ _ _ _ _ _ _ _ _ _ _ _ _ _ _ _ _ _ E1
  obtain ⟨r3, k3, ρ3, e3, f3, b3, _⟩ := draw_eq k2 3 (by decide)
  have hrs : row.isS = false := by
    simp only [List.mem_cons, List.not_mem_nil, or_false] at hrow
    rcases hrow with rfl | rfl | rfl | rfl | rfl <;> rfl
  have s1 : sAsg (callG F__law_turned [] [0, 1] 2 0 (consAr (asAr (rd 1)) (consAr (asAr (callG F__law_draw [0] [0, 1] 2 0 (consAr (vwOk 0) (consAr (asAr (kc (.int 8))) (noAr))) (noAr))) (noAr))) (noAr)) (gN 2) [.c 9 k.d, .c kl (sq4 pxa pxb pxc pxd pxe pxf pxg pxh pxi pxj pxk pxl pxm pxn pxo pxp), .u, .u, .u, .u, .u, .u] = .ok .nx [.c 9 k1.d, .c 0 (sq4 pxa pxb pxc pxd pxe pxf pxg pxh pxi pxj pxk pxl pxm pxn pxo pxp), .c kz (sq4 pua pub puc pud pue puf pug puh pui puj puk pul pum pun puo pup), .u, .u, .u, .u, .u] := by
    simp [lineN, gets, Ar.get, oI2, oB2, oSub, oMod, oDiv, oPow, oI2c, oLt, oLe, oGt, oGe, o1, addD, mulD, idxO, idxD, subI, viewI, keyOfD, lookK, setK, lvl, up, pickL, takeA, backA, wipeC, backC, lv, rangeD, rgOk, partsR, divOk, modOk, fInt, fLen, tupD, lstD, sliceD, enumR, zipR, rowD, enumD, zipD, rg2, rg3, rg4, rg5, e1, f1, ez]
  have s4 := back4 k3.d 0 (sq4 pxa pxb pxc pxd pxe pxf pxg pxh pxi pxj pxk pxl pxm pxn pxo pxp) row (.c 0 row) .u .u pwa pwb pwc pwd pwe pwf pwg pwh pwi pwj pwk pwl pwm pwn pwo pwp
  have key : Ok (m__law_mixed_four [.c 9 k.d, .c kl (sq4 pxa pxb pxc pxd pxe pxf pxg pxh pxi pxj pxk pxl pxm pxn pxo pxp), .u, .u, .u, .u, .u, .u]) fun o ρ => ∃ (kz : Nat) (pya pyb pyc pyd pye pyf pyg pyh pyi pyj pyk pyl pym pyn pyo pyp : Int), o = .rt (kz, sq4 pya pyb pyc pyd pye pyf pyg pyh pyi pyj pyk pyl pym pyn pyo pyp) ∧ ρ[0]? = some (.c 9 k3.d) ∧ Even4 200 34 pya pyb pyc pyd pye pyf pyg pyh pyi pyj pyk pyl pym pyn pyo pyp := by
    unfold m__law_mixed_four
    rw [ap_sSeq, s1, bindR_ok]
    refine Ok.seq (.of (a := .nx) (ρ := [.c 9 k2.d, .c 0 (sq4 pxa pxb pxc pxd pxe pxf pxg pxh pxi pxj pxk pxl pxm pxn pxo pxp), .c kz (sq4 pua pub puc pud pue puf pug puh pui puj puk pul pum pun puo pup), .c 0 row, .u, .u, .u, .u]) ?_ ⟨rfl, ?_⟩)
    · simp [lineN, gets, Ar.get, oI2, oB2, oSub, oMod, oDiv, oPow, oI2c, oLt, oLe, oGt, oGe, o1, addD, mulD, idxO, idxD, subI, viewI, keyOfD, lookK, setK, lvl, up, pickL, takeA, backA, wipeC, backC, lv, rangeD, rgOk, partsR, divOk, modOk, fInt, fLen, tupD, lstD, sliceD, enumR, zipR, rowD, enumD, zipD, rg2, rg3, rg4, rg5, e2, f2, hrs]
    refine Ok.seq (.of s3 ⟨rfl, ?_⟩)
    refine Ok.seq ?_
    by_cases h : r3 = 0
    · subst h
      refine .of (a := .nx) (ρ := [.c 9 k3.d, .c 0 (sq4 pxa pxb pxc pxd pxe pxf pxg pxh pxi pxj pxk pxl pxm pxn pxo pxp), .c 8 (sq4 (17 - pwa) (17 - pwb) (17 - pwc) (17 - pwd) (17 - pwe) (17 - pwf) (17 - pwg) (17 - pwh) (17 - pwi) (17 - pwj) (17 - pwk) (17 - pwl) (17 - pwm) (17 - pwn) (17 - pwo) (17 - pwp)), .c 0 row, .u, .u, .u, .u]) ?_ ⟨rfl, ?_⟩
      · have hc : asB (sop oEq (two (asAr (callG F__law_draw [0] [0, 1] 2 0 (consAr (vwOk 0) (consAr (asAr (kc (.int 3))) (noAr))) (noAr))) (asAr (kc (.int 0))))) [.c 9 k2.d, .c 0 (sq4 pxa pxb pxc pxd pxe pxf pxg pxh pxi pxj pxk pxl pxm pxn pxo pxp), .c 8 (sq4 pwa pwb pwc pwd pwe pwf pwg pwh pwi pwj pwk pwl pwm pwn pwo pwp), .c 0 row, .u, .u, .u, .u] = .ok true [.c 9 k3.d, .c 0 (sq4 pxa pxb pxc pxd pxe pxf pxg pxh pxi pxj pxk pxl pxm pxn pxo pxp), .c 8 (sq4 pwa pwb pwc pwd pwe pwf pwg pwh pwi pwj pwk pwl pwm pwn pwo pwp), .c 0 row, .u, .u, .u, .u] := by
          simp [lineN, gets, Ar.get, oI2, oB2, oSub, oMod, oDiv, oPow, oI2c, oLt, oLe, oGt, oGe, o1, addD, mulD, idxO, idxD, subI, viewI, keyOfD, lookK, setK, lvl, up, pickL, takeA, backA, wipeC, backC, lv, rangeD, rgOk, partsR, divOk, modOk, fInt, fLen, tupD, lstD, sliceD, enumR, zipR, rowD, enumD, zipD, rg2, rg3, rg4, rg5, e3, f3, oEq, eqD]
        rw [ap_sIf, hc, bindR_ok, if_pos rfl]
        exact s4
      · refine .of (a := .rt (8, sq4 (17 - pwa) (17 - pwb) (17 - pwc) (17 - pwd) (17 - pwe) (17 - pwf) (17 - pwg) (17 - pwh) (17 - pwi) (17 - pwj) (17 - pwk) (17 - pwl) (17 - pwm) (17 - pwn) (17 - pwo) (17 - pwp))) (ρ := [.c 9 k3.d, .c 0 (sq4 pxa pxb pxc pxd pxe pxf pxg pxh pxi pxj pxk pxl pxm pxn pxo pxp), .u, .c 0 row, .u, .u, .u, .u]) (by simp [lineN, gets, Ar.get, oI2, oB2, oSub, oMod, oDiv, oPow, oI2c, oLt, oLe, oGt, oGe, o1, addD, mulD, idxO, idxD, subI, viewI, keyOfD, lookK, setK, lvl, up, pickL, takeA, backA, wipeC, backC, lv, rangeD, rgOk, partsR, divOk, modOk, fInt, fLen, tupD, lstD, sliceD, enumR, zipR, rowD, enumD, zipD, rg2, rg3, rg4, rg5]) ⟨8, _, _, _, _, _, _, _, _, _, _, _, _, _, _, _, _, rfl, rfl, ?_⟩
        exact even_back E2
    · refine .of (a := .nx) (ρ := [.c 9 k3.d, .c 0 (sq4 pxa pxb pxc pxd pxe pxf pxg pxh pxi pxj pxk pxl pxm pxn pxo pxp), .c 8 (sq4 pwa pwb pwc pwd pwe pwf pwg pwh pwi pwj pwk pwl pwm pwn pwo pwp), .c 0 row, .u, .u, .u, .u]) ?_ ⟨rfl, ?_⟩
      · have hc : asB (sop oEq (two (asAr (callG F__law_draw [0] [0, 1] 2 0 (consAr (vwOk 0) (consAr (asAr (kc (.int 3))) (noAr))) (noAr))) (asAr (kc (.int 0))))) [.c 9 k2.d, .c 0 (sq4 pxa pxb pxc pxd pxe pxf pxg pxh pxi pxj pxk pxl pxm pxn pxo pxp), .c 8 (sq4 pwa pwb pwc pwd pwe pwf pwg pwh pwi pwj pwk pwl pwm pwn pwo pwp), .c 0 row, .u, .u, .u, .u] = .ok false [.c 9 k3.d, .c 0 (sq4 pxa pxb pxc pxd pxe pxf pxg pxh pxi pxj pxk pxl pxm pxn pxo pxp), .c 8 (sq4 pwa pwb pwc pwd pwe pwf pwg pwh pwi pwj pwk pwl pwm pwn pwo pwp), .c 0 row, .u, .u, .u, .u] := by
          simp [lineN, gets, Ar.get, oI2, oB2, oSub, oMod, oDiv, oPow, oI2c, oLt, oLe, oGt, oGe, o1, addD, mulD, idxO, idxD, subI, viewI, keyOfD, lookK, setK, lvl, up, pickL, takeA, backA, wipeC, backC, lv, rangeD, rgOk, partsR, divOk, modOk, fInt, fLen, tupD, lstD, sliceD, enumR, zipR, rowD, enumD, zipD, rg2, rg3, rg4, rg5, e3, f3, oEq, eqD, h]
        rw [ap_sIf, hc, bindR_ok, if_neg Bool.false_ne_true]
        rfl
      · refine .of (a := .rt (8, sq4 pwa pwb pwc pwd pwe pwf pwg pwh pwi pwj pwk pwl pwm pwn pwo pwp)) (ρ := [.c 9 k3.d, .c 0 (sq4 pxa pxb pxc pxd pxe pxf pxg pxh pxi pxj pxk pxl pxm pxn pxo pxp), .u, .c 0 row, .u, .u, .u, .u]) (by simp [lineN, gets, Ar.get, oI2, oB2, oSub, oMod, oDiv, oPow, oI2c, oLt, oLe, oGt, oGe, o1, addD, mulD, idxO, idxD, subI, viewI, keyOfD, lookK, setK, lvl, up, pickL, takeA, backA, wipeC, backC, lv, rangeD, rgOk, partsR, divOk, modOk, fInt, fLen, tupD, lstD, sliceD, enumR, zipR, rowD, enumD, zipD, rg2, rg3, rg4, rg5]) ⟨8, _, _, _, _, _, _, _, _, _, _, _, _, _, _, _, _, rfl, rfl, ?_⟩
        exact even_more E2
  obtain ⟨o, ρ, eo, kz, pya, pyb, pyc, pyd, pye, pyf, pyg, pyh, pyi, pyj, pyk, pyl, pym, pyn, pyo, pyp, rfl, h1, h2⟩ := key.get
  exact ⟨kz, ρ, k3, pya, pyb, pyc, pyd, pye, pyf, pyg, pyh, pyi, pyj, pyk, pyl, pym, pyn, pyo, pyp, by simp [lineN, gets, Ar.get, oI2, oB2, oSub, oMod, oDiv, oPow, oI2c, oLt, oLe, oGt, oGe, o1, addD, mulD, idxO, idxD, subI, viewI, keyOfD, lookK, setK, lvl, up, pickL, takeA, backA, wipeC, backC, lv, rangeD, rgOk, partsR, divOk, modOk, fInt, fLen, tupD, lstD, sliceD, enumR, zipR, rowD, enumD, zipD, rg2, rg3, rg4, rg5, F__law_mixed_four, fnRun, eo], h1, h2⟩

end Lk18
set_option Elab.async false
set_option linter.all false
set_option maxRecDepth 100000
set_option maxHeartbeats 1000000
namespace Lk18
open PySem PySem.Spec PyProof.Rows L2 Vs
/-- a plain even square of four rows, drawn -/
theorem plain_four (k : Dk) : ∃ (kz : Nat) (ρ : Rho) (k' : Dk) (a b c d e f g h i j l m n o p q : Int), F__law_plain_four [(9, k.d)] = .ok (kz, sq4 a b c d e f g h i j l m n o p q) ρ ∧ ρ[0]? = some (.c 9 k'.d) ∧ Even4 200 34 a b c d e f g h i j l m n o p q := by
  obtain ⟨x, k1, ρ1, hx, e1, f1⟩ := pick_tup k 0 [sq4 16 3 2 13 5 10 11 8 9 6 7 12 4 15 14 1, sq4 1 15 14 4 12 6 7 9 8 10 11 5 13 3 2 16, sq4 1 8 13 12 14 11 2 7 4 5 16 9 15 10 3 6] (by decide) (by decide) (by simp)
  have hm : ∃ a b c d e f g h i j l m n o p q : Int, x = sq4 a b c d e f g h i j l m n o p q ∧ Even4 100 34 a b c d e f g h i j l m n o p q := by
    simp only [List.mem_cons, List.not_mem_nil, or_false] at hx
    unfold Even4 Bd
    rcases hx with rfl | rfl | rfl
    · exact ⟨_, _, _, _, _, _, _, _, _, _, _, _, _, _, _, _, rfl, by decide⟩
    · exact ⟨_, _, _, _, _, _, _, _, _, _, _, _, _, _, _, _, rfl, by decide⟩
    · exact ⟨_, _, _, _, _, _, _, _, _, _, _, _, _, _, _, _, rfl, by decide⟩
  obtain ⟨a, b, c, d, e, f, g, h, i, j, l, m, n, o, p, q, rfl, E⟩ := hm
  obtain ⟨kz, ρz, k2, a', b', c', d', e', f', g', h', i', j', l', m', n', o', p', q', e2, f2, E2⟩ := mixed_four k1 0 _ _ _ _ _ _ _ _ _ _ _ _ _ _ _ _ E
  refine ⟨kz, [.c 9 k2.d, .c 0 (.lst [sq4 16 3 2 13 5 10 11 8 9 6 7 12 4 15 14 1, sq4 1 15 14 4 12 6 7 9 8 10 11 5 13 3 2 16, sq4 1 8 13 12 14 11 2 7 4 5 16 9 15 10 3 6])], k2, a', b', c', d', e', f', g', h', i', j', l', m', n', o', p', q', ?_, rfl, E2⟩
  simp [lineN, gets, Ar.get, oI2, oB2, oSub, oMod, oDiv, oPow, oI2c, oLt, oLe, oGt, oGe, o1, addD, mulD, idxO, idxD, subI, viewI, keyOfD, lookK, setK, lvl, up, pickL, takeA, backA, wipeC, backC, lv, rangeD, rgOk, partsR, divOk, modOk, fInt, fLen, tupD, lstD, sliceD, enumR, zipR, rowD, enumD, zipD, rg2, rg3, rg4, rg5, F__law_plain_four, fnRun, m__law_plain_four, moAppend, e1, f1, e2, f2]
end Lk18
set_option Elab.async false
set_option linter.all false
set_option maxRecDepth 100000
set_option maxHeartbeats 4000000
namespace Lk18
open PySem PySem.Spec PyProof.Rows L2 Vs
abbrev m4 (a b c d e f g h i j k l m n o p : Int) : D := .lst [.lst [.int a, .int b, .int c, .int d], .lst [.int e, .int f, .int g, .int h], .lst [.int i, .int j, .int k, .int l], .lst [.int m, .int n, .int o, .int p]]
abbrev ords : List D := [r4 0 2 3 1, r4 0 3 1 2, r4 1 3 2 0, r4 1 2 0 3, r4 2 0 1 3, r4 2 1 3 0, r4 3 1 0 2, r4 3 0 2 1]
def addOrd : M Out := (sFor (enumM (consV (rd 4) (noVs))) (gR 2 (gsC (gN 6) (gsC (gN 7) (gsN)))) (sAsg (opV addD (altM (rdP (plX (plX (plN 3) (qN 6)) (qN 7))) (opV idxO (subN 3 (rd 6)) (rd 7))) (rd 5)) (gAt (plX (plN 3) (qN 6)) (qN 7))))
theorem add_ok (x : D) (hx : x ∈ ords) (most t B S a b c d e f g h i j k l m n o p : Int) (E : Even4 B S a b c d e f g h i j k l m n o p) (t0 : -most ≤ t) (t1 : t ≤ most) : ∃ a' b' c' d' e' f' g' h' i' j' k' l' m' n' o' p' : Int, (∀ x0 x1 x2 kx c6 c7, ∃ c4 c5 c8, addOrd [x0, x1, x2, .c 9 (m4 a b c d e f g h i j k l m n o p), .c kx x, .c 9 (.int t), c6, c7, .u, .u, .u, .u, .u, .u] = .ok .nx [x0, x1, x2, .c 9 (m4 a' b' c' d' e' f' g' h' i' j' k' l' m' n' o' p'), c4, .c 9 (.int t), c5, c8, .u, .u, .u, .u, .u, .u]) ∧ Even4 (B + most) (S + t) a' b' c' d' e' f' g' h' i' j' k' l' m' n' o' p' := by
  simp only [List.mem_cons, List.not_mem_nil, or_false] at hx
  have wid : ∀ z, Bd B z → Bd (B + most) z := fun z hz => by unfold Bd at *; omega
  have wid2 : ∀ z, Bd B z → Bd (B + most) (z + t) := fun z hz => by unfold Bd at *; omega
  obtain ⟨z0, z1, z2, z3, z4, z5, z6, z7, z8, z9, ba, bb, bc, bd, be, bf, bg, bh, bi, bj, bk, bl, bm, bn, bo, bp⟩ := E
  rcases hx with rfl | rfl | rfl | rfl | rfl | rfl | rfl | rfl
  · exact ⟨a + t, b, c, d, e, f, g + t, h, i, j, k, l + t, m, n + t, o, p, fun x0 x1 x2 kx c6 c7 => ⟨.c 0 (r4 0 2 3 1), .c 9 (.int 3), .c 9 (.int 1), by kernel_rfl⟩, by omega, by omega, by omega, by omega, by omega, by omega, by omega, by omega, by omega, by omega, wid2 _ ba, wid _ bb, wid _ bc, wid _ bd, wid _ be, wid _ bf, wid2 _ bg, wid _ bh, wid _ bi, wid _ bj, wid _ bk, wid2 _ bl, wid _ bm, wid2 _ bn, wid _ bo, wid _ bp⟩
  · exact ⟨a + t, b, c, d, e, f, g, h + t, i, j + t, k, l, m, n, o + t, p, fun x0 x1 x2 kx c6 c7 => ⟨.c 0 (r4 0 3 1 2), .c 9 (.int 3), .c 9 (.int 2), by kernel_rfl⟩, by omega, by omega, by omega, by omega, by omega, by omega, by omega, by omega, by omega, by omega, wid2 _ ba, wid _ bb, wid _ bc, wid _ bd, wid _ be, wid _ bf, wid _ bg, wid2 _ bh, wid _ bi, wid2 _ bj, wid _ bk, wid _ bl, wid _ bm, wid _ bn, wid2 _ bo, wid _ bp⟩
  · exact ⟨a, b + t, c, d, e, f, g, h + t, i, j, k + t, l, m + t, n, o, p, fun x0 x1 x2 kx c6 c7 => ⟨.c 0 (r4 1 3 2 0), .c 9 (.int 3), .c 9 (.int 0), by kernel_rfl⟩, by omega, by omega, by omega, by omega, by omega, by omega, by omega, by omega, by omega, by omega, wid _ ba, wid2 _ bb, wid _ bc, wid _ bd, wid _ be, wid _ bf, wid _ bg, wid2 _ bh, wid _ bi, wid _ bj, wid2 _ bk, wid _ bl, wid2 _ bm, wid _ bn, wid _ bo, wid _ bp⟩
  · exact ⟨a, b + t, c, d, e, f, g + t, h, i + t, j, k, l, m, n, o, p + t, fun x0 x1 x2 kx c6 c7 => ⟨.c 0 (r4 1 2 0 3), .c 9 (.int 3), .c 9 (.int 3), by kernel_rfl⟩, by omega, by omega, by omega, by omega, by omega, by omega, by omega, by omega, by omega, by omega, wid _ ba, wid2 _ bb, wid _ bc, wid _ bd, wid _ be, wid _ bf, wid2 _ bg, wid _ bh, wid2 _ bi, wid _ bj, wid _ bk, wid _ bl, wid _ bm, wid _ bn, wid _ bo, wid2 _ bp⟩
  · exact ⟨a, b, c + t, d, e + t, f, g, h, i, j + t, k, l, m, n, o, p + t, fun x0 x1 x2 kx c6 c7 => ⟨.c 0 (r4 2 0 1 3), .c 9 (.int 3), .c 9 (.int 3), by kernel_rfl⟩, by omega, by omega, by omega, by omega, by omega, by omega, by omega, by omega, by omega, by omega, wid _ ba, wid _ bb, wid2 _ bc, wid _ bd, wid2 _ be, wid _ bf, wid _ bg, wid _ bh, wid _ bi, wid2 _ bj, wid _ bk, wid _ bl, wid _ bm, wid _ bn, wid _ bo, wid2 _ bp⟩
  · exact ⟨a, b, c + t, d, e, f + t, g, h, i, j, k, l + t, m + t, n, o, p, fun x0 x1 x2 kx c6 c7 => ⟨.c 0 (r4 2 1 3 0), .c 9 (.int 3), .c 9 (.int 0), by kernel_rfl⟩, by omega, by omega, by omega, by omega, by omega, by omega, by omega, by omega, by omega, by omega, wid _ ba, wid _ bb, wid2 _ bc, wid _ bd, wid _ be, wid2 _ bf, wid _ bg, wid _ bh, wid _ bi, wid _ bj, wid _ bk, wid2 _ bl, wid2 _ bm, wid _ bn, wid _ bo, wid _ bp⟩
  · exact ⟨a, b, c, d + t, e, f + t, g, h, i + t, j, k, l, m, n, o + t, p, fun x0 x1 x2 kx c6 c7 => ⟨.c 0 (r4 3 1 0 2), .c 9 (.int 3), .c 9 (.int 2), by kernel_rfl⟩, by omega, by omega, by omega, by omega, by omega, by omega, by omega, by omega, by omega, by omega, wid _ ba, wid _ bb, wid _ bc, wid2 _ bd, wid _ be, wid2 _ bf, wid _ bg, wid _ bh, wid2 _ bi, wid _ bj, wid _ bk, wid _ bl, wid _ bm, wid _ bn, wid2 _ bo, wid _ bp⟩
  · exact ⟨a, b, c, d + t, e + t, f, g, h, i, j, k + t, l, m, n + t, o, p, fun x0 x1 x2 kx c6 c7 => ⟨.c 0 (r4 3 0 2 1), .c 9 (.int 3), .c 9 (.int 1), by kernel_rfl⟩, by omega, by omega, by omega, by omega, by omega, by omega, by omega, by omega, by omega, by omega, wid _ ba, wid _ bb, wid _ bc, wid2 _ bd, wid2 _ be, wid _ bf, wid _ bg, wid _ bh, wid _ bi, wid _ bj, wid2 _ bk, wid _ bl, wid _ bm, wid2 _ bn, wid _ bo, wid _ bp⟩
end Lk18
set_option Elab.async false
set_option linter.all false
set_option maxRecDepth 100000
set_option maxHeartbeats 400000
namespace Lk18
open PySem PySem.Spec PyProof.Rows L2 Vs
theorem middle_ok (kl : Nat) (a b c d e f g h i : Int) : vl (F_middle_thrice [(kl, sq3 a b c d e f g h i)]) = some (.int (3 * e)) := by kernel_rfl
theorem lots_ok (kl : Nat) (a b c d e f g h i j k l m n o p : Int) : vl (F_four_lots [(kl, sq4 a b c d e f g h i j k l m n o p)]) = some (.tup [.int (a + d + m + p), .int (f + g + j + k), .int (b + c + n + o), .int (e + i + h + l)]) := by kernel_rfl
def fin4 : M Out := (sRet (op1 tupD (comp [10, 11] (zipM (consV (rd 3) (consV (rd 8) (noVs)))) (gR 2 (gsC (gN 10) (gsC (gN 11) (gsN)))) (M.ret true) (op1 tupD (comp [12, 13] (zipM (consV (rd 10) (consV (rd 11) (noVs)))) (gR 2 (gsC (gN 12) (gsC (gN 13) (gsN)))) (M.ret true) (opV addD (rd 12) (opV mulD (rd 9) (rd 13))))))))
/-- the last row of an even four -/
theorem fin_ok (more : Int) (h0 : -4 ≤ more) (h1 : more ≤ 4) (ks : Nat) (x0 x1 x2 c4 c5 c6 c7 : Cell) (a b c d e f g h i j k l m n o p a' b' c' d' e' f' g' h' i' j' k' l' m' n' o' p' : Int) :
    ∃ kz ρ, fin4 [x0, x1, x2, .c 9 (m4 a b c d e f g h i j k l m n o p), c4, c5, c6, c7, .c ks (sq4 a' b' c' d' e' f' g' h' i' j' k' l' m' n' o' p'), .c 9 (.int more), .u, .u, .u, .u] = .ok (.rt (kz, sq4 (a + more * a') (b + more * b') (c + more * c') (d + more * d') (e + more * e') (f + more * f') (g + more * g') (h + more * h') (i + more * i') (j + more * j') (k + more * k') (l + more * l') (m + more * m') (n + more * n') (o + more * o') (p + more * p'))) (x0 :: ρ) := by
  refine ⟨8, [x1, x2, .c 0 (m4 a b c d e f g h i j k l m n o p), c4, c5, c6, c7, .c 0 (sq4 a' b' c' d' e' f' g' h' i' j' k' l' m' n' o' p'), .c 9 (.int more), .u, .u, .u, .u], ?_⟩
  have hm : more = -4 ∨ more = -3 ∨ more = -2 ∨ more = -1 ∨ more = 0 ∨ more = 1 ∨ more = 2 ∨ more = 3 ∨ more = 4 := by omega
  rcases hm with rfl | rfl | rfl | rfl | rfl | rfl | rfl | rfl | rfl <;> kernel_rfl
theorem even4_mul {B S s more a b c d e f g h i j k l m n o p a' b' c' d' e' f' g' h' i' j' k' l' m' n' o' p' : Int} (h0 : -4 ≤ more) (h1 : more ≤ 4) (E : Even4 B S a b c d e f g h i j k l m n o p) (E' : Even4 200 s a' b' c' d' e' f' g' h' i' j' k' l' m' n' o' p') : Even4 (B + 800) (S + more * s) (a + more * a') (b + more * b') (c + more * c') (d + more * d') (e + more * e') (f + more * f') (g + more * g') (h + more * h') (i + more * i') (j + more * j') (k + more * k') (l + more * l') (m + more * m') (n + more * n') (o + more * o') (p + more * p') := by
  have wid : ∀ z y, Bd B z → Bd 200 y → Bd (B + 800) (z + more * y) := by
    intro z y hz hy
    have hm : more = -4 ∨ more = -3 ∨ more = -2 ∨ more = -1 ∨ more = 0 ∨ more = 1 ∨ more = 2 ∨ more = 3 ∨ more = 4 := by omega
    unfold Bd at *
    rcases hm with rfl | rfl | rfl | rfl | rfl | rfl | rfl | rfl | rfl <;> omega
  have sm : ∀ u v x y u' v' x' y' : Int, u + v + x + y = S → u' + v' + x' + y' = s → u + more * u' + (v + more * v') + (x + more * x') + (y + more * y') = S + more * s := by
    intro u v x y u' v' x' y' hs hs'
    rw [← hs, ← hs', Int.mul_add, Int.mul_add, Int.mul_add]
    omega
  obtain ⟨z0, z1, z2, z3, z4, z5, z6, z7, z8, z9, ba, bb, bc, bd, be, bf, bg, bh, bi, bj, bk, bl, bm, bn, bo, bp⟩ := E
  obtain ⟨y0, y1, y2, y3, y4, y5, y6, y7, y8, y9, ca, cb, cc, cd, ce, cf, cg, ch, ci, cj, ck, cl, cm, cn, co, cp⟩ := E'
  exact ⟨sm _ _ _ _ _ _ _ _ z0 y0, sm _ _ _ _ _ _ _ _ z1 y1, sm _ _ _ _ _ _ _ _ z2 y2, sm _ _ _ _ _ _ _ _ z3 y3, sm _ _ _ _ _ _ _ _ z4 y4, sm _ _ _ _ _ _ _ _ z5 y5, sm _ _ _ _ _ _ _ _ z6 y6, sm _ _ _ _ _ _ _ _ z7 y7, sm _ _ _ _ _ _ _ _ z8 y8, sm _ _ _ _ _ _ _ _ z9 y9, wid _ _ ba ca, wid _ _ bb cb, wid _ _ bc cc, wid _ _ bd cd, wid _ _ be ce, wid _ _ bf cf, wid _ _ bg cg, wid _ _ bh ch, wid _ _ bi ci, wid _ _ bj cj, wid _ _ bk ck, wid _ _ bl cl, wid _ _ bm cm, wid _ _ bn cn, wid _ _ bo co, wid _ _ bp cp⟩
theorem even4_zero : Even4 1 0 0 0 0 0 0 0 0 0 0 0 0 0 0 0 0 0 := by
  unfold Even4 Bd
  decide
theorem even4_wid {B C S a b c d e f g h i j k l m n o p : Int} (hb : B ≤ C) (E : Even4 B S a b c d e f g h i j k l m n o p) : Even4 C S a b c d e f g h i j k l m n o p := by
  have wid : ∀ z, Bd B z → Bd C z := fun z hz => by unfold Bd at *; omega
  obtain ⟨z0, z1, z2, z3, z4, z5, z6, z7, z8, z9, ba, bb, bc, bd, be, bf, bg, bh, bi, bj, bk, bl, bm, bn, bo, bp⟩ := E
  exact ⟨z0, z1, z2, z3, z4, z5, z6, z7, z8, z9, wid _ ba, wid _ bb, wid _ bc, wid _ bd, wid _ be, wid _ bf, wid _ bg, wid _ bh, wid _ bi, wid _ bj, wid _ bk, wid _ bl, wid _ bm, wid _ bn, wid _ bo, wid _ bp⟩
def loop4 : M Out := (sFor (seqM (rd 2)) (gN 4) (sSeq (sAsg (sop oSub (two (asAr (callG F__law_draw [0] [0, 1] 2 0 (consAr (vwOk 0) (consAr (asAr (opV addD (opV mulD (kc (.int 2)) (rd 1)) (kc (.int 1)))) (noAr))) (noAr))) (vwOk 1))) (gN 5)) addOrd))
def Sq (most : Int) (i : Nat) (ρ : Rho) : Prop := ∃ (k : Dk) (c4 c5 c6 c7 : Cell) (B S a b c d e f g h i' j k' l m n o p : Int), B = 1 + i * most ∧ ρ = [.c 9 k.d, .c 9 (.int most), .c 0 (.lst ords), .c 9 (m4 a b c d e f g h i' j k' l m n o p), c4, c5, c6, c7, .u, .u, .u, .u, .u, .u] ∧ Even4 B S a b c d e f g h i' j k' l m n o p
theorem loop_ok (k : Dk) (most : Int) (h0 : 0 ≤ most) (h1 : most < 2 ^ 150) : Ok (loop4 [.c 9 k.d, .c 9 (.int most), .c 1 (.lst ords), .c 9 (m4 0 0 0 0 0 0 0 0 0 0 0 0 0 0 0 0), .u, .u, .u, .u, .u, .u, .u, .u, .u, .u]) fun o ρ => o = .nx ∧ Sq most 8 ρ := by
  unfold loop4 sFor
  refine Ok.bind (.of (a := ords) (ρ := [.c 9 k.d, .c 9 (.int most), .c 0 (.lst ords), .c 9 (m4 0 0 0 0 0 0 0 0 0 0 0 0 0 0 0 0), .u, .u, .u, .u, .u, .u, .u, .u, .u, .u]) (by kernel_rfl) ?_)
  refine forL_ix (i := 0) (I := Sq most) ?_ ⟨k, .u, .u, .u, .u, 1, 0, 0, 0, 0, 0, 0, 0, 0, 0, 0, 0, 0, 0, 0, 0, 0, 0, by simp, rfl, even4_zero⟩
  rintro i x ρ _ hd ⟨k, c4, c5, c6, c7, B, S, a, b, c, d, e, f, g, h, i', j, k', l, m, n, o, p, hB, rfl, E⟩
  have hx := List.mem_of_getElem? hd
  obtain ⟨r1, k1, ρ1, e1, f1, b1, d1⟩ := draw_eq k (2 * most + 1) (by omega)
  have q1 : 0 ≤ r1 ∧ r1 ≤ 2 * most := by omega
  obtain ⟨a', b', c', d', e', f', g', h', i2, j', k2, l', m', n', o', p', hadd, E'⟩ := add_ok x hx most (r1 - most) B S _ _ _ _ _ _ _ _ _ _ _ _ _ _ _ _ E (by omega) (by omega)
  refine ⟨_, rfl, ?_⟩
  refine Ok.seq (.of (a := .nx) (ρ := [.c 9 k1.d, .c 9 (.int most), .c 0 (.lst ords), .c 9 (m4 a b c d e f g h i' j k' l m n o p), .c (lv x) x, .c 9 (.int (r1 - most)), c6, c7, .u, .u, .u, .u, .u, .u]) ?_ ⟨rfl, ?_⟩)
  · simp [lineN, gets, Ar.get, oI2, oB2, oSub, oMod, oDiv, oPow, oI2c, oLt, oLe, oGt, oGe, o1, addD, mulD, idxO, idxD, subI, viewI, keyOfD, lookK, setK, lvl, up, pickL, takeA, backA, wipeC, backC, lv, rangeD, rgOk, partsR, divOk, modOk, fInt, fLen, tupD, lstD, sliceD, enumR, zipR, rowD, enumD, zipD, rg2, rg3, rg4, rg5, e1, f1]
  · obtain ⟨c4', c5', c8', ha⟩ := hadd (.c 9 k1.d) (.c 9 (.int most)) (.c 0 (.lst ords)) (lv x) c6 c7
    refine .of ha ⟨.inl rfl, k1, c4', _, c5', c8', B + most, _, _, _, _, _, _, _, _, _, _, _, _, _, _, _, _, _, ?_, rfl, E'⟩
    subst hB
    rw [Int.natCast_add, Int.add_mul]
    simp
    omega
end Lk18
set_option Elab.async false
set_option linter.all false
set_option maxRecDepth 100000
set_option maxHeartbeats 400000
namespace Lk18
open PySem PySem.Spec PyProof.Rows L2 Vs
theorem even_four (k : Dk) (most : Int) (h0 : 0 ≤ most) (h1 : most < 2 ^ 150) : ∃ (kz : Nat) (ρ : Rho) (k' : Dk) (S a b c d e f g h i j l m n o p q : Int), F__law_even_four [(9, k.d), (9, .int most)] = .ok (kz, sq4 a b c d e f g h i j l m n o p q) ρ ∧ ρ[0]? = some (.c 9 k'.d) ∧ Even4 (2 ^ 300) S a b c d e f g h i j l m n o p q := by
  have key : Ok (m__law_even_four [.c 9 k.d, .c 9 (.int most), .u, .u, .u, .u, .u, .u, .u, .u, .u, .u, .u, .u]) fun o ρ => ∃ (kz : Nat) (k' : Dk) (S a b c d e f g h i j l m n o' p q : Int), o = .rt (kz, sq4 a b c d e f g h i j l m n o' p q) ∧ ρ[0]? = some (.c 9 k'.d) ∧ Even4 (2 ^ 300) S a b c d e f g h i j l m n o' p q := by
    unfold m__law_even_four
    refine seqE (ρ' := [.c 9 k.d, .c 9 (.int most), .c 9 (.lst (ords.take 6)), .u, .u, .u, .u, .u, .u, .u, .u, .u, .u, .u]) ?_ ?_
    · kernel_rfl
    refine seqE (ρ' := [.c 9 k.d, .c 9 (.int most), .c 1 (.lst ords), .u, .u, .u, .u, .u, .u, .u, .u, .u, .u, .u]) ?_ ?_
    · kernel_rfl
    refine seqE (ρ' := [.c 9 k.d, .c 9 (.int most), .c 1 (.lst ords), .c 9 (m4 0 0 0 0 0 0 0 0 0 0 0 0 0 0 0 0), .u, .u, .u, .u, .u, .u, .u, .u, .u, .u]) ?_ ?_
    · kernel_rfl
    refine Ok.seq (Ok.imp (loop_ok k most h0 h1) fun o ρ ⟨ho, hS⟩ => ⟨ho, ?_⟩)
    obtain ⟨k, c4, c5, c6, c7, B, S, a, b, c, d, e, f, g, h, i', j, k', l, m, n, o, p, hB, rfl, E⟩ := hS
    obtain ⟨kz, ρ1, k1, a', b', c', d', e', f', g', h', i2, j', k2, l', m', n', o', p', e1, f1, E1⟩ := plain_four k
    obtain ⟨r, k3, ρ2, e2, f2, b2, _⟩ := draw_eq k1 9 (by decide)
    obtain ⟨b3, b4⟩ := b2 (by decide)
    refine seqE (ρ' := [.c 9 k3.d, .c 9 (.int most), .c 0 (.lst ords), .c 9 (m4 a b c d e f g h i' j k' l m n o p), c4, c5, c6, c7, .c (min kz 9) (sq4 a' b' c' d' e' f' g' h' i2 j' k2 l' m' n' o' p'), .c 9 (.int (r - 4)), .u, .u, .u, .u]) ?_ ?_
    · simp [lineN, gets, Ar.get, oI2, oB2, oSub, oMod, oDiv, oPow, oI2c, oLt, oLe, oGt, oGe, o1, addD, mulD, idxO, idxD, subI, viewI, keyOfD, lookK, setK, lvl, up, pickL, takeA, backA, wipeC, backC, lv, rangeD, rgOk, partsR, divOk, modOk, fInt, fLen, tupD, lstD, sliceD, enumR, zipR, rowD, enumD, zipD, rg2, rg3, rg4, rg5, e1, f1, e2, f2]
    · obtain ⟨kz, ρ3, e3⟩ := fin_ok (r - 4) (by omega) (by omega) (min kz 9) (.c 9 k3.d) (.c 9 (.int most)) (.c 0 (.lst ords)) c4 c5 c6 c7 a b c d e f g h i' j k' l m n o p a' b' c' d' e' f' g' h' i2 j' k2 l' m' n' o' p'
      refine Ok.of e3 ⟨kz, k3, _, _, _, _, _, _, _, _, _, _, _, _, _, _, _, _, _, rfl, rfl, even4_wid ?_ (even4_mul (by omega) (by omega) E E1)⟩
      subst hB
      simp
      omega
  obtain ⟨o, ρ, e, kz, k', S, a, b, c, d, e', f, g, h, i, j, l, m, n, o', p, q, rfl, f1, E⟩ := key.get
  exact ⟨kz, ρ, k', S, a, b, c, d, e', f, g, h, i, j, l, m, n, o', p, q, by simp [lineN, gets, Ar.get, oI2, oB2, oSub, oMod, oDiv, oPow, oI2c, oLt, oLe, oGt, oGe, o1, addD, mulD, idxO, idxD, subI, viewI, keyOfD, lookK, setK, lvl, up, pickL, takeA, backA, wipeC, backC, lv, rangeD, rgOk, partsR, divOk, modOk, fInt, fLen, tupD, lstD, sliceD, enumR, zipR, rowD, enumD, zipD, rg2, rg3, rg4, rg5, F__law_even_four, fnRun, e], f1, E⟩
end Lk18
set_option Elab.async false
set_option linter.all false
set_option maxRecDepth 100000
set_option maxHeartbeats 1000000
set_option exponentiation.threshold 600
namespace Lk18
open PySem PySem.Spec PyProof.Rows L2 Vs
theorem shW_i {x : Int} (h : Bd (2 ^ 400) x) : x.natAbs.log2 < 1920 := by
  refine Nat.lt_trans (log2_lt (k := 400) ?_ (by decide)) (by decide)
  unfold Bd at h
  omega
theorem bdW {x : Int} (h : Bd (2 ^ 300) x) : Bd (2 ^ 400) x := by unfold Bd at *; omega
theorem rp3 {S a b c d e f g h i : Int} (E : Even3 (2 ^ 300) S a b c d e f g h i) : fRepr (sq3 a b c d e f g h i) = some (.str (shT (sq3 a b c d e f g h i))) := by
  obtain ⟨z0, z1, z2, z3, z4, z5, z6, z7, ba, bb, bc, bd, be, bf, bg, bh, bi⟩ := E
  simp [lineN, gets, Ar.get, oI2, oB2, oSub, oMod, oDiv, oPow, oI2c, oLt, oLe, oGt, oGe, o1, addD, mulD, idxO, idxD, subI, viewI, keyOfD, lookK, setK, lvl, up, pickL, takeA, backA, wipeC, backC, lv, rangeD, rgOk, partsR, divOk, modOk, fInt, fLen, tupD, lstD, sliceD, enumR, zipR, rowD, enumD, zipD, rg2, rg3, rg4, rg5, fRepr, shW, shWs, shW_i (bdW ba), shW_i (bdW bb), shW_i (bdW bc), shW_i (bdW bd), shW_i (bdW be), shW_i (bdW bf), shW_i (bdW bg), shW_i (bdW bh), shW_i (bdW bi)]
theorem rp4 {S a b c d e f g h i j k l m n o p : Int} (E : Even4 (2 ^ 300) S a b c d e f g h i j k l m n o p) : fRepr (sq4 a b c d e f g h i j k l m n o p) = some (.str (shT (sq4 a b c d e f g h i j k l m n o p))) := by
  obtain ⟨z0, z1, z2, z3, z4, z5, z6, z7, z8, z9, ba, bb, bc, bd, be, bf, bg, bh, bi, bj, bk, bl, bm, bn, bo, bp⟩ := E
  simp [lineN, gets, Ar.get, oI2, oB2, oSub, oMod, oDiv, oPow, oI2c, oLt, oLe, oGt, oGe, o1, addD, mulD, idxO, idxD, subI, viewI, keyOfD, lookK, setK, lvl, up, pickL, takeA, backA, wipeC, backC, lv, rangeD, rgOk, partsR, divOk, modOk, fInt, fLen, tupD, lstD, sliceD, enumR, zipR, rowD, enumD, zipD, rg2, rg3, rg4, rg5, fRepr, shW, shWs, shW_i (bdW ba), shW_i (bdW bb), shW_i (bdW bc), shW_i (bdW bd), shW_i (bdW be), shW_i (bdW bf), shW_i (bdW bg), shW_i (bdW bh), shW_i (bdW bi), shW_i (bdW bj), shW_i (bdW bk), shW_i (bdW bl), shW_i (bdW bm), shW_i (bdW bn), shW_i (bdW bo), shW_i (bdW bp)]
theorem rp2 {S : Int} (h : Bd (2 ^ 400) S) : fRepr (.lst [.int S, .int S]) = some (.str (shT (.lst [.int S, .int S]))) := by
  simp [lineN, gets, Ar.get, oI2, oB2, oSub, oMod, oDiv, oPow, oI2c, oLt, oLe, oGt, oGe, o1, addD, mulD, idxO, idxD, subI, viewI, keyOfD, lookK, setK, lvl, up, pickL, takeA, backA, wipeC, backC, lv, rangeD, rgOk, partsR, divOk, modOk, fInt, fLen, tupD, lstD, sliceD, enumR, zipR, rowD, enumD, zipD, rg2, rg3, rg4, rg5, fRepr, shW, shWs, shW_i h]
theorem rp44 {S : Int} (h : Bd (2 ^ 400) S) : fRepr (.lst [r4 S S S S, r4 S S S S]) = some (.str (shT (.lst [r4 S S S S, r4 S S S S]))) := by
  simp [lineN, gets, Ar.get, oI2, oB2, oSub, oMod, oDiv, oPow, oI2c, oLt, oLe, oGt, oGe, o1, addD, mulD, idxO, idxD, subI, viewI, keyOfD, lookK, setK, lvl, up, pickL, takeA, backA, wipeC, backC, lv, rangeD, rgOk, partsR, divOk, modOk, fInt, fLen, tupD, lstD, sliceD, enumR, zipR, rowD, enumD, zipD, rg2, rg3, rg4, rg5, fRepr, shW, shWs, shW_i h]
theorem eq44 (S : Int) : eqD (r4 S S S S) (r4 S S S S) = some true := by
  simp [lineN, gets, Ar.get, oI2, oB2, oSub, oMod, oDiv, oPow, oI2c, oLt, oLe, oGt, oGe, o1, addD, mulD, idxO, idxD, subI, viewI, keyOfD, lookK, setK, lvl, up, pickL, takeA, backA, wipeC, backC, lv, rangeD, rgOk, partsR, divOk, modOk, fInt, fLen, tupD, lstD, sliceD, enumR, zipR, rowD, enumD, zipD, rg2, rg3, rg4, rg5, eqD, py, pys, SeqAt.shaped, PyData.canLay0, PyData.canLayAll0, PyData.depth, PyData.depthAll, PyData.eqv, PyData.eqvAll]
theorem eqI (S T : Int) : eqD (.int S) (.int T) = some (decide (S = T)) := rfl
theorem eqS (x y : Str) : eqD (.str x) (.str y) = some (decide (x = y)) := rfl
theorem numsD_int : ∀ ns : List Int, numsD (ns.map D.int) = some ns
  | [] => rfl
  | n :: ns => by simp [lineN, gets, Ar.get, oI2, oB2, oSub, oMod, oDiv, oPow, oI2c, oLt, oLe, oGt, oGe, o1, addD, mulD, idxO, idxD, subI, viewI, keyOfD, lookK, setK, lvl, up, pickL, takeA, backA, wipeC, backC, lv, rangeD, rgOk, partsR, divOk, modOk, fInt, fLen, tupD, lstD, sliceD, enumR, zipR, rowD, enumD, zipD, rg2, rg3, rg4, rg5, numsD, numsD_int ns]
theorem row_rep (n : Nat) (S : Int) : rowN (.lst ((List.replicate n S).map D.int)) = some (List.replicate n S) := by
  simp only [rowN, rowD, Option.bind, numsD_int]
theorem su8 (S : Int) : sortU (List.replicate 8 S) = [S] := sortU_rep S 7
theorem su10 (S : Int) : sortU (List.replicate 10 S) = [S] := sortU_rep S 9
end Lk18
set_option Elab.async false
set_option linter.all false
set_option maxRecDepth 100000
set_option maxHeartbeats 1000000
set_option exponentiation.threshold 600
namespace Lk18
open PySem PySem.Spec PyProof.Rows L2 Vs
def Inv (x0 : Cell) (ρ : Rho) : Prop := ∃ (k : Dk) (c2 c3 c4 c5 c6 c7 c8 c9 : Cell), ρ = [x0, .c 9 k.d, c2, c3, c4, c5, c6, c7, c8, c9]
theorem at31 (a b c : D) : atI [a, b, c] 1 = some b := rfl
theorem law_true (ns : List Int) (hl : ns.length ≤ 63) : ∃ kz ρ, F_law [scr ns] = .ok (kz, .bl true) ρ := by
  obtain ⟨k, ρd, ed⟩ := deck_ok ns hl
  have key : Ok (m_law [.c 0 (.rol (ns.map .int)), .u, .u, .u, .u, .u, .u, .u, .u, .u]) fun o ρ => o = .rt (9, .bl true) := by
    unfold m_law
    refine seqE (ρ' := [.c 0 (.rol (ns.map .int)), .c 9 k.d, .u, .u, .u, .u, .u, .u, .u, .u]) ?_ ?_
    · simp [lineN, gets, Ar.get, oI2, oB2, oSub, oMod, oDiv, oPow, oI2c, oLt, oLe, oGt, oGe, o1, addD, mulD, idxO, idxD, subI, viewI, keyOfD, lookK, setK, lvl, up, pickL, takeA, backA, wipeC, backC, lv, rangeD, rgOk, partsR, divOk, modOk, fInt, fLen, tupD, lstD, sliceD, enumR, zipR, rowD, enumD, zipD, rg2, rg3, rg4, rg5, scr] at ed
      simp [lineN, gets, Ar.get, oI2, oB2, oSub, oMod, oDiv, oPow, oI2c, oLt, oLe, oGt, oGe, o1, addD, mulD, idxO, idxD, subI, viewI, keyOfD, lookK, setK, lvl, up, pickL, takeA, backA, wipeC, backC, lv, rangeD, rgOk, partsR, divOk, modOk, fInt, fLen, tupD, lstD, sliceD, enumR, zipR, rowD, enumD, zipD, rg2, rg3, rg4, rg5, ed]
    refine Ok.seq (Ok.imp (Q := fun o ρ => o = .nx ∧ Inv (.c 0 (.rol (ns.map .int))) ρ) ?_ fun o ρ ⟨ho, hI⟩ => ⟨ho, ?_⟩)
    · unfold sFor
      refine Ok.bind (Ok.of (a := rangeD 0 5) (ρ := [.c 0 (.rol (ns.map .int)), .c 9 k.d, .u, .u, .u, .u, .u, .u, .u, .u]) (by kernel_rfl) ?_)
      refine forL_inv ?_ ⟨k, _, _, _, _, _, _, _, _, rfl⟩
      generalize (Cell.c 0 (.rol (ns.map .int))) = x0
      rintro d hd ρ ⟨k, c2, c3, c4, c5, c6, c7, c8, c9, rfl⟩
      refine ⟨_, rfl, ?_⟩
      generalize (Cell.c (lv d) d) = y2
      obtain ⟨x, k1, ρ1, hx, e1, f1⟩ := pick_lst k 9 [.int 3, .int 20, .int 1000000, .int 10000000000000000000000000000] (by decide) (by decide) (by simp)
      have hm : ∃ most : Int, x = .int most ∧ 0 ≤ most ∧ most < 2 ^ 150 := by
        simp only [List.mem_cons, List.not_mem_nil, or_false] at hx
        rcases hx with rfl | rfl | rfl | rfl
        · exact ⟨_, rfl, by decide, by decide⟩
        · exact ⟨_, rfl, by decide, by decide⟩
        · exact ⟨_, rfl, by decide, by decide⟩
        · exact ⟨_, rfl, by decide, by decide⟩
      obtain ⟨most, rfl, m0, m1⟩ := hm
      obtain ⟨kz, ρ2, k2, S, a, b, c, d, e, f, g, h, i, e2, f2, E⟩ := even_three k1 most m0 m1
      obtain ⟨kL, ρ3, e3⟩ := of_vl (lines3 0 a b c d e f g h i _ _ E)
      obtain ⟨kM, ρ4, e4⟩ := of_vl (middle_ok 0 a b c d e f g h i)
      have hS : 3 * e = S := by obtain ⟨z0, z1, z2, z3, z4, z5, z6, z7, _⟩ := E; omega
      have bS : Bd (2 ^ 400) S := by obtain ⟨z0, z1, z2, z3, z4, z5, z6, z7, ba, bb, bc, bd, be, bf, bg, bh, bi⟩ := E; unfold Bd at *; omega
      rw [hS] at e4
      obtain ⟨kz', ρ5, k3, T, a', b', c', d', e', f', g', h', i', j', l', m', n', o', p', q', e5, f5, E'⟩ := even_four k2 most m0 m1
      obtain ⟨kL', ρ6, e6⟩ := of_vl (lines4 0 a' b' c' d' e' f' g' h' i' j' l' m' n' o' p' q' _ _ E')
      obtain ⟨kM', ρ7, e7⟩ := of_vl (lots_ok 0 a' b' c' d' e' f' g' h' i' j' l' m' n' o' p' q')
      have hT : a' + d' + n' + q' = T ∧ f' + g' + j' + l' = T ∧ b' + c' + o' + p' = T ∧ e' + i' + h' + m' = T := by
        obtain ⟨z0, z1, z2, z3, z4, z5, z6, z7, z8, z9, _⟩ := E'
        refine ⟨?_, ?_, ?_, ?_⟩ <;> omega
      obtain ⟨t0, t1, t2, t3⟩ := hT
      have bT : Bd (2 ^ 400) T := by obtain ⟨z0, z1, z2, z3, z4, z5, z6, z7, z8, z9, ba, bb, bc, bd, be, bf, bg, bh, bi, bj, bk, bl, bm, bn, bo, bp⟩ := E'; unfold Bd at *; omega
      rw [t0, t1, t2, t3] at e7
      obtain ⟨L, N, hL, rL, sL, nL, aL⟩ : ∃ (L : List D) (N : List Int), L = (List.replicate 8 S).map D.int ∧ rowN (.lst L) = some N ∧ sortU N = [S] ∧ N.length ≤ 4000 ∧ atI L 0 = some (.int S) := ⟨_, _, rfl, row_rep 8 S, su8 S, by simp, rfl⟩
      obtain ⟨L', N', hL', rL', sL', nL', aL'⟩ : ∃ (L : List D) (N : List Int), L = (List.replicate 10 T).map D.int ∧ rowN (.lst L) = some N ∧ sortU N = [T] ∧ N.length ≤ 4000 ∧ atI L 0 = some (.int T) := ⟨_, _, rfl, row_rep 10 T, su10 T, by simp, rfl⟩
      rw [← hL] at e3
      rw [← hL'] at e6
      have r3' := rp3 E
      have r4' := rp4 E'
      refine seqE (ρ' := [x0, .c 9 k1.d, y2, .c 9 (.int most), c4, c5, c6, c7, c8, c9]) ?_ ?_
      · simp [lineN, gets, Ar.get, oI2, oB2, oSub, oMod, oDiv, oPow, oI2c, oLt, oLe, oGt, oGe, o1, addD, mulD, idxO, idxD, subI, viewI, keyOfD, lookK, setK, lvl, up, pickL, takeA, backA, wipeC, backC, lv, rangeD, rgOk, partsR, divOk, modOk, fInt, fLen, tupD, lstD, sliceD, enumR, zipR, rowD, enumD, zipD, rg2, rg3, rg4, rg5, e1, f1, powOk]
      refine seqE (ρ' := [x0, .c 9 k2.d, y2, .c 9 (.int most), .c kz (sq3 a b c d e f g h i), c5, c6, c7, c8, c9]) ?_ ?_
      · simp [lineN, gets, Ar.get, oI2, oB2, oSub, oMod, oDiv, oPow, oI2c, oLt, oLe, oGt, oGe, o1, addD, mulD, idxO, idxD, subI, viewI, keyOfD, lookK, setK, lvl, up, pickL, takeA, backA, wipeC, backC, lv, rangeD, rgOk, partsR, divOk, modOk, fInt, fLen, tupD, lstD, sliceD, enumR, zipR, rowD, enumD, zipD, rg2, rg3, rg4, rg5, e2, f2]
      refine seqE (ρ' := [x0, .c 9 k2.d, y2, .c 9 (.int most), .c 0 (sq3 a b c d e f g h i), .c 9 (.str (shT (sq3 a b c d e f g h i))), .c kL (.lst L), c7, c8, c9]) ?_ ?_
      · simp only [sq3, r3] at r3' e3 ⊢
        simp [lineN, gets, Ar.get, oI2, oB2, oSub, oMod, oDiv, oPow, oI2c, oLt, oLe, oGt, oGe, o1, addD, mulD, idxO, idxD, subI, viewI, keyOfD, lookK, setK, lvl, up, pickL, takeA, backA, wipeC, backC, lv, rangeD, rgOk, partsR, divOk, modOk, fInt, fLen, tupD, lstD, sliceD, enumR, zipR, rowD, enumD, zipD, rg2, rg3, rg4, rg5, r3', e3]
      refine seqE (ρ' := [x0, .c 9 k2.d, y2, .c 9 (.int most), .c 0 (sq3 a b c d e f g h i), .c 9 (.str (shT (sq3 a b c d e f g h i))), .c 0 (.lst L), c7, c8, c9]) ?_ ?_
      · simp [lineN, gets, Ar.get, oI2, oB2, oSub, oMod, oDiv, oPow, oI2c, oLt, oLe, oGt, oGe, o1, addD, mulD, idxO, idxD, subI, viewI, keyOfD, lookK, setK, lvl, up, pickL, takeA, backA, wipeC, backC, lv, rangeD, rgOk, partsR, divOk, modOk, fInt, fLen, tupD, lstD, sliceD, enumR, zipR, rowD, enumD, zipD, rg2, rg3, rg4, rg5, rL, sL, nL, oNe, eqI]
      refine seqE (ρ' := [x0, .c 9 k2.d, y2, .c 9 (.int most), .c 0 (sq3 a b c d e f g h i), .c 9 (.str (shT (sq3 a b c d e f g h i))), .c 0 (.lst L), c7, c8, c9]) ?_ ?_
      · simp only [sq3, r3] at e4 ⊢
        simp [lineN, gets, Ar.get, oI2, oB2, oSub, oMod, oDiv, oPow, oI2c, oLt, oLe, oGt, oGe, o1, addD, mulD, idxO, idxD, subI, viewI, keyOfD, lookK, setK, lvl, up, pickL, takeA, backA, wipeC, backC, lv, rangeD, rgOk, partsR, divOk, modOk, fInt, fLen, tupD, lstD, sliceD, enumR, zipR, rowD, enumD, zipD, rg2, rg3, rg4, rg5, e4, rp2 bS, aL, oNe, eqS]
      refine seqE (ρ' := [x0, .c 9 k2.d, y2, .c 9 (.int most), .c 0 (sq3 a b c d e f g h i), .c 9 (.str (shT (sq3 a b c d e f g h i))), .c 0 (.lst L), c7, c8, c9]) ?_ ?_
      · simp only [sq3, r3] at r3' ⊢
        simp [lineN, gets, Ar.get, oI2, oB2, oSub, oMod, oDiv, oPow, oI2c, oLt, oLe, oGt, oGe, o1, addD, mulD, idxO, idxD, subI, viewI, keyOfD, lookK, setK, lvl, up, pickL, takeA, backA, wipeC, backC, lv, rangeD, rgOk, partsR, divOk, modOk, fInt, fLen, tupD, lstD, sliceD, enumR, zipR, rowD, enumD, zipD, rg2, rg3, rg4, rg5, at31, r3', aL, oNe, eqI, eqS, hS]
      refine seqE (ρ' := [x0, .c 9 k3.d, y2, .c 9 (.int most), .c kz' (sq4 a' b' c' d' e' f' g' h' i' j' l' m' n' o' p' q'), .c 9 (.str (shT (sq3 a b c d e f g h i))), .c 0 (.lst L), c7, c8, c9]) ?_ ?_
      · simp [lineN, gets, Ar.get, oI2, oB2, oSub, oMod, oDiv, oPow, oI2c, oLt, oLe, oGt, oGe, o1, addD, mulD, idxO, idxD, subI, viewI, keyOfD, lookK, setK, lvl, up, pickL, takeA, backA, wipeC, backC, lv, rangeD, rgOk, partsR, divOk, modOk, fInt, fLen, tupD, lstD, sliceD, enumR, zipR, rowD, enumD, zipD, rg2, rg3, rg4, rg5, e5, f5]
      refine seqE (ρ' := [x0, .c 9 k3.d, y2, .c 9 (.int most), .c 0 (sq4 a' b' c' d' e' f' g' h' i' j' l' m' n' o' p' q'), .c 9 (.str (shT (sq4 a' b' c' d' e' f' g' h' i' j' l' m' n' o' p' q'))), .c kL' (.lst L'), c7, c8, c9]) ?_ ?_
      · simp only [sq4, r4] at r4' e6 ⊢
        simp [lineN, gets, Ar.get, oI2, oB2, oSub, oMod, oDiv, oPow, oI2c, oLt, oLe, oGt, oGe, o1, addD, mulD, idxO, idxD, subI, viewI, keyOfD, lookK, setK, lvl, up, pickL, takeA, backA, wipeC, backC, lv, rangeD, rgOk, partsR, divOk, modOk, fInt, fLen, tupD, lstD, sliceD, enumR, zipR, rowD, enumD, zipD, rg2, rg3, rg4, rg5, r4', e6]
      refine seqE (ρ' := [x0, .c 9 k3.d, y2, .c 9 (.int most), .c 0 (sq4 a' b' c' d' e' f' g' h' i' j' l' m' n' o' p' q'), .c 9 (.str (shT (sq4 a' b' c' d' e' f' g' h' i' j' l' m' n' o' p' q'))), .c kL' (.lst L'), .c 9 (.int T), c8, c9]) ?_ ?_
      · rw [← t0]
        kernel_rfl
      refine seqE (ρ' := [x0, .c 9 k3.d, y2, .c 9 (.int most), .c 0 (sq4 a' b' c' d' e' f' g' h' i' j' l' m' n' o' p' q'), .c 9 (.str (shT (sq4 a' b' c' d' e' f' g' h' i' j' l' m' n' o' p' q'))), .c kL' (.lst L'), .c 9 (.int T), .c 9 (.int T), c9]) ?_ ?_
      · have u : f' + (g' + 0) + (j' + (l' + 0)) = T := by omega
        rw [← u]
        kernel_rfl
      refine seqE (ρ' := [x0, .c 9 k3.d, y2, .c 9 (.int most), .c 0 (sq4 a' b' c' d' e' f' g' h' i' j' l' m' n' o' p' q'), .c 9 (.str (shT (sq4 a' b' c' d' e' f' g' h' i' j' l' m' n' o' p' q'))), .c kL' (.lst L'), .c 9 (.int T), .c 9 (.int T), .c 9 (.tup [.int T, .int T, .int T])]) ?_ ?_
      · have u : b' + (c' + 0) + (o' + (p' + 0)) = T := by omega
        rw [← u]
        kernel_rfl
      refine seqE (ρ' := [x0, .c 9 k3.d, y2, .c 9 (.int most), .c 0 (sq4 a' b' c' d' e' f' g' h' i' j' l' m' n' o' p' q'), .c 9 (.str (shT (sq4 a' b' c' d' e' f' g' h' i' j' l' m' n' o' p' q'))), .c kL' (.lst L'), .c 9 (.int T), .c 9 (.int T), .c 0 (r4 T T T T)]) ?_ ?_
      · rw [← t3]
        kernel_rfl
      refine seqE (ρ' := [x0, .c 9 k3.d, y2, .c 9 (.int most), .c 0 (sq4 a' b' c' d' e' f' g' h' i' j' l' m' n' o' p' q'), .c 9 (.str (shT (sq4 a' b' c' d' e' f' g' h' i' j' l' m' n' o' p' q'))), .c 0 (.lst L'), .c 9 (.int T), .c 9 (.int T), .c 0 (r4 T T T T)]) ?_ ?_
      · have eq44' := eq44 T
        simp only [sq4, r4] at eq44' ⊢
        simp [lineN, gets, Ar.get, oI2, oB2, oSub, oMod, oDiv, oPow, oI2c, oLt, oLe, oGt, oGe, o1, addD, mulD, idxO, idxD, subI, viewI, keyOfD, lookK, setK, lvl, up, pickL, takeA, backA, wipeC, backC, lv, rangeD, rgOk, partsR, divOk, modOk, fInt, fLen, tupD, lstD, sliceD, enumR, zipR, rowD, enumD, zipD, rg2, rg3, rg4, rg5, rL', sL', nL', aL', oNe, eqI, eq44']
      refine Ok.of (a := .nx) (ρ := [x0, .c 9 k3.d, y2, .c 9 (.int most), .c 0 (sq4 a' b' c' d' e' f' g' h' i' j' l' m' n' o' p' q'), .c 9 (.str (shT (sq4 a' b' c' d' e' f' g' h' i' j' l' m' n' o' p' q'))), .c 0 (.lst L'), .c 9 (.int T), .c 9 (.int T), .c 0 (r4 T T T T)]) ?_ ⟨.inl rfl, k3, _, _, _, _, _, _, _, _, rfl⟩
      have rp44' := rp44 bT
      simp only [sq4, r4] at r4' e7 rp44' ⊢
      simp [lineN, gets, Ar.get, oI2, oB2, oSub, oMod, oDiv, oPow, oI2c, oLt, oLe, oGt, oGe, o1, addD, mulD, idxO, idxD, subI, viewI, keyOfD, lookK, setK, lvl, up, pickL, takeA, backA, wipeC, backC, lv, rangeD, rgOk, partsR, divOk, modOk, fInt, fLen, tupD, lstD, sliceD, enumR, zipR, rowD, enumD, zipD, rg2, rg3, rg4, rg5, r4', e7, rp44', oNe, eqS]
    · exact Ok.of (a := .rt (9, .bl true)) (ρ := ρ) rfl rfl
  obtain ⟨o, ρ, e, rfl⟩ := key.get
  exact ⟨9, ρ, by simp [lineN, gets, Ar.get, oI2, oB2, oSub, oMod, oDiv, oPow, oI2c, oLt, oLe, oGt, oGe, o1, addD, mulD, idxO, idxD, subI, viewI, keyOfD, lookK, setK, lvl, up, pickL, takeA, backA, wipeC, backC, lv, rangeD, rgOk, partsR, divOk, modOk, fInt, fLen, tupD, lstD, sliceD, enumR, zipR, rowD, enumD, zipD, rg2, rg3, rg4, rg5, F_law, fnRun, scr, e]⟩
end Lk18
set_option maxHeartbeats 4000000
open PySem PySem.W PyProof.Rows
set_option maxRecDepth 100000 in
set_option maxHeartbeats 0 in
theorem PySem.Challenge.cw_equalsums_k18_whole_main_middles_holds : PySem.Challenge.rw_equalsums_k18_whole_main_middles.Holds := by
  w_on; o_law; k_head; (case hw => w_witness2)
  k_fill
  refine Lk18.walk (l := PySem.Challenge.rw_equalsums_k18_whole_main_middles) rfl rfl (fun w h Y => PySem.W.kIn_of Y) Lk18.law_true ?F
  case F =>
    intro w mg fa h KX G hmg
    refine' Lk18.all_mk KX G hmg ?a1 ?l1 ?c1 ?k1 ?a2 ?l2 ?c2 ?k2 ?a3 ?l3 ?c3 ?k3 ?a4 ?l4 ?c4 ?k4 ?a5 ?l5 ?c5 ?k5 ?a6 ?l6 ?c6 ?k6 ?a7 ?l7 ?c7 ?k7 ?a8 ?l8 ?c8 ?k8 ?a9 ?l9 ?c9 ?k9 ?a10 ?l10 ?c10 ?k10 ?a11 ?l11 ?c11 ?k11 ?a12 ?l12 ?c12 ?k12 ?z_abs ?z_enumerate ?z_int ?z_len ?z_range ?z_repr ?z_set ?z_sorted ?z_sum ?z_tuple ?z_zip
    (case a1 => k_is)
    (case l1 => k_is)
    (case c1 => k_is)
    (case k1 => k_is)
    (case a2 => k_is)
    (case l2 => k_is)
    (case c2 => k_is)
    (case k2 => k_is)
    (case a3 => k_is)
    (case l3 => k_is)
    (case c3 => k_is)
    (case k3 => k_is)
    (case a4 => k_is)
    (case l4 => k_is)
    (case c4 => k_is)
    (case k4 => k_is)
    (case a5 => k_is)
    (case l5 => k_is)
    (case c5 => k_is)
    (case k5 => k_is)
    (case a6 => k_is)
    (case l6 => k_is)
    (case c6 => k_is)
    (case k6 => k_is)
    (case a7 => k_is)
    (case l7 => k_is)
    (case c7 => k_is)
    (case k7 => k_is)
    (case a8 => k_is)
    (case l8 => k_is)
    (case c8 => k_is)
    (case k8 => k_is)
    (case a9 => k_is)
    (case l9 => k_is)
    (case c9 => k_is)
    (case k9 => k_is)
    (case a10 => k_is)
    (case l10 => k_is)
    (case c10 => k_is)
    (case k10 => k_is)
    (case a11 => k_is)
    (case l11 => k_is)
    (case c11 => k_is)
    (case k11 => k_is)
    (case a12 => k_is)
    (case l12 => k_is)
    (case c12 => k_is)
    (case k12 => k_is)
    (case z_abs => k_is)
    (case z_enumerate => k_is)
    (case z_int => k_is)
    (case z_len => k_is)
    (case z_range => k_is)
    (case z_repr => k_is)
    (case z_set => k_is)
    (case z_sorted => k_is)
    (case z_sum => k_is)
    (case z_tuple => k_is)
    (case z_zip => k_is)
