import PyProof.Rows.All
import Wide.All
import OpenK.AllK
import Wide.FinOn
import HandS.ForMost
import HandS.Wide
import HandS.TupMul
import HandS.TupAny
import HandS.ForSpec
import HandS.Words
import HandS.Defaults
import HandS.Dict
import HandS.WordsDict
import HandS.Iter
import KE.GoesMore
import KE.GoesEnum
import KE.GoesZip
import HandS.SetFor
import HandS.SortInts
import HandS.Zip
import PyProof.ReprRoads
import PyProof.ReprLen
import PyProof.StrLawsRepr
import PyProof.CallFns
import HandS.Ends
import HandS.Style
import HandS.Conv
import HandS.IsInst
import HandS.Deep
import PyProof.P3In
import KE.KExcSuper
import HandS.Exc
import HandS.WordsExc
import HandS.ExcField
import KE.KExcIs
import HandS.ExcIs
import HandS.More
import KE.BitLaws
import PySem.Challenge.RW_equalsums_k63_whole_main_digit_lots
set_option Elab.async false
set_option linter.all false
set_option maxRecDepth 100000
set_option maxHeartbeats 2000000
/-! Vs0: values as trees (D), what of the heap bears them (RL, Good), the cells of a frame. -/
namespace Vs
open PySem PySem.Spec PyProof.Rows L2

/-- a value as a tree -/
inductive D where
  | non | bl (b : Bool) | int (i : Int) | str (x : Str)
  | tup (xs : List D) | lst (xs : List D)
  | dic (ks : List (Key × D)) | dit (ks : List (List Key × D))
  | iset (ns : List Int)
  /-- a list that is only read (the script) -/
  | rol (xs : List D)
  /-- a value of which nothing is said -/
  | pin (a : Addr)
  deriving Inhabited

abbrev LD := Nat × D
abbrev Item := Nat × D × V

/-- the items of a row, all of one level -/
def its (k : Nat) (ds : List D) (vs : List V) : List Item := List.zipWith (fun d v => (k, d, v)) ds vs
theorem its_nil {k : Nat} : its k [] [] = [] := rfl
theorem its_cons {k : Nat} {d : D} {v : V} {ds : List D} {vs : List V} : its k (d :: ds) (v :: vs) = (k, d, v) :: its k ds vs := rfl
theorem its_append {k : Nat} : ∀ {ds es : List D} {vs ws : List V}, ds.length = vs.length → its k (ds ++ es) (vs ++ ws) = its k ds vs ++ its k es ws
  | [], es, [], ws, _ => rfl
  | d :: ds, es, v :: vs, ws, h => by
    show (k, d, v) :: its k (ds ++ es) (vs ++ ws) = _
    rw [its_append (by simpa using h)]
    rfl
  | [], _, _ :: _, _, h => by simp at h
  | _ :: _, _, [], _, h => by simp at h

/-- a list that is not written: a locked one, one of the module's -/
def LockL (K : PySem.W.Frag) (H : Hp) (a : Addr) (xs : List V) : Prop :=
  (∃ o, H a = some (.frz o (.lst xs))) ∨
    ∃ (o : Obj) (its : Array Value) (n : Nat), K.lookup a = some o ∧ o.cls = .type "list" ∧ o.dict = none ∧ o.data = .seq its n ∧ its.size ≤ sizeLine ∧ Vals xs its.toList
theorem LockL.sq {K : PySem.W.Frag} {H : Hp} {a : Addr} {xs : List V} (h : LockL K H a xs) : SqL K H a xs := h.elim (fun x => .inl (.inr x)) .inr

/-- an own list's address is in F, a shared one's in G -/
inductive RL (K : PySem.W.Frag) (H : Hp) : List Item → List Addr → List Addr → Prop where
  | nil : RL K H [] [] []
  | non {k L F G} : RL K H L F G → RL K H ((k, .non, .non) :: L) F G
  | bl {k b L F G} : RL K H L F G → RL K H ((k, .bl b, .bl b) :: L) F G
  | int {k i L F G} : RL K H L F G → RL K H ((k, .int i, .int i) :: L) F G
  | str {k x L F G} : RL K H L F G → RL K H ((k, .str x, .str x) :: L) F G
  | pin {k a L F G} : RL K H L F G → RL K H ((k, .pin a, .ref a) :: L) F G
  | tup {k ds a vs L F G} : SqT K H a vs → ds.length = vs.length → RL K H (its k ds vs ++ L) F G → RL K H ((k, .tup ds, .ref a) :: L) F G
  | own {k ds a vs L F G} : H a = some (.lst vs) → ds.length = vs.length → RL K H (its k ds vs ++ L) F G → RL K H ((k + 1, .lst ds, .ref a) :: L) (a :: F) G
  | frz {ds a vs L F G} : H a = some (.lst vs) → ds.length = vs.length → RL K H (its 0 ds vs ++ L) F G → RL K H ((0, .lst ds, .ref a) :: L) F (a :: G)
  | rd {ds a vs L F G} : LockL K H a vs → ds.length = vs.length → RL K H (its 0 ds vs ++ L) F G → RL K H ((0, .rol ds, .ref a) :: L) F G
  | dicO {k ks a kvs L F G} : H a = some (.dK kvs) → kvs.map (·.1) = ks.map (·.1) → RL K H (its k (ks.map (·.2)) (kvs.map (·.2)) ++ L) F G → RL K H ((k + 1, .dic ks, .ref a) :: L) (a :: F) G
  | dicF {ks a kvs L F G} : H a = some (.dK kvs) → kvs.map (·.1) = ks.map (·.1) → RL K H (its 0 (ks.map (·.2)) (kvs.map (·.2)) ++ L) F G → RL K H ((0, .dic ks, .ref a) :: L) F (a :: G)
  | ditO {k ks a kvs L F G} : H a = some (.dT kvs) → kvs.map (·.1) = ks.map (·.1) → RL K H (its k (ks.map (·.2)) (kvs.map (·.2)) ++ L) F G → RL K H ((k + 1, .dit ks, .ref a) :: L) (a :: F) G
  | ditF {ks a kvs L F G} : H a = some (.dT kvs) → kvs.map (·.1) = ks.map (·.1) → RL K H (its 0 (ks.map (·.2)) (kvs.map (·.2)) ++ L) F G → RL K H ((0, .dit ks, .ref a) :: L) F (a :: G)
  | isetO {k ns a S n L F G} : H a = some (.set S n) → ns.Nodup → ns.length = n → (∀ i, S i = decide (i ∈ ns)) → RL K H L F G → RL K H ((k + 1, .iset ns, .ref a) :: L) (a :: F) G
  | isetF {ns a S n L F G} : H a = some (.set S n) → ns.Nodup → ns.length = n → (∀ i, S i = decide (i ∈ ns)) → RL K H L F G → RL K H ((0, .iset ns, .ref a) :: L) F (a :: G)

/-- the whole: each own node once, none of them shared; R: nodes that are taken out -/
def Good (K : PySem.W.Frag) (R : List Addr) (H : Hp) (L : List Item) : Prop :=
  ∃ F G, RL K H L F G ∧ (R ++ F).Nodup ∧ (∀ a ∈ R ++ F, a ∉ G) ∧ ∀ a ∈ R, H a ≠ none

section
variable {K : PySem.W.Frag} {H H' : Hp} {L L' A B : List Item} {F G R : List Addr}

theorem RL.append (ha : RL K H A F G) : ∀ {F' G'}, RL K H B F' G' → RL K H (A ++ B) (F ++ F') (G ++ G') := by
  induction ha with
  | nil => intro F' G' h; exact h
  | non _ ih => intro F' G' h; exact .non (ih h)
  | bl _ ih => intro F' G' h; exact .bl (ih h)
  | int _ ih => intro F' G' h; exact .int (ih h)
  | str _ ih => intro F' G' h; exact .str (ih h)
  | pin _ ih => intro F' G' h; exact .pin (ih h)
  | tup h1 h2 _ ih => intro F' G' h; exact .tup h1 h2 (by have := ih h; rwa [List.append_assoc] at this)
  | own h1 h2 _ ih => intro F' G' h; exact .own h1 h2 (by have := ih h; rwa [List.append_assoc] at this)
  | frz h1 h2 _ ih => intro F' G' h; exact .frz h1 h2 (by have := ih h; rwa [List.append_assoc] at this)
  | rd h1 h2 _ ih => intro F' G' h; exact .rd h1 h2 (by have := ih h; rwa [List.append_assoc] at this)
  | dicO h1 h2 _ ih => intro F' G' h; exact .dicO h1 h2 (by have := ih h; rwa [List.append_assoc] at this)
  | dicF h1 h2 _ ih => intro F' G' h; exact .dicF h1 h2 (by have := ih h; rwa [List.append_assoc] at this)
  | ditO h1 h2 _ ih => intro F' G' h; exact .ditO h1 h2 (by have := ih h; rwa [List.append_assoc] at this)
  | ditF h1 h2 _ ih => intro F' G' h; exact .ditF h1 h2 (by have := ih h; rwa [List.append_assoc] at this)
  | isetO h1 h2 h3 h4 _ ih => intro F' G' h; exact .isetO h1 h2 h3 h4 (ih h)
  | isetF h1 h2 h3 h4 _ ih => intro F' G' h; exact .isetF h1 h2 h3 h4 (ih h)

theorem RL.split : ∀ {L : List Item} {F G : List Addr}, RL K H L F G → ∀ {A B : List Item}, L = A ++ B → ∃ F1 G1 F2 G2, RL K H A F1 G1 ∧ RL K H B F2 G2 ∧ F = F1 ++ F2 ∧ G = G1 ++ G2 := by
  intro L F G h
  induction h with
  | nil =>
    intro A B e
    obtain ⟨rfl, rfl⟩ := List.append_eq_nil_iff.mp e.symm
    exact ⟨[], [], [], [], .nil, .nil, rfl, rfl⟩
  | non h ih =>
    intro A B e
    cases A with
    | nil => subst e; exact ⟨[], [], _, _, .nil, .non h, rfl, rfl⟩
    | cons x A =>
      obtain ⟨rfl, e'⟩ := List.cons.inj e
      obtain ⟨F1, G1, F2, G2, h1, h2, e1, e2⟩ := ih e'
      exact ⟨F1, G1, F2, G2, .non h1, h2, e1, e2⟩
  | bl h ih =>
    intro A B e
    cases A with
    | nil => subst e; exact ⟨[], [], _, _, .nil, .bl h, rfl, rfl⟩
    | cons x A =>
      obtain ⟨rfl, e'⟩ := List.cons.inj e
      obtain ⟨F1, G1, F2, G2, h1, h2, e1, e2⟩ := ih e'
      exact ⟨F1, G1, F2, G2, .bl h1, h2, e1, e2⟩
  | int h ih =>
    intro A B e
    cases A with
    | nil => subst e; exact ⟨[], [], _, _, .nil, .int h, rfl, rfl⟩
    | cons x A =>
      obtain ⟨rfl, e'⟩ := List.cons.inj e
      obtain ⟨F1, G1, F2, G2, h1, h2, e1, e2⟩ := ih e'
      exact ⟨F1, G1, F2, G2, .int h1, h2, e1, e2⟩
  | str h ih =>
    intro A B e
    cases A with
    | nil => subst e; exact ⟨[], [], _, _, .nil, .str h, rfl, rfl⟩
    | cons x A =>
      obtain ⟨rfl, e'⟩ := List.cons.inj e
      obtain ⟨F1, G1, F2, G2, h1, h2, e1, e2⟩ := ih e'
      exact ⟨F1, G1, F2, G2, .str h1, h2, e1, e2⟩
  | pin h ih =>
    intro A B e
    cases A with
    | nil => subst e; exact ⟨[], [], _, _, .nil, .pin h, rfl, rfl⟩
    | cons x A =>
      obtain ⟨rfl, e'⟩ := List.cons.inj e
      obtain ⟨F1, G1, F2, G2, h1, h2, e1, e2⟩ := ih e'
      exact ⟨F1, G1, F2, G2, .pin h1, h2, e1, e2⟩
  | tup q1 q2 h ih =>
    intro A B e
    cases A with
    | nil => subst e; exact ⟨[], [], _, _, .nil, .tup q1 q2 h, rfl, rfl⟩
    | cons x A =>
      obtain ⟨rfl, rfl⟩ := List.cons.inj e
      obtain ⟨F1, G1, F2, G2, h1, h2, e1, e2⟩ := ih (List.append_assoc ..).symm
      exact ⟨F1, G1, F2, G2, .tup q1 q2 h1, h2, e1, e2⟩
  | own q1 q2 h ih =>
    intro A B e
    cases A with
    | nil => subst e; exact ⟨[], [], _, _, .nil, .own q1 q2 h, rfl, rfl⟩
    | cons x A =>
      obtain ⟨rfl, rfl⟩ := List.cons.inj e
      obtain ⟨F1, G1, F2, G2, h1, h2, e1, e2⟩ := ih (List.append_assoc ..).symm
      exact ⟨_, G1, F2, G2, .own q1 q2 h1, h2, by rw [e1]; rfl, e2⟩
  | frz q1 q2 h ih =>
    intro A B e
    cases A with
    | nil => subst e; exact ⟨[], [], _, _, .nil, .frz q1 q2 h, rfl, rfl⟩
    | cons x A =>
      obtain ⟨rfl, rfl⟩ := List.cons.inj e
      obtain ⟨F1, G1, F2, G2, h1, h2, e1, e2⟩ := ih (List.append_assoc ..).symm
      exact ⟨F1, _, F2, G2, .frz q1 q2 h1, h2, e1, by rw [e2]; rfl⟩
  | rd q1 q2 h ih =>
    intro A B e
    cases A with
    | nil => subst e; exact ⟨[], [], _, _, .nil, .rd q1 q2 h, rfl, rfl⟩
    | cons x A =>
      obtain ⟨rfl, rfl⟩ := List.cons.inj e
      obtain ⟨F1, G1, F2, G2, h1, h2, e1, e2⟩ := ih (List.append_assoc ..).symm
      exact ⟨F1, G1, F2, G2, .rd q1 q2 h1, h2, e1, e2⟩
  | dicO q1 q2 h ih =>
    intro A B e
    cases A with
    | nil => subst e; exact ⟨[], [], _, _, .nil, .dicO q1 q2 h, rfl, rfl⟩
    | cons x A =>
      obtain ⟨rfl, rfl⟩ := List.cons.inj e
      obtain ⟨F1, G1, F2, G2, h1, h2, e1, e2⟩ := ih (List.append_assoc ..).symm
      exact ⟨_, G1, F2, G2, .dicO q1 q2 h1, h2, by rw [e1]; rfl, e2⟩
  | dicF q1 q2 h ih =>
    intro A B e
    cases A with
    | nil => subst e; exact ⟨[], [], _, _, .nil, .dicF q1 q2 h, rfl, rfl⟩
    | cons x A =>
      obtain ⟨rfl, rfl⟩ := List.cons.inj e
      obtain ⟨F1, G1, F2, G2, h1, h2, e1, e2⟩ := ih (List.append_assoc ..).symm
      exact ⟨F1, _, F2, G2, .dicF q1 q2 h1, h2, e1, by rw [e2]; rfl⟩
  | ditO q1 q2 h ih =>
    intro A B e
    cases A with
    | nil => subst e; exact ⟨[], [], _, _, .nil, .ditO q1 q2 h, rfl, rfl⟩
    | cons x A =>
      obtain ⟨rfl, rfl⟩ := List.cons.inj e
      obtain ⟨F1, G1, F2, G2, h1, h2, e1, e2⟩ := ih (List.append_assoc ..).symm
      exact ⟨_, G1, F2, G2, .ditO q1 q2 h1, h2, by rw [e1]; rfl, e2⟩
  | ditF q1 q2 h ih =>
    intro A B e
    cases A with
    | nil => subst e; exact ⟨[], [], _, _, .nil, .ditF q1 q2 h, rfl, rfl⟩
    | cons x A =>
      obtain ⟨rfl, rfl⟩ := List.cons.inj e
      obtain ⟨F1, G1, F2, G2, h1, h2, e1, e2⟩ := ih (List.append_assoc ..).symm
      exact ⟨F1, _, F2, G2, .ditF q1 q2 h1, h2, e1, by rw [e2]; rfl⟩
  | isetO q1 q2 q3 q4 h ih =>
    intro A B e
    cases A with
    | nil => subst e; exact ⟨[], [], _, _, .nil, .isetO q1 q2 q3 q4 h, rfl, rfl⟩
    | cons x A =>
      obtain ⟨rfl, e'⟩ := List.cons.inj e
      obtain ⟨F1, G1, F2, G2, h1, h2, e1, e2⟩ := ih e'
      exact ⟨_, G1, F2, G2, .isetO q1 q2 q3 q4 h1, h2, by rw [e1]; rfl, e2⟩
  | isetF q1 q2 q3 q4 h ih =>
    intro A B e
    cases A with
    | nil => subst e; exact ⟨[], [], _, _, .nil, .isetF q1 q2 q3 q4 h, rfl, rfl⟩
    | cons x A =>
      obtain ⟨rfl, e'⟩ := List.cons.inj e
      obtain ⟨F1, G1, F2, G2, h1, h2, e1, e2⟩ := ih e'
      exact ⟨F1, _, F2, G2, .isetF q1 q2 q3 q4 h1, h2, e1, by rw [e2]; rfl⟩

theorem RL.perm {L L' : List Item} (p : L.Perm L') : ∀ {F G}, RL K H L F G → ∃ F' G', RL K H L' F' G' ∧ F.Perm F' ∧ G.Perm G' := by
  induction p with
  | nil => intro F G h; exact ⟨F, G, h, .refl _, .refl _⟩
  | @cons x l₁ l₂ _ ih =>
    intro F G h
    obtain ⟨F1, G1, F2, G2, h1, h2, rfl, rfl⟩ := h.split (A := [x]) (B := l₁) rfl
    obtain ⟨F3, G3, h3, p1, p2⟩ := ih h2
    exact ⟨F1 ++ F3, G1 ++ G3, h1.append h3, p1.append_left F1, p2.append_left G1⟩
  | swap x y l =>
    intro F G h
    obtain ⟨F1, G1, F2, G2, h1, h2, rfl, rfl⟩ := h.split (A := [y]) (B := x :: l) rfl
    obtain ⟨F3, G3, F4, G4, h3, h4, rfl, rfl⟩ := h2.split (A := [x]) (B := l) rfl
    refine ⟨F3 ++ (F1 ++ F4), G3 ++ (G1 ++ G4), h3.append (h1.append h4), ?_, ?_⟩
    · rw [← List.append_assoc, ← List.append_assoc]; exact List.perm_append_comm.append_right _
    · rw [← List.append_assoc, ← List.append_assoc]; exact List.perm_append_comm.append_right _
  | trans _ _ ih1 ih2 =>
    intro F G h
    obtain ⟨F1, G1, h1, p1, p2⟩ := ih1 h
    obtain ⟨F2, G2, h2, q1, q2⟩ := ih2 h1
    exact ⟨F2, G2, h2, p1.trans q1, p2.trans q2⟩

theorem Good.perm (h : Good K R H L) (p : L.Perm L') : Good K R H L' := by
  obtain ⟨F, G, r, nd, dj, hr⟩ := h
  obtain ⟨F', G', r', p1, p2⟩ := r.perm p
  exact ⟨F', G', r', ((p1.append_left R).nodup_iff).mp nd, fun a ha hg => dj a (((p1.append_left R).mem_iff).mpr ha) ((p2.mem_iff).mpr hg), hr⟩
theorem Good.dropA (h : Good K R H (A ++ B)) : Good K R H B := by
  obtain ⟨F, G, r, nd, dj, hr⟩ := h
  obtain ⟨F1, G1, F2, G2, h1, h2, rfl, rfl⟩ := r.split rfl
  have s : (R ++ F2).Sublist (R ++ (F1 ++ F2)) := (List.sublist_append_right F1 F2).append_left R
  exact ⟨F2, G2, h2, nd.sublist s, fun a ha hg => dj a (s.subset ha) (List.mem_append_right _ hg), hr⟩
theorem Good.tail {x : Item} (h : Good K R H (x :: L)) : Good K R H L := Good.dropA (A := [x]) h
theorem Good.dropB (h : Good K R H (A ++ B)) : Good K R H A := (h.perm List.perm_append_comm).dropA
/-- any part -/
theorem Good.sub (h : Good K R H L) (s : ∃ M, (M ++ L').Perm L) : Good K R H L' := by
  obtain ⟨M, p⟩ := s
  exact (h.perm p.symm).dropA

/-- the tracked addresses of a row stand -/
theorem RL.there (h : RL K H L F G) : (∀ a ∈ F, H a ≠ none) ∧ ∀ a ∈ G, H a ≠ none := by
  induction h with
  | nil => exact ⟨fun _ h => (nomatch h), fun _ h => (nomatch h)⟩
  | non _ ih => exact ih
  | bl _ ih => exact ih
  | int _ ih => exact ih
  | str _ ih => exact ih
  | pin _ ih => exact ih
  | tup _ _ _ ih => exact ih
  | rd _ _ _ ih => exact ih
  | own h1 _ _ ih => exact ⟨fun a ha => by rcases List.mem_cons.mp ha with rfl | ha; rw [h1]; exact fun z => (nomatch z); exact ih.1 a ha, ih.2⟩
  | frz h1 _ _ ih => exact ⟨ih.1, fun a ha => by rcases List.mem_cons.mp ha with rfl | ha; rw [h1]; exact fun z => (nomatch z); exact ih.2 a ha⟩
  | dicO h1 _ _ ih => exact ⟨fun a ha => by rcases List.mem_cons.mp ha with rfl | ha; rw [h1]; exact fun z => (nomatch z); exact ih.1 a ha, ih.2⟩
  | dicF h1 _ _ ih => exact ⟨ih.1, fun a ha => by rcases List.mem_cons.mp ha with rfl | ha; rw [h1]; exact fun z => (nomatch z); exact ih.2 a ha⟩
  | ditO h1 _ _ ih => exact ⟨fun a ha => by rcases List.mem_cons.mp ha with rfl | ha; rw [h1]; exact fun z => (nomatch z); exact ih.1 a ha, ih.2⟩
  | ditF h1 _ _ ih => exact ⟨ih.1, fun a ha => by rcases List.mem_cons.mp ha with rfl | ha; rw [h1]; exact fun z => (nomatch z); exact ih.2 a ha⟩
  | isetO h1 _ _ _ _ ih => exact ⟨fun a ha => by rcases List.mem_cons.mp ha with rfl | ha; rw [h1]; exact fun z => (nomatch z); exact ih.1 a ha, ih.2⟩
  | isetF h1 _ _ _ _ ih => exact ⟨ih.1, fun a ha => by rcases List.mem_cons.mp ha with rfl | ha; rw [h1]; exact fun z => (nomatch z); exact ih.2 a ha⟩

theorem sqT_at {a b : Addr} {o : HO} {vs : List V} (h : SqT K H a vs) (ht : ∀ xs, H b ≠ some (.tup xs)) (hf : ∀ ob u, H b ≠ some (.frz ob u)) : SqT K (upd H b o) a vs := by
  rcases h with (h | ⟨ob, h⟩) | h
  · exact .inl (.inl (by rw [upd_ne (by rintro rfl; exact ht _ h)]; exact h))
  · exact .inl (.inr ⟨ob, by rw [upd_ne (by rintro rfl; exact hf _ _ h)]; exact h⟩)
  · exact .inr h
theorem lock_at {a b : Addr} {o : HO} {vs : List V} (h : LockL K H a vs) (hf : ∀ ob u, H b ≠ some (.frz ob u)) : LockL K (upd H b o) a vs := by
  rcases h with ⟨ob, h⟩ | h
  · exact .inl ⟨ob, by rw [upd_ne (by rintro rfl; exact hf _ _ h)]; exact h⟩
  · exact .inr h

/-- a row stays where a thing beside it is new or written -/
theorem RL.at {b : Addr} {o : HO} (h : RL K H L F G) (ht : ∀ xs, H b ≠ some (.tup xs)) (hf : ∀ ob u, H b ≠ some (.frz ob u)) : b ∉ F → b ∉ G → RL K (upd H b o) L F G := by
  induction h with
  | nil => exact fun _ _ => .nil
  | non _ ih => exact fun n m => .non (ih n m)
  | bl _ ih => exact fun n m => .bl (ih n m)
  | int _ ih => exact fun n m => .int (ih n m)
  | str _ ih => exact fun n m => .str (ih n m)
  | pin _ ih => exact fun n m => .pin (ih n m)
  | tup h1 h2 _ ih => exact fun n m => .tup (sqT_at h1 ht hf) h2 (ih n m)
  | rd h1 h2 _ ih => exact fun n m => .rd (lock_at h1 hf) h2 (ih n m)
  | own h1 h2 _ ih => exact fun n m => .own (by rw [upd_ne (fun e => n (by simp [e]))]; exact h1) h2 (ih (fun z => n (List.mem_cons_of_mem _ z)) m)
  | frz h1 h2 _ ih => exact fun n m => .frz (by rw [upd_ne (fun e => m (by simp [e]))]; exact h1) h2 (ih n (fun z => m (List.mem_cons_of_mem _ z)))
  | dicO h1 h2 _ ih => exact fun n m => .dicO (by rw [upd_ne (fun e => n (by simp [e]))]; exact h1) h2 (ih (fun z => n (List.mem_cons_of_mem _ z)) m)
  | dicF h1 h2 _ ih => exact fun n m => .dicF (by rw [upd_ne (fun e => m (by simp [e]))]; exact h1) h2 (ih n (fun z => m (List.mem_cons_of_mem _ z)))
  | ditO h1 h2 _ ih => exact fun n m => .ditO (by rw [upd_ne (fun e => n (by simp [e]))]; exact h1) h2 (ih (fun z => n (List.mem_cons_of_mem _ z)) m)
  | ditF h1 h2 _ ih => exact fun n m => .ditF (by rw [upd_ne (fun e => m (by simp [e]))]; exact h1) h2 (ih n (fun z => m (List.mem_cons_of_mem _ z)))
  | isetO h1 h2 h3 h4 _ ih => exact fun n m => .isetO (by rw [upd_ne (fun e => n (by simp [e]))]; exact h1) h2 h3 h4 (ih (fun z => n (List.mem_cons_of_mem _ z)) m)
  | isetF h1 h2 h3 h4 _ ih => exact fun n m => .isetF (by rw [upd_ne (fun e => m (by simp [e]))]; exact h1) h2 h3 h4 (ih n (fun z => m (List.mem_cons_of_mem _ z)))

/-! ### what may be done -/
theorem Good.new {p : Addr} {o : HO} (h : Good K R H L) (hp : H p = none) : Good K R (upd H p o) L := by
  obtain ⟨F, G, r, nd, dj, hr⟩ := h
  have t := r.there
  refine ⟨F, G, r.at (fun xs z => by rw [hp] at z; cases z) (fun _ _ z => by rw [hp] at z; cases z) (fun z => t.1 _ z hp) (fun z => t.2 _ z hp), nd, dj, fun a ha => ?_⟩
  rw [upd_ne (fun e => hr a ha (by rw [e]; exact hp))]
  exact hr a ha
/-- a node that is taken out is written -/
theorem Good.wr {a : Addr} {o : HO} (h : Good K (a :: R) H L) (mu : Mut (H a)) : Good K (a :: R) (upd H a o) L := by
  obtain ⟨F, G, r, nd, dj, hr⟩ := h
  have nF : a ∉ F := fun z => (List.nodup_cons.mp nd).1 (List.mem_append_right _ z)
  have nG : a ∉ G := dj a (by simp)
  refine ⟨F, G, r.at (fun xs z => by rw [z] at mu; exact mu) (fun _ _ z => by rw [z] at mu; exact mu) nF nG, nd, dj, fun b hb => ?_⟩
  by_cases e : b = a
  · rw [e, upd_same]; exact fun z => nomatch z
  · rw [upd_ne e]; exact hr b hb

theorem Good.non {k : Nat} (h : Good K R H L) : Good K R H ((k, .non, .non) :: L) := let ⟨F, G, r, x⟩ := h; ⟨F, G, .non r, x⟩
theorem Good.bl {k : Nat} {b : Bool} (h : Good K R H L) : Good K R H ((k, .bl b, .bl b) :: L) := let ⟨F, G, r, x⟩ := h; ⟨F, G, .bl r, x⟩
theorem Good.int {k : Nat} {i : Int} (h : Good K R H L) : Good K R H ((k, .int i, .int i) :: L) := let ⟨F, G, r, x⟩ := h; ⟨F, G, .int r, x⟩
theorem Good.str {k : Nat} {x : Str} (h : Good K R H L) : Good K R H ((k, .str x, .str x) :: L) := let ⟨F, G, r, y⟩ := h; ⟨F, G, .str r, y⟩
theorem Good.tup {k : Nat} {ds : List D} {vs : List V} {a : Addr} (ha : SqT K H a vs) (hl : ds.length = vs.length) (h : Good K R H (its k ds vs ++ L)) : Good K R H ((k, .tup ds, .ref a) :: L) :=
  let ⟨F, G, r, y⟩ := h; ⟨F, G, .tup ha hl r, y⟩
theorem Good.tup_inv {k : Nat} {ds : List D} {a : V} (h : Good K R H ((k, .tup ds, a) :: L)) : ∃ p vs, a = .ref p ∧ SqT K H p vs ∧ ds.length = vs.length ∧ Good K R H (its k ds vs ++ L) := by
  obtain ⟨F, G, r, y⟩ := h
  cases r with
  | tup h1 h2 r => exact ⟨_, _, rfl, h1, h2, F, G, r, y⟩
theorem Good.own_inv {k : Nat} {ds : List D} {a : V} (h : Good K R H ((k + 1, .lst ds, a) :: L)) : ∃ p vs, a = .ref p ∧ H p = some (.lst vs) ∧ ds.length = vs.length ∧ Good K (p :: R) H (its k ds vs ++ L) := by
  obtain ⟨F, G, r, nd, dj, hr⟩ := h
  cases r with
  | @own _ _ p vs _ F _ h1 h2 r =>
    refine ⟨p, vs, rfl, h1, h2, F, G, r, ?_, ?_, ?_⟩
    · exact (List.perm_middle.nodup_iff).mp nd
    · intro a ha
      exact dj a (List.perm_middle.mem_iff.mpr ha)
    · intro a ha
      rcases List.mem_cons.mp ha with rfl | ha
      · rw [h1]; exact fun z => nomatch z
      · exact hr a ha
theorem Good.own {k : Nat} {ds : List D} {vs : List V} {p : Addr} (h1 : H p = some (.lst vs)) (h2 : ds.length = vs.length) (h : Good K (p :: R) H (its k ds vs ++ L)) : Good K R H ((k + 1, .lst ds, .ref p) :: L) := by
  obtain ⟨F, G, r, nd, dj, hr⟩ := h
  exact ⟨p :: F, G, .own h1 h2 r, (List.perm_middle.nodup_iff).mpr nd, fun a ha => dj a (List.perm_middle.mem_iff.mp ha), fun a ha => hr a (List.mem_cons_of_mem _ ha)⟩
/-- a new node is put in -/
theorem Good.resv {p : Addr} {o : HO} (h : Good K R H L) (hp : H p = none) : Good K (p :: R) (upd H p o) L := by
  obtain ⟨F, G, r, nd, dj, hr⟩ := h.new (o := o) hp
  obtain ⟨F', G', r', nd', dj', hr'⟩ := h
  have t := r'.there
  have hRF : ∀ a ∈ R, a ≠ p := fun a ha e => hr' a ha (by rw [e]; exact hp)
  have same : ∀ a, a ≠ p → upd H p o a = H a := fun a e => upd_ne e
  have rr : RL K (upd H p o) L F' G' := r'.at (fun xs z => by rw [hp] at z; cases z) (fun _ _ z => by rw [hp] at z; cases z) (fun z => t.1 _ z hp) (fun z => t.2 _ z hp)
  refine ⟨F', G', rr, ?_, ?_, ?_⟩
  · refine List.nodup_cons.mpr ⟨fun z => ?_, nd'⟩
    rcases List.mem_append.mp z with z | z
    · exact hRF p z rfl
    · exact t.1 p z hp
  · intro a ha hg
    rcases List.mem_cons.mp ha with rfl | ha
    · exact t.2 a hg hp
    · exact dj' a ha hg
  · intro a ha
    rcases List.mem_cons.mp ha with rfl | ha
    · rw [upd_same]; exact fun z => nomatch z
    · rw [same a (hRF a ha)]; exact hr' a ha
theorem Good.newL {k : Nat} {ds : List D} {vs : List V} {p : Addr} (h : Good K R H (its k ds vs ++ L)) (hl : ds.length = vs.length) (hp : H p = none) : Good K R (upd H p (.lst vs)) ((k + 1, .lst ds, .ref p) :: L) :=
  Good.own upd_same hl (h.resv hp)
theorem Good.newT {k : Nat} {ds : List D} {vs : List V} {p : Addr} (h : Good K R H (its k ds vs ++ L)) (hl : ds.length = vs.length) (hp : H p = none) : Good K R (upd H p (.tup vs)) ((k, .tup ds, .ref p) :: L) :=
  Good.tup (SqT.of upd_same) hl (h.new hp)
end
end Vs
set_option Elab.async false
set_option linter.all false
set_option maxRecDepth 100000
set_option maxHeartbeats 2000000
/-! Vs1: levels, what is known of a value (KD), cells, the state of a frame (Rel). -/
namespace Vs
open PySem PySem.Spec PyProof.Rows L2
section
variable {K : PySem.W.Frag} {H H' : Hp} {L L' A B : List Item} {F G R : List Addr}

/-- the same items at lower levels -/
inductive Wk : List Item → List Item → Prop where
  | nil : Wk [] []
  | cons {k k' d v L L'} : k' ≤ k → Wk L L' → Wk ((k, d, v) :: L) ((k', d, v) :: L')
theorem Wk.refl : ∀ L : List Item, Wk L L
  | [] => .nil
  | (_, _, _) :: L => .cons (Nat.le_refl _) (Wk.refl L)
theorem Wk.append (h : Wk A B) (h' : Wk L L') : Wk (A ++ L) (B ++ L') := by
  induction h with
  | nil => exact h'
  | cons e _ ih => exact .cons e ih
theorem Wk.its {k k' : Nat} (h : k' ≤ k) : ∀ (ds : List D) (vs : List V), Wk (its k ds vs) (its k' ds vs)
  | [], _ => .nil
  | _ :: _, [] => .nil
  | d :: ds, v :: vs => .cons h (Wk.its h ds vs)

theorem RL.weak (h : RL K H L F G) : ∀ {L'}, Wk L L' → ∃ F' G' M, RL K H L' F' G' ∧ F.Perm (F' ++ M) ∧ G'.Perm (G ++ M) := by
  induction h with
  | nil => intro L' w; cases w; exact ⟨[], [], [], .nil, .refl _, .refl _⟩
  | non _ ih => intro L' w; cases w with | cons e w => obtain ⟨F', G', M, r, p, q⟩ := ih w; exact ⟨F', G', M, .non r, p, q⟩
  | bl _ ih => intro L' w; cases w with | cons e w => obtain ⟨F', G', M, r, p, q⟩ := ih w; exact ⟨F', G', M, .bl r, p, q⟩
  | int _ ih => intro L' w; cases w with | cons e w => obtain ⟨F', G', M, r, p, q⟩ := ih w; exact ⟨F', G', M, .int r, p, q⟩
  | str _ ih => intro L' w; cases w with | cons e w => obtain ⟨F', G', M, r, p, q⟩ := ih w; exact ⟨F', G', M, .str r, p, q⟩
  | pin _ ih => intro L' w; cases w with | cons e w => obtain ⟨F', G', M, r, p, q⟩ := ih w; exact ⟨F', G', M, .pin r, p, q⟩
  | tup h1 h2 _ ih =>
    intro L' w
    cases w with
    | cons e w =>
      obtain ⟨F', G', M, r, p, q⟩ := ih (Wk.append (Wk.its e _ _) w)
      exact ⟨F', G', M, .tup h1 h2 r, p, q⟩
  | @own k ds a vs L F G h1 h2 _ ih =>
    intro L' w
    cases w with
    | @cons _ k' _ _ _ L'' e w =>
      cases k' with
      | succ k' =>
        obtain ⟨F', G', M, r, p, q⟩ := ih (Wk.append (Wk.its (Nat.le_of_succ_le_succ e) _ _) w)
        exact ⟨a :: F', G', M, .own h1 h2 r, p.cons a, q⟩
      | zero =>
        obtain ⟨F', G', M, r, p, q⟩ := ih (Wk.append (Wk.its (Nat.zero_le _) _ _) w)
        exact ⟨F', a :: G', a :: M, .frz h1 h2 r, (p.cons a).trans List.perm_middle.symm, (q.cons a).trans List.perm_middle.symm⟩
  | @frz ds a vs L F G h1 h2 _ ih =>
    intro L' w
    cases w with
    | @cons _ k' _ _ _ L'' e w =>
      obtain rfl : k' = 0 := Nat.le_zero.mp e
      obtain ⟨F', G', M, r, p, q⟩ := ih (Wk.append (Wk.refl _) w)
      exact ⟨F', a :: G', M, .frz h1 h2 r, p, q.cons a⟩
  | @rd ds a vs L F G h1 h2 _ ih =>
    intro L' w
    cases w with
    | @cons _ k' _ _ _ L'' e w =>
      obtain rfl : k' = 0 := Nat.le_zero.mp e
      obtain ⟨F', G', M, r, p, q⟩ := ih (Wk.append (Wk.refl _) w)
      exact ⟨F', G', M, .rd h1 h2 r, p, q⟩
  | @dicO k ks a kvs L F G h1 h2 _ ih =>
    intro L' w
    cases w with
    | @cons _ k' _ _ _ L'' e w =>
      cases k' with
      | succ k' =>
        obtain ⟨F', G', M, r, p, q⟩ := ih (Wk.append (Wk.its (Nat.le_of_succ_le_succ e) _ _) w)
        exact ⟨a :: F', G', M, .dicO h1 h2 r, p.cons a, q⟩
      | zero =>
        obtain ⟨F', G', M, r, p, q⟩ := ih (Wk.append (Wk.its (Nat.zero_le _) _ _) w)
        exact ⟨F', a :: G', a :: M, .dicF h1 h2 r, (p.cons a).trans List.perm_middle.symm, (q.cons a).trans List.perm_middle.symm⟩
  | @dicF ks a kvs L F G h1 h2 _ ih =>
    intro L' w
    cases w with
    | @cons _ k' _ _ _ L'' e w =>
      obtain rfl : k' = 0 := Nat.le_zero.mp e
      obtain ⟨F', G', M, r, p, q⟩ := ih (Wk.append (Wk.refl _) w)
      exact ⟨F', a :: G', M, .dicF h1 h2 r, p, q.cons a⟩
  | @ditO k ks a kvs L F G h1 h2 _ ih =>
    intro L' w
    cases w with
    | @cons _ k' _ _ _ L'' e w =>
      cases k' with
      | succ k' =>
        obtain ⟨F', G', M, r, p, q⟩ := ih (Wk.append (Wk.its (Nat.le_of_succ_le_succ e) _ _) w)
        exact ⟨a :: F', G', M, .ditO h1 h2 r, p.cons a, q⟩
      | zero =>
        obtain ⟨F', G', M, r, p, q⟩ := ih (Wk.append (Wk.its (Nat.zero_le _) _ _) w)
        exact ⟨F', a :: G', a :: M, .ditF h1 h2 r, (p.cons a).trans List.perm_middle.symm, (q.cons a).trans List.perm_middle.symm⟩
  | @ditF ks a kvs L F G h1 h2 _ ih =>
    intro L' w
    cases w with
    | @cons _ k' _ _ _ L'' e w =>
      obtain rfl : k' = 0 := Nat.le_zero.mp e
      obtain ⟨F', G', M, r, p, q⟩ := ih (Wk.append (Wk.refl _) w)
      exact ⟨F', a :: G', M, .ditF h1 h2 r, p, q.cons a⟩
  | @isetO k ns a S n L F G h1 h2 h3 h4 _ ih =>
    intro L' w
    cases w with
    | @cons _ k' _ _ _ L'' e w =>
      obtain ⟨F', G', M, r, p, q⟩ := ih w
      cases k' with
      | succ k' => exact ⟨a :: F', G', M, .isetO h1 h2 h3 h4 r, p.cons a, q⟩
      | zero => exact ⟨F', a :: G', a :: M, .isetF h1 h2 h3 h4 r, (p.cons a).trans List.perm_middle.symm, (q.cons a).trans List.perm_middle.symm⟩
  | @isetF ns a S n L F G h1 h2 h3 h4 _ ih =>
    intro L' w
    cases w with
    | @cons _ k' _ _ _ L'' e w =>
      obtain rfl : k' = 0 := Nat.le_zero.mp e
      obtain ⟨F', G', M, r, p, q⟩ := ih w
      exact ⟨F', a :: G', M, .isetF h1 h2 h3 h4 r, p, q.cons a⟩

theorem Good.weak (h : Good K R H L) (w : Wk L L') : Good K R H L' := by
  obtain ⟨F, G, r, nd, dj, hr⟩ := h
  obtain ⟨F', G', M, r', p, q⟩ := r.weak w
  have p' : (R ++ F).Perm (R ++ F' ++ M) := by rw [List.append_assoc]; exact p.append_left R
  have nd' := (p'.nodup_iff).mp nd
  refine ⟨F', G', r', (List.nodup_append.mp nd').1, fun a ha hg => ?_, hr⟩
  rcases List.mem_append.mp ((q.mem_iff).mp hg) with hg | hg
  · exact dj a ((p'.mem_iff).mpr (List.mem_append_left _ ha)) hg
  · exact (List.nodup_append.mp nd').2.2 a ha a hg rfl
theorem Good.low {k k' : Nat} {d : D} {v : V} (h : Good K R H ((k, d, v) :: L)) (e : k' ≤ k) : Good K R H ((k', d, v) :: L) := h.weak (.cons e (Wk.refl L))

/-- at level 0 nothing is owned -/
theorem RL.zero (h : RL K H L F G) : (∀ x ∈ L, x.1 = 0) → F = [] := by
  have z : ∀ {ds : List D} {vs : List V} {L : List Item}, (∀ x ∈ L, x.1 = 0) → ∀ x ∈ Vs.its 0 ds vs ++ L, x.1 = 0 := by
    intro ds vs L hL x hx
    rcases List.mem_append.mp hx with hx | hx
    · have : ∀ (ds : List D) (vs : List V), ∀ x ∈ Vs.its 0 ds vs, x.1 = 0 := by
        intro ds
        induction ds with
        | nil => intro vs x hx; cases hx
        | cons d ds ih =>
          intro vs x hx
          cases vs with
          | nil => cases hx
          | cons v vs =>
            rcases List.mem_cons.mp hx with rfl | hx
            · rfl
            · exact ih vs x hx
      exact this _ _ x hx
    · exact hL x hx
  induction h with
  | nil => intro _; rfl
  | non _ ih => intro hL; exact ih fun x hx => hL x (List.mem_cons_of_mem _ hx)
  | bl _ ih => intro hL; exact ih fun x hx => hL x (List.mem_cons_of_mem _ hx)
  | int _ ih => intro hL; exact ih fun x hx => hL x (List.mem_cons_of_mem _ hx)
  | str _ ih => intro hL; exact ih fun x hx => hL x (List.mem_cons_of_mem _ hx)
  | pin _ ih => intro hL; exact ih fun x hx => hL x (List.mem_cons_of_mem _ hx)
  | @tup k ds a vs L F G _ _ _ ih =>
    intro hL
    obtain rfl : k = 0 := hL _ List.mem_cons_self
    exact ih (z fun x hx => hL x (List.mem_cons_of_mem _ hx))
  | own _ _ _ _ => intro hL; exact absurd (hL _ List.mem_cons_self) (Nat.succ_ne_zero _)
  | frz _ _ _ ih => intro hL; exact ih (z fun x hx => hL x (List.mem_cons_of_mem _ hx))
  | rd _ _ _ ih => intro hL; exact ih (z fun x hx => hL x (List.mem_cons_of_mem _ hx))
  | dicO _ _ _ _ => intro hL; exact absurd (hL _ List.mem_cons_self) (Nat.succ_ne_zero _)
  | dicF _ _ _ ih => intro hL; exact ih (z fun x hx => hL x (List.mem_cons_of_mem _ hx))
  | ditO _ _ _ _ => intro hL; exact absurd (hL _ List.mem_cons_self) (Nat.succ_ne_zero _)
  | ditF _ _ _ ih => intro hL; exact ih (z fun x hx => hL x (List.mem_cons_of_mem _ hx))
  | isetO _ _ _ _ _ _ => intro hL; exact absurd (hL _ List.mem_cons_self) (Nat.succ_ne_zero _)
  | isetF _ _ _ _ _ ih => intro hL; exact ih fun x hx => hL x (List.mem_cons_of_mem _ hx)

/-- what is shared may be had twice -/
theorem Good.dup {d : D} {v : V} (h : Good K R H ((0, d, v) :: L)) : Good K R H ((0, d, v) :: (0, d, v) :: L) := by
  obtain ⟨F, G, r, nd, dj, hr⟩ := h
  obtain ⟨F1, G1, F2, G2, h1, h2, rfl, rfl⟩ := r.split (A := [(0, d, v)]) (B := L) rfl
  obtain rfl := h1.zero (fun x hx => by rw [List.mem_singleton.mp hx])
  refine ⟨_, _, h1.append r, by simpa using nd, fun a ha hg => ?_, hr⟩
  refine dj a (by simpa using ha) ?_
  rcases List.mem_append.mp hg with hg | hg
  · exact List.mem_append_left _ hg
  · exact hg
theorem Good.dups {ds : List D} {vs : List V} (h : Good K R H (its 0 ds vs ++ L)) : Good K R H (its 0 ds vs ++ (its 0 ds vs ++ L)) := by
  obtain ⟨F, G, r, nd, dj, hr⟩ := h
  obtain ⟨F1, G1, F2, G2, h1, h2, rfl, rfl⟩ := r.split rfl
  have z : ∀ (ds : List D) (vs : List V), ∀ x ∈ Vs.its 0 ds vs, x.1 = 0 := by
    intro ds
    induction ds with
    | nil => intro vs x hx; cases hx
    | cons d ds ih =>
      intro vs x hx
      cases vs with
      | nil => cases hx
      | cons v vs =>
        rcases List.mem_cons.mp hx with rfl | hx
        · rfl
        · exact ih vs x hx
  obtain rfl := h1.zero (z ds vs)
  refine ⟨_, _, h1.append r, by simpa using nd, fun a ha hg => ?_, hr⟩
  refine dj a (by simpa using ha) ?_
  rcases List.mem_append.mp hg with hg | hg
  · exact List.mem_append_left _ hg
  · exact hg
/-- a name is read: shared from now on -/
theorem Good.share {k : Nat} {d : D} {v : V} (h : Good K R H ((k, d, v) :: L)) : Good K R H ((0, d, v) :: (0, d, v) :: L) := (h.low (Nat.zero_le _)).dup
theorem Good.unres {p : Addr} (h : Good K (p :: R) H L) : Good K R H L := by
  obtain ⟨F, G, r, nd, dj, hr⟩ := h
  exact ⟨F, G, r, (List.nodup_cons.mp nd).2, fun a ha => dj a (List.mem_cons_of_mem _ ha), fun a ha => hr a (List.mem_cons_of_mem _ ha)⟩

/-- a shared list: its items, shared -/
theorem Good.frz_inv {ds : List D} {a : V} (h : Good K R H ((0, .lst ds, a) :: L)) : ∃ p vs, a = .ref p ∧ H p = some (.lst vs) ∧ ds.length = vs.length ∧ Good K R H (its 0 ds vs ++ L) := by
  obtain ⟨F, G, r, nd, dj, hr⟩ := h
  cases r with
  | @frz _ p vs _ _ G h1 h2 r => exact ⟨p, vs, rfl, h1, h2, F, G, r, nd, fun a ha hg => dj a ha (List.mem_cons_of_mem _ hg), hr⟩
theorem Good.rol_inv {k : Nat} {ds : List D} {a : V} (h : Good K R H ((k, .rol ds, a) :: L)) : ∃ p vs, a = .ref p ∧ SqL K H p vs ∧ ds.length = vs.length ∧ Good K R H (its 0 ds vs ++ L) := by
  obtain ⟨F, G, r, nd, dj, hr⟩ := h
  cases r with
  | @rd _ p vs _ _ _ h1 h2 r => exact ⟨p, vs, rfl, h1.sq, h2, F, G, r, nd, dj, hr⟩
/-- a list that is used up: its items at one level less -/
theorem Good.lst_inv {k : Nat} {ds : List D} {a : V} (h : Good K R H ((k, .lst ds, a) :: L)) : ∃ p vs, a = .ref p ∧ H p = some (.lst vs) ∧ ds.length = vs.length ∧ Good K R H (its (k - 1) ds vs ++ L) := by
  cases k with
  | zero => exact h.frz_inv
  | succ k =>
    obtain ⟨p, vs, rfl, h1, h2, g⟩ := h.own_inv
    exact ⟨p, vs, rfl, h1, h2, g.unres⟩
/-- a list that stays, its items shared -/
theorem Good.lst_view {k : Nat} {ds : List D} {a : V} (h : Good K R H ((k, .lst ds, a) :: L)) : ∃ p vs, a = .ref p ∧ H p = some (.lst vs) ∧ ds.length = vs.length ∧ Good K R H (its 0 ds vs ++ (min k 1, .lst ds, .ref p) :: L) := by
  cases k with
  | zero =>
    obtain ⟨p, vs, rfl, h1, h2, g⟩ := h.dup.frz_inv
    exact ⟨p, vs, rfl, h1, h2, g⟩
  | succ k =>
    obtain ⟨p, vs, rfl, h1, h2, g⟩ := h.own_inv
    refine ⟨p, vs, rfl, h1, h2, ?_⟩
    have g2 := (g.weak (Wk.append (Wk.its (Nat.zero_le k) ds vs) (Wk.refl L))).dups
    have g3 : Good K (p :: R) H (its 0 ds vs ++ (its 0 ds vs ++ L)) := g2
    have e : min (k + 1) 1 = 0 + 1 := by omega
    rw [e]
    have g4 : Good K R H ((0 + 1, .lst ds, .ref p) :: (its 0 ds vs ++ L)) := Good.own h1 h2 g3
    exact g4.perm List.perm_middle.symm
/-- a tuple that stays, shared; its items shared -/
theorem Good.tup_view {k : Nat} {ds : List D} {a : V} (h : Good K R H ((k, .tup ds, a) :: L)) : ∃ p vs, a = .ref p ∧ SqT K H p vs ∧ ds.length = vs.length ∧ Good K R H (its 0 ds vs ++ (0, .tup ds, .ref p) :: L) := by
  obtain ⟨p, vs, rfl, h1, h2, g⟩ := h.share.tup_inv
  exact ⟨p, vs, rfl, h1, h2, g⟩

/-! ### what is known of a value -/
def KD (K : PySem.W.Frag) (H : Hp) (d : D) (v : V) : Prop := ∃ k R L, Good K R H ((k, d, v) :: L)
theorem Good.kd {k : Nat} {d : D} {v : V} (h : Good K R H ((k, d, v) :: L)) : KD K H d v := ⟨k, R, L, h⟩
theorem Good.kd_mem {k : Nat} {d : D} {v : V} (h : Good K R H L) (hm : (k, d, v) ∈ L) : KD K H d v := by
  obtain ⟨A, B, rfl⟩ := List.append_of_mem hm
  exact ⟨k, R, A ++ B, h.perm List.perm_middle⟩
theorem its_mem {k : Nat} : ∀ {ds : List D} {vs : List V} {i : Nat} {d : D} {v : V}, ds[i]? = some d → vs[i]? = some v → (k, d, v) ∈ its k ds vs
  | [], _, _, _, _, h, _ => by simp at h
  | _ :: _, [], _, _, _, _, h => by simp at h
  | d :: ds, v :: vs, 0, _, _, h1, h2 => by simp at h1 h2; subst h1; subst h2; exact List.mem_cons_self
  | d :: ds, v :: vs, i + 1, _, _, h1, h2 => List.mem_cons_of_mem _ (its_mem (i := i) (by simpa using h1) (by simpa using h2))
/-- a row of known values -/
abbrev KDs (K : PySem.W.Frag) (H : Hp) : List D → List V → Prop := Paired (KD K H)
theorem kds_of : ∀ {ds : List D} {vs : List V}, ds.length = vs.length → (∀ (i : Nat) (d : D) (v : V), ds[i]? = some d → vs[i]? = some v → KD K H d v) → KDs K H ds vs
  | [], [], _, _ => .nil
  | [], _ :: _, h, _ => by simp at h
  | _ :: _, [], h, _ => by simp at h
  | d :: ds, v :: vs, h, f => .cons (f 0 d v rfl rfl) (kds_of (by simpa using h) fun i d v h1 h2 => f (i + 1) d v (by simpa using h1) (by simpa using h2))
theorem Good.kds {k : Nat} {ds : List D} {vs : List V} (h : Good K R H L) (hl : ds.length = vs.length) (hs : ∀ x ∈ its k ds vs, x ∈ L) : KDs K H ds vs :=
  kds_of hl fun i d v h1 h2 => h.kd_mem (hs _ (its_mem h1 h2))
theorem KD.int {i : Int} {v : V} (h : KD K H (.int i) v) : v = .int i := by obtain ⟨_, _, _, _, _, r, _⟩ := h; cases r; rfl
theorem KD.bl {b : Bool} {v : V} (h : KD K H (.bl b) v) : v = .bl b := by obtain ⟨_, _, _, _, _, r, _⟩ := h; cases r; rfl
theorem KD.non {v : V} (h : KD K H .non v) : v = .non := by obtain ⟨_, _, _, _, _, r, _⟩ := h; cases r; rfl
theorem KD.str {x : Str} {v : V} (h : KD K H (.str x) v) : v = .str x := by obtain ⟨_, _, _, _, _, r, _⟩ := h; cases r; rfl
theorem KD.tup {ds : List D} {v : V} (h : KD K H (.tup ds) v) : ∃ p vs, v = .ref p ∧ SqT K H p vs ∧ KDs K H ds vs := by
  obtain ⟨k, R, L, h⟩ := h
  obtain ⟨p, vs, rfl, h1, h2, g⟩ := h.tup_inv
  exact ⟨p, vs, rfl, h1, g.kds h2 fun x hx => List.mem_append_left _ hx⟩
theorem KD.lst {ds : List D} {v : V} (h : KD K H (.lst ds) v) : ∃ p vs, v = .ref p ∧ H p = some (.lst vs) ∧ KDs K H ds vs := by
  obtain ⟨k, R, L, h⟩ := h
  obtain ⟨p, vs, rfl, h1, h2, g⟩ := h.lst_inv
  exact ⟨p, vs, rfl, h1, g.kds h2 fun x hx => List.mem_append_left _ hx⟩
theorem KD.rol {ds : List D} {v : V} (h : KD K H (.rol ds) v) : ∃ p vs, v = .ref p ∧ SqL K H p vs ∧ KDs K H ds vs := by
  obtain ⟨k, R, L, h⟩ := h
  obtain ⟨p, vs, rfl, h1, h2, g⟩ := h.rol_inv
  exact ⟨p, vs, rfl, h1, g.kds h2 fun x hx => List.mem_append_left _ hx⟩
theorem KDs.ints : ∀ {ns : List Int} {vs : List V}, KDs K H (ns.map .int) vs → vs = ns.map V.int
  | [], _, h => by cases h; rfl
  | n :: ns, _, h => by
    cases h with
    | cons h1 h2 => rw [h1.int, KDs.ints h2]; rfl

/-! ### the cells of a frame -/
inductive Cell where
  | u
  | c (k : Nat) (d : D)
abbrev Rho := List Cell
abbrev Sg := L2.St
inductive Cells : Rho → Sg → List Item → Prop where
  | nil : Cells [] [] []
  | u {ρ σ L x} : Cells ρ σ L → Cells (.u :: ρ) (x :: σ) L
  | c {ρ σ L k d v} : Cells ρ σ L → Cells (.c k d :: ρ) (some v :: σ) ((k, d, v) :: L)
theorem Cells.len {ρ : Rho} {σ : Sg} {L : List Item} (h : Cells ρ σ L) : ρ.length = σ.length := by
  induction h with
  | nil => rfl
  | u _ ih => simp [ih]
  | c _ ih => simp [ih]
theorem Cells.take {ρ : Rho} {σ : Sg} {L : List Item} (h : Cells ρ σ L) : ∀ {i k d}, ρ[i]? = some (.c k d) → ∃ v L', σ[i]? = some (some v) ∧ L.Perm ((k, d, v) :: L') ∧ Cells (ρ.set i .u) σ L' := by
  induction h with
  | nil => intro i k d e; simp at e
  | @u ρ σ L x h ih =>
    intro i k d e
    cases i with
    | zero => simp at e
    | succ i =>
      obtain ⟨v, L', h1, h2, h3⟩ := ih (i := i) (by simpa using e)
      exact ⟨v, L', by simpa using h1, h2, .u h3⟩
  | @c ρ σ L k0 d0 v0 h ih =>
    intro i k d e
    cases i with
    | zero =>
      simp at e
      obtain ⟨rfl, rfl⟩ := e
      exact ⟨v0, L, rfl, .refl _, .u h⟩
    | succ i =>
      obtain ⟨v, L', h1, h2, h3⟩ := ih (i := i) (by simpa using e)
      exact ⟨v, (k0, d0, v0) :: L', by simpa using h1, (h2.cons _).trans (.swap _ _ _), .c h3⟩
theorem Cells.put {ρ : Rho} {σ : Sg} {L : List Item} (h : Cells ρ σ L) : ∀ {i k d v}, ρ[i]? = some .u → σ[i]? = some (some v) → ∃ L', L'.Perm ((k, d, v) :: L) ∧ Cells (ρ.set i (.c k d)) σ L' := by
  induction h with
  | nil => intro i k d v e _; simp at e
  | @u ρ σ L x h ih =>
    intro i k d v e e2
    cases i with
    | zero =>
      simp at e2
      subst e2
      exact ⟨_, .refl _, .c h⟩
    | succ i =>
      obtain ⟨L', h1, h2⟩ := ih (i := i) (k := k) (d := d) (v := v) (by simpa using e) (by simpa using e2)
      exact ⟨L', h1, .u h2⟩
  | @c ρ σ L k0 d0 v0 h ih =>
    intro i k d v e e2
    cases i with
    | zero => simp at e
    | succ i =>
      obtain ⟨L', h1, h2⟩ := ih (i := i) (k := k) (d := d) (v := v) (by simpa using e) (by simpa using e2)
      exact ⟨(k0, d0, v0) :: L', (h1.cons _).trans (.swap _ _ _), .c h2⟩
/-- an undefined cell stands for any content -/
theorem Cells.free {ρ : Rho} {σ : Sg} {L : List Item} (h : Cells ρ σ L) : ∀ {i y}, ρ[i]? = some .u → Cells ρ (σ.set i y) L := by
  induction h with
  | nil => intro i y e; simp at e
  | @u ρ σ L x h ih =>
    intro i y e
    cases i with
    | zero => exact .u h
    | succ i => exact .u (ih (i := i) (by simpa using e))
  | @c ρ σ L k0 d0 v0 h ih =>
    intro i y e
    cases i with
    | zero => simp at e
    | succ i => exact .c (ih (i := i) (by simpa using e))
/-- a cell is forgotten -/
theorem Cells.wipe {ρ : Rho} {σ : Sg} {L : List Item} (h : Cells ρ σ L) (i : Nat) : ∃ M L', L.Perm (M ++ L') ∧ Cells (ρ.set i .u) σ L' := by
  cases e : ρ[i]? with
  | none =>
    refine ⟨[], L, .refl _, ?_⟩
    rw [List.set_eq_of_length_le (List.getElem?_eq_none_iff.mp e)]
    exact h
  | some x =>
    cases x with
    | u =>
      refine ⟨[], L, .refl _, ?_⟩
      obtain ⟨hi, e'⟩ := List.getElem?_eq_some_iff.mp e
      rw [← e', List.set_getElem_self]
      exact h
    | c k d =>
      obtain ⟨v, L', _, h2, h3⟩ := h.take e
      exact ⟨[(k, d, v)], L', h2, h3⟩

/-- the frame's cells and what is held beside them -/
def Rel (K : PySem.W.Frag) (H : Hp) (ρ : Rho) (σ : Sg) (T : List Item) : Prop := ∃ L, Cells ρ σ L ∧ Good K [] H (T ++ L)
end
section
variable {K : PySem.W.Frag} {H H' : Hp} {ρ : Rho} {σ : Sg} {T T' : List Item}
theorem Rel.good (h : Rel K H ρ σ T) (f : ∀ L, Good K [] H (T ++ L) → Good K [] H' (T' ++ L)) : Rel K H' ρ σ T' := let ⟨L, c, g⟩ := h; ⟨L, c, f L g⟩
theorem Rel.move {i k : Nat} {d : D} (h : Rel K H ρ σ T) (e : ρ[i]? = some (.c k d)) : ∃ v, σ[i]? = some (some v) ∧ Rel K H (ρ.set i .u) σ ((k, d, v) :: T) := by
  obtain ⟨L, c, g⟩ := h
  obtain ⟨v, L', h1, h2, h3⟩ := c.take e
  refine ⟨v, h1, L', h3, g.perm ?_⟩
  exact (h2.append_left T).trans List.perm_middle
theorem Rel.back {i k : Nat} {d : D} {v : V} (h : Rel K H ρ σ ((k, d, v) :: T)) (e : ρ[i]? = some .u) (hs : σ[i]? = some (some v)) : Rel K H (ρ.set i (.c k d)) σ T := by
  obtain ⟨L, c, g⟩ := h
  obtain ⟨L', h1, h2⟩ := c.put (k := k) (d := d) e hs
  refine ⟨L', h2, g.perm ?_⟩
  exact (List.perm_middle.symm).trans ((h1.symm).append_left T)
theorem getElem?_set_u {i : Nat} {x y : Cell} (e : ρ[i]? = some x) : (ρ.set i y)[i]? = some y := by
  obtain ⟨hi, _⟩ := List.getElem?_eq_some_iff.mp e
  rw [List.getElem?_set_self hi]
theorem set_set_c {i : Nat} {x y : Cell} : (ρ.set i x).set i y = ρ.set i y := by rw [List.set_set]
/-- a name is read -/
theorem Rel.read {i k : Nat} {d : D} (h : Rel K H ρ σ T) (e : ρ[i]? = some (.c k d)) : ∃ v, σ[i]? = some (some v) ∧ Rel K H (ρ.set i (.c 0 d)) σ ((0, d, v) :: T) := by
  obtain ⟨v, hv, r⟩ := h.move e
  refine ⟨v, hv, ?_⟩
  have r2 : Rel K H (ρ.set i .u) σ ((0, d, v) :: (0, d, v) :: T) := r.good fun L g => g.share
  have r3 := r2.back (i := i) (getElem?_set_u e) hv
  rwa [set_set_c] at r3
theorem Rel.kd {i k : Nat} {d : D} (h : Rel K H ρ σ T) (e : ρ[i]? = some (.c k d)) : ∃ v, σ[i]? = some (some v) ∧ KD K H d v := by
  obtain ⟨v, hv, L, c, g⟩ := h.move e
  exact ⟨v, hv, g.kd⟩
theorem Rel.top {k : Nat} {d : D} {v : V} (h : Rel K H ρ σ ((k, d, v) :: T)) : KD K H d v := let ⟨L, c, g⟩ := h; g.kd
theorem Rel.drop {x : Item} (h : Rel K H ρ σ (x :: T)) : Rel K H ρ σ T := h.good fun L g => g.tail
theorem Rel.store {i k : Nat} {d : D} {v : V} (h : Rel K H ρ σ ((k, d, v) :: T)) (hi : i < ρ.length) : Rel K H (ρ.set i (.c k d)) (σ.set i (some v)) T := by
  obtain ⟨L, c, g⟩ := h
  obtain ⟨M, L', p, c'⟩ := c.wipe i
  have e : (ρ.set i .u)[i]? = some .u := by rw [List.getElem?_set_self hi]
  have c2 := c'.free (y := some v) e
  have hσ : i < σ.length := by rw [← c.len]; exact hi
  obtain ⟨L2, h1, h2⟩ := c2.put (k := k) (d := d) (v := v) e (by rw [List.getElem?_set_self hσ])
  rw [set_set_c] at h2
  refine ⟨L2, h2, ?_⟩
  have g2 : Good K [] H (M ++ ((k, d, v) :: T ++ L')) := g.perm (by
    refine ((p.append_left ((k, d, v) :: T))).trans ?_
    rw [← List.append_assoc]
    exact (List.perm_append_comm.append_right L').trans (by rw [List.append_assoc]))
  refine g2.dropA.perm ?_
  exact (List.perm_middle (l₁ := T) (a := (k, d, v)) (l₂ := L')).symm.trans ((h1.symm).append_left T)
end
end Vs
set_option Elab.async false
set_option linter.all false
set_option maxRecDepth 100000
set_option maxHeartbeats 2000000
/-! Vs2: what a piece of code does to trees (M), and that the model does it (tV, tT, tArs): names, constants, one-value operations. -/
namespace Vs
open PySem PySem.Spec PyProof.Rows L2

/-- an exception: its class's name, what it carries -/
structure Xn where
  cls : Str
  fs : List (Str × D)
/-- no word of ours; a value and the cells behind it; an exception -/
inductive R (α : Type) where
  | no
  | ok (a : α) (ρ : Rho)
  | ex (x : Xn) (ρ : Rho)
abbrev M (α : Type) := Rho → R α
def M.bind {α β : Type} (m : M α) (f : α → M β) : M β := fun ρ => match m ρ with
  | .no => .no
  | .ok a ρ' => f a ρ'
  | .ex x ρ' => .ex x ρ'
def M.ret {α : Type} (a : α) : M α := fun ρ => .ok a ρ
def M.of {α : Type} (o : Option α) : M α := fun ρ => match o with
  | some a => .ok a ρ
  | none => .no

def D.isS : D → Bool
  | .non => true | .bl _ => true | .int _ => true | .str _ => true
  | _ => false
def D.sv : D → V
  | .non => .non | .bl b => .bl b | .int i => .int i | .str x => .str x
  | _ => .non

/-- what is allowed of exceptions -/
structure Wish where
  p : Xn → Rho → List Item → Prop
  up : ∀ x ρ T t, p x ρ T → p x ρ (t :: T)
def W0 : Wish := ⟨fun _ _ _ => False, fun _ _ _ _ h => h⟩
def Aft {α : Type} (W : Wish) (T : List Item) (r : R α) (k : α → Rho → Prop) : Prop := match r with
  | .no => False
  | .ok a ρ' => k a ρ'
  | .ex x ρ' => W.p x ρ' T
section
variable {α β : Type} {W : Wish} {T : List Item} {r : R α} {k k' : α → Rho → Prop}
theorem Aft.bind {m : M α} {f : α → M β} {ρ : Rho} {k : β → Rho → Prop} (h : Aft W T (M.bind m f ρ) k) : Aft W T (m ρ) fun a ρ1 => Aft W T (f a ρ1) k := by
  unfold M.bind at h
  cases e : m ρ with
  | no => rw [e] at h; exact h
  | ok a ρ' => rw [e] at h; exact h
  | ex x ρ' => rw [e] at h; exact h
theorem Aft.imp (h : Aft W T r k) (f : ∀ a ρ, k a ρ → k' a ρ) : Aft W T r k' := by
  cases r with
  | no => exact h
  | ok a ρ' => exact f _ _ h
  | ex x ρ' => exact h
theorem Aft.up {t : Item} (h : Aft W T r k) : Aft W (t :: T) r k := by
  cases r with
  | no => exact h
  | ok a ρ' => exact h
  | ex x ρ' => exact W.up _ _ _ _ h
theorem Aft.ups (h : Aft W T r k) : ∀ S : List Item, Aft W (S ++ T) r k
  | [] => h
  | t :: S => (Aft.ups h S).up (t := t)
theorem Aft.of {o : Option α} {ρ : Rho} (h : Aft W T (M.of o ρ) k) : ∃ a, o = some a ∧ k a ρ := by
  cases o with
  | none => exact False.elim h
  | some a => exact ⟨a, rfl, h⟩
end

/-! ### readings -/
def tV (K : PySem.W.Frag) (W : Wish) (m : M LD) : TE := fun σ H Q => ∃ ρ T, Rel K H ρ σ T ∧ Aft W T (m ρ) fun x ρ' => ∀ v H', Rel K H' ρ' σ ((x.1, x.2, v) :: T) → Q v H'
def tT (K : PySem.W.Frag) (W : Wish) (m : M Bool) : TT := fun σ H Q => ∃ ρ T, Rel K H ρ σ T ∧ Aft W T (m ρ) fun b ρ' => ∀ H', Rel K H' ρ' σ T → Q b H'
/-- an argument: a value, or the content of a name (looked at last) -/
inductive Ar where
  | val (x : LD)
  | view (i : Nat)
def Ar.tmp : Ar → V → List Item
  | .val x, v => [(x.1, x.2, v)]
  | .view _, _ => []
def Ar.at (σ : Sg) : Ar → V → Prop
  | .val _, _ => True
  | .view i, v => σ[i]? = some (some v)
def Ar.get (ρ : Rho) : Ar → Option D
  | .val x => some x.2
  | .view i => match ρ[i]? with
    | some (.c _ d) => some d
    | _ => none
def tA (K : PySem.W.Frag) (W : Wish) (m : M Ar) : TE := fun σ H Q => ∃ ρ T, Rel K H ρ σ T ∧ Aft W T (m ρ) fun a ρ' => ∀ v H', Rel K H' ρ' σ (a.tmp v ++ T) → a.at σ v → Q v H'
def tmps : List Ar → List V → List Item
  | a :: as, v :: vs => a.tmp v ++ tmps as vs
  | _, _ => []
def gets (ρ : Rho) : List Ar → Option (List D)
  | [] => some []
  | a :: as => match a.get ρ, gets ρ as with
    | some d, some ds => some (d :: ds)
    | _, _ => none
def tAs (K : PySem.W.Frag) (W : Wish) (m : M (List Ar)) : TA := fun σ H Q => ∃ ρ T, Rel K H ρ σ T ∧ Aft W T (m ρ) fun as ρ' => ∀ vs H', Rel K H' ρ' σ (tmps as vs ++ T) → Paired (Ar.at σ) as vs → Q vs H'
/-- values alone -/
def tVs (K : PySem.W.Frag) (W : Wish) (m : M (List LD)) : TA := fun σ H Q => ∃ ρ T, Rel K H ρ σ T ∧ Aft W T (m ρ) fun xs ρ' => ∀ vs H', xs.length = vs.length → Rel K H' ρ' σ (List.zipWith (fun (x : LD) v => (x.1, x.2, v)) xs vs ++ T) → Q vs H'

theorem PE.imp {X : Cx} {e : Expr} {t t' : TE} (h : PE X e t) (f : ∀ σ H Q, t' σ H Q → t σ H Q) : PE X e t' := ⟨fun pins s σ H Q I hq => h.run pins s σ H Q I (f σ H Q hq)⟩
theorem PT.imp {X : Cx} {e : Expr} {t t' : TT} (h : PT X e t) (f : ∀ σ H Q, t' σ H Q → t σ H Q) : PT X e t' := ⟨fun pins s σ H Q I hq => h.run pins s σ H Q I (f σ H Q hq)⟩
theorem PW.imp {X : Cx} {e : Expr} {t t' : TT} (h : PW X e t) (f : ∀ σ H Q, t' σ H Q → t σ H Q) : PW X e t' := ⟨fun wh pins s σ H Q I hq => h.run wh pins s σ H Q I (f σ H Q hq)⟩
theorem PA.imp {X : Cx} {es : List Expr} {t t' : TA} (h : PA X es t) (f : ∀ σ H Q, t' σ H Q → t σ H Q) : PA X es t' := ⟨fun pos pins s σ H Q I hq => h.run pos pins s σ H Q I (f σ H Q hq)⟩
theorem PK.imp {X : Cx} {es : List Keyword} {t t' : TA} (h : PK X es t) (f : ∀ σ H Q, t' σ H Q → t σ H Q) : PK X es t' := ⟨fun pos pins s σ H Q I hq => h.run pos pins s σ H Q I (f σ H Q hq)⟩
theorem PS.imp {X : Cx} {st : Stmt} {t t' : TS} (h : PS X st t) (f : ∀ D σ H, t' D σ H → t D σ H) : PS X st t' := ⟨fun pins s σ H D I hq => h.run pins s σ H D I (f D σ H hq)⟩
theorem PSs.imp {X : Cx} {st : List Stmt} {t t' : TS} (h : PSs X st t) (f : ∀ D σ H, t' D σ H → t D σ H) : PSs X st t' := ⟨fun pins s σ H D I hq => h.run pins s σ H D I (f D σ H hq)⟩

/-! ### names and constants -/
def rd (i : Nat) : M LD := fun ρ => match ρ[i]? with
  | some (.c k d) => if d.isS then .ok (9, d) ρ else .ok (0, d) (ρ.set i (.c 0 d))
  | _ => .no
def mv (i : Nat) : M LD := fun ρ => match ρ[i]? with
  | some (.c k d) => if d.isS then .ok (9, d) ρ else .ok (k, d) (ρ.set i .u)
  | _ => .no
def vw (i : Nat) : M Ar := M.ret (.view i)
def kc (d : D) : M LD := M.ret (9, d)
def asAr (m : M LD) : M Ar := m.bind fun x => M.ret (.val x)

section
variable {K : PySem.W.Frag} {H H' : Hp} {L : List Item} {Rs : List Addr} {ρ : Rho} {σ : Sg} {T : List Item}
theorem KD.isS {d : D} {v : V} (h : KD K H d v) (e : d.isS = true) : v = d.sv := by
  cases d with
  | non => exact h.non
  | bl b => exact h.bl
  | int i => exact h.int
  | str x => exact h.str
  | _ => cases e
theorem Good.scal {k : Nat} {d : D} {Rs : List Addr} (h : Good K Rs H L) (e : d.isS = true) : Good K Rs H ((k, d, d.sv) :: L) := by
  cases d with
  | non => exact h.non
  | bl b => exact h.bl
  | int i => exact h.int
  | str x => exact h.str
  | _ => cases e
theorem Rel.scal {k : Nat} {d : D} (h : Rel K H ρ σ T) (e : d.isS = true) : Rel K H ρ σ ((k, d, d.sv) :: T) := h.good fun L g => g.scal e
end

section
variable {X : Cx} {W : Wish} {e : Expr} {pos : Pos}
theorem v_rd {i : Nat} {x : Str} (h : PE X (.Name x pos) (tVar i)) : PE X (.Name x pos) (tV X.K W (rd i)) := by
  refine PE.imp h fun σ H Q hq => ?_
  obtain ⟨ρ, T, r, a⟩ := hq
  unfold rd at a
  cases q : ρ[i]? with
  | none => rw [q] at a; exact a.elim
  | some c =>
    cases c with
    | u => rw [q] at a; exact a.elim
    | c k d =>
      rw [q] at a
      simp only at a
      by_cases s : d.isS = true
      · rw [if_pos s] at a
        obtain ⟨v, hv, kd⟩ := r.kd q
        obtain rfl := kd.isS s
        exact ⟨_, hv, a _ H (r.scal s)⟩
      · rw [if_neg s] at a
        obtain ⟨v, hv, r2⟩ := r.read q
        exact ⟨v, hv, a v H r2⟩
theorem v_mv {i : Nat} {x : Str} (h : PE X (.Name x pos) (tVar i)) : PE X (.Name x pos) (tV X.K W (mv i)) := by
  refine PE.imp h fun σ H Q hq => ?_
  obtain ⟨ρ, T, r, a⟩ := hq
  unfold mv at a
  cases q : ρ[i]? with
  | none => rw [q] at a; exact a.elim
  | some c =>
    cases c with
    | u => rw [q] at a; exact a.elim
    | c k d =>
      rw [q] at a
      simp only at a
      by_cases s : d.isS = true
      · rw [if_pos s] at a
        obtain ⟨v, hv, kd⟩ := r.kd q
        obtain rfl := kd.isS s
        exact ⟨_, hv, a _ H (r.scal s)⟩
      · rw [if_neg s] at a
        obtain ⟨v, hv, r2⟩ := r.move q
        exact ⟨v, hv, a v H r2⟩
/-- a name that is looked at: it must have a value then -/
def vwOk (i : Nat) : M Ar := fun ρ => match ρ[i]? with
  | some (.c _ _) => .ok (.view i) ρ
  | _ => .no
theorem a_vw {i : Nat} {x : Str} (h : PE X (.Name x pos) (tVar i)) : PE X (.Name x pos) (tA X.K W (vwOk i)) := by
  refine PE.imp h fun σ H Q hq => ?_
  obtain ⟨ρ, T, r, a⟩ := hq
  unfold vwOk at a
  cases q : ρ[i]? with
  | none => rw [q] at a; exact a.elim
  | some c =>
    cases c with
    | u => rw [q] at a; exact a.elim
    | c k d =>
      rw [q] at a
      obtain ⟨v, hv, _⟩ := r.kd q
      exact ⟨v, hv, a v H r hv⟩
theorem a_of {m : M LD} (h : PE X e (tV X.K W m)) : PE X e (tA X.K W (asAr m)) := by
  refine PE.imp h fun σ H Q hq => ?_
  obtain ⟨ρ, T, r, a⟩ := hq
  refine ⟨ρ, T, r, a.bind.imp fun x ρ' q v H' r' => ?_⟩
  exact q v H' r' True.intro
theorem v_k {v : V} {d : D} (h : PE X e (tC v)) (hs : d.isS = true) (hv : d.sv = v) : PE X e (tV X.K W (kc d)) := by
  refine PE.imp h fun σ H Q hq => ?_
  obtain ⟨ρ, T, r, a⟩ := hq
  subst hv
  exact a _ H (r.scal hs)
theorem v_int {i : Int} {j : Nat} : PE X (.Constant (.int i) j pos) (tV X.K W (kc (.int i))) := v_k pe_int rfl rfl
theorem v_bl {b : Bool} {j : Nat} : PE X (.Constant (.bool b) j pos) (tV X.K W (kc (.bl b))) := v_k pe_bl rfl rfl
theorem v_non {j : Nat} : PE X (.Constant .none j pos) (tV X.K W (kc .non)) := v_k pe_non rfl rfl
theorem v_str {x : Str} {j : Nat} : PE X (.Constant (.str x) j pos) (tV X.K W (kc (.str x))) := v_k pe_str rfl rfl
/-- a module's number -/
theorem v_gI {x : Str} {i : Int} {t : Tok} (hg : Gl X x) (hm : X.mg x = some (.int i t)) (hd : (x == ("__debug__" : Str)) = false := by decide) : PE X (.Name x pos) (tV X.K W (kc (.int i))) :=
  v_k (v := .int i) (pe_glob hg hm ⟨t, rfl⟩ hd) rfl rfl

/-! ### rows of arguments -/
def noAr : M (List Ar) := M.ret []
def consAr (m : M Ar) (ms : M (List Ar)) : M (List Ar) := m.bind fun a => ms.bind fun as => M.ret (a :: as)
theorem as_nil : PA X [] (tAs X.K W noAr) := PA.imp pa_nil fun σ H Q ⟨ρ, T, r, a⟩ => a [] H r .nil
theorem as_cons {es : List Expr} {m : M Ar} {ms : M (List Ar)} (h : PE X e (tA X.K W m)) (hs : PA X es (tAs X.K W ms)) (he : starEach (e :: es) X.env = (false, eval e X.env) :: starEach es X.env := by rfl) :
    PA X (e :: es) (tAs X.K W (consAr m ms)) := by
  refine PA.imp (pa_cons h hs he) fun σ H Q ⟨ρ, T, r, a⟩ => ?_
  refine ⟨ρ, T, r, a.bind.imp fun x ρ1 q v H1 r1 ha => ?_⟩
  refine ⟨ρ1, x.tmp v ++ T, r1, (q.bind.ups _).imp fun as ρ2 q2 vs H2 r2 hs => ?_⟩
  refine q2 (v :: vs) H2 (r2.good fun L g => g.perm ?_) (.cons ha hs)
  show (tmps as vs ++ (x.tmp v ++ T) ++ L).Perm ((x.tmp v ++ tmps as vs) ++ T ++ L)
  rw [← List.append_assoc (tmps as vs)]
  exact (List.perm_append_comm.append_right T).append_right L
def noVs : M (List LD) := M.ret []
def consV (m : M LD) (ms : M (List LD)) : M (List LD) := m.bind fun a => ms.bind fun as => M.ret (a :: as)
theorem vs_nil : PA X [] (tVs X.K W noVs) := PA.imp pa_nil fun σ H Q ⟨ρ, T, r, a⟩ => a [] H rfl r
theorem vs_cons {es : List Expr} {m : M LD} {ms : M (List LD)} (h : PE X e (tV X.K W m)) (hs : PA X es (tVs X.K W ms)) (he : starEach (e :: es) X.env = (false, eval e X.env) :: starEach es X.env := by rfl) :
    PA X (e :: es) (tVs X.K W (consV m ms)) := by
  refine PA.imp (pa_cons h hs he) fun σ H Q ⟨ρ, T, r, a⟩ => ?_
  refine ⟨ρ, T, r, a.bind.imp fun x ρ1 q v H1 r1 => ?_⟩
  refine ⟨ρ1, (x.1, x.2, v) :: T, r1, (q.bind.up).imp fun as ρ2 q2 vs H2 hl r2 => ?_⟩
  refine q2 (v :: vs) H2 (by simp [hl]) (r2.good fun L g => g.perm ?_)
  rw [List.append_assoc, List.zipWith_cons_cons, List.cons_append]
  exact List.perm_middle.trans (by simp)
end

/-! ### arguments and what they are -/
section
variable {K : PySem.W.Frag} {H H' : Hp} {ρ : Rho} {σ : Sg} {T : List Item}
theorem kds_get {as : List Ar} : ∀ {vs : List V} {ds : List D} {T : List Item}, Rel K H ρ σ (tmps as vs ++ T) → Paired (Ar.at σ) as vs → gets ρ as = some ds → KDs K H ds vs := by
  induction as with
  | nil => intro vs ds T r p e; cases p; cases e; exact .nil
  | cons a as ih =>
    intro vs ds T r p e
    cases p with
    | @cons _ v _ vs p1 p2 =>
      unfold gets at e
      cases q : a.get ρ with
      | none => rw [q] at e; simp at e
      | some d =>
        cases q2 : gets ρ as with
        | none => rw [q, q2] at e; simp at e
        | some ds' =>
          rw [q, q2] at e
          simp only [Option.some.injEq] at e
          subst e
          have r' : Rel K H ρ σ (tmps as vs ++ (a.tmp v ++ T)) := r.good fun L g => g.perm (by
            show ((a.tmp v ++ tmps as vs) ++ T ++ L).Perm (tmps as vs ++ (a.tmp v ++ T) ++ L)
            rw [← List.append_assoc (tmps as vs)]
            exact (List.perm_append_comm.append_right T).append_right L)
          refine .cons ?_ (ih r' p2 q2)
          cases a with
          | val x =>
            have e : x.2 = d := by simpa [Ar.get] using q
            subst e
            have r2 : Rel K H ρ σ ((x.1, x.2, v) :: (tmps as vs ++ T)) := r
            exact r2.top
          | view i =>
            cases qc : ρ[i]? with
            | none => simp [Ar.get, qc] at q
            | some c =>
              cases c with
              | u => simp [Ar.get, qc] at q
              | c k d' =>
                have e : d' = d := by simpa [Ar.get, qc] using q
                subst e
                obtain ⟨v', hv, kd⟩ := r.kd qc
                have hv' : σ[i]? = some (some v) := p1
                rw [hv] at hv'
                cases hv'
                exact kd
theorem Rel.dropAs {as : List Ar} {vs : List V} (r : Rel K H ρ σ (tmps as vs ++ T)) : Rel K H ρ σ T := r.good fun L g => by
  rw [List.append_assoc] at g
  exact g.dropA
end

/-! ### operations whose answer is a number, a text, a truth value, None: the arguments are looked at alone -/
/-- the rule r does what o says -/
def SOp (K : PySem.W.Frag) (r : List V → Hp → VK → Prop) (o : List D → Option D) : Prop := ∀ H ds vs d, KDs K H ds vs → o ds = some d → d.isS = true ∧ ∀ Q : VK, Q d.sv H → r vs H Q
def sop (o : List D → Option D) (m : M (List Ar)) : M LD := m.bind fun as ρ => match gets ρ as with
  | some ds => match o ds with
    | some d => .ok (9, d) ρ
    | none => .no
  | none => .no
section
variable {X : Cx} {W : Wish} {e : Expr} {pos : Pos}
theorem sop_end {r : List V → Hp → VK → Prop} {o : List D → Option D} (ho : SOp X.K r o) {σ : Sg} {T : List Item} {as : List Ar} {ρ : Rho} {H : Hp} {vs : List V} {Q : VK} (rel : Rel X.K H ρ σ (tmps as vs ++ T)) (p : Paired (Ar.at σ) as vs)
    (h : Aft W T (match gets ρ as with | some ds => (match o ds with | some d => R.ok (9, d) ρ | none => R.no) | none => R.no) fun x ρ' => ∀ v H', Rel X.K H' ρ' σ ((x.1, x.2, v) :: T) → Q v H') : r vs H Q := by
  cases q : gets ρ as with
  | none => rw [q] at h; exact h.elim
  | some ds =>
    rw [q] at h
    simp only at h
    cases q2 : o ds with
    | none => rw [q2] at h; exact h.elim
    | some d =>
      rw [q2] at h
      obtain ⟨s, f⟩ := ho H ds vs d (kds_get rel p q) q2
      exact f Q (h _ H (rel.dropAs.scal s))
theorem v_callB {x : Str} {id : String} {r : List V → Hp → VK → Prop} {o : List D → Option D} {es : List Expr} {p : Pos} {m : M (List Ar)} (hc : CallR X (.builtin id) r) (ho : SOp X.K r o) (hg : Gl X x) (hm : X.mg x = none) (hv : bootBuiltins x = some (.builtin id)) (ha : PA X (e :: es) (tAs X.K W m))
    (hn : x ≠ "__name__" := by decide) (hdb : (x == ("__debug__" : Str)) = false := by decide) (he : starEach (e :: es) X.env = (false, eval e X.env) :: starEach es X.env := by rfl) (hpl : (backTo pos (starEach es X.env)).any (·.1) = false := by rfl) :
    PE X (.Call (.Name x p) (e :: es) [] pos) (tV X.K W (sop o m)) := by
  refine PE.imp (pe_callB hc hg hm hv ha hn hdb he hpl) fun σ H Q ⟨ρ, T, rel, a⟩ => ?_
  exact ⟨ρ, T, rel, a.bind.imp fun as ρ' h vs H' rel' p => sop_end ho rel' p h⟩
theorem v_callTy {x : Str} {id : String} {r : List V → Hp → VK → Prop} {o : List D → Option D} {es : List Expr} {p : Pos} {m : M (List Ar)} (hc : CallR X (.type id) r) (ho : SOp X.K r o) (hg : Gl X x) (hm : X.mg x = none) (hv : bootBuiltins x = some (.type id)) (ha : PA X (e :: es) (tAs X.K W m))
    (hn : x ≠ "__name__" := by decide) (hdb : (x == ("__debug__" : Str)) = false := by decide) (he : starEach (e :: es) X.env = (false, eval e X.env) :: starEach es X.env := by rfl) (hpl : (backTo pos (starEach es X.env)).any (·.1) = false := by rfl) :
    PE X (.Call (.Name x p) (e :: es) [] pos) (tV X.K W (sop o m)) := by
  refine PE.imp (pe_callTy hc hg hm hv ha hn hdb he hpl) fun σ H Q ⟨ρ, T, rel, a⟩ => ?_
  exact ⟨ρ, T, rel, a.bind.imp fun as ρ' h vs H' rel' p => sop_end ho rel' p h⟩
/-- two operands, one behind the other -/
def two (a b : M Ar) : M (List Ar) := a.bind fun x => b.bind fun y => M.ret [x, y]
theorem two_run {ea eb : Expr} {ma mb : M Ar} {r : R2} {σ : Sg} {H : Hp} {Q : VK} {o : List D → Option D} (ho : SOp X.K (fun vs H Q => ∃ x y, vs = [x, y] ∧ r x y H Q) o) (h : tV X.K W (sop o (two ma mb)) σ H Q) :
    tOp r (tA X.K W ma) (tA X.K W mb) σ H Q := by
  obtain ⟨ρ, T, rel, a⟩ := h
  refine ⟨ρ, T, rel, (a.bind.bind).imp fun x ρ1 q1 v H1 r1 p1 => ?_⟩
  refine ⟨ρ1, x.tmp v ++ T, r1, ((q1.bind).ups _).imp fun y ρ2 q2 w H2 r2 p2 => ?_⟩
  have r3 : Rel X.K H2 ρ2 σ (tmps [x, y] [v, w] ++ T) := r2.good fun L g => g.perm (by
    show (y.tmp w ++ (x.tmp v ++ T) ++ L).Perm (x.tmp v ++ (y.tmp w ++ []) ++ T ++ L)
    rw [List.append_nil, ← List.append_assoc (y.tmp w)]
    exact (List.perm_append_comm.append_right T).append_right L)
  have q2' : Aft W T (match gets ρ2 [x, y] with | some ds => (match o ds with | some d => R.ok (9, d) ρ2 | none => R.no) | none => R.no) fun x ρ' => ∀ v H', Rel X.K H' ρ' σ ((x.1, x.2, v) :: T) → Q v H' := q2
  obtain ⟨x', y', e, h⟩ := sop_end (W := W) (r := fun vs H Q => ∃ x y, vs = [x, y] ∧ r x y H Q) ho r3 (.cons p1 (.cons p2 .nil)) q2'
  cases e
  exact h
theorem v_op2 {ea eb : Expr} {op : Operator} {r : R2} {ma mb : M Ar} {o : List D → Option D} (hr : OpR X (binaryOp op) r) (ho : SOp X.K (fun vs H Q => ∃ x y, vs = [x, y] ∧ r x y H Q) o) (ha : PE X ea (tA X.K W ma)) (hb : PE X eb (tA X.K W mb)) :
    PE X (.BinOp ea op eb pos) (tV X.K W (sop o (two ma mb))) := PE.imp (pe_op hr ha hb) fun σ H Q h => two_run (ea := ea) (eb := eb) ho h
theorem v_cmp2 {ea eb : Expr} {op : CmpOp} {r : R2} {ma mb : M Ar} {o : List D → Option D} (hr : OpR X (compareOp op) r) (ho : SOp X.K (fun vs H Q => ∃ x y, vs = [x, y] ∧ r x y H Q) o) (ha : PE X ea (tA X.K W ma)) (hb : PE X eb (tA X.K W mb))
    (hm : behindInMarks op eb = false := by first | exact nomark _ (by decide) (by decide) | rfl) : PE X (.Compare ea [op] [eb] pos) (tV X.K W (sop o (two ma mb))) :=
  PE.imp (pe_cmpR hr ha hb hm) fun σ H Q h => two_run (ea := ea) (eb := eb) ho h
/-- the truth of a truth value -/
def asB (m : M LD) : M Bool := m.bind fun x => match x.2 with
  | .bl b => M.ret b
  | _ => fun _ => .no
theorem t_b {t : TE} {m : M LD} (h : PT X e (fun σ H Q => t σ H fun x H1 => ∃ c, x = V.bl c ∧ Q c H1)) (hm : ∀ σ H Q, tV X.K W m σ H Q → t σ H Q) : PT X e (tT X.K W (asB m)) := by
  refine PT.imp h fun σ H Q ⟨ρ, T, rel, a⟩ => hm σ H _ ⟨ρ, T, rel, a.bind.imp fun x ρ' q v H' r' => ?_⟩
  obtain ⟨k, d⟩ := x
  cases d with
  | bl b => exact ⟨b, r'.top.bl, q H' r'.drop⟩
  | _ => exact q.elim
/-- any expression that gives a truth value, as a test -/
theorem t_val {m : M LD} (h : PE X e (tV X.K W m)) (he : ∀ whole, isTrue e X.env whole = (do let v ← whole; standAt e.pos; holding [v] (truthy v)) := by intro _; rfl) : PT X e (tT X.K W (asB m)) :=
  t_b (t := tV X.K W m) (pt_val h he) fun _ _ _ h => h
theorem t_cmp2 {ea eb : Expr} {op : CmpOp} {r : R2} {ma mb : M Ar} {o : List D → Option D} (hr : OpR X (compareOp op) r) (ho : SOp X.K (fun vs H Q => ∃ x y, vs = [x, y] ∧ r x y H Q) o) (ha : PE X ea (tA X.K W ma)) (hb : PE X eb (tA X.K W mb))
    (hm : behindInMarks op eb = false := by first | exact nomark _ (by decide) (by decide) | rfl) : PT X (.Compare ea [op] [eb] pos) (tT X.K W (asB (sop o (two ma mb)))) :=
  t_b (t := tOp r (tA X.K W ma) (tA X.K W mb)) (pt_cmpR hr ha hb hm) fun σ H Q h => two_run (ea := ea) (eb := eb) ho h

/-! ### and, or, not, if else -/
def andT (a b : M Bool) : M Bool := a.bind fun x => if x then b else M.ret false
def orT (a b : M Bool) : M Bool := a.bind fun x => if x then M.ret true else b
def notT (a : M Bool) : M Bool := a.bind fun x => M.ret (!x)
variable {a b : Expr} {rest : List Expr} {ma mb : M Bool}
theorem w_one {op : BoolOp} (ha : PT X a (tT X.K W ma)) : PW X (.BoolOp op [a] pos) (tT X.K W ma) := by
  cases op with
  | And => exact pw_and1 ha
  | Or => exact pw_or1 ha
theorem w_and (ha : PT X a (tT X.K W ma)) (hb : PW X (.BoolOp .And (b :: rest) pos) (tT X.K W mb)) : PW X (.BoolOp .And (a :: b :: rest) pos) (tT X.K W (andT ma mb)) := by
  refine PW.imp (pw_and ha hb) fun σ H Q ⟨ρ, T, rel, h⟩ => ⟨ρ, T, rel, h.bind.imp fun x ρ' q H' r' => ?_⟩
  cases x with
  | true => rw [if_pos rfl]; exact ⟨ρ', T, r', q⟩
  | false => rw [if_neg Bool.false_ne_true]; exact q H' r'
theorem w_or (ha : PT X a (tT X.K W ma)) (hb : PW X (.BoolOp .Or (b :: rest) pos) (tT X.K W mb)) : PW X (.BoolOp .Or (a :: b :: rest) pos) (tT X.K W (orT ma mb)) := by
  refine PW.imp (pw_or ha hb) fun σ H Q ⟨ρ, T, rel, h⟩ => ⟨ρ, T, rel, h.bind.imp fun x ρ' q H' r' => ?_⟩
  cases x with
  | true => rw [if_pos rfl]; exact q H' r'
  | false => rw [if_neg Bool.false_ne_true]; exact ⟨ρ', T, r', q⟩
theorem t_w (h : PW X e (tT X.K W ma)) : PT X e (tT X.K W ma) := h.pt
theorem t_not (h : PT X a (tT X.K W ma)) : PT X (.UnaryOp .Not a pos) (tT X.K W (notT ma)) :=
  PT.imp (pt_not h) fun σ H Q ⟨ρ, T, rel, h⟩ => ⟨ρ, T, rel, h.bind.imp fun x ρ' q H' r' => q H' r'⟩
def iteV {α : Type} (c : M Bool) (x y : M α) : M α := c.bind fun b => if b then x else y
theorem v_ite {c : Expr} {mc : M Bool} {x y : M LD} (hc : PT X c (tT X.K W mc)) (ha : PE X a (tV X.K W x)) (hb : PE X b (tV X.K W y)) : PE X (.IfExp c a b pos) (tV X.K W (iteV mc x y)) := by
  refine PE.imp (pe_ifExp hc ha hb) fun σ H Q ⟨ρ, T, rel, h⟩ => ⟨ρ, T, rel, h.bind.imp fun z ρ' q H' r' => ?_⟩
  cases z with
  | true => rw [if_pos rfl]; exact ⟨ρ', T, r', q⟩
  | false => rw [if_neg Bool.false_ne_true]; exact ⟨ρ', T, r', q⟩
/-- as values, of truth values -/
def andV (a b : M LD) : M LD := a.bind fun x => match x.2 with
  | .bl true => b
  | .bl false => M.ret (9, .bl false)
  | _ => fun _ => .no
def orV (a b : M LD) : M LD := a.bind fun x => match x.2 with
  | .bl true => M.ret (9, .bl true)
  | .bl false => b
  | _ => fun _ => .no
def notV (a : M LD) : M LD := a.bind fun x => match x.2 with
  | .bl b => M.ret (9, .bl (!b))
  | _ => fun _ => .no
variable {va vb : M LD}
theorem v_one {op : BoolOp} (ha : PE X a (tV X.K W va)) : PE X (.BoolOp op [a] pos) (tV X.K W va) := pe_one ha
theorem v_and (ha : PE X a (tV X.K W va)) (hb : PE X (.BoolOp .And (b :: rest) pos) (tV X.K W vb)) : PE X (.BoolOp .And (a :: b :: rest) pos) (tV X.K W (andV va vb)) := by
  refine PE.imp (pe_and ha hb) fun σ H Q ⟨ρ, T, rel, h⟩ => ⟨ρ, T, rel, h.bind.imp fun x ρ' q v H' r' => ?_⟩
  obtain ⟨k, d⟩ := x
  cases d with
  | bl c =>
    refine ⟨c, r'.top.bl, ?_⟩
    cases c with
    | true => rw [if_pos rfl]; exact ⟨ρ', T, r'.drop, q⟩
    | false => rw [if_neg Bool.false_ne_true]; exact q _ H' (r'.drop.scal (d := .bl false) rfl)
  | _ => exact q.elim
theorem v_or (ha : PE X a (tV X.K W va)) (hb : PE X (.BoolOp .Or (b :: rest) pos) (tV X.K W vb)) : PE X (.BoolOp .Or (a :: b :: rest) pos) (tV X.K W (orV va vb)) := by
  refine PE.imp (pe_or ha hb) fun σ H Q ⟨ρ, T, rel, h⟩ => ⟨ρ, T, rel, h.bind.imp fun x ρ' q v H' r' => ?_⟩
  obtain ⟨k, d⟩ := x
  cases d with
  | bl c =>
    refine ⟨c, r'.top.bl, ?_⟩
    cases c with
    | true => rw [if_pos rfl]; exact q _ H' (r'.drop.scal (d := .bl true) rfl)
    | false => rw [if_neg Bool.false_ne_true]; exact ⟨ρ', T, r'.drop, q⟩
  | _ => exact q.elim
theorem v_not (ha : PE X a (tV X.K W va)) : PE X (.UnaryOp .Not a pos) (tV X.K W (notV va)) := by
  refine PE.imp (pe_not ha) fun σ H Q ⟨ρ, T, rel, h⟩ => ⟨ρ, T, rel, h.bind.imp fun x ρ' q v H' r' => ?_⟩
  obtain ⟨k, d⟩ := x
  cases d with
  | bl c => exact ⟨c, r'.top.bl, q _ H' (r'.drop.scal (d := .bl (!c)) rfl)⟩
  | _ => exact q.elim
end
end Vs
set_option Elab.async false
set_option linter.all false
set_option maxRecDepth 100000
set_option maxHeartbeats 2000000
/-! Vs3: operations. -/
namespace Vs
open PySem PySem.Spec PyProof.Rows L2

abbrev lineN : Nat := 16777216
theorem lineE : sizeLine = lineN := sizeLine_eq

/-! ### numbers -/
def oI2 (f : Int → Int → Int) : List D → Option D
  | [.int i, .int j] => some (.int (f i j))
  | _ => none
def oI2c (c : Int → Int → Bool) (f : Int → Int → Int) : List D → Option D
  | [.int i, .int j] => if c i j then some (.int (f i j)) else none
  | _ => none
def oB2 (f : Int → Int → Bool) : List D → Option D
  | [.int i, .int j] => some (.bl (f i j))
  | _ => none
def mulOk (i j : Int) : Bool := decide (i.natAbs < 2 ^ 64) || decide (j.natAbs < 2 ^ 64) || decide (i.natAbs.log2 + j.natAbs.log2 < 1000000)
def divOk (_ j : Int) : Bool := decide (0 < j) && decide (j.natAbs.log2 < 9000)
def modOk (_ j : Int) : Bool := decide (0 < j)
def powOk (i j : Int) : Bool := decide (0 ≤ j) && decide (j ≤ 1000000) && decide (i.natAbs < 2 ^ 64)
def shrOk (_ j : Int) : Bool := decide (0 ≤ j)
section
variable {K : PySem.W.Frag} {H : Hp}
theorem kds2 {x y : D} {vs : List V} (h : KDs K H [x, y] vs) : ∃ v w, vs = [v, w] ∧ KD K H x v ∧ KD K H y w := by
  cases h with
  | cons h1 h =>
    cases h with
    | cons h2 h => cases h; exact ⟨_, _, rfl, h1, h2⟩
theorem kds1 {x : D} {vs : List V} (h : KDs K H [x] vs) : ∃ v, vs = [v] ∧ KD K H x v := by
  cases h with
  | cons h1 h => cases h; exact ⟨_, rfl, h1⟩
theorem s_I2 {f : Int → Int → Int} : SOp K (fun vs H Q => ∃ x y, vs = [x, y] ∧ rI0 (fun i j => .int (f i j)) x y H Q) (oI2 f) := by
  intro H ds vs d h e
  unfold oI2 at e
  split at e
  · cases e
    obtain ⟨v, w, rfl, h1, h2⟩ := kds2 h
    obtain rfl := h1.int
    obtain rfl := h2.int
    exact ⟨rfl, fun Q q => ⟨_, _, rfl, _, _, rfl, rfl, q⟩⟩
  · cases e
theorem s_I2c {C : Int → Int → Prop} {c : Int → Int → Bool} {f : Int → Int → Int} (hc : ∀ i j, c i j = true → C i j) : SOp K (fun vs H Q => ∃ x y, vs = [x, y] ∧ rI C (fun i j => .int (f i j)) x y H Q) (oI2c c f) := by
  intro H ds vs d h e
  unfold oI2c at e
  split at e
  · rename_i i j
    by_cases q : c i j = true
    · rw [if_pos q] at e
      cases e
      obtain ⟨v, w, rfl, h1, h2⟩ := kds2 h
      obtain rfl := h1.int
      obtain rfl := h2.int
      exact ⟨rfl, fun Q q' => ⟨_, _, rfl, _, _, rfl, rfl, hc _ _ q, q'⟩⟩
    · rw [if_neg q] at e; cases e
  · cases e
theorem s_B2 {f : Int → Int → Bool} : SOp K (fun vs H Q => ∃ x y, vs = [x, y] ∧ rI0 (fun i j => .bl (f i j)) x y H Q) (oB2 f) := by
  intro H ds vs d h e
  unfold oB2 at e
  split at e
  · cases e
    obtain ⟨v, w, rfl, h1, h2⟩ := kds2 h
    obtain rfl := h1.int
    obtain rfl := h2.int
    exact ⟨rfl, fun Q q => ⟨_, _, rfl, _, _, rfl, rfl, q⟩⟩
  · cases e
theorem mulOk_ok {i j : Int} (h : mulOk i j = true) : IntMulOk i j := by
  unfold mulOk at h
  rcases Bool.or_eq_true_iff.mp h with h | h
  · rcases Bool.or_eq_true_iff.mp h with h | h
    · have := of_decide_eq_true h
      exact CMul.ok (.inl ⟨by omega, by omega⟩)
    · have := of_decide_eq_true h
      exact CMul.ok (.inr ⟨by omega, by omega⟩)
  · have h9 : i.natAbs.log2 + j.natAbs.log2 < 1000000 := of_decide_eq_true h; exact CMulW.ok h9
end
section
variable {X : Cx}
theorem op_mulX : OpR X (binaryOp .Mult) (rI (fun i j => mulOk i j = true) fun i j => .int (i * j)) := opI fun _ _ _ _ _ _ _ hc q => mul_int q (mulOk_ok hc)
end
def oSub := oI2 fun i j => i - j
def oDiv := oI2c divOk fun i j => i / j
def oMod := oI2c modOk fun i j => i % j
def oPow := oI2c powOk fun i j => i ^ j.toNat
def oShr := oI2c shrOk fun i j => i / 2 ^ j.toNat
def oShl := oI2c powOk fun i j => i * 2 ^ j.toNat
def oAnd := oI2 Builtin.bitAnd
def oOr := oI2 Builtin.bitOr
def oXor := oI2 Builtin.bitXor
def oLt := oB2 fun i j => decide (i < j)
def oLe := oB2 fun i j => decide (i ≤ j)
def oGt := oB2 fun i j => decide (j < i)
def oGe := oB2 fun i j => decide (j ≤ i)
section
variable {X : Cx} {W : Wish} {ea eb : Expr} {pos : Pos} {ma mb : M Ar}
theorem divOk_ok {i j : Int} (h : divOk i j = true) : CDivW i j := by
  unfold divOk at h
  rw [Bool.and_eq_true] at h
  exact ⟨of_decide_eq_true h.1, of_decide_eq_true h.2⟩
theorem powOk_ok {i j : Int} (h : powOk i j = true) : CPow i j := by
  unfold powOk at h
  rw [Bool.and_eq_true, Bool.and_eq_true] at h
  exact ⟨of_decide_eq_true h.1.1, of_decide_eq_true h.1.2, of_decide_eq_true h.2⟩
theorem v_sub (ha : PE X ea (tA X.K W ma)) (hb : PE X eb (tA X.K W mb)) : PE X (.BinOp ea .Sub eb pos) (tV X.K W (sop oSub (two ma mb))) := v_op2 op_sub s_I2 ha hb
theorem v_div (ha : PE X ea (tA X.K W ma)) (hb : PE X eb (tA X.K W mb)) : PE X (.BinOp ea .FloorDiv eb pos) (tV X.K W (sop oDiv (two ma mb))) := v_op2 op_fdivW (s_I2c fun _ _ => divOk_ok) ha hb
theorem v_mod (ha : PE X ea (tA X.K W ma)) (hb : PE X eb (tA X.K W mb)) : PE X (.BinOp ea .Mod eb pos) (tV X.K W (sop oMod (two ma mb))) := v_op2 op_mod (s_I2c fun _ _ h => of_decide_eq_true h) ha hb
theorem v_pow (ha : PE X ea (tA X.K W ma)) (hb : PE X eb (tA X.K W mb)) : PE X (.BinOp ea .Pow eb pos) (tV X.K W (sop oPow (two ma mb))) := v_op2 op_pow (s_I2c fun _ _ => powOk_ok) ha hb
theorem v_shr (ha : PE X ea (tA X.K W ma)) (hb : PE X eb (tA X.K W mb)) : PE X (.BinOp ea .RShift eb pos) (tV X.K W (sop oShr (two ma mb))) := v_op2 op_shr (s_I2c fun _ _ h => of_decide_eq_true h) ha hb
theorem v_shl (ha : PE X ea (tA X.K W ma)) (hb : PE X eb (tA X.K W mb)) : PE X (.BinOp ea .LShift eb pos) (tV X.K W (sop oShl (two ma mb))) := v_op2 op_shl (s_I2c fun _ _ => powOk_ok) ha hb
theorem v_band (ha : PE X ea (tA X.K W ma)) (hb : PE X eb (tA X.K W mb)) : PE X (.BinOp ea .BitAnd eb pos) (tV X.K W (sop oAnd (two ma mb))) := v_op2 op_and s_I2 ha hb
theorem v_bor (ha : PE X ea (tA X.K W ma)) (hb : PE X eb (tA X.K W mb)) : PE X (.BinOp ea .BitOr eb pos) (tV X.K W (sop oOr (two ma mb))) := v_op2 op_or s_I2 ha hb
theorem v_bxor (ha : PE X ea (tA X.K W ma)) (hb : PE X eb (tA X.K W mb)) : PE X (.BinOp ea .BitXor eb pos) (tV X.K W (sop oXor (two ma mb))) := v_op2 op_xor s_I2 ha hb
theorem v_lt (ha : PE X ea (tA X.K W ma)) (hb : PE X eb (tA X.K W mb)) : PE X (.Compare ea [.Lt] [eb] pos) (tV X.K W (sop oLt (two ma mb))) := v_cmp2 op_lt s_B2 ha hb
theorem v_le (ha : PE X ea (tA X.K W ma)) (hb : PE X eb (tA X.K W mb)) : PE X (.Compare ea [.LtE] [eb] pos) (tV X.K W (sop oLe (two ma mb))) := v_cmp2 op_le s_B2 ha hb
theorem v_gt (ha : PE X ea (tA X.K W ma)) (hb : PE X eb (tA X.K W mb)) : PE X (.Compare ea [.Gt] [eb] pos) (tV X.K W (sop oGt (two ma mb))) := v_cmp2 op_gt s_B2 ha hb
theorem v_ge (ha : PE X ea (tA X.K W ma)) (hb : PE X eb (tA X.K W mb)) : PE X (.Compare ea [.GtE] [eb] pos) (tV X.K W (sop oGe (two ma mb))) := v_cmp2 op_ge s_B2 ha hb
theorem t_lt (ha : PE X ea (tA X.K W ma)) (hb : PE X eb (tA X.K W mb)) : PT X (.Compare ea [.Lt] [eb] pos) (tT X.K W (asB (sop oLt (two ma mb)))) := t_cmp2 op_lt s_B2 ha hb
theorem t_le (ha : PE X ea (tA X.K W ma)) (hb : PE X eb (tA X.K W mb)) : PT X (.Compare ea [.LtE] [eb] pos) (tT X.K W (asB (sop oLe (two ma mb)))) := t_cmp2 op_le s_B2 ha hb
theorem t_gt (ha : PE X ea (tA X.K W ma)) (hb : PE X eb (tA X.K W mb)) : PT X (.Compare ea [.Gt] [eb] pos) (tT X.K W (asB (sop oGt (two ma mb)))) := t_cmp2 op_gt s_B2 ha hb
theorem t_ge (ha : PE X ea (tA X.K W ma)) (hb : PE X eb (tA X.K W mb)) : PT X (.Compare ea [.GtE] [eb] pos) (tT X.K W (asB (sop oGe (two ma mb)))) := t_cmp2 op_ge s_B2 ha hb
end

/-! ### == and != of data -/
mutual
def py : D → Option PyData
  | .non => some .none
  | .bl b => some (.bool b)
  | .int i => some (.int i)
  | .str x => some (.str x)
  | .tup xs => (pys xs).map .tuple
  | .lst xs => (pys xs).map .list
  | .dic _ => none
  | .dit _ => none
  | .iset _ => none
  | .rol _ => none
  | .pin _ => none
def pys : List D → Option (List PyData)
  | [] => some []
  | x :: xs => match py x, pys xs with
    | some a, some as => some (a :: as)
    | _, _ => none
end
section
variable {K : PySem.W.Frag} {H : Hp}
mutual
theorem py_dp : ∀ (d : D) {v : V} {p : PyData}, KD K H d v → py d = some p → Dp K H v p
  | .non, v, p, h, e => by rw [h.non]; unfold py at e; cases e; exact .non
  | .bl b, v, p, h, e => by rw [h.bl]; unfold py at e; cases e; exact .bl b
  | .int i, v, p, h, e => by rw [h.int]; unfold py at e; cases e; exact .int i
  | .str x, v, p, h, e => by rw [h.str]; unfold py at e; cases e; exact .str x
  | .tup xs, v, p, h, e => by
    obtain ⟨a, vs, rfl, h1, h2⟩ := h.tup
    unfold py at e
    cases q : pys xs with
    | none => rw [q] at e; cases e
    | some ps => rw [q] at e; cases e; exact .tup h1 (pys_dp xs h2 q)
  | .lst xs, v, p, h, e => by
    obtain ⟨a, vs, rfl, h1, h2⟩ := h.lst
    unfold py at e
    cases q : pys xs with
    | none => rw [q] at e; cases e
    | some ps => rw [q] at e; cases e; exact .lst (SqL.of h1) (pys_dp xs h2 q)
  | .dic _, _, _, _, e => by unfold py at e; cases e
  | .dit _, _, _, _, e => by unfold py at e; cases e
  | .iset _, _, _, _, e => by unfold py at e; cases e
  | .rol _, _, _, _, e => by unfold py at e; cases e
  | .pin _, _, _, _, e => by unfold py at e; cases e
theorem pys_dp : ∀ (ds : List D) {vs : List V} {ps : List PyData}, KDs K H ds vs → pys ds = some ps → DpAll K H vs ps
  | [], vs, ps, h, e => by cases h; unfold pys at e; cases e; exact .nil
  | d :: ds, vs, ps, h, e => by
    cases h with
    | cons h1 h2 =>
      unfold pys at e
      cases q : py d with
      | none => rw [q] at e; simp at e
      | some a =>
        cases q2 : pys ds with
        | none => rw [q, q2] at e; simp at e
        | some as =>
          rw [q, q2] at e
          simp only [Option.some.injEq] at e
          subst e
          exact .cons (py_dp d h1 q) (pys_dp ds h2 q2)
end
end
/-- two data: whether they are == -/
def eqD (x y : D) : Option Bool := match x, y with
  | .int i, .int j => some (decide (i = j))
  | .str i, .str j => some (decide (i = j))
  | .bl i, .bl j => some (decide (i = j))
  | x, y => match py x, py y with
    | some a, some b => if SeqAt.shaped a && SeqAt.shaped b then some (PyData.eqv a b) else none
    | _, _ => none
def oEq : List D → Option D
  | [x, y] => (eqD x y).map .bl
  | _ => none
def oNe : List D → Option D
  | [x, y] => (eqD x y).map fun b => .bl (!b)
  | _ => none
/-- the rule of == -/
def rEqX (K : PySem.W.Frag) : R2 := fun x y H Q => rEq x y H Q ∨ rEqD K x y H Q
def rNeX (K : PySem.W.Frag) : R2 := fun x y H Q => rNe x y H Q ∨ rNeD K x y H Q
section
variable {K : PySem.W.Frag} {H : Hp}
theorem eqD_ok {x y : D} {v w : V} {b : Bool} (h1 : KD K H x v) (h2 : KD K H y w) (e : eqD x y = some b) :
    (∀ Q : VK, Q (.bl b) H → rEqX K v w H Q) ∧ ∀ Q : VK, Q (.bl (!b)) H → rNeX K v w H Q := by
  unfold eqD at e
  split at e
  · cases e; rw [h1.int, h2.int]
    exact ⟨fun Q q => .inl ⟨rfl, by rw [dec_int, Bool.beq_eq_decide_eq]; exact q⟩, fun Q q => .inl ⟨rfl, by rw [dec_int, Bool.beq_eq_decide_eq]; exact q⟩⟩
  · cases e; rw [h1.str, h2.str]
    exact ⟨fun Q q => .inl ⟨rfl, by rw [dec_str, Bool.beq_eq_decide_eq]; exact q⟩, fun Q q => .inl ⟨rfl, by rw [dec_str, Bool.beq_eq_decide_eq]; exact q⟩⟩
  · cases e; rw [h1.bl, h2.bl]
    exact ⟨fun Q q => .inl ⟨rfl, by rw [dec_bl, Bool.beq_eq_decide_eq]; exact q⟩, fun Q q => .inl ⟨rfl, by rw [dec_bl, Bool.beq_eq_decide_eq]; exact q⟩⟩
  · split at e
    · rename_i a b' p1 p2
      by_cases s : (SeqAt.shaped a && SeqAt.shaped b') = true
      · rw [if_pos s] at e
        cases e
        rw [Bool.and_eq_true] at s
        exact ⟨fun Q q => .inr ⟨a, b', py_dp x h1 p1, py_dp y h2 p2, s.1, s.2, q⟩, fun Q q => .inr ⟨a, b', py_dp x h1 p1, py_dp y h2 p2, s.1, s.2, q⟩⟩
      · rw [if_neg s] at e; cases e
    · cases e
theorem s_eq : SOp K (fun vs H Q => ∃ x y, vs = [x, y] ∧ rEqX K x y H Q) oEq := by
  intro H ds vs d h e
  unfold oEq at e
  split at e
  · rename_i x y
    cases q : eqD x y with
    | none => rw [q] at e; cases e
    | some b =>
      rw [q] at e; cases e
      obtain ⟨v, w, rfl, h1, h2⟩ := kds2 h
      exact ⟨rfl, fun Q q' => ⟨v, w, rfl, (eqD_ok h1 h2 q).1 Q q'⟩⟩
  · cases e
theorem s_ne : SOp K (fun vs H Q => ∃ x y, vs = [x, y] ∧ rNeX K x y H Q) oNe := by
  intro H ds vs d h e
  unfold oNe at e
  split at e
  · rename_i x y
    cases q : eqD x y with
    | none => rw [q] at e; cases e
    | some b =>
      rw [q] at e; cases e
      obtain ⟨v, w, rfl, h1, h2⟩ := kds2 h
      exact ⟨rfl, fun Q q' => ⟨v, w, rfl, (eqD_ok h1 h2 q).2 Q q'⟩⟩
  · cases e
end
section
variable {X : Cx} {W : Wish} {ea eb : Expr} {pos : Pos} {ma mb : M Ar} {k : Nat}
theorem v_eq (hr : Room k X.A) (ha : PE X ea (tA X.K W ma)) (hb : PE X eb (tA X.K W mb)) : PE X (.Compare ea [.Eq] [eb] pos) (tV X.K W (sop oEq (two ma mb))) := v_cmp2 (OpR.or op_eq (op_eqD hr.units)) s_eq ha hb
theorem v_ne (hr : Room k X.A) (ha : PE X ea (tA X.K W ma)) (hb : PE X eb (tA X.K W mb)) : PE X (.Compare ea [.NotEq] [eb] pos) (tV X.K W (sop oNe (two ma mb))) := v_cmp2 (OpR.or op_ne (op_neD hr.units)) s_ne ha hb
theorem t_eq (hr : Room k X.A) (ha : PE X ea (tA X.K W ma)) (hb : PE X eb (tA X.K W mb)) : PT X (.Compare ea [.Eq] [eb] pos) (tT X.K W (asB (sop oEq (two ma mb)))) := t_cmp2 (OpR.or op_eq (op_eqD hr.units)) s_eq ha hb
theorem t_ne (hr : Room k X.A) (ha : PE X ea (tA X.K W ma)) (hb : PE X eb (tA X.K W mb)) : PT X (.Compare ea [.NotEq] [eb] pos) (tT X.K W (asB (sop oNe (two ma mb)))) := t_cmp2 (OpR.or op_ne (op_neD hr.units)) s_ne ha hb
end

/-! ### is None -/
def D.isN : D → Bool
  | .non => true
  | _ => false
def oIsN : List D → Option D
  | [x, .non] => some (.bl x.isN)
  | _ => none
def oNotN : List D → Option D
  | [x, .non] => some (.bl (!x.isN))
  | _ => none
section
variable {K : PySem.W.Frag} {H : Hp}
theorem KD.isN {d : D} {v : V} (h : KD K H d v) : decide (v = .non) = d.isN := by
  obtain ⟨_, _, _, _, _, r, _⟩ := h
  cases r <;> simp [D.isN]
theorem s_isN : SOp K (fun vs H Q => ∃ x y, vs = [x, y] ∧ (y = .non ∧ Q (.bl (decide (x = .non))) H)) oIsN := by
  intro H ds vs d h e
  unfold oIsN at e
  split at e
  · cases e
    obtain ⟨v, w, rfl, h1, h2⟩ := kds2 h
    obtain rfl := h2.non
    exact ⟨rfl, fun Q q => ⟨_, _, rfl, rfl, by rw [h1.isN]; exact q⟩⟩
  · cases e
theorem s_notN : SOp K (fun vs H Q => ∃ x y, vs = [x, y] ∧ (y = .non ∧ Q (.bl (!decide (x = .non))) H)) oNotN := by
  intro H ds vs d h e
  unfold oNotN at e
  split at e
  · cases e
    obtain ⟨v, w, rfl, h1, h2⟩ := kds2 h
    obtain rfl := h2.non
    exact ⟨rfl, fun Q q => ⟨_, _, rfl, rfl, by rw [h1.isN]; exact q⟩⟩
  · cases e
end
section
variable {X : Cx} {W : Wish} {ea eb : Expr} {pos : Pos} {ma mb : M Ar} {k : Nat}
theorem v_isN (ha : PE X ea (tA X.K W ma)) (hb : PE X eb (tA X.K W mb)) : PE X (.Compare ea [.Is] [eb] pos) (tV X.K W (sop oIsN (two ma mb))) := v_cmp2 op_isN s_isN ha hb
theorem v_notN (ha : PE X ea (tA X.K W ma)) (hb : PE X eb (tA X.K W mb)) : PE X (.Compare ea [.IsNot] [eb] pos) (tV X.K W (sop oNotN (two ma mb))) := v_cmp2 op_notN s_notN ha hb
theorem t_isN (ha : PE X ea (tA X.K W ma)) (hb : PE X eb (tA X.K W mb)) : PT X (.Compare ea [.Is] [eb] pos) (tT X.K W (asB (sop oIsN (two ma mb)))) := t_cmp2 op_isN s_isN ha hb
theorem t_notN (ha : PE X ea (tA X.K W ma)) (hb : PE X eb (tA X.K W mb)) : PT X (.Compare ea [.IsNot] [eb] pos) (tT X.K W (asB (sop oNotN (two ma mb)))) := t_cmp2 op_notN s_notN ha hb
end

/-! ### -x; abs, int, len, sum -/
def oNeg : D → Option D
  | .int i => some (.int (-i))
  | _ => none
def un (o : D → Option D) (m : M Ar) : M LD := m.bind fun a ρ => match a.get ρ with
  | some x => match o x with
    | some d => .ok (9, d) ρ
    | none => .no
  | none => .no
section
variable {X : Cx} {W : Wish} {ea : Expr} {pos : Pos} {ma : M Ar}
theorem get_kd {K : PySem.W.Frag} {H : Hp} {ρ : Rho} {σ : Sg} {T : List Item} {a : Ar} {v : V} {d : D} (r : Rel K H ρ σ (a.tmp v ++ T)) (p : a.at σ v) (e : a.get ρ = some d) : KD K H d v := by
  have r' : Rel K H ρ σ (tmps [a] [v] ++ T) := r.good fun L g => by
    show Good K [] H ((a.tmp v ++ []) ++ T ++ L)
    rw [List.append_nil]; exact g
  have := kds_get r' (.cons p .nil) (by unfold gets; rw [e]; rfl)
  obtain ⟨w, e2, k⟩ := kds1 this
  cases e2
  exact k
theorem v_neg (ha : PE X ea (tA X.K W ma)) : PE X (.UnaryOp .USub ea pos) (tV X.K W (un oNeg ma)) := by
  refine PE.imp (pe_un un_neg ha) fun σ H Q ⟨ρ, T, rel, h⟩ => ⟨ρ, T, rel, h.bind.imp fun a ρ' q v H' r' p => ?_⟩
  cases e : a.get ρ' with
  | none => rw [e] at q; exact q.elim
  | some x =>
    rw [e] at q
    simp only at q
    cases x with
    | int i =>
      obtain rfl := (get_kd r' p e).int
      exact ⟨i, rfl, q (.int (-i)) H' ((r'.good fun L g => by rw [List.append_assoc] at g; exact g.dropA).scal (d := .int (-i)) rfl)⟩
    | _ => exact q.elim
end
def o1 (f : D → Option D) : List D → Option D
  | [x] => f x
  | _ => none
def fAbs : D → Option D
  | .int i => some (.int (if i < 0 then -i else i))
  | _ => none
def fInt : D → Option D
  | .int i => some (.int i)
  | .bl b => some (.int (if b then 1 else 0))
  | _ => none
def fLen : D → Option D
  | .tup xs => some (.int xs.length)
  | .lst xs => some (.int xs.length)
  | .rol xs => some (.int xs.length)
  | _ => none
/-- a row of numbers -/
def numsD : List D → Option (List Int)
  | [] => some []
  | .int i :: xs => (numsD xs).map (i :: ·)
  | _ => none
def fSum : D → Option D
  | .tup xs => (numsD xs).map fun ns => .int ns.sum
  | .lst xs => (numsD xs).map fun ns => .int ns.sum
  | _ => none
section
variable {K : PySem.W.Frag} {H : Hp}
theorem numsD_map : ∀ {ds : List D} {ns : List Int}, numsD ds = some ns → ds = ns.map .int
  | [], _, e => by cases e; rfl
  | .int i :: xs, ns, e => by
    unfold numsD at e
    cases q : numsD xs with
    | none => rw [q] at e; cases e
    | some ms => rw [q] at e; cases e; rw [numsD_map q]; rfl
  | .non :: _, _, e => by cases e
  | .bl _ :: _, _, e => by cases e
  | .str _ :: _, _, e => by cases e
  | .tup _ :: _, _, e => by cases e
  | .lst _ :: _, _, e => by cases e
  | .dic _ :: _, _, e => by cases e
  | .dit _ :: _, _, e => by cases e
  | .iset _ :: _, _, e => by cases e
  | .rol _ :: _, _, e => by cases e
  | .pin _ :: _, _, e => by cases e
theorem s_abs : SOp K (fun xs H Q => ∃ i, xs = [V.int i] ∧ Q (.int (if i < 0 then -i else i)) H) (o1 fAbs) := by
  intro H ds vs d h e
  unfold o1 at e
  split at e
  · obtain ⟨v, rfl, k⟩ := kds1 h
    unfold fAbs at e
    split at e
    · cases e
      obtain rfl := k.int
      exact ⟨rfl, fun Q q => ⟨_, rfl, q⟩⟩
    · cases e
  · cases e
theorem s_int : SOp K (fun xs H Q => (∃ i, xs = [V.int i] ∧ Q (.int i) H) ∨ ∃ k, xs = [V.bl k] ∧ Q (.int (if k then 1 else 0)) H) (o1 fInt) := by
  intro H ds vs d h e
  unfold o1 at e
  split at e
  · obtain ⟨v, rfl, k⟩ := kds1 h
    unfold fInt at e
    split at e
    · cases e
      obtain rfl := k.int
      exact ⟨rfl, fun Q q => .inl ⟨_, rfl, q⟩⟩
    · cases e
      obtain rfl := k.bl
      exact ⟨rfl, fun Q q => .inr ⟨_, rfl, q⟩⟩
    · cases e
  · cases e
theorem s_len : SOp K (fun xs H Q => ∃ p ys, xs = [V.ref p] ∧ (SqL K H p ys ∨ SqT K H p ys) ∧ Q (.int ys.length) H) (o1 fLen) := by
  intro H ds vs d h e
  unfold o1 at e
  split at e
  · obtain ⟨v, rfl, k⟩ := kds1 h
    unfold fLen at e
    split at e
    · cases e
      obtain ⟨p, ws, rfl, h1, h2⟩ := k.tup
      exact ⟨rfl, fun Q q => ⟨p, ws, rfl, .inr h1, by rw [← h2.length]; exact q⟩⟩
    · cases e
      obtain ⟨p, ws, rfl, h1, h2⟩ := k.lst
      exact ⟨rfl, fun Q q => ⟨p, ws, rfl, .inl (SqL.of h1), by rw [← h2.length]; exact q⟩⟩
    · cases e
      obtain ⟨p, ws, rfl, h1, h2⟩ := k.rol
      exact ⟨rfl, fun Q q => ⟨p, ws, rfl, .inl h1, by rw [← h2.length]; exact q⟩⟩
    · cases e
  · cases e
def rSumX (K : PySem.W.Frag) : List V → Hp → VK → Prop := fun vs H Q => ∃ (a : Addr) (ns : List Int), vs = [V.ref a] ∧ (SqL K H a (ns.map V.int) ∨ SqT K H a (ns.map V.int)) ∧ Q (.int ns.sum) H
theorem s_sum : SOp K (rSumX K) (o1 fSum) := by
  intro H ds vs d h e
  unfold o1 at e
  split at e
  · obtain ⟨v, rfl, k⟩ := kds1 h
    unfold fSum at e
    split at e
    · rename_i xs
      cases q : numsD xs with
      | none => rw [q] at e; cases e
      | some ns =>
        rw [q] at e; cases e
        obtain rfl := numsD_map q
        obtain ⟨p, ws, rfl, h1, h2⟩ := k.tup
        obtain rfl := h2.ints
        exact ⟨rfl, fun Q q => ⟨p, ns, rfl, .inr h1, q⟩⟩
    · rename_i xs
      cases q : numsD xs with
      | none => rw [q] at e; cases e
      | some ns =>
        rw [q] at e; cases e
        obtain rfl := numsD_map q
        obtain ⟨p, ws, rfl, h1, h2⟩ := k.lst
        obtain rfl := h2.ints
        exact ⟨rfl, fun Q q => ⟨p, ns, rfl, .inl (SqL.of h1), q⟩⟩
    · cases e
  · cases e
end
/-- sum of a tuple of numbers -/
theorem sum_tup {prog : Program} {w : World} {A : Around} {E : Value → Shared → Prop} {s : Shared} {l : Addr} {us : List Value} {ns : List Int} {Q : Value → Shared → Prop} (hh : A.handled = none) (hl : s.heap.IsTuple l us.toArray) (hi : IntsAre us ns)
    (h : ∀ h' tk t', (∀ b o, s.heap.get? b = some o → h'.get? b = some o) → Q (.int ns.sum t') { s with heap := h', toks := tk }) : wpAny (model prog w) A (call (.builtin "sum") [.ref l]) Q E s := by
  obtain ⟨xs, e⟩ := hi.allInts.items
  have hn : numsOf (intItems xs).toList = ns := by rw [← e]; exact hi.numsOf
  rw [nums_intItems] at hn
  rw [e] at hl
  refine call_sum_walkG (wpAny_pyIter_tuple hl ?_)
  have hlt : l < s.heap.objs.size := by
    obtain ⟨o, ho, _⟩ := hl
    exact Heap.lt_size ho
  have keep : ∀ b o, s.heap.get? b = some o → (s.heap.push { cls := .type "tuple_iterator", data := .fields #[rawInt 0, .ref l] }).get? b = some o := fun b o e => Heap.get?_push_of_some _ e
  refine ⟨s.heap.objs.size, [s.heap.objs.size, l], [s.heap.objs.size], (intItems xs).size, _, _, numAt xs, rfl, Walks.tuple (A := A.in1) hh s.heap.objs.size l (Nat.ne_of_lt hlt) (intItems xs), ⟨⟨_, Heap.get?_push_size _ rfl, rfl, rfl⟩, ?_⟩, fun b hb => ?_, (fun _ _ => intItems_at), fun h' tk t' hk => ?_⟩
  · obtain ⟨o, ho, r⟩ := hl
    exact ⟨o, Heap.get?_push_of_some _ ho, r⟩
  · rw [Heap.size_push]
    rcases List.mem_cons.mp hb with rfl | hb
    · exact Nat.lt_succ_self _
    · rw [List.mem_singleton.mp hb]; exact Nat.lt_succ_of_lt hlt
  · have k2 : ∀ b o, s.heap.get? b = some o → h'.get? b = some o := fun b o e => hk b o (by
      intro hm
      rw [List.mem_singleton.mp hm] at e
      exact Nat.lt_irrefl _ (Heap.lt_size e)) (Heap.get?_push_of_some _ e)
    have := h h' tk t' k2
    have hsz : (intItems xs).size = xs.size := by simp [intItems]
    rw [hsz, preSum_eq, List.take_of_length_le (by simp), hn]
    exact this
section
variable {X : Cx}
theorem cr_sumX (hc : X.calm = true) : CallR X (.builtin "sum") (rSumX X.K) := by
  intro pins s σ H xs us Q I r h
  obtain ⟨a, ns, rfl, hs, q⟩ := h
  rcases hs with hs | hs
  · exact cr_sum hc pins s σ H _ us Q I r ⟨a, ns, rfl, hs, q⟩
  · obtain rfl := Vals.ref1 r
    obtain ⟨its, rv, p, hz⟩ := I.tuple hs
    refine sum_tup (I.ok.hd hc) p (Vals.ints rv) fun h' tk t' k => ⟨.int ns.sum, H, I.kept k, ⟨t', rfl⟩, q⟩
end
end Vs
set_option Elab.async false
set_option linter.all false
set_option maxRecDepth 100000
set_option maxHeartbeats 2000000
/-! Vs4: rows of values: displays, +, *, items, slices, tuple(..), list(..). -/
namespace Vs
open PySem PySem.Spec PyProof.Rows L2

/-- the level of a row -/
def lvl : List LD → Nat
  | [] => 9
  | x :: xs => min x.1 (lvl xs)
def up (k : Nat) : Nat := min k 8 + 1
abbrev itemsOf (xs : List LD) (vs : List V) : List Item := List.zipWith (fun (x : LD) v => (x.1, x.2, v)) xs vs
section
variable {K : PySem.W.Frag} {H H' : Hp} {L : List Item} {Rs : List Addr} {ρ : Rho} {σ : Sg} {T : List Item}
theorem wk_lvl {k : Nat} : ∀ {xs : List LD} {vs : List V}, (∀ x ∈ xs, k ≤ x.1) → Wk (itemsOf xs vs) (its k (xs.map (·.2)) vs)
  | [], _, _ => by simp [itemsOf, its]; exact .nil
  | _ :: _, [], _ => by simp [itemsOf, its]; exact .nil
  | x :: xs, v :: vs, h => by
    show Wk ((x.1, x.2, v) :: itemsOf xs vs) ((k, x.2, v) :: its k (xs.map (·.2)) vs)
    exact .cons (h x List.mem_cons_self) (wk_lvl fun y hy => h y (List.mem_cons_of_mem _ hy))
theorem lvl_le : ∀ {xs : List LD}, ∀ x ∈ xs, lvl xs ≤ x.1
  | [], _, h => nomatch h
  | y :: ys, x, h => by
    rcases List.mem_cons.mp h with rfl | h
    · exact Nat.min_le_left _ _
    · exact Nat.le_trans (Nat.min_le_right _ _) (lvl_le x h)
theorem Good.row {xs : List LD} {vs : List V} {k : Nat} (h : Good K Rs H (itemsOf xs vs ++ L)) (hk : k ≤ lvl xs) : Good K Rs H (its k (xs.map (·.2)) vs ++ L) :=
  h.weak (Wk.append (wk_lvl fun x hx => Nat.le_trans hk (lvl_le x hx)) (Wk.refl L))
end

/-! ### displays -/
def mkTup (m : M (List LD)) : M LD := m.bind fun xs ρ => if xs.length ≤ lineN then .ok (lvl xs, .tup (xs.map (·.2))) ρ else .no
def mkLst (m : M (List LD)) : M LD := m.bind fun xs ρ => if xs.length ≤ lineN then .ok (up (lvl xs), .lst (xs.map (·.2))) ρ else .no
section
variable {X : Cx} {W : Wish} {es : List Expr} {pos : Pos} {m : M (List LD)}
theorem v_tup {j : Nat} (h : PA X es (tVs X.K W m)) : PE X (.Tuple es j pos) (tV X.K W (mkTup m)) := by
  refine PE.imp (pe_tup h) fun σ H Q ⟨ρ, T, rel, a⟩ => ⟨ρ, T, rel, a.bind.imp fun xs ρ' q vs H' hl r => ?_⟩
  by_cases hz : xs.length ≤ lineN
  · rw [if_pos hz] at q
    refine ⟨by rw [lineE, ← hl]; exact hz, fun p hp => q (.ref p) _ (r.good fun L g => ?_)⟩
    rw [List.append_assoc] at g
    exact (Good.row g (Nat.le_refl _)).newT (by rw [List.length_map]; exact hl) hp
  · rw [if_neg hz] at q; exact q.elim
theorem v_lst (h : PA X es (tVs X.K W m)) : PE X (.List es pos) (tV X.K W (mkLst m)) := by
  refine PE.imp (pe_lst h) fun σ H Q ⟨ρ, T, rel, a⟩ => ⟨ρ, T, rel, a.bind.imp fun xs ρ' q vs H' hl r => ?_⟩
  by_cases hz : xs.length ≤ lineN
  · rw [if_pos hz] at q
    refine ⟨by rw [lineE, ← hl]; exact hz, fun p hp => q (.ref p) _ (r.good fun L g => ?_)⟩
    rw [List.append_assoc] at g
    exact (Good.row g (Nat.min_le_left _ _)).newL (by rw [List.length_map]; exact hl) hp
  · rw [if_neg hz] at q; exact q.elim
end

/-! ### two operands, their values used up -/
def opV (o : LD → LD → Option LD) (a b : M LD) : M LD := a.bind fun x => b.bind fun y ρ => match o x y with
  | some z => .ok z ρ
  | none => .no
/-- the rule r does what o says, with the values at the state's top -/
def COp (K : PySem.W.Frag) (r : R2) (o : LD → LD → Option LD) : Prop := ∀ (H : Hp) (ρ : Rho) (σ : Sg) (T : List Item) (x y z : LD) (v w : V), Rel K H ρ σ ((y.1, y.2, w) :: (x.1, x.2, v) :: T) → o x y = some z →
  ∀ Q : VK, (∀ u H', Rel K H' ρ σ ((z.1, z.2, u) :: T) → Q u H') → r v w H Q
section
variable {X : Cx} {W : Wish} {ea eb : Expr} {pos : Pos} {ma mb : M LD} {o : LD → LD → Option LD}
theorem opV_run {r : R2} (ho : COp X.K r o) {σ : Sg} {H : Hp} {Q : VK} (h : tV X.K W (opV o ma mb) σ H Q) : tOp r (tV X.K W ma) (tV X.K W mb) σ H Q := by
  obtain ⟨ρ, T, rel, a⟩ := h
  refine ⟨ρ, T, rel, a.bind.imp fun x ρ1 q1 v H1 r1 => ⟨ρ1, _, r1, (q1.bind.up).imp fun y ρ2 q2 w H2 r2 => ?_⟩⟩
  have q2' : Aft W T (match o x y with | some z => R.ok z ρ2 | none => R.no) fun x ρ' => ∀ v H', Rel X.K H' ρ' σ ((x.1, x.2, v) :: T) → Q v H' := q2
  cases e : o x y with
  | none => rw [e] at q2'; exact q2'.elim
  | some z =>
    rw [e] at q2'
    exact ho H2 ρ2 σ T x y z v w r2 e Q q2'
theorem v_opV {op : Operator} {r : R2} (hr : OpR X (binaryOp op) r) (ho : COp X.K r o) (ha : PE X ea (tV X.K W ma)) (hb : PE X eb (tV X.K W mb)) : PE X (.BinOp ea op eb pos) (tV X.K W (opV o ma mb)) :=
  PE.imp (pe_op hr ha hb) fun σ H Q h => opV_run ho h
end

/-! ### + -/
def addD (x y : LD) : Option LD := match x.2, y.2 with
  | .int i, .int j => some (9, .int (i + j))
  | .str i, .str j => if i.length + j.length ≤ lineN then some (9, .str (i ++ j)) else none
  | .tup xs, .tup ys => if xs.length + ys.length ≤ lineN then some (min x.1 y.1, .tup (xs ++ ys)) else none
  | .lst xs, .lst ys => if xs.length + ys.length ≤ lineN then some (min (x.1 - 1) (y.1 - 1) + 1, .lst (xs ++ ys)) else none
  | _, _ => none
def rAddX (K : PySem.W.Frag) : R2 := fun x y H Q => rI0 (fun i j => .int (i + j)) x y H Q ∨ (∃ i j, x = .str i ∧ y = .str j ∧ i.length + j.length ≤ sizeLine ∧ Q (.str (i ++ j)) H) ∨ rCatA K x y H Q ∨ rCat x y H Q
section
variable {K : PySem.W.Frag} {H H' : Hp} {L : List Item} {Rs : List Addr} {ρ : Rho} {σ : Sg} {T : List Item}
theorem Rel.int_top {k : Nat} {i : Int} {v : V} (h : Rel K H ρ σ ((k, .int i, v) :: T)) : v = .int i := h.top.int
theorem its_both {k k1 k2 : Nat} {ds es : List D} {vs ws : List V} (hl : ds.length = vs.length) (h1 : k ≤ k1) (h2 : k ≤ k2) (h : Good K Rs H (its k1 ds vs ++ (its k2 es ws ++ L))) : Good K Rs H (its k (ds ++ es) (vs ++ ws) ++ L) := by
  rw [its_append hl, List.append_assoc]
  exact h.weak (Wk.append (Wk.its h1 ds vs) (Wk.append (Wk.its h2 es ws) (Wk.refl L)))
theorem c_add : COp K (rAddX K) addD := by
  intro H ρ σ T x y z v w r e Q q
  obtain ⟨k1, d1⟩ := x
  obtain ⟨k2, d2⟩ := y
  unfold addD at e
  split at e
  · rename_i i j h1 h2
    simp only at h1 h2
    subst h1 h2
    cases e
    obtain rfl := r.top.int
    obtain rfl := r.drop.top.int
    exact .inl ⟨_, _, rfl, rfl, q _ H (r.drop.drop.scal (d := .int (i + j)) rfl)⟩
  · rename_i i j h1 h2
    simp only at h1 h2
    subst h1 h2
    by_cases hz : i.length + j.length ≤ lineN
    · rw [if_pos hz] at e
      cases e
      obtain rfl := r.top.str
      obtain rfl := r.drop.top.str
      exact .inr (.inl ⟨_, _, rfl, rfl, by rw [lineE]; exact hz, q _ H (r.drop.drop.scal (d := .str (i ++ j)) rfl)⟩)
    · rw [if_neg hz] at e; cases e
  · rename_i xs ys h1 h2
    simp only at h1 h2
    subst h1 h2
    by_cases hz : xs.length + ys.length ≤ lineN
    · rw [if_pos hz] at e
      cases e
      obtain ⟨L, c, g⟩ := r
      obtain ⟨p2, ws, rfl, s2, l2, g2⟩ := g.tup_inv
      obtain ⟨p1, vs, rfl, s1, l1, g1⟩ := (g2.perm (List.perm_middle (l₁ := its k2 ys ws) (a := (k1, D.tup xs, v)) (l₂ := T ++ L))).tup_inv
      have g0 : Good K [] H (its (min k1 k2) (xs ++ ys) (vs ++ ws) ++ (T ++ L)) := its_both l1 (Nat.min_le_left _ _) (Nat.min_le_right _ _) g1
      refine .inr (.inr (.inl ⟨p1, p2, vs, ws, rfl, rfl, s1, s2, by rw [lineE, ← l1, ← l2]; exact hz, fun hx => ?_, fun hx hy => ?_, fun hx hy p hp => ?_⟩))
      · subst hx
        have : xs = [] := by simpa using l1
        subst this
        exact q _ H ⟨L, c, Good.tup s2 (by simpa using l2) (by simpa using g0)⟩
      · subst hy
        have : ys = [] := by simpa using l2
        subst this
        rw [List.append_nil, List.append_nil] at g0
        refine q _ H ⟨L, c, ?_⟩
        rw [List.append_nil]
        exact Good.tup s1 l1 g0
      · exact q _ _ ⟨L, c, g0.newT (by rw [List.length_append, List.length_append, l1, l2]) hp⟩
    · rw [if_neg hz] at e; cases e
  · rename_i xs ys h1 h2
    simp only at h1 h2
    subst h1 h2
    by_cases hz : xs.length + ys.length ≤ lineN
    · rw [if_pos hz] at e
      cases e
      obtain ⟨L, c, g⟩ := r
      obtain ⟨p2, ws, rfl, s2, l2, g2⟩ := g.lst_inv
      obtain ⟨p1, vs, rfl, s1, l1, g1⟩ := (g2.perm (List.perm_middle (l₁ := its (k2 - 1) ys ws) (a := (k1, D.lst xs, v)) (l₂ := T ++ L))).lst_inv
      have g0 : Good K [] H (its (min (k1 - 1) (k2 - 1)) (xs ++ ys) (vs ++ ws) ++ (T ++ L)) := its_both l1 (Nat.min_le_left _ _) (Nat.min_le_right _ _) g1
      exact .inr (.inr (.inr ⟨p1, p2, vs, ws, rfl, rfl, s1, s2, by rw [lineE, ← l1, ← l2]; exact hz, fun p hp => q _ _ ⟨L, c, g0.newL (by rw [List.length_append, List.length_append, l1, l2]) hp⟩⟩))
    · rw [if_neg hz] at e; cases e
  · cases e
end
section
variable {X : Cx} {W : Wish} {ea eb : Expr} {pos : Pos} {ma mb : M LD}
theorem v_add (ha : PE X ea (tV X.K W ma)) (hb : PE X eb (tV X.K W mb)) : PE X (.BinOp ea .Add eb pos) (tV X.K W (opV addD ma mb)) :=
  v_opV (OpR.or op_add (OpR.or op_add_str (OpR.or op_catA op_cat))) c_add ha hb
end

/-! ### * -/
def mulD (x y : LD) : Option LD := match x.2, y.2 with
  | .int i, .int j => if mulOk i j then some (9, .int (i * j)) else none
  | .lst xs, .int k => if xs.length * k.toNat ≤ lineN ∧ -(2 ^ 63) ≤ k ∧ k < 2 ^ 63 then some (if xs.all D.isS then 9 else 1, .lst (List.replicate k.toNat xs).flatten) else none
  | .tup xs, .int k => if xs ≠ [] ∧ 2 ≤ k ∧ k ≤ 1000 ∧ xs.length ≤ 1000 then some (0, .tup (List.replicate k.toNat xs).flatten) else none
  | _, _ => none
def rMulX (K : PySem.W.Frag) : R2 := fun x y H Q => rI (fun i j => mulOk i j = true) (fun i j => .int (i * j)) x y H Q ∨ rRep x y H Q ∨ rRepT K x y H Q
section
variable {K : PySem.W.Frag} {H H' : Hp} {L : List Item} {Rs : List Addr} {ρ : Rho} {σ : Sg} {T : List Item}
theorem Good.scalRow {k : Nat} : ∀ {ds : List D} {vs : List V}, ds.all D.isS = true → KDs K H ds vs → Good K Rs H L → Good K Rs H (its k ds vs ++ L)
  | [], _, _, h, g => by cases h; exact g
  | d :: ds, _, e, h, g => by
    cases h with
    | cons h1 h2 =>
      rw [List.all_cons, Bool.and_eq_true] at e
      obtain rfl := h1.isS e.1
      exact (Good.scalRow e.2 h2 g).scal e.1
theorem len_rep {α : Type} (xs : List α) : ∀ n : Nat, (List.replicate n xs).flatten.length = n * xs.length := by
  intro n
  simp
theorem Good.rep {ds : List D} {vs : List V} (hl : ds.length = vs.length) : ∀ (n : Nat), Good K Rs H (its 0 ds vs ++ L) → Good K Rs H (its 0 (List.replicate n ds).flatten (List.replicate n vs).flatten ++ (its 0 ds vs ++ L))
  | 0, g => g
  | n + 1, g => by
    rw [List.replicate_succ, List.replicate_succ, List.flatten_cons, List.flatten_cons, its_append hl, List.append_assoc]
    have g1 := Good.rep hl n g
    have g2 : Good K Rs H (its 0 ds vs ++ (its 0 (List.replicate n ds).flatten (List.replicate n vs).flatten ++ L)) := g1.perm (by
      rw [← List.append_assoc, ← List.append_assoc]
      exact List.perm_append_comm.append_right L)
    refine g2.dups.perm (List.Perm.append_left _ ?_)
    rw [← List.append_assoc, ← List.append_assoc]
    exact List.perm_append_comm.append_right L
theorem Good.mid {A B : List Item} (h : Good K Rs H (A ++ (B ++ L))) : Good K Rs H (A ++ L) := by
  have p : (A ++ (B ++ L)).Perm (B ++ (A ++ L)) := by
    rw [← List.append_assoc, ← List.append_assoc]
    exact List.perm_append_comm.append_right L
  exact (h.perm p).dropA
theorem all_rep {ds : List D} (h : ds.all D.isS = true) : ∀ n : Nat, (List.replicate n ds).flatten.all D.isS = true := by
  intro n
  rw [List.all_flatten, List.all_eq_true]
  intro x hx
  rw [(List.mem_replicate.mp hx).2]
  exact h
theorem KDs.append : ∀ {ds es : List D} {vs ws : List V}, KDs K H ds vs → KDs K H es ws → KDs K H (ds ++ es) (vs ++ ws)
  | [], _, _, _, .nil, h => h
  | _ :: _, _, _, _, .cons a b, h => .cons a (KDs.append b h)
theorem kds_rep {ds : List D} {vs : List V} (h : KDs K H ds vs) : ∀ n : Nat, KDs K H (List.replicate n ds).flatten (List.replicate n vs).flatten
  | 0 => .nil
  | n + 1 => by
    rw [List.replicate_succ, List.replicate_succ, List.flatten_cons, List.flatten_cons]
    exact h.append (kds_rep h n)
theorem c_mul : COp K (rMulX K) mulD := by
  intro H ρ σ T x y z v w r e Q q
  obtain ⟨k1, d1⟩ := x
  obtain ⟨k2, d2⟩ := y
  unfold mulD at e
  split at e
  · rename_i i j h1 h2
    simp only at h1 h2
    subst h1 h2
    by_cases hm : mulOk i j = true
    · rw [if_pos hm] at e
      cases e
      obtain rfl := r.top.int
      obtain rfl := r.drop.top.int
      exact .inl ⟨_, _, rfl, rfl, hm, q _ H (r.drop.drop.scal (d := .int (i * j)) rfl)⟩
    · rw [if_neg hm] at e; cases e
  · rename_i xs k h1 h2
    simp only at h1 h2
    subst h1 h2
    by_cases hz : xs.length * k.toNat ≤ lineN ∧ -(2 ^ 63) ≤ k ∧ k < 2 ^ 63
    · rw [if_pos hz] at e
      cases e
      obtain rfl := r.top.int
      obtain ⟨L, c, g⟩ := r.drop
      obtain ⟨p, vs, rfl, s1, l1, g1⟩ := g.lst_inv
      refine .inr (.inl ⟨p, k, vs, rfl, rfl, s1, hz.2.1, hz.2.2, by rw [lineE, ← l1]; exact hz.1, fun p2 hp => q _ _ ⟨L, c, ?_⟩⟩)
      have hl2 : (List.replicate k.toNat xs).flatten.length = (List.replicate k.toNat vs).flatten.length := by rw [len_rep, len_rep, l1]
      by_cases ha : xs.all D.isS = true
      · rw [if_pos ha]
        have kd : KDs K H xs vs := g1.kds l1 fun x hx => List.mem_append_left _ hx
        exact (Good.scalRow (k := 8) (all_rep ha _) (kds_rep kd _) g1.dropA).newL hl2 hp
      · rw [if_neg ha]
        have g2 := Good.rep l1 k.toNat (g1.weak (Wk.append (Wk.its (Nat.zero_le _) xs vs) (Wk.refl _)))
        exact (Good.mid g2).newL hl2 hp
    · rw [if_neg hz] at e; cases e
  · rename_i xs k h1 h2
    simp only at h1 h2
    subst h1 h2
    by_cases hz : xs ≠ [] ∧ 2 ≤ k ∧ k ≤ 1000 ∧ xs.length ≤ 1000
    · rw [if_pos hz] at e
      cases e
      obtain rfl := r.top.int
      obtain ⟨L, c, g⟩ := r.drop
      obtain ⟨p, vs, rfl, s1, l1, g1⟩ := g.tup_inv
      refine .inr (.inr ⟨p, k, vs, rfl, rfl, s1, fun e => hz.1 (by rw [e] at l1; simpa using l1), hz.2.1, hz.2.2.1, by rw [← l1]; exact hz.2.2.2, fun p2 hp => q _ _ ⟨L, c, ?_⟩⟩)
      have hl2 : (List.replicate k.toNat xs).flatten.length = (List.replicate k.toNat vs).flatten.length := by rw [len_rep, len_rep, l1]
      have g2 := Good.rep l1 k.toNat (g1.weak (Wk.append (Wk.its (Nat.zero_le _) xs vs) (Wk.refl _)))
      exact (Good.mid g2).newT hl2 hp
    · rw [if_neg hz] at e; cases e
  · cases e
end
section
variable {X : Cx} {W : Wish} {ea eb : Expr} {pos : Pos} {ma mb : M LD}
theorem v_mul (ha : PE X ea (tV X.K W ma)) (hb : PE X eb (tV X.K W mb)) : PE X (.BinOp ea .Mult eb pos) (tV X.K W (opV mulD ma mb)) :=
  v_opV (OpR.or op_mulX (OpR.or op_rep op_repT)) c_mul ha hb
end

/-! ### items -/
def idxD (x : LD) (i : Int) : Option LD := match x.2 with
  | .tup xs => (atI xs i).map fun d => (if d.isS then 9 else x.1, d)
  | .lst xs => (atI xs i).map fun d => (if d.isS then 9 else x.1 - 1, d)
  | .rol xs => (atI xs i).map fun d => (if d.isS then 9 else 0, d)
  | .str z => if z.length ≤ lineN then (atI z.cps.toList i).map fun c => (9, .str ⟨#[c]⟩) else none
  | _ => none
def idxO (x y : LD) : Option LD := match y.2 with
  | .int i => idxD x i
  | _ => none
section
variable {K : PySem.W.Frag} {H H' : Hp} {L : List Item} {Rs : List Addr} {ρ : Rho} {σ : Sg} {T : List Item}
theorem atI_at {α β : Type} {xs : List α} {ys : List β} {i : Int} {a : α} (h : atI xs i = some a) (hl : xs.length = ys.length) : ∃ (j : Nat) (b : β), xs[j]? = some a ∧ ys[j]? = some b ∧ atI ys i = some b := by
  obtain ⟨j, h1, h2, h3, h4, h5⟩ := atI_get h
  have hj : j < ys.length := by omega
  unfold atI at h ⊢
  cases q : ixN xs.length i with
  | none => rw [q] at h; simp at h
  | some j' =>
    have e : j' = j := by
      obtain ⟨z, _⟩ := ixN_seq q
      rw [z] at h1
      exact Option.some.inj h1
    subst e
    exact ⟨j', ys[j'], h2, by simp [hj], by rw [← hl, q]; simp [hj]⟩
/-- one of a row, the others dropped -/
theorem Good.pick {k : Nat} : ∀ {ds : List D} {vs : List V} {j : Nat} {d : D} {v : V}, Good K Rs H (its k ds vs ++ L) → ds[j]? = some d → vs[j]? = some v → Good K Rs H ((k, d, v) :: L)
  | [], _, _, _, _, _, h, _ => by simp at h
  | _ :: _, [], _, _, _, _, _, h => by simp at h
  | d :: ds, v :: vs, 0, _, _, g, h1, h2 => by
    simp at h1 h2
    subst h1 h2
    have g' : Good K Rs H ((k, d, v) :: (its k ds vs ++ L)) := g
    exact (g'.perm (List.perm_middle (l₁ := its k ds vs)).symm).dropA
  | d :: ds, v :: vs, j + 1, _, _, g, h1, h2 => by
    have g' : Good K Rs H ((k, d, v) :: (its k ds vs ++ L)) := g
    exact Good.pick g'.tail (j := j) (by simpa using h1) (by simpa using h2)
theorem Good.lift {k : Nat} {d : D} {v : V} (g : Good K Rs H ((k, d, v) :: L)) : Good K Rs H ((if d.isS then 9 else k, d, v) :: L) := by
  by_cases h : d.isS = true
  · rw [if_pos h]
    obtain rfl := g.kd.isS h
    exact g.tail.scal h
  · rw [if_neg h]; exact g
theorem c_idx : COp K (rIx K) idxO := by
  intro H ρ σ T x y z v w r e Q q
  obtain ⟨k1, d1⟩ := x
  obtain ⟨k2, d2⟩ := y
  unfold idxO at e
  split at e
  · rename_i i h2
    simp only at h2
    subst h2
    obtain rfl := r.top.int
    unfold idxD at e
    split at e
    · rename_i xs h1
      simp only at h1
      subst h1
      cases a : atI xs i with
      | none => rw [a] at e; cases e
      | some d =>
        rw [a] at e; cases e
        obtain ⟨L, c, g⟩ := r.drop
        obtain ⟨p, vs, rfl, s1, l1, g1⟩ := g.tup_inv
        obtain ⟨j, b, e1, e2, e3⟩ := atI_at a l1
        exact .inr (.inl ⟨p, vs, i, b, rfl, rfl, s1, e3, q _ H ⟨L, c, (g1.pick e1 e2).lift⟩⟩)
    · rename_i xs h1
      simp only at h1
      subst h1
      cases a : atI xs i with
      | none => rw [a] at e; cases e
      | some d =>
        rw [a] at e; cases e
        obtain ⟨L, c, g⟩ := r.drop
        obtain ⟨p, vs, rfl, s1, l1, g1⟩ := g.lst_inv
        obtain ⟨j, b, e1, e2, e3⟩ := atI_at a l1
        exact .inl ⟨p, vs, i, b, rfl, rfl, SqL.of s1, e3, q _ H ⟨L, c, (g1.pick e1 e2).lift⟩⟩
    · rename_i xs h1
      simp only at h1
      subst h1
      cases a : atI xs i with
      | none => rw [a] at e; cases e
      | some d =>
        rw [a] at e; cases e
        obtain ⟨L, c, g⟩ := r.drop
        obtain ⟨p, vs, rfl, s1, l1, g1⟩ := g.rol_inv
        obtain ⟨j, b, e1, e2, e3⟩ := atI_at a l1
        exact .inl ⟨p, vs, i, b, rfl, rfl, s1, e3, q _ H ⟨L, c, (g1.pick e1 e2).lift⟩⟩
    · rename_i s h1
      simp only at h1
      subst h1
      by_cases hz : s.length ≤ lineN
      · rw [if_pos hz] at e
        cases a : atI s.cps.toList i with
        | none => rw [a] at e; cases e
        | some c =>
          rw [a] at e; cases e
          obtain rfl := r.drop.top.str
          exact .inr (.inr ⟨s, i, c, rfl, rfl, by rw [lineE]; exact hz, a, q _ H (r.drop.drop.scal (d := .str ⟨#[c]⟩) rfl)⟩)
      · rw [if_neg hz] at e; cases e
    · cases e
  · cases e
/-- an item of a name's content, and the content's level afterwards -/
def viewI (k : Nat) (x : D) (i : Int) : Option (LD × Nat) := match x with
  | .tup xs => (atI xs i).map fun d => if d.isS then ((9, d), k) else ((0, d), 0)
  | .lst xs => (atI xs i).map fun d => if d.isS then ((9, d), k) else ((0, d), min k 1)
  | .rol xs => (atI xs i).map fun d => if d.isS then ((9, d), k) else ((0, d), 0)
  | _ => none
theorem Good.item {k k' : Nat} {x : D} {i : Int} {z : LD} {v : V} (g : Good K Rs H ((k, x, v) :: L)) (e : viewI k x i = some (z, k')) :
    ∃ u, Good K Rs H ((z.1, z.2, u) :: (k', x, v) :: L) ∧ ∀ Q : VK, Q u H → rIx K v (.int i) H Q := by
  unfold viewI at e
  split at e
  · rename_i xs
    cases a : atI xs i with
    | none => rw [a] at e; cases e
    | some d =>
      rw [a] at e
      simp only [Option.map_some, Option.some.injEq] at e
      by_cases s : d.isS = true
      · rw [if_pos s] at e
        cases e
        obtain ⟨p, vs, rfl, s1, l1, g1⟩ := id g.tup_inv
        obtain ⟨j, b, e1, e2, e3⟩ := atI_at a l1
        obtain rfl := (g1.pick e1 e2).kd.isS s
        exact ⟨_, g.scal s, fun Q q => .inr (.inl ⟨p, vs, i, _, rfl, rfl, s1, e3, q⟩)⟩
      · rw [if_neg s] at e
        cases e
        obtain ⟨p, vs, rfl, s1, l1, g1⟩ := g.tup_view
        obtain ⟨j, b, e1, e2, e3⟩ := atI_at a l1
        exact ⟨b, g1.pick e1 e2, fun Q q => .inr (.inl ⟨p, vs, i, _, rfl, rfl, s1, e3, q⟩)⟩
  · rename_i xs
    cases a : atI xs i with
    | none => rw [a] at e; cases e
    | some d =>
      rw [a] at e
      simp only [Option.map_some, Option.some.injEq] at e
      by_cases s : d.isS = true
      · rw [if_pos s] at e
        cases e
        obtain ⟨p, vs, rfl, s1, l1, g1⟩ := id g.lst_inv
        obtain ⟨j, b, e1, e2, e3⟩ := atI_at a l1
        obtain rfl := (g1.pick e1 e2).kd.isS s
        exact ⟨_, g.scal s, fun Q q => .inl ⟨p, vs, i, _, rfl, rfl, SqL.of s1, e3, q⟩⟩
      · rw [if_neg s] at e
        cases e
        obtain ⟨p, vs, rfl, s1, l1, g1⟩ := g.lst_view
        obtain ⟨j, b, e1, e2, e3⟩ := atI_at a l1
        exact ⟨b, g1.pick e1 e2, fun Q q => .inl ⟨p, vs, i, _, rfl, rfl, SqL.of s1, e3, q⟩⟩
  · rename_i xs
    cases a : atI xs i with
    | none => rw [a] at e; cases e
    | some d =>
      rw [a] at e
      simp only [Option.map_some, Option.some.injEq] at e
      by_cases s : d.isS = true
      · rw [if_pos s] at e
        cases e
        obtain ⟨p, vs, rfl, s1, l1, g1⟩ := id g.rol_inv
        obtain ⟨j, b, e1, e2, e3⟩ := atI_at a l1
        obtain rfl := (g1.pick e1 e2).kd.isS s
        exact ⟨_, g.scal s, fun Q q => .inl ⟨p, vs, i, _, rfl, rfl, s1, e3, q⟩⟩
      · rw [if_neg s] at e
        cases e
        have g2 := g.share
        obtain ⟨p, vs, rfl, s1, l1, g1⟩ := g2.rol_inv
        obtain ⟨j, b, e1, e2, e3⟩ := atI_at a l1
        exact ⟨b, g1.pick e1 e2, fun Q q => .inl ⟨p, vs, i, _, rfl, rfl, s1, e3, q⟩⟩
  · cases e
theorem Rel.move2 {j k : Nat} {d : D} {v : V} (h : Rel K H ρ σ T) (e : ρ[j]? = some (.c k d)) (hv : σ[j]? = some (some v)) : Rel K H (ρ.set j .u) σ ((k, d, v) :: T) := by
  obtain ⟨w, hw, r⟩ := h.move e
  rw [hv] at hw
  cases hw
  exact r
end
/-- x[i], x a name -/
def idxv (j : Nat) (mi : M LD) : M LD := fun ρ => match ρ[j]? with
  | some (.c _ _) => M.bind mi (fun y ρ1 => match y.2, ρ1[j]? with
    | .int i, some (.c k d) => match viewI k d i with
      | some (z, k') => .ok z (ρ1.set j (.c k' d))
      | none => .no
    | _, _ => .no) ρ
  | _ => .no
section
variable {X : Cx} {W : Wish} {ea eb : Expr} {pos p1 : Pos} {ma mb : M LD} {j : Nat} {x : Str}
theorem v_idx (ha : PE X ea (tV X.K W ma)) (hb : PE X eb (tV X.K W mb)) (hs : PlainIx eb) : PE X (.Subscript ea eb pos) (tV X.K W (opV idxO ma mb)) :=
  PE.imp (pe_ix ix_seq ha hb hs) fun σ H Q h => opV_run c_idx h
theorem v_idxv (ha : PE X (.Name x p1) (tVar j)) (hb : PE X eb (tV X.K W mb)) (hs : PlainIx eb) : PE X (.Subscript (.Name x p1) eb pos) (tV X.K W (idxv j mb)) := by
  refine PE.imp (pe_ix ix_seq ha hb hs) fun σ H Q ⟨ρ, T, rel, a⟩ => ?_
  unfold idxv at a
  cases q : ρ[j]? with
  | none => rw [q] at a; exact a.elim
  | some c0 =>
    cases c0 with
    | u => rw [q] at a; exact a.elim
    | c k0 d0 =>
      rw [q] at a
      obtain ⟨v, hv, _⟩ := rel.kd q
      refine ⟨v, hv, ρ, T, rel, a.bind.imp fun y ρ1 q1 w H1 r1 => ?_⟩
      obtain ⟨ky, dy⟩ := y
      cases dy with
      | int i =>
        cases e1 : ρ1[j]? with
        | none => simp only [e1] at q1; exact q1.elim
        | some c1 =>
          cases c1 with
          | u => simp only [e1] at q1; exact q1.elim
          | c k d =>
            simp only [e1] at q1
            cases e2 : viewI k d i with
            | none => rw [e2] at q1; exact q1.elim
            | some zz =>
              obtain ⟨z, k'⟩ := zz
              rw [e2] at q1
              obtain rfl := r1.top.int
              obtain ⟨L, c, g⟩ := r1.drop.move2 e1 hv
              obtain ⟨u, g2, f⟩ := g.item e2
              refine f Q (q1 u H1 ?_)
              have r2 : Rel X.K H1 (ρ1.set j .u) σ ((k', d, v) :: (z.1, z.2, u) :: T) := ⟨L, c, g2.perm (.swap _ _ _)⟩
              have r3 := r2.back (getElem?_set_u e1) hv
              rwa [set_set_c] at r3
      | _ => exact q1.elim
end

/-! ### slices -/
def cutL {α : Type} (xs : List α) (lo hi : Option Int) : List α := (xs.drop (HT.sIx xs.length 0 lo)).take (HT.sIx xs.length xs.length hi - HT.sIx xs.length 0 lo)
/-- a part of a slice -/
def noP : M (Option Int) := M.ret none
def asP (m : M LD) : M (Option Int) := m.bind fun x => match x.2 with
  | .int i => M.ret (some i)
  | _ => fun _ => .no
def tP (K : PySem.W.Frag) (W : Wish) (m : M (Option Int)) : TO := fun σ H Q => ∃ ρ T, Rel K H ρ σ T ∧ Aft W T (m ρ) fun o ρ' => ∀ H', Rel K H' ρ' σ T → Q o H'
def sliceD (x : LD) (lo hi : Option Int) : Option LD := match x.2 with
  | .tup xs => some (x.1, .tup (cutL xs lo hi))
  | .lst xs => some (x.1 - 1 + 1, .lst (cutL xs lo hi))
  | .rol xs => some (1, .lst (cutL xs lo hi))
  | _ => none
def slc (m : M LD) (l h : M (Option Int)) : M LD := m.bind fun x => l.bind fun lo => h.bind fun hi ρ => match sliceD x lo hi with
  | some z => .ok z ρ
  | none => .no
section
variable {K : PySem.W.Frag} {H H' : Hp} {L : List Item} {Rs : List Addr} {ρ : Rho} {σ : Sg} {T : List Item}
theorem its_take {k : Nat} : ∀ (ds : List D) (vs : List V) (n : Nat), its k (ds.take n) (vs.take n) = (its k ds vs).take n := by
  intro ds vs n
  unfold its
  rw [List.take_zipWith]
theorem its_drop {k : Nat} : ∀ (ds : List D) (vs : List V) (n : Nat), its k (ds.drop n) (vs.drop n) = (its k ds vs).drop n := by
  intro ds vs n
  unfold its
  rw [List.drop_zipWith]
theorem Good.cut {k : Nat} {ds : List D} {vs : List V} (hl : ds.length = vs.length) (lo hi : Option Int) (g : Good K Rs H (its k ds vs ++ L)) : Good K Rs H (its k (cutL ds lo hi) (cutL vs lo hi) ++ L) := by
  unfold cutL
  rw [hl, its_take, its_drop]
  generalize its k ds vs = M at g
  have s : (M.drop (HT.sIx vs.length 0 lo)).take (HT.sIx vs.length vs.length hi - HT.sIx vs.length 0 lo) ++ (M.drop (HT.sIx vs.length 0 lo)).drop (HT.sIx vs.length vs.length hi - HT.sIx vs.length 0 lo) = M.drop (HT.sIx vs.length 0 lo) := List.take_append_drop _ _
  have g1 : Good K Rs H (M.take (HT.sIx vs.length 0 lo) ++ (M.drop (HT.sIx vs.length 0 lo) ++ L)) := by rw [← List.append_assoc, List.take_append_drop]; exact g
  have g2 := g1.dropA
  rw [← s, List.append_assoc] at g2
  exact g2.mid
theorem cutL_len {ds : List D} {vs : List V} (hl : ds.length = vs.length) (lo hi : Option Int) : (cutL ds lo hi).length = (cutL vs lo hi).length := by
  unfold cutL
  rw [List.length_take, List.length_take, List.length_drop, List.length_drop, hl]
theorem cut_whole {vs : List V} {lo hi : Option Int} (h : HT.sIx vs.length 0 lo = 0 ∧ HT.sIx vs.length vs.length hi = vs.length) {ds : List D} (hl : ds.length = vs.length) : cutL ds lo hi = ds := by
  unfold cutL
  rw [hl, h.1, h.2, List.drop_zero, Nat.sub_zero, ← hl, List.take_length]
end
def rSlX (K : PySem.W.Frag) : V → Option Int → Option Int → Hp → VK → Prop := fun x lo hi H Q => rSlA K x lo hi H Q ∨ rSlL K x lo hi H Q
section
variable {X : Cx} {W : Wish} {ea : Expr} {pos p2 : Pos} {ma : M LD} {lo hi : Option Expr} {ml mh : M (Option Int)}
theorem p_none : PO X none (tP X.K W noP) := ⟨fun pins s σ H Q I h => po_none.run pins s σ H Q I (let ⟨ρ, T, rel, a⟩ := h; a H rel)⟩
theorem p_some {e : Expr} {m : M LD} (h : PE X e (tV X.K W m)) : PO X (some e) (tP X.K W (asP m)) := ⟨fun pins s σ H Q I ⟨ρ, T, rel, a⟩ => (po_some h).run pins s σ H Q I ⟨ρ, T, rel, a.bind.imp fun x ρ' q v H' r => by
  obtain ⟨k, d⟩ := x
  cases d with
  | int i => exact ⟨i, r.top.int, q H' r.drop⟩
  | _ => exact q.elim⟩⟩
theorem v_slice (ha : PE X ea (tV X.K W ma)) (hl : PO X lo (tP X.K W ml)) (hh : PO X hi (tP X.K W mh)) : PE X (.Subscript ea (.Slice lo hi none p2) pos) (tV X.K W (slc ma ml mh)) := by
  refine PE.imp (pe_slice (SlR.or sl_tupA sl_list) ha hl hh) fun σ H Q ⟨ρ, T, rel, a⟩ => ?_
  refine ⟨ρ, T, rel, a.bind.imp fun x ρ1 q1 v H1 r1 => ⟨ρ1, _, r1, (q1.bind.up).imp fun l ρ2 q2 H2 r2 => ⟨ρ2, _, r2, (q2.bind.up).imp fun h ρ3 q3 H3 r3 => ?_⟩⟩⟩
  have q3' : Aft W T (match sliceD x l h with | some z => R.ok z ρ3 | none => R.no) fun x ρ' => ∀ v H', Rel X.K H' ρ' σ ((x.1, x.2, v) :: T) → Q v H' := q3
  obtain ⟨k, d⟩ := x
  obtain ⟨L, c, g⟩ := r3
  unfold sliceD at q3'
  cases d with
  | tup xs =>
    obtain ⟨p, vs, rfl, s1, l1, g1⟩ := g.tup_inv
    refine .inl ⟨p, vs, rfl, s1, fun hw => q3' _ H3 ⟨L, c, ?_⟩, fun hw p hp => q3' _ _ ⟨L, c, (g1.cut l1 l h).newT (cutL_len l1 l h) hp⟩⟩
    show Good X.K [] H3 ((k, D.tup (cutL xs l h), V.ref p) :: T ++ L)
    rw [cut_whole hw l1]
    exact g
  | lst xs =>
    obtain ⟨p, vs, rfl, s1, l1, g1⟩ := g.lst_inv
    exact .inr ⟨p, vs, rfl, SqL.of s1, fun p hp => q3' _ _ ⟨L, c, (g1.cut l1 l h).newL (cutL_len l1 l h) hp⟩⟩
  | rol xs =>
    obtain ⟨p, vs, rfl, s1, l1, g1⟩ := g.rol_inv
    exact .inr ⟨p, vs, rfl, s1, fun p hp => q3' _ _ ⟨L, c, (g1.cut l1 l h).newL (cutL_len l1 l h) hp⟩⟩
  | _ => exact q3'.elim
end

/-! ### one operand, its value used up: tuple(..), list(..) -/
def op1 (o : LD → Option LD) (m : M LD) : M LD := m.bind fun x ρ => match o x with
  | some z => .ok z ρ
  | none => .no
def COp1 (K : PySem.W.Frag) (r : List V → Hp → VK → Prop) (o : LD → Option LD) : Prop := ∀ (H : Hp) (ρ : Rho) (σ : Sg) (T : List Item) (x z : LD) (v : V), Rel K H ρ σ ((x.1, x.2, v) :: T) → o x = some z →
  ∀ Q : VK, (∀ u H', Rel K H' ρ σ ((z.1, z.2, u) :: T) → Q u H') → r [v] H Q
def tupD (x : LD) : Option LD := match x.2 with
  | .tup xs => some (x.1, .tup xs)
  | .lst xs => some (x.1 - 1, .tup xs)
  | .rol xs => some (0, .tup xs)
  | _ => none
def lstD (x : LD) : Option LD := match x.2 with
  | .tup xs => some (up x.1, .lst xs)
  | .lst xs => some (x.1 - 1 + 1, .lst xs)
  | .rol xs => some (1, .lst xs)
  | _ => none
section
variable {K : PySem.W.Frag}
theorem c_tup : COp1 K (fun xs H Q => ∃ p ys, xs = [V.ref p] ∧ ((SqL K H p ys ∧ ∀ l, H l = none → Q (.ref l) (upd H l (.tup ys))) ∨ (SqT K H p ys ∧ Q (.ref p) H))) tupD := by
  intro H ρ σ T x z v r e Q q
  obtain ⟨k, d⟩ := x
  obtain ⟨L, c, g⟩ := r
  unfold tupD at e
  cases d with
  | tup xs =>
    cases e
    obtain ⟨p, vs, rfl, s1, l1, g1⟩ := id g.tup_inv
    exact ⟨p, vs, rfl, .inr ⟨s1, q _ H ⟨L, c, g⟩⟩⟩
  | lst xs =>
    cases e
    obtain ⟨p, vs, rfl, s1, l1, g1⟩ := g.lst_inv
    exact ⟨p, vs, rfl, .inl ⟨SqL.of s1, fun l hl => q _ _ ⟨L, c, g1.newT l1 hl⟩⟩⟩
  | rol xs =>
    cases e
    obtain ⟨p, vs, rfl, s1, l1, g1⟩ := g.rol_inv
    exact ⟨p, vs, rfl, .inl ⟨s1, fun l hl => q _ _ ⟨L, c, g1.newT l1 hl⟩⟩⟩
  | _ => cases e
theorem c_lst : COp1 K (fun xs H Q => ∃ p ys, xs = [V.ref p] ∧ (SqL K H p ys ∨ SqT K H p ys) ∧ ∀ l, H l = none → Q (.ref l) (upd H l (.lst ys))) lstD := by
  intro H ρ σ T x z v r e Q q
  obtain ⟨k, d⟩ := x
  obtain ⟨L, c, g⟩ := r
  unfold lstD at e
  cases d with
  | tup xs =>
    cases e
    obtain ⟨p, vs, rfl, s1, l1, g1⟩ := g.tup_inv
    refine ⟨p, vs, rfl, .inr s1, fun l hl => q _ _ ⟨L, c, ?_⟩⟩
    exact (g1.weak (Wk.append (Wk.its (Nat.min_le_left k 8) xs vs) (Wk.refl _))).newL l1 hl
  | lst xs =>
    cases e
    obtain ⟨p, vs, rfl, s1, l1, g1⟩ := g.lst_inv
    exact ⟨p, vs, rfl, .inl (SqL.of s1), fun l hl => q _ _ ⟨L, c, g1.newL l1 hl⟩⟩
  | rol xs =>
    cases e
    obtain ⟨p, vs, rfl, s1, l1, g1⟩ := g.rol_inv
    exact ⟨p, vs, rfl, .inl s1, fun l hl => q _ _ ⟨L, c, g1.newL l1 hl⟩⟩
  | _ => cases e
end
section
variable {X : Cx} {W : Wish} {e : Expr} {pos p : Pos} {m : M LD} {x : Str} {id : String} {r : List V → Hp → VK → Prop} {o : LD → Option LD}
theorem op1_run (ho : COp1 X.K r o) {σ : Sg} {H : Hp} {Q : VK} (h : tV X.K W (op1 o m) σ H Q) : tCB r (tVs X.K W (consV m noVs)) σ H Q := by
  obtain ⟨ρ, T, rel, a⟩ := h
  refine ⟨ρ, T, rel, ?_⟩
  show Aft W T (M.bind m (fun a => M.bind noVs fun as => M.ret (a :: as)) ρ) _
  unfold op1 at a
  unfold M.bind at a ⊢
  cases q : m ρ with
  | no => rw [q] at a; exact a
  | ex x ρ' => rw [q] at a; exact a
  | ok x ρ' =>
    rw [q] at a
    show ∀ vs H', _
    intro vs H' hl r'
    have a' : Aft W T (match o x with | some z => R.ok z ρ' | none => R.no) fun x ρ' => ∀ v H', Rel X.K H' ρ' σ ((x.1, x.2, v) :: T) → Q v H' := a
    cases e : o x with
    | none => rw [e] at a'; exact a'.elim
    | some z =>
      rw [e] at a'
      match vs, hl with
      | [v], _ => exact ho H' ρ' σ T x z v r' e Q a'
theorem v_callB1 (hc : CallR X (.builtin id) r) (ho : COp1 X.K r o) (hg : Gl X x) (hm : X.mg x = none) (hv : bootBuiltins x = some (.builtin id)) (h : PE X e (tV X.K W m))
    (hn : x ≠ "__name__" := by decide) (hdb : (x == ("__debug__" : Str)) = false := by decide) (he : starEach (e :: []) X.env = (false, eval e X.env) :: starEach [] X.env := by rfl) (hpl : (backTo pos (starEach [] X.env)).any (·.1) = false := by rfl) :
    PE X (.Call (.Name x p) [e] [] pos) (tV X.K W (op1 o m)) := PE.imp (pe_callB hc hg hm hv (vs_cons h vs_nil he) hn hdb he hpl) fun σ H Q h => op1_run ho h
theorem v_callT1 (hc : CallR X (.type id) r) (ho : COp1 X.K r o) (hg : Gl X x) (hm : X.mg x = none) (hv : bootBuiltins x = some (.type id)) (h : PE X e (tV X.K W m))
    (hn : x ≠ "__name__" := by decide) (hdb : (x == ("__debug__" : Str)) = false := by decide) (he : starEach (e :: []) X.env = (false, eval e X.env) :: starEach [] X.env := by rfl) (hpl : (backTo pos (starEach [] X.env)).any (·.1) = false := by rfl) :
    PE X (.Call (.Name x p) [e] [] pos) (tV X.K W (op1 o m)) := PE.imp (pe_callTy hc hg hm hv (vs_cons h vs_nil he) hn hdb he hpl) fun σ H Q h => op1_run ho h
end
end Vs
set_option Elab.async false
set_option linter.all false
set_option maxRecDepth 100000
set_option maxHeartbeats 2000000
/-! Vs5: statements, targets, loops, comprehensions. -/
namespace Vs
open PySem PySem.Spec PyProof.Rows L2

inductive Out where
  | nx | bk | ct
  | rt (x : LD)
  /-- it is raised -/
  | xn (x : Xn)
def OutP (K : PySem.W.Frag) (W : Wish) (P : Sg → Prop) (T : List Item) (D : Ends) (ρ' : Rho) : Out → Prop
  | .nx => ∀ σ' H', Rel K H' ρ' σ' T → P σ' → D.nx σ' H'
  | .bk => ∀ σ' H', Rel K H' ρ' σ' T → P σ' → D.bk σ' H'
  | .ct => ∀ σ' H', Rel K H' ρ' σ' T → P σ' → D.ct σ' H'
  | .rt x => ∀ v σ' H', Rel K H' ρ' σ' ((x.1, x.2, v) :: T) → P σ' → D.rt v H'
  | .xn x => W.p x ρ' T
def tS (K : PySem.W.Frag) (W : Wish) (P : Sg → Prop) (m : M Out) : TS := fun D σ H => ∃ ρ T, Rel K H ρ σ T ∧ P σ ∧ Aft W T (m ρ) fun o ρ' => OutP K W P T D ρ' o
/-- what is kept of the slots: those in io stand as they stood -/
def Pin (io : List Nat) (σ0 : Sg) (σ : Sg) : Prop := ∀ j ∈ io, σ[j]? = σ0[j]?
def Stays (P : Sg → Prop) (i : Nat) : Prop := ∀ σ (v : V), P σ → P (σ.set i (some v))
theorem pin_set {io : List Nat} {σ0 : Sg} {i : Nat} (h : i ∉ io) : Stays (Pin io σ0) i := fun σ v p j hj => by
  rw [List.getElem?_set_ne (by rintro rfl; exact h hj)]
  exact p j hj

/-! ### targets -/
def lv (d : D) : Nat := if d.isS then 9 else 0
abbrev G := LD → Rho → Option Rho
abbrev Gs := List LD → Rho → Option Rho
def gN (i : Nat) : G := fun x ρ => if i < ρ.length then some (ρ.set i (.c x.1 x.2)) else none
def gsN : Gs := fun xs ρ => match xs with
  | [] => some ρ
  | _ :: _ => none
def gsC (g : G) (gs : Gs) : Gs := fun xs ρ => match xs with
  | [] => none
  | x :: xs => (g x ρ).bind (gs xs)
/-- the parts of a tuple -/
def partsD (x : LD) : Option (List LD) := match x.2 with
  | .tup xs => some (xs.map fun d => (if d.isS then 9 else x.1, d))
  | _ => none
def gT (n : Nat) (gs : Gs) : G := fun x ρ => match partsD x with
  | some xs => if xs.length = n then gs xs ρ else none
  | none => none
def tG (K : PySem.W.Frag) (P : Sg → Prop) (g : G) : TG := fun v σ H Q => ∃ x ρ T, Rel K H ρ σ ((x.1, x.2, v) :: T) ∧ P σ ∧ ∃ ρ', g x ρ = some ρ' ∧ ∀ σ' H', Rel K H' ρ' σ' T → P σ' → Q σ' H'
def tGs (K : PySem.W.Frag) (P : Sg → Prop) (g : Gs) : TGs := fun vs σ H Q => ∃ xs ρ T, xs.length = vs.length ∧ Rel K H ρ σ (itemsOf xs vs ++ T) ∧ P σ ∧ ∃ ρ', g xs ρ = some ρ' ∧ ∀ σ' H', Rel K H' ρ' σ' T → P σ' → Q σ' H'
theorem PG.imp {X : Cx} {e : Expr} {t t' : TG} (h : PG X e t) (f : ∀ v σ H Q, t' v σ H Q → t v σ H Q) : PG X e t' := ⟨fun pins s σ H v u Q I r hq => h.run pins s σ H v u Q I r (f v σ H Q hq)⟩
theorem PGs.imp {X : Cx} {e : List Expr} {t t' : TGs} (h : PGs X e t) (f : ∀ v σ H Q, t' v σ H Q → t v σ H Q) : PGs X e t' := ⟨fun pins s σ H v u Q I r hq => h.run pins s σ H v u Q I r (f v σ H Q hq)⟩
theorem PI.imp {X : Cx} {a e : Expr} {t t' : TI} (h : PI X a e t) (f : ∀ σ H Q, t' σ H Q → t σ H Q) : PI X a e t' := ⟨fun pins s σ H Q I hq => h.run pins s σ H Q I (f σ H Q hq)⟩
section
variable {X : Cx} {W : Wish} {P : Sg → Prop} {e : Expr} {pos : Pos}
theorem g_name {i : Nat} {x : Str} (h : PG X (.Name x pos) (gName i)) (hP : Stays P i) : PG X (.Name x pos) (tG X.K P (gN i)) := by
  refine PG.imp h fun v σ H Q ⟨y, ρ, T, r, p, ρ', e, q⟩ => ?_
  unfold gN at e
  by_cases hi : i < ρ.length
  · rw [if_pos hi] at e
    cases e
    exact q _ H (r.store hi) (hP _ _ p)
  · rw [if_neg hi] at e; cases e
theorem gs_nil : PGs X [] (tGs X.K P gsN) := by
  refine PGs.imp pgs_nil fun vs σ H Q ⟨xs, ρ, T, hl, r, p, ρ', e, q⟩ => ?_
  cases xs with
  | nil =>
    cases vs with
    | nil => cases e; exact ⟨rfl, q σ H r p⟩
    | cons v vs => simp at hl
  | cons x xs => cases e
theorem gs_cons {es : List Expr} {g : G} {gs : Gs} (h1 : PG X e (tG X.K P g)) (h2 : PGs X es (tGs X.K P gs))
    (hs : (assignEach (e :: es) X.env).map (·.2) = assign e X.env :: (assignEach es X.env).map (·.2) := by rfl) : PGs X (e :: es) (tGs X.K P (gsC g gs)) := by
  refine PGs.imp (pgs_cons h1 h2 hs) fun vs σ H Q ⟨xs, ρ, T, hl, r, p, ρ', e, q⟩ => ?_
  cases xs with
  | nil => cases e
  | cons x xs =>
    cases vs with
    | nil => simp at hl
    | cons v vs =>
      have e' : (g x ρ).bind (gs xs) = some ρ' := e
      cases e1 : g x ρ with
      | none => rw [e1] at e'; cases e'
      | some ρ1 =>
        rw [e1] at e'
        exact ⟨v, vs, rfl, x, ρ, itemsOf xs vs ++ T, r, p, ρ1, e1, fun σ' H' r' p' => ⟨xs, ρ1, T, by simpa using hl, r', p', ρ', e', q⟩⟩
theorem Good.lifts {K : PySem.W.Frag} {Rs : List Addr} {H : Hp} {k : Nat} : ∀ {ds : List D} {vs : List V} {L : List Item}, ds.length = vs.length → Good K Rs H (its k ds vs ++ L) → Good K Rs H (itemsOf (ds.map fun d => (if d.isS then 9 else k, d)) vs ++ L)
  | [], _, _, _, g => by simpa [itemsOf, its] using g
  | _ :: _, [], _, h, _ => by simp at h
  | d :: ds, v :: vs, L, h, g => by
    have g' : Good K Rs H ((k, d, v) :: (its k ds vs ++ L)) := g
    have g2 := (g'.lift.perm (List.perm_middle (l₁ := its k ds vs)).symm)
    have g3 := Good.lifts (L := (if d.isS then 9 else k, d, v) :: L) (by simpa using h) g2
    exact g3.perm List.perm_middle
theorem g_tup {es : List Expr} {k n : Nat} {gs : Gs} (hc : X.calm = true) (h : PGs X es (tGs X.K P gs))
    (hn : (assignEach es X.env).length = n := by rfl) (hst : (assignEach es X.env).findIdx? (·.1) = none := by rfl) : PG X (.Tuple es k pos) (tG X.K P (gT n gs)) := by
  refine PG.imp (pg_tup hc h hn hst) fun v σ H Q ⟨x, ρ, T, r, p, ρ', e, q⟩ => ?_
  obtain ⟨kx, d⟩ := x
  unfold gT partsD at e
  cases d with
  | tup xs =>
    simp only at e
    by_cases hl : (xs.map fun d => (if d.isS then 9 else kx, d)).length = n
    · rw [if_pos hl] at e
      obtain ⟨L, c, g⟩ := r
      obtain ⟨a, vs, rfl, s1, l1, g1⟩ := g.tup_inv
      refine ⟨a, vs, rfl, s1, by rw [← hl, List.length_map, l1], _, ρ, T, by rw [List.length_map, l1], ⟨L, c, ?_⟩, p, ρ', e, q⟩
      have g2 := Good.lifts l1 g1
      rw [List.append_assoc]
      exact g2
    · rw [if_neg hl] at e; cases e
  | _ => cases e
end

/-! ### small statements -/
def sNx : M Out := M.ret .nx
def sSeq (a b : M Out) : M Out := a.bind fun o => match o with
  | .nx => b
  | o => M.ret o
def sAsg (m : M LD) (g : G) : M Out := m.bind fun x ρ => match g x ρ with
  | some ρ' => .ok .nx ρ'
  | none => .no
def sDrop (m : M LD) : M Out := m.bind fun _ => M.ret .nx
def sRet (m : M LD) : M Out := m.bind fun x => M.ret (.rt x)
def sIf (c : M Bool) (a b : M Out) : M Out := c.bind fun t => if t then a else b
section
variable {X : Cx} {W : Wish} {P : Sg → Prop} {e : Expr} {pos : Pos} {st : Stmt} {rest : List Stmt} {ma mb : M Out} {m : M LD}
theorem b_nil : PSs X [] (tS X.K W P sNx) := PSs.imp pss_nil fun D σ H ⟨ρ, T, r, p, a⟩ => a σ H r p
theorem b_cons (h1 : PS X st (tS X.K W P ma)) (h2 : PSs X rest (tS X.K W P mb)) : PSs X (st :: rest) (tS X.K W P (sSeq ma mb)) := by
  refine PSs.imp (pss_cons h1 h2) fun D σ H ⟨ρ, T, r, p, a⟩ => ⟨ρ, T, r, p, a.bind.imp fun o ρ' q => ?_⟩
  cases o with
  | nx => exact fun σ' H' r' p' => ⟨ρ', T, r', p', q⟩
  | bk => exact q
  | ct => exact q
  | rt x => exact q
  | xn x => exact q
theorem b_one (h1 : PS X st (tS X.K W P ma)) : PSs X [st] (tS X.K W P ma) := pss_one h1
theorem s_pass : PS X (.Pass pos) (tS X.K W P sNx) := PS.imp ps_pass fun D σ H ⟨ρ, T, r, p, a⟩ => a σ H r p
theorem s_break : PS X (.Break pos) (tS X.K W P (M.ret .bk)) := PS.imp ps_break fun D σ H ⟨ρ, T, r, p, a⟩ => a σ H r p
theorem s_continue : PS X (.Continue pos) (tS X.K W P (M.ret .ct)) := PS.imp ps_continue fun D σ H ⟨ρ, T, r, p, a⟩ => a σ H r p
theorem s_expr (h : PE X e (tV X.K W m)) (hs : swapsWith e none pos.line X.env = pure false := by rfl) : PS X (.Expr e pos) (tS X.K W P (sDrop m)) :=
  PS.imp (ps_expr h hs) fun D σ H ⟨ρ, T, r, p, a⟩ => ⟨ρ, T, r, a.bind.imp fun x ρ' q v H' r' => q σ H' r'.drop p⟩
theorem s_ret (h : PE X e (tV X.K W m)) : PS X (.Return (some e) pos) (tS X.K W P (sRet m)) :=
  PS.imp (ps_ret h) fun D σ H ⟨ρ, T, r, p, a⟩ => ⟨ρ, T, r, a.bind.imp fun x ρ' q v H' r' => q v σ H' r' p⟩
theorem s_retN : PS X (.Return none pos) (tS X.K W P (M.ret (.rt (9, .non)))) :=
  PS.imp ps_retN fun D σ H ⟨ρ, T, r, p, a⟩ => a .non σ H (r.scal (d := .non) rfl) p
theorem s_if {c : Expr} {a b : List Stmt} {mc : M Bool} (hc : PT X c (tT X.K W mc)) (ha : PSs X a (tS X.K W P ma)) (hb : PSs X b (tS X.K W P mb)) : PS X (.If c a b pos) (tS X.K W P (sIf mc ma mb)) := by
  refine PS.imp (ps_if hc ha hb) fun D σ H ⟨ρ, T, r, p, h⟩ => ⟨ρ, T, r, h.bind.imp fun t ρ' q H' r' => ?_⟩
  cases t with
  | true => rw [if_pos rfl]; exact ⟨ρ', T, r', p, q⟩
  | false => rw [if_neg Bool.false_ne_true]; exact ⟨ρ', T, r', p, q⟩
theorem asg_run {g : G} {D : Ends} {σ : Sg} {H : Hp} (h : tS X.K W P (sAsg m g) D σ H) : tAsg (tV X.K W m) (tG X.K P g) D σ H := by
  obtain ⟨ρ, T, r, p, a⟩ := h
  refine ⟨ρ, T, r, a.bind.imp fun x ρ' q v H' r' => ?_⟩
  have q' : Aft W T (match g x ρ' with | some ρ' => R.ok Out.nx ρ' | none => R.no) fun o ρ' => OutP X.K W P T D ρ' o := q
  cases e : g x ρ' with
  | none => rw [e] at q'; exact q'.elim
  | some ρ2 => rw [e] at q'; exact ⟨x, ρ', T, r', p, ρ2, e, q'⟩
/-- name = e -/
theorem s_set {i : Nat} {x : Str} {pos' : Pos} (hN : X.N.Nodup) (hi : X.N[i]? = some x) (hx : Loc X.env.scope x) (h : PE X e (tV X.K W m)) (hP : Stays P i) (hs : swapsWith e (some (.Name x pos')) pos.line X.env = pure false := by rfl)
    (hf : X.fn x = true ∨ X.env.scope.names.lookup x = some .local := by first | exact .inl rfl | exact .inr rfl | assumption) : PS X (.Assign [.Name x pos'] e pos) (tS X.K W P (sAsg m (gN i))) := by
  refine PS.imp (ps_set hN hi hx h hs hf) fun D σ H hq => ?_
  obtain ⟨ρ, T, r, a⟩ := asg_run hq
  refine ⟨ρ, T, r, a.imp fun y ρ' q v H' r' => ?_⟩
  obtain ⟨y', ρ2, T2, r2, p2, ρ3, e3, q3⟩ := q v H' r'
  unfold gN at e3
  by_cases hi' : i < ρ2.length
  · rw [if_pos hi'] at e3
    cases e3
    exact q3 _ H' (r2.store hi') (hP _ _ p2)
  · rw [if_neg hi'] at e3; cases e3
/-- target = e -/
theorem s_asg {tg : Expr} {g : G} (h : PE X e (tV X.K W m)) (hg : PG X tg (tG X.K P g)) (hs : swapsWithSole [tg] e pos.line X.env = pure false := by rfl) (hw : swappedStores [tg] e X.env = pure none := by rfl)
    (h1 : (assignEach [tg] X.env).map (·.2) = [assign tg X.env] := by rfl) : PS X (.Assign [tg] e pos) (tS X.K W P (sAsg m g)) :=
  PS.imp (ps_asg h hg hs hw h1) fun D σ H hq => asg_run hq
/-- a, b = e1, e2 -/
def sPar (i j : Nat) (ma mb : M LD) : M Out := ma.bind fun x => mb.bind fun y ρ => if i < ρ.length ∧ j < ρ.length then .ok .nx ((ρ.set i (.c x.1 x.2)).set j (.c y.1 y.2)) else .no
theorem s_par {i j : Nat} {x y : Str} {a b : Expr} {ma mb : M LD} {px py pt : Pos} {kt k2 pt2} (hc : X.calm = true) (hN : X.N.Nodup) (hi : X.N[i]? = some x) (hj : X.N[j]? = some y) (hij : i ≠ j)
    (hx : X.env.scope.names.lookup x = some .local) (hy : X.env.scope.names.lookup y = some .local) (ha : PE X a (tV X.K W ma)) (hb : PE X b (tV X.K W mb)) (hPi : Stays P i) (hPj : Stays P j)
    (hw : swappedStores [.Tuple [.Name x px, .Name y py] kt pt] (.Tuple [a, b] k2 pt2) X.env = pure (some [x, y]))
    (hs : swapsWithSole [.Tuple [.Name x px, .Name y py] kt pt] (.Tuple [a, b] k2 pt2) pos.line X.env = pure false := by rfl)
    (he : starEach [a, b] X.env = (false, eval a X.env) :: starEach [b] X.env := by rfl) (he2 : starEach [b] X.env = (false, eval b X.env) :: starEach [] X.env := by rfl) :
    PS X (.Assign [.Tuple [.Name x px, .Name y py] kt pt] (.Tuple [a, b] k2 pt2) pos) (tS X.K W P (sPar i j ma mb)) := by
  refine PS.imp (ps_par hc hN hi hj hij hx hy (pa_cons ha (pa_cons hb pa_nil he2) he) hw hs) fun D σ H ⟨ρ, T, r, p, h⟩ => ?_
  refine ⟨ρ, T, r, h.bind.imp fun x1 ρ1 q1 v1 H1 r1 => ⟨ρ1, _, r1, (q1.bind.up).imp fun x2 ρ2 q2 v2 H2 r2 => ?_⟩⟩
  have q2' : Aft W T (if i < ρ2.length ∧ j < ρ2.length then R.ok Out.nx ((ρ2.set i (.c x1.1 x1.2)).set j (.c x2.1 x2.2)) else R.no) fun o ρ' => OutP X.K W P T D ρ' o := q2
  by_cases hl : i < ρ2.length ∧ j < ρ2.length
  · rw [if_pos hl] at q2'
    refine ⟨v1, v2, rfl, ?_⟩
    have r3 : Rel X.K H2 ρ2 σ ((x1.1, x1.2, v1) :: (x2.1, x2.2, v2) :: T) := r2.good fun L g => g.perm (.swap _ _ _)
    have r4 := (r3.store hl.1).store (i := j) (by rw [List.length_set]; exact hl.2)
    exact q2' _ H2 r4 (hPj _ _ (hPi _ _ p))
  · rw [if_neg hl] at q2'; exact q2'.elim
end

/-! ### what is walked -/
/-- J gives ds, one by one, where the row S of values stands -/
structure Feeds (K : PySem.W.Frag) (J : It) (S : List Item) (ds : List D) : Prop where
  go : ∀ (i : Nat) (d : D) (H : Hp) (ρ : Rho) (σ : Sg) (T : List Item), Rel K H ρ σ (S ++ T) → ds[i]? = some d → J.go i H ∧ ∀ x H', J.yld i H x H' → Rel K H' ρ σ ((lv d, d, x) :: (S ++ T))
  stop : ∀ (i : Nat) (H : Hp) (ρ : Rho) (σ : Sg) (T : List Item), Rel K H ρ σ (S ++ T) → i = ds.length → J.stop i H
def tI (K : PySem.W.Frag) (W : Wish) (m : M (List D)) : TI := fun σ H R => ∃ ρ T, Rel K H ρ σ T ∧ Aft W T (m ρ) fun ds ρ' => ∀ J S H', Rel K H' ρ' σ (S ++ T) → Feeds K J S ds → R J H'
def seqM (m : M LD) : M (List D) := m.bind fun x => match x.2 with
  | .lst xs => M.ret xs
  | .tup xs => M.ret xs
  | .rol xs => M.ret xs
  | _ => fun _ => .no
section
variable {K : PySem.W.Frag} {H H' : Hp} {L : List Item} {Rs : List Addr} {ρ : Rho} {σ : Sg} {T S : List Item}
theorem Good.lv {d : D} {v : V} (g : Good K Rs H ((0, d, v) :: L)) : Good K Rs H ((Vs.lv d, d, v) :: L) := g.lift
/-- the i-th of a shared list, the list kept -/
theorem lst_at {ds : List D} {v : V} {i : Nat} {d : D} (r : Rel K H ρ σ ((0, .lst ds, v) :: T)) (e : ds[i]? = some d) : ∃ p vs x, v = .ref p ∧ H p = some (.lst vs) ∧ vs[i]? = some x ∧ Rel K H ρ σ ((lv d, d, x) :: (0, .lst ds, v) :: T) ∧ ds.length = vs.length := by
  obtain ⟨L, c, g⟩ := r
  obtain ⟨p, vs, rfl, h1, h2, g1⟩ := g.lst_view
  have hi : i < vs.length := by rw [← h2]; exact (List.getElem?_eq_some_iff.mp e).1
  exact ⟨p, vs, vs[i], rfl, h1, by simp [hi], ⟨L, c, (g1.pick e (by simp [hi])).lv⟩, h2⟩
theorem tup_at {ds : List D} {v : V} {i : Nat} {d : D} (r : Rel K H ρ σ ((0, .tup ds, v) :: T)) (e : ds[i]? = some d) : ∃ p vs x, v = .ref p ∧ SqT K H p vs ∧ vs[i]? = some x ∧ Rel K H ρ σ ((lv d, d, x) :: (0, .tup ds, v) :: T) ∧ ds.length = vs.length := by
  obtain ⟨L, c, g⟩ := r
  obtain ⟨p, vs, rfl, h1, h2, g1⟩ := g.tup_view
  have hi : i < vs.length := by rw [← h2]; exact (List.getElem?_eq_some_iff.mp e).1
  exact ⟨p, vs, vs[i], rfl, h1, by simp [hi], ⟨L, c, (g1.pick e (by simp [hi])).lv⟩, h2⟩
theorem rol_at {ds : List D} {v : V} {i : Nat} {d : D} (r : Rel K H ρ σ ((0, .rol ds, v) :: T)) (e : ds[i]? = some d) : ∃ p vs x, v = .ref p ∧ SqL K H p vs ∧ vs[i]? = some x ∧ Rel K H ρ σ ((lv d, d, x) :: (0, .rol ds, v) :: T) ∧ ds.length = vs.length := by
  obtain ⟨L, c, g⟩ := r
  obtain ⟨p, vs, rfl, h1, h2, g1⟩ := g.dup.rol_inv
  have hi : i < vs.length := by rw [← h2]; exact (List.getElem?_eq_some_iff.mp e).1
  exact ⟨p, vs, vs[i], rfl, h1, by simp [hi], ⟨L, c, (g1.pick e (by simp [hi])).lv⟩, h2⟩
theorem feeds_lst {ds : List D} {p : Addr} : Feeds K (Itl K p) [(0, .lst ds, .ref p)] ds := by
  refine ⟨fun i d H ρ σ T r e => ?_, fun i H ρ σ T r e => ?_⟩
  · obtain ⟨p', vs, x, e1, h1, h2, r2, _⟩ := lst_at r e
    cases e1
    refine ⟨⟨vs, x, SqL.of h1, h2⟩, fun y H' hy => ?_⟩
    obtain ⟨rfl, hy⟩ := hy
    have := hy vs (SqL.of h1)
    rw [h2] at this
    cases this
    exact r2
  · obtain ⟨vs, h1, h2⟩ : ∃ vs, H p = some (.lst vs) ∧ ds.length = vs.length := by
      obtain ⟨L, c, g⟩ := r
      obtain ⟨p', vs, e1, h1, h2, _⟩ := Good.lst_inv (L := T ++ L) g
      cases e1
      exact ⟨vs, h1, h2⟩
    exact ⟨vs, SqL.of h1, by omega⟩
theorem feeds_tup {ds : List D} {p : Addr} : Feeds K (Itt K p) [(0, .tup ds, .ref p)] ds := by
  refine ⟨fun i d H ρ σ T r e => ?_, fun i H ρ σ T r e => ?_⟩
  · obtain ⟨p', vs, x, e1, h1, h2, r2, _⟩ := tup_at r e
    cases e1
    refine ⟨⟨vs, x, h1, h2⟩, fun y H' hy => ?_⟩
    obtain ⟨rfl, hy⟩ := hy
    have := hy vs h1
    rw [h2] at this
    cases this
    exact r2
  · obtain ⟨vs, h1, h2⟩ : ∃ vs, SqT K H p vs ∧ ds.length = vs.length := by
      obtain ⟨L, c, g⟩ := r
      obtain ⟨p', vs, e1, h1, h2, _⟩ := Good.tup_inv (L := T ++ L) g
      cases e1
      exact ⟨vs, h1, h2⟩
    exact ⟨vs, h1, by omega⟩
theorem feeds_rol {ds : List D} {p : Addr} : Feeds K (Itl K p) [(0, .rol ds, .ref p)] ds := by
  refine ⟨fun i d H ρ σ T r e => ?_, fun i H ρ σ T r e => ?_⟩
  · obtain ⟨p', vs, x, e1, h1, h2, r2, _⟩ := rol_at r e
    cases e1
    refine ⟨⟨vs, x, h1, h2⟩, fun y H' hy => ?_⟩
    obtain ⟨rfl, hy⟩ := hy
    have := hy vs h1
    rw [h2] at this
    cases this
    exact r2
  · obtain ⟨vs, h1, h2⟩ : ∃ vs, SqL K H p vs ∧ ds.length = vs.length := by
      obtain ⟨L, c, g⟩ := r
      obtain ⟨p', vs, e1, h1, h2, _⟩ := Good.rol_inv (L := T ++ L) g
      cases e1
      exact ⟨vs, h1, h2⟩
    exact ⟨vs, h1, by omega⟩
def rangeD (lo hi : Int) : List D := (List.range (hi - lo).toNat).map fun (j : Nat) => D.int (lo + (j : Int))
theorem feeds_range {lo hi : Int} : Feeds K (Itr lo (hi - lo).toNat) [] (rangeD lo hi) := by
  refine ⟨fun i d H ρ σ T r e => ?_, fun i H ρ σ T r e => ?_⟩
  · unfold rangeD at e
    rw [List.getElem?_map] at e
    cases q : (List.range (hi - lo).toNat)[i]? with
    | none => rw [q] at e; cases e
    | some j =>
      rw [q] at e
      obtain ⟨hj, ej⟩ := List.getElem?_eq_some_iff.mp q
      rw [List.getElem_range] at ej
      subst ej
      cases e
      rw [List.length_range] at hj
      refine ⟨hj, fun x H' hy => ?_⟩
      obtain ⟨rfl, rfl⟩ := hy
      exact r.scal (d := .int (lo + (i : Int))) rfl
  · unfold rangeD at e
    rw [List.length_map, List.length_range] at e
    exact Nat.le_of_eq e.symm
end
/-- either a list or a tuple -/
def iSeq (K : PySem.W.Frag) (tl : TE) : TI := fun σ H R => tl σ H fun x H1 => ∃ a, x = .ref a ∧ ((∃ xs, SqL K H1 a xs) ∧ R (Itl K a) H1 ∨ (∃ xs, SqT K H1 a xs) ∧ R (Itt K a) H1)
section
variable {X : Cx} {W : Wish} {P : Sg → Prop} {tg e : Expr} {pos : Pos} {m : M LD}
theorem pi_seq {tl : TE} (h : PE X e tl) : PI X tg e (iSeq X.K tl) := by
  refine ⟨fun pins s σ H R I hq => thn (h.run pins s σ H _ I hq) fun v s1 ⟨x, H1, I1, r1, a, e1, q⟩ => ?_⟩
  subst e1
  cases r1
  have unit : ∀ s2 : Shared, s2 = s1 → s2 = s1 := fun _ z => z
  rcases q with ⟨⟨xs, hq⟩, q⟩ | ⟨⟨xs, hq⟩, q⟩
  · obtain ⟨us, rv, p, hz⟩ := I1.list hq
    refine wpAny_pyIter_list p.isList ⟨s1.heap.objs.size, [s1.heap.objs.size], _, _, H1, rfl, I1.kept (t' := s1.toks) fun b o e => Heap.get?_push_of_some _ e, turn_list a _, ⟨_, Heap.get?_push_size _ rfl, rfl, rfl⟩, fun b hb => ?_, q⟩
    obtain rfl : b = s1.heap.objs.size := by simpa using hb
    exact I1.fpOk (Nat.le_refl _) (I1.hok.fresh (Nat.le_refl _))
  · obtain ⟨us, rv, p, hz⟩ := I1.tuple hq
    refine wpAny_pyIter_tuple (show s1.heap.IsTuple a us.toArray from p) ⟨s1.heap.objs.size, [s1.heap.objs.size], _, _, H1, rfl, I1.kept (t' := s1.toks) fun b o e => Heap.get?_push_of_some _ e, turn_tuple a _, ⟨_, Heap.get?_push_size _ rfl, rfl, rfl⟩, fun b hb => ?_, q⟩
    obtain rfl : b = s1.heap.objs.size := by simpa using hb
    exact I1.fpOk (Nat.le_refl _) (I1.hok.fresh (Nat.le_refl _))
theorem i_seq (h : PE X e (tV X.K W m)) : PI X tg e (tI X.K W (seqM m)) := by
  refine PI.imp (pi_seq h) fun σ H R ⟨ρ, T, r, a⟩ => ⟨ρ, T, r, a.bind.imp fun x ρ' q v H' r' => ?_⟩
  obtain ⟨k, d⟩ := x
  have r2 : Rel X.K H' ρ' σ ((0, d, v) :: T) := r'.good fun L g => g.low (Nat.zero_le _)
  cases d with
  | lst xs =>
    obtain ⟨p, vs, rfl, h1, _⟩ := r2.top.lst
    exact ⟨p, rfl, .inl ⟨⟨vs, SqL.of h1⟩, q _ _ H' r2 feeds_lst⟩⟩
  | tup xs =>
    obtain ⟨p, vs, rfl, h1, _⟩ := r2.top.tup
    exact ⟨p, rfl, .inr ⟨⟨vs, h1⟩, q _ _ H' r2 feeds_tup⟩⟩
  | rol xs =>
    obtain ⟨p, vs, rfl, h1, _⟩ := r2.top.rol
    exact ⟨p, rfl, .inl ⟨⟨vs, h1⟩, q _ _ H' r2 feeds_rol⟩⟩
  | _ => exact q.elim
def rgOk (i : Int) : Bool := decide (-(2 ^ 62) ≤ i) && decide (i < 2 ^ 62)
def rng1 (m : M (List LD)) : M (List D) := m.bind fun xs => match xs with
  | [(_, .int j)] => if rgOk j then M.ret (rangeD 0 j) else fun _ => .no
  | _ => fun _ => .no
def rng2 (m : M (List LD)) : M (List D) := m.bind fun xs => match xs with
  | [(_, .int i), (_, .int j)] => if rgOk i && rgOk j then M.ret (rangeD i j) else fun _ => .no
  | _ => fun _ => .no
theorem i_range1 {a : Expr} {p : Pos} {m : M (List LD)} (hg : Gl X "range") (hm : X.mg "range" = none) (ha : PA X [a] (tVs X.K W m)) (hs : starEach [a] X.env = [(false, eval a X.env)] := by rfl) : PI X tg (.Call (.Name "range" p) [a] [] pos) (tI X.K W (rng1 m)) := by
  refine PI.imp (pi_range1 hg hm ha hs) fun σ H R ⟨ρ, T, r, h⟩ => ⟨ρ, T, r, h.bind.imp fun xs ρ' q vs H' hl r' => ?_⟩
  split at q
  · rename_i k j
    match vs, hl with
    | [v], _ =>
      have r2 : Rel X.K H' ρ' σ ((k, .int j, v) :: T) := r'
      obtain rfl := r2.top.int
      by_cases z : rgOk j = true
      · rw [if_pos z] at q
        unfold rgOk at z
        rw [Bool.and_eq_true] at z
        refine ⟨j, rfl, of_decide_eq_true z.1, of_decide_eq_true z.2, ?_⟩
        have := q (Itr 0 (j - 0).toNat) [] H' r2.drop feeds_range
        rwa [Int.sub_zero] at this
      · rw [if_neg z] at q; exact q.elim
  · exact q.elim
theorem i_range2 {a b : Expr} {p : Pos} {m : M (List LD)} (hg : Gl X "range") (hm : X.mg "range" = none) (ha : PA X [a, b] (tVs X.K W m)) (hs : starEach [a, b] X.env = [(false, eval a X.env), (false, eval b X.env)] := by rfl) (hs2 : starEach [b] X.env = [(false, eval b X.env)] := by rfl) :
    PI X tg (.Call (.Name "range" p) [a, b] [] pos) (tI X.K W (rng2 m)) := by
  refine PI.imp (pi_range2 hg hm ha hs hs2) fun σ H R ⟨ρ, T, r, h⟩ => ⟨ρ, T, r, h.bind.imp fun xs ρ' q vs H' hl r' => ?_⟩
  split at q
  · rename_i k i k' j
    match vs, hl with
    | [v, v'], _ =>
      have r2 : Rel X.K H' ρ' σ ((k, .int i, v) :: (k', .int j, v') :: T) := r'
      obtain rfl := r2.top.int
      obtain rfl := r2.drop.top.int
      by_cases z : (rgOk i && rgOk j) = true
      · rw [if_pos z] at q
        unfold rgOk at z
        simp only [Bool.and_eq_true] at z
        exact ⟨i, j, rfl, ⟨of_decide_eq_true z.1.1, of_decide_eq_true z.1.2, of_decide_eq_true z.2.1, of_decide_eq_true z.2.2⟩, q _ [] H' r2.drop.drop feeds_range⟩
      · rw [if_neg z] at q; exact q.elim
  · exact q.elim
end

/-! ### for -/
def forL (g : G) (b : M Out) : List D → M Out
  | [] => M.ret .nx
  | d :: ds => fun ρ => match g (lv d, d) ρ with
    | none => .no
    | some ρ1 => match b ρ1 with
      | .no => .no
      | .ex x ρ2 => .ex x ρ2
      | .ok .nx ρ2 => forL g b ds ρ2
      | .ok .ct ρ2 => forL g b ds ρ2
      | .ok .bk ρ2 => .ok .nx ρ2
      | .ok (.rt x) ρ2 => .ok (.rt x) ρ2
      | .ok (.xn x) ρ2 => .ok (.xn x) ρ2
def sFor (i : M (List D)) (g : G) (b : M Out) : M Out := i.bind fun ds => forL g b ds
section
variable {X : Cx} {W : Wish} {P : Sg → Prop} {tg it : Expr} {pos : Pos} {body : List Stmt} {mi : M (List D)} {g : G} {mb : M Out}
theorem s_for (hp : PassesOwn (model X.prog X.w) X.A X.env X.xe) (hc : X.calm = true) (hi : PI X tg it (tI X.K W mi)) (hg : PG X tg (tG X.K P g)) (hb : PSs X body (tS X.K W P mb))
    (hs : ∀ x, foldedSetIterable it X.env x = pure x := by intro _; rfl) : PS X (.For tg it body [] pos) (tS X.K W P (sFor mi g mb)) := by
  refine PS.imp (ps_for hp hc hi hg hb hs) fun D σ H ⟨ρ, T, r, p, a⟩ => ⟨ρ, T, r, a.bind.imp fun ds ρ0 q J S H0 r0 fd => ?_⟩
  refine ⟨fun i n σ H => n = ds.length - i ∧ i ≤ ds.length ∧ ∃ ρ, Rel X.K H ρ σ (S ++ T) ∧ P σ ∧ Aft W T (forL g mb (ds.drop i) ρ) fun o ρ' => OutP X.K W P T D ρ' o, ⟨_, rfl, Nat.zero_le _, ρ0, r0, p, q⟩, ?_⟩
  rintro i n σ1 H1 ⟨rfl, hle, ρ1, r1, p1, q1⟩
  have dropS : ∀ {H ρ σ}, Rel X.K H ρ σ (S ++ T) → Rel X.K H ρ σ T := fun r => r.good fun L g => by rw [List.append_assoc] at g; exact g.dropA
  have dropX : ∀ {H ρ σ} {x : Item}, Rel X.K H ρ σ (x :: (S ++ T)) → Rel X.K H ρ σ (x :: T) := fun {H ρ σ x} r => r.good fun L g => by
    have g2 : Good X.K [] H ([x] ++ (S ++ (T ++ L))) := by
      rw [List.cons_append, List.append_assoc] at g
      exact g
    exact g2.mid
  cases e : ds[i]? with
  | none =>
    have hl : ds.length ≤ i := List.getElem?_eq_none_iff.mp e
    rw [List.drop_eq_nil_of_le hl] at q1
    exact .inl ⟨fd.stop i H1 ρ1 σ1 T r1 (Nat.le_antisymm hle hl), q1 σ1 H1 (dropS r1) p1⟩
  | some d =>
    obtain ⟨hlt, ed⟩ := List.getElem?_eq_some_iff.mp e
    obtain ⟨h1, h2⟩ := fd.go i d H1 ρ1 σ1 T r1 e
    have e2 : ds.drop i = d :: ds.drop (i + 1) := by rw [List.drop_eq_getElem_cons hlt, ed]
    rw [e2] at q1
    refine .inr ⟨h1, fun σ' H' => ∃ ρ', Rel X.K H' ρ' σ' (S ++ T) ∧ P σ' ∧ Aft W T (forL g mb (ds.drop (i + 1)) ρ') fun o ρ' => OutP X.K W P T D ρ' o, fun σ' H' ⟨ρ', r', p', q'⟩ => ⟨ds.length - (i + 1), by omega, rfl, hlt, ρ', r', p', q'⟩, fun x H' hy => ?_⟩
    have r2 := h2 x H' hy
    unfold forL at q1
    cases eg : g (lv d, d) ρ1 with
    | none => rw [eg] at q1; exact q1.elim
    | some ρ2 =>
      rw [eg] at q1
      simp only at q1
      refine ⟨(lv d, d), ρ1, S ++ T, r2, p1, ρ2, eg, fun σ2 H2 r3 p3 => ⟨ρ2, S ++ T, r3, p3, ?_⟩⟩
      cases eb : mb ρ2 with
      | no => rw [eb] at q1; exact q1.elim
      | ex x ρ3 => rw [eb] at q1; exact (Aft.ups (r := R.ex x ρ3) (α := Out) (k := fun _ _ => False) q1 S)
      | ok o ρ3 =>
        rw [eb] at q1
        cases o with
        | nx => exact fun σ' H' r' p' => ⟨ρ3, r', p', q1⟩
        | ct => exact fun σ' H' r' p' => ⟨ρ3, r', p', q1⟩
        | bk => exact fun σ' H' r' p' => q1 σ' H' (dropS r') p'
        | rt x => exact fun v σ' H' r' p' => q1 v σ' H' (dropX r') p'
        | xn x => exact (Aft.ups (r := R.ex x ρ3) (α := Out) (k := fun _ _ => False) q1 S)
end

/-! ### while -/
def whL (c : M Bool) (b : M Out) : Nat → M Out
  | 0 => fun _ => .no
  | n + 1 => c.bind fun t => if t then (fun ρ => match b ρ with
      | .no => .no
      | .ex x ρ2 => .ex x ρ2
      | .ok .nx ρ2 => whL c b n ρ2
      | .ok .ct ρ2 => whL c b n ρ2
      | .ok .bk ρ2 => .ok .nx ρ2
      | .ok (.rt x) ρ2 => .ok (.rt x) ρ2
      | .ok (.xn x) ρ2 => .ok (.xn x) ρ2) else M.ret .nx
def whN : Nat := 1099511627776
def sWh (c : M Bool) (b : M Out) : M Out := whL c b whN
section
variable {X : Cx} {W : Wish} {P : Sg → Prop} {c : Expr} {pos : Pos} {body : List Stmt} {mc : M Bool} {mb : M Out}
theorem s_while (hp : PassesOwn (model X.prog X.w) X.A X.env X.xe) (hc : PT X c (tT X.K W mc)) (hb : PSs X body (tS X.K W P mb)) : PS X (.While c body [] pos) (tS X.K W P (sWh mc mb)) := by
  refine PS.imp (ps_while hp hc hb) fun D σ H ⟨ρ, T, r, p, a⟩ => ?_
  refine ⟨fun n σ H => ∃ ρ, Rel X.K H ρ σ T ∧ P σ ∧ Aft W T (whL mc mb n ρ) fun o ρ' => OutP X.K W P T D ρ' o, ⟨whN, ρ, r, p, a⟩, ?_⟩
  rintro n σ1 H1 ⟨ρ1, r1, p1, q1⟩
  cases n with
  | zero => exact q1.elim
  | succ n =>
    refine ⟨ρ1, T, r1, q1.bind.imp fun t ρ2 q2 H2 r2 => ?_⟩
    cases t with
    | false => rw [if_neg Bool.false_ne_true] at q2 ⊢; exact q2 σ1 H2 r2 p1
    | true =>
      rw [if_pos rfl] at q2 ⊢
      refine ⟨fun σ' H' => ∃ ρ', Rel X.K H' ρ' σ' T ∧ P σ' ∧ Aft W T (whL mc mb n ρ') fun o ρ' => OutP X.K W P T D ρ' o, fun σ' H' h => ⟨n, Nat.lt_succ_self n, h⟩, ρ2, T, r2, p1, ?_⟩
      cases eb : mb ρ2 with
      | no => rw [eb] at q2; exact q2.elim
      | ex x ρ3 => rw [eb] at q2; exact q2
      | ok o ρ3 =>
        rw [eb] at q2
        cases o with
        | nx => exact fun σ' H' r' p' => ⟨ρ3, r', p', q2⟩
        | ct => exact fun σ' H' r' p' => ⟨ρ3, r', p', q2⟩
        | bk => exact fun σ' H' r' p' => q2 σ' H' r' p'
        | rt x => exact fun v σ' H' r' p' => q2 v σ' H' r' p'
        | xn x => exact q2
end
end Vs
set_option Elab.async false
set_option linter.all false
set_option maxRecDepth 100000
set_option maxHeartbeats 2000000
/-! Vs6: comprehensions; what changes a list, a dict; calls. -/
namespace Vs
open PySem PySem.Spec PyProof.Rows L2

/-! ### a block's own names -/
def wipeC (ρ : Rho) : List Nat → Rho
  | [] => ρ
  | v :: vs => (wipeC ρ vs).set v .u
/-- the cells at vs as they were -/
def backC (ρ0 : Rho) (ρ : Rho) : List Nat → Rho
  | [] => ρ
  | v :: vs => match ρ0[v]? with
    | some c => backC ρ0 (ρ.set v c) vs
    | none => backC ρ0 ρ vs
section
variable {K : PySem.W.Frag} {H H' : Hp} {L : List Item} {Rs : List Addr} {ρ ρ' : Rho} {σ : Sg} {T S : List Item}
theorem wipeC_len (ρ : Rho) : ∀ vs : List Nat, (wipeC ρ vs).length = ρ.length
  | [] => rfl
  | v :: vs => by unfold wipeC; rw [List.length_set, wipeC_len ρ vs]
theorem Cells.hide (h : Cells ρ σ L) (vs : List Nat) : ∃ M L', L.Perm (M ++ L') ∧ Cells (wipeC ρ vs) (L2.wipe σ vs) L' := by
  induction vs with
  | nil => exact ⟨[], L, .refl _, h⟩
  | cons v vs ih =>
    obtain ⟨M, L', p, c⟩ := ih
    obtain ⟨M2, Lb, p2, c2⟩ := c.wipe v
    refine ⟨M ++ M2, Lb, (p.trans (by rw [List.append_assoc]; exact p2.append_left M)), ?_⟩
    show Cells ((wipeC ρ vs).set v .u) ((L2.wipe σ vs).set v none) Lb
    by_cases hv : v < (wipeC ρ vs).length
    · exact c2.free (by rw [List.getElem?_set_self hv])
    · have hs : (L2.wipe σ vs).length ≤ v := by rw [← c.len]; omega
      rw [List.set_eq_of_length_le hs]
      exact c2
/-- the frame as it was ahead of the block: every cell is forgotten that the block wiped -/
theorem Cells.unhide {σ' : Sg} (h : Cells ρ' σ' L) (hl : σ'.length = σ.length) (vs : List Nat) (hs : ∀ (j : Nat) (v : V), σ'[j]? = some (some v) → σ[j]? = some (some v)) : Cells ρ' σ L := by
  induction h generalizing σ with
  | nil => cases σ with
    | nil => exact .nil
    | cons _ _ => simp at hl
  | @u ρ σ1 L x h ih =>
    cases σ with
    | nil => simp at hl
    | cons y σ => exact .u (ih (by simpa using hl) fun j v e => by simpa using hs (j + 1) v (by simpa using e))
  | @c ρ σ1 L k d v h ih =>
    cases σ with
    | nil => simp at hl
    | cons y σ =>
      have := hs 0 v rfl
      simp at this
      subst this
      exact .c (ih (by simpa using hl) fun j v e => by simpa using hs (j + 1) v (by simpa using e))
end
/-! ### comprehensions -/
def compL (own : List Nat) (g : G) (t : M Bool) (e : M LD) : List D → Nat → List D → M LD
  | [], k, acc => M.ret (k + 1, .lst acc)
  | d :: ds, k, acc => fun ρ => match g (lv d, d) ρ with
    | none => .no
    | some ρ1 => match t ρ1 with
      | .no => .no
      | .ex _ _ => .no
      | .ok false ρ2 => compL own g t e ds k acc (wipeC ρ2 own)
      | .ok true ρ2 => match e ρ2 with
        | .no => .no
        | .ex _ _ => .no
        | .ok x ρ3 => compL own g t e ds (min k x.1) (acc ++ [x.2]) (wipeC ρ3 own)
/-- [e for g in i if t]: the block's own names must have no value outside of it -/
def comp (own : List Nat) (i : M (List D)) (g : G) (t : M Bool) (e : M LD) : M LD := i.bind fun ds ρ => if ds.length ≤ lineN ∧ own.all (fun v => match ρ[v]? with | some (.c _ d) => d.isS | _ => true) then (match compL own g t e ds 8 [] (wipeC ρ own) with
  | .ok x ρ' => .ok x (backC ρ ρ' own)
  | _ => .no) else .no
section
variable {K : PySem.W.Frag} {H H' : Hp} {L : List Item} {Rs : List Addr} {ρ ρ' : Rho} {σ : Sg} {T S : List Item}
/-- a value is put behind a list's items -/
theorem Good.push {k k1 : Nat} {d : D} {v a : V} {ds : List D} (g : Good K Rs H ((k, d, v) :: (k1 + 1, .lst ds, a) :: L)) :
    ∃ p vs, a = .ref p ∧ H p = some (.lst vs) ∧ ds.length = vs.length ∧ Good K Rs (upd H p (.lst (vs ++ [v]))) ((min k1 k + 1, .lst (ds ++ [d]), .ref p) :: L) := by
  obtain ⟨p, vs, rfl, h1, h2, g1⟩ := (g.perm (.swap _ _ _)).own_inv
  have g2 : Good K (p :: Rs) H (its (min k1 k) (ds ++ [d]) (vs ++ [v]) ++ L) := by
    refine its_both (k1 := k1) (k2 := k) h2 (Nat.min_le_left _ _) (Nat.min_le_right _ _) ?_
    exact g1
  exact ⟨p, vs, rfl, h1, h2, Good.own upd_same (by simp [h2]) (g2.wr (by rw [h1]; exact True.intro))⟩
theorem wipe_idem (σ : L2.St) : ∀ vs : List Nat, (∀ j ∈ vs, ∀ x, (wipe σ vs)[j]? ≠ some (some x)) := by
  intro vs j hj x e
  exact (wipe_some e).2 hj
theorem backC_rel {ρ0 : Rho} : ∀ (vs : List Nat) {ρ : Rho}, (∀ v ∈ vs, ∀ k d, ρ0[v]? = some (.c k d) → d.isS = true ∧ σ[v]? = some (some d.sv)) → (∀ v ∈ vs, ρ[v]? = none ∨ ρ[v]? = some .u ∨ ρ[v]? = ρ0[v]?) → Rel K H ρ σ T → Rel K H (backC ρ0 ρ vs) σ T
  | [], _, _, _, r => r
  | v :: vs, ρ, hs, hu, r => by
    unfold backC
    cases e : ρ0[v]? with
    | none => exact backC_rel vs (fun w hw => hs w (List.mem_cons_of_mem _ hw)) (fun w hw => hu w (List.mem_cons_of_mem _ hw)) r
    | some c =>
      simp only
      have key : Rel K H (ρ.set v c) σ T := by
        rcases hu v List.mem_cons_self with h | h | h
        · rw [List.set_eq_of_length_le (List.getElem?_eq_none_iff.mp h)]; exact r
        · cases c with
          | u =>
            obtain ⟨hi, e'⟩ := List.getElem?_eq_some_iff.mp h
            rw [← e', List.set_getElem_self]
            exact r
          | c k d =>
            obtain ⟨s, hv⟩ := hs v List.mem_cons_self k d e
            exact (r.scal (k := k) s).back h hv
        · rw [e] at h
          obtain ⟨hi, e'⟩ := List.getElem?_eq_some_iff.mp h
          rw [← e', List.set_getElem_self]
          exact r
      refine backC_rel vs (fun w hw => hs w (List.mem_cons_of_mem _ hw)) (fun w hw => ?_) key
      by_cases hwv : v = w
      · subst hwv
        by_cases hl : v < ρ.length
        · rw [List.getElem?_set_self hl, e]; exact .inr (.inr rfl)
        · rw [List.getElem?_eq_none (by rw [List.length_set]; omega)]; exact .inl rfl
      · rw [List.getElem?_set_ne hwv]; exact hu w (List.mem_cons_of_mem _ hw)
theorem wipeC_at : ∀ (vs : List Nat) (ρ : Rho), ∀ v ∈ vs, (wipeC ρ vs)[v]? = none ∨ (wipeC ρ vs)[v]? = some .u
  | w :: vs, ρ, v, hv => by
    show ((wipeC ρ vs).set w .u)[v]? = none ∨ _
    by_cases e : w = v
    · subst e
      by_cases hl : w < (wipeC ρ vs).length
      · right; show ((wipeC ρ vs).set w .u)[w]? = _; rw [List.getElem?_set_self hl]
      · left; rw [List.getElem?_eq_none (by rw [List.length_set]; omega)]
    · have := wipeC_at vs ρ v (by rcases List.mem_cons.mp hv with h | h; exact absurd h.symm e; exact h)
      show ((wipeC ρ vs).set w .u)[v]? = none ∨ ((wipeC ρ vs).set w .u)[v]? = some .u
      rw [List.getElem?_set_ne e]
      exact this
end
section
variable {X : Cx} {W : Wish} {tg it elt : Expr} {pos : Pos} {ifs : List Expr} {scope : Scope} {own : List (Str × Nat)} {mi : M (List D)} {g : G} {mt : M Bool} {me : M LD}
/-- within a block: the slots but for its own stand -/
def Blk (vs : List Nat) (σ0 : Sg) (σ : Sg) : Prop := wipe σ vs = wipe σ0 vs
theorem blk_stays {vs : List Nat} {σ0 : Sg} {i : Nat} (h : i ∈ vs) : Stays (Blk vs σ0) i := by
  intro σ v p
  have key : ∀ (vs : List Nat), i ∈ vs → wipe (σ.set i (some v)) vs = wipe σ vs := by
    intro vs
    induction vs with
    | nil => intro h; cases h
    | cons w vs ih =>
      intro h
      show (wipe (σ.set i (some v)) vs).set w none = (wipe σ vs).set w none
      by_cases hi : i ∈ vs
      · rw [ih hi]
      · have hw : i = w := (List.mem_cons.mp h).elim id fun z => absurd z hi
        subst hw
        have : ∀ us : List Nat, i ∉ us → wipe (σ.set i (some v)) us = (wipe σ us).set i (some v) := by
          intro us
          induction us with
          | nil => intro _; rfl
          | cons u us ih2 =>
            intro hn
            rw [List.mem_cons, not_or] at hn
            show (wipe (σ.set i (some v)) us).set u none = ((wipe σ us).set u none).set i (some v)
            rw [ih2 hn.2, List.set_comm _ _ (fun e => hn.1 e)]
        rw [this vs hi, List.set_set]
  unfold Blk at p ⊢
  rw [key vs h, p]
theorem comp_run {vs : List Nat} {σ : Sg} {H : Hp} {Q : VK} (hq : tV X.K W (comp vs mi g mt me) σ H Q) :
    tLc (tI X.K W mi) (fun v σ' H Q => tG X.K (Blk vs σ) g v σ' H Q) (tT X.K W0 mt) (tV X.K W0 me) vs σ H Q := by
  obtain ⟨ρ, T, r, a⟩ := hq
  refine ⟨ρ, T, r, a.bind.imp fun ds ρ0 q J S H0 r0 fd D hD => ?_⟩
  by_cases hz : ds.length ≤ lineN ∧ vs.all (fun v => match ρ0[v]? with | some (.c _ d) => d.isS | _ => true) = true
  · rw [if_pos hz] at q
    cases ec : compL vs g mt me ds 8 [] (wipeC ρ0 vs) with
    | no => rw [ec] at q; exact q.elim
    | ex x ρ' => rw [ec] at q; exact q.elim
    | ok x ρe =>
      rw [ec] at q
      -- the block's own cells
      obtain ⟨L0, c0, g0⟩ := r0
      obtain ⟨M, L', pm, ch⟩ := c0.hide vs
      have own0 : ∀ v ∈ vs, ∀ k d, ρ0[v]? = some (.c k d) → d.isS = true ∧ σ[v]? = some (some d.sv) := fun v hv k d e => by
        have hs := List.all_eq_true.mp hz.2 v hv
        rw [e] at hs
        obtain ⟨w, hw, kd⟩ := Rel.kd (⟨L0, c0, g0⟩ : Rel X.K H0 ρ0 σ (S ++ T)) e
        exact ⟨hs, by rw [hw, kd.isS hs]⟩
      -- the invariant
      refine ⟨fun i n H => n = ds.length - i ∧ i ≤ ds.length ∧ ∃ ρ k acc, acc.length ≤ i ∧ Rel X.K H ρ (wipe σ vs) (S ++ ((k + 1, .lst acc, .ref D) :: T)) ∧ (∀ v ∈ vs, ρ[v]? = none ∨ ρ[v]? = some .u) ∧ compL vs g mt me (ds.drop i) k acc ρ = .ok x ρe, ⟨_, rfl, Nat.zero_le _, wipeC ρ0 vs, 8, [], Nat.zero_le _, ?_, wipeC_at vs ρ0, ec⟩, ?_⟩
      · refine ⟨L', ch, ?_⟩
        have g1 : Good X.K [] H0 (S ++ (T ++ L')) := by
          have := (g0.perm ((pm.append_left (S ++ T)).trans (by
            rw [← List.append_assoc]
            exact List.perm_append_comm.append_right L'))).perm (List.perm_append_comm (l₁ := M ++ (S ++ T)) (l₂ := L'))
          have g2 : Good X.K [] H0 (M ++ (S ++ T) ++ L') := this.perm List.perm_append_comm
          rw [List.append_assoc] at g2
          have g3 := g2.dropA
          rwa [List.append_assoc] at g3
        have g2 : Good X.K [] (upd H0 D (.lst [])) ((8 + 1, .lst [], .ref D) :: (S ++ (T ++ L'))) := Good.newL (ds := []) (vs := []) g1 rfl hD
        rw [List.append_assoc]
        exact g2.perm List.perm_middle.symm
      · rintro i n H1 ⟨rfl, hle, ρ1, k, acc, hacc, r1, hu, q1⟩
        have hT : Rel X.K H1 ρ1 (wipe σ vs) (S ++ ((k + 1, .lst acc, .ref D) :: T)) := r1
        cases e : ds[i]? with
        | none =>
          have hl : ds.length ≤ i := List.getElem?_eq_none_iff.mp e
          rw [List.drop_eq_nil_of_le hl] at q1
          have sp := fd.stop i H1 ρ1 _ _ r1 (Nat.le_antisymm hle hl)
          cases q1
          refine .inl ⟨sp, ?_⟩
          refine q (.ref D) H1 ?_
          have r2 : Rel X.K H1 ρe (wipe σ vs) ((k + 1, .lst acc, .ref D) :: T) := r1.good fun L g => by rw [List.append_assoc] at g; exact g.dropA
          obtain ⟨L2, c2, g2⟩ := r2
          have r3 : Rel X.K H1 ρe σ ((k + 1, .lst acc, .ref D) :: T) := ⟨L2, c2.unhide (wipe_length _ _) vs (fun j v e => (wipe_some e).1), g2⟩
          exact backC_rel vs own0 (fun v hv => (hu v hv).elim .inl fun z => .inr (.inl z)) r3
        | some d =>
          obtain ⟨hlt, ed⟩ := List.getElem?_eq_some_iff.mp e
          obtain ⟨h1, h2⟩ := fd.go i d H1 ρ1 _ _ r1 e
          have e2 : ds.drop i = d :: ds.drop (i + 1) := by rw [List.drop_eq_getElem_cons hlt, ed]
          rw [e2] at q1
          refine .inr ⟨h1, fun H' => ∃ ρ k acc, acc.length ≤ i + 1 ∧ Rel X.K H' ρ (wipe σ vs) (S ++ ((k + 1, .lst acc, .ref D) :: T)) ∧ (∀ v ∈ vs, ρ[v]? = none ∨ ρ[v]? = some .u) ∧ compL vs g mt me (ds.drop (i + 1)) k acc ρ = .ok x ρe,
            fun H' h => ⟨ds.length - (i + 1), by omega, rfl, hlt, h⟩, fun y H' hy => ?_⟩
          have r2 := h2 y H' hy
          unfold compL at q1
          cases eg : g (lv d, d) ρ1 with
          | none => rw [eg] at q1; cases q1
          | some ρ2 =>
            rw [eg] at q1
            simp only at q1
            refine ⟨(lv d, d), ρ1, _, r2, show wipe (wipe σ vs) vs = wipe σ vs from ?_, ρ2, eg, fun σ2 H2 r3 p3 => ⟨p3, ρ2, _, r3, ?_⟩⟩
            · have key : ∀ us : List Nat, (∀ u ∈ us, u ∈ vs) → wipe (wipe σ vs) us = wipe σ vs := by
                intro us
                induction us with
                | nil => intro _; rfl
                | cons u us ih =>
                  intro hu'
                  show (wipe (wipe σ vs) us).set u none = wipe σ vs
                  rw [ih fun w hw => hu' w (List.mem_cons_of_mem _ hw)]
                  by_cases hl : u < (wipe σ vs).length
                  · have hn : (wipe σ vs)[u] = none := by
                      cases q : (wipe σ vs)[u] with
                      | none => rfl
                      | some x => exact absurd (show (wipe σ vs)[u]? = some (some x) by rw [List.getElem?_eq_getElem hl, q]) (wipe_idem σ vs u (hu' u List.mem_cons_self) x)
                    conv => rhs; rw [← List.set_getElem_self hl]
                    rw [hn]
                  · rw [List.set_eq_of_length_le (by omega)]
              exact key vs fun u h => h
            · cases et : mt ρ2 with
              | no => rw [et] at q1; cases q1
              | ex z ρ3 => rw [et] at q1; cases q1
              | ok b ρ3 =>
                rw [et] at q1
                show ∀ H', _
                intro H3 r4
                have back : ∀ {ρ : Rho} {H : Hp} {T : List Item}, Rel X.K H ρ σ2 T → Rel X.K H (wipeC ρ vs) (wipe σ vs) T := fun {ρ H T} r => by
                  obtain ⟨L, c, g⟩ := r
                  obtain ⟨M, L', pm, ch⟩ := c.hide vs
                  rw [show wipe σ2 vs = wipe σ vs from p3] at ch
                  refine ⟨L', ch, ?_⟩
                  have g1 : Good X.K [] H (M ++ (T ++ L')) := g.perm ((pm.append_left T).trans (by
                    rw [← List.append_assoc, ← List.append_assoc]
                    exact List.perm_append_comm.append_right L'))
                  exact g1.dropA
                cases b with
                | false =>
                  rw [if_neg Bool.false_ne_true]
                  exact ⟨wipeC ρ3 vs, k, acc, Nat.le_succ_of_le hacc, back r4, wipeC_at vs ρ3, q1⟩
                | true =>
                  rw [if_pos rfl]
                  refine ⟨ρ3, _, r4, ?_⟩
                  simp only at q1
                  cases ee : me ρ3 with
                  | no => rw [ee] at q1; cases q1
                  | ex z ρ4 => rw [ee] at q1; cases q1
                  | ok z ρ4 =>
                    rw [ee] at q1
                    show ∀ v H', _
                    intro v H4 r5
                    obtain ⟨L5, c5, g5⟩ := back r5
                    have g6 : Good X.K [] H4 ((z.1, z.2, v) :: (k + 1, .lst acc, .ref D) :: (S ++ T ++ L5)) := g5.perm (by
                      rw [List.cons_append, List.append_assoc, List.append_assoc, List.cons_append]
                      exact (List.perm_middle.cons _))
                    obtain ⟨p, ws, e6, h6, hl6, g7⟩ := g6.push
                    cases e6
                    refine ⟨ws, h6, by rw [← hl6, lineE]; omega, wipeC ρ4 vs, min k z.1, acc ++ [z.2], by rw [List.length_append, List.length_singleton]; omega, ⟨L5, c5, ?_⟩, wipeC_at vs ρ4, q1⟩
                    refine g7.perm ?_
                    rw [List.append_assoc, List.append_assoc, List.cons_append]
                    exact List.perm_middle.symm
  · rw [if_neg hz] at q; exact q.elim
theorem v_comp (hc : X.calm = true) (hN : X.N.Nodup) (hi : PI X tg it (tI X.K W mi)) (ok : BlkOk X.N X.env.scope scope own)
    (hg : ∀ (σ0 : Sg) (s : Shared) (H : Hp) (C : Addr) (cl : List (Str × Addr)) (fp : List Addr), PG (X.blk s H scope (compEnvC scope cl C X.env) fp) tg (tG X.K (Blk (own.map (·.2)) σ0) g))
    (ht : ∀ (s : Shared) (H : Hp) (C : Addr) (cl : List (Str × Addr)) (fp : List Addr), PTs (X.blk s H scope (compEnvC scope cl C X.env) fp) ifs (tT X.K W0 mt))
    (he : ∀ (s : Shared) (H : Hp) (C : Addr) (cl : List (Str × Addr)) (fp : List Addr), PE (X.blk s H scope (compEnvC scope cl C X.env) fp) elt (tV X.K W0 me)) (hs : ∀ x, foldedSetIterable it X.env x = pure x := by intro _; rfl) :
    PE X (.ListComp elt [⟨tg, it, ifs, 0⟩] scope pos) (tV X.K W (comp (own.map (·.2)) mi g mt me)) :=
  ⟨fun pins s σ H Q I hq => (pe_lc (te := tV X.K W0 me) (tt := tT X.K W0 mt) (g := fun v σ' H Q => tG X.K (Blk (own.map (·.2)) σ) g v σ' H Q) hc hN hi ok (fun s H C cl fp => hg σ s H C cl fp) ht he hs).run pins s σ H Q I (comp_run hq)⟩
theorem pts_no : PTs X [] (tT X.K W0 (M.ret true)) := ⟨fun pins s σ H Q I h => pts_nil.run pins s σ H Q I (let ⟨ρ, T, r, a⟩ := h; a H r)⟩
theorem pts_if {c : Expr} {m : M Bool} (h : PT X c (tT X.K W0 m)) : PTs X [c] (tT X.K W0 m) := pts_one h
end
end Vs
set_option Elab.async false
set_option linter.all false
set_option maxRecDepth 100000
set_option maxHeartbeats 2000000
/-! Vs7: what changes a list or a dict: x.append(e), x.pop(), x[i] = e; x[i].append(e), x[i][j] = e; dicts. -/
namespace Vs
open PySem PySem.Spec PyProof.Rows L2

abbrev MO := Nat → D → List LD → Option (LD × Nat × D)
/-- the rule r changes the node of d as o says -/
def MutOp (K : PySem.W.Frag) (r : V → List V → Hp → VK → Prop) (o : MO) : Prop := ∀ (Rs : List Addr) (H : Hp) (L : List Item) (k : Nat) (d : D) (xs : List LD) (v : V) (vs : List V) (z : LD) (k' : Nat) (d' : D),
  Good K Rs H ((k, d, v) :: (itemsOf xs vs ++ L)) → xs.length = vs.length → o k d xs = some (z, k', d') →
  ∃ u b ob, v = .ref b ∧ (∀ p ∈ Rs, b ≠ p) ∧ Good K Rs (upd H b ob) ((k', d', v) :: (z.1, z.2, u) :: L) ∧ ∀ Q : VK, Q u (upd H b ob) → r v vs H Q
section
variable {K : PySem.W.Frag} {H H' : Hp} {L : List Item} {Rs : List Addr}
theorem nodup_res {b : Addr} (g : Good K (b :: Rs) H L) : ∀ p ∈ Rs, b ≠ p := by
  obtain ⟨F, G, r, nd, dj, hr⟩ := g
  intro p hp e
  subst e
  exact (List.nodup_cons.mp nd).1 (List.mem_append_left _ hp)
def moAppend : MO := fun k d xs => match k, d, xs with
  | k + 1, .lst ds, [x] => if ds.length < lineN then some ((9, .non), min k x.1 + 1, .lst (ds ++ [x.2])) else none
  | _, _, _ => none
theorem m_append : MutOp K rAppend moAppend := by
  intro Rs H L k d xs v vs z k' d' g hl e
  unfold moAppend at e
  split at e
  · rename_i k ds x
    by_cases hz : ds.length < lineN
    · rw [if_pos hz] at e
      cases e
      match vs, hl with
      | [w], _ =>
        have g1 : Good K Rs H ((x.1, x.2, w) :: (k + 1, .lst ds, v) :: L) := g.perm (.swap _ _ _)
        obtain ⟨p, ws, rfl, h1, h2, g2⟩ := g1.push
        have nd := nodup_res ((g1.perm (.swap _ _ _)).own_inv.choose_spec.choose_spec.2.2.2)
        obtain ⟨p', ws', e1, _, _, g3⟩ := (g1.perm (.swap _ _ _)).own_inv
        cases e1
        exact ⟨.non, p, _, rfl, nodup_res g3, (g2.non (k := 9)).perm (.swap _ _ _), fun Q q => ⟨p, ws, w, rfl, rfl, h1, by rw [lineE, ← h2]; exact hz, q⟩⟩
    · rw [if_neg hz] at e; cases e
  · cases e
def moExtend : MO := fun k d xs => match k, d, xs with
  | k + 1, .lst ds, [x] => match x.2 with
    | .lst es => if ds.length + es.length ≤ lineN then some ((9, .non), min k (x.1 - 1) + 1, .lst (ds ++ es)) else none
    | _ => none
  | _, _, _ => none
theorem m_extend : MutOp K rExtend moExtend := by
  intro Rs H L k d xs v vs z k' d' g hl e
  unfold moExtend at e
  split at e
  · rename_i k ds x
    split at e
    · rename_i es hx
      by_cases hz : ds.length + es.length ≤ lineN
      · rw [if_pos hz] at e
        cases e
        match vs, hl with
        | [w], _ =>
          have g1 : Good K Rs H ((k + 1, .lst ds, v) :: (x.1, .lst es, w) :: L) := by
            have : Good K Rs H ((k + 1, .lst ds, v) :: (x.1, x.2, w) :: L) := g
            rwa [hx] at this
          obtain ⟨p, ws, rfl, h1, h2, g2⟩ := g1.own_inv
          have g3 : Good K (p :: Rs) H ((x.1, .lst es, w) :: (its k ds ws ++ L)) := g2.perm List.perm_middle
          obtain ⟨p2, us, rfl, h3, h4, g4⟩ := g3.lst_inv
          have g5 : Good K (p :: Rs) H (its k ds ws ++ (its (x.1 - 1) es us ++ L)) := g4.perm (by
            rw [← List.append_assoc, ← List.append_assoc]
            exact List.perm_append_comm.append_right L)
          have g6 := its_both h2 (Nat.min_le_left k (x.1 - 1)) (Nat.min_le_right k (x.1 - 1)) g5
          refine ⟨.non, p, .lst (ws ++ us), rfl, nodup_res g2, ?_, fun Q q => ⟨p, p2, ws, us, rfl, rfl, h1, h3, by rw [lineE, ← h2, ← h4]; exact hz, q⟩⟩
          exact ((Good.own upd_same (by simp [h2, h4]) (g6.wr (by rw [h1]; exact True.intro))).non (k := 9)).perm (.swap _ _ _)
      · rw [if_neg hz] at e; cases e
    · cases e
  · cases e
def moPop : MO := fun k d xs => match k, d, xs with
  | k + 1, .lst ds, [] => match ds[ds.length - 1]? with
    | some y => some ((if y.isS then 9 else k, y), k + 1, .lst ds.dropLast)
    | none => none
  | _, _, _ => none
theorem its_last {k : Nat} {ds : List D} {ws : List V} {y : D} {u : V} (hl : ds.length = ws.length) (h1 : ds[ds.length - 1]? = some y) (h2 : ws[ws.length - 1]? = some u) : its k ds ws = its k ds.dropLast ws.dropLast ++ [(k, y, u)] := by
  have e1 : ds = ds.dropLast ++ [y] := by
    have hne : ds ≠ [] := by rintro rfl; simp at h1
    conv => lhs; rw [← List.dropLast_concat_getLast hne]
    congr 2
    rw [List.getLast_eq_getElem]
    obtain ⟨_, e⟩ := List.getElem?_eq_some_iff.mp h1
    exact e
  have e2 : ws = ws.dropLast ++ [u] := by
    have hne : ws ≠ [] := by rintro rfl; simp at h2
    conv => lhs; rw [← List.dropLast_concat_getLast hne]
    congr 2
    rw [List.getLast_eq_getElem]
    obtain ⟨_, e⟩ := List.getElem?_eq_some_iff.mp h2
    exact e
  conv => lhs; rw [e1, e2]
  rw [its_append (by simp [hl])]
  rfl
theorem m_pop : MutOp K rPop moPop := by
  intro Rs H L k d xs v vs z k' d' g hl e
  unfold moPop at e
  split at e
  · rename_i k ds
    cases hy : ds[ds.length - 1]? with
    | none => rw [hy] at e; cases e
    | some y =>
      rw [hy] at e
      cases e
      match vs, hl with
      | [], _ =>
        have g1 : Good K Rs H ((k + 1, .lst ds, v) :: L) := g
        obtain ⟨p, ws, rfl, h1, h2, g2⟩ := g1.own_inv
        obtain ⟨hlt, _⟩ := List.getElem?_eq_some_iff.mp hy
        have hw : ws[ws.length - 1]? = some ws[ws.length - 1] := List.getElem?_eq_getElem (by omega)
        rw [its_last h2 hy hw, List.append_assoc] at g2
        have g3 : Good K (p :: Rs) H ((k, y, ws[ws.length - 1]) :: (its k ds.dropLast ws.dropLast ++ L)) := g2.perm List.perm_middle
        have g4 := g3.lift.perm (List.perm_middle (l₁ := its k ds.dropLast ws.dropLast)).symm
        refine ⟨_, p, .lst ws.dropLast, rfl, nodup_res g2, ?_, fun Q q => ⟨p, ws, _, rfl, rfl, h1, hw, q⟩⟩
        exact Good.own upd_same (by simp [h2]) (g4.wr (by rw [h1]; exact True.intro))
  · cases e
/-- a place of a row -/
theorem its_at {k : Nat} : ∀ {ds : List D} {ws : List V} {j : Nat} {y : D} {u : V}, ds.length = ws.length → ds[j]? = some y → ws[j]? = some u → (its k ds ws).Perm ((k, y, u) :: its k (ds.eraseIdx j) (ws.eraseIdx j))
  | [], _, _, _, _, _, h, _ => by simp at h
  | _ :: _, [], _, _, _, h, _, _ => by simp at h
  | d :: ds, w :: ws, 0, y, u, _, h1, h2 => by
    simp at h1 h2
    subst h1 h2
    exact .refl _
  | d :: ds, w :: ws, j + 1, y, u, hl, h1, h2 => by
    have := its_at (k := k) (j := j) (by simpa using hl) (by simpa using h1) (by simpa using h2)
    exact (this.cons _).trans (.swap _ _ _)
theorem its_set {k : Nat} : ∀ {ds : List D} {ws : List V} {j : Nat} {y : D} {u : V}, ds.length = ws.length → j < ds.length → ((k, y, u) :: its k (ds.eraseIdx j) (ws.eraseIdx j)).Perm (its k (ds.set j y) (ws.set j u))
  | [], _, _, _, _, _, h => by simp at h
  | _ :: _, [], _, _, _, h, _ => by simp at h
  | d :: ds, w :: ws, 0, y, u, _, _ => .refl _
  | d :: ds, w :: ws, j + 1, y, u, hl, h => by
    have := its_set (k := k) (j := j) (y := y) (u := u) (by simpa using hl) (by simpa using h)
    exact (List.Perm.swap _ _ _).trans (this.cons _)
def moPopAt : MO := fun k d xs => match k, d, xs with
  | k + 1, .lst ds, [x] => match x.2 with
    | .int i => match ixN ds.length i with
      | some j => match ds[j]? with
        | some y => if ds.length ≤ lineN then some ((if y.isS then 9 else k, y), k + 1, .lst (ds.eraseIdx j)) else none
        | none => none
      | none => none
    | _ => none
  | _, _, _ => none
theorem m_popAt : MutOp K rPopAt moPopAt := by
  intro Rs H L k d xs v vs z k' d' g hl e
  unfold moPopAt at e
  split at e
  · rename_i k ds x
    split at e
    · rename_i i hx
      cases hj : ixN ds.length i with
      | none => rw [hj] at e; cases e
      | some j =>
        rw [hj] at e
        simp only at e
        cases hy : ds[j]? with
        | none => rw [hy] at e; cases e
        | some y =>
          rw [hy] at e
          simp only at e
          by_cases hz : ds.length ≤ lineN
          · rw [if_pos hz] at e
            cases e
            match vs, hl with
            | [w], _ =>
              have g1 : Good K Rs H ((k + 1, .lst ds, v) :: (x.1, x.2, w) :: L) := g
              rw [hx] at g1
              have ew : w = .int i := (g1.perm (.swap _ _ _)).kd.int
              subst ew
              obtain ⟨p, ws, rfl, h1, h2, g2⟩ := (g1.perm (.swap _ _ _)).tail.own_inv
              obtain ⟨hlt, _⟩ := List.getElem?_eq_some_iff.mp hy
              have hw : ws[j]? = some (ws[j]'(by omega)) := List.getElem?_eq_getElem (by omega)
              have g3 := g2.perm ((its_at h2 hy hw).append_right L)
              obtain ⟨i1, i2, i3, i4⟩ := ixN_seq hj
              have g4 : Good K (p :: Rs) H (its k (ds.eraseIdx j) (ws.eraseIdx j) ++ ((if y.isS then 9 else k, y, ws[j]'(by omega)) :: L)) := (Good.lift (L := its k (ds.eraseIdx j) (ws.eraseIdx j) ++ L) g3).perm List.perm_middle.symm
              refine ⟨_, p, .lst (ws.eraseIdx j), rfl, nodup_res g2, ?_, fun Q q => ⟨p, ws, i, j, _, rfl, rfl, h1, by have e9 : lineN = 16777216 := rfl; omega, by have e9 : lineN = 16777216 := rfl; omega, by rw [← h2]; exact i1, hw, q⟩⟩
              exact Good.own upd_same (by rw [List.length_eraseIdx, List.length_eraseIdx, h2]) (g4.wr (by rw [h1]; exact True.intro))
          · rw [if_neg hz] at e; cases e
    · cases e
  · cases e
/-- x[i] = e, as a change -/
def moSet (i : Int) : MO := fun k d xs => match k, d, xs with
  | k + 1, .lst ds, [x] => match ixN ds.length i with
    | some j => some ((9, .non), min k x.1 + 1, .lst (ds.set j x.2))
    | none => none
  | _, _, _ => none
theorem m_set {i : Int} : MutOp K (fun o vs H Q => ∃ v, vs = [v] ∧ rSetL o (.int i) v H fun H' => Q .non H') (moSet i) := by
  intro Rs H L k d xs v vs z k' d' g hl e
  unfold moSet at e
  split at e
  · rename_i k ds x
    cases hj : ixN ds.length i with
    | none => rw [hj] at e; cases e
    | some j =>
      rw [hj] at e
      cases e
      match vs, hl with
      | [w], _ =>
        have g1 : Good K Rs H ((k + 1, .lst ds, v) :: (x.1, x.2, w) :: L) := g
        obtain ⟨p, ws, rfl, h1, h2, g2⟩ := g1.own_inv
        obtain ⟨i1, i2, i3, i4⟩ := ixN_seq hj
        have hy : ds[j]? = some ds[j] := List.getElem?_eq_getElem i2
        have hw : ws[j]? = some (ws[j]'(by omega)) := List.getElem?_eq_getElem (by omega)
        have g3 := (g2.perm ((its_at h2 hy hw).append_right _)).tail
        have g4 : Good K (p :: Rs) H ((x.1, x.2, w) :: (its k (ds.eraseIdx j) (ws.eraseIdx j) ++ L)) := g3.perm List.perm_middle
        have g5 : Good K (p :: Rs) H ((min k x.1, x.2, w) :: (its (min k x.1) (ds.eraseIdx j) (ws.eraseIdx j) ++ L)) :=
          g4.weak (.cons (Nat.min_le_right _ _) (Wk.append (Wk.its (Nat.min_le_left _ _) _ _) (Wk.refl L)))
        have g6 : Good K (p :: Rs) H (its (min k x.1) (ds.set j x.2) (ws.set j w) ++ L) := g5.perm ((its_set (k := min k x.1) (y := x.2) (u := w) h2 i2).append_right L)
        refine ⟨.non, p, .lst (ws.set j w), rfl, nodup_res g2, ?_, fun Q q => ⟨w, rfl, p, ws, i, j, rfl, rfl, h1, by rw [← h2]; exact hj, q⟩⟩
        exact ((Good.own upd_same (by simp [h2]) (g6.wr (by rw [h1]; exact True.intro))).non (k := 9)).perm (.swap _ _ _)
  · cases e
end

/-! ### on a name's own content -/
def isLst : D → Bool
  | .lst _ => true
  | _ => false
def mut1 (j : Nat) (o : MO) (ma : M (List LD)) : M LD := fun ρ => match ρ[j]? with
  | some (.c _ (.lst _)) => M.bind ma (fun xs ρ1 => match ρ1[j]? with
    | some (.c k d) => match o k d xs with
      | some (z, k', d') => .ok z (ρ1.set j (.c k' d'))
      | none => .no
    | _ => .no) ρ
  | _ => .no
section
variable {X : Cx} {W : Wish} {P : Sg → Prop} {e : Expr} {es : List Expr} {pos : Pos} {x name : Str} {p1 apos cpos : Pos} {j : Nat} {id : String} {r : V → List V → Hp → VK → Prop} {o : MO} {ma : M (List LD)}
theorem mut_run (ho : MutOp X.K r o) {σ : Sg} {T : List Item} {ρ1 : Rho} {H1 : Hp} {xs : List LD} {vs : List V} {v : V} {Q : VK} (hv : σ[j]? = some (some v)) (hl : xs.length = vs.length) (r1 : Rel X.K H1 ρ1 σ (itemsOf xs vs ++ T))
    (q : Aft W T (match ρ1[j]? with | some (.c k d) => (match o k d xs with | some (z, k', d') => R.ok z (ρ1.set j (.c k' d')) | none => R.no) | _ => R.no) fun z ρ' => ∀ u H', Rel X.K H' ρ' σ ((z.1, z.2, u) :: T) → Q u H') : r v vs H1 Q := by
  cases e1 : ρ1[j]? with
  | none => rw [e1] at q; exact q.elim
  | some c =>
    cases c with
    | u => rw [e1] at q; exact q.elim
    | c k d =>
      rw [e1] at q
      simp only at q
      cases e2 : o k d xs with
      | none => rw [e2] at q; exact q.elim
      | some zz =>
        obtain ⟨z, k', d'⟩ := zz
        rw [e2] at q
        obtain ⟨L, c, g⟩ := r1.move2 e1 hv
        have g' : Good X.K [] H1 ((k, d, v) :: (itemsOf xs vs ++ (T ++ L))) := by
          rw [List.cons_append, List.append_assoc] at g
          exact g
        obtain ⟨u, b, ob, rfl, _, g2, f⟩ := ho [] H1 (T ++ L) k d xs v vs z k' d' g' hl e2
        refine f Q (q u _ ?_)
        have r2 : Rel X.K (upd H1 b ob) (ρ1.set j .u) σ ((k', d', .ref b) :: (z.1, z.2, u) :: T) := ⟨L, c, g2⟩
        have r3 := r2.back (getElem?_set_u e1) hv
        rwa [set_set_c] at r3
theorem v_mut1 (slot : Slot "list" name id) (hty : typeOf (.builtin id) = pure (.type "method_descriptor")) (hm : MtR X id r) (ho : MutOp X.K r o) (hn : PE X (.Name x p1) (tVar j)) (ha : PA X (e :: es) (tVs X.K W ma))
    (hbase : attributeBase (.Name x p1) name X.env (eval (.Name x p1) X.env) = eval (.Name x p1) X.env := by rfl)
    (hfew : ((backTo cpos (starEach (e :: es) X.env)).all (fun x => !x.1) && (backToKw cpos (keywordEach [] X.env)).all (fun x => x.1.isSome)
      && decide ((e :: es).length + ([] : List Keyword).length + (if ([] : List Keyword).isEmpty then 0 else 1) < 30)) = true := by rfl)
    (hline : (apos.endLine == cpos.line) = true := by rfl) (hs : starEach (e :: es) X.env = (false, eval e X.env) :: starEach es X.env := by rfl) (hplain : (backTo cpos (starEach es X.env)).any (·.1) = false := by rfl) :
    PE X (.Call (.Attribute (.Name x p1) name apos) (e :: es) [] cpos) (tV X.K W (mut1 j o ma)) := by
  refine PE.imp (pe_bm PySem.F.plainAttrs_list slot hty hm hn ha hbase hfew hline hs hplain) fun σ H Q ⟨ρ, T, rel, a⟩ => ?_
  unfold mut1 at a
  split at a
  · rename_i k0 ds0 q
    obtain ⟨v, hv, kd⟩ := rel.kd q
    obtain ⟨p, ws, rfl, h1, _⟩ := kd.lst
    refine ⟨.ref p, hv, .inl ⟨rfl, ws, SqL.of h1⟩, ρ, T, rel, a.bind.imp fun xs ρ1 q1 vs H1 hl r1 => ?_⟩
    exact mut_run ho hv hl r1 q1
  · exact a.elim
theorem v_mut0 (slot : Slot "list" name id) (hty : typeOf (.builtin id) = pure (.type "method_descriptor")) (hm : MtR X id r) (ho : MutOp X.K r o) (hn : PE X (.Name x p1) (tVar j))
    (hbase : attributeBase (.Name x p1) name X.env (eval (.Name x p1) X.env) = eval (.Name x p1) X.env := by rfl) (hline : (apos.endLine == cpos.line) = true := by rfl) :
    PE X (.Call (.Attribute (.Name x p1) name apos) [] [] cpos) (tV X.K W (mut1 j o noVs)) := by
  refine PE.imp (pe_bm0 PySem.F.plainAttrs_list slot hty hm hn hbase hline) fun σ H Q ⟨ρ, T, rel, a⟩ => ?_
  unfold mut1 at a
  split at a
  · rename_i k0 ds0 q
    obtain ⟨v, hv, kd⟩ := rel.kd q
    obtain ⟨p, ws, rfl, h1, _⟩ := kd.lst
    refine ⟨.ref p, hv, .inl ⟨rfl, ws, SqL.of h1⟩, ?_⟩
    exact mut_run (xs := []) (vs := []) ho hv rfl rel a
  · exact a.elim
/-- x[i] = .., as a target -/
def gSub (j : Nat) (mi : M LD) : G := fun y ρ => match ρ[j]? with
  | some (.c _ _) => match mi ρ with
    | .ok (_, .int i) ρ1 => match ρ1[j]? with
      | some (.c k d) => (moSet i k d [y]).map fun z => ρ1.set j (.c z.2.1 z.2.2)
      | _ => none
    | _ => none
  | _ => none
theorem g_sub {ei : Expr} {mi : M LD} (hn : PE X (.Name x p1) (tVar j)) (hi : PE X ei (tV X.K W0 mi))
    (ha : ∀ v, assign (.Subscript (.Name x p1) ei pos) X.env v = (do
      let ov ← holding [v] (eval (.Name x p1) X.env)
      let iv ← holding [v, ov] (eval ei X.env)
      standAt pos
      holding [v, ov, iv] (setItem ov iv v)
      release [v, ov, iv] []) := by intro _; rfl) : PG X (.Subscript (.Name x p1) ei pos) (tG X.K P (gSub j mi)) := by
  refine PG.imp (pg_sub hn hi set_list ha) fun v σ H Q ⟨y, ρ, T, r, p, ρ', e, q⟩ => ?_
  unfold gSub at e
  split at e
  · rename_i k0 d0 q0
    obtain ⟨w, hw, _⟩ := r.kd q0
    refine ⟨w, hw, ρ, _, r, ?_⟩
    cases em : mi ρ with
    | no => rw [em] at e; cases e
    | ex _ _ => rw [em] at e; cases e
    | ok z ρ1 =>
      obtain ⟨kz, dz⟩ := z
      rw [em] at e
      cases dz with
      | int i =>
        simp only at e
        show ∀ v H', _
        intro u H1 r1
        obtain rfl := r1.top.int
        cases e1 : ρ1[j]? with
        | none => rw [e1] at e; cases e
        | some c =>
          cases c with
          | u => rw [e1] at e; cases e
          | c k d =>
            rw [e1] at e
            simp only at e
            cases e2 : moSet i k d [y] with
            | none => rw [e2] at e; cases e
            | some zz =>
              obtain ⟨z, k', d'⟩ := zz
              rw [e2] at e
              cases e
              obtain ⟨L, c, g⟩ := r1.drop.move2 e1 hw
              obtain ⟨u2, b, ob, rfl, _, g2, f⟩ := m_set (i := i) [] H1 (T ++ L) k d [y] w [v] z k' d' g rfl e2
              obtain ⟨v', ev, hset⟩ := f (fun _ H' => Q σ H') (q σ _ (by
                have r2 : Rel X.K (upd H1 b ob) (ρ1.set j .u) σ ((k', d', .ref b) :: T) := ⟨L, c, (g2.perm (.swap _ _ _)).tail⟩
                have r3 := r2.back (getElem?_set_u e1) hw
                rwa [set_set_c] at r3) p)
              cases ev
              exact hset
      | _ => cases e
  · cases e
end
end Vs
set_option Elab.async false
set_option linter.all false
set_option maxRecDepth 100000
set_option maxHeartbeats 2000000
/-! Vs8: calls: what a def of the text does to values (FnG), and the call of one (by place, by names). -/
namespace Vs
open PySem PySem.Spec PyProof.Rows L2

/-! ### a def's body on values -/
def fnRun (n : Nat) (b : M Out) (xs : List LD) : R LD := match b (xs.map (fun x => Cell.c x.1 x.2) ++ List.replicate (n - xs.length) Cell.u) with
  | .ok (.rt z) ρ => .ok z ρ
  | .ok .nx ρ => .ok (9, .non) ρ
  | _ => .no
/-- what lies in the cells io, with the values vs -/
def ioIt : Rho → List V → List Nat → List Item
  | _, _, [] => []
  | ρ, vs, j :: io => (match ρ[j]?, vs[j]? with
    | some (.c k d), some v => [(k, d, v)]
    | _, _ => []) ++ ioIt (ρ.set j .u) vs io
/-- the arguments are taken out of the names -/
def takeA : Rho → List Ar → Option (List LD × Rho)
  | ρ, [] => some ([], ρ)
  | ρ, .val x :: as => (takeA ρ as).map fun y => (x :: y.1, y.2)
  | ρ, .view i :: as => match ρ[i]? with
    | some (.c k d) => if d.isS then (takeA ρ as).map fun y => ((9, d) :: y.1, y.2) else (takeA (ρ.set i .u) as).map fun y => ((k, d) :: y.1, y.2)
    | _ => none
/-- behind a call: what lies in the callee's cells io comes back to the names -/
def backA (as : List Ar) : Rho → Rho → List Nat → Option Rho
  | ρ, _, [] => some ρ
  | ρ, ρc, j :: io => match as[j]?, ρc[j]? with
    | some (.view i), some (.c k d) => match ρ[i]? with
      | some .u => backA as (ρ.set i (.c k d)) (ρc.set j .u) io
      | _ => none
    | _, _ => backA as ρ (ρc.set j .u) io
def callV (F : List LD → R LD) (io : List Nat) (m : M (List Ar)) : M LD := m.bind fun as ρ => match takeA ρ as with
  | none => .no
  | some (xs, ρ1) => match F xs with
    | .ok z ρc => match backA as ρ1 ρc io with
      | some ρ2 => .ok z ρ2
      | none => .no
    | _ => .no
section
variable {K : PySem.W.Frag} {H H' : Hp} {L : List Item} {Rs : List Addr} {ρ ρ' : Rho} {σ : Sg} {T S : List Item}
theorem cells_start : ∀ {xs : List LD} {vs : List V} (n : Nat), xs.length = vs.length → Cells (xs.map (fun x => Cell.c x.1 x.2) ++ List.replicate n Cell.u) (vs.map some ++ List.replicate n none) (itemsOf xs vs)
  | [], [], n, _ => by
    induction n with
    | zero => exact .nil
    | succ n ih => exact .u ih
  | x :: xs, v :: vs, n, h => .c (cells_start n (by simpa using h))
  | [], _ :: _, _, h => by simp at h
  | _ :: _, [], _, h => by simp at h
theorem io_out {vs : List V} : ∀ (io : List Nat) {ρ : Rho} {σ : Sg} {L : List Item}, Cells ρ σ L → (∀ j ∈ io, ∀ v, vs[j]? = some v → σ[j]? = some (some v)) → ∃ M, L.Perm (ioIt ρ vs io ++ M)
  | [], _, _, L, _, _ => ⟨L, .refl _⟩
  | j :: io, ρ, σ, L, c, h => by
    have h2 : ∀ i ∈ io, ∀ v, vs[i]? = some v → σ[i]? = some (some v) := fun i hi => h i (List.mem_cons_of_mem _ hi)
    unfold ioIt
    cases e : ρ[j]? with
    | none =>
      rw [List.set_eq_of_length_le (List.getElem?_eq_none_iff.mp e)]
      exact io_out io c h2
    | some x =>
      cases x with
      | u =>
        obtain ⟨hi, e'⟩ := List.getElem?_eq_some_iff.mp e
        have : ρ.set j .u = ρ := by
          conv => rhs; rw [← List.set_getElem_self hi]
          rw [e']
        rw [this]
        exact io_out io c h2
      | c k d =>
        obtain ⟨v, L', h3, p, c'⟩ := c.take e
        obtain ⟨M, pm⟩ := io_out io c' h2
        cases ev : vs[j]? with
        | none => exact ⟨(k, d, v) :: M, p.trans ((pm.cons _).trans List.perm_middle.symm)⟩
        | some w =>
          have := h j List.mem_cons_self w ev
          rw [h3] at this
          cases this
          exact ⟨M, p.trans (pm.cons _)⟩
theorem take_rel {as : List Ar} : ∀ {ρ : Rho} {vs : List V} {T : List Item} {xs : List LD} {ρ1 : Rho}, Rel K H ρ σ (tmps as vs ++ T) → Paired (Ar.at σ) as vs → takeA ρ as = some (xs, ρ1) → xs.length = vs.length ∧ Rel K H ρ1 σ (itemsOf xs vs ++ T) := by
  induction as with
  | nil =>
    intro ρ vs T xs ρ1 r p e
    cases p
    cases e
    exact ⟨rfl, r⟩
  | cons a as ih =>
    intro ρ vs T xs ρ1 r p e
    cases p with
    | @cons _ v _ vs p1 p2 =>
      cases a with
      | val x =>
        have e' : (takeA ρ as).map (fun y => (x :: y.1, y.2)) = some (xs, ρ1) := e
        cases q : takeA ρ as with
        | none => rw [q] at e'; cases e'
        | some y =>
          obtain ⟨ys, ρ2⟩ := y
          rw [q] at e'
          cases e'
          have r' : Rel K H ρ σ (tmps as vs ++ ((x.1, x.2, v) :: T)) := r.good fun L g => g.perm (by
            show ((x.1, x.2, v) :: (tmps as vs ++ T) ++ L).Perm (tmps as vs ++ ((x.1, x.2, v) :: T) ++ L)
            exact (List.perm_middle.symm).append_right L)
          obtain ⟨l, r2⟩ := ih r' p2 q
          exact ⟨by simp [l], r2.good fun L g => g.perm (List.perm_middle.append_right L)⟩
      | view i =>
        have e' : (match ρ[i]? with
          | some (.c k d) => if d.isS then (takeA ρ as).map (fun y => ((9, d) :: y.1, y.2)) else (takeA (ρ.set i .u) as).map (fun y => ((k, d) :: y.1, y.2))
          | _ => none) = some (xs, ρ1) := e
        cases q : ρ[i]? with
        | none => rw [q] at e'; cases e'
        | some c =>
          cases c with
          | u => rw [q] at e'; cases e'
          | c k d =>
            rw [q] at e'
            simp only at e'
            have hv : σ[i]? = some (some v) := p1
            by_cases s : d.isS = true
            · rw [if_pos s] at e'
              cases q2 : takeA ρ as with
              | none => rw [q2] at e'; cases e'
              | some y =>
                obtain ⟨ys, ρ2⟩ := y
                rw [q2] at e'
                cases e'
                obtain ⟨l, r2⟩ := ih r p2 q2
                obtain ⟨w, hw, kd⟩ := r.kd q
                rw [hv] at hw
                cases hw
                obtain rfl := kd.isS s
                exact ⟨by simp [l], r2.scal s⟩
            · rw [if_neg s] at e'
              cases q2 : takeA (ρ.set i .u) as with
              | none => rw [q2] at e'; cases e'
              | some y =>
                obtain ⟨ys, ρ2⟩ := y
                rw [q2] at e'
                cases e'
                have r1 := r.move2 q hv
                have r' : Rel K H (ρ.set i .u) σ (tmps as vs ++ ((k, d, v) :: T)) := r1.good fun L g => g.perm ((List.perm_middle.symm).append_right L)
                obtain ⟨l, r2⟩ := ih r' p2 q2
                exact ⟨by simp [l], r2.good fun L g => g.perm (List.perm_middle.append_right L)⟩
theorem back_rel {as : List Ar} {vs : List V} (hp : Paired (Ar.at σ) as vs) : ∀ (io : List Nat) {ρ ρc ρ2 : Rho} {T : List Item}, Rel K H ρ σ (ioIt ρc vs io ++ T) → backA as ρ ρc io = some ρ2 → Rel K H ρ2 σ T
  | [], ρ, ρc, ρ2, T, r, e => by cases e; exact r
  | j :: io, ρ, ρc, ρ2, T, r, e => by
    unfold backA at e
    unfold ioIt at r
    have dr : ∀ {M : List Item}, Rel K H ρ σ (M ++ ioIt (ρc.set j .u) vs io ++ T) → Rel K H ρ σ (ioIt (ρc.set j .u) vs io ++ T) := fun r => r.good fun L g => by
      rw [List.append_assoc, List.append_assoc] at g
      rw [List.append_assoc]
      exact g.dropA
    split at e
    · rename_i i k d ea ec
      split at e
      · rename_i eu
        have hv : ∃ v, vs[j]? = some v ∧ σ[i]? = some (some v) := by
          have key : ∀ {as : List Ar} {vs : List V} {j : Nat}, Paired (Ar.at σ) as vs → as[j]? = some (.view i) → ∃ v, vs[j]? = some v ∧ σ[i]? = some (some v) := by
            intro as vs j p
            induction p generalizing j with
            | nil => intro h; simp at h
            | @cons a v as vs h1 _ ih =>
              intro h
              cases j with
              | zero =>
                simp at h
                subst h
                exact ⟨v, rfl, h1⟩
              | succ j => exact ih (by simpa using h)
          exact key hp ea
        obtain ⟨v, h1, h2⟩ := hv
        rw [ec, h1] at r
        have r1 : Rel K H ρ σ ((k, d, v) :: (ioIt (ρc.set j .u) vs io ++ T)) := r
        exact back_rel hp io (r1.back eu h2) e
      · cases e
    · exact back_rel hp io (dr r) e
end

/-! ### a def of the text -/
/-- the def at f, on values: what F says of the arguments comes back, and what lies in the parameters io -/
structure FnG (P : Program) (w : World) (K : PySem.W.Frag) (mg : Str → Option Value) (base : Heap) (k : Nat) (f : Addr) (fd : FuncData) (ps : List Str) (io : List Nat) (F : List LD → R LD) : Prop where
  run : ∀ (A : Around) (outer : List Env) (s : Shared) (H : Hp) (args : Args) (us : List Value) (vs : List V) (xs : List LD) (T : List Item) (Q : VK), Room k A → A.guards = some [] → Env0 P w K mg base A outer s H →
    us.length = ps.length → BindsTo s fd args (ps.zip us) → Vals vs us → xs.length = vs.length → Good K [] H (itemsOf xs vs ++ T) →
    (∃ z ρc, F xs = .ok z ρc ∧ ∀ v H', Good K [] H' ((z.1, z.2, v) :: (ioIt ρc vs io ++ T)) → Q v H') →
    codeAny (model P w) A (.call (.ref f) args) (CR CX0 outer P w H s Q E0) s
theorem FnG.mono {P : Program} {w : World} {K : PySem.W.Frag} {mg : Str → Option Value} {base : Heap} {j k : Nat} {f : Addr} {fd : FuncData} {ps : List Str} {io : List Nat} {F : List LD → R LD} (G : FnG P w K mg base j f fd ps io F) (h : j ≤ k) :
    FnG P w K mg base k f fd ps io F := ⟨fun A outer s H args us vs xs T Q hr => G.run A outer s H args us vs xs T Q (hr.mono h)⟩
section
variable {P : Program} {w : World} {K : PySem.W.Frag} {mg : Str → Option Value} {base : Heap}
/-- THE RULE: a def, by its body on values -/
theorem fnG_of {x qual : Str} {st : Stmt} {f : Addr} {fd : FuncData} {N ps : List Str} {k : Nat} {io : List Nat} {b : M Out} (F : Fun K x qual st f fd) (S : FnScope N ps (defScope st))
    (hbody : ∀ (σ0 : Sg) (cdv : Value) (A : Around) (outer : List Env) (s : Shared) (H : Hp), Room k (A.deeper (envOfC qual (defScope st) s.heap.objs.size f cdv)) → (A.deeper (envOfC qual (defScope st) s.heap.objs.size f cdv)).guards = some [] →
      PSs (cxOf CX0 P w K mg base N qual (defScope st) f cdv A outer s H E0).nox (defBody st) (tS K W0 (Pin io σ0) b)) : FnG P w K mg base (k + 1) f fd ps io (fnRun N.length b) := by
  obtain ⟨oc, od, kV, doc, pm, an, cdv, ct, osl, rfl, lk, hcd⟩ := F.ex
  refine ⟨fun A outer s H args us vs xs T Q hr hgd e0 hus hb rv hl g hF => ?_⟩
  have hA : (A.deeper (envOfC qual (defScope st) s.heap.objs.size f cdv)).guards = some [] := hgd
  have HB := hbody (start N vs) cdv A outer s H (hr.deeper _) hA
  have hvs : vs.length = ps.length := by rw [rv.length, hus]
  have kx : K.In s.heap := e0.mod.kin.keeps fun b o e => (e0.bs b o e).1
  have lim : s.heap.NoLimit := e0.mod.nolimit.keeps fun b o e => (e0.bs b o e).1
  have pk : ∀ y ∈ ps.zip us, (defScope st).names.lookup y.1 = some .local ∨ ((defScope st).names.lookup y.1 = some .cell ∧ ((cellsFrom (s.heap.objs.size + 1) (defScope st).names []).lookup y.1).isSome = true) := by
    rintro ⟨n, v⟩ hy
    exact (S.par n (List.of_mem_zip hy).1).elim .inl fun q => .inr ⟨q, PySem.W.cellsFrom_some _ _ _ (.inl q)⟩
  refine codeAny_call_function hr.depth (kx _ _ lk) rfl S.co S.gen rfl (PySem.W.codeRec_of kx hcd) (hb _ _ _ _ ?_)
  refine wpAny_newFunctionEnv_cells S.kind pk fun env he s1 ic => ?_
  subst he
  refine ⟨lim.keeps ic.toInCall.keep, codeAny_func ?_⟩
  have I := inv_start (CX := CX0) (E := E0) S hr.hd e0 hvs rv ic
  -- the cells at the entry
  obtain ⟨z, ρc, eF, hQ⟩ := hF
  have hpl : vs.length ≤ N.length := by have := congrArg List.length S.pre; rw [List.length_take] at this; omega
  have rel0 : Rel K H (xs.map (fun x => Cell.c x.1 x.2) ++ List.replicate (N.length - xs.length) Cell.u) (start N vs) T := by
    refine ⟨itemsOf xs vs, ?_, g.perm List.perm_append_comm⟩
    unfold L2.start
    rw [hl]
    exact cells_start _ hl
  have pin0 : Pin io (start N vs) (start N vs) := fun j _ => rfl
  -- the end: what the slots io still hold
  have fin : ∀ {ρ : Rho} {σ' : Sg} {H' : Hp} {T' : List Item}, Rel K H' ρ σ' (T' ++ T) → Pin io (start N vs) σ' → Good K [] H' (T' ++ (ioIt ρ vs io ++ T)) := fun {ρ σ' H' T'} r p => by
    obtain ⟨L, c, g⟩ := r
    obtain ⟨M, pm⟩ := io_out (vs := vs) io c (fun j hj v hv => by
      rw [p j hj]
      unfold L2.start
      obtain ⟨hj', ev⟩ := List.getElem?_eq_some_iff.mp hv
      rw [List.getElem?_append_left (by simpa using hj'), List.getElem?_map, hv]
      rfl)
    have g2 : Good K [] H' (M ++ (T' ++ (ioIt ρ vs io ++ T))) := g.perm ((pm.append_left (T' ++ T)).trans (by
      rw [← List.append_assoc]
      refine List.perm_append_comm.trans (List.Perm.append_left M ?_)
      rw [List.append_assoc]
      exact List.Perm.append_left T' List.perm_append_comm))
    exact g2.dropA
  have hrun : tS K W0 (Pin io (start N vs)) b { nx := fun _ H' => Q .non H', rt := Q } (start N vs) H := by
    refine ⟨_, T, rel0, pin0, ?_⟩
    unfold fnRun at eF
    split at eF
    · rename_i z' ρ' eb
      cases eF
      rw [eb]
      exact fun v σ' H' r p => hQ v H' (fin (T' := [(z.1, z.2, v)]) r p)
    · rename_i ρ' eb
      cases eF
      rw [eb]
      exact fun σ' H' r p => hQ .non H' ((fin (T' := []) r p).non)
    · cases eF
  refine wpAny_mono (HB.nox.run [] s1 (start N vs) H _ I hrun) (fun fl s' hs => ?_) fun e s' hs => hs
  have done : ∀ {σ' : Sg} {H' : Hp} {v : V} {u : Value}, Inv (cxOf CX0 P w K mg base N qual (defScope st) f cdv A outer s H E0) [] σ' H' s' → RelV v u → Q v H' → CE outer P w H s Q u s' := fun {σ' H' v u} J q1 q2 => ⟨v, H', J.os, J.bare, J.base, J.hok, q1, q2⟩
  match fl, hs with
  | .ret u, ⟨v, σ', H', J, q1, q2⟩ => exact done J q1 q2
  | .next, ⟨σ', H', J, q⟩ => exact done (v := V.non) (u := Value.none) J rfl q
  | .brk, ⟨_, _, _, q⟩ => exact False.elim q
  | .cont, ⟨_, _, _, q⟩ => exact False.elim q
end

/-! ### its call -/
/-- the values in the parameters' order -/
def pickL {α : Type} (pm : List Nat) (l : List α) : List α := pm.filterMap (l[·]?)
/-- binding by n places, then names ks -/
def BindG (K : PySem.W.Frag) (fd : FuncData) (ps ks : List Str) (n : Nat) (pm : List Nat) : Prop := ∀ (s : Shared) (us ws : List Value), us.length = n → ws.length = ks.length → BindsTo s fd ⟨us, ks.zip ws⟩ (ps.zip (pickL pm (us ++ ws))) ∧ (pickL pm (us ++ ws)).length = ps.length
theorem Fun.bindG {K : PySem.W.Frag} {x qual : Str} {st : Stmt} {f : Addr} {fd : FuncData} {ps : List Str} (ks : List Str) (n : Nat) (pm : List Nat) (F : Fun K x qual st f fd)
    (h : ∀ (kV doc pmv : Value) (an : Option Addr) (cdv ct : Value) (us ws : List Value), us.length = n → ws.length = ks.length → bindArgs (PySem.W.fnOf x qual (defArgs st) (defBody st) (defScope st) .none kV doc pmv an cdv ct) ⟨us, ks.zip ws⟩ = pure (ps.zip (pickL pm (us ++ ws))) ∧ (pickL pm (us ++ ws)).length = ps.length) : BindG K fd ps ks n pm := by
  obtain ⟨oc, od, kV, doc, pmv, an, cdv, ct, osl, rfl, lk, hcd⟩ := F.ex
  exact fun s us ws h1 h2 => let ⟨a, b⟩ := h kV doc pmv an cdv ct us ws h1 h2; ⟨.of_eq a, b⟩
section
variable {X : Cx} {W : Wish} {k : Nat} {f : Addr} {fd : FuncData} {ps ks : List Str} {io pm : List Nat} {F : List LD → R LD} {x : Str} {p pos kpos : Pos} {e : Expr} {es : List Expr} {kws : List Keyword} {m mk : M (List Ar)}
theorem vals_pick {vs : List V} {us : List Value} (r : Vals vs us) : ∀ pm : List Nat, Vals (pickL pm vs) (pickL pm us)
  | [] => .nil
  | j :: pm => by
    unfold pickL
    rw [List.filterMap_cons, List.filterMap_cons]
    cases e : vs[j]? with
    | none =>
      have : us[j]? = none := by
        rw [List.getElem?_eq_none_iff] at e ⊢
        rw [← r.length]; exact e
      rw [this]
      exact vals_pick r pm
    | some v =>
      obtain ⟨u, hu, q⟩ := r.get e
      rw [hu]
      exact .cons q (vals_pick r pm)
/-- the callee runs, from a state of ours -/
theorem run_G {pins : List (Addr × Obj)} {σ : Sg} {s : Shared} {H : Hp} {Q : VK} {us ws : List Value} {vs : List V} {as : List Ar} {ρ : Rho} {T : List Item} {n : Nat} (G : FnG X.prog X.w X.K X.mg X.base k f fd ps io F) (hr : Room k X.A) (hgd : X.A.guards = some []) (hb : BindG X.K fd ps ks n pm)
    (hx : Passes CX0 X E0) (I : Inv X pins σ H s) (rv : Vals vs (us ++ ws)) (hn : us.length = n) (hk : ws.length = ks.length) (rel : Rel X.K H ρ σ (tmps (pickL pm as) (pickL pm vs) ++ T)) (pa : Paired (Ar.at σ) (pickL pm as) (pickL pm vs))
    (h : Aft W T (match takeA ρ (pickL pm as) with
      | none => R.no
      | some (xs, ρ1) => match F xs with
        | .ok z ρc => match backA (pickL pm as) ρ1 ρc io with
          | some ρ2 => R.ok z ρ2
          | none => R.no
        | _ => R.no) fun z ρ' => ∀ v H', Rel X.K H' ρ' σ ((z.1, z.2, v) :: T) → Q v H') :
    wpAny (model X.prog X.w) X.A (call (.ref f) us (ks.zip ws)) (EP X pins σ Q) X.xe s := by
  cases e1 : takeA ρ (pickL pm as) with
  | none => rw [e1] at h; exact h.elim
  | some y =>
    obtain ⟨xs, ρ1⟩ := y
    rw [e1] at h
    simp only at h
    obtain ⟨hl, L, c, g⟩ := take_rel rel pa e1
    cases e2 : F xs with
    | no => rw [e2] at h; exact h.elim
    | ex _ _ => rw [e2] at h; exact h.elim
    | ok z ρc =>
      rw [e2] at h
      simp only at h
      cases e3 : backA (pickL pm as) ρ1 ρc io with
      | none => rw [e3] at h; exact h.elim
      | some ρ2 =>
        rw [e3] at h
        obtain ⟨hb1, hb2⟩ := hb s us ws hn hk
        rw [List.append_assoc] at g
        refine wpAny_call (codeAny_mono (G.run X.A X.stack s H ⟨us, ks.zip ws⟩ _ _ xs (T ++ L) Q hr hgd I.env0 hb2 hb1 (vals_pick rv pm) hl g ⟨z, ρc, e2, fun v H' g' => h v H' ?_⟩) fun r s' hq => ?_)
        · have r1 : Rel X.K H' ρ1 σ (ioIt ρc (pickL pm vs) io ++ ((z.1, z.2, v) :: T)) := ⟨L, c, g'.perm (by
            rw [List.append_assoc, List.cons_append]
            exact List.perm_middle.symm)⟩
          exact back_rel pa io r1 e3
        · cases r with
          | error e => exact hx pins σ H s e s' I hq
          | ok fl =>
            match fl, hq with
            | .ret u, hq => exact I.after hq
theorem pick_range {α : Type} (l : List α) : ∀ (pre : List α), pickL ((List.range l.length).map (· + pre.length)) (pre ++ l) = l := by
  induction l with
  | nil => intro pre; rfl
  | cons a l ih =>
    intro pre
    have := ih (pre ++ [a])
    rw [List.length_cons, List.range_succ_eq_map, List.map_cons, List.map_map]
    unfold pickL
    rw [List.filterMap_cons]
    have e0 : (pre ++ a :: l)[0 + pre.length]? = some a := by simp
    rw [e0]
    have e2 : (List.range l.length).map ((fun x => x + pre.length) ∘ Nat.succ) = (List.range l.length).map (· + (pre ++ [a]).length) := by
      apply List.map_congr_left
      intro x _
      simp [Function.comp]
      omega
    rw [e2]
    have e3 : pre ++ a :: l = (pre ++ [a]) ++ l := by simp
    rw [e3]
    show a :: pickL _ _ = _
    rw [this]
theorem pick_perm {α : Type} {pm : List Nat} {l : List α} (h : pm.Perm (List.range l.length)) : (pickL pm l).Perm l := by
  have h1 := h.filterMap (l[·]?)
  have h2 := pick_range l []
  simp only [List.length_nil, Nat.add_zero, List.map_id', List.nil_append] at h2
  unfold pickL at h2 ⊢
  rwa [h2] at h1
theorem pick_zip {as : List Ar} {vs : List V} (hl : as.length = vs.length) : ∀ pm : List Nat, pickL pm (as.zip vs) = (pickL pm as).zip (pickL pm vs)
  | [] => rfl
  | j :: pm => by
    have ih := pick_zip hl pm
    unfold pickL at ih ⊢
    rw [List.filterMap_cons, List.filterMap_cons, List.filterMap_cons, ih]
    by_cases hj : j < as.length
    · have h1 : as[j]? = some as[j] := List.getElem?_eq_getElem hj
      have h2 : vs[j]? = some (vs[j]'(by omega)) := List.getElem?_eq_getElem (by omega)
      have h3 : (as.zip vs)[j]? = some (as[j], vs[j]'(by omega)) := by
        rw [List.getElem?_eq_getElem (by rw [List.length_zip]; omega), List.getElem_zip]
      rw [h1, h2, h3]
      rfl
    · have h1 : as[j]? = none := List.getElem?_eq_none (by omega)
      have h2 : vs[j]? = none := List.getElem?_eq_none (by omega)
      have h3 : (as.zip vs)[j]? = none := List.getElem?_eq_none (by rw [List.length_zip]; omega)
      rw [h1, h2, h3]
theorem tmps_zip : ∀ (as : List Ar) (vs : List V), tmps as vs = (as.zip vs).flatMap fun q => q.1.tmp q.2
  | [], _ => by simp [tmps]
  | _ :: _, [] => by simp [tmps]
  | a :: as, v :: vs => by
    show a.tmp v ++ tmps as vs = _
    rw [tmps_zip as vs, List.zip_cons_cons, List.flatMap_cons]
theorem tmps_pick {as : List Ar} {vs : List V} {pm : List Nat} (hl : as.length = vs.length) (h : pm.Perm (List.range as.length)) : (tmps as vs).Perm (tmps (pickL pm as) (pickL pm vs)) := by
  rw [tmps_zip, tmps_zip, ← pick_zip hl]
  exact ((pick_perm (l := as.zip vs) (by rw [List.length_zip, ← hl, Nat.min_self]; exact h)).symm).flatMap_right _
theorem paired_get {σ : Sg} : ∀ {as : List Ar} {vs : List V} (j : Nat), Paired (Ar.at σ) as vs → (as[j]? = none ∧ vs[j]? = none) ∨ ∃ a v, as[j]? = some a ∧ vs[j]? = some v ∧ a.at σ v
  | _, _, _, .nil => .inl ⟨rfl, rfl⟩
  | _, _, 0, .cons h _ => .inr ⟨_, _, rfl, rfl, h⟩
  | _, _, j + 1, .cons _ t => paired_get j t
theorem paired_pick {σ : Sg} {as : List Ar} {vs : List V} (p : Paired (Ar.at σ) as vs) : ∀ pm : List Nat, Paired (Ar.at σ) (pickL pm as) (pickL pm vs)
  | [] => .nil
  | j :: pm => by
    have ih := paired_pick p pm
    unfold pickL at ih ⊢
    rw [List.filterMap_cons, List.filterMap_cons]
    rcases paired_get j p with ⟨h1, h2⟩ | ⟨a, v, h1, h2, h3⟩
    · rw [h1, h2]; exact ih
    · rw [h1, h2]; exact .cons h3 ih
theorem paired_append {σ : Sg} : ∀ {as bs : List Ar} {vs ws : List V}, Paired (Ar.at σ) as vs → Paired (Ar.at σ) bs ws → Paired (Ar.at σ) (as ++ bs) (vs ++ ws)
  | _, _, _, _, .nil, h => h
  | _, _, _, _, .cons a b, h => .cons a (paired_append b h)
theorem tmps_append : ∀ {as bs : List Ar} {vs ws : List V}, as.length = vs.length → tmps (as ++ bs) (vs ++ ws) = tmps as vs ++ tmps bs ws
  | [], _, [], _, _ => rfl
  | a :: as, bs, v :: vs, ws, h => by
    show a.tmp v ++ tmps (as ++ bs) (vs ++ ws) = (a.tmp v ++ tmps as vs) ++ tmps bs ws
    rw [tmps_append (by simpa using h), List.append_assoc]
  | [], _, _ :: _, _, h => by simp at h
  | _ :: _, _, [], _, h => by simp at h
/-- the call: n places, then kn names; pm puts them in the parameters' order -/
def callG (F : List LD → R LD) (io pm : List Nat) (n kn : Nat) (m mk : M (List Ar)) : M LD := m.bind fun as => mk.bind fun bs ρ => if as.length = n ∧ bs.length = kn then (match takeA ρ (pickL pm (as ++ bs)) with
  | none => .no
  | some (xs, ρ1) => match F xs with
    | .ok z ρc => match backA (pickL pm (as ++ bs)) ρ1 ρc io with
      | some ρ2 => .ok z ρ2
      | none => .no
    | _ => .no) else .no
theorem k_nil : PK X [] (tAs X.K W noAr) := PK.imp pk_nil fun σ H Q ⟨ρ, T, r, a⟩ => a [] H r .nil
theorem k_cons {nm : Option Str} {ma : M Ar} (h : PE X e (tA X.K W ma)) (hs : PK X kws (tAs X.K W mk)) : PK X (⟨nm, e, kpos⟩ :: kws) (tAs X.K W (consAr ma mk)) := by
  refine PK.imp (pk_cons h hs) fun σ H Q ⟨ρ, T, r, a⟩ => ?_
  refine ⟨ρ, T, r, a.bind.imp fun x ρ1 q v H1 r1 ha => ?_⟩
  refine ⟨ρ1, x.tmp v ++ T, r1, (q.bind.ups _).imp fun as ρ2 q2 vs H2 r2 hs => q2 (v :: vs) H2 (r2.good fun L g => g.perm ?_) (.cons ha hs)⟩
  show (tmps as vs ++ (x.tmp v ++ T) ++ L).Perm ((x.tmp v ++ tmps as vs) ++ T ++ L)
  rw [← List.append_assoc (tmps as vs)]
  exact (List.perm_append_comm.append_right T).append_right L
theorem callG_end {pins : List (Addr × Obj)} {σ : Sg} {s : Shared} {H : Hp} {Q : VK} {us ws : List Value} {vs zs : List V} {as bs : List Ar} {ρ : Rho} {T : List Item} {n kn : Nat} (G : FnG X.prog X.w X.K X.mg X.base k f fd ps io F) (hr : Room k X.A) (hgd : X.A.guards = some []) (hb : BindG X.K fd ps ks n pm)
    (hpm : pm.Perm (List.range (n + kn))) (hkn : ks.length = kn) (hx : Passes CX0 X E0) (I : Inv X pins σ H s) (rv : Vals vs us) (rz : Vals zs ws) (rel : Rel X.K H ρ σ (tmps bs zs ++ (tmps as vs ++ T))) (pa : Paired (Ar.at σ) as vs) (pb : Paired (Ar.at σ) bs zs)
    (h : Aft W T (if as.length = n ∧ bs.length = kn then (match takeA ρ (pickL pm (as ++ bs)) with
      | none => R.no
      | some (xs, ρ1) => match F xs with
        | .ok z ρc => match backA (pickL pm (as ++ bs)) ρ1 ρc io with
          | some ρ2 => R.ok z ρ2
          | none => R.no
        | _ => R.no) else R.no) fun z ρ' => ∀ v H', Rel X.K H' ρ' σ ((z.1, z.2, v) :: T) → Q v H') :
    wpAny (model X.prog X.w) X.A (call (.ref f) us (ks.zip ws)) (EP X pins σ Q) X.xe s := by
  by_cases hp : as.length = n ∧ bs.length = kn
  · rw [if_pos hp] at h
    have la := pa.length
    have lb := pb.length
    refine run_G (as := as ++ bs) (vs := vs ++ zs) G hr hgd hb hx I (rv.append rz) (by rw [← rv.length, ← la]; exact hp.1) (by rw [← rz.length, ← lb, hkn]; exact hp.2) (rel.good fun L g => g.perm ?_) (paired_pick (paired_append pa pb) pm) h
    have p1 : (tmps bs zs ++ (tmps as vs ++ T)).Perm (tmps (as ++ bs) (vs ++ zs) ++ T) := by
      rw [tmps_append la, ← List.append_assoc]
      exact List.perm_append_comm.append_right T
    have p2 := (tmps_pick (as := as ++ bs) (vs := vs ++ zs) (pm := pm) (by rw [List.length_append, List.length_append, la, lb]) (by rw [List.length_append, hp.1, hp.2]; exact hpm)).append_right T
    exact (p1.trans p2).append_right L
  · rw [if_neg hp] at h; exact h.elim
variable {n kn : Nat}
/-- f(e, ..) -/
theorem v_call (G : FnG X.prog X.w X.K X.mg X.base k f fd ps io F) (hr : Room k X.A) (hgd : X.A.guards = some []) (hb : BindG X.K fd ps [] n pm) (hpm : pm.Perm (List.range (n + 0))) (hx : Passes CX0 X E0) (hg : Gl X x) (hm : X.mg x = some (.ref f)) (hk : PySem.W.keepIn X.K (.ref f) = true)
    (ha : PA X (e :: es) (tAs X.K W m)) (hdb : (x == ("__debug__" : Str)) = false := by decide) (he : starEach (e :: es) X.env = (false, eval e X.env) :: starEach es X.env := by rfl) (hpl : (backTo pos (starEach es X.env)).any (·.1) = false := by rfl) :
    PE X (.Call (.Name x p) (e :: es) [] pos) (tV X.K W (callG F io pm n 0 m noAr)) := by
  refine ⟨fun pins s σ H Q I ⟨ρ, T, rel, a⟩ => ?_⟩
  refine wpAny_Call_Name_kw (ld_glob I hg hm ?_ hdb)
  refine PySem.W.callWith_K (h₀ := X.base) I.ok.mod.kin hk (thn (ha.run pos pins s σ H (fun vs H1 => ∃ (as : List Ar) (ρ1 : Rho), Rel X.K H1 ρ1 σ (tmps as vs ++ T) ∧ Paired (Ar.at σ) as vs ∧ Aft W T (noAr.bind _ ρ1) _) I ⟨ρ, T, rel, a.bind.imp fun as ρ1 q1 vs H1 r1 p1 => ⟨as, ρ1, r1, p1, q1⟩⟩) fun us s1 hq => ?_) he hpl
  obtain ⟨vs, H1, I1, rv, as, ρ1, r1, p1, q1⟩ := hq
  exact ⟨I1.kIn, callG_end (zs := []) (ws := []) (bs := []) G hr hgd hb hpm rfl hx I1 rv .nil r1 p1 .nil q1⟩
/-- f() -/
theorem v_call0 (G : FnG X.prog X.w X.K X.mg X.base k f fd ps io F) (hr : Room k X.A) (hgd : X.A.guards = some []) (hb : BindG X.K fd ps [] 0 []) (hx : Passes CX0 X E0) (hg : Gl X x) (hm : X.mg x = some (.ref f)) (hk : PySem.W.keepIn X.K (.ref f) = true)
    (hdb : (x == ("__debug__" : Str)) = false := by decide) : PE X (.Call (.Name x p) [] [] pos) (tV X.K W (callG F io [] 0 0 noAr noAr)) := by
  refine ⟨fun pins s σ H Q I ⟨ρ, T, rel, a⟩ => ?_⟩
  refine wpAny_Call_Name_kw (ld_glob I hg hm ?_ hdb)
  exact PySem.W.callWith_K0 I.kIn hk (callG_end (us := []) (ws := []) (vs := []) (zs := []) (as := []) (bs := []) G hr hgd hb (.refl _) rfl hx I .nil .nil rel .nil .nil a)
/-- f(k = e, ..) -/
theorem v_callK (G : FnG X.prog X.w X.K X.mg X.base k f fd ps io F) (hr : Room k X.A) (hgd : X.A.guards = some []) (hb : BindG X.K fd ps ks 0 pm) (hpm : pm.Perm (List.range (0 + kn))) (hkn : ks.length = kn) (hx : Passes CX0 X E0) (hg : Gl X x) (hm : X.mg x = some (.ref f)) (hk : PySem.W.keepIn X.K (.ref f) = true)
    (ha : PK X kws (tAs X.K W mk)) (hall : (backToKw pos (keywordEach kws X.env)).all (·.1.isSome) = true := by rfl) (hks : (backToKw pos (keywordEach kws X.env)).filterMap (·.1) = ks := by rfl) (hdb : (x == ("__debug__" : Str)) = false := by decide)
    (hpl : ((backTo pos (starEach [] X.env)).any (·.1) || (backToKw pos (keywordEach kws X.env)).any (·.1.isNone)) = false := by rfl) :
    PE X (.Call (.Name x p) [] kws pos) (tV X.K W (callG F io pm 0 kn noAr mk)) := by
  refine ⟨fun pins s σ H Q I ⟨ρ, T, rel, a⟩ => ?_⟩
  refine wpAny_Call_Name_kw (ld_glob I hg hm ?_ hdb)
  have a' : Aft W T (M.bind mk (fun bs ρ => if ([] : List Ar).length = 0 ∧ bs.length = kn then (match takeA ρ (pickL pm ([] ++ bs)) with
      | none => R.no
      | some (xs, ρ1) => match F xs with
        | .ok z ρc => match backA (pickL pm ([] ++ bs)) ρ1 ρc io with
          | some ρ2 => R.ok z ρ2
          | none => R.no
        | _ => R.no) else R.no) ρ) fun z ρ' => ∀ v H', Rel X.K H' ρ' σ ((z.1, z.2, v) :: T) → Q v H' := a
  refine PySem.W.callWith_KW0 (h₀ := X.base) I.ok.mod.kin hk hall (thn (ha.run pos pins s σ H (fun zs H1 => ∃ (bs : List Ar) (ρ1 : Rho), Rel X.K H1 ρ1 σ (tmps bs zs ++ T) ∧ Paired (Ar.at σ) bs zs ∧ Aft W T _ _) I ⟨ρ, T, rel, a'.bind.imp fun bs ρ1 q1 zs H1 r1 p1 => ⟨bs, ρ1, r1, p1, q1⟩⟩) fun ws s1 hq => ?_) hpl
  obtain ⟨zs, H1, I1, rz, bs, ρ1, r1, p1, q1⟩ := hq
  refine ⟨I1.kIn, ?_⟩
  rw [hks]
  exact callG_end (us := []) (vs := []) (as := []) G hr hgd hb hpm hkn hx I1 .nil rz r1 .nil p1 q1
/-- f(e, .., k = e, ..) -/
theorem v_callKW (G : FnG X.prog X.w X.K X.mg X.base k f fd ps io F) (hr : Room k X.A) (hgd : X.A.guards = some []) (hb : BindG X.K fd ps ks n pm) (hpm : pm.Perm (List.range (n + kn))) (hkn : ks.length = kn) (hx : Passes CX0 X E0) (hg : Gl X x) (hm : X.mg x = some (.ref f)) (hk : PySem.W.keepIn X.K (.ref f) = true)
    (ha : PA X (e :: es) (tAs X.K W m)) (hb2 : PK X kws (tAs X.K W mk)) (hall : (backToKw pos (keywordEach kws X.env)).all (·.1.isSome) = true := by rfl) (hks : (backToKw pos (keywordEach kws X.env)).filterMap (·.1) = ks := by rfl) (hdb : (x == ("__debug__" : Str)) = false := by decide)
    (he : starEach (e :: es) X.env = (false, eval e X.env) :: starEach es X.env := by rfl) (hpl : ((backTo pos (starEach (e :: es) X.env)).any (·.1) || (backToKw pos (keywordEach kws X.env)).any (·.1.isNone)) = false := by rfl) :
    PE X (.Call (.Name x p) (e :: es) kws pos) (tV X.K W (callG F io pm n kn m mk)) := by
  refine ⟨fun pins s σ H Q I ⟨ρ, T, rel, a⟩ => ?_⟩
  refine wpAny_Call_Name_kw (ld_glob I hg hm ?_ hdb)
  refine PySem.W.callWith_KW (h₀ := X.base) I.ok.mod.kin hk hall (thn (ha.run pos pins s σ H (fun vs H1 => ∃ (as : List Ar) (ρ1 : Rho), Rel X.K H1 ρ1 σ (tmps as vs ++ T) ∧ Paired (Ar.at σ) as vs ∧ Aft W T _ _) I ⟨ρ, T, rel, a.bind.imp fun as ρ1 q1 vs H1 r1 p1 => ⟨as, ρ1, r1, p1, q1⟩⟩) fun us s1 hq => ?_) hpl he
  obtain ⟨vs, H1, I1, rv, as, ρ1, r1, p1, q1⟩ := hq
  refine thn (hb2.run pos pins s1 σ H1 (fun zs H2 => ∃ (bs : List Ar) (ρ2 : Rho), Rel X.K H2 ρ2 σ (tmps bs zs ++ (tmps as vs ++ T)) ∧ Paired (Ar.at σ) bs zs ∧ Aft W T _ _) I1 ⟨ρ1, tmps as vs ++ T, r1, (q1.bind.ups _).imp fun bs ρ2 q2 zs H2 r2 p2 => ⟨bs, ρ2, r2, p2, q2⟩⟩) fun ws s2 hq2 => ?_
  obtain ⟨zs, H2, I2, rz, bs, ρ2, r2, p2, q2⟩ := hq2
  refine ⟨I2.kIn, ?_⟩
  rw [hks]
  exact callG_end G hr hgd hb hpm hkn hx I2 rv rz r2 p1 p2 q2
end
end Vs
set_option Elab.async false
set_option linter.all false
set_option maxRecDepth 100000
set_option maxHeartbeats 2000000
/-! Vs9: dicts with numbers and texts as keys; places within a name's content (x[i], d['k']) and what changes there. -/
namespace Vs
open PySem PySem.Spec PyProof.Rows L2

def lookK {α κ : Type} [DecidableEq κ] : List (κ × α) → κ → Option α
  | [], _ => none
  | (j, a) :: r, k => if j = k then some a else lookK r k
def setK {α κ : Type} [DecidableEq κ] : List (κ × α) → κ → α → List (κ × α)
  | [], k, a => [(k, a)]
  | (j, b) :: r, k, a => if j = k then (j, a) :: r else (j, b) :: setK r k a
section
variable {κ : Type} [DecidableEq κ]
theorem valV_look (k : κ) : ∀ kvs : List (κ × V), valV kvs k = lookK kvs k
  | [] => rfl
  | (j, a) :: r => by
    unfold lookK
    by_cases h : j = k
    · rw [if_pos h]; exact valV_pos h
    · rw [if_neg h, ← valV_look k r]; exact valV_neg h
theorem setK_keys {α : Type} (k : κ) (a : α) : ∀ ks : List (κ × α), (setK ks k a).map (·.1) = if k ∈ ks.map (·.1) then ks.map (·.1) else ks.map (·.1) ++ [k]
  | [] => by simp [setK]
  | (j, b) :: r => by
    unfold setK
    by_cases h : j = k
    · rw [if_pos h]; simp [h]
    · rw [if_neg h, List.map_cons, setK_keys k a r]
      have h' : ¬ k = j := fun e => h e.symm
      simp only [List.map_cons, List.mem_cons, h', false_or]
      by_cases m : k ∈ r.map (·.1)
      · rw [if_pos m, if_pos m]
      · rw [if_neg m, if_neg m]; rfl
theorem putK_set {k : κ} {v : V} : ∀ {kvs : List (κ × V)}, (kvs.map (·.1)).Nodup → putK kvs k v = setK kvs k v
  | [], _ => by simp [putK, setK]
  | (j, b) :: r, h => by
    rw [List.map_cons, List.nodup_cons] at h
    have ih := putK_set (k := k) (v := v) h.2
    unfold setK
    by_cases e : j = k
    · rw [if_pos e]
      unfold putK
      have : (((j, b) :: r).any fun kv => decide (kv.1 = k)) = true := by simp [e]
      rw [if_pos this, List.map_cons]
      have nr : ∀ kv ∈ r, ¬ kv.1 = k := fun kv hm e2 => h.1 (by rw [e, ← e2]; exact List.mem_map.mpr ⟨kv, hm, rfl⟩)
      have : (r.map fun kv => if kv.1 = k then (kv.1, v) else kv) = r := by
        conv => rhs; rw [← List.map_id r]
        exact List.map_congr_left fun kv hm => by rw [if_neg (nr kv hm)]; rfl
      rw [this, if_pos e]
    · rw [if_neg e, ← ih]
      unfold putK
      rw [List.any_cons]
      simp only [e, decide_false, Bool.false_or]
      split
      · rw [List.map_cons, if_neg e]
      · rfl
theorem mergeK_id : ∀ (kvs acc : List (Key × V)), ((acc ++ kvs).map (·.1)).Nodup → mergeK acc kvs = acc ++ kvs
  | [], acc, _ => by rw [List.append_nil]; rfl
  | p :: r, acc, h => by
    show mergeK (putK acc p.1 p.2) r = _
    have hn : ¬ p.1 ∈ acc.map (·.1) := by
      rw [List.map_append, List.map_cons] at h
      intro hm
      exact (List.nodup_append.mp h).2.2 _ hm _ List.mem_cons_self rfl
    have e : putK acc p.1 p.2 = acc ++ [p] := by
      refine putK_new _ ?_
      cases q : valV acc p.1 with
      | none => rfl
      | some v => exact absurd (valV_in q) hn
    rw [e, mergeK_id r (acc ++ [p]) (by rw [List.append_assoc]; exact h), List.append_assoc]
    rfl
end

/-! ### dicts as nodes -/
section
variable {K : PySem.W.Frag} {H H' : Hp} {L : List Item} {Rs : List Addr} {ρ : Rho} {σ : Sg} {T : List Item} {k : Nat} {ks : List (Key × D)} {v : V}
theorem Good.dicO_inv (h : Good K Rs H ((k + 1, .dic ks, v) :: L)) : ∃ p kvs, v = .ref p ∧ H p = some (.dK kvs) ∧ kvs.map (·.1) = ks.map (·.1) ∧ Good K (p :: Rs) H (its k (ks.map (·.2)) (kvs.map (·.2)) ++ L) := by
  obtain ⟨F, G, r, nd, dj, hr⟩ := h
  cases r with
  | @dicO _ _ p kvs _ F _ h1 h2 r =>
    refine ⟨p, kvs, rfl, h1, h2, F, G, r, (List.perm_middle.nodup_iff).mp nd, fun a ha => dj a (List.perm_middle.mem_iff.mpr ha), fun a ha => ?_⟩
    rcases List.mem_cons.mp ha with rfl | ha
    · rw [h1]; exact fun z => nomatch z
    · exact hr a ha
theorem Good.dicO {p : Addr} {kvs : List (Key × V)} (h1 : H p = some (.dK kvs)) (h2 : kvs.map (·.1) = ks.map (·.1)) (h : Good K (p :: Rs) H (its k (ks.map (·.2)) (kvs.map (·.2)) ++ L)) : Good K Rs H ((k + 1, .dic ks, .ref p) :: L) := by
  obtain ⟨F, G, r, nd, dj, hr⟩ := h
  exact ⟨p :: F, G, .dicO h1 h2 r, (List.perm_middle.nodup_iff).mpr nd, fun a ha => dj a (List.perm_middle.mem_iff.mp ha), fun a ha => hr a (List.mem_cons_of_mem _ ha)⟩
theorem Good.dicF_inv (h : Good K Rs H ((0, .dic ks, v) :: L)) : ∃ p kvs, v = .ref p ∧ H p = some (.dK kvs) ∧ kvs.map (·.1) = ks.map (·.1) ∧ Good K Rs H (its 0 (ks.map (·.2)) (kvs.map (·.2)) ++ L) := by
  obtain ⟨F, G, r, nd, dj, hr⟩ := h
  cases r with
  | @dicF _ p kvs _ _ G h1 h2 r => exact ⟨p, kvs, rfl, h1, h2, F, G, r, nd, fun a ha hg => dj a ha (List.mem_cons_of_mem _ hg), hr⟩
theorem Good.dic_inv (h : Good K Rs H ((k, .dic ks, v) :: L)) : ∃ p kvs, v = .ref p ∧ H p = some (.dK kvs) ∧ kvs.map (·.1) = ks.map (·.1) ∧ Good K Rs H (its (k - 1) (ks.map (·.2)) (kvs.map (·.2)) ++ L) := by
  cases k with
  | zero => exact h.dicF_inv
  | succ k =>
    obtain ⟨p, kvs, e, h1, h2, g⟩ := h.dicO_inv
    exact ⟨p, kvs, e, h1, h2, g.unres⟩
theorem KD.dic (h : KD K H (.dic ks) v) : ∃ p kvs, v = .ref p ∧ H p = some (.dK kvs) ∧ kvs.map (·.1) = ks.map (·.1) ∧ KDs K H (ks.map (·.2)) (kvs.map (·.2)) := by
  obtain ⟨k, R, L, h⟩ := h
  obtain ⟨p, kvs, rfl, h1, h2, g⟩ := h.dic_inv
  have hl : (ks.map (·.2)).length = (kvs.map (·.2)).length := by
    have := congrArg List.length h2
    simpa using this.symm
  exact ⟨p, kvs, rfl, h1, h2, g.kds hl fun x hx => List.mem_append_left _ hx⟩
theorem Good.newD {p : Addr} {kvs : List (Key × V)} (h : Good K Rs H (its k (ks.map (·.2)) (kvs.map (·.2)) ++ L)) (hk : kvs.map (·.1) = ks.map (·.1)) (hp : H p = none) : Good K Rs (upd H p (.dK kvs)) ((k + 1, .dic ks, .ref p) :: L) :=
  Good.dicO upd_same hk (h.resv hp)
/-- where a key stands -/
theorem lookK_at {α β : Type} {key : Key} : ∀ {ks : List (Key × α)} {kvs : List (Key × β)} {a : α}, kvs.map (·.1) = ks.map (·.1) → lookK ks key = some a → ∃ (n : Nat) (b : β), lookK kvs key = some b ∧ (ks.map (·.2))[n]? = some a ∧ (kvs.map (·.2))[n]? = some b ∧
    (∀ a', (setK ks key a').map (·.2) = (ks.map (·.2)).set n a' ∧ (setK ks key a').map (·.1) = ks.map (·.1)) ∧ setK kvs key b = kvs ∧ ∀ b', (setK kvs key b').map (·.2) = (kvs.map (·.2)).set n b'
  | [], _, _, _, h => by cases h
  | (j, x) :: ks, [], _, h, _ => by simp at h
  | (j, x) :: ks, (j', y) :: kvs, a, hk, h => by
    rw [List.map_cons, List.map_cons] at hk
    obtain ⟨e1, e2⟩ := List.cons.inj hk
    simp only at e1
    subst e1
    unfold lookK at h
    by_cases e : j' = key
    · rw [if_pos e] at h
      cases h
      refine ⟨0, y, by unfold lookK; rw [if_pos e], rfl, rfl, fun a' => ?_, by unfold setK; rw [if_pos e], fun b' => by unfold setK; rw [if_pos e]; rfl⟩
      unfold setK
      rw [if_pos e]
      exact ⟨rfl, rfl⟩
    · rw [if_neg e] at h
      obtain ⟨n, b, h1, h2, h3, h4, h5, h6⟩ := lookK_at e2 h
      refine ⟨n + 1, b, by unfold lookK; rw [if_neg e]; exact h1, by simpa using h2, by simpa using h3, fun a' => ?_, by unfold setK; rw [if_neg e, h5], fun b' => by unfold setK; rw [if_neg e, List.map_cons, h6 b']; rfl⟩
      unfold setK
      rw [if_neg e]
      exact ⟨by rw [List.map_cons, (h4 a').1]; rfl, by rw [List.map_cons, (h4 a').2]; rfl⟩
theorem lookK_none {α β : Type} {key : Key} : ∀ {ks : List (Key × α)} {kvs : List (Key × β)}, kvs.map (·.1) = ks.map (·.1) → lookK ks key = none → lookK kvs key = none
  | [], [], _, _ => rfl
  | [], _ :: _, h, _ => by simp at h
  | (j, x) :: ks, [], h, _ => by simp at h
  | (j, x) :: ks, (j', y) :: kvs, hk, h => by
    rw [List.map_cons, List.map_cons] at hk
    obtain ⟨e1, e2⟩ := List.cons.inj hk
    simp only at e1
    subst e1
    unfold lookK at h ⊢
    by_cases e : j' = key
    · rw [if_pos e] at h; cases h
    · rw [if_neg e] at h ⊢; exact lookK_none e2 h
end

section
variable {K : PySem.W.Frag} {H : Hp}
theorem KDs.at {xs : List D} {vs : List V} (h : KDs K H xs vs) : ∀ {n : Nat} {d : D}, xs[n]? = some d → ∃ v, vs[n]? = some v ∧ KD K H d v := by
  induction h with
  | nil => intro n d z; simp at z
  | @cons a c as cs q _ ih =>
    intro n d z
    cases n with
    | zero => simp at z; subst z; exact ⟨c, rfl, q⟩
    | succ n => obtain ⟨v, h1, h2⟩ := ih (n := n) (by simpa using z); exact ⟨v, by simpa using h1, h2⟩
end
/-! ### still expressions: the heap is not touched -/
def tQ (K : PySem.W.Frag) (m : Rho → Option D) : TE := fun σ H Q => ∃ ρ T, Rel K H ρ σ T ∧ ∃ d, m ρ = some d ∧ d.isS = true ∧ Q d.sv H
def qN (i : Nat) : Rho → Option D := fun ρ => match ρ[i]? with
  | some (.c _ d) => if d.isS then some d else none
  | _ => none
def qK (d : D) : Rho → Option D := fun _ => some d
def q2 (o : List D → Option D) (a b : Rho → Option D) : Rho → Option D := fun ρ => match a ρ, b ρ with
  | some x, some y => if x.isS && y.isS then o [x, y] else none
  | _, _ => none
def qU (o : D → Option D) (a : Rho → Option D) : Rho → Option D := fun ρ => (a ρ).bind o
/-- a scalar at a place of a name's content -/
def qX (j : Nat) (a : Rho → Option D) : Rho → Option D := fun ρ => match ρ[j]?, a ρ with
  | some (.c _ d), some (.int i) => match d with
    | .lst xs => (atI xs i).bind fun d => if d.isS then some d else none
    | .tup xs => (atI xs i).bind fun d => if d.isS then some d else none
    | .rol xs => (atI xs i).bind fun d => if d.isS then some d else none
    | _ => none
  | _, _ => none
def qL (j : Nat) : Rho → Option D := fun ρ => match ρ[j]? with
  | some (.c _ d) => fLen d
  | _ => none
section
variable {X : Cx} {W : Wish} {e ea eb : Expr} {pos p1 : Pos} {a b : Rho → Option D}
theorem s_kd {K : PySem.W.Frag} {H : Hp} {d : D} (h : d.isS = true) : KD K H d d.sv := ⟨0, [], [], by
  have : Good K [] H [] := ⟨[], [], .nil, List.nodup_nil, fun a h => (nomatch h), fun a h => (nomatch h)⟩
  exact this.scal h⟩
theorem qe_name {i : Nat} {x : Str} (h : PE X (.Name x pos) (tVar i)) : PE X (.Name x pos) (tQ X.K (qN i)) := by
  refine PE.imp h fun σ H Q ⟨ρ, T, r, d, e, s, q⟩ => ?_
  unfold qN at e
  split at e
  · rename_i k d' ec
    split at e
    · cases e
      obtain ⟨v, hv, kd⟩ := r.kd ec
      obtain rfl := kd.isS s
      exact ⟨_, hv, q⟩
    · cases e
  · cases e
theorem qe_k {v : V} {d : D} (h : PE X e (tC v)) (hs : d.isS = true) (hv : d.sv = v) : PE X e (tQ X.K (qK d)) := by
  refine PE.imp h fun σ H Q ⟨ρ, T, r, d', e, s, q⟩ => ?_
  cases e
  subst hv
  exact q
theorem qe_int {i : Int} {j : Nat} : PE X (.Constant (.int i) j pos) (tQ X.K (qK (.int i))) := qe_k pe_int rfl rfl
theorem qe_str {x : Str} {j : Nat} : PE X (.Constant (.str x) j pos) (tQ X.K (qK (.str x))) := qe_k pe_str rfl rfl
theorem qe_bl {x : Bool} {j : Nat} : PE X (.Constant (.bool x) j pos) (tQ X.K (qK (.bl x))) := qe_k pe_bl rfl rfl
theorem q2_run {r : R2} {o : List D → Option D} (ho : SOp X.K (fun vs H Q => ∃ x y, vs = [x, y] ∧ r x y H Q) o) {σ : Sg} {H : Hp} {Q : VK} (h : tQ X.K (q2 o a b) σ H Q) : tOp r (tQ X.K a) (tQ X.K b) σ H Q := by
  obtain ⟨ρ, T, rel, d, e, s, q⟩ := h
  unfold q2 at e
  split at e
  · rename_i x y ea eb
    by_cases sxy : (x.isS && y.isS) = true
    · rw [if_pos sxy] at e
      rw [Bool.and_eq_true] at sxy
      refine ⟨ρ, T, rel, x, ea, sxy.1, ρ, T, rel, y, eb, sxy.2, ?_⟩
      obtain ⟨_, f⟩ := ho H [x, y] [x.sv, y.sv] d (.cons (s_kd sxy.1) (.cons (s_kd sxy.2) .nil)) e
      obtain ⟨x', y', e', h'⟩ := f Q q
      cases e'
      exact h'
    · rw [if_neg sxy] at e; cases e
  · cases e
theorem qe_op2 {op : Operator} {r : R2} {o : List D → Option D} (hr : OpR X (binaryOp op) r) (ho : SOp X.K (fun vs H Q => ∃ x y, vs = [x, y] ∧ r x y H Q) o) (ha : PE X ea (tQ X.K a)) (hb : PE X eb (tQ X.K b)) : PE X (.BinOp ea op eb pos) (tQ X.K (q2 o a b)) :=
  PE.imp (pe_op hr ha hb) fun σ H Q h => q2_run ho h
/-- + of two numbers -/
def oAddI := oI2 fun i j => i + j
def oMulI := oI2c mulOk fun i j => i * j
theorem qe_add (ha : PE X ea (tQ X.K a)) (hb : PE X eb (tQ X.K b)) : PE X (.BinOp ea .Add eb pos) (tQ X.K (q2 oAddI a b)) := qe_op2 op_add s_I2 ha hb
theorem qe_sub (ha : PE X ea (tQ X.K a)) (hb : PE X eb (tQ X.K b)) : PE X (.BinOp ea .Sub eb pos) (tQ X.K (q2 oSub a b)) := qe_op2 op_sub s_I2 ha hb
theorem qe_mul (ha : PE X ea (tQ X.K a)) (hb : PE X eb (tQ X.K b)) : PE X (.BinOp ea .Mult eb pos) (tQ X.K (q2 oMulI a b)) := qe_op2 op_mulX (s_I2c fun _ _ h => h) ha hb
theorem qe_div (ha : PE X ea (tQ X.K a)) (hb : PE X eb (tQ X.K b)) : PE X (.BinOp ea .FloorDiv eb pos) (tQ X.K (q2 oDiv a b)) := qe_op2 op_fdivW (s_I2c fun _ _ => divOk_ok) ha hb
theorem qe_mod (ha : PE X ea (tQ X.K a)) (hb : PE X eb (tQ X.K b)) : PE X (.BinOp ea .Mod eb pos) (tQ X.K (q2 oMod a b)) := qe_op2 op_mod (s_I2c fun _ _ h => of_decide_eq_true h) ha hb
theorem qe_band (ha : PE X ea (tQ X.K a)) (hb : PE X eb (tQ X.K b)) : PE X (.BinOp ea .BitAnd eb pos) (tQ X.K (q2 oAnd a b)) := qe_op2 op_and s_I2 ha hb
theorem qe_neg (ha : PE X ea (tQ X.K a)) : PE X (.UnaryOp .USub ea pos) (tQ X.K (qU oNeg a)) := by
  refine PE.imp (pe_un un_neg ha) fun σ H Q ⟨ρ, T, rel, d, e, s, q⟩ => ?_
  unfold qU at e
  cases ex : a ρ with
  | none => rw [ex] at e; cases e
  | some x =>
    rw [ex] at e
    cases x with
    | int i =>
      cases e
      exact ⟨ρ, T, rel, .int i, ex, rfl, i, rfl, q⟩
    | _ => cases e
theorem qe_idx {j : Nat} {x : Str} (ha : PE X (.Name x p1) (tVar j)) (hb : PE X eb (tQ X.K b)) (hs : PlainIx eb) : PE X (.Subscript (.Name x p1) eb pos) (tQ X.K (qX j b)) := by
  refine PE.imp (pe_ix ix_seq ha hb hs) fun σ H Q ⟨ρ, T, rel, d, e, s, q⟩ => ?_
  unfold qX at e
  split at e
  · rename_i k d0 i ec eb
    obtain ⟨v, hv, kd⟩ := rel.kd ec
    refine ⟨v, hv, ρ, T, rel, .int i, eb, rfl, ?_⟩
    have fin : ∀ {xs : List D} {vs : List V}, KDs X.K H xs vs → ((atI xs i).bind fun d => if d.isS then some d else none) = some d → atI vs i = some d.sv := fun {xs vs} kds e => by
      cases ea : atI xs i with
      | none => rw [ea] at e; cases e
      | some d' =>
        rw [ea] at e
        by_cases s' : d'.isS = true
        · have e' : (if d'.isS then some d' else none) = some d := e
          rw [if_pos s'] at e'
          obtain rfl := Option.some.inj e'
          obtain ⟨j', b', h1, h2, h3⟩ := atI_at ea kds.length
          obtain ⟨b2, h4, kk⟩ := kds.at h1
          rw [h2] at h4
          obtain rfl := Option.some.inj h4
          rw [h3, kk.isS s']
        · have e' : (if d'.isS then some d' else none) = some d := e
          rw [if_neg s'] at e'; cases e'
    cases d0 with
    | lst xs =>
      obtain ⟨p, vs, rfl, h1, h2⟩ := kd.lst
      exact .inl ⟨p, vs, i, _, rfl, rfl, SqL.of h1, fin h2 e, q⟩
    | tup xs =>
      obtain ⟨p, vs, rfl, h1, h2⟩ := kd.tup
      exact .inr (.inl ⟨p, vs, i, _, rfl, rfl, h1, fin h2 e, q⟩)
    | rol xs =>
      obtain ⟨p, vs, rfl, h1, h2⟩ := kd.rol
      exact .inl ⟨p, vs, i, _, rfl, rfl, h1, fin h2 e, q⟩
    | _ => cases e
  · cases e
end

/-! ### places -/
inductive Step where
  | ix (n : Nat)
  | ky (k : Key)
def subT : D → List Step → Option D
  | d, [] => some d
  | .lst ds, .ix n :: π => (ds[n]?).bind fun x => subT x π
  | .dic ks, .ky k :: π => (lookK ks k).bind fun x => subT x π
  | _, _ => none
def Fol (H : Hp) : V → List Step → V → Prop
  | v, [], u => u = v
  | v, .ix n :: π, u => ∃ p ws w, v = .ref p ∧ H p = some (.lst ws) ∧ ws[n]? = some w ∧ Fol H w π u
  | v, .ky k :: π, u => ∃ p kvs w, v = .ref p ∧ H p = some (.dK kvs) ∧ lookK kvs k = some w ∧ Fol H w π u
abbrev Place := Nat × List Step
def tPl (K : PySem.W.Frag) (W : Wish) (m : M Place) : TE := fun σ H Q => ∃ ρ T, Rel K H ρ σ T ∧ Aft W T (m ρ) fun jp ρ' => ∀ v H', Rel K H' ρ' σ T → (∃ r, σ[jp.1]? = some (some r) ∧ Fol H' r jp.2 v) → Q v H'
def plN (j : Nat) : M Place := fun ρ => match ρ[j]? with
  | some (.c _ _) => .ok (j, []) ρ
  | _ => .no
/-- a place's item: the index is still -/
def plX (m : M Place) (i : Rho → Option D) : M Place := m.bind fun jp ρ => match ρ[jp.1]?, i ρ with
  | some (.c _ d), some y => match subT d jp.2, y with
    | some (.lst ds), .int z => match ixN ds.length z with
      | some n => .ok (jp.1, jp.2 ++ [.ix n]) ρ
      | none => .no
    | some (.dic ks), .str x => match lookK ks (Sum.inr x) with
      | some _ => .ok (jp.1, jp.2 ++ [.ky (Sum.inr x)]) ρ
      | none => .no
    | some (.dic ks), .int z => match lookK ks (Sum.inl z) with
      | some _ => .ok (jp.1, jp.2 ++ [.ky (Sum.inl z)]) ρ
      | none => .no
    | _, _ => .no
  | _, _ => .no
section
variable {K : PySem.W.Frag} {H H' : Hp} {L : List Item} {Rs : List Addr} {ρ : Rho} {σ : Sg} {T : List Item}
theorem KD.sub {d : D} {r v : V} {d' : D} : ∀ {π : List Step} {d : D} {r : V}, KD K H d r → Fol H r π v → subT d π = some d' → KD K H d' v
  | [], d, r, h, f, e => by cases e; cases f; exact h
  | .ix n :: π, d, r, h, f, e => by
    cases d with
    | lst ds =>
      obtain ⟨p, ws, w, rfl, h1, h2, f'⟩ := f
      obtain ⟨p', ws', e1, h3, kds⟩ := h.lst
      cases e1
      rw [h1] at h3
      cases h3
      have e' : (ds[n]?).bind (fun x => subT x π) = some d' := e
      cases ex : ds[n]? with
      | none => rw [ex] at e'; cases e'
      | some x =>
        rw [ex] at e'
        obtain ⟨w', h4, kd⟩ := kds.at ex
        rw [h2] at h4
        cases h4
        exact KD.sub (d := d) (r := r) kd f' e'
    | _ => cases e
  | .ky k :: π, d, r, h, f, e => by
    cases d with
    | dic ks =>
      obtain ⟨p, kvs, w, rfl, h1, h2, f'⟩ := f
      obtain ⟨p', kvs', e1, h3, hk, kds⟩ := h.dic
      cases e1
      rw [h1] at h3
      cases h3
      have e' : (lookK ks k).bind (fun x => subT x π) = some d' := e
      cases ex : lookK ks k with
      | none => rw [ex] at e'; cases e'
      | some x =>
        rw [ex] at e'
        obtain ⟨n, b, h4, h5, h6, _⟩ := lookK_at hk ex
        rw [h2] at h4
        cases h4
        obtain ⟨w', h7, kd⟩ := kds.at h5
        rw [h6] at h7
        cases h7
        exact KD.sub (d := d) (r := r) kd f' e'
    | _ => cases e
theorem Fol.snoc {π2 : List Step} {v u : V} : ∀ {π : List Step} {r : V}, Fol H r π v → Fol H v π2 u → Fol H r (π ++ π2) u
  | [], r, f, g => by cases f; exact g
  | .ix n :: π, r, ⟨p, ws, w, e, h1, h2, f⟩, g => ⟨p, ws, w, e, h1, h2, Fol.snoc f g⟩
  | .ky n :: π, r, ⟨p, ws, w, e, h1, h2, f⟩, g => ⟨p, ws, w, e, h1, h2, Fol.snoc f g⟩
end
section
variable {X : Cx} {W : Wish} {e ea eb : Expr} {pos p1 : Pos} {mp : M Place} {b : Rho → Option D} {k : Nat}
theorem l_name {i : Nat} {x : Str} (h : PE X (.Name x pos) (tVar i)) : PE X (.Name x pos) (tPl X.K W (plN i)) := by
  refine PE.imp h fun σ H Q ⟨ρ, T, r, a⟩ => ?_
  unfold plN at a
  split at a
  · rename_i k d ec
    obtain ⟨v, hv, kd⟩ := r.kd ec
    exact ⟨v, hv, a v H r ⟨v, hv, rfl⟩⟩
  · exact a.elim
/-- x[i] or x[k], a list or a dict: one rule of subscripts -/
def rSub (K : PySem.W.Frag) : R2 := fun x y H Q => rIx K x y H Q ∨ ∃ a v, x = .ref a ∧ DGet H a y (some v) ∧ Q v H
theorem ix_sub (hu : X.A.units + 1 < cLine) : IxR X (rSub X.K) := by
  intro value slice pins s σ H x y v u Q I rx ry h hs
  rcases h with h | ⟨a, w, rfl, g, q⟩
  · exact ix_seq value slice pins s σ H x y v u Q I rx ry h hs
  · cases rx
    exact tail_any (dict_typeIs I g) PySem.F.slot_dict_getitem.lookup (d_getItem hu I g ry fun w' s3 I3 rw' => ⟨w, H, I3, rw', q⟩) hs
theorem l_item (hr : Room k X.A) (ha : PE X ea (tPl X.K W mp)) (hb : PE X eb (tQ X.K b)) (hs : PlainIx eb) : PE X (.Subscript ea eb pos) (tPl X.K W (plX mp b)) := by
  refine PE.imp (pe_ix (ix_sub (hu_of hr)) ha hb hs) fun σ H Q ⟨ρ, T, rel, a⟩ => ?_
  refine ⟨ρ, T, rel, a.bind.imp fun jp ρ1 q1 v H1 r1 ⟨r, hr, f⟩ => ?_⟩
  obtain ⟨j, π⟩ := jp
  cases ec : ρ1[j]? with
  | none => simp only [ec] at q1; exact q1.elim
  | some c =>
    cases c with
    | u => simp only [ec] at q1; exact q1.elim
    | c k d =>
      cases ey : b ρ1 with
      | none => simp only [ec, ey] at q1; exact q1.elim
      | some y =>
        simp only [ec, ey] at q1
        obtain ⟨r', hr', kd⟩ := r1.kd ec
        rw [hr] at hr'
        cases hr'
        have step : ∀ {y d1 : D} {st : Step}, y.isS = true → b ρ1 = some y → subT d π = some d1 → (KD X.K H1 d1 v → ∃ u, Fol H1 v [st] u ∧ ∀ Q : VK, Q u H1 → rSub X.K v y.sv H1 Q) →
            Aft W T (R.ok (j, π ++ [st]) ρ1) (fun jp ρ' => ∀ v H', Rel X.K H' ρ' σ T → (∃ r, σ[jp.1]? = some (some r) ∧ Fol H' r jp.2 v) → Q v H') → tQ X.K b σ H1 fun y H2 => rSub X.K v y H2 Q := fun {y d1 st} ys ey es hst q => by
          obtain ⟨u, hf, hq⟩ := hst (KD.sub (d := d) (r := r) kd f es)
          exact ⟨ρ1, T, r1, y, ey, ys, hq Q (q u H1 r1 ⟨r, hr, f.snoc hf⟩)⟩
        cases es : subT d π with
        | none => rw [es] at q1; exact q1.elim
        | some d1 =>
          rw [es] at q1
          have key : ∀ {ks : List (Key × D)} {kk : Key} {x : D}, lookK ks kk = some x → KD X.K H1 (.dic ks) v → ∃ u, Fol H1 v [.ky kk] u ∧ ∀ Q : VK, Q u H1 → rSub X.K v (kV kk) H1 Q := fun {ks kk x} en kd => by
            obtain ⟨p, kvs, rfl, h1, h2, _⟩ := kd.dic
            obtain ⟨n, u, h3, _⟩ := lookK_at h2 en
            have g : DGet H1 p (kV kk) (some u) := by
              have := DGet.k (k := kk) h1
              rwa [valV_look, h3] at this
            exact ⟨u, ⟨p, kvs, u, rfl, h1, h3, rfl⟩, fun Q q => .inr ⟨p, u, rfl, g, q⟩⟩
          cases d1 with
          | lst ds =>
            cases y with
            | int z =>
              simp only at q1
              cases en : ixN ds.length z with
              | none => rw [en] at q1; exact q1.elim
              | some n =>
                rw [en] at q1
                refine step (y := .int z) rfl ey es (fun kd => ?_) q1
                obtain ⟨i1, i2, i3, i4⟩ := ixN_seq en
                obtain ⟨p, ws, rfl, h1, kds⟩ := kd.lst
                obtain ⟨u, h2, _⟩ := kds.at (List.getElem?_eq_getElem i2)
                exact ⟨u, ⟨p, ws, u, rfl, h1, h2, rfl⟩, fun Q q => .inl (.inl ⟨p, ws, z, u, rfl, rfl, SqL.of h1, by unfold atI; rw [← kds.length, en]; exact h2, q⟩)⟩
            | _ => exact q1.elim
          | dic ks =>
            cases y with
            | int z =>
              simp only at q1
              cases en : lookK ks (Sum.inl z) with
              | none => rw [en] at q1; exact q1.elim
              | some x =>
                rw [en] at q1
                exact step (y := .int z) rfl ey es (key en) q1
            | str z =>
              simp only at q1
              cases en : lookK ks (Sum.inr z) with
              | none => rw [en] at q1; exact q1.elim
              | some x =>
                rw [en] at q1
                exact step (y := .str z) rfl ey es (key en) q1
            | _ => exact q1.elim
          | _ => exact q1.elim
/-- what stands at a place, read: shared from now on, a scalar as it is -/
def rdP (m : M Place) : M LD := m.bind fun jp ρ => match ρ[jp.1]? with
  | some (.c k d) => match subT d jp.2 with
    | some d1 => if d1.isS then .ok (9, d1) ρ else .ok (0, d1) (ρ.set jp.1 (.c (min k jp.2.length) d))
    | none => .no
  | _ => .no
end
section
variable {K : PySem.W.Frag} {H H' : Hp} {L : List Item} {Rs : List Addr} {ρ : Rho} {σ : Sg} {T : List Item}
theorem its_map_at {k : Nat} {ds : List D} {ws : List V} {n : Nat} {y : D} {u : V} (hl : ds.length = ws.length) (h1 : ds[n]? = some y) (h2 : ws[n]? = some u) : (its k ds ws).Perm ((k, y, u) :: its k (ds.eraseIdx n) (ws.eraseIdx n)) := its_at hl h1 h2
theorem set_same {α : Type} {l : List α} {n : Nat} {a : α} (h : l[n]? = some a) : l.set n a = l := by
  obtain ⟨hi, e⟩ := List.getElem?_eq_some_iff.mp h
  rw [← e, List.set_getElem_self]
theorem Good.shareAt {d1 : D} {u : V} : ∀ {π : List Step} {Rs : List Addr} {L : List Item} {k : Nat} {d : D} {v : V}, Good K Rs H ((k, d, v) :: L) → Fol H v π u → subT d π = some d1 → Good K Rs H ((0, d1, u) :: (min k π.length, d, v) :: L)
  | [], Rs, L, k, d, v, g, f, e => by cases e; cases f; rw [List.length_nil, Nat.min_zero]; exact g.share
  | .ix n :: π, Rs, L, k, d, v, g, f, e => by
    cases d with
    | lst ds =>
      obtain ⟨p, ws, w, rfl, h1, h2, f'⟩ := f
      have e' : (ds[n]?).bind (fun x => subT x π) = some d1 := e
      cases ex : ds[n]? with
      | none => rw [ex] at e'; cases e'
      | some x =>
        rw [ex] at e'
        have e2 : subT x π = some d1 := e'
        cases k with
        | zero =>
          obtain ⟨p', ws', e3, h3, hl, g1⟩ := g.dup.frz_inv
          cases e3
          rw [h1] at h3; cases h3
          have g2 : Good K Rs H ((0, x, w) :: (its 0 (ds.eraseIdx n) (ws.eraseIdx n) ++ ((0, .lst ds, .ref p) :: L))) := g1.perm ((its_at hl ex h2).append_right _)
          have g3 := Good.shareAt g2 f' e2
          rw [Nat.zero_min]
          have g4 : Good K Rs H ([(0, d1, u)] ++ (((min 0 π.length, x, w) :: its 0 (ds.eraseIdx n) (ws.eraseIdx n)) ++ ((0, .lst ds, .ref p) :: L))) := g3
          exact g4.mid
        | succ k =>
          obtain ⟨p', ws', e3, h3, hl, g1⟩ := g.own_inv
          cases e3
          rw [h1] at h3; cases h3
          have g2 : Good K (p :: Rs) H ((k, x, w) :: (its k (ds.eraseIdx n) (ws.eraseIdx n) ++ L)) := g1.perm ((its_at hl ex h2).append_right _)
          have g3 := Good.shareAt g2 f' e2
          have g4 : Good K (p :: Rs) H ((0, d1, u) :: ((min k π.length, x, w) :: its (min k π.length) (ds.eraseIdx n) (ws.eraseIdx n) ++ L)) :=
            g3.weak (.cons (Nat.le_refl _) (.cons (Nat.le_refl _) (Wk.append (Wk.its (Nat.min_le_left _ _) _ _) (Wk.refl L))))
          have g5 : Good K (p :: Rs) H (its (min k π.length) ds ws ++ ((0, d1, u) :: L)) := g4.perm (by
            refine (List.Perm.trans ?_ ((its_at hl ex h2).symm.append_right _))
            exact (List.perm_middle (l₁ := (min k π.length, x, w) :: its (min k π.length) (ds.eraseIdx n) (ws.eraseIdx n)) (a := (0, d1, u)) (l₂ := L)).symm)
          rw [List.length_cons, Nat.succ_min_succ]
          exact (Good.own h1 hl g5).perm (.swap _ _ _)
    | _ => cases e
  | .ky kk :: π, Rs, L, k, d, v, g, f, e => by
    cases d with
    | dic ks =>
      obtain ⟨p, kvs, w, rfl, h1, h2, f'⟩ := f
      have e' : (lookK ks kk).bind (fun x => subT x π) = some d1 := e
      cases ex : lookK ks kk with
      | none => rw [ex] at e'; cases e'
      | some x =>
        rw [ex] at e'
        have e2 : subT x π = some d1 := e'
        cases k with
        | zero =>
          obtain ⟨p', kvs', e3, h3, hk, g1⟩ := g.dup.dicF_inv
          cases e3
          rw [h1] at h3; cases h3
          have hl : (ks.map (·.2)).length = (kvs.map (·.2)).length := by simpa using (congrArg List.length hk).symm
          obtain ⟨n, b, q1, q2, q3, _⟩ := lookK_at hk ex
          rw [h2] at q1; cases q1
          have g2 := g1.perm ((its_at hl q2 q3).append_right _)
          have g3 := Good.shareAt g2 f' e2
          rw [Nat.zero_min]
          have g4 : Good K Rs H ([(0, d1, u)] ++ (((min 0 π.length, x, w) :: its 0 ((ks.map (·.2)).eraseIdx n) ((kvs.map (·.2)).eraseIdx n)) ++ ((0, .dic ks, .ref p) :: L))) := g3
          exact g4.mid
        | succ k =>
          obtain ⟨p', kvs', e3, h3, hk, g1⟩ := g.dicO_inv
          cases e3
          rw [h1] at h3; cases h3
          have hl : (ks.map (·.2)).length = (kvs.map (·.2)).length := by simpa using (congrArg List.length hk).symm
          obtain ⟨n, b, q1, q2, q3, _⟩ := lookK_at hk ex
          rw [h2] at q1; cases q1
          have g2 := g1.perm ((its_at hl q2 q3).append_right _)
          have g3 := Good.shareAt g2 f' e2
          have g4 : Good K (p :: Rs) H ((0, d1, u) :: ((min k π.length, x, w) :: its (min k π.length) ((ks.map (·.2)).eraseIdx n) ((kvs.map (·.2)).eraseIdx n) ++ L)) :=
            g3.weak (.cons (Nat.le_refl _) (.cons (Nat.le_refl _) (Wk.append (Wk.its (Nat.min_le_left _ _) _ _) (Wk.refl L))))
          have g5 : Good K (p :: Rs) H (its (min k π.length) (ks.map (·.2)) (kvs.map (·.2)) ++ ((0, d1, u) :: L)) := g4.perm (by
            refine (List.Perm.trans ?_ ((its_at hl q2 q3).symm.append_right _))
            exact (List.perm_middle (l₁ := (min k π.length, x, w) :: its (min k π.length) ((ks.map (·.2)).eraseIdx n) ((kvs.map (·.2)).eraseIdx n)) (a := (0, d1, u)) (l₂ := L)).symm)
          rw [List.length_cons, Nat.succ_min_succ]
          exact (Good.dicO h1 hk g5).perm (.swap _ _ _)
    | _ => cases e
end
section
variable {X : Cx} {W : Wish} {P : Sg → Prop} {e ea eb : Expr} {es : List Expr} {pos p1 : Pos} {mp : M Place} {b : Rho → Option D} {k : Nat}
theorem v_rdP (h : PE X e (tPl X.K W mp)) : PE X e (tV X.K W (rdP mp)) := by
  refine PE.imp h fun σ H Q ⟨ρ, T, rel, a⟩ => ⟨ρ, T, rel, a.bind.imp fun jp ρ1 q1 v H1 r1 ⟨r, hr, f⟩ => ?_⟩
  obtain ⟨j, π⟩ := jp
  cases ec : ρ1[j]? with
  | none => simp only [ec] at q1; exact q1.elim
  | some c =>
    cases c with
    | u => simp only [ec] at q1; exact q1.elim
    | c k d =>
      simp only [ec] at q1
      cases es : subT d π with
      | none => rw [es] at q1; exact q1.elim
      | some d1 =>
        rw [es] at q1
        simp only at q1
        obtain ⟨r', hr', kd⟩ := r1.kd ec
        rw [hr] at hr'
        cases hr'
        by_cases s : d1.isS = true
        · rw [if_pos s] at q1
          obtain rfl := (KD.sub (d := d) (r := r) kd f es).isS s
          exact q1 _ H1 (r1.scal s)
        · rw [if_neg s] at q1
          obtain ⟨L, c, g⟩ := r1.move2 ec hr
          have g2 := Good.shareAt (L := T ++ L) g f es
          have r2 : Rel X.K H1 (ρ1.set j .u) σ ((min k π.length, d, r) :: (0, d1, v) :: T) := ⟨L, c, g2.perm (.swap _ _ _)⟩
          have r3 := r2.back (getElem?_set_u ec) hr
          rw [set_set_c] at r3
          exact q1 v H1 r3

/-! ### a change at a place -/
def lift1 (o : MO) : Step → MO
  | .ix n => fun k d xs => match k, d with
    | k + 1, .lst ds => match ds[n]? with
      | some d1 => match o k d1 xs with
        | some (z, k2, d2) => some (z, min k k2 + 1, .lst (ds.set n d2))
        | none => none
      | none => none
    | _, _ => none
  | .ky kk => fun k d xs => match k, d with
    | k + 1, .dic ks => match lookK ks kk with
      | some d1 => match o k d1 xs with
        | some (z, k2, d2) => some (z, min k k2 + 1, .dic (setK ks kk d2))
        | none => none
      | none => none
    | _, _ => none
def liftP (o : MO) : List Step → MO
  | [] => o
  | s :: π => lift1 (liftP o π) s
def rAt (r : V → List V → Hp → VK → Prop) (π : List Step) : V → List V → Hp → VK → Prop := fun v vs H Q => ∃ u, Fol H v π u ∧ r u vs H Q
end
section
variable {K : PySem.W.Frag}
/-- the same, whatever the node that is changed -/
def MutAt (K : PySem.W.Frag) (r : V → List V → Hp → VK → Prop) (o : MO) : Prop := ∀ (Rs : List Addr) (H : Hp) (L : List Item) (k : Nat) (d : D) (xs : List LD) (v : V) (vs : List V) (z : LD) (k' : Nat) (d' : D),
  Good K Rs H ((k, d, v) :: (itemsOf xs vs ++ L)) → xs.length = vs.length → o k d xs = some (z, k', d') →
  ∃ u b ob, (∀ p ∈ Rs, b ≠ p) ∧ Good K Rs (upd H b ob) ((k', d', v) :: (z.1, z.2, u) :: L) ∧ ∀ Q : VK, Q u (upd H b ob) → r v vs H Q
theorem m_at {r : V → List V → Hp → VK → Prop} {o : MO} (h : MutOp K r o) : ∀ π : List Step, MutAt K (rAt r π) (liftP o π)
  | [] => by
    intro Rs H L k d xs v vs z k' d' g hl e
    obtain ⟨u, b, ob, e1, e2, g2, f⟩ := h Rs H L k d xs v vs z k' d' g hl e
    exact ⟨u, b, ob, e2, g2, fun Q q => ⟨v, rfl, f Q q⟩⟩
  | .ix n :: π => by
    intro Rs H L k d xs v vs z k' d' g hl e
    have e0 : lift1 (liftP o π) (.ix n) k d xs = some (z, k', d') := e
    unfold lift1 at e0
    cases k with
    | zero => cases e0
    | succ k =>
      cases d with
      | lst ds =>
        simp only at e0
        cases ex : ds[n]? with
        | none => rw [ex] at e0; cases e0
        | some d1 =>
          rw [ex] at e0
          simp only at e0
          cases eo : liftP o π k d1 xs with
          | none => rw [eo] at e0; cases e0
          | some zz =>
            obtain ⟨z', k2, d2⟩ := zz
            rw [eo] at e0
            cases e0
            obtain ⟨p, ws, rfl, h1, h2, g1⟩ := g.own_inv
            have hn : n < ws.length := by rw [← h2]; exact (List.getElem?_eq_some_iff.mp ex).1
            have hw : ws[n]? = some ws[n] := List.getElem?_eq_getElem hn
            have g2 : Good K (p :: Rs) H ((k, d1, ws[n]) :: (itemsOf xs vs ++ (its k (ds.eraseIdx n) (ws.eraseIdx n) ++ L))) := g1.perm ((((its_at h2 ex hw).append_right _)).trans (by
              rw [List.cons_append]
              refine List.Perm.cons _ ?_
              rw [← List.append_assoc, ← List.append_assoc]
              exact List.perm_append_comm.append_right L))
            obtain ⟨u, b, ob, e2, g3, f⟩ := m_at h π (p :: Rs) H _ k d1 xs ws[n] vs z k2 d2 g2 hl eo
            have hb : b ≠ p := e2 p List.mem_cons_self
            have h3 : upd H b ob p = some (.lst ws) := by rw [upd_ne (fun e => hb e.symm)]; exact h1
            have g4 : Good K (p :: Rs) (upd H b ob) ((min k k2, d2, ws[n]) :: (z.1, z.2, u) :: (its (min k k2) (ds.eraseIdx n) (ws.eraseIdx n) ++ L)) :=
              g3.weak (.cons (Nat.min_le_right _ _) (.cons (Nat.le_refl _) (Wk.append (Wk.its (Nat.min_le_left _ _) _ _) (Wk.refl L))))
            have g5 : Good K (p :: Rs) (upd H b ob) (its (min k k2) (ds.set n d2) ws ++ ((z.1, z.2, u) :: L)) := g4.perm (by
              have p1 := its_set (k := min k k2) (y := d2) (u := ws[n]) h2 (by rw [h2]; exact hn)
              rw [set_same hw] at p1
              exact ((List.perm_middle (l₁ := (min k k2, d2, ws[n]) :: its (min k k2) (ds.eraseIdx n) (ws.eraseIdx n)) (a := (z.1, z.2, u)) (l₂ := L)).trans (.swap _ _ _)).symm.trans (p1.append_right _))
            refine ⟨u, b, ob, fun q hq => e2 q (List.mem_cons_of_mem _ hq), Good.own h3 (by rw [List.length_set]; exact h2) g5, fun Q q => ?_⟩
            obtain ⟨u', f1, f2⟩ := f Q q
            exact ⟨u', ⟨p, ws, _, rfl, h1, hw, f1⟩, f2⟩
      | _ => cases e0
  | .ky kk :: π => by
    intro Rs H L k d xs v vs z k' d' g hl e
    have e0 : lift1 (liftP o π) (.ky kk) k d xs = some (z, k', d') := e
    unfold lift1 at e0
    cases k with
    | zero => cases e0
    | succ k =>
      cases d with
      | dic ks =>
        simp only at e0
        cases ex : lookK ks kk with
        | none => rw [ex] at e0; cases e0
        | some d1 =>
          rw [ex] at e0
          simp only at e0
          cases eo : liftP o π k d1 xs with
          | none => rw [eo] at e0; cases e0
          | some zz =>
            obtain ⟨z', k2, d2⟩ := zz
            rw [eo] at e0
            cases e0
            obtain ⟨p, kvs, rfl, h1, hk, g1⟩ := g.dicO_inv
            have h2 : (ks.map (·.2)).length = (kvs.map (·.2)).length := by simpa using (congrArg List.length hk).symm
            obtain ⟨n, w, q1, q2, hw, q4, q5, q6⟩ := lookK_at hk ex
            have hn : n < (kvs.map (·.2)).length := (List.getElem?_eq_some_iff.mp hw).1
            have g2 : Good K (p :: Rs) H ((k, d1, w) :: (itemsOf xs vs ++ (its k ((ks.map (·.2)).eraseIdx n) ((kvs.map (·.2)).eraseIdx n) ++ L))) := g1.perm ((((its_at h2 q2 hw).append_right _)).trans (by
              rw [List.cons_append]
              refine List.Perm.cons _ ?_
              rw [← List.append_assoc, ← List.append_assoc]
              exact List.perm_append_comm.append_right L))
            obtain ⟨u, b, ob, e2, g3, f⟩ := m_at h π (p :: Rs) H _ k d1 xs w vs z k2 d2 g2 hl eo
            have hb : b ≠ p := e2 p List.mem_cons_self
            have h3 : upd H b ob p = some (.dK kvs) := by rw [upd_ne (fun e => hb e.symm)]; exact h1
            have g4 : Good K (p :: Rs) (upd H b ob) ((min k k2, d2, w) :: (z.1, z.2, u) :: (its (min k k2) ((ks.map (·.2)).eraseIdx n) ((kvs.map (·.2)).eraseIdx n) ++ L)) :=
              g3.weak (.cons (Nat.min_le_right _ _) (.cons (Nat.le_refl _) (Wk.append (Wk.its (Nat.min_le_left _ _) _ _) (Wk.refl L))))
            have g5 : Good K (p :: Rs) (upd H b ob) (its (min k k2) ((setK ks kk d2).map (·.2)) (kvs.map (·.2)) ++ ((z.1, z.2, u) :: L)) := g4.perm (by
              have p1 := its_set (k := min k k2) (y := d2) (u := w) h2 (by rw [h2]; exact hn)
              rw [set_same hw] at p1
              rw [(q4 d2).1]
              exact ((List.perm_middle (l₁ := (min k k2, d2, w) :: its (min k k2) ((ks.map (·.2)).eraseIdx n) ((kvs.map (·.2)).eraseIdx n)) (a := (z.1, z.2, u)) (l₂ := L)).trans (.swap _ _ _)).symm.trans (p1.append_right _))
            refine ⟨u, b, ob, fun q hq => e2 q (List.mem_cons_of_mem _ hq), Good.dicO h3 (by rw [(q4 d2).2]; exact hk) g5, fun Q q => ?_⟩
            obtain ⟨u', f1, f2⟩ := f Q q
            exact ⟨u', ⟨p, kvs, w, rfl, h1, q1, f1⟩, f2⟩
      | _ => cases e0
/-- d[k] = e, as a change -/
def moPut (kk : Key) : MO := fun k d xs => match k, d, xs with
  | k + 1, .dic ks, [x] => if (ks.map (·.1)).Nodup ∧ ks.length < lineN then some ((9, .non), min k x.1 + 1, .dic (setK ks kk x.2)) else none
  | _, _, _ => none
theorem setK_none {α : Type} {κ : Type} [DecidableEq κ] {kk : κ} {a : α} : ∀ {ks : List (κ × α)}, lookK ks kk = none → setK ks kk a = ks ++ [(kk, a)]
  | [], _ => rfl
  | (j, b) :: r, h => by
    unfold lookK at h
    unfold setK
    by_cases e : j = kk
    · rw [if_pos e] at h; cases h
    · rw [if_neg e] at h ⊢; rw [setK_none h]; rfl
theorem m_put {kk : Key} : MutOp K (fun o vs H Q => ∃ v a H4, vs = [v] ∧ o = .ref a ∧ DPut H a (kV kk) v H4 ∧ Q .non H4) (moPut kk) := by
  intro Rs H L k d xs v vs z k' d' g hl e
  unfold moPut at e
  split at e
  · rename_i k ks x
    by_cases hz : (ks.map (·.1)).Nodup ∧ ks.length < lineN
    · rw [if_pos hz] at e
      cases e
      match vs, hl with
      | [w], _ =>
        have g1 : Good K Rs H ((k + 1, .dic ks, v) :: (x.1, x.2, w) :: L) := g
        obtain ⟨p, kvs, rfl, h1, hk, g2⟩ := g1.dicO_inv
        have h2 : (ks.map (·.2)).length = (kvs.map (·.2)).length := by simpa using (congrArg List.length hk).symm
        have hl2 : kvs.length = ks.length := by simpa using congrArg List.length hk
        have ep : putK kvs kk w = setK kvs kk w := putK_set (by rw [hk]; exact hz.1)
        have dp : DPut H p (kV kk) w (upd H p (.dK (setK kvs kk w))) := by
          rw [← ep]
          exact DPut.k h1 (by rw [lineE, hl2]; exact hz.2)
        refine ⟨.non, p, .dK (setK kvs kk w), rfl, nodup_res g2, ?_, fun Q q => ⟨w, p, _, rfl, rfl, dp, q⟩⟩
        have key : Good K (p :: Rs) H (its (min k x.1) ((setK ks kk x.2).map (·.2)) ((setK kvs kk w).map (·.2)) ++ L) ∧ (setK kvs kk w).map (·.1) = (setK ks kk x.2).map (·.1) := by
          cases ex : lookK ks kk with
          | none =>
            rw [setK_none ex, setK_none (lookK_none hk ex), List.map_append, List.map_append, List.map_append, List.map_append, hk]
            exact ⟨its_both (k1 := k) (k2 := x.1) h2 (Nat.min_le_left _ _) (Nat.min_le_right _ _) g2, rfl⟩
          | some d1 =>
            obtain ⟨n, w1, q1, q2, hw, q4, q5, q6⟩ := lookK_at hk ex
            have hn : n < (kvs.map (·.2)).length := (List.getElem?_eq_some_iff.mp hw).1
            have g3 := (g2.perm ((its_at h2 q2 hw).append_right _)).tail
            have g4 : Good K (p :: Rs) H ((x.1, x.2, w) :: (its k ((ks.map (·.2)).eraseIdx n) ((kvs.map (·.2)).eraseIdx n) ++ L)) := g3.perm List.perm_middle
            have g5 : Good K (p :: Rs) H ((min k x.1, x.2, w) :: (its (min k x.1) ((ks.map (·.2)).eraseIdx n) ((kvs.map (·.2)).eraseIdx n) ++ L)) :=
              g4.weak (.cons (Nat.min_le_right _ _) (Wk.append (Wk.its (Nat.min_le_left _ _) _ _) (Wk.refl L)))
            have e3 := q6 w
            rw [(q4 x.2).1, e3]
            refine ⟨g5.perm ((its_set (k := min k x.1) (y := x.2) (u := w) h2 (by rw [h2]; exact hn)).append_right L), ?_⟩
            rw [setK_keys, setK_keys, hk]
        exact ((Good.dicO upd_same key.2 (key.1.wr (by rw [h1]; exact True.intro))).non (k := 9)).perm (.swap _ _ _)
    · rw [if_neg hz] at e; cases e
  · cases e
end
end Vs
set_option Elab.async false
set_option linter.all false
set_option maxRecDepth 100000
set_option maxHeartbeats 2000000
/-! Vs10: methods of a list at a place, stores at a place, displays of dicts. -/
namespace Vs
open PySem PySem.Spec PyProof.Rows L2

/-! ### still rows -/
def qRow : List (Rho → Option D) → Rho → Option (List D)
  | [], _ => some []
  | m :: ms, ρ => match m ρ, qRow ms ρ with
    | some d, some ds => if d.isS then some (d :: ds) else none
    | _, _ => none
def tQs (K : PySem.W.Frag) (ms : List (Rho → Option D)) : TA := fun σ H Q => ∃ ρ T, Rel K H ρ σ T ∧ ∃ ds, qRow ms ρ = some ds ∧ Q (ds.map D.sv) H
section
variable {X : Cx} {W : Wish} {P : Sg → Prop} {e ea eb : Expr} {es : List Expr} {pos p1 apos cpos : Pos} {mp : M Place} {b : Rho → Option D} {bs : List (Rho → Option D)} {k : Nat} {name : Str} {id : String} {r : V → List V → Hp → VK → Prop} {o : MO}
theorem qs_nil : PA X [] (tQs X.K []) := PA.imp pa_nil fun σ H Q ⟨ρ, T, rel, ds, e, q⟩ => by cases e; exact q
theorem qs_cons (h : PE X e (tQ X.K b)) (hs : PA X es (tQs X.K bs)) (he : starEach (e :: es) X.env = (false, eval e X.env) :: starEach es X.env := by rfl) : PA X (e :: es) (tQs X.K (b :: bs)) := by
  refine PA.imp (pa_cons h hs he) fun σ H Q ⟨ρ, T, rel, ds, e, q⟩ => ?_
  unfold qRow at e
  cases e1 : b ρ with
  | none => rw [e1] at e; simp at e
  | some d =>
    cases e2 : qRow bs ρ with
    | none => rw [e1, e2] at e; simp at e
    | some ds' =>
      rw [e1, e2] at e
      simp only at e
      by_cases s : d.isS = true
      · rw [if_pos s] at e
        cases e
        exact ⟨ρ, T, rel, d, e1, s, ρ, T, rel, ds', e2, q⟩
      · rw [if_neg s] at e; cases e
theorem qRow_s : ∀ {ms : List (Rho → Option D)} {ρ : Rho} {ds : List D}, qRow ms ρ = some ds → ds.all D.isS = true
  | [], _, _, e => by cases e; rfl
  | m :: ms, ρ, ds, e => by
    unfold qRow at e
    cases e1 : m ρ with
    | none => rw [e1] at e; simp at e
    | some d =>
      cases e2 : qRow ms ρ with
      | none => rw [e1, e2] at e; simp at e
      | some ds' =>
        rw [e1, e2] at e
        simp only at e
        by_cases s : d.isS = true
        · rw [if_pos s] at e
          cases e
          rw [List.all_cons, s, qRow_s e2]
          rfl
        · rw [if_neg s] at e; cases e
theorem Fol.det {H : Hp} : ∀ {π : List Step} {r u w : V}, Fol H r π u → Fol H r π w → u = w
  | [], _, _, _, a, b => by cases a; cases b; rfl
  | .ix n :: π, _, _, _, ⟨p, ws, x, e, h1, h2, f⟩, ⟨p', ws', x', e', h1', h2', f'⟩ => by
    subst e
    cases e'
    rw [h1] at h1'; cases h1'
    rw [h2] at h2'; cases h2'
    exact Fol.det f f'
  | .ky n :: π, _, _, _, ⟨p, ws, x, e, h1, h2, f⟩, ⟨p', ws', x', e', h1', h2', f'⟩ => by
    subst e
    cases e'
    rw [h1] at h1'; cases h1'
    rw [h2] at h2'; cases h2'
    exact Fol.det f f'
theorem scal_row {K : PySem.W.Frag} {H : Hp} {Rs : List Addr} {L : List Item} : ∀ {ds : List D}, ds.all D.isS = true → Good K Rs H L → Good K Rs H (itemsOf (ds.map fun d => ((9, d) : LD)) (ds.map D.sv) ++ L)
  | [], _, g => g
  | d :: ds, h, g => by
    rw [List.all_cons, Bool.and_eq_true] at h
    exact (scal_row h.2 g).scal h.1

/-! ### x.append(e) ..., x a place, e still -/
def isL : Option D → Bool
  | some (.lst _) => true
  | _ => false
/-- a change at a place, on values -/
def atP (o : MO) (jp : Place) (xs : List LD) (ρ : Rho) : R LD := match ρ[jp.1]? with
  | some (.c k d) => match liftP o jp.2 k d xs with
    | some (z, k', d') => .ok z (ρ.set jp.1 (.c k' d'))
    | none => .no
  | _ => .no
def mutP (o : MO) (mp : M Place) (bs : List (Rho → Option D)) : M LD := mp.bind fun jp ρ => match ρ[jp.1]?, qRow bs ρ with
  | some (.c _ d), some ds => if isL (subT d jp.2) then atP o jp (ds.map fun d => (9, d)) ρ else .no
  | _, _ => .no
theorem atP_run (ho : MutOp X.K r o) {σ : Sg} {T : List Item} {ρ1 : Rho} {H1 : Hp} {xs : List LD} {vs : List V} {rt v : V} {j : Nat} {π : List Step} {Q : VK} {Wt : Wish} (hv : σ[j]? = some (some rt)) (hf : Fol H1 rt π v) (hl : xs.length = vs.length) (r1 : Rel X.K H1 ρ1 σ (itemsOf xs vs ++ T))
    (q : Aft Wt T (atP o (j, π) xs ρ1) fun z ρ' => ∀ u H', Rel X.K H' ρ' σ ((z.1, z.2, u) :: T) → Q u H') : r v vs H1 Q := by
  unfold atP at q
  cases e1 : ρ1[j]? with
  | none => simp only [e1] at q; exact q.elim
  | some c =>
    cases c with
    | u => simp only [e1] at q; exact q.elim
    | c k d =>
      simp only [e1] at q
      cases e2 : liftP o π k d xs with
      | none => rw [e2] at q; exact q.elim
      | some zz =>
        obtain ⟨z, k', d'⟩ := zz
        rw [e2] at q
        obtain ⟨L, c, g⟩ := r1.move2 e1 hv
        have g' : Good X.K [] H1 ((k, d, rt) :: (itemsOf xs vs ++ (T ++ L))) := by
          rw [List.cons_append, List.append_assoc] at g
          exact g
        obtain ⟨u, b, ob, _, g2, f⟩ := m_at ho π [] H1 (T ++ L) k d xs rt vs z k' d' g' hl e2
        obtain ⟨v', f1, f2⟩ := f Q (q u _ (by
          have r2 : Rel X.K (upd H1 b ob) (ρ1.set j .u) σ ((k', d', rt) :: (z.1, z.2, u) :: T) := ⟨L, c, g2⟩
          have r3 := r2.back (getElem?_set_u e1) hv
          rwa [set_set_c] at r3))
        obtain rfl := Fol.det hf f1
        exact f2
theorem v_mutP (slot : Slot "list" name id) (hty : typeOf (.builtin id) = pure (.type "method_descriptor")) (hm : MtR X id r) (ho : MutOp X.K r o) (hn : PE X ea (tPl X.K W mp)) (ha : PA X (e :: es) (tQs X.K bs))
    (hbase : attributeBase ea name X.env (eval ea X.env) = eval ea X.env := by rfl)
    (hfew : ((backTo cpos (starEach (e :: es) X.env)).all (fun x => !x.1) && (backToKw cpos (keywordEach [] X.env)).all (fun x => x.1.isSome)
      && decide ((e :: es).length + ([] : List Keyword).length + (if ([] : List Keyword).isEmpty then 0 else 1) < 30)) = true := by rfl)
    (hline : (apos.endLine == cpos.line) = true := by rfl) (hs : starEach (e :: es) X.env = (false, eval e X.env) :: starEach es X.env := by rfl) (hplain : (backTo cpos (starEach es X.env)).any (·.1) = false := by rfl) :
    PE X (.Call (.Attribute ea name apos) (e :: es) [] cpos) (tV X.K W (mutP o mp bs)) := by
  refine PE.imp (pe_bm PySem.F.plainAttrs_list slot hty hm hn ha hbase hfew hline hs hplain) fun σ H Q ⟨ρ, T, rel, a⟩ => ?_
  refine ⟨ρ, T, rel, a.bind.imp fun jp ρ1 q1 v H1 r1 ⟨rt, hrt, f⟩ => ?_⟩
  obtain ⟨j, π⟩ := jp
  cases ec : ρ1[j]? with
  | none => simp only [ec] at q1; exact q1.elim
  | some c =>
    cases c with
    | u => simp only [ec] at q1; exact q1.elim
    | c k d =>
      cases eq : qRow bs ρ1 with
      | none => simp only [ec, eq] at q1; exact q1.elim
      | some ds =>
        simp only [ec, eq] at q1
        by_cases hL : isL (subT d π) = true
        · rw [if_pos hL] at q1
          obtain ⟨r', hr', kd⟩ := r1.kd ec
          rw [hrt] at hr'
          cases hr'
          cases es : subT d π with
          | none => rw [es] at hL; cases hL
          | some d1 =>
            cases d1 with
            | lst xs =>
              obtain ⟨p, ws, rfl, h1, _⟩ := (KD.sub (d := d) (r := rt) kd f es).lst
              refine ⟨.inl ⟨rfl, ws, SqL.of h1⟩, ρ1, T, r1, ds, eq, ?_⟩
              have rs : Rel X.K H1 ρ1 σ (itemsOf (ds.map fun d => ((9, d) : LD)) (ds.map D.sv) ++ T) := r1.good fun L g => by
                rw [List.append_assoc]
                exact scal_row (qRow_s eq) g
              exact atP_run ho hrt f (by simp) rs q1
            | _ => rw [es] at hL; cases hL
        · rw [if_neg hL] at q1; exact q1.elim
theorem v_mutP0 (slot : Slot "list" name id) (hty : typeOf (.builtin id) = pure (.type "method_descriptor")) (hm : MtR X id r) (ho : MutOp X.K r o) (hn : PE X ea (tPl X.K W mp))
    (hbase : attributeBase ea name X.env (eval ea X.env) = eval ea X.env := by rfl) (hline : (apos.endLine == cpos.line) = true := by rfl) :
    PE X (.Call (.Attribute ea name apos) [] [] cpos) (tV X.K W (mutP o mp [])) := by
  refine PE.imp (pe_bm0 PySem.F.plainAttrs_list slot hty hm hn hbase hline) fun σ H Q ⟨ρ, T, rel, a⟩ => ?_
  refine ⟨ρ, T, rel, a.bind.imp fun jp ρ1 q1 v H1 r1 ⟨rt, hrt, f⟩ => ?_⟩
  obtain ⟨j, π⟩ := jp
  cases ec : ρ1[j]? with
  | none => simp only [ec] at q1; exact q1.elim
  | some c =>
    cases c with
    | u => simp only [ec] at q1; exact q1.elim
    | c k d =>
      simp only [ec, qRow] at q1
      by_cases hL : isL (subT d π) = true
      · rw [if_pos hL] at q1
        obtain ⟨r', hr', kd⟩ := r1.kd ec
        rw [hrt] at hr'
        cases hr'
        cases es : subT d π with
        | none => rw [es] at hL; cases hL
        | some d1 =>
          cases d1 with
          | lst xs =>
            obtain ⟨p, ws, rfl, h1, _⟩ := (KD.sub (d := d) (r := rt) kd f es).lst
            exact ⟨.inl ⟨rfl, ws, SqL.of h1⟩, atP_run (xs := []) (vs := []) ho hrt f rfl r1 q1⟩
          | _ => rw [es] at hL; cases hL
      · rw [if_neg hL] at q1; exact q1.elim

/-! ### place[i] = e -/
def rSetX : V → V → V → Hp → (Hp → Prop) → Prop := fun o i v H Q => rSetL o i v H Q ∨ ∃ a H4, o = .ref a ∧ DPut H a i v H4 ∧ Q H4
theorem set_any (hu : X.A.units + 1 < cLine) : PSet X rSetX := by
  intro pins s σ H o i v ov iv u Q I ro ri rv h
  rcases h with h | ⟨a, H4, rfl, g, q⟩
  · exact set_list pins s σ H o i v ov iv u Q I ro ri rv h
  · cases ro
    exact d_setItem hu I g ri rv fun s4 I4 => ⟨H4, I4, q⟩
def putO (d : Option D) (y : D) : Option MO := match d, y with
  | some (.lst _), .int i => some (moSet i)
  | some (.dic _), .int i => some (moPut (Sum.inl i))
  | some (.dic _), .str x => some (moPut (Sum.inr x))
  | _, _ => none
def gAt (mp : M Place) (b : Rho → Option D) : G := fun y ρ => match mp ρ with
  | .ok (j, π) ρ1 => match ρ1[j]?, b ρ1 with
    | some (.c k d), some i => match putO (subT d π) i with
      | some o => match liftP o π k d [y] with
        | some (_, k', d') => some (ρ1.set j (.c k' d'))
        | none => none
      | none => none
    | _, _ => none
  | _ => none
theorem g_at (hr : Room k X.A) (hn : PE X ea (tPl X.K W0 mp)) (hi : PE X eb (tQ X.K b))
    (ha : ∀ v, assign (.Subscript ea eb pos) X.env v = (do
      let ov ← holding [v] (eval ea X.env)
      let iv ← holding [v, ov] (eval eb X.env)
      standAt pos
      holding [v, ov, iv] (setItem ov iv v)
      release [v, ov, iv] []) := by intro _; rfl) : PG X (.Subscript ea eb pos) (tG X.K P (gAt mp b)) := by
  refine PG.imp (pg_sub hn hi (set_any (hu_of hr)) ha) fun w σ H Q ⟨y, ρ, T, rel, p, ρ', e, q⟩ => ?_
  unfold gAt at e
  cases em : mp ρ with
  | no => rw [em] at e; cases e
  | ex _ _ => rw [em] at e; cases e
  | ok jp ρ1 =>
    obtain ⟨j, π⟩ := jp
    rw [em] at e
    simp only at e
    refine ⟨ρ, _, rel, ?_⟩
    rw [em]
    intro v H1 r1 ⟨rt, hrt, f⟩
    cases ec : ρ1[j]? with
    | none => rw [ec] at e; simp at e
    | some c =>
      cases c with
      | u => rw [ec] at e; simp at e
      | c k d =>
        cases ei : b ρ1 with
        | none => rw [ec, ei] at e; simp at e
        | some i =>
          rw [ec, ei] at e
          simp only at e
          cases eo : putO (subT d π) i with
          | none => rw [eo] at e; cases e
          | some o =>
            rw [eo] at e
            simp only at e
            cases el : liftP o π k d [y] with
            | none => rw [el] at e; cases e
            | some zz =>
              obtain ⟨z, k', d'⟩ := zz
              rw [el] at e
              cases e
              have fin : ∀ {r : V → List V → Hp → VK → Prop}, i.isS = true → MutOp X.K r o → (∀ Q : Hp → Prop, r v [w] H1 (fun _ H' => Q H') → rSetX v i.sv w H1 Q) → tQ X.K b σ H1 fun i H2 => rSetX v i w H2 fun H3 => Q σ H3 := fun {r} si hm hs => by
                refine ⟨ρ1, _, r1, i, ei, si, hs _ ?_⟩
                refine atP_run (X := X) (o := o) (j := j) (π := π) (ρ1 := ρ1) (xs := [y]) (vs := [w]) (T := T) (Wt := W0) hm hrt f rfl r1 ?_
                unfold atP
                simp only [ec, el]
                exact fun u H' r' => q σ H' r'.drop p
              unfold putO at eo
              split at eo
              · cases eo
                exact fin rfl m_set fun Q h => by
                  obtain ⟨v', ev, hset⟩ := h
                  cases ev
                  exact .inl hset
              · cases eo
                exact fin rfl m_put fun Q h => by
                  obtain ⟨v', a, H4, ev, eo, dp, q⟩ := h
                  cases ev
                  exact .inr ⟨a, H4, eo, dp, q⟩
              · cases eo
                exact fin rfl m_put fun Q h => by
                  obtain ⟨v', a, H4, ev, eo, dp, q⟩ := h
                  cases ev
                  exact .inr ⟨a, H4, eo, dp, q⟩
              · cases eo

/-! ### displays of dicts -/
def rowM : List (M LD) → M (List LD)
  | [] => noVs
  | m :: ms => consV m (rowM ms)
def dispD (ks : List Key) (ms : List (M LD)) : M LD := (rowM ms).bind fun xs ρ => if xs.length = ks.length then .ok (up (lvl xs), .dic (ks.zip (xs.map (·.2)))) ρ else .no
def trsOf (K : PySem.W.Frag) (W : Wish) (ks : List Key) (ms : List (M LD)) : List (TE × TE) := (ks.zip ms).map fun q => (tC (kV q.1), tV K W q.2)
theorem pairs_run {K : PySem.W.Frag} : ∀ {ks : List Key} {ms : List (M LD)} {σ : Sg} {H : Hp} {Q : List (V × V) → Hp → Prop}, ks.length = ms.length →
    (∃ ρ T, Rel K H ρ σ T ∧ Aft W T (rowM ms ρ) fun xs ρ' => ∀ vs H', xs.length = vs.length → Rel K H' ρ' σ (itemsOf xs vs ++ T) → Q ((ks.map kV).zip vs) H') → tPairs (trsOf K W ks ms) σ H Q
  | [], [], σ, H, Q, _, ⟨ρ, T, rel, a⟩ => a [] H rfl rel
  | [], _ :: _, _, _, _, h, _ => by simp at h
  | _ :: _, [], _, _, _, h, _ => by simp at h
  | k :: ks, m :: ms, σ, H, Q, hl, ⟨ρ, T, rel, a⟩ => by
    show tC (kV k) σ H _
    refine ⟨ρ, T, rel, a.bind.imp fun x ρ1 q1 v H1 r1 => ?_⟩
    refine pairs_run (by simpa using hl) ⟨ρ1, _, r1, (q1.bind.up).imp fun xs ρ2 q2 vs H2 hl2 r2 => ?_⟩
    refine q2 (v :: vs) H2 (by simp [hl2]) (r2.good fun L g => g.perm ?_)
    exact List.perm_middle.append_right L
theorem v_disp {keys : List (Option Expr)} {values : List Expr} {ks : List Key} {ms : List (M LD)} (h : PPs X pos keys values (trsOf X.K W ks ms)) (hk : ks.length = ms.length) (nd : ks.Nodup) (h15 : ks.length ≤ 15)
    (hall : keys.all (·.isSome) = true := by rfl) (hl : keys.length = values.length := by rfl) (h0 : keys ≠ [] := by exact List.cons_ne_nil _ _) (hz : keys.length ≤ 15 := by decide) : PE X (.Dict keys values pos) (tV X.K W (dispD ks ms)) := by
  refine PE.imp (pe_disp h hall hl h0 hz) fun σ H Q ⟨ρ, T, rel, a⟩ p hp => ?_
  have r0 : Rel X.K (upd H p (.dK [])) ρ σ ((8 + 1, .dic [], .ref p) :: T) := rel.good fun L g => Good.newD (k := 8) (ks := []) (kvs := []) g rfl hp
  refine pairs_run hk ⟨ρ, _, r0, (a.bind.up).imp fun xs ρ1 q1 vs H1 hl1 r1 => ?_⟩
  by_cases hx : xs.length = ks.length
  · rw [if_pos hx] at q1
    obtain ⟨L, c, g⟩ := r1
    have g1 : Good X.K [] H1 ((8 + 1, .dic [], .ref p) :: (itemsOf xs vs ++ (T ++ L))) := g.perm (by
      rw [List.append_assoc, List.cons_append]
      exact List.perm_middle)
    obtain ⟨p', kvs, e1, h1, h2, g2⟩ := g1.dicO_inv
    cases e1
    have hkv : kvs = [] := by
      cases kvs with
      | nil => rfl
      | cons a b => simp at h2
    subst hkv
    have hv : ks.length = vs.length := by rw [← hx, hl1]
    have ez : (ks.zip vs).map (·.1) = ks := by rw [List.map_fst_zip]; omega
    refine ⟨h1, ks.zip vs, ?_, by rw [List.length_zip]; omega, ?_⟩
    · rw [List.zip_map_left]
      rfl
    · rw [mergeK_id (ks.zip vs) [] (by rw [List.nil_append, ez]; exact nd), List.nil_append]
      refine q1 (.ref p) _ ⟨L, c, ?_⟩
      have g3 : Good X.K [p] H1 (its (min (lvl xs) 8) (xs.map (·.2)) vs ++ (T ++ L)) := Good.row (xs := xs) (k := min (lvl xs) 8) g2 (Nat.min_le_left _ _)
      refine Good.dicO upd_same ?_ ((Good.wr (o := .dK (ks.zip vs)) ?_ (by rw [h1]; exact True.intro)))
      · rw [ez, List.map_fst_zip]; simp; omega
      · have e2 : (ks.zip (xs.map (·.2))).map (·.2) = xs.map (·.2) := by rw [List.map_snd_zip]; simp; omega
        have e3 : (ks.zip vs).map (·.2) = vs := by rw [List.map_snd_zip]; omega
        rw [e2, e3]
        exact g3
  · rw [if_neg hx] at q1; exact q1.elim
theorem pp_nil : PPs X pos [] [] (trsOf X.K W [] []) := pps_nil
theorem pp_str {x : Str} {j : Nat} {kp : Pos} {v : Expr} {keys : List (Option Expr)} {vs : List Expr} {ks : List Key} {m : M LD} {ms : List (M LD)} (h : PE X v (tV X.K W m)) (hr : PPs X pos keys vs (trsOf X.K W ks ms)) :
    PPs X pos (some (.Constant (.str x) j kp) :: keys) (v :: vs) (trsOf X.K W (Sum.inr x :: ks) (m :: ms)) := pps_cons pe_str h hr
theorem pp_int {x : Int} {j : Nat} {kp : Pos} {v : Expr} {keys : List (Option Expr)} {vs : List Expr} {ks : List Key} {m : M LD} {ms : List (M LD)} (h : PE X v (tV X.K W m)) (hr : PPs X pos keys vs (trsOf X.K W ks ms)) :
    PPs X pos (some (.Constant (.int x) j kp) :: keys) (v :: vs) (trsOf X.K W (Sum.inl x :: ks) (m :: ms)) := pps_cons pe_int h hr
end
end Vs
set_option Elab.async false
set_option linter.all false
set_option maxRecDepth 100000
set_option maxHeartbeats 2000000
/-! Vs11: zip of two rows, enumerate of a row: lists and tuples in any mixture. -/
namespace Vs
open PySem PySem.Spec PyProof.Rows L2

/-- a row: a list (true) or a tuple -/
def SqB (K : PySem.W.Frag) (H : Hp) : Bool → Addr → List V → Prop
  | true, a, xs => SqL K H a xs
  | false, a, xs => SqT K H a xs
def ItB (h : Heap) : Bool → Addr → Addr → Nat → Prop
  | true, it, a, i => h.IsListIter it a i
  | false, it, a, i => h.IsTupleIter it a i
def HoB (h : Heap) : Bool → Addr → Array Value → Prop
  | true, a, xs => h.IsList a xs
  | false, a, xs => h.IsTuple a xs
def newI : Bool → Addr → Obj
  | true, a => { cls := .type "list_iterator", data := .fields #[.ref a, .int 0 0] }
  | false, a => { cls := .type "tuple_iterator", data := .fields #[.ref a, .int 0 0] }
theorem begB (b : Bool) (a : Addr) (xs : Array Value) : Begins (.ref a) (newI b a) fun h => HoB h b a xs := by
  cases b with
  | true => exact begins_list a xs
  | false => exact begins_tuple a xs
theorem drawB {prog : Program} {w : World} {A : Around} (hh : A.handled = none) (b : Bool) (it a : Addr) (hne : a ≠ it) (xs : Array Value) :
    Draws prog w A it [it, a] xs.size (fun i v => xs[i]? = some v) (fun i h => ItB h b it a i ∧ HoB h b a xs) := by
  cases b with
  | true => exact Draws.list hh it a hne xs
  | false => exact Draws.tuple hh it a hne xs
theorem iniB {h : Heap} (b : Bool) {it a : Addr} (e : h.get? it = some (newI b a)) : ItB h b it a 0 := by
  cases b with
  | true => exact ⟨_, e, rfl, rfl⟩
  | false => exact ⟨_, e, rfl, rfl⟩
theorem ItB.obj {h : Heap} {b : Bool} {it a : Addr} {i : Nat} (t : ItB h b it a i) : ∃ o vs, h.get? it = some o ∧ o.data = .fields vs := by
  cases b with
  | true => obtain ⟨o, e, _, d⟩ := t; exact ⟨o, _, e, d⟩
  | false => obtain ⟨o, e, _, d⟩ := t; exact ⟨o, _, e, d⟩
theorem ItB.at {h h' : Heap} {b : Bool} {it a : Addr} {i : Nat} (t : ItB h b it a i) (k : ∀ o, h.get? it = some o → h'.get? it = some o) : ItB h' b it a i := by
  cases b with
  | true => obtain ⟨o, e, c, d⟩ := t; exact ⟨o, k o e, c, d⟩
  | false => obtain ⟨o, e, c, d⟩ := t; exact ⟨o, k o e, c, d⟩
section
variable {X : Cx} {pins : List (Addr × Obj)} {σ : Sg} {H : Hp} {s : Shared}
theorem rowB (I : Inv X pins σ H s) {b : Bool} {a : Addr} {xs : List V} (h : SqB X.K H b a xs) : ∃ us : List Value, Vals xs us ∧ HoB s.heap b a us.toArray := by
  cases b with
  | true => obtain ⟨us, r, p, _⟩ := I.list h; exact ⟨us, r, p.isList⟩
  | false => obtain ⟨us, r, p, _⟩ := I.tuple h; exact ⟨us, r, p⟩
theorem injB (I : Inv X pins σ H s) {b : Bool} {a : Addr} {xs ys : List V} (h : SqB X.K H b a xs) (h' : SqB X.K H b a ys) : xs = ys := by
  cases b with
  | true => exact I.list_inj h h'
  | false => exact I.tuple_inj h h'
theorem HoB.lt {h : Heap} {b : Bool} {a : Addr} {xs : Array Value} (t : HoB h b a xs) : a < h.objs.size := by
  cases b with
  | true => obtain ⟨o, e, _⟩ := t; exact Heap.lt_size e
  | false => obtain ⟨o, e, _⟩ := t; exact Heap.lt_size e
end

/-! ### enumerate -/
def Ien (K : PySem.W.Frag) (b : Bool) (a : Addr) : It :=
  ⟨fun i H => ∃ (xs : List V) (x : V), SqB K H b a xs ∧ xs[i]? = some x, fun i H v H' => ∃ T x, v = .ref T ∧ H T = none ∧ H' = upd H T (.tup [.int (i : Nat), x]) ∧ ∀ xs, SqB K H b a xs → xs[i]? = some x, fun i H => ∃ xs : List V, SqB K H b a xs ∧ xs.length = i⟩
theorem turn_en {P : Program} {w : World} {K : PySem.W.Frag} {elts : List Expr} {kk : Nat} {tpos : Pos} (b : Bool) (a e it : Addr) (hai : a ≠ it) (hea : e ≠ a) :
    Turn P w K (.Tuple elts kk tpos) (Ien K b a) [e, it] e (fun i h => (∃ old, IsEnum h e it ((i : Nat) : Int) old) ∧ ItB h b it a i ∧ e ≠ it) where
  mem := by simp
  obj := fun i h st c hc => by
    obtain ⟨⟨old, he⟩, hi, _⟩ := st
    obtain ⟨o, vs, ho, hd⟩ := hi.obj
    have ec : c = e ∨ c = it := by simpa using hc
    rcases ec with z | z
    · rw [z]; exact ⟨_, he, fun v q => nomatch q⟩
    · rw [z]; exact ⟨o, ho, fun v q => by rw [hd] at q; cases q⟩
  keep := fun i h h' st k => let ⟨⟨old, he⟩, hi, hne⟩ := st; ⟨⟨old, k e (by simp) _ he⟩, hi.at fun o q => k it (by simp) o q, hne⟩
  item := by
    intro X hP hw hK hc i pins s σ H E I hf st hg
    subst hP hw hK
    obtain ⟨⟨old, he⟩, hit, hne⟩ := st
    obtain ⟨xs, x, hq, hx⟩ := id hg
    obtain ⟨us, rv, ho⟩ := rowB I hq
    obtain ⟨u, hu, ru⟩ := rv.get hx
    have hel : e < s.heap.objs.size := Heap.lt_size he
    have hil : it < s.heap.objs.size := by obtain ⟨o, _, q, _⟩ := hit.obj; exact Heap.lt_size q
    have hlt : i < us.toArray.size := by rw [List.size_toArray]; exact (List.getElem?_eq_some_iff.mp hu).1
    refine wpAny_pyNext_enum_itemD (drawB (A := X.A.in1) (I.ok.hd hc) b it a hai us.toArray) he ⟨hit, ho⟩ hlt hne (by simp [hne, hea]) fun y h' tk hy hout hst hT hsz hk => ?_
    obtain rfl : y = u := by
      have hy' : us.toArray[i]? = some y := hy
      rw [List.getElem?_toArray, hu] at hy'
      exact (Option.some.inj hy').symm
    refine ⟨_, rfl, wpAny_letOwnedTupleGo_enum (s := { s with heap := h', toks := tk + 1 }) hout fun h'' he' sb => ?_⟩
    have hT2 : h''.get? s.heap.objs.size = some { cls := .type "tuple", data := .seq #[.int i tk, y] } := (sb.2 _ (Nat.ne_of_gt hel)).trans hT
    have new : ObjOk X.prog X.w (upd H s.heap.objs.size (.tup [.int (i : Nat), x])) h'' s.heap.objs.size (.tup [.int (i : Nat), x]) :=
      ⟨by show 2 ≤ sizeLine; decide, [.int i tk, y], .cons ⟨_, rfl⟩ (.cons ru .nil), ⟨_, hT2, rfl, _, rfl⟩⟩
    have I1 : Inv X pins σ (upd H s.heap.objs.size (.tup [.int (i : Nat), x])) { s with heap := h'', toks := tk + 1 } :=
      I.turnedNew (ch := [e, it]) (fun c ob hb q => (sb.2 c (fun z => hb (by simp [z]))).trans (hk c ob (fun z => hb (by simp [z])) (fun z => hb (by simp [z])) q)) hf (Nat.le_refl _) new
    refine ⟨.ref s.heap.objs.size, _, I1, rfl, ⟨_, x, rfl, I.hok.fresh (Nat.le_refl _), rfl, fun ys hy => by rw [injB I hy hq]; exact hx⟩, ⟨⟨y, ?_⟩, hst.1.at fun o q => (sb.2 it (Ne.symm hne)).trans q, hne⟩, fun c hc => ?_⟩
    · have e1 : ((i + 1 : Nat) : Int) = (i : Int) + 1 := by omega
      rw [e1]; exact he'
    · have hlc : c < s.heap.objs.size := by
        have ec : c = e ∨ c = it := by simpa using hc
        rcases ec with z | z
        · rw [z]; exact hel
        · rw [z]; exact hil
      rw [upd_ne (Nat.ne_of_lt hlc)]
      exact (hf c hc).1
  done := by
    intro X hP hw hK hc i pins s σ H E I hf st hg
    subst hP hw hK
    obtain ⟨⟨old, he⟩, hit, hne⟩ := st
    obtain ⟨xs, hq, hx⟩ := hg
    obtain ⟨us, rv, ho⟩ := rowB I hq
    obtain ⟨f0, f1, f2, f3, f4, f5⟩ := hf it (by simp)
    have hl := rv.length
    have hi : i = us.toArray.size := by rw [List.size_toArray, ← hl, hx]
    refine wpAny_pyNext_enum_endD (drawB (A := X.A.in1) (I.ok.hd hc) b it a hai us.toArray) he (by rw [← hi]; exact ⟨hit, ho⟩) fun h' eb => ⟨rfl, I.turned (t' := s.toks) (fun c o hb q => eb c o hb q) f0 f1 f3 f4 f5⟩
  self := fun A i s Q E st h => let ⟨⟨_, he⟩, _⟩ := st; wpAny_pyIter_enum he h
theorem new_enumB {v : Value} {o : Obj} {H : Heap → Prop} (B : Begins v o H) : Meets (Builtin.«enumerate.__new__» ⟨[.type "enumerate", v], []⟩) (fun _ R s => H s.heap ∧
      R (.ok (.ret (.ref (s.heap.push o).objs.size))) { s with heap := (s.heap.push o).push { cls := .type "enumerate", data := .fields #[.none, .bool false, .ref s.heap.objs.size, rawInt 0, .none, .none] } }) :=
  .of_wp fun prog w A R s h => by
    obtain ⟨hp, g, d, tk, os⟩ := s; obtain ⟨h1, h⟩ := h
    have hsub := sub_enumerate
    have q1 : ∀ {A' : Around} {E : Value → Shared → Prop} {Q : Value → Shared → Prop}, Q (.ref hp.objs.size) ⟨hp.push o, g, d, tk, os⟩ → wpAny (model prog w) A' (pyIter v) Q E ⟨hp, g, d, tk, os⟩ := fun q => B.iter prog w _ _ ⟨hp, g, d, tk, os⟩ _ h1 q
    wp_walk using q1
    refine wpAny_stack_any fun st => wpAny_pure ?_
    split
    · rename_i c _ _ _ _ _
      cases (c == Value.type "enumerate") <;> (wp_walk using q1; exact ⟨_, rfl, h⟩)
    · wp_walk using q1
      exact ⟨_, rfl, h⟩
theorem call_enumB {prog : Program} {w : World} {A : Around} {E : Value → Shared → Prop} {s : Shared} {b : Bool} {a : Addr} {xs : Array Value} {Q : Value → Shared → Prop} (ho : HoB s.heap b a xs)
    (h : ∀ h', IsEnum h' (s.heap.objs.size + 1) s.heap.objs.size 0 .none → ItB h' b s.heap.objs.size a 0 → h'.objs.size = s.heap.objs.size + 2 →
      (∀ c o, s.heap.get? c = some o → h'.get? c = some o) → Q (.ref (s.heap.objs.size + 1)) { s with heap := h' }) :
    wpAny (model prog w) A (call (.type "enumerate") [.ref a]) Q E s := by
  have B := begB b a xs
  refine callType_new F.called_enumerate (by decide) (F.typeCall_enumerate_1 _) (F.newCall_enumerate_1 _) (fun obj => F.args_object_init_2 obj _) F.entry_enumerate_new (new_enumB B) ⟨ho, ?_⟩
  have hz : (s.heap.push (newI b a)).objs.size = s.heap.objs.size + 1 := Heap.size_push ..
  show _ ∧ _
  rw [hz]
  have he : IsEnum ((s.heap.push (newI b a)).push { cls := .type "enumerate", data := .fields #[.none, .bool false, .ref s.heap.objs.size, rawInt 0, .none, .none] }) (s.heap.objs.size + 1) s.heap.objs.size 0 .none := by
    have q := Heap.get?_push_size (s.heap.push (newI b a)) (o := { cls := .type "enumerate", data := .fields #[.none, .bool false, .ref s.heap.objs.size, rawInt 0, .none, .none] }) rfl
    rw [hz] at q
    exact q
  exact ⟨⟨_, he, rfl⟩, h _ he (iniB b (Heap.get?_push_of_some _ (Heap.get?_push_size _ B.free))) (by rw [Heap.size_push, hz]) fun c o x => Heap.get?_push_of_some _ (Heap.get?_push_of_some _ x)⟩

/-! ### zip of two -/
def Izi (K : PySem.W.Frag) (b1 b2 : Bool) (a1 a2 : Addr) : It :=
  ⟨fun i H => ∃ (xs ys : List V) (x y : V), SqB K H b1 a1 xs ∧ SqB K H b2 a2 ys ∧ xs[i]? = some x ∧ ys[i]? = some y,
    fun i H v H' => ∃ T x y, v = .ref T ∧ H T = none ∧ H' = upd H T (.tup [x, y]) ∧ (∀ xs, SqB K H b1 a1 xs → xs[i]? = some x) ∧ ∀ ys, SqB K H b2 a2 ys → ys[i]? = some y,
    fun i H => ∃ xs ys : List V, SqB K H b1 a1 xs ∧ SqB K H b2 a2 ys ∧ i = min xs.length ys.length⟩
theorem turn_zi {P : Program} {w : World} {K : PySem.W.Frag} {elts : List Expr} {kk : Nat} {tpos : Pos} {b1 b2 : Bool} {a1 a2 z TI TO i1 i2 : Addr} (D : ZipSep2 z TI TO i1 i2 [i1, a1] [i2, a2]) (n1 : a1 ≠ i1) (n2 : a2 ≠ i2) :
    Turn P w K (.Tuple elts kk tpos) (Izi K b1 b2 a1 a2) [z, TI, TO, i1, i2] z (fun i h => IsZip h z TI TO .none ∧ IsTupOf2 h TI (.ref i1) (.ref i2) ∧ (∃ x y, IsTupOf2 h TO x y) ∧ ItB h b1 i1 a1 i ∧ ItB h b2 i2 a2 i) where
  mem := by simp
  obj := fun i h st c hc => by
    obtain ⟨hz, hTI, ⟨x, y, hTO⟩, t1, t2⟩ := st
    obtain ⟨o1, v1, e1, d1⟩ := t1.obj
    obtain ⟨o2, v2, e2, d2⟩ := t2.obj
    have ec : c = z ∨ c = TI ∨ c = TO ∨ c = i1 ∨ c = i2 := by simpa using hc
    rcases ec with q | q | q | q | q
    · rw [q]; exact ⟨_, hz, fun v q => nomatch q⟩
    · rw [q]; exact ⟨_, hTI, fun v q => nomatch q⟩
    · rw [q]; exact ⟨_, hTO, fun v q => nomatch q⟩
    · rw [q]; exact ⟨o1, e1, fun v q => by rw [d1] at q; cases q⟩
    · rw [q]; exact ⟨o2, e2, fun v q => by rw [d2] at q; cases q⟩
  keep := fun i h h' st k => by
    obtain ⟨hz, hTI, ⟨x, y, hTO⟩, t1, t2⟩ := st
    exact ⟨k z (by simp) _ hz, k TI (by simp) _ hTI, ⟨x, y, k TO (by simp) _ hTO⟩, t1.at fun o q => k i1 (by simp) o q, t2.at fun o q => k i2 (by simp) o q⟩
  item := by
    intro X hP hw hK hc i pins s σ H E I hf st hg
    subst hP hw hK
    obtain ⟨hz, hTI, ⟨x0, y0, hTO⟩, t1, t2⟩ := st
    obtain ⟨xs, ys, x, y, hqx, hqy, hx, hy⟩ := id hg
    obtain ⟨us, rv, ho⟩ := rowB I hqx
    obtain ⟨us2, rv2, ho2⟩ := rowB I hqy
    obtain ⟨u, hu, ru⟩ := rv.get hx
    obtain ⟨u2, hu2, ru2⟩ := rv2.get hy
    have hzl : z < s.heap.objs.size := Heap.lt_size hz
    have l1 : i < us.toArray.size := by rw [List.size_toArray]; exact (List.getElem?_eq_some_iff.mp hu).1
    have l2 : i < us2.toArray.size := by rw [List.size_toArray]; exact (List.getElem?_eq_some_iff.mp hu2).1
    refine wpAny_pyNext_zipD2_item D (drawB (A := X.A.in1) (I.ok.hd hc) b1 i1 a1 n1 us.toArray) (drawB (A := X.A.in1) (I.ok.hd hc) b2 i2 a2 n2 us2.toArray) hz hTI hTO ⟨t1, ho⟩ ⟨t2, ho2⟩ l1 l2 fun y1 y2 h' tk p1 p2 z' TO' st1 st2 hT hsz hk => ?_
    obtain rfl : y1 = u := by
      have q : us.toArray[i]? = some y1 := p1
      rw [List.getElem?_toArray, hu] at q
      exact (Option.some.inj q).symm
    obtain rfl : y2 = u2 := by
      have q : us2.toArray[i]? = some y2 := p2
      rw [List.getElem?_toArray, hu2] at q
      exact (Option.some.inj q).symm
    refine ⟨_, rfl, wpAny_letOwnedTupleGo_zip (s := { s with heap := h', toks := tk }) z' fun h'' z'' sb => ?_⟩
    have hT2 : h''.get? s.heap.objs.size = some { cls := .type "tuple", data := .seq #[y1, y2] } := (sb.2 _ (Nat.ne_of_gt hzl)).trans hT
    have new : ObjOk X.prog X.w (upd H s.heap.objs.size (.tup [x, y])) h'' s.heap.objs.size (.tup [x, y]) :=
      ⟨by show 2 ≤ sizeLine; decide, [y1, y2], .cons ru (.cons ru2 .nil), ⟨_, hT2, rfl, _, rfl⟩⟩
    have I1 : Inv X pins σ (upd H s.heap.objs.size (.tup [x, y])) { s with heap := h'', toks := tk } :=
      I.turnedNew (t' := tk) (ch := [z, TI, TO, i1, i2]) (fun c o hb q => (sb.2 c (fun q' => hb (by simp [q']))).trans (hk c o (fun q' => hb (by simp [q'])) (fun q' => hb (by simp [q'])) (fun q' => hb (by simp [q'])) (fun q' => hb (by simp [q'])) q)) hf (Nat.le_refl _) new
    refine ⟨.ref s.heap.objs.size, _, I1, rfl, ⟨_, x, y, rfl, I.hok.fresh (Nat.le_refl _), rfl, fun l hl => by rw [injB I hl hqx]; exact hx, fun l hl => by rw [injB I hl hqy]; exact hy⟩, ⟨z'', ?_, ⟨y1, y2, ?_⟩, ?_, ?_⟩, fun c hcm => ?_⟩
    · exact (sb.2 _ D.TIz).trans (hk _ _ D.TIz D.TITO D.TIi1 D.TIi2 hTI)
    · exact (sb.2 _ D.TOz).trans TO'
    · exact st1.1.at fun o q => (sb.2 _ (Ne.symm D.zi1)).trans q
    · exact st2.1.at fun o q => (sb.2 _ (Ne.symm D.zi2)).trans q
    · have hlt : c < s.heap.objs.size := by
        have ec : c = z ∨ c = TI ∨ c = TO ∨ c = i1 ∨ c = i2 := by simpa using hcm
        rcases ec with q | q | q | q | q
        · rw [q]; exact hzl
        · rw [q]; exact Heap.lt_size hTI
        · rw [q]; exact Heap.lt_size hTO
        · rw [q]; obtain ⟨_, _, e1, _⟩ := t1.obj; exact Heap.lt_size e1
        · rw [q]; obtain ⟨_, _, e2, _⟩ := t2.obj; exact Heap.lt_size e2
      rw [upd_ne (Nat.ne_of_lt hlt)]
      exact (hf c hcm).1
  done := by
    intro X hP hw hK hc i pins s σ H E I hf st hg
    subst hP hw hK
    obtain ⟨hz, hTI, ⟨x0, y0, hTO⟩, t1, t2⟩ := st
    obtain ⟨xs, ys, hqx, hqy, hend⟩ := hg
    obtain ⟨us, rv, ho⟩ := rowB I hqx
    obtain ⟨us2, rv2, ho2⟩ := rowB I hqy
    have l1 := rv.length
    have l2 := rv2.length
    have s1 : us.toArray.size = xs.length := by rw [List.size_toArray, l1]
    have s2 : us2.toArray.size = ys.length := by rw [List.size_toArray, l2]
    refine wpAny_pyNext_zipD2_end D (drawB (A := X.A.in1) (I.ok.hd hc) b1 i1 a1 n1 us.toArray) (drawB (A := X.A.in1) (I.ok.hd hc) b2 i2 a2 n2 us2.toArray) hz hTI hTO ⟨t1, ho⟩ ⟨t2, ho2⟩ (by omega) (by omega) (by omega) fun h' tk hk => ⟨rfl, ?_⟩
    exact I.turnedL (t' := tk) (ch := [z, TI, TO, i1, i2]) (fun c o hb q => hk c o (fun q' => hb (by simp [q'])) (fun q' => hb (by simp [q'])) (fun q' => hb (by simp [q'])) (fun q' => hb (by simp [q'])) q) hf
  self := fun A i s Q E st h => wpAny_pyIter_zip st.1 h

/-! ### the rules -/
/-- what can be walked as a row -/
def rowD : D → Option (Bool × List D)
  | .lst xs => some (true, xs)
  | .rol xs => some (true, xs)
  | .tup xs => some (false, xs)
  | _ => none
section
variable {K : PySem.W.Frag} {H H' : Hp} {ρ : Rho} {σ : Sg} {T : List Item}
theorem KD.row {d : D} {v : V} {b : Bool} {ds : List D} (h : KD K H d v) (e : rowD d = some (b, ds)) : ∃ p vs, v = .ref p ∧ SqB K H b p vs ∧ KDs K H ds vs := by
  cases d with
  | lst xs => cases e; obtain ⟨p, vs, e1, h1, h2⟩ := h.lst; exact ⟨p, vs, e1, SqL.of h1, h2⟩
  | rol xs => cases e; obtain ⟨p, vs, e1, h1, h2⟩ := h.rol; exact ⟨p, vs, e1, h1, h2⟩
  | tup xs => cases e; obtain ⟨p, vs, e1, h1, h2⟩ := h.tup; exact ⟨p, vs, e1, h1, h2⟩
  | _ => cases e
theorem row_at {d : D} {v : V} {b : Bool} {ds : List D} {i : Nat} {x : D} (r : Rel K H ρ σ ((0, d, v) :: T)) (e : rowD d = some (b, ds)) (ex : ds[i]? = some x) : ∃ p vs y, v = .ref p ∧ SqB K H b p vs ∧ vs[i]? = some y ∧ Rel K H ρ σ ((lv x, x, y) :: (0, d, v) :: T) ∧ ds.length = vs.length := by
  cases d with
  | lst xs => cases e; obtain ⟨p, vs, y, e1, h1, h2⟩ := lst_at r ex; exact ⟨p, vs, y, e1, SqL.of h1, h2⟩
  | rol xs => cases e; exact rol_at r ex
  | tup xs => cases e; exact tup_at r ex
  | _ => cases e
end
def enumD (xs : List D) : List D := xs.zipIdx.map fun q => .tup [.int (q.2 : Int), q.1]
def zipD (xs ys : List D) : List D := (xs.zip ys).map fun q => .tup [q.1, q.2]
section
variable {K : PySem.W.Frag}
theorem enumD_get {xs : List D} {i : Nat} {d : D} (h : (enumD xs)[i]? = some d) : ∃ x, xs[i]? = some x ∧ d = .tup [.int (i : Int), x] := by
  unfold enumD at h
  rw [List.getElem?_map, List.getElem?_zipIdx] at h
  cases e : xs[i]? with
  | none => rw [e] at h; cases h
  | some x =>
    rw [e] at h
    simp only [Option.map_some, Option.some.injEq, Nat.zero_add] at h
    exact ⟨x, rfl, h.symm⟩
theorem zipD_get {xs ys : List D} {i : Nat} {d : D} (h : (zipD xs ys)[i]? = some d) : ∃ x y, xs[i]? = some x ∧ ys[i]? = some y ∧ d = .tup [x, y] := by
  unfold zipD at h
  rw [List.getElem?_map] at h
  cases e : (xs.zip ys)[i]? with
  | none => rw [e] at h; cases h
  | some q =>
    rw [e] at h
    obtain ⟨x, y⟩ := q
    have e' := List.getElem?_zip_eq_some.mp e
    exact ⟨x, y, e'.1, e'.2, (Option.some.inj h).symm⟩
theorem feeds_en {d : D} {b : Bool} {ds : List D} {p : Addr} (e : rowD d = some (b, ds)) : Feeds K (Ien K b p) [(0, d, .ref p)] (enumD ds) := by
  refine ⟨fun i x H ρ σ T r ex => ?_, fun i H ρ σ T r ei => ?_⟩
  · obtain ⟨y, ey, rfl⟩ := enumD_get ex
    obtain ⟨p', vs, u, e1, h1, h2, r2, _⟩ := row_at r e ey
    cases e1
    refine ⟨⟨vs, u, h1, h2⟩, fun w H' hw => ?_⟩
    obtain ⟨T', z, rfl, hT, rfl, hz⟩ := hw
    have := hz vs h1
    rw [h2] at this
    cases this
    have r3 : Rel K H ρ σ ((9, .int (i : Int), .int (i : Int)) :: (lv y, y, u) :: (0, d, .ref p) :: T) := r2.scal (d := .int (i : Int)) rfl
    refine r3.good fun L g => ?_
    have g2 : Good K [] H (its 0 [.int (i : Int), y] [.int (i : Int), u] ++ ((0, d, .ref p) :: T ++ L)) := g.weak (.cons (Nat.zero_le _) (.cons (Nat.zero_le _) (Wk.refl _)))
    exact g2.newT rfl hT
  · obtain ⟨p', vs, e1, h1, h2⟩ := r.top.row e
    cases e1
    refine ⟨vs, h1, ?_⟩
    rw [ei, ← h2.length]
    simp [enumD]
theorem feeds_zi {d1 d2 : D} {b1 b2 : Bool} {xs ys : List D} {p1 p2 : Addr} (e1 : rowD d1 = some (b1, xs)) (e2 : rowD d2 = some (b2, ys)) : Feeds K (Izi K b1 b2 p1 p2) [(0, d1, .ref p1), (0, d2, .ref p2)] (zipD xs ys) := by
  refine ⟨fun i x H ρ σ T r eg => ?_, fun i H ρ σ T r ei => ?_⟩
  · obtain ⟨x, y, ex, ey, rfl⟩ := zipD_get eg
    have r0 : Rel K H ρ σ ((0, d1, .ref p1) :: (0, d2, .ref p2) :: T) := r
    obtain ⟨p', vs, u, q1, h1, h2, r2, _⟩ := row_at r0 e1 ex
    cases q1
    have r3 : Rel K H ρ σ ((0, d2, .ref p2) :: ((lv x, x, u) :: (0, d1, .ref p1) :: T)) := r2.good fun L g => g.perm (by
      show ((lv x, x, u) :: (0, d1, V.ref p1) :: (0, d2, V.ref p2) :: (T ++ L)).Perm ((0, d2, V.ref p2) :: (lv x, x, u) :: (0, d1, V.ref p1) :: (T ++ L))
      exact (List.perm_middle (l₁ := [(lv x, x, u), (0, d1, V.ref p1)])))
    obtain ⟨p'', ws, w, q2, h3, h4, r4, _⟩ := row_at r3 e2 ey
    cases q2
    refine ⟨⟨vs, ws, u, w, h1, h3, h2, h4⟩, fun o H' ho => ?_⟩
    obtain ⟨T', z1, z2, rfl, hT, rfl, hz1, hz2⟩ := ho
    have t1 := hz1 vs h1
    rw [h2] at t1
    cases t1
    have t2 := hz2 ws h3
    rw [h4] at t2
    cases t2
    refine r4.good fun L g => ?_
    have g1 : Good K [] H ((lv x, x, u) :: (lv y, y, w) :: (0, d1, .ref p1) :: (0, d2, .ref p2) :: (T ++ L)) := g.perm (by
      show ((lv y, y, w) :: (0, d2, V.ref p2) :: (lv x, x, u) :: (0, d1, V.ref p1) :: (T ++ L)).Perm _
      exact ((List.perm_middle (l₁ := [(lv y, y, w), (0, d2, V.ref p2)]) (a := (lv x, x, u)) (l₂ := (0, d1, V.ref p1) :: (T ++ L)))).trans ((List.Perm.swap _ _ _).cons _ |>.cons _))
    have g2 : Good K [] H (its 0 [x, y] [u, w] ++ ((0, d1, .ref p1) :: (0, d2, .ref p2) :: (T ++ L))) := g1.weak (.cons (Nat.zero_le _) (.cons (Nat.zero_le _) (Wk.refl _)))
    exact g2.newT rfl hT
  · have r0 : Rel K H ρ σ ((0, d1, .ref p1) :: (0, d2, .ref p2) :: T) := r
    obtain ⟨p', vs, q1, h1, h2⟩ := r0.top.row e1
    cases q1
    obtain ⟨p'', ws, q2, h3, h4⟩ := r0.drop.top.row e2
    cases q2
    refine ⟨vs, ws, h1, h3, ?_⟩
    rw [ei, ← h2.length, ← h4.length]
    simp [zipD]
end
def enumR : List LD → Option (List D)
  | [x] => (rowD x.2).map fun q => enumD q.2
  | _ => none
def zipR : List LD → Option (List D)
  | [x, y] => (rowD x.2).bind fun q => (rowD y.2).map fun q' => zipD q.2 q'.2
  | _ => none
def viaR (f : List LD → Option (List D)) (m : M (List LD)) : M (List D) := m.bind fun xs ρ => match f xs with
  | some ds => .ok ds ρ
  | none => .no
def enumM := viaR enumR
def zipM := viaR zipR
theorem enumR_eq {xs : List LD} {es : List D} (h : enumR xs = some es) : ∃ k d b ds, xs = [(k, d)] ∧ rowD d = some (b, ds) ∧ es = enumD ds := by
  unfold enumR at h
  split at h
  · rename_i x
    cases e : rowD x.2 with
    | none => rw [e] at h; cases h
    | some q => rw [e] at h; exact ⟨x.1, x.2, q.1, q.2, rfl, e, (Option.some.inj h).symm⟩
  · cases h
theorem zipR_eq {xs : List LD} {es : List D} (h : zipR xs = some es) : ∃ k d b ds k' d' b' ds', xs = [(k, d), (k', d')] ∧ rowD d = some (b, ds) ∧ rowD d' = some (b', ds') ∧ es = zipD ds ds' := by
  unfold zipR at h
  split at h
  · rename_i x y
    cases e : rowD x.2 with
    | none => rw [e] at h; cases h
    | some q =>
      cases e' : rowD y.2 with
      | none => rw [e, e'] at h; cases h
      | some q' => rw [e, e'] at h; exact ⟨x.1, x.2, q.1, q.2, y.1, y.2, q'.1, q'.2, rfl, e, e', (Option.some.inj h).symm⟩
  · cases h
theorem viaR_run {f : List LD → Option (List D)} {W : Wish} {T : List Item} {xs : List LD} {ρ : Rho} {k : List D → Rho → Prop} (h : Aft W T (match f xs with | some ds => R.ok ds ρ | none => R.no) k) : ∃ es, f xs = some es ∧ k es ρ := by
  cases e : f xs with
  | none => rw [e] at h; exact h.elim
  | some es => rw [e] at h; exact ⟨es, rfl, h⟩
section
variable {X : Cx} {W : Wish} {e e2 : Expr} {p pos tpos : Pos} {elts : List Expr} {kk : Nat} {m : M (List LD)}
theorem i_enum (hg : Gl X "enumerate") (hm : X.mg "enumerate" = none) (ha : PA X [e] (tVs X.K W m)) (hs : starEach [e] X.env = [(false, eval e X.env)] := by rfl) : PI X (.Tuple elts kk tpos) (.Call (.Name "enumerate" p) [e] [] pos) (tI X.K W (enumM m)) := by
  refine ⟨fun pins s σ H R I h => ?_⟩
  obtain ⟨ρ, T, rel, a⟩ := h
  refine Call_ (ld_blt I hg hm boot_enumerate (PyProof.Rows.callWith_type1 (thn (ha.run pos pins s σ H (fun vs H1 => ∃ d v b ds ρ1, vs = [v] ∧ rowD d = some (b, ds) ∧ Rel X.K H1 ρ1 σ ((0, d, v) :: T) ∧ ∀ J S H', Rel X.K H' ρ1 σ (S ++ T) → Feeds X.K J S (enumD ds) → R J H') I ⟨ρ, T, rel, a.bind.imp fun xs ρ1 q vs H1 hl r => ?_⟩) fun us s1 hq => ?_) hs rfl))
  · obtain ⟨es, ee, q⟩ := viaR_run q
    obtain ⟨k, d, b, ds, rfl, ed, rfl⟩ := enumR_eq ee
    match vs, hl with
    | [v], _ => exact ⟨d, v, b, ds, ρ1, rfl, ed, r.good fun L g => Good.low g (Nat.zero_le _), q⟩
  · obtain ⟨vs, H1, I1, rv, d, v, b, ds, ρ1, rfl, ed, r1, q⟩ := hq
    obtain ⟨a, ws, rfl, hq1, _⟩ := r1.top.row ed
    cases rv with
    | cons r rr =>
      cases rr
      cases r
      obtain ⟨us', rv', ho⟩ := rowB I1 hq1
      have la := ho.lt
      refine call_enumB ho fun h' he hit hsz hk => wpAny_pyIter_enum he ?_
      have I2 : Inv X pins σ H1 { s1 with heap := h' } := I1.kept (t' := s1.toks) hk
      refine ⟨s1.heap.objs.size + 1, [s1.heap.objs.size + 1, s1.heap.objs.size], _, _, H1, rfl, I2, turn_en b a (s1.heap.objs.size + 1) s1.heap.objs.size (Nat.ne_of_lt la) (Nat.ne_of_gt (Nat.lt_succ_of_lt la)), ⟨⟨.none, he⟩, hit, Nat.succ_ne_self _⟩, fun c hc => ?_, q _ _ H1 r1 (feeds_en ed)⟩
      have hle : s1.heap.objs.size ≤ c := by
        have ec : c = s1.heap.objs.size + 1 ∨ c = s1.heap.objs.size := by simpa using hc
        rcases ec with z | z
        · rw [z]; exact Nat.le_succ _
        · rw [z]; exact Nat.le_refl _
      exact I1.fpOk hle (I1.hok.fresh hle)
theorem i_zip (hg : Gl X "zip") (hm : X.mg "zip" = none) (ha : PA X [e, e2] (tVs X.K W m)) (hs : starEach [e, e2] X.env = (false, eval e X.env) :: starEach [e2] X.env := by rfl) (hpl : (backTo pos (starEach [e2] X.env)).any (·.1) = false := by rfl) :
    PI X (.Tuple elts kk tpos) (.Call (.Name "zip" p) [e, e2] [] pos) (tI X.K W (zipM m)) := by
  refine ⟨fun pins s σ H R I h => ?_⟩
  obtain ⟨ρ, T, rel, a⟩ := h
  refine Call_ (ld_blt I hg hm PyProof.Rows.boot_zip (PyProof.Rows.callWith_type1 (thn (ha.run pos pins s σ H (fun vs H1 => ∃ d d' v v' b b' ds ds' ρ1, vs = [v, v'] ∧ rowD d = some (b, ds) ∧ rowD d' = some (b', ds') ∧ Rel X.K H1 ρ1 σ ((0, d, v) :: (0, d', v') :: T) ∧ ∀ J S H', Rel X.K H' ρ1 σ (S ++ T) → Feeds X.K J S (zipD ds ds') → R J H') I ⟨ρ, T, rel, a.bind.imp fun xs ρ1 q vs H1 hl r => ?_⟩) fun us s1 hq => ?_) hs hpl))
  · obtain ⟨es, ee, q⟩ := viaR_run q
    obtain ⟨k, d, b, ds, k', d', b', ds', rfl, ed, ed', rfl⟩ := zipR_eq ee
    match vs, hl with
    | [v, v'], _ => exact ⟨d, d', v, v', b, b', ds, ds', ρ1, rfl, ed, ed', r.good fun L g => g.weak (.cons (Nat.zero_le _) (.cons (Nat.zero_le _) (Wk.refl _))), q⟩
  · obtain ⟨vs, H1, I1, rv, d, d', v, v', b, b', ds, ds', ρ1, rfl, ed, ed', r1, q⟩ := hq
    obtain ⟨a, ws, rfl, hq1, _⟩ := r1.top.row ed
    obtain ⟨a', ws', rfl, hq2, _⟩ := r1.drop.top.row ed'
    cases rv with
    | cons r rr =>
      cases rr with
      | cons r' rr =>
        cases rr
        cases r
        cases r'
        obtain ⟨us1, rv1, ho1⟩ := rowB I1 hq1
        obtain ⟨us2, rv2, ho2⟩ := rowB I1 hq2
        have la := ho1.lt
        have la' := ho2.lt
        refine zip_begins2 (begB b a us1.toArray) (begB b' a' us2.toArray) ho1 ho2 fun h' hz hTI hTO e1 e2 hsz hk => wpAny_pyIter_zip hz ?_
        have I2 : Inv X pins σ H1 { s1 with heap := h' } := I1.kept (t' := s1.toks) hk
        have D := zip_sep2 (N := s1.heap.objs.size) (fp1 := [a]) (fp2 := [a']) (fun c hc => by rw [List.mem_singleton.mp hc]; exact la) (fun c hc => by rw [List.mem_singleton.mp hc]; exact la')
        refine ⟨s1.heap.objs.size + 4, [s1.heap.objs.size + 4, s1.heap.objs.size + 2, s1.heap.objs.size + 3, s1.heap.objs.size, s1.heap.objs.size + 1], _, _, H1, rfl, I2, turn_zi D (Nat.ne_of_lt la) (Nat.ne_of_lt (Nat.lt_succ_of_lt la')), ⟨hz, hTI, ⟨_, _, hTO⟩, iniB b e1, iniB b' e2⟩, fun c hc => ?_, q _ _ H1 r1 (feeds_zi ed ed')⟩
        have hle : s1.heap.objs.size ≤ c := by
          have ec : c = s1.heap.objs.size + 4 ∨ c = s1.heap.objs.size + 2 ∨ c = s1.heap.objs.size + 3 ∨ c = s1.heap.objs.size ∨ c = s1.heap.objs.size + 1 := by simpa using hc
          rcases ec with z | z | z | z | z <;> rw [z]
          · exact Nat.le_add_right _ _
          · exact Nat.le_add_right _ _
          · exact Nat.le_add_right _ _
          · exact Nat.le_refl _
          · exact Nat.le_add_right _ _
        exact I1.fpOk hle (I1.hok.fresh hle)
end
end Vs
set_option Elab.async false
set_option linter.all false
set_option maxRecDepth 100000
set_option maxHeartbeats 4000000
/-! Vs12: sets of numbers that are made and used up at once; a list's parts; repr. -/
namespace Vs
open PySem PySem.Spec PyProof.Rows L2
section
variable {P : Program} {w : World} {A : Around} {E : Value → Shared → Prop} {s : Shared}
set_option maxHeartbeats 8000000 in
theorem set_lstI {l : Addr} {items : Array Value} (ns : List Int) {Q : Value → Shared → Prop} (hh : A.handled = none) (hl : s.heap.IsList l items) (hit : IntsAre items.toList ns) (hb : ns.length + 1 < scanBound)
    (h : ∀ (h' : Heap) (tk c : Nat), SetR w h' s.heap.objs.size (fun j => decide (j ∈ ns)) c → c ≤ ns.length → (∀ b o, s.heap.get? b = some o → h'.get? b = some o) → Q (.ref s.heap.objs.size) { s with heap := h', toks := tk }) :
    wpAny (model P w) A (call (.type "set") [.ref l]) Q E s := by
  have hisz : items.size = ns.length := by
    have q := IntsAre.length hit
    rw [Array.length_toList] at q
    exact q
  obtain ⟨c, tl, hmro⟩ := F.called_set.mro
  have hmade := F.called_set.made
  have hsub := F.called_set.sub
  refine wpAny_call (codeAny_of_tree ?_)
  show wpAny _ _ (callAny (.type "set") _) _ _ _
  refine wpAny_pure ⟨Code.quiet_builtin _ (by decide +kernel), codeAny_builtin F.entry_type_call ?_⟩
  rw [Around.under_plain (weight_type_call_type "set" [.ref l] []) rfl]
  have h1 := F.called_set.notType
  have h2 := F.called_set.canCreate
  have hct := F.typeCall_set_1 (.ref l)
  repeat (any_goals (first | assumption | wp_step))

  refine codeAny_mono (code_set_led1 (.ref l) (E := E) (Q₁ := fun obj s₁ => obj = .ref s.heap.objs.size ∧ s₁ = { s with heap := s.heap.push { cls := .type "set", dict := none, data := .set #[] 0 (.fresh 0 0 (!w.params.followText "set-order")) } }) ⟨rfl, rfl⟩) fun r s₁ hr => ?_
  cases r with
  | error e => exact hr
  | ok fl =>
    cases fl with
    | ret obj =>
      obtain ⟨rfl, rfl⟩ := hr
      have hS : (s.heap.push { cls := .type "set", dict := none, data := .set #[] 0 (.fresh 0 0 (!w.params.followText "set-order")) }).get? s.heap.objs.size = some { cls := .type "set", dict := none, data := .set #[] 0 (.fresh 0 0 (!w.params.followText "set-order")) } := Heap.get?_push_size _ rfl
      have hT : Shared.TypeIs { s with heap := s.heap.push { cls := .type "set", dict := none, data := .set #[] 0 (.fresh 0 0 (!w.params.followText "set-order")) } } (.ref s.heap.objs.size) "set" := ⟨_, hS, rfl⟩
      have hli := F.called_set.init.lookup
      have hbi := F.called_set.init.bind (.ref s.heap.objs.size)
      repeat (any_goals (first | assumption | wp_step))

      refine codeAny_mono (codeAny_call_builtin (R := wants (fun r s₂ => r = .none ∧ ∃ h' tk c, s₂ = { s with heap := h', toks := tk } ∧ SetR w h' s.heap.objs.size (fun j => decide (j ∈ ns)) c ∧ c ≤ ns.length ∧
          (∀ b o, s.heap.get? b = some o → h'.get? b = some o)) E) F.called_set.init.plain F.entry_set_init (check_set_init_1 hT ?_)) fun r₂ s₂ hr₂ => ?_
      · obtain ⟨ol, hol, hcl, nl, hdl⟩ := hl
        obtain ⟨ocls, odict, odata, oslots⟩ := ol
        simp only at hcl hdl
        subst hcl; subst hdl
        have hol' : (s.heap.push { cls := .type "set", dict := none, data := .set #[] 0 (.fresh 0 0 (!w.params.followText "set-order")) }).get? l = some { cls := .type "list", dict := odict, data := .seq items nl, slots := oslots } := Heap.get?_push_of_some _ hol
        have hsls := F.sub_list_set
        have hslf := F.sub_list_frozenset
        have hne : (Value.type "list" == Value.type "dict") = false := by decide
        have hl1 : (s.heap.push { cls := .type "set", dict := none, data := .set #[] 0 (.fresh 0 0 (!w.params.followText "set-order")) }).IsList l items := ⟨_, hol', rfl, nl, rfl⟩
        unfold Builtin.«set.__init__» noKeywords Builtin.Frozenset.updateFrom
        generalize hPI : pyIter = PI
        wp_walk
        subst hPI

        refine wpAny_pyIter_list hl1 ?_
        refine wpAny_bind (wpAny_runValue ?_)
        have hlS : l < s.heap.objs.size := Heap.lt_size hol
        have hh3 : A.in1.in1.in1.handled = none := by simp [hh]
        have hz1 : (s.heap.push { cls := .type "set", dict := none, data := .set #[] 0 (.fresh 0 0 (!w.params.followText "set-order")) }).objs.size = s.heap.objs.size + 1 := Heap.size_push ..
        have hneI : l ≠ (s.heap.push { cls := .type "set", dict := none, data := .set #[] 0 (.fresh 0 0 (!w.params.followText "set-order")) }).objs.size := by
          rw [Heap.size_push]; exact Nat.ne_of_lt (Nat.lt_succ_of_lt hlS)
        have hSf : s.heap.objs.size ∉ [(s.heap.push { cls := .type "set", dict := none, data := .set #[] 0 (.fresh 0 0 (!w.params.followText "set-order")) }).objs.size, l] := by
          rw [Heap.size_push]; simp only [List.mem_cons, List.mem_singleton, List.not_mem_nil, or_false, not_or]
          exact ⟨Nat.ne_of_lt (Nat.lt_succ_self _), Nat.ne_of_gt hlS⟩
        have hval : ∀ (i : Nat) (v : Value), items[i]? = some v → ∃ k t, ns[i]? = some k ∧ v = .int k t := fun i v hv => by
          have hi : i < ns.length := by rw [← hisz]; exact (Array.getElem?_eq_some_iff.mp hv).1
          obtain ⟨t, e⟩ := PyProof.Rows.IntsAre.int_at hit i v (by rw [Array.getElem?_toList]; exact hv)
          refine ⟨ns[i], t, List.getElem?_eq_getElem hi, ?_⟩
          rw [e, List.getD_eq_getElem?_getD, List.getElem?_eq_getElem hi] <;> rfl
        refine set_update_ints ((Walks.list hh3 _ l hneI items).toS) s.heap.objs.size
          hSf ns hisz hb hval (items.size - 0) 0 _ (by omega) (Nat.zero_le _)
          ⟨⟨_, Heap.get?_push_size _ rfl, rfl, rfl⟩, (hl1.push _)⟩ ?hS0 ?hR
        case hS0 =>
          have hget : ((s.heap.push { cls := .type "set", dict := none, data := .set #[] 0 (.fresh 0 0 (!w.params.followText "set-order")) }).push { cls := .type "list_iterator", data := .fields #[.ref l, .int 0 0] }).get? s.heap.objs.size
              = some { cls := .type "set", dict := none, data := .set #[] 0 (.fresh 0 0 (!w.params.followText "set-order")) } := Heap.get?_push_of_some _ hS
          exact ⟨0, Nat.le_refl 0, setR_new_at hget⟩
        case hR =>
          intro s' c' hm hc' hS'
          obtain ⟨h', g2, d', tk', os'⟩ := s'
          have eg : g2 = s.gens := hm.gens
          have ed : d' = s.drawn := hm.drawn
          have eo : os' = s.os := hm.os
          subst eg; subst ed; subst eo
          show wpAny _ _ _ _ _ _
          refine wpAny_pure ?_
          show wpAny _ _ (ret Value.none) _ _ _
          rw [hisz] at hc'
          refine wpAny_pure ⟨rfl, h', tk', c', rfl, hS', hc', fun b o e => ?_⟩
          have hb0 : b < s.heap.objs.size := Heap.lt_size e
          have hb1 : b ≠ s.heap.objs.size := Nat.ne_of_lt hb0
          have hb2 : b ≠ (s.heap.push { cls := .type "set", dict := none, data := .set #[] 0 (.fresh 0 0 (!w.params.followText "set-order")) }).objs.size := by
            rw [Heap.size_push]; exact Nat.ne_of_lt (Nat.lt_succ_of_lt hb0)
          exact hm.heap b o (by simp only [List.mem_cons, List.mem_singleton, List.not_mem_nil, or_false, not_or]; exact ⟨hb1, hb2⟩) (Heap.get?_push_of_some _ (Heap.get?_push_of_some _ e))

      · cases r₂ with
        | error e => exact hr₂
        | ok fl₂ =>
          cases fl₂ with
          | ret r =>
            obtain ⟨rfl, h', tk, c', rfl, hS', hc', hk'⟩ := hr₂
            repeat (any_goals (first | assumption | wp_step))
            exact h _ _ _ hS' hc' hk'
          | _ => exact hr₂.elim
    | _ => exact hr.elim

end
end Vs
set_option Elab.async false
set_option linter.all false
set_option maxRecDepth 4000
set_option maxHeartbeats 2000000
/-! Vs13: sorted(set(..)), len(set(..)); a list's parts; repr. -/
namespace Vs
open PySem PySem.Spec PyProof.Rows L2

/-! ### the members of a row of numbers, rising -/
def insU (x : Int) : List Int → List Int
  | [] => [x]
  | y :: ys => if x < y then x :: y :: ys else if x = y then y :: ys else y :: insU x ys
def sortU : List Int → List Int
  | [] => []
  | x :: xs => insU x (sortU xs)
theorem insU_mem (x k : Int) : ∀ ys : List Int, k ∈ insU x ys ↔ k = x ∨ k ∈ ys
  | [] => by simp [insU]
  | y :: ys => by
    unfold insU
    by_cases h : x < y
    · rw [if_pos h]; simp
    · rw [if_neg h]
      by_cases e : x = y
      · rw [if_pos e]; simp [e]
      · rw [if_neg e, List.mem_cons, insU_mem x k ys, List.mem_cons]
        constructor
        · rintro (h | h | h)
          · exact .inr (.inl h)
          · exact .inl h
          · exact .inr (.inr h)
        · rintro (h | h | h)
          · exact .inr (.inl h)
          · exact .inl h
          · exact .inr (.inr h)
theorem insU_lt (x : Int) : ∀ ys : List Int, ys.Pairwise (· < ·) → (insU x ys).Pairwise (· < ·)
  | [], _ => by simp [insU]
  | y :: ys, h => by
    obtain ⟨h1, h2⟩ := List.pairwise_cons.mp h
    unfold insU
    by_cases hx : x < y
    · rw [if_pos hx]
      refine List.pairwise_cons.mpr ⟨fun k hk => ?_, h⟩
      rcases List.mem_cons.mp hk with rfl | hk
      · exact hx
      · exact Int.lt_trans hx (h1 k hk)
    · rw [if_neg hx]
      by_cases e : x = y
      · rw [if_pos e]; exact h
      · rw [if_neg e]
        refine List.pairwise_cons.mpr ⟨fun k hk => ?_, insU_lt x ys h2⟩
        rcases (insU_mem x k ys).mp hk with rfl | hk
        · omega
        · exact h1 k hk
theorem sortU_mem (k : Int) : ∀ ns : List Int, k ∈ sortU ns ↔ k ∈ ns
  | [] => Iff.rfl
  | n :: ns => by
    unfold sortU
    rw [insU_mem, sortU_mem k ns, List.mem_cons]
theorem sortU_lt : ∀ ns : List Int, (sortU ns).Pairwise (· < ·)
  | [] => .nil
  | n :: ns => insU_lt n _ (sortU_lt ns)
theorem rise_eq : ∀ {xs ys : List Int}, xs.Pairwise (· < ·) → ys.Pairwise (· < ·) → (∀ k, k ∈ xs ↔ k ∈ ys) → xs = ys
  | [], [], _, _, _ => rfl
  | [], y :: ys, _, _, h => absurd ((h y).mpr List.mem_cons_self) (by simp)
  | x :: xs, [], _, _, h => absurd ((h x).mp List.mem_cons_self) (by simp)
  | x :: xs, y :: ys, hx, hy, h => by
    obtain ⟨x1, x2⟩ := List.pairwise_cons.mp hx
    obtain ⟨y1, y2⟩ := List.pairwise_cons.mp hy
    have e : x = y := by
      rcases List.mem_cons.mp ((h x).mp List.mem_cons_self) with e | m
      · exact e
      · rcases List.mem_cons.mp ((h y).mpr List.mem_cons_self) with e | m'
        · exact e.symm
        · have := y1 x m
          have := x1 y m'
          omega
    subst e
    have h' : ∀ k, k ∈ xs ↔ k ∈ ys := fun k => by
      constructor
      · intro m
        rcases List.mem_cons.mp ((h k).mp (List.mem_cons_of_mem _ m)) with e | m'
        · have := x1 k m; omega
        · exact m'
      · intro m
        rcases List.mem_cons.mp ((h k).mpr (List.mem_cons_of_mem _ m)) with e | m'
        · have := y1 k m; omega
        · exact m'
    rw [rise_eq x2 y2 h']
/-- the numbers of a row -/
def rowN (d : D) : Option (List Int) := (rowD d).bind fun q => numsD q.2
section
variable {K : PySem.W.Frag} {H H' : Hp} {ρ : Rho} {σ : Sg} {T : List Item}
theorem KD.rowN {d : D} {v : V} {ns : List Int} (h : KD K H d v) (e : Vs.rowN d = some ns) : ∃ b p, v = .ref p ∧ SqB K H b p (ns.map V.int) := by
  unfold Vs.rowN at e
  cases q : rowD d with
  | none => rw [q] at e; cases e
  | some x =>
    obtain ⟨b, ds⟩ := x
    rw [q] at e
    have e' : numsD ds = some ns := e
    obtain ⟨p, vs, rfl, h1, h2⟩ := h.row q
    obtain rfl := numsD_map e'
    obtain rfl := h2.ints
    exact ⟨b, p, rfl, h1⟩
end
section
variable {P : Program} {w : World} {A : Around} {E : Value → Shared → Prop} {s : Shared}
theorem set_rowI {b : Bool} {l : Addr} {items : Array Value} (ns : List Int) {Q : Value → Shared → Prop} (hh : A.handled = none) (hl : HoB s.heap b l items) (hit : IntsAre items.toList ns) (hb : ns.length + 1 < scanBound)
    (h : ∀ (h' : Heap) (tk c : Nat), SetR w h' s.heap.objs.size (fun j => decide (j ∈ ns)) c → c ≤ ns.length → (∀ b o, s.heap.get? b = some o → h'.get? b = some o) → Q (.ref s.heap.objs.size) { s with heap := h', toks := tk }) :
    wpAny (model P w) A (call (.type "set") [.ref l]) Q E s := by
  cases b with
  | true => exact set_lstI ns hh hl hit hb h
  | false => exact call_set_tupI ns hh hl hit hb h
theorem setR_card {h : Heap} {a : Addr} {ns : List Int} {c : Nat} (R : SetR w h a (fun j => decide (j ∈ ns)) c) : c = (sortU ns).length := by
  obtain ⟨o, es, ep, t, ho, hex, hd, g, nd, hm, hb, hf, hn, hr, hl⟩ := R
  have p : (es.toList.map keyOf).Perm (sortU ns) := by
    refine (List.perm_ext_iff_of_nodup nd ((sortU_lt ns).imp fun h => Int.ne_of_lt h)).mpr fun k => ?_
    rw [← hm k, sortU_mem, decide_eq_true_iff]
  rw [← p.length_eq, List.length_map, Array.length_toList, hn]
end
/-- one operand, its value looked at, a new value -/
def srtU (m : M LD) : M LD := m.bind fun x ρ => match rowN x.2 with
  | some ns => if ns.length ≤ 4000 ∧ (sortU ns).length < 64 then .ok (9, .lst ((sortU ns).map .int)) ρ else .no
  | none => .no
def lenU (m : M LD) : M LD := m.bind fun x ρ => match rowN x.2 with
  | some ns => if ns.length ≤ 4000 then .ok (9, .int (sortU ns).length) ρ else .no
  | none => .no
section
variable {X : Cx} {W : Wish} {a : Expr} {p p2 q pos : Pos} {m : M LD}
theorem kd_ints {K : PySem.W.Frag} {H : Hp} : ∀ ns : List Int, KDs K H (ns.map D.int) (ns.map V.int)
  | [] => .nil
  | n :: ns => .cons (s_kd (d := .int n) rfl) (kd_ints ns)
theorem sorted_then {pins : List (Addr × Obj)} {σ : Sg} {H : Hp} {s : Shared} {a : Addr} {ns : List Int} {c : Nat} {Q : VK} (hc : X.calm = true) (I : Inv X pins σ H s) (R : SetR X.w s.heap a (fun j => decide (j ∈ ns)) c) (hz : (sortU ns).length < 64)
    (h : ∀ p, H p = none → Q (.ref p) (upd H p (.lst ((sortU ns).map V.int)))) : wpAny (model X.prog X.w) X.A (call (.builtin "sorted") [.ref a]) (EP X pins σ Q) X.xe s := by
  have hc64 : c < 64 := by rw [setR_card R]; exact hz
  refine sorted_set R (I.ok.hd hc) hc64 fun s' p out c' ns' k2 g2 o2 hp hgt hi hlt hmem hlen => ?_
  have en : ns' = sortU ns := rise_eq hlt (sortU_lt ns) fun j => by rw [hmem, sortU_mem, decide_eq_true_iff]
  subst en
  have hn : H p = none := I.hok.fresh hp
  have hln : ((sortU ns).map V.int).length ≤ sizeLine := by rw [List.length_map, lineE]; have e9 : lineN = 16777216 := rfl; omega
  have J : Inv X pins σ (upd H p (.lst ((sortU ns).map V.int))) { s with heap := s'.heap, gens := s'.gens, drawn := s'.drawn, toks := s'.toks } :=
    I.call (ch := []) (Un.laid k2 hp hn) (I.hok.laid k2 hp ⟨hln, out.toList, c', vals_of_ints hi, hgt⟩) (by rw [g2]; exact I.bare) (fun _ z => nomatch z)
  have es : s' = { s with heap := s'.heap, gens := s'.gens, drawn := s'.drawn, toks := s'.toks } := by
    cases s'
    cases s
    cases o2
    rfl
  rw [es]
  exact ⟨.ref p, _, J, rfl, h p hn⟩
theorem v_srtU (hc : X.calm = true) (hg : Gl X "sorted") (hm : X.mg "sorted" = none) (hg2 : Gl X "set") (hm2 : X.mg "set" = none) (ha : PE X a (tV X.K W m))
    (na : starEach [a] X.env = (false, eval a X.env) :: starEach [] X.env := by rfl) : PE X (.Call (.Name "sorted" p) [.Call (.Name "set" p2) [a] [] q] [] pos) (tV X.K W (srtU m)) := by
  refine ⟨fun pins s σ H Q I ⟨ρ, T, rel, h⟩ => ?_⟩
  refine Call_ (ld_blt I hg hm PyProof.Rows.boot_sorted ?_)
  refine PyProof.Rows.callWith_builtin1 (PyProof.Rows.args_cons ?_ rfl) rfl rfl
  refine Call_ (ld_blt I hg2 hm2 PyProof.Rows.boot_set ?_)
  refine PyProof.Rows.callWith_type1 (PyProof.Rows.args_cons (thn (ha.run pins s σ H (fun v H1 => ∃ d ρ1 ns, Rel X.K H1 ρ1 σ ((0, d, v) :: T) ∧ rowN d = some ns ∧ ns.length ≤ 4000 ∧ (sortU ns).length < 64 ∧ ∀ u H', Rel X.K H' ρ1 σ ((9, .lst ((sortU ns).map .int), u) :: T) → Q u H') I ⟨ρ, T, rel, h.bind.imp fun x ρ1 q1 v H1 r1 => ?_⟩) fun v s1 hq => PyProof.Rows.args_nil ?_) na) na rfl
  · cases e : rowN x.2 with
    | none => rw [e] at q1; exact q1.elim
    | some ns =>
      rw [e] at q1
      simp only at q1
      by_cases hz : ns.length ≤ 4000 ∧ (sortU ns).length < 64
      · rw [if_pos hz] at q1
        exact ⟨x.2, ρ1, ns, r1.good fun L g => Good.low g (Nat.zero_le _), e, hz.1, hz.2, q1⟩
      · rw [if_neg hz] at q1; exact q1.elim
  · obtain ⟨v', H1, I1, rv, d, ρ1, ns, r1, e, hz1, hz2, q1⟩ := hq
    obtain ⟨b, l, rfl, hs⟩ := r1.top.rowN e
    cases rv
    obtain ⟨us, rus, ho⟩ := rowB I1 hs
    refine set_rowI ns (I1.ok.hd hc) ho (ints_of_vals rus) (by unfold scanBound; omega) fun h' tk c R hcn k => ?_
    refine PyProof.Rows.args_nil ?_
    have I2 : Inv X pins σ H1 { s1 with heap := h', toks := tk } := I1.kept k
    refine sorted_then hc I2 R hz2 fun p hn => q1 _ _ (r1.drop.good fun L g => ?_)
    have g3 : Good X.K [] H1 (its 8 ((sortU ns).map D.int) ((sortU ns).map V.int) ++ (T ++ L)) := by
      refine Good.scalRow ?_ (kd_ints _) g
      rw [List.all_eq_true]
      intro y hy
      obtain ⟨z, _, rfl⟩ := List.mem_map.mp hy
      rfl
    exact g3.newL (by simp) hn
theorem v_lenU (hc : X.calm = true) (hg : Gl X "len") (hm : X.mg "len" = none) (hg2 : Gl X "set") (hm2 : X.mg "set" = none) (ha : PE X a (tV X.K W m))
    (na : starEach [a] X.env = (false, eval a X.env) :: starEach [] X.env := by rfl) : PE X (.Call (.Name "len" p) [.Call (.Name "set" p2) [a] [] q] [] pos) (tV X.K W (lenU m)) := by
  refine ⟨fun pins s σ H Q I ⟨ρ, T, rel, h⟩ => ?_⟩
  refine Call_ (ld_blt I hg hm PySem.boot_len ?_)
  refine PyProof.Rows.callWith_builtin1 (PyProof.Rows.args_cons ?_ rfl) rfl rfl
  refine Call_ (ld_blt I hg2 hm2 PyProof.Rows.boot_set ?_)
  refine PyProof.Rows.callWith_type1 (PyProof.Rows.args_cons (thn (ha.run pins s σ H (fun v H1 => ∃ d ρ1 ns, Rel X.K H1 ρ1 σ ((0, d, v) :: T) ∧ rowN d = some ns ∧ ns.length ≤ 4000 ∧ ∀ u H', Rel X.K H' ρ1 σ ((9, .int (sortU ns).length, u) :: T) → Q u H') I ⟨ρ, T, rel, h.bind.imp fun x ρ1 q1 v H1 r1 => ?_⟩) fun v s1 hq => PyProof.Rows.args_nil ?_) na) na rfl
  · cases e : rowN x.2 with
    | none => rw [e] at q1; exact q1.elim
    | some ns =>
      rw [e] at q1
      simp only at q1
      by_cases hz : ns.length ≤ 4000
      · rw [if_pos hz] at q1
        exact ⟨x.2, ρ1, ns, r1.good fun L g => Good.low g (Nat.zero_le _), e, hz, q1⟩
      · rw [if_neg hz] at q1; exact q1.elim
  · obtain ⟨v', H1, I1, rv, d, ρ1, ns, r1, e, hz1, q1⟩ := hq
    obtain ⟨b, l, rfl, hs⟩ := r1.top.rowN e
    cases rv
    obtain ⟨us, rus, ho⟩ := rowB I1 hs
    refine set_rowI ns (I1.ok.hd hc) ho (ints_of_vals rus) (by unfold scanBound; omega) fun h' tk c R hcn k => ?_
    refine PyProof.Rows.args_nil ?_
    have I2 : Inv X pins σ H1 { s1 with heap := h', toks := tk } := I1.kept k
    have ec := setR_card R
    obtain ⟨o, es, ep, t, ho, hex, hd, g, nd, hm, hb, hf, hn, hr, hl⟩ := R
    refine call_len_set ho hex hd hf (by rw [hn] <;> omega) ⟨.int ((sortU ns).length : Nat), H1, I2.tok _, ⟨_, by rw [hn, ec]⟩, q1 _ H1 (r1.drop.scal (d := .int ((sortU ns).length : Nat)) rfl)⟩
end
end Vs
set_option Elab.async false
set_option linter.all false
set_option maxRecDepth 100000
set_option maxHeartbeats 2000000
/-! Vs14: repr; the parts of a list. -/
namespace Vs
open PySem PySem.Spec PyProof.Rows L2

/-! ### repr of a tree -/
mutual
/-- it can be shown: small numbers, texts of code points; what its text weighs at most -/
def shW : D → Option (Nat × Nat)
  | .non => some (8, 0)
  | .bl _ => some (8, 0)
  | .int i => if i.natAbs.log2 < 1920 then some (1921, 0) else none
  | .str x => if x.cps.toList.all (fun c => decide (c < 16 ^ 8)) then some (10 * x.length + 2, 0) else none
  | .tup xs => (shWs xs).map fun q => (q.1 + 3, q.2 + 1)
  | .lst xs => (shWs xs).map fun q => (q.1 + 3, q.2 + 1)
  | .dic _ => none
  | .dit _ => none
  | .iset _ => none
  | .rol _ => none
  | .pin _ => none
def shWs : List D → Option (Nat × Nat)
  | [] => some (0, 0)
  | x :: xs => match shW x, shWs xs with
    | some a, some b => some (a.1 + b.1 + 2, max a.2 b.2)
    | _, _ => none
end
mutual
theorem shW_py : ∀ {d : D} {q : Nat × Nat}, shW d = some q → ∃ p, py d = some p ∧ p.showable = true ∧ p.hasDict = false ∧ p.shown.length ≤ q.1 ∧ p.depth ≤ q.2
  | .non, q, e => by unfold shW at e; cases e; exact ⟨.none, rfl, rfl, rfl, by decide, Nat.le_refl _⟩
  | .bl b, q, e => by unfold shW at e; cases e; exact ⟨.bool b, rfl, rfl, rfl, by cases b <;> decide, Nat.le_refl _⟩
  | .int i, q, e => by
    unfold shW at e
    by_cases h : i.natAbs.log2 < 1920
    · rw [if_pos h] at e
      cases e
      exact ⟨.int i, rfl, by simp [PyData.showable, h], rfl, int_text_len_1921 h, Nat.le_refl _⟩
    · rw [if_neg h] at e; cases e
  | .str x, q, e => by
    unfold shW at e
    by_cases h : x.cps.toList.all (fun c => decide (c < 16 ^ 8)) = true
    · rw [if_pos h] at e
      cases e
      exact ⟨.str x, rfl, rfl, rfl, StrLaws.reprText_len x fun c hc => of_decide_eq_true (List.all_eq_true.mp h c hc), Nat.le_refl _⟩
    · rw [if_neg h] at e; cases e
  | .tup xs, q, e => by
    unfold shW at e
    cases e1 : shWs xs with
    | none => rw [e1] at e; cases e
    | some a =>
      rw [e1] at e
      cases e
      obtain ⟨ps, h1, h2, h3, h4, h5⟩ := shWs_py e1
      refine ⟨.tuple ps, by unfold py; rw [h1]; rfl, by simpa [PyData.showable] using h2, by simpa [PyData.hasDict] using h3, ?_, ?_⟩
      · have := tupleText_len_le (PyData.shownAll ps)
        rw [PyData.shown]
        rw [PyData.shownAll_length] at this
        show _ ≤ a.1 + 3
        omega
      · rw [PyData.depth]; show _ ≤ a.2 + 1; omega
  | .lst xs, q, e => by
    unfold shW at e
    cases e1 : shWs xs with
    | none => rw [e1] at e; cases e
    | some a =>
      rw [e1] at e
      cases e
      obtain ⟨ps, h1, h2, h3, h4, h5⟩ := shWs_py e1
      refine ⟨.list ps, by unfold py; rw [h1]; rfl, by simpa [PyData.showable] using h2, by simpa [PyData.hasDict] using h3, ?_, ?_⟩
      · have := listText_len_le (PyData.shownAll ps)
        rw [PyData.shown]
        rw [PyData.shownAll_length] at this
        show _ ≤ a.1 + 3
        omega
      · rw [PyData.depth]; show _ ≤ a.2 + 1; omega
  | .dic _, _, e => by unfold shW at e; cases e
  | .dit _, _, e => by unfold shW at e; cases e
  | .iset _, _, e => by unfold shW at e; cases e
  | .rol _, _, e => by unfold shW at e; cases e
  | .pin _, _, e => by unfold shW at e; cases e
theorem shWs_py : ∀ {xs : List D} {q : Nat × Nat}, shWs xs = some q → ∃ ps, pys xs = some ps ∧ PyData.showableAll ps = true ∧ PyData.hasDictAll ps = false ∧ ((PyData.shownAll ps).map (·.length)).sum + 2 * ps.length ≤ q.1 ∧ PyData.depthAll ps ≤ q.2
  | [], q, e => by unfold shWs at e; cases e; exact ⟨[], by unfold pys; rfl, rfl, rfl, by simp [PyData.shownAll], by simp [PyData.depthAll]⟩
  | x :: xs, q, e => by
    unfold shWs at e
    cases e1 : shW x with
    | none => rw [e1] at e; simp at e
    | some a =>
      cases e2 : shWs xs with
      | none => rw [e1, e2] at e; simp at e
      | some b =>
        rw [e1, e2] at e
        simp only [Option.some.injEq] at e
        subst e
        obtain ⟨p, h1, h2, h3, h4, h5⟩ := shW_py e1
        obtain ⟨ps, g1, g2, g3, g4, g5⟩ := shWs_py e2
        refine ⟨p :: ps, by unfold pys; rw [h1, g1], ?_, ?_, ?_, ?_⟩
        · simp [PyData.showableAll, h2, g2]
        · simp [PyData.hasDictAll, h3, g3]
        · rw [PyData.shownAll, List.map_cons, List.sum_cons, List.length_cons]
          show p.shown.length + _ + _ ≤ a.1 + b.1 + 2
          omega
        · rw [PyData.depthAll]
          show max p.depth _ ≤ max a.2 b.2
          omega
end
/-- the text -/
def shT (d : D) : Str := match d with
  | .dic [] => (PyData.dict []).shown
  | d => match py d with
    | some p => p.shown
    | none => Str.empty
def isDic0 : D → Bool
  | .dic [] => true
  | _ => false
def fRepr (d : D) : Option D := if isDic0 d then some (.str (shT d)) else match shW d with
  | some q => if q.1 ≤ lineN ∧ q.2 ≤ 40 then some (.str (shT d)) else none
  | none => none
section
variable {X : Cx} {k : Nat}
def rRepr (K : PySem.W.Frag) : List V → Hp → VK → Prop := fun vs H Q => (∃ v p, vs = [v] ∧ Dp K H v p ∧ p.showable = true ∧ p.hasDict = false ∧ p.shown.length ≤ sizeLine ∧ p.depth ≤ 40 ∧ Q (.str p.shown) H) ∨ ∃ a, vs = [.ref a] ∧ H a = some (.dK []) ∧ Q (.str (PyData.dict []).shown) H
theorem cr_repr (hr : Room k X.A) (hgd : X.A.guards = some []) : CallR X (.builtin "repr") (rRepr X.K) := by
  intro pins s σ H vs us Q I r h
  have hu := hr.units
  rcases h with h | ⟨a, rfl, ha, q⟩
  rotate_left
  · match us, r with
    | [u], .cons ru _ =>
      cases ru
      obtain ⟨_, hd, ws, rel, o, es, ep, ho, ex, hes, _, pr, _⟩ := dk_of I.hok ha
      cases rel
      have he : es.toList = [] := by
        generalize es.toList = ls at pr
        cases pr
        rfl
      have rd : Reads s.heap (.ref a) (.dict []) [a] := Reads.dict (as := []) (bs := []) ho ex.1 hes (by rw [he]; exact .nil) (by rw [he]; exact .nil)
      have hne : sysModules ≠ a := fun e => by simp [e] at hd
      have hdp : (PyData.dict []).depth ≤ 40 := by decide
      exact repr_of_reads' rd rfl (fun _ => by simpa using hne) hgd (by omega) (fun _ _ e => e) (fun h' t tk kk => ⟨.str _, H, I.kept kk, ⟨t, rfl⟩, q⟩) (by decide +kernel)
  obtain ⟨v, p, rfl, dp, hs, hd, hl, hdp, q⟩ := h
  match us, r with
  | [u], .cons ru _ =>
    obtain ⟨as, rd⟩ := Dp.reads I p v u dp ru
    have fin : ∀ tk t h', (∀ b o, s.heap.get? b = some o → h'.get? b = some o) → EP X pins σ Q (.str p.shown t) { s with heap := h', toks := tk } := fun tk t h' kk => ⟨.str p.shown, H, I.kept kk, ⟨t, rfl⟩, q⟩
    cases dp with
    | non => cases ru; exact P.repr_of_none (fin _ _ s.heap fun _ _ e => e)
    | bl b => cases ru; exact P.repr_of_bool (fin _ _ s.heap fun _ _ e => e)
    | int i =>
      obtain ⟨t, rfl⟩ := ru
      have hi : i.natAbs.log2 < 1920 := by simpa [PyData.showable] using hs
      exact P.repr_of_int hi (fin _ _ s.heap fun _ _ e => e)
    | str x =>
      obtain ⟨t, rfl⟩ := ru
      exact P.repr_of_str (fin _ _ s.heap fun _ _ e => e) hl
    | tup h1 h2 =>
      cases ru
      exact repr_of_reads' rd hs (PyData.noDict_hsm hd) hgd (by omega) (fun _ _ e => e) (fun h' t tk kk => fin tk t h' kk) hl
    | lst h1 h2 =>
      cases ru
      exact repr_of_reads' rd hs (PyData.noDict_hsm hd) hgd (by omega) (fun _ _ e => e) (fun h' t tk kk => fin tk t h' kk) hl
theorem shT_py {d : D} {p : PyData} (h : py d = some p) : shT d = p.shown := by
  unfold shT
  split
  · unfold py at h; cases h
  · rw [h]
theorem s_repr {K : PySem.W.Frag} : SOp K (rRepr K) (o1 fRepr) := by
  intro H ds vs d h e
  unfold o1 at e
  split at e
  · rename_i x
    obtain ⟨v, rfl, kd⟩ := kds1 h
    unfold fRepr at e
    by_cases hi : isDic0 x = true
    · rw [if_pos hi] at e
      cases e
      have hx : x = .dic [] := by
        unfold isDic0 at hi
        split at hi
        · rfl
        · cases hi
      subst hx
      obtain ⟨a, kvs, rfl, h1, h2, _⟩ := kd.dic
      have : kvs = [] := by simpa using h2
      subst this
      exact ⟨rfl, fun Q q' => .inr ⟨a, rfl, h1, q'⟩⟩
    rw [if_neg hi] at e
    cases e1 : shW x with
    | none => rw [e1] at e; cases e
    | some q =>
      rw [e1] at e
      simp only at e
      by_cases hz : q.1 ≤ lineN ∧ q.2 ≤ 40
      · rw [if_pos hz] at e
        cases e
        obtain ⟨p, h1, h2, h3, h4, h5⟩ := shW_py e1
        have et : shT x = p.shown := shT_py h1
        rw [et]
        exact ⟨rfl, fun Q q' => .inl ⟨v, p, rfl, py_dp x kd h1, h2, h3, by rw [lineE]; omega, by omega, q'⟩⟩
      · rw [if_neg hz] at e; cases e
  · cases e
end

/-! ### a, b, .. = a list -/
section
variable {prog : Program} {w : World} {A : Around} {E : Value → Shared → Prop} {s : Shared}
theorem draw_list {it l : Addr} {items : Array Value} (hne : l ≠ it) : ∀ (n i : Nat) (s : Shared) (Q : List Value → Shared → Prop), s.heap.IsListIter it l i → s.heap.IsList l items → i + n ≤ items.size →
    (∀ h', h'.IsListIter it l (i + n) → Heap.SameBut it s.heap h' → Q ((items.toList.drop i).take n) { s with heap := h' }) → wpAny (model prog w) A (draw (.ref it) n) Q E s
  | 0, i, s, Q, hit, _, _, hQ => wpAny_pure (by simpa using hQ s.heap hit (Heap.SameBut.refl ..))
  | n + 1, i, s, Q, hit, hl, hle, hQ => by
    have hlt : i < items.size := by omega
    show wpAny _ _ (pyNext (.ref it) >>= _) Q E s
    refine wpAny_bind (wpAny_pyNext_list_item hit hl (x := items[i]) (by simp [hlt]) fun h1 hit1 hs1 => ?_)
    refine wpAny_bind (wpAny_holding (draw_list hne n (i + 1) _ _ hit1 (hl.extBut hs1.extBut hne) (by omega) fun h2 hit2 hs2 => wpAny_pure ?_))
    have hd : items.toList.drop i = items[i] :: items.toList.drop (i + 1) := by simp [List.drop_eq_getElem_cons, hlt]
    have q := hQ h2 (by rw [show i + (n + 1) = i + 1 + n by omega]; exact hit2) (hs1.trans hs2)
    rw [hd, List.take_succ_cons] at q
    exact q
theorem unpack_list {l : Addr} {items : Array Value} {Q : List Value → Shared → Prop} (hh : A.handled = none) (hl : s.heap.IsList l items)
    (hQ : ∀ h', Heap.ExtBut s.heap.objs.size s.heap h' → Q items.toList { s with heap := h' }) : wpAny (model prog w) A (unpackItems (.ref l) items.size none) Q E s := by
  have hlt : l ≠ s.heap.objs.size := by obtain ⟨o, ho, _⟩ := hl; exact Nat.ne_of_lt (Heap.lt_size ho)
  unfold unpackItems
  refine wpAny_bind ?_
  unfold notIterableAtAll
  refine wpAny_bind (wpAny_specialOf hl.typeIs slot_list_iter.lookup ?_)
  refine wpAny_pure ?_
  simp only [Bool.false_eq_true, if_false]
  refine wpAny_bind (wpAny_holding (wpAny_pyIter_list hl ?_))
  refine wpAny_bind (wpAny_holding (draw_list hlt items.size 0 _ _ ⟨_, Heap.get?_push_size _ rfl, rfl, rfl⟩ (hl.push _) (by omega) fun h1 hit1 hs1 => ?_))
  have hall : List.take items.size (List.drop 0 items.toList) = items.toList := by
    rw [List.drop_zero]; exact List.take_of_length_le (by simp)
  rw [hall, if_neg (by simp)]
  have hl1 : h1.IsList l items := (hl.push _).extBut hs1.extBut hlt
  refine wpAny_bind (wpAny_holding (wpAny_pyNext_list_end hh hit1 hl1 (by simp) fun h2 he2 => ?_))
  simp only [Option.isSome_none, Bool.false_eq_true, if_false]
  exact wpAny_pure (hQ h2 fun b o hb e => he2 b o hb (hs1.extBut b o hb (Heap.get?_push_of_some _ e)))
theorem assign_list {env : Env} {elts : List Expr} {x1} {pos : Pos} {l : Addr} {items : Array Value} {Q : Unit → Shared → Prop} (hh : A.handled = none) (hl : s.heap.IsList l items)
    (hn : (assignEach elts env).length = items.size) (hstar : (assignEach elts env).findIdx? (·.1) = none)
    (h : ∀ h', Heap.ExtBut s.heap.objs.size s.heap h' → wpAny (model prog w) A (assignInOrder ((assignEach elts env).map (·.2)) items.toList) Q E { s with heap := h' }) :
    wpAny (model prog w) A (assign (.Tuple elts x1 pos) env (.ref l)) Q E s := by
  rw [arm_assign_Tuple]
  refine wpAny_bind (wpAny_standAt ?_)
  unfold unpack
  rw [hn, hstar]
  exact wpAny_bind (wpAny_holding (unpack_list hh hl h))
end
/-- the parts of a tuple or a list -/
def partsR (x : LD) : Option (List LD) := match x.2 with
  | .tup xs => some (xs.map fun d => (if d.isS then 9 else x.1, d))
  | .lst xs => some (xs.map fun d => (if d.isS then 9 else x.1 - 1, d))
  | .rol xs => some (xs.map fun d => (if d.isS then 9 else 0, d))
  | _ => none
def gR (n : Nat) (gs : Gs) : G := fun x ρ => match partsR x with
  | some xs => if xs.length = n then gs xs ρ else none
  | none => none
section
variable {X : Cx} {P : Sg → Prop} {pos : Pos}
theorem g_row {es : List Expr} {k n : Nat} {gs : Gs} (hc : X.calm = true) (h : PGs X es (tGs X.K P gs))
    (hn : (assignEach es X.env).length = n := by rfl) (hst : (assignEach es X.env).findIdx? (·.1) = none := by rfl) : PG X (.Tuple es k pos) (tG X.K P (gR n gs)) := by
  refine ⟨fun pins s σ H v u Q I r hw => ?_⟩
  obtain ⟨⟨kx, d⟩, ρ, T, rel, p, ρ', e, q⟩ := hw
  unfold gR at e
  have fin : ∀ {k' : Nat} {b : Bool} {a : Addr} {ds : List D} {vs : List V}, v = .ref a → SqB X.K H b a vs → ds.length = vs.length → Rel X.K H ρ σ (its k' ds vs ++ T) → (if (ds.map fun d => ((if d.isS then 9 else k', d) : LD)).length = n then gs (ds.map fun d => (if d.isS then 9 else k', d)) ρ else none) = some ρ' →
      wpAny (model X.prog X.w) X.A (assign (.Tuple es k pos) X.env u) (fun _ s' => ∃ σ' H', Inv X pins σ' H' s' ∧ Q σ' H') X.xe s := fun {k' b a ds vs} ev hs hl r2 e2 => by
    subst ev
    cases r
    by_cases hz : (ds.map fun d => ((if d.isS then 9 else k', d) : LD)).length = n
    · rw [if_pos hz] at e2
      have hds : ds.length = n := by rw [← hz, List.length_map]
      obtain ⟨us, rv, ho⟩ := rowB I hs
      have r3 : Rel X.K H ρ σ (itemsOf (ds.map fun d => ((if d.isS then 9 else k', d) : LD)) vs ++ T) := by
        obtain ⟨L, c, g⟩ := r2
        refine ⟨L, c, ?_⟩
        rw [List.append_assoc] at g ⊢
        exact Good.lifts hl g
      have hsz : (assignEach es X.env).length = us.toArray.size := by rw [List.size_toArray, ← rv.length, ← hl, hds, hn]
      have go : ∀ h', (Heap.ExtBut s.heap.objs.size s.heap h') → wpAny (model X.prog X.w) X.A (assignInOrder ((assignEach es X.env).map (·.2)) us.toArray.toList) (fun _ s' => ∃ σ' H', Inv X pins σ' H' s' ∧ Q σ' H') X.xe { s with heap := h' } := fun h' hx => by
        have I1 : Inv X pins σ H { s with heap := h' } := I.kept (t' := s.toks) fun b o e => hx b o (Nat.ne_of_lt (Heap.lt_size e)) e
        exact h.run pins _ σ H vs _ Q I1 (by simpa using rv) ⟨_, ρ, T, by rw [List.length_map, hl], r3, p, ρ', e2, q⟩
      cases b with
      | true => exact assign_list (I.ok.hd hc) ho hsz hst go
      | false => exact assign_Tuple_tuple (I.ok.hd hc) ho hsz hst go
    · rw [if_neg hz] at e2; cases e2
  obtain ⟨L, c, g⟩ := rel
  cases d with
  | tup xs =>
    obtain ⟨a, vs, rfl, s1, l1, g1⟩ := g.tup_inv
    exact fin (b := false) rfl s1 l1 ⟨L, c, by rw [List.append_assoc]; exact g1⟩ e
  | lst xs =>
    obtain ⟨a, vs, rfl, s1, l1, g1⟩ := g.lst_inv
    exact fin (b := true) rfl (SqL.of s1) l1 ⟨L, c, by rw [List.append_assoc]; exact g1⟩ e
  | rol xs =>
    obtain ⟨a, vs, rfl, s1, l1, g1⟩ := g.rol_inv
    exact fin (b := true) rfl s1 l1 ⟨L, c, by rw [List.append_assoc]; exact g1⟩ e
  | _ => cases e
end
end Vs
set_option Elab.async false
set_option linter.all false
set_option maxRecDepth 100000
set_option maxHeartbeats 2000000
/-! Vs15: the law's own end: from its def on values to the statement. -/
namespace Vs
open PySem PySem.Spec PyProof.Rows L2
/-- the script as a tree -/
abbrev scr (ns : List Int) : LD := (0, .rol (ns.map .int))
theorem good_scr {K : PySem.W.Frag} {H : Hp} {a : Addr} {ns : List Int} (hO : Only H) (hS : SqL K H a (ns.map V.int)) : Good K [] H (itemsOf [scr ns] [.ref a] ++ []) := by
  have lk : LockL K H a (ns.map V.int) := by
    rcases hS with (h | h) | h
    · rcases hO a with z | ⟨o, xs, z⟩
      · rw [z] at h; cases h
      · rw [z] at h; cases h
    · exact .inl h
    · exact .inr h
  have g0 : Good K [] H [] := ⟨[], [], .nil, List.nodup_nil, fun _ h => (nomatch h), fun _ h => (nomatch h)⟩
  have g1 : Good K [] H (its 0 (ns.map D.int) (ns.map V.int) ++ []) := by
    refine Good.scalRow ?_ (kd_ints ns) g0
    rw [List.all_eq_true]
    intro y hy
    obtain ⟨z, _, rfl⟩ := List.mem_map.mp hy
    rfl
  obtain ⟨F, G, r, x⟩ := g1
  exact ⟨F, G, .rd lk (by simp) r, x⟩
section
variable {P : Program} {w : World} {K : PySem.W.Frag} {mg mb : Str → Option Value} {k : Nat} {fa a : Addr} {fd : FuncData} {F : List LD → R LD} {s0 : Shared} {vs : List Value} {ns : List Int}
theorem law_end (KX : K.In s0.heap) (hns : s0.heap.Ns mainGlobals mg) (hb : s0.heap.Ns builtinsNs mb) (hbb : ∀ x : Str, x ≠ "__name__" → mb x = bootBuiltins x) (hlim : s0.heap.NoLimit) (hg : s0.gens = #[])
    (ha : s0.heap.get? a = some { cls := .type "list", data := .seq vs.toArray }) (hi : IntsAre vs ns) (hl : ns.length ≤ sizeLine) (hr : Room k callerA)
    (hF : ∀ base : Heap, K.In base → base.Ns mainGlobals mg → FnG P w K mg base k fa fd ["script"] [] F) (hbind : ∀ (s : Shared) (u : Value), BindsTo s fd ⟨[u], []⟩ [("script", u)])
    (hT : ∃ kz ρ, F [scr ns] = .ok (kz, .bl true) ρ) :
    codeAny (model P w) callerA (.call (.ref fa) ⟨[.ref a], []⟩) (fun r s' => r = .ok (.ret (.bool true)) ∧ OldK s0.heap s'.heap ∧ s'.os = s0.os ∧ AllBare s'.gens) s0 := by
  have rv := vals_ints hi
  -- the heap H: nothing is tracked, or the script alone
  have main : ∀ H : Hp, Only H → SqL K H a (ns.map V.int) → HOk P w H s0.heap → (∀ b, H b ≠ none → b = a) → (H a ≠ none → K.lookup a = none) →
      codeAny (model P w) callerA (.call (.ref fa) ⟨[.ref a], []⟩) (fun r s' => r = .ok (.ret (.bool true)) ∧ OldK s0.heap s'.heap ∧ s'.os = s0.os ∧ AllBare s'.gens) s0 := by
    intro H hO hS hok hA hK
    have at_a : ∀ {b : Addr} {u : HO}, H b = some u → b = a := fun {b u} e => hA b (by rw [e]; exact fun z => nomatch z)
    have noD : ∀ {b : Addr} {o : Obj} {es : Array DictEntry} {ep : Nat}, s0.heap.get? b = some o → o.data = .dict es ep → H b = none := fun {b o es ep} e d => by
      cases q : H b with
      | none => rfl
      | some u =>
        rw [at_a q, ha] at e
        cases e
        cases (show Data.seq vs.toArray _ = Data.dict es ep from d)
    have toB : ∀ {b : Addr} {m : Str → Option Value}, s0.heap.Ns b m → (hidT s0.heap H).Ns b m := fun {b m} ⟨o, es, ep, e, d, r⟩ => ⟨o, es, ep, hidT_get e (noD e d), d, r⟩
    have kB : K.In (hidT s0.heap H) := fun b o e => hidT_get (KX b o e) (by
      cases q : H b with
      | none => rfl
      | some u =>
        have eb := at_a q
        subst eb
        rw [hK (by rw [q]; exact fun z => nomatch z)] at e
        cases e)
    have mB : Mod K mg (hidT s0.heap H) := ⟨kB, toB hns, ⟨mb, toB hb, hbb⟩, let ⟨mc, h1, h2⟩ := hlim; ⟨mc, toB h1, h2⟩⟩
    have e0 : Env0 P w K mg (hidT s0.heap H) callerA [] s0 H := ⟨rfl, mB, fun b o e => of_hidT e, Nat.le_of_eq (hidT_size _ _), trivial, fun b hb => absurd (show b ∈ ([] : List Addr) from hb) (by simp), hok, .of_eq hg⟩
    obtain ⟨kz, ρ, eF⟩ := hT
    refine codeAny_mono ((hF _ kB (toB hns)).run callerA [] s0 H ⟨[.ref a], []⟩ [.ref a] [.ref a] [scr ns] [] (fun v _ => v = .bl true) hr rfl e0 rfl (hbind s0 (.ref a)) (.cons rfl .nil) rfl (good_scr hO hS) ⟨_, ρ, eF, fun v H' g => g.kd.bl⟩) fun r s' h => ?_
    match r, h with
    | .ok (.ret u), ⟨v, H', os, bare, un, hok', r', q⟩ =>
      have q' : v = .bl true := q
      subst q'
      obtain rfl : u = Value.bool true := r'
      refine ⟨rfl, OldK.of_keep fun b o e => ?_, os, bare⟩
      cases q : H b with
      | none => exact un.keep b o e q (fun z => nomatch z) (by simp)
      | some u =>
        rcases hO b with z | ⟨ob, xs, z⟩
        · rw [q] at z; cases z
        · obtain ⟨e1, _⟩ := hok b _ z
          obtain ⟨e2, _⟩ := hok' b _ (un.frzs b ob _ z)
          rw [e] at e1
          cases e1
          exact e2
  cases hk : K.lookup a with
  | some o =>
    have e := KX a o hk
    rw [ha] at e
    cases e
    exact main (fun _ => none) (fun _ => .inl rfl) (.inr ⟨_, vs.toArray, _, hk, rfl, rfl, rfl, by rw [List.size_toArray, hi.length]; exact hl, by simpa using rv⟩) (fun b u z => nomatch (show (none : Option HO) = some u from z)) (fun b z => absurd rfl z) fun z => absurd rfl z
  | none =>
    have yes : ∀ {b : Addr} {o : HO}, (if b = a then some o else none) = (if b = a then some o else (none : Option HO)) := rfl
    refine main (fun b => if b = a then some (.frz { cls := .type "list", data := .seq vs.toArray } (.lst (ns.map V.int))) else none) (fun b => ?_) (.inl (.inr ⟨_, if_pos rfl⟩)) (fun b u z => ?_) (fun b z => ?_) fun _ => hk
    · by_cases h : b = a
      · exact .inr ⟨_, _, if_pos h⟩
      · exact .inl (if_neg h)
    · by_cases h : b = a
      · cases (if_pos h).symm.trans z
        subst h
        exact ⟨ha, by rw [List.length_map]; exact hl, vs, _, rv, ha⟩
      · cases (if_neg h).symm.trans z
    · by_cases h : b = a
      · exact h
      · exact absurd (if_neg h) z
end
theorem walk_G {l : PySem.W.OpenLaw} {n k : Nat} {q : Program} {loose : List Str} {XP : (Str → Option Value) → Heap → Prop} {YP : World → Heap → Prop} {d : DefRec} {K : Params → PySem.W.Frag} {F : List LD → R LD} (hn : l.most = some n) (hn2 : n ≤ sizeLine) (hdf : d.params.defaults = []) (hr : Room k callerA)
    (hY : ∀ (w : World) (h : Heap), YP w h → (K w.params).In h)
    (hF : ∀ (w : World) (mg : Str → Option Value) (fa : Addr) (h : Heap), (K w.params).In h → h.Ns mainGlobals mg → mg d.name = some (.ref fa) →
      ∃ fd : FuncData, (∀ (s : Shared) (u : Value), BindsTo s fd ⟨[u], []⟩ [("script", u)]) ∧ ∀ base : Heap, (K w.params).In base → base.Ns mainGlobals mg → FnG l.prog w (K w.params) mg base k fa fd ["script"] [] F)
    (hT : ∀ ns : List Int, ns.length ≤ n → ∃ kz ρ, F [scr ns] = .ok (kz, .bl true) ρ) : PySem.W.WalkO q loose XP YP l.row.toRowW d [] (fun f vs => PySem.call f vs) := by
  refine Att.attach_call hn hdf fun w s₀ s1 mg mb fa o pm cd doc a vs ns G Y ho hd hcd hmg hobj hints hlen hg => ?_
  have kx := hY w _ Y
  obtain ⟨fd, hb, hf⟩ := hF w mg fa _ kx G.T.g hmg
  exact law_end kx G.T.g G.T.b G.T.builtins G.T.nolimit hg hobj hints (Nat.le_trans hlen hn2) hr hf hb (hT ns hlen)
end Vs
set_option Elab.async false
set_option linter.all false
set_option maxRecDepth 100000
set_option maxHeartbeats 2000000
/-! Vs16: the generator's rules: calls by a bundle, subscripts of names, what is forgotten, y = [..], three names at once, tests of places. -/
namespace Vs
open PySem PySem.Spec PyProof.Rows L2

/-! ### a def and how it is called, in one -/
structure Cal (P : Program) (w : World) (K : PySem.W.Frag) (mg : Str → Option Value) (base : Heap) (k : Nat) (x : Str) (st : Stmt) (ps : List Str) (io : List Nat) (F : List LD → R LD) : Prop where
  ex : ∃ f fd, FnG P w K mg base k f fd ps io F ∧ Fun K x x st f fd ∧ mg x = some (.ref f)
def BindS (x : Str) (st : Stmt) (ps ks : List Str) (n : Nat) (pm : List Nat) : Prop := ∀ (kV doc pmv : Value) (an : Option Addr) (cdv ct : Value) (us ws : List Value), us.length = n → ws.length = ks.length →
  bindArgs (PySem.W.fnOf x x (defArgs st) (defBody st) (defScope st) .none kV doc pmv an cdv ct) ⟨us, ks.zip ws⟩ = pure (ps.zip (pickL pm (us ++ ws))) ∧ (pickL pm (us ++ ws)).length = ps.length
section
variable {X : Cx} {W : Wish} {k j : Nat} {st : Stmt} {ps ks : List Str} {io pm : List Nat} {F : List LD → R LD} {x : Str} {p pos : Pos} {e : Expr} {es : List Expr} {kws : List Keyword} {m mk : M (List Ar)} {n kn : Nat}
theorem c_call (C : Cal X.prog X.w X.K X.mg X.base j x st ps io F) (hb : BindS x st ps [] n pm) (hpm : pm.Perm (List.range (n + 0))) (hr : Room k X.A) (hj : j ≤ k) (hgd : X.A.guards = some []) (hx : Passes CX0 X E0) (hg : Gl X x) (ha : PA X (e :: es) (tAs X.K W m))
    (hdb : (x == ("__debug__" : Str)) = false := by decide) (he : starEach (e :: es) X.env = (false, eval e X.env) :: starEach es X.env := by rfl) (hpl : (backTo pos (starEach es X.env)).any (·.1) = false := by rfl) :
    PE X (.Call (.Name x p) (e :: es) [] pos) (tV X.K W (callG F io pm n 0 m noAr)) := by
  obtain ⟨f, fd, G, U, hm⟩ := C.ex
  exact v_call G (hr.mono hj) hgd (Vs.Fun.bindG [] n pm U hb) hpm hx hg hm U.kp ha hdb he hpl
theorem c_call0 (C : Cal X.prog X.w X.K X.mg X.base j x st ps io F) (hb : BindS x st ps [] 0 []) (hr : Room k X.A) (hj : j ≤ k) (hgd : X.A.guards = some []) (hx : Passes CX0 X E0) (hg : Gl X x) (hdb : (x == ("__debug__" : Str)) = false := by decide) :
    PE X (.Call (.Name x p) [] [] pos) (tV X.K W (callG F io [] 0 0 noAr noAr)) := by
  obtain ⟨f, fd, G, U, hm⟩ := C.ex
  exact v_call0 G (hr.mono hj) hgd (Vs.Fun.bindG [] 0 [] U hb) hx hg hm U.kp hdb
theorem c_callK (C : Cal X.prog X.w X.K X.mg X.base j x st ps io F) (hb : BindS x st ps ks 0 pm) (hpm : pm.Perm (List.range (0 + kn))) (hkn : ks.length = kn) (hr : Room k X.A) (hj : j ≤ k) (hgd : X.A.guards = some []) (hx : Passes CX0 X E0) (hg : Gl X x) (ha : PK X kws (tAs X.K W mk))
    (hall : (backToKw pos (keywordEach kws X.env)).all (·.1.isSome) = true := by rfl) (hks : (backToKw pos (keywordEach kws X.env)).filterMap (·.1) = ks := by rfl) (hdb : (x == ("__debug__" : Str)) = false := by decide)
    (hpl : ((backTo pos (starEach [] X.env)).any (·.1) || (backToKw pos (keywordEach kws X.env)).any (·.1.isNone)) = false := by rfl) : PE X (.Call (.Name x p) [] kws pos) (tV X.K W (callG F io pm 0 kn noAr mk)) := by
  obtain ⟨f, fd, G, U, hm⟩ := C.ex
  exact v_callK G (hr.mono hj) hgd (Vs.Fun.bindG ks 0 pm U hb) hpm hkn hx hg hm U.kp ha hall hks hdb hpl
theorem c_callKW (C : Cal X.prog X.w X.K X.mg X.base j x st ps io F) (hb : BindS x st ps ks n pm) (hpm : pm.Perm (List.range (n + kn))) (hkn : ks.length = kn) (hr : Room k X.A) (hj : j ≤ k) (hgd : X.A.guards = some []) (hx : Passes CX0 X E0) (hg : Gl X x) (ha : PA X (e :: es) (tAs X.K W m)) (hb2 : PK X kws (tAs X.K W mk))
    (hall : (backToKw pos (keywordEach kws X.env)).all (·.1.isSome) = true := by rfl) (hks : (backToKw pos (keywordEach kws X.env)).filterMap (·.1) = ks := by rfl) (hdb : (x == ("__debug__" : Str)) = false := by decide)
    (he : starEach (e :: es) X.env = (false, eval e X.env) :: starEach es X.env := by rfl) (hpl : ((backTo pos (starEach (e :: es) X.env)).any (·.1) || (backToKw pos (keywordEach kws X.env)).any (·.1.isNone)) = false := by rfl) :
    PE X (.Call (.Name x p) (e :: es) kws pos) (tV X.K W (callG F io pm n kn m mk)) := by
  obtain ⟨f, fd, G, U, hm⟩ := C.ex
  exact v_callKW G (hr.mono hj) hgd (Vs.Fun.bindG ks n pm U hb) hpm hkn hx hg hm U.kp ha hb2 hall hks hdb he hpl
end

/-! ### what is forgotten -/
def forget {α : Type} (vs : List Nat) (m : M α) : M α := fun ρ => m (wipeC ρ vs)
section
variable {K : PySem.W.Frag} {H : Hp} {ρ : Rho} {σ : Sg} {T : List Item}
theorem Rel.wipe1 (r : Rel K H ρ σ T) (i : Nat) : Rel K H (ρ.set i .u) σ T := by
  obtain ⟨L, c, g⟩ := r
  obtain ⟨M, L', p, c'⟩ := c.wipe i
  refine ⟨L', c', ?_⟩
  have g1 : Good K [] H (M ++ (T ++ L')) := g.perm ((p.append_left T).trans (by
    rw [← List.append_assoc, ← List.append_assoc]
    exact List.perm_append_comm.append_right L'))
  exact g1.dropA
theorem Rel.wipes (r : Rel K H ρ σ T) : ∀ vs : List Nat, Rel K H (wipeC ρ vs) σ T
  | [] => r
  | v :: vs => (Rel.wipes r vs).wipe1 v
end
section
variable {X : Cx} {W : Wish} {P : Sg → Prop} {e : Expr} {st : Stmt} {m : M LD} {mo : M Out} {mt : M Bool}
theorem v_forget (vs : List Nat) (h : PE X e (tV X.K W m)) : PE X e (tV X.K W (forget vs m)) := PE.imp h fun σ H Q ⟨ρ, T, r, a⟩ => ⟨_, T, r.wipes vs, a⟩
theorem s_forget (vs : List Nat) (h : PS X st (tS X.K W P mo)) : PS X st (tS X.K W P (forget vs mo)) := PS.imp h fun σ H Q ⟨ρ, T, r, p, a⟩ => ⟨_, T, r.wipes vs, p, a⟩
end

/-! ### y = [..], a, b, c = .. -/
section
variable {X : Cx} {W : Wish} {P : Sg → Prop} {tg it elt : Expr} {pos : Pos} {ifs : List Expr} {scope : Scope} {own : List (Str × Nat)} {mi : M (List D)} {g : G} {mt : M Bool} {me : M LD}
theorem s_setLc {i : Nat} {y : Str} {py spos : Pos} (hc : X.calm = true) (hN : X.N.Nodup) (hy : X.N[i]? = some y) (hyl : X.env.scope.names.lookup y = some .local)
    (hsw : swapsWith (.ListComp elt [⟨tg, it, ifs, 0⟩] scope pos) (some (.Name y py)) spos.line X.env = pure true) (hi : PI X tg it (tI X.K W mi)) (ok : BlkOk X.N X.env.scope scope own)
    (hg : ∀ (σ0 : Sg) (s : Shared) (H : Hp) (C : Addr) (cl : List (Str × Addr)) (fp : List Addr), PG (X.blk s H scope (compEnvC scope cl C X.env) fp) tg (tG X.K (Blk (own.map (·.2)) σ0) g))
    (ht : ∀ (s : Shared) (H : Hp) (C : Addr) (cl : List (Str × Addr)) (fp : List Addr), PTs (X.blk s H scope (compEnvC scope cl C X.env) fp) ifs (tT X.K W0 mt))
    (he : ∀ (s : Shared) (H : Hp) (C : Addr) (cl : List (Str × Addr)) (fp : List Addr), PE (X.blk s H scope (compEnvC scope cl C X.env) fp) elt (tV X.K W0 me)) (hP : Stays P i) (hs : ∀ x, foldedSetIterable it X.env x = pure x := by intro _; rfl) :
    PS X (.Assign [.Name y py] (.ListComp elt [⟨tg, it, ifs, 0⟩] scope pos) spos) (tS X.K W P (sAsg (comp (own.map (·.2)) mi g mt me) (gN i))) := by
  refine ⟨fun pins s σ H D I hq => ?_⟩
  refine (ps_setLc (te := tV X.K W0 me) (tt := tT X.K W0 mt) (g := fun v σ' H Q => tG X.K (Blk (own.map (·.2)) σ) g v σ' H Q) hc hN hy hyl hsw hi ok (fun s H C cl fp => hg σ s H C cl fp) ht he hs).run pins s σ H D I ?_
  refine comp_run (W := W) ?_
  obtain ⟨ρ, T, r, a⟩ := asg_run hq
  refine ⟨ρ, T, r, a.imp fun y ρ' q v H' r' => ?_⟩
  obtain ⟨y', ρ2, T2, r2, p2, ρ3, e3, q3⟩ := q v H' r'
  unfold gN at e3
  by_cases hi' : i < ρ2.length
  · rw [if_pos hi'] at e3
    cases e3
    exact q3 _ H' (r2.store hi') (hP _ _ p2)
  · rw [if_neg hi'] at e3; cases e3
def sPar3 (i j l : Nat) (ma mb mc : M LD) : M Out := ma.bind fun x => mb.bind fun y => mc.bind fun z ρ => if i < ρ.length ∧ j < ρ.length ∧ l < ρ.length then .ok .nx (((ρ.set i (.c x.1 x.2)).set j (.c y.1 y.2)).set l (.c z.1 z.2)) else .no
theorem s_par3 {i j l : Nat} {x y z : Str} {a b c : Expr} {ma mb mc : M LD} {px py pz pt : Pos} {kt k2 pt2} (hc : X.calm = true) (hN : X.N.Nodup) (hi : X.N[i]? = some x) (hj : X.N[j]? = some y) (hl : X.N[l]? = some z) (hij : i ≠ j) (hil : i ≠ l) (hjl : j ≠ l)
    (hx : X.env.scope.names.lookup x = some .local) (hy : X.env.scope.names.lookup y = some .local) (hz : X.env.scope.names.lookup z = some .local) (ha : PE X a (tV X.K W ma)) (hb : PE X b (tV X.K W mb)) (hcc : PE X c (tV X.K W mc)) (hPi : Stays P i) (hPj : Stays P j) (hPl : Stays P l)
    (hw : swappedStores [.Tuple [.Name x px, .Name y py, .Name z pz] kt pt] (.Tuple [a, b, c] k2 pt2) X.env = pure (some [x, y, z]))
    (hs : swapsWithSole [.Tuple [.Name x px, .Name y py, .Name z pz] kt pt] (.Tuple [a, b, c] k2 pt2) pos.line X.env = pure false := by rfl)
    (he : starEach [a, b, c] X.env = (false, eval a X.env) :: starEach [b, c] X.env := by rfl) (he2 : starEach [b, c] X.env = (false, eval b X.env) :: starEach [c] X.env := by rfl) (he3 : starEach [c] X.env = (false, eval c X.env) :: starEach [] X.env := by rfl) :
    PS X (.Assign [.Tuple [.Name x px, .Name y py, .Name z pz] kt pt] (.Tuple [a, b, c] k2 pt2) pos) (tS X.K W P (sPar3 i j l ma mb mc)) := by
  refine PS.imp (ps_par3 hc hN hi hj hl hij hil hjl hx hy hz (pa_cons ha (pa_cons hb (pa_cons hcc pa_nil he3) he2) he) hw hs) fun D σ H ⟨ρ, T, r, p, h⟩ => ?_
  refine ⟨ρ, T, r, h.bind.imp fun x1 ρ1 q1 v1 H1 r1 => ⟨ρ1, _, r1, (q1.bind.up).imp fun x2 ρ2 q2 v2 H2 r2 => ⟨ρ2, _, r2, (q2.bind.up.up).imp fun x3 ρ3 q3 v3 H3 r3 => ?_⟩⟩⟩
  have q3' : Aft W T (if i < ρ3.length ∧ j < ρ3.length ∧ l < ρ3.length then R.ok Out.nx (((ρ3.set i (.c x1.1 x1.2)).set j (.c x2.1 x2.2)).set l (.c x3.1 x3.2)) else R.no) fun o ρ' => OutP X.K W P T D ρ' o := q3
  by_cases hl : i < ρ3.length ∧ j < ρ3.length ∧ l < ρ3.length
  · rw [if_pos hl] at q3'
    refine ⟨v1, v2, v3, rfl, ?_⟩
    have r4 : Rel X.K H3 ρ3 σ ((x1.1, x1.2, v1) :: (x2.1, x2.2, v2) :: (x3.1, x3.2, v3) :: T) := r3.good fun L g => g.perm (by
      show ((x3.1, x3.2, v3) :: (x2.1, x2.2, v2) :: (x1.1, x1.2, v1) :: (T ++ L)).Perm ((x1.1, x1.2, v1) :: (x2.1, x2.2, v2) :: (x3.1, x3.2, v3) :: (T ++ L))
      exact ((List.Perm.swap _ _ _).trans ((List.Perm.swap _ _ _).cons _)).trans (List.Perm.swap _ _ _) |>.trans (by
        refine (List.Perm.refl _).trans ?_
        exact List.Perm.refl _))
    have r5 := ((r4.store hl.1).store (i := j) (by rw [List.length_set]; exact hl.2.1)).store (i := l) (by rw [List.length_set, List.length_set]; exact hl.2.2)
    exact q3' _ H3 r5 (hPl _ _ (hPj _ _ (hPi _ _ p)))
  · rw [if_neg hl] at q3'; exact q3'.elim
end
end Vs
set_option Elab.async false
set_option linter.all false
set_option maxRecDepth 100000
set_option maxHeartbeats 2000000
/-! Vs17: x[i] of a name whatever it holds; a place that is compared. -/
namespace Vs
open PySem PySem.Spec PyProof.Rows L2

def keyOfD : D → Option Key
  | .int i => some (Sum.inl i)
  | .str x => some (Sum.inr x)
  | _ => none
/-- an item of a name's content: the item, the content's level afterwards -/
def subI (k : Nat) (x y : D) : Option (LD × Nat) := match x with
  | .dic ks => (keyOfD y).bind fun kk => (lookK ks kk).map fun d => if d.isS then ((9, d), k) else ((0, d), min k 1)
  | .str z => match y with
    | .int i => if z.length ≤ lineN then (atI z.cps.toList i).map fun c => ((9, .str ⟨#[c]⟩), k) else none
    | _ => none
  | x => match y with
    | .int i => viewI k x i
    | _ => none
section
variable {K : PySem.W.Frag} {H H' : Hp} {L : List Item} {Rs : List Addr} {ρ : Rho} {σ : Sg} {T : List Item}
theorem keyOfD_eq {y : D} {kk : Key} (e : keyOfD y = some kk) : y.isS = true ∧ y.sv = kV kk := by
  cases y with
  | int i => cases e; exact ⟨rfl, rfl⟩
  | str x => cases e; exact ⟨rfl, rfl⟩
  | _ => cases e
theorem Good.item2 {k k' : Nat} {x y : D} {z : LD} {v : V} (g : Good K Rs H ((k, x, v) :: L)) (e : subI k x y = some (z, k')) :
    ∃ u, Good K Rs H ((z.1, z.2, u) :: (k', x, v) :: L) ∧ y.isS = true ∧ ∀ Q : VK, Q u H → rSub K v y.sv H Q := by
  have plain : ∀ i, y = .int i → viewI k x i = some (z, k') → ∃ u, Good K Rs H ((z.1, z.2, u) :: (k', x, v) :: L) ∧ y.isS = true ∧ ∀ Q : VK, Q u H → rSub K v y.sv H Q := fun i ey ev => by
    subst ey
    obtain ⟨u, g2, f⟩ := g.item ev
    exact ⟨u, g2, rfl, fun Q q => .inl (f Q q)⟩
  unfold subI at e
  cases x with
  | dic ks =>
    simp only at e
    cases ek : keyOfD y with
    | none => rw [ek] at e; cases e
    | some kk =>
      cases el : lookK ks kk with
      | none => rw [ek] at e; simp [el] at e
      | some d =>
        rw [ek] at e
        obtain ⟨ys, yk⟩ := keyOfD_eq ek
        obtain ⟨p, kvs, e1, h1, h2, _⟩ := g.kd.dic
        subst e1
        obtain ⟨n, u, h3, h4, h5, _⟩ := lookK_at h2 el
        have dg : DGet H p (kV kk) (some u) := by
          have := DGet.k (k := kk) h1
          rwa [valV_look, h3] at this
        have fo : Fol H (.ref p) [.ky kk] u := ⟨p, kvs, u, rfl, h1, h3, rfl⟩
        have su : subT (.dic ks) [.ky kk] = some d := by
          show (lookK ks kk).bind (fun x => subT x []) = some d
          rw [el]
          rfl
        have e' : (if d.isS then (((9, d) : LD), k) else ((0, d), min k 1)) = (z, k') := by
          have : ((some kk).bind fun kk => (lookK ks kk).map fun d => if d.isS then (((9, d) : LD), k) else ((0, d), min k 1)) = some (z, k') := e
          rw [Option.bind_some, el, Option.map_some] at this
          exact Option.some.inj this
        by_cases s : d.isS = true
        · rw [if_pos s] at e'
          cases e'
          obtain rfl := (KD.sub (d := .dic ks) (r := .ref p) g.kd fo su).isS s
          exact ⟨_, g.scal s, ys, fun Q q => .inr ⟨p, _, rfl, by rw [yk]; exact dg, q⟩⟩
        · rw [if_neg s] at e'
          cases e'
          exact ⟨u, Good.shareAt g fo su, ys, fun Q q => .inr ⟨p, u, rfl, by rw [yk]; exact dg, q⟩⟩
  | str s =>
    simp only at e
    cases y with
    | int i =>
      simp only at e
      by_cases hz : s.length ≤ lineN
      · rw [if_pos hz] at e
        cases ea : atI s.cps.toList i with
        | none => rw [ea] at e; cases e
        | some c =>
          rw [ea] at e
          cases e
          obtain rfl := g.kd.str
          exact ⟨.str ⟨#[c]⟩, g.scal (d := .str ⟨#[c]⟩) rfl, rfl, fun Q q => .inl (.inr (.inr ⟨s, i, c, rfl, rfl, by rw [lineE]; exact hz, ea, q⟩))⟩
      · rw [if_neg hz] at e; cases e
    | _ => cases e
  | lst xs => cases y with
    | int i => exact plain i rfl e
    | _ => cases e
  | tup xs => cases y with
    | int i => exact plain i rfl e
    | _ => cases e
  | rol xs => cases y with
    | int i => exact plain i rfl e
    | _ => cases e
  | _ =>
    simp only at e
    cases y with
    | int i => exact plain i rfl e
    | _ => cases e
end
def subN (j : Nat) (mi : M LD) : M LD := fun ρ => match ρ[j]? with
  | some (.c _ _) => M.bind mi (fun y ρ1 => match ρ1[j]? with
    | some (.c k d) => match subI k d y.2 with
      | some (z, k') => .ok z (ρ1.set j (.c k' d))
      | none => .no
    | _ => .no) ρ
  | _ => .no
section
variable {X : Cx} {W : Wish} {ea eb : Expr} {pos p1 : Pos} {ma mb : M LD} {j k : Nat} {x : Str}
theorem v_subN (hr : Room k X.A) (ha : PE X (.Name x p1) (tVar j)) (hb : PE X eb (tV X.K W mb)) (hs : PlainIx eb) : PE X (.Subscript (.Name x p1) eb pos) (tV X.K W (subN j mb)) := by
  refine PE.imp (pe_ix (ix_sub (hu_of hr)) ha hb hs) fun σ H Q ⟨ρ, T, rel, a⟩ => ?_
  unfold subN at a
  cases q : ρ[j]? with
  | none => rw [q] at a; exact a.elim
  | some c0 =>
    cases c0 with
    | u => rw [q] at a; exact a.elim
    | c k0 d0 =>
      rw [q] at a
      obtain ⟨v, hv, _⟩ := rel.kd q
      refine ⟨v, hv, ρ, T, rel, a.bind.imp fun y ρ1 q1 w H1 r1 => ?_⟩
      cases e1 : ρ1[j]? with
      | none => rw [e1] at q1; exact q1.elim
      | some c1 =>
        cases c1 with
        | u => rw [e1] at q1; exact q1.elim
        | c k d =>
          rw [e1] at q1
          simp only at q1
          cases e2 : subI k d y.2 with
          | none => rw [e2] at q1; exact q1.elim
          | some zz =>
            obtain ⟨z, k'⟩ := zz
            rw [e2] at q1
            obtain ⟨L, c, g⟩ := r1.drop.move2 e1 hv
            obtain ⟨u, g2, ys, f⟩ := g.item2 e2
            obtain rfl := r1.top.isS ys
            refine f Q (q1 u H1 ?_)
            have r2 : Rel X.K H1 (ρ1.set j .u) σ ((k', d, v) :: (z.1, z.2, u) :: T) := ⟨L, c, g2.perm (.swap _ _ _)⟩
            have r3 := r2.back (getElem?_set_u e1) hv
            rwa [set_set_c] at r3
end

/-! ### a place compared with [] or with something still -/
def tNw (K : PySem.W.Frag) (ms : List (Rho → Option D)) : TE := fun σ H Q => ∃ ρ T, Rel K H ρ σ T ∧ ∃ ds, qRow ms ρ = some ds ∧ ds.length ≤ lineN ∧ ∀ p, H p = none → Q (.ref p) (upd H p (.lst (ds.map D.sv)))
def cmpP (o : List D → Option D) (mp : M Place) (bs : List (Rho → Option D)) : M LD := mp.bind fun jp ρ => match ρ[jp.1]?, qRow bs ρ with
  | some (.c _ d), some ds => match subT d jp.2 with
    | some d1 => if ds.length ≤ lineN then (match o [d1, .lst ds] with
      | some z => .ok (9, z) ρ
      | none => .no) else .no
    | none => .no
  | _, _ => .no
section
variable {X : Cx} {W : Wish} {P : Sg → Prop} {ea : Expr} {es : List Expr} {pos p2 : Pos} {mp : M Place} {bs : List (Rho → Option D)} {k : Nat} {o : List D → Option D} {r : R2} {op : CmpOp}
theorem n_lst (h : PA X es (tQs X.K bs)) : PE X (.List es p2) (tNw X.K bs) := by
  refine PE.imp (pe_lst h) fun σ H Q ⟨ρ, T, rel, ds, e, hz, q⟩ => ⟨ρ, T, rel, ds, e, by rw [List.length_map, lineE]; exact hz, q⟩
theorem Fol.up {H : Hp} {p : Addr} {ob : HO} (hp : H p = none) : ∀ {π : List Step} {r u : V}, Fol H r π u → Fol (upd H p ob) r π u
  | [], _, _, e => e
  | .ix n :: π, _, _, ⟨q, ws, w, e, h1, h2, f⟩ => ⟨q, ws, w, e, by rw [upd_ne (fun z => by rw [z, hp] at h1; cases h1)]; exact h1, h2, Fol.up hp f⟩
  | .ky n :: π, _, _, ⟨q, ws, w, e, h1, h2, f⟩ => ⟨q, ws, w, e, by rw [upd_ne (fun z => by rw [z, hp] at h1; cases h1)]; exact h1, h2, Fol.up hp f⟩
theorem cmpP_run (ho : SOp X.K (fun vs H Q => ∃ x y, vs = [x, y] ∧ r x y H Q) o) {σ : Sg} {H : Hp} {Q : VK} (h : tV X.K W (cmpP o mp bs) σ H Q) : tOp r (tPl X.K W mp) (tNw X.K bs) σ H Q := by
  obtain ⟨ρ, T, rel, a⟩ := h
  refine ⟨ρ, T, rel, a.bind.imp fun jp ρ1 q1 v H1 r1 ⟨rt, hrt, f⟩ => ?_⟩
  obtain ⟨j, π⟩ := jp
  cases ec : ρ1[j]? with
  | none => simp only [ec] at q1; exact q1.elim
  | some c =>
    cases c with
    | u => simp only [ec] at q1; exact q1.elim
    | c k d =>
      cases eq : qRow bs ρ1 with
      | none => simp only [ec, eq] at q1; exact q1.elim
      | some ds =>
        simp only [ec, eq] at q1
        cases es : subT d π with
        | none => rw [es] at q1; exact q1.elim
        | some d1 =>
          rw [es] at q1
          simp only at q1
          by_cases hz : ds.length ≤ lineN
          · rw [if_pos hz] at q1
            cases eo : o [d1, .lst ds] with
            | none => rw [eo] at q1; exact q1.elim
            | some z =>
              rw [eo] at q1
              refine ⟨ρ1, T, r1, ds, eq, hz, fun p hp => ?_⟩
              have r2 : Rel X.K (upd H1 p (.lst (ds.map D.sv))) ρ1 σ ((0 + 1, .lst ds, .ref p) :: T) := r1.good fun L g => by
                have g2 : Good X.K [] H1 (its 0 ds (ds.map D.sv) ++ (T ++ L)) := by
                  refine Good.scalRow (qRow_s eq) ?_ g
                  have key : ∀ ds : List D, ds.all D.isS = true → KDs X.K H1 ds (ds.map D.sv) := by
                    intro ds
                    induction ds with
                    | nil => intro _; exact .nil
                    | cons d ds ih =>
                      intro h
                      rw [List.all_cons, Bool.and_eq_true] at h
                      exact .cons (s_kd h.1) (ih h.2)
                  exact key ds (qRow_s eq)
                exact g2.newL (by simp) hp
              obtain ⟨r', hr', kd⟩ := r2.drop.kd ec
              rw [hrt] at hr'
              cases hr'
              have k1 : KD X.K _ d1 v := KD.sub (d := d) (r := rt) kd (f.up hp) es
              obtain ⟨s, g⟩ := ho _ [d1, .lst ds] [v, .ref p] z (.cons k1 (.cons r2.top .nil)) eo
              obtain ⟨x', y', e', h'⟩ := g Q (q1 _ _ (r2.drop.scal s))
              cases e'
              exact h'
          · rw [if_neg hz] at q1; exact q1.elim
theorem v_cmpP (hr : OpR X (compareOp op) r) (ho : SOp X.K (fun vs H Q => ∃ x y, vs = [x, y] ∧ r x y H Q) o) (ha : PE X ea (tPl X.K W mp)) (hb : PA X es (tQs X.K bs))
    (hm : behindInMarks op (.List es p2) = false := by first | exact nomark _ (by decide) (by decide) | rfl) : PE X (.Compare ea [op] [.List es p2] pos) (tV X.K W (cmpP o mp bs)) :=
  PE.imp (pe_cmpR hr ha (n_lst hb) hm) fun σ H Q h => cmpP_run ho h
theorem t_cmpP (hr : OpR X (compareOp op) r) (ho : SOp X.K (fun vs H Q => ∃ x y, vs = [x, y] ∧ r x y H Q) o) (ha : PE X ea (tPl X.K W mp)) (hb : PA X es (tQs X.K bs))
    (hm : behindInMarks op (.List es p2) = false := by first | exact nomark _ (by decide) (by decide) | rfl) : PT X (.Compare ea [op] [.List es p2] pos) (tT X.K W (asB (cmpP o mp bs))) :=
  t_b (t := tOp r (tPl X.K W mp) (tNw X.K bs)) (pt_cmpR hr ha (n_lst hb) hm) fun σ H Q h => cmpP_run ho h
theorem t_neP (hr : Room k X.A) (ha : PE X ea (tPl X.K W mp)) (hb : PA X es (tQs X.K bs)) : PT X (.Compare ea [.NotEq] [.List es p2] pos) (tT X.K W (asB (cmpP oNe mp bs))) := t_cmpP (OpR.or op_ne (op_neD hr.units)) s_ne ha hb
theorem t_eqP (hr : Room k X.A) (ha : PE X ea (tPl X.K W mp)) (hb : PA X es (tQs X.K bs)) : PT X (.Compare ea [.Eq] [.List es p2] pos) (tT X.K W (asB (cmpP oEq mp bs))) := t_cmpP (OpR.or op_eq (op_eqD hr.units)) s_eq ha hb
end
end Vs
set_option Elab.async false
set_option linter.all false
set_option maxRecDepth 100000
set_option maxHeartbeats 2000000
/-! Vs18: all, any, min, max of two; chains of comparisons; is True. -/
namespace Vs
open PySem PySem.Spec PyProof.Rows L2

def blsD : List D → Option (List Bool)
  | [] => some []
  | .bl b :: xs => (blsD xs).map (b :: ·)
  | _ => none
def fAll : D → Option D
  | .lst xs => (blsD xs).map fun bs => .bl (bs.all id)
  | _ => none
def fAny : D → Option D
  | .lst xs => (blsD xs).map fun bs => .bl (bs.any id)
  | _ => none
def omin2 : List D → Option D
  | [.int i, .int j] => some (.int (if j < i then j else i))
  | _ => none
def omax2 : List D → Option D
  | [.int i, .int j] => some (.int (if j > i then j else i))
  | _ => none
section
variable {K : PySem.W.Frag} {H : Hp}
theorem blsD_map : ∀ {ds : List D} {bs : List Bool}, blsD ds = some bs → ds = bs.map .bl
  | [], _, e => by cases e; rfl
  | .bl b :: xs, ns, e => by
    unfold blsD at e
    cases q : blsD xs with
    | none => rw [q] at e; cases e
    | some ms => rw [q] at e; cases e; rw [blsD_map q]; rfl
  | .non :: _, _, e => by cases e
  | .int _ :: _, _, e => by cases e
  | .str _ :: _, _, e => by cases e
  | .tup _ :: _, _, e => by cases e
  | .lst _ :: _, _, e => by cases e
  | .dic _ :: _, _, e => by cases e
  | .dit _ :: _, _, e => by cases e
  | .iset _ :: _, _, e => by cases e
  | .rol _ :: _, _, e => by cases e
  | .pin _ :: _, _, e => by cases e
theorem KDs.bls : ∀ {bs : List Bool} {vs : List V}, KDs K H (bs.map .bl) vs → vs = bs.map V.bl
  | [], _, h => by cases h; rfl
  | b :: bs, _, h => by
    cases h with
    | cons h1 h2 => rw [h1.bl, KDs.bls h2]; rfl
theorem s_all : SOp K (rAll K) (o1 fAll) := by
  intro H ds vs d h e
  unfold o1 at e
  split at e
  · obtain ⟨v, rfl, k⟩ := kds1 h
    unfold fAll at e
    split at e
    · rename_i xs
      cases q : blsD xs with
      | none => rw [q] at e; cases e
      | some bs =>
        rw [q] at e; cases e
        obtain rfl := blsD_map q
        obtain ⟨p, ws, rfl, h1, h2⟩ := k.lst
        obtain rfl := h2.bls
        exact ⟨rfl, fun Q q => ⟨p, bs, rfl, SqL.of h1, q⟩⟩
    · cases e
  · cases e
theorem s_any : SOp K (rAny K) (o1 fAny) := by
  intro H ds vs d h e
  unfold o1 at e
  split at e
  · obtain ⟨v, rfl, k⟩ := kds1 h
    unfold fAny at e
    split at e
    · rename_i xs
      cases q : blsD xs with
      | none => rw [q] at e; cases e
      | some bs =>
        rw [q] at e; cases e
        obtain rfl := blsD_map q
        obtain ⟨p, ws, rfl, h1, h2⟩ := k.lst
        obtain rfl := h2.bls
        exact ⟨rfl, fun Q q => ⟨p, bs, rfl, SqL.of h1, q⟩⟩
    · cases e
  · cases e
theorem s_min2 : SOp K (fun xs H Q => ∃ i j, xs = [V.int i, V.int j] ∧ Q (.int (if j < i then j else i)) H) omin2 := by
  intro H ds vs d h e
  unfold omin2 at e
  split at e
  · cases e
    obtain ⟨v, w, rfl, h1, h2⟩ := kds2 h
    obtain rfl := h1.int
    obtain rfl := h2.int
    exact ⟨rfl, fun Q q => ⟨_, _, rfl, q⟩⟩
  · cases e
theorem s_max2 : SOp K (fun xs H Q => ∃ i j, xs = [V.int i, V.int j] ∧ Q (.int (if j > i then j else i)) H) omax2 := by
  intro H ds vs d h e
  unfold omax2 at e
  split at e
  · cases e
    obtain ⟨v, w, rfl, h1, h2⟩ := kds2 h
    obtain rfl := h1.int
    obtain rfl := h2.int
    exact ⟨rfl, fun Q q => ⟨_, _, rfl, q⟩⟩
  · cases e
/-- is, is not, of truth values -/
def oIsB : List D → Option D
  | [.bl a, .bl b] => some (.bl (decide (a = b)))
  | _ => none
def oNotB : List D → Option D
  | [.bl a, .bl b] => some (.bl (!decide (a = b)))
  | _ => none
theorem s_isB : SOp K (fun vs H Q => ∃ x y, vs = [x, y] ∧ rIsB x y H Q) oIsB := by
  intro H ds vs d h e
  unfold oIsB at e
  split at e
  · cases e
    obtain ⟨v, w, rfl, h1, h2⟩ := kds2 h
    obtain rfl := h1.bl
    obtain rfl := h2.bl
    exact ⟨rfl, fun Q q => ⟨_, _, rfl, _, _, rfl, rfl, q⟩⟩
  · cases e
theorem s_notB : SOp K (fun vs H Q => ∃ x y, vs = [x, y] ∧ rNotB x y H Q) oNotB := by
  intro H ds vs d h e
  unfold oNotB at e
  split at e
  · cases e
    obtain ⟨v, w, rfl, h1, h2⟩ := kds2 h
    obtain rfl := h1.bl
    obtain rfl := h2.bl
    exact ⟨rfl, fun Q q => ⟨_, _, rfl, _, _, rfl, rfl, q⟩⟩
  · cases e
end
section
variable {X : Cx} {W : Wish} {ea eb ec : Expr} {pos : Pos} {ma mb mc : M Ar}
theorem v_isB (ha : PE X ea (tA X.K W ma)) (hb : PE X eb (tA X.K W mb)) : PE X (.Compare ea [.Is] [eb] pos) (tV X.K W (sop oIsB (two ma mb))) := v_cmp2 op_isBl s_isB ha hb
theorem v_notB (ha : PE X ea (tA X.K W ma)) (hb : PE X eb (tA X.K W mb)) : PE X (.Compare ea [.IsNot] [eb] pos) (tV X.K W (sop oNotB (two ma mb))) := v_cmp2 op_notBl s_notB ha hb
theorem t_isB (ha : PE X ea (tA X.K W ma)) (hb : PE X eb (tA X.K W mb)) : PT X (.Compare ea [.Is] [eb] pos) (tT X.K W (asB (sop oIsB (two ma mb)))) := t_cmp2 op_isBl s_isB ha hb
theorem t_notB (ha : PE X ea (tA X.K W ma)) (hb : PE X eb (tA X.K W mb)) : PT X (.Compare ea [.IsNot] [eb] pos) (tT X.K W (asB (sop oNotB (two ma mb)))) := t_cmp2 op_notBl s_notB ha hb

/-! ### a op b op c, of numbers that are there (names, constants, their sums ..): the middle one is looked at twice -/
def chn (o o' : Int → Int → Bool) (a b c : M LD) : M LD := a.bind fun x => b.bind fun y => match x.2, y.2 with
  | .int i, .int j => if o i j then c.bind fun z => match z.2 with
      | .int l => M.ret (9, .bl (o' j l))
      | _ => fun _ => .no
    else M.ret (9, .bl false)
  | _, _ => fun _ => .no
variable {va vb vc : M LD} {op op' : CmpOp} {o o' : Int → Int → Bool}
theorem chn_run {σ : Sg} {H : Hp} {Q : VK} (h : tV X.K W (chn o o' va vb vc) σ H Q) : tChain (rI0 fun i j => .bl (o i j)) (rI0 fun i j => .bl (o' i j)) (tV X.K W va) (tV X.K W vb) (tV X.K W vc) σ H Q := by
  obtain ⟨ρ, T, rel, a⟩ := h
  refine ⟨ρ, T, rel, a.bind.imp fun x ρ1 q1 v H1 r1 => ⟨ρ1, _, r1, (q1.bind.up).imp fun y ρ2 q2 w H2 r2 => ?_⟩⟩
  obtain ⟨kx, dx⟩ := x
  obtain ⟨ky, dy⟩ := y
  cases dx with
  | int i =>
    cases dy with
    | int j =>
      obtain rfl := r2.top.int
      obtain rfl := r2.drop.top.int
      refine ⟨i, j, rfl, rfl, o i j, rfl, ?_⟩
      simp only at q2
      cases e : o i j with
      | false =>
        rw [e, if_neg Bool.false_ne_true] at q2
        rw [if_neg Bool.false_ne_true]
        exact q2 _ H2 (r2.drop.drop.scal (d := .bl false) rfl)
      | true =>
        rw [e, if_pos rfl] at q2
        rw [if_pos rfl]
        refine ⟨ρ2, T, r2.drop.drop, q2.bind.imp fun z ρ3 q3 u H3 r3 => ?_⟩
        obtain ⟨kz, dz⟩ := z
        cases dz with
        | int l =>
          obtain rfl := r3.top.int
          exact ⟨j, l, rfl, rfl, q3 _ H3 (r3.drop.scal (d := .bl (o' j l)) rfl)⟩
        | _ => exact q3.elim
    | _ => exact q2.elim
  | _ => exact q2.elim
theorem v_chn (h1 : OpR X (compareOp op) (rI0 fun i j => .bl (o i j))) (h2 : OpR X (compareOp op') (rI0 fun i j => .bl (o' i j))) (ha : PE X ea (tV X.K W va)) (hb : PE X eb (tV X.K W vb)) (hc : PE X ec (tV X.K W vc))
    (hm : lastMarks [op, op'] [eb, ec] = false := by with_unfolding_all rfl) : PE X (.Compare ea [op, op'] [eb, ec] pos) (tV X.K W (chn o o' va vb vc)) := PE.imp (pe_chain h1 h2 ha hb hc hm) fun σ H Q h => chn_run h
theorem t_chn (h1 : OpR X (compareOp op) (rI0 fun i j => .bl (o i j))) (h2 : OpR X (compareOp op') (rI0 fun i j => .bl (o' i j))) (ha : PE X ea (tV X.K W va)) (hb : PE X eb (tV X.K W vb)) (hc : PE X ec (tV X.K W vc))
    (hm : lastMarks [op, op'] [eb, ec] = false := by with_unfolding_all rfl) : PT X (.Compare ea [op, op'] [eb, ec] pos) (tT X.K W (asB (chn o o' va vb vc))) :=
  t_b (t := tChain (rI0 fun i j => .bl (o i j)) (rI0 fun i j => .bl (o' i j)) (tV X.K W va) (tV X.K W vb) (tV X.K W vc)) (pt_chain h1 h2 ha hb hc hm) fun σ H Q h => chn_run h
end
def bLt (i j : Int) : Bool := decide (i < j)
def bLe (i j : Int) : Bool := decide (i ≤ j)
def bGt (i j : Int) : Bool := decide (j < i)
def bGe (i j : Int) : Bool := decide (j ≤ i)
theorem lt_b {X : Cx} : OpR X (compareOp .Lt) (rI0 fun i j => .bl (bLt i j)) := op_lt
theorem le_b {X : Cx} : OpR X (compareOp .LtE) (rI0 fun i j => .bl (bLe i j)) := op_le
theorem gt_b {X : Cx} : OpR X (compareOp .Gt) (rI0 fun i j => .bl (bGt i j)) := op_gt
theorem ge_b {X : Cx} : OpR X (compareOp .GtE) (rI0 fun i j => .bl (bGe i j)) := op_ge
/-! ### two readings of one expression: the second where the first has no word -/
def altM {α : Type} (a b : M α) : M α := fun ρ => match a ρ with
  | .no => b ρ
  | r => r
theorem v_alt {X : Cx} {W : Wish} {e : Expr} {a b : M LD} (ha : PE X e (tV X.K W a)) (hb : PE X e (tV X.K W b)) : PE X e (tV X.K W (altM a b)) := by
  refine ⟨fun pins s σ H Q I ⟨ρ, T, r, h⟩ => ?_⟩
  unfold altM at h
  cases q : a ρ with
  | no => rw [q] at h; exact hb.run pins s σ H Q I ⟨ρ, T, r, h⟩
  | ok x ρ' => rw [q] at h; exact ha.run pins s σ H Q I ⟨ρ, T, r, by rw [q]; exact h⟩
  | ex x ρ' => rw [q] at h; exact ha.run pins s σ H Q I ⟨ρ, T, r, by rw [q]; exact h⟩
end Vs
set_option Elab.async false
set_option linter.all false
set_option maxRecDepth 100000
set_option maxHeartbeats 4000000
/-! Vs19: the plain side: what a run gives (Ok), loops by an invariant, facts about trees of numbers. -/
namespace Vs
open PySem PySem.Spec PyProof.Rows L2

def OkD {α : Type} (r : R α) (Q : α → Rho → Prop) : Prop := match r with
  | .ok a ρ => Q a ρ
  | _ => False
/-- the run gives something of which Q holds -/
structure Ok {α : Type} (r : R α) (Q : α → Rho → Prop) : Prop where
  out : OkD r Q
theorem Ok.get {α : Type} {r : R α} {Q : α → Rho → Prop} (h : Ok r Q) : ∃ a ρ, r = .ok a ρ ∧ Q a ρ := by
  obtain ⟨h⟩ := h
  cases r with
  | no => exact h.elim
  | ex _ _ => exact h.elim
  | ok a ρ => exact ⟨a, ρ, rfl, h⟩
theorem Ok.of {α : Type} {r : R α} {a : α} {ρ : Rho} {Q : α → Rho → Prop} (e : r = .ok a ρ) (h : Q a ρ) : Ok r Q := by rw [e]; exact ⟨h⟩
theorem Ok.imp {α : Type} {r : R α} {Q Q' : α → Rho → Prop} (h : Ok r Q) (f : ∀ a ρ, Q a ρ → Q' a ρ) : Ok r Q' := by
  obtain ⟨a, ρ, e, q⟩ := h.get
  exact .of e (f a ρ q)
theorem Ok.bind {α β : Type} {m : M α} {f : α → M β} {ρ : Rho} {Q : β → Rho → Prop} (h : Ok (m ρ) fun a ρ' => Ok (f a ρ') Q) : Ok (M.bind m f ρ) Q := by
  obtain ⟨a, ρ1, e, q⟩ := h.get
  obtain ⟨b, ρ2, e2, q2⟩ := q.get
  exact .of (by unfold M.bind; rw [e]; exact e2) q2
theorem Ok.seq {a b : M Out} {ρ : Rho} {Q : Out → Rho → Prop} (h : Ok (a ρ) fun o ρ' => o = .nx ∧ Ok (b ρ') Q) : Ok (sSeq a b ρ) Q :=
  Ok.bind (h.imp fun o ρ' ⟨e, q⟩ => by subst e; exact q)
theorem seqE {a b : M Out} {ρ ρ' : Rho} {Q : Out → Rho → Prop} (e : a ρ = .ok .nx ρ') (h : Ok (b ρ') Q) : Ok (sSeq a b ρ) Q := Ok.seq (Ok.of e ⟨rfl, h⟩)
/-- what is given back -/
def vl : R LD → Option D
  | .ok z _ => some z.2
  | _ => none
theorem of_vl {r : R LD} {d : D} (h : vl r = some d) : ∃ k ρ, r = .ok (k, d) ρ := by
  cases r with
  | no => cases h
  | ex _ _ => cases h
  | ok z ρ => exact ⟨z.1, ρ, by cases h; rfl⟩
/-- a loop: I i holds ahead of the i-th turn -/
theorem forL_ix {g : G} {b : M Out} {I : Nat → Rho → Prop} : ∀ {ds : List D} {i : Nat} {ρ : Rho}, (∀ j d ρ, i ≤ j → ds[j - i]? = some d → I j ρ → ∃ ρ1, g (lv d, d) ρ = some ρ1 ∧ Ok (b ρ1) fun o ρ2 => (o = .nx ∨ o = .ct) ∧ I (j + 1) ρ2) → I i ρ →
    Ok (forL g b ds ρ) fun o ρ' => o = .nx ∧ I (i + ds.length) ρ'
  | [], i, ρ, _, h0 => .of rfl ⟨rfl, h0⟩
  | d :: ds, i, ρ, hs, h0 => by
    obtain ⟨ρ1, e1, h1⟩ := hs i d ρ (Nat.le_refl _) (by simp) h0
    obtain ⟨o, ρ2, e2, ho, h2⟩ := h1.get
    have rest : Ok (forL g b ds ρ2) fun o ρ' => o = .nx ∧ I (i + 1 + ds.length) ρ' := forL_ix (fun j d ρ hj hd hI => hs j d ρ (by omega) (by
      have : j - i = (j - (i + 1)) + 1 := by omega
      rw [this]; simpa using hd) hI) h2
    have e3 : i + (d :: ds).length = i + 1 + ds.length := by simp; omega
    rw [e3]
    unfold forL
    rw [e1]
    simp only [e2]
    rcases ho with rfl | rfl
    · exact rest
    · exact rest
theorem forL_inv {g : G} {b : M Out} {I : Rho → Prop} {ds : List D} {ρ : Rho} (hs : ∀ d ∈ ds, ∀ ρ, I ρ → ∃ ρ1, g (lv d, d) ρ = some ρ1 ∧ Ok (b ρ1) fun o ρ2 => (o = .nx ∨ o = .ct) ∧ I ρ2) (h : I ρ) : Ok (forL g b ds ρ) fun o ρ' => o = .nx ∧ I ρ' :=
  forL_ix (I := fun _ => I) (i := 0) (fun j d ρ _ hd hI => hs d (List.mem_of_getElem? hd) ρ hI) h

@[simp] theorem isS_non : D.isS .non = true := rfl
@[simp] theorem isS_bl {b : Bool} : D.isS (.bl b) = true := rfl
@[simp] theorem isS_int {i : Int} : D.isS (.int i) = true := rfl
@[simp] theorem isS_str {x : Str} : D.isS (.str x) = true := rfl
@[simp] theorem isS_tup {xs : List D} : D.isS (.tup xs) = false := rfl
@[simp] theorem isS_lst {xs : List D} : D.isS (.lst xs) = false := rfl
@[simp] theorem isS_rol {xs : List D} : D.isS (.rol xs) = false := rfl
@[simp] theorem isS_dic {ks : List (Key × D)} : D.isS (.dic ks) = false := rfl

/-! ### numbers -/
@[simp] theorem mulOk_l {i j : Int} (h : i.natAbs < 2 ^ 64) : mulOk i j = true := by simp [mulOk, h]
@[simp] theorem mulOk_r {i j : Int} (h : j.natAbs < 2 ^ 64) : mulOk i j = true := by simp [mulOk, h]
theorem mod_small (x : Int) {n : Int} (h0 : 0 < n) (h1 : n < 2 ^ 63) : (x % n).natAbs < 2 ^ 64 := by
  have := Int.emod_nonneg x (by omega : n ≠ 0)
  have := Int.emod_lt_of_pos x h0
  omega
theorem log2_lt {n k : Nat} (h : n < 2 ^ k) (hk : 0 < k) : n.log2 < k := by
  by_cases h0 : n = 0
  · subst h0; simpa using hk
  · exact (Nat.log2_lt h0).mpr h

/-! ### rows of numbers as data -/
theorem pys_int : ∀ gs : List Int, pys (gs.map D.int) = some (gs.map PyData.int)
  | [] => by simp [pys]
  | g :: gs => by simp [pys, py, pys_int gs]
theorem lay_int : ∀ gs : List Int, PyData.canLayAll0 (gs.map PyData.int) = true
  | [] => by simp [PyData.canLayAll0]
  | g :: gs => by simp [PyData.canLayAll0, PyData.canLay0, lay_int gs]
theorem depth_int : ∀ gs : List Int, PyData.depthAll (gs.map PyData.int) = 0
  | [] => by simp [PyData.depthAll]
  | g :: gs => by simp [PyData.depthAll, PyData.depth, depth_int gs]
theorem ne_nil (gs : List Int) : eqD (.lst (gs.map D.int)) (.lst []) = some (decide (gs = [])) := by
  have e1 : py (.lst (gs.map D.int)) = some (.list (gs.map PyData.int)) := by simp [py, pys_int]
  have e2 : py (.lst []) = some (.list []) := by simp [py, pys]
  have s1 : SeqAt.shaped (.list (gs.map PyData.int)) = true := by simp [SeqAt.shaped, PyData.canLay0, lay_int, PyData.depth, depth_int]
  have s2 : SeqAt.shaped (.list []) = true := by simp [SeqAt.shaped, PyData.canLay0, PyData.canLayAll0, PyData.depth, PyData.depthAll]
  simp only [eqD, e1, e2, s1, s2, Bool.and_self, if_true]
  cases gs with
  | nil => simp [PyData.eqv, PyData.eqvAll]
  | cons g gs => simp [PyData.eqv, PyData.eqvAll]
theorem ne_app (gs : List Int) (g : Int) : eqD (.lst (gs.map D.int ++ [.int g])) (.lst []) = some false := by
  have h := ne_nil (gs ++ [g])
  simpa using h
theorem sortU_rep (c : Int) : ∀ n : Nat, sortU (List.replicate (n + 1) c) = [c]
  | 0 => by simp [sortU, insU]
  | n + 1 => by
    rw [List.replicate_succ, sortU, sortU_rep c n]
    simp [insU]
/-- the same data are == -/
theorem eqv_self_int (i : Int) : decide (i = i) = true := by simp
end Vs
set_option Elab.async false
set_option linter.all false
set_option maxRecDepth 100000
set_option maxHeartbeats 4000000
/-! Vs20: runs by simp: each piece of a term, applied to the cells. -/
namespace Vs
open PySem PySem.Spec PyProof.Rows L2
def bindR {α β : Type} (r : R α) (f : α → M β) : R β := match r with
  | .no => .no
  | .ok a ρ => f a ρ
  | .ex x ρ => .ex x ρ
section
variable {α β : Type} {ρ ρ' : Rho} {a b : M LD} {x y z : LD} {i j k n : Nat}
@[simp] theorem bindR_ok {a : α} {f : α → M β} : bindR (.ok a ρ) f = f a ρ := rfl
@[simp] theorem bindR_no {f : α → M β} : bindR (.no : R α) f = .no := rfl
@[simp ↓] theorem ap_bind {m : M α} {f : α → M β} : M.bind m f ρ = bindR (m ρ) f := by cases e : m ρ <;> simp [M.bind, bindR, e]
@[simp ↓] theorem ap_ret {a : α} : M.ret a ρ = .ok a ρ := rfl
@[simp ↓] theorem ap_kc {d : D} : kc d ρ = .ok (9, d) ρ := rfl
@[simp] theorem ap_rd : rd i ρ = match ρ[i]? with | some (.c k d) => if d.isS then .ok (9, d) ρ else .ok (0, d) (ρ.set i (.c 0 d)) | _ => .no := rfl
@[simp] theorem ap_mv : mv i ρ = match ρ[i]? with | some (.c k d) => if d.isS then .ok (9, d) ρ else .ok (k, d) (ρ.set i .u) | _ => .no := rfl
@[simp] theorem ap_vwOk : vwOk i ρ = match ρ[i]? with | some (.c _ _) => .ok (.view i) ρ | _ => .no := rfl
@[simp ↓] theorem ap_asAr {m : M LD} : asAr m ρ = bindR (m ρ) fun x => M.ret (.val x) := ap_bind
@[simp ↓] theorem ap_noAr : noAr ρ = .ok [] ρ := rfl
@[simp ↓] theorem ap_consAr {m : M Ar} {ms : M (List Ar)} : consAr m ms ρ = bindR (m ρ) fun a => ms.bind fun as => M.ret (a :: as) := ap_bind
@[simp ↓] theorem ap_noVs : noVs ρ = .ok [] ρ := rfl
@[simp ↓] theorem ap_consV {m : M LD} {ms : M (List LD)} : consV m ms ρ = bindR (m ρ) fun a => ms.bind fun as => M.ret (a :: as) := ap_bind
@[simp ↓] theorem ap_two {a b : M Ar} : two a b ρ = bindR (a ρ) fun x => b.bind fun y => M.ret [x, y] := ap_bind
@[simp ↓] theorem ap_sop {o : List D → Option D} {m : M (List Ar)} : sop o m ρ = bindR (m ρ) fun as ρ => match gets ρ as with
  | some ds => match o ds with
    | some d => .ok (9, d) ρ
    | none => .no
  | none => .no := ap_bind
@[simp ↓] theorem ap_asB {m : M LD} : asB m ρ = bindR (m ρ) fun x => match x.2 with
  | .bl b => M.ret b
  | _ => fun _ => .no := ap_bind
@[simp ↓] theorem ap_un {o : D → Option D} {m : M Ar} : un o m ρ = bindR (m ρ) fun a ρ => match a.get ρ with
  | some x => match o x with
    | some d => .ok (9, d) ρ
    | none => .no
  | none => .no := ap_bind
@[simp ↓] theorem ap_opV {o : LD → LD → Option LD} : opV o a b ρ = bindR (a ρ) fun x => b.bind fun y ρ => match o x y with
  | some z => .ok z ρ
  | none => .no := ap_bind
@[simp ↓] theorem ap_op1 {o : LD → Option LD} : op1 o a ρ = bindR (a ρ) fun x ρ => match o x with
  | some z => .ok z ρ
  | none => .no := ap_bind
@[simp ↓] theorem ap_andT {a b : M Bool} : andT a b ρ = bindR (a ρ) fun x => if x then b else M.ret false := ap_bind
@[simp ↓] theorem ap_orT {a b : M Bool} : orT a b ρ = bindR (a ρ) fun x => if x then M.ret true else b := ap_bind
@[simp ↓] theorem ap_notT {a : M Bool} : notT a ρ = bindR (a ρ) fun x => M.ret (!x) := ap_bind
@[simp ↓] theorem ap_iteV {c : M Bool} {x y : M α} : iteV c x y ρ = bindR (c ρ) fun b => if b then x else y := ap_bind
@[simp ↓] theorem ap_mkTup {m : M (List LD)} : mkTup m ρ = bindR (m ρ) fun xs ρ => if xs.length ≤ lineN then .ok (lvl xs, .tup (xs.map (·.2))) ρ else .no := ap_bind
@[simp ↓] theorem ap_mkLst {m : M (List LD)} : mkLst m ρ = bindR (m ρ) fun xs ρ => if xs.length ≤ lineN then .ok (up (lvl xs), .lst (xs.map (·.2))) ρ else .no := ap_bind
@[simp ↓] theorem ap_sSeq {a b : M Out} : sSeq a b ρ = bindR (a ρ) fun o => match o with
  | .nx => b
  | o => M.ret o := ap_bind
@[simp ↓] theorem ap_sAsg {m : M LD} {g : G} : sAsg m g ρ = bindR (m ρ) fun x ρ => match g x ρ with
  | some ρ' => .ok .nx ρ'
  | none => .no := ap_bind
@[simp ↓] theorem ap_sDrop {m : M LD} : sDrop m ρ = bindR (m ρ) fun _ => M.ret .nx := ap_bind
@[simp ↓] theorem ap_sRet {m : M LD} : sRet m ρ = bindR (m ρ) fun x => M.ret (.rt x) := ap_bind
@[simp ↓] theorem ap_sIf {c : M Bool} {a b : M Out} : sIf c a b ρ = bindR (c ρ) fun t => if t then a else b := ap_bind
@[simp ↓] theorem ap_sNx : sNx ρ = .ok .nx ρ := rfl
@[simp ↓] theorem ap_sFor {i : M (List D)} {g : G} {b : M Out} : sFor i g b ρ = bindR (i ρ) fun ds => forL g b ds := ap_bind
@[simp ↓] theorem ap_sPar {a b : M LD} : sPar i j a b ρ = bindR (a ρ) fun x => b.bind fun y ρ => if i < ρ.length ∧ j < ρ.length then .ok .nx ((ρ.set i (.c x.1 x.2)).set j (.c y.1 y.2)) else .no := ap_bind
@[simp ↓] theorem ap_sPar3 {a b c : M LD} : sPar3 i j k a b c ρ = bindR (a ρ) fun x => b.bind fun y => c.bind fun z ρ => if i < ρ.length ∧ j < ρ.length ∧ k < ρ.length then .ok .nx (((ρ.set i (.c x.1 x.2)).set j (.c y.1 y.2)).set k (.c z.1 z.2)) else .no := ap_bind
@[simp ↓] theorem ap_forget {m : M α} {vs : List Nat} : forget vs m ρ = m (wipeC ρ vs) := rfl
@[simp ↓] theorem ap_altM {a b : M α} : altM a b ρ = match a ρ with | .no => b ρ | r => r := rfl
@[simp] theorem ap_gN : gN i x ρ = if i < ρ.length then some (ρ.set i (.c x.1 x.2)) else none := rfl
@[simp] theorem ap_gsN : gsN [] ρ = some ρ := rfl
@[simp] theorem ap_gsC {g : G} {gs : Gs} {xs : List LD} : gsC g gs (x :: xs) ρ = (g x ρ).bind (gs xs) := rfl
@[simp] theorem ap_gR {gs : Gs} : gR n gs x ρ = match partsR x with | some xs => if xs.length = n then gs xs ρ else none | none => none := rfl
@[simp ↓] theorem ap_subN {mi : M LD} : subN j mi ρ = match ρ[j]? with
  | some (.c _ _) => bindR (mi ρ) (fun y ρ1 => match ρ1[j]? with
    | some (.c k d) => match subI k d y.2 with
      | some (z, k') => .ok z (ρ1.set j (.c k' d))
      | none => .no
    | _ => .no)
  | _ => .no := by unfold subN; split <;> (simp [*] <;> rfl)
@[simp ↓] theorem ap_callG {F : List LD → R LD} {io pm : List Nat} {n kn : Nat} {m mk : M (List Ar)} : callG F io pm n kn m mk ρ = bindR (m ρ) fun as => mk.bind fun bs ρ => if as.length = n ∧ bs.length = kn then (match takeA ρ (pickL pm (as ++ bs)) with
  | none => .no
  | some (xs, ρ1) => match F xs with
    | .ok z ρc => match backA (pickL pm (as ++ bs)) ρ1 ρc io with
      | some ρ2 => .ok z ρ2
      | none => .no
    | _ => .no) else .no := ap_bind
@[simp ↓] theorem ap_rng1 {m : M (List LD)} : rng1 m ρ = bindR (m ρ) fun xs => match xs with
  | [(_, .int j)] => if rgOk j then M.ret (rangeD 0 j) else fun _ => .no
  | _ => fun _ => .no := ap_bind
@[simp ↓] theorem ap_rng2 {m : M (List LD)} : rng2 m ρ = bindR (m ρ) fun xs => match xs with
  | [(_, .int i), (_, .int j)] => if rgOk i && rgOk j then M.ret (rangeD i j) else fun _ => .no
  | _ => fun _ => .no := ap_bind
@[simp ↓] theorem ap_seqM {m : M LD} : seqM m ρ = bindR (m ρ) fun x => match x.2 with
  | .lst xs => M.ret xs
  | .tup xs => M.ret xs
  | .rol xs => M.ret xs
  | _ => fun _ => .no := ap_bind
@[simp ↓] theorem ap_enumM {m : M (List LD)} : enumM m ρ = bindR (m ρ) fun xs ρ => match enumR xs with
  | some ds => .ok ds ρ
  | none => .no := ap_bind
@[simp ↓] theorem ap_zipM {m : M (List LD)} : zipM m ρ = bindR (m ρ) fun xs ρ => match zipR xs with
  | some ds => .ok ds ρ
  | none => .no := ap_bind
@[simp ↓] theorem ap_srtU {m : M LD} : srtU m ρ = bindR (m ρ) fun x ρ => match rowN x.2 with
  | some ns => if ns.length ≤ 4000 ∧ (sortU ns).length < 64 then .ok (9, .lst ((sortU ns).map .int)) ρ else .no
  | none => .no := ap_bind
@[simp ↓] theorem ap_lenU {m : M LD} : lenU m ρ = bindR (m ρ) fun x ρ => match rowN x.2 with
  | some ns => if ns.length ≤ 4000 then .ok (9, .int (sortU ns).length) ρ else .no
  | none => .no := ap_bind
@[simp ↓] theorem ap_noP : noP ρ = .ok none ρ := rfl
@[simp ↓] theorem ap_asP {m : M LD} : asP m ρ = bindR (m ρ) fun x => match x.2 with
  | .int i => M.ret (some i)
  | _ => fun _ => .no := ap_bind
@[simp ↓] theorem ap_slc {m : M LD} {l h : M (Option Int)} : slc m l h ρ = bindR (m ρ) fun x => l.bind fun lo => h.bind fun hi ρ => match sliceD x lo hi with
  | some z => .ok z ρ
  | none => .no := ap_bind
@[simp ↓] theorem ap_comp {own : List Nat} {i : M (List D)} {g : G} {t : M Bool} {e : M LD} : comp own i g t e ρ = bindR (i ρ) fun ds ρ => if ds.length ≤ lineN ∧ own.all (fun v => match ρ[v]? with | some (.c _ d) => d.isS | _ => true) then (match compL own g t e ds 8 [] (wipeC ρ own) with
  | .ok x ρ' => .ok x (backC ρ ρ' own)
  | _ => .no) else .no := ap_bind
@[simp] theorem ap_comp0 {own : List Nat} {g : G} {t : M Bool} {e : M LD} {acc : List D} : compL own g t e [] k acc ρ = .ok (k + 1, .lst acc) ρ := rfl
@[simp] theorem ap_comp1 {own : List Nat} {g : G} {t : M Bool} {e : M LD} {d : D} {ds acc : List D} : compL own g t e (d :: ds) k acc ρ = match g (lv d, d) ρ with
  | none => .no
  | some ρ1 => match t ρ1 with
    | .no => .no
    | .ex _ _ => .no
    | .ok false ρ2 => compL own g t e ds k acc (wipeC ρ2 own)
    | .ok true ρ2 => match e ρ2 with
      | .no => .no
      | .ex _ _ => .no
      | .ok x ρ3 => compL own g t e ds (min k x.1) (acc ++ [x.2]) (wipeC ρ3 own) := rfl
@[simp] theorem ap_for0 {g : G} {b : M Out} : forL g b [] ρ = .ok .nx ρ := rfl
@[simp] theorem ap_for1 {g : G} {b : M Out} {d : D} {ds : List D} : forL g b (d :: ds) ρ = match g (lv d, d) ρ with
    | none => .no
    | some ρ1 => match b ρ1 with
      | .no => .no
      | .ex x ρ2 => .ex x ρ2
      | .ok .nx ρ2 => forL g b ds ρ2
      | .ok .ct ρ2 => forL g b ds ρ2
      | .ok .bk ρ2 => .ok .nx ρ2
      | .ok (.rt x) ρ2 => .ok (.rt x) ρ2
      | .ok (.xn x) ρ2 => .ok (.xn x) ρ2 := rfl
@[simp] theorem ap_mut1 {o : MO} {ma : M (List LD)} : mut1 j o ma ρ = match ρ[j]? with
  | some (.c _ (.lst _)) => bindR (ma ρ) (fun xs ρ1 => match ρ1[j]? with
    | some (.c k d) => match o k d xs with
      | some (z, k', d') => .ok z (ρ1.set j (.c k' d'))
      | none => .no
    | _ => .no)
  | _ => .no := by unfold mut1; split <;> (simp [*] <;> rfl)
end
theorem rg2 : List.range 2 = [0, 1] := rfl
theorem rg3 : List.range 3 = [0, 1, 2] := rfl
theorem rg4 : List.range 4 = [0, 1, 2, 3] := rfl
theorem rg5 : List.range 5 = [0, 1, 2, 3, 4] := rfl
end Vs
set_option Elab.async false
set_option linter.all false
set_option maxRecDepth 100000
set_option maxHeartbeats 2000000
/-! Vs21: list(range(..)), tuple(range(..)). -/
namespace Vs
open PySem PySem.Spec PyProof.Rows L2
section
variable {K : PySem.W.Frag} {H : Hp} {lo hi : Int}
theorem sc_range : (rangeD lo hi).all D.isS = true := by
  rw [List.all_eq_true]
  intro y hy
  obtain ⟨z, _, rfl⟩ := List.mem_map.mp hy
  rfl
theorem kd_map {f : Nat → Int} : ∀ ns : List Nat, KDs K H (ns.map fun j => D.int (f j)) (ns.map fun j => V.int (f j))
  | [] => .nil
  | n :: ns => .cons (s_kd (d := .int (f n)) rfl) (kd_map ns)
theorem kd_range : KDs K H (rangeD lo hi) (rgV lo hi) := kd_map _
theorem range_len : (rangeD lo hi).length = (hi - lo).toNat := by unfold rangeD; simp
end
def rgL (i j : Int) : Bool := rgOk i && rgOk j && decide ((j - i).toNat ≤ lineN)
theorem rgL_ok {i j : Int} (h : rgL i j = true) : RgOk i j := by
  unfold rgL rgOk lineN at h
  simp only [Bool.and_eq_true, decide_eq_true_iff] at h
  obtain ⟨⟨⟨a, b⟩, c, d⟩, e⟩ := h
  exact ⟨a, b, c, d, e⟩
def rgM (w : List D → D) (k : Nat) (i j : D) : Option LD := match i, j with
  | .int i, .int j => if rgL i j then some (k, w (rangeD i j)) else none
  | _, _ => none
def rgn1 (w : List D → D) (k : Nat) (m : M LD) : M LD := m.bind fun x ρ => match rgM w k (.int 0) x.2 with
  | some z => .ok z ρ
  | none => .no
def rgn2 (w : List D → D) (k : Nat) (m m' : M LD) : M LD := m.bind fun x => m'.bind fun y ρ => match rgM w k x.2 y.2 with
  | some z => .ok z ρ
  | none => .no
theorem rgM_some {w : List D → D} {k : Nat} {i j : D} {z : LD} (h : rgM w k i j = some z) : ∃ a b, i = .int a ∧ j = .int b ∧ rgL a b = true ∧ z = (k, w (rangeD a b)) := by
  unfold rgM at h
  split at h
  · rename_i a b
    by_cases q : rgL a b = true
    · rw [if_pos q] at h; cases h; exact ⟨a, b, rfl, rfl, q, rfl⟩
    · rw [if_neg q] at h; cases h
  · cases h
section
variable {X : Cx} {W : Wish} {a b : Expr} {p p2 q pos : Pos} {m m' : M LD}
theorem rgNewL {ρ : Rho} {σ : Sg} {T : List Item} {H : Hp} {i j : Int} (r : Rel X.K H ρ σ T) (h : rgL i j = true) {pp : Addr} (hn : H pp = none) : Rel X.K (upd H pp (.lst (rgV i j))) ρ σ ((9, .lst (rangeD i j), .ref pp) :: T) := by
  refine r.good fun L g => ?_
  refine (Good.scalRow (k := 8) sc_range kd_range g).newL ?_ hn
  rw [rgV_length]
  exact range_len
theorem rgNewT {ρ : Rho} {σ : Sg} {T : List Item} {H : Hp} {i j : Int} (r : Rel X.K H ρ σ T) (h : rgL i j = true) {pp : Addr} (hn : H pp = none) : Rel X.K (upd H pp (.tup (rgV i j))) ρ σ ((9, .tup (rangeD i j), .ref pp) :: T) := by
  refine r.good fun L g => ?_
  refine (Good.scalRow (k := 9) sc_range kd_range g).newT ?_ hn
  rw [rgV_length]
  exact range_len
theorem rgn1_run {w : List D → D} {k : Nat} {σ : Sg} {H : Hp} {Q : VK} (h : tV X.K W (rgn1 w k m) σ H Q) : tRg1 (tV X.K W m) σ H fun i j H1 => ∃ ρ1 T, Rel X.K H1 ρ1 σ T ∧ rgL i j = true ∧ ∀ v H', Rel X.K H' ρ1 σ ((k, w (rangeD i j), v) :: T) → Q v H' := by
  obtain ⟨ρ, T, rel, h⟩ := h
  refine ⟨ρ, T, rel, h.bind.imp fun x ρ1 q v H1 r => ?_⟩
  split at q
  · rename_i z e
    obtain ⟨a, b, ea, eb, hz, rfl⟩ := rgM_some e
    cases ea
    have r2 : Rel X.K H1 ρ1 σ ((x.1, .int b, v) :: T) := by rw [← eb]; exact r
    obtain rfl := r2.top.int
    exact ⟨b, rfl, ρ1, T, r2.drop, hz, q⟩
  · exact q.elim
theorem v_lrg1 (hc : X.calm = true) (hg : Gl X "list") (hm : X.mg "list" = none) (hg2 : Gl X "range") (hm2 : X.mg "range" = none) (ha : PE X a (tV X.K W m))
    (na : starEach [a] X.env = (false, eval a X.env) :: starEach [] X.env := by rfl) : PE X (.Call (.Name "list" p) [.Call (.Name "range" p2) [a] [] q] [] pos) (tV X.K W (rgn1 .lst 9 m)) :=
  PE.imp (pe_listRg hc hg hm (prg_1 hg2 hm2 ha na)) fun σ H Q h => by
    obtain ⟨ρ, T, rel, h'⟩ := rgn1_run h
    refine ⟨ρ, T, rel, h'.imp fun x ρ' q v H1 r => ?_⟩
    obtain ⟨n, e, ρ1, T1, r1, hz, q1⟩ := q v H1 r
    exact ⟨n, e, rgL_ok hz, fun pp hn => q1 _ _ (rgNewL r1 hz hn)⟩
theorem v_trg1 (hc : X.calm = true) (hg : Gl X "tuple") (hm : X.mg "tuple" = none) (hg2 : Gl X "range") (hm2 : X.mg "range" = none) (ha : PE X a (tV X.K W m))
    (na : starEach [a] X.env = (false, eval a X.env) :: starEach [] X.env := by rfl) : PE X (.Call (.Name "tuple" p) [.Call (.Name "range" p2) [a] [] q] [] pos) (tV X.K W (rgn1 .tup 9 m)) :=
  PE.imp (pe_tupRg hc hg hm (prg_1 hg2 hm2 ha na)) fun σ H Q h => by
    obtain ⟨ρ, T, rel, h'⟩ := rgn1_run h
    refine ⟨ρ, T, rel, h'.imp fun x ρ' q v H1 r => ?_⟩
    obtain ⟨n, e, ρ1, T1, r1, hz, q1⟩ := q v H1 r
    exact ⟨n, e, rgL_ok hz, fun pp hn => q1 _ _ (rgNewT r1 hz hn)⟩
theorem rgn2_run {w : List D → D} {k : Nat} {σ : Sg} {H : Hp} {Q : VK} (h : tV X.K W (rgn2 w k m m') σ H Q) : tRg2 (tV X.K W m) (tV X.K W m') σ H fun i j H1 => ∃ ρ1 T, Rel X.K H1 ρ1 σ T ∧ rgL i j = true ∧ ∀ v H', Rel X.K H' ρ1 σ ((k, w (rangeD i j), v) :: T) → Q v H' := by
  obtain ⟨ρ, T, rel, h⟩ := h
  refine ⟨ρ, T, rel, h.bind.imp fun x ρ1 q1 v H1 r1 => ⟨ρ1, _, r1, (q1.bind.up).imp fun y ρ2 q w2 H2 r => ?_⟩⟩
  have q' : Aft W T (match rgM w k x.2 y.2 with | some z => R.ok z ρ2 | none => R.no) fun x ρ' => ∀ v H', Rel X.K H' ρ' σ ((x.1, x.2, v) :: T) → Q v H' := q
  split at q'
  · rename_i z e
    obtain ⟨a, b, ea, eb, hz, rfl⟩ := rgM_some e
    have r2 : Rel X.K H2 ρ2 σ ((y.1, .int b, w2) :: (x.1, .int a, v) :: T) := by rw [← eb, ← ea]; exact r
    obtain rfl := r2.top.int
    obtain rfl := r2.drop.top.int
    exact ⟨a, b, rfl, rfl, ρ2, T, r2.drop.drop, hz, q'⟩
  · exact q'.elim
theorem v_lrg2 (hc : X.calm = true) (hg : Gl X "list") (hm : X.mg "list" = none) (hg2 : Gl X "range") (hm2 : X.mg "range" = none) (ha : PE X a (tV X.K W m)) (hb : PE X b (tV X.K W m'))
    (na : starEach [a, b] X.env = (false, eval a X.env) :: starEach [b] X.env := by rfl) (nb : starEach [b] X.env = (false, eval b X.env) :: starEach [] X.env := by rfl) (hp : (backTo q (starEach [b] X.env)).any (·.1) = false := by rfl) : PE X (.Call (.Name "list" p) [.Call (.Name "range" p2) [a, b] [] q] [] pos) (tV X.K W (rgn2 .lst 9 m m')) :=
  PE.imp (pe_listRg hc hg hm (prg_2 hg2 hm2 ha hb na nb hp)) fun σ H Q h => by
    obtain ⟨ρ, T, rel, h'⟩ := rgn2_run h
    refine ⟨ρ, T, rel, h'.imp fun x ρ' q v H1 r => ?_⟩
    obtain ⟨ρ1, T1, r1, h2⟩ := q v H1 r
    refine ⟨ρ1, T1, r1, h2.imp fun y ρ'' q v H1 r => ?_⟩
    obtain ⟨i, j, ei, ej, ρ1, T1, r1, hz, q1⟩ := q v H1 r
    exact ⟨i, j, ei, ej, rgL_ok hz, fun pp hn => q1 _ _ (rgNewL r1 hz hn)⟩
theorem v_trg2 (hc : X.calm = true) (hg : Gl X "tuple") (hm : X.mg "tuple" = none) (hg2 : Gl X "range") (hm2 : X.mg "range" = none) (ha : PE X a (tV X.K W m)) (hb : PE X b (tV X.K W m'))
    (na : starEach [a, b] X.env = (false, eval a X.env) :: starEach [b] X.env := by rfl) (nb : starEach [b] X.env = (false, eval b X.env) :: starEach [] X.env := by rfl) (hp : (backTo q (starEach [b] X.env)).any (·.1) = false := by rfl) : PE X (.Call (.Name "tuple" p) [.Call (.Name "range" p2) [a, b] [] q] [] pos) (tV X.K W (rgn2 .tup 9 m m')) :=
  PE.imp (pe_tupRg hc hg hm (prg_2 hg2 hm2 ha hb na nb hp)) fun σ H Q h => by
    obtain ⟨ρ, T, rel, h'⟩ := rgn2_run h
    refine ⟨ρ, T, rel, h'.imp fun x ρ' q v H1 r => ?_⟩
    obtain ⟨ρ1, T1, r1, h2⟩ := q v H1 r
    refine ⟨ρ1, T1, r1, h2.imp fun y ρ'' q v H1 r => ?_⟩
    obtain ⟨i, j, ei, ej, ρ1, T1, r1, hz, q1⟩ := q v H1 r
    exact ⟨i, j, ei, ej, rgL_ok hz, fun pp hn => q1 _ _ (rgNewT r1 hz hn)⟩
end

/-! ### sorted(row) of numbers -/
def insO (x : Int) : List Int → List Int
  | [] => [x]
  | y :: ys => if x ≤ y then x :: y :: ys else y :: insO x ys
def srtO : List Int → List Int
  | [] => []
  | x :: xs => insO x (srtO xs)
theorem insO_perm (x : Int) : ∀ ys : List Int, (insO x ys).Perm (x :: ys)
  | [] => .refl _
  | y :: ys => by
    unfold insO
    split
    · exact .refl _
    · exact ((insO_perm x ys).cons y).trans (.swap x y ys)
theorem srtO_perm : ∀ xs : List Int, (srtO xs).Perm xs
  | [] => .refl _
  | x :: xs => (insO_perm x (srtO xs)).trans ((srtO_perm xs).cons x)
theorem insO_up (x : Int) : ∀ ys : List Int, ys.Pairwise (· ≤ ·) → (insO x ys).Pairwise (· ≤ ·)
  | [], _ => by simp [insO]
  | y :: ys, h => by
    unfold insO
    obtain ⟨h1, h2⟩ := List.pairwise_cons.mp h
    split
    · rename_i q
      refine List.pairwise_cons.mpr ⟨fun z hz => ?_, h⟩
      rcases List.mem_cons.mp hz with rfl | hz
      · exact q
      · exact Int.le_trans q (h1 z hz)
    · rename_i q
      refine List.pairwise_cons.mpr ⟨fun z hz => ?_, insO_up x ys h2⟩
      rcases List.mem_cons.mp ((insO_perm x ys).mem_iff.mp hz) with rfl | hz
      · omega
      · exact h1 z hz
theorem srtO_up : ∀ xs : List Int, (srtO xs).Pairwise (· ≤ ·)
  | [] => .nil
  | x :: xs => insO_up x _ (srtO_up xs)
theorem up_uniq : ∀ {xs ys : List Int}, xs.Perm ys → xs.Pairwise (· ≤ ·) → ys.Pairwise (· ≤ ·) → xs = ys
  | [], ys, p, _, _ => by rw [List.nil_perm.mp p]
  | x :: xs, [], p, _, _ => by have := p.length_eq; simp at this
  | x :: xs, y :: ys, p, h, h' => by
    obtain ⟨h1, h2⟩ := List.pairwise_cons.mp h
    obtain ⟨h3, h4⟩ := List.pairwise_cons.mp h'
    have e : x = y := by
      rcases List.mem_cons.mp (p.mem_iff.mp (List.mem_cons_self ..)) with e | m
      · exact e
      · rcases List.mem_cons.mp (p.mem_iff.mpr (List.mem_cons_self ..)) with e | m'
        · exact e.symm
        · have := h1 y m'; have := h3 x m; omega
    subst e
    rw [up_uniq ((List.perm_cons x).mp p) h2 h4]
def lstN : D → Option (List Int)
  | .lst xs => numsD xs
  | .rol xs => numsD xs
  | _ => none
def srtD (x : LD) : Option LD := match lstN x.2 with
  | some ns => some (9, .lst ((srtO ns).map .int))
  | none => none
section
variable {K : PySem.W.Frag} {H : Hp}
theorem KD.lstN {d : D} {v : V} {ns : List Int} (h : KD K H d v) (e : Vs.lstN d = some ns) : ∃ p, v = .ref p ∧ SqL K H p (ns.map V.int) := by
  cases d with
  | lst xs =>
    obtain ⟨p, vs, rfl, h1, h2⟩ := h.lst
    have e' : numsD xs = some ns := e
    obtain rfl := numsD_map e'
    obtain rfl := h2.ints
    exact ⟨p, rfl, SqL.of h1⟩
  | rol xs =>
    obtain ⟨p, vs, rfl, h1, h2⟩ := h.rol
    have e' : numsD xs = some ns := e
    obtain rfl := numsD_map e'
    obtain rfl := h2.ints
    exact ⟨p, rfl, h1⟩
  | _ => cases e
theorem c_srt : COp1 K (rSortedI K) srtD := by
  intro H ρ σ T x z v r e Q q
  unfold srtD at e
  cases e1 : Vs.lstN x.2 with
  | none => rw [e1] at e; cases e
  | some ns =>
    rw [e1] at e
    cases e
    obtain ⟨p, rfl, hs⟩ := r.top.lstN e1
    refine ⟨p, ns, rfl, hs, fun ns' l hp hw hn => ?_⟩
    obtain rfl : ns' = srtO ns := up_uniq (hp.trans (srtO_perm ns).symm) hw (srtO_up ns)
    refine q _ _ (r.drop.good fun L g => ?_)
    refine (Good.scalRow (k := 8) ?_ (kd_ints _) g).newL (by simp) hn
    rw [List.all_eq_true]
    intro y hy
    obtain ⟨z, _, rfl⟩ := List.mem_map.mp hy
    rfl
end
end Vs
set_option Elab.async false
set_option linter.all false
set_option maxRecDepth 100000
set_option maxHeartbeats 2000000
/-! Vs22: xs[::-1]; min and max of a list. -/
namespace Vs
open PySem PySem.Spec PyProof.Rows L2
def revD (x : LD) : Option LD := match x.2 with
  | .lst xs => some (x.1 - 1 + 1, .lst xs.reverse)
  | .rol xs => some (1, .lst xs.reverse)
  | .tup xs => some (x.1, .tup xs.reverse)
  | _ => none
section
variable {K : PySem.W.Frag} {H : Hp} {Rs : List Addr} {L : List Item}
theorem its_rev {k : Nat} {ds : List D} {vs : List V} (hl : ds.length = vs.length) : its k ds.reverse vs.reverse = (its k ds vs).reverse := by
  unfold its
  rw [List.reverse_zipWith hl]
theorem Good.rev {k : Nat} {ds : List D} {vs : List V} (hl : ds.length = vs.length) (g : Good K Rs H (its k ds vs ++ L)) : Good K Rs H (its k ds.reverse vs.reverse ++ L) := by
  rw [its_rev hl]
  exact g.perm ((List.reverse_perm _).symm.append_right L)
end
theorem adjust_rev (n : Nat) : Builtin.Slice.sliceAdjust none none (-1) (n : Int) = ((n : Int) - 1, -1) := by
  unfold Builtin.Slice.sliceAdjust
  simp
theorem places_rev (n : Nat) : Builtin.Slice.slicePlaces ((n : Int) - 1) (-1) (-1) = n := by
  unfold Builtin.Slice.slicePlaces
  rw [if_neg (by decide)]
  have e : ((n : Int) - 1 - -1 - 1) / (- -1) + 1 = n := by rw [show (- -1 : Int) = 1 from rfl, Int.ediv_one]; omega
  rw [e]
  split <;> omega
theorem fm_map {α β : Type} {f : α → Option β} {g : α → β} : ∀ {l : List α}, (∀ x ∈ l, f x = some (g x)) → l.filterMap f = l.map g
  | [], _ => rfl
  | x :: l, h => by
    rw [List.filterMap_cons, h x List.mem_cons_self, List.map_cons, fm_map fun y hy => h y (List.mem_cons_of_mem _ hy)]
theorem pick_rev (xs : Array Value) : ((List.range xs.size).filterMap fun (k : Nat) => xs[((xs.size : Int) - 1 + (k : Int) * -1).toNat]?).toArray = xs.toList.reverse.toArray := by
  congr 1
  apply List.ext_getElem?
  intro i
  have e : (List.range xs.size).filterMap (fun (k : Nat) => xs[((xs.size : Int) - 1 + (k : Int) * -1).toNat]?) = (List.range xs.size).map fun k => xs[xs.size - 1 - k]! := by
    refine fm_map fun k hk => ?_
    have hk := List.mem_range.mp hk
    have : ((xs.size : Int) - 1 + (k : Int) * -1).toNat = xs.size - 1 - k := by omega
    rw [this]
    have h1 : xs.size - 1 - k < xs.size := by omega
    simp [h1]
  rw [e]
  by_cases h : i < xs.size
  · have h1 : xs.size - 1 - i < xs.size := by omega
    rw [List.getElem?_reverse (by simpa using h)]
    simp [h, h1]
  · simp [h]
theorem sliceApplied_rev {prog : Program} {w : World} {A : Around} {E : Value → Shared → Prop} {s : Shared} {sl : Addr} {n : Nat} {vs : Value} {Q : Int × Int × Nat → Shared → Prop} (hs : s.heap.IsSliceOf sl .none .none vs) (ps : IsPart vs (some (-1))) (h : Q ((n : Int) - 1, -1, n) s) :
    wpAny (model prog w) A (Builtin.Slice.sliceApplied (.ref sl) (pure (n : Int))) Q E s := by
  obtain ⟨os, hos, hcs, hds⟩ := id hs
  cases ps with | int i t =>
  unfold Builtin.Slice.sliceApplied Builtin.Slice.sliceFields
  refine wpAny_bind (wpAny_bind (wpAny_field hos hds (x := .none) rfl (wpAny_bind (wpAny_field hos hds (x := .none) rfl (wpAny_bind (wpAny_field hos hds (x := .int (-1) t) rfl (wpAny_pure ?_)))))))
  refine wpAny_bind (slicePart_int ?_)
  show wpAny _ _ (if ((-1 : Int) == 0) = true then _ else _) _ _ s
  rw [if_neg (by decide)]
  refine wpAny_bind (slicePart_none (wpAny_bind (slicePart_none (wpAny_bind (wpAny_pure ?_)))))
  show wpAny _ _ (match Builtin.Slice.sliceAdjust none none (-1) (n : Int) with | (lo, hi) => pure (lo, (-1 : Int), Builtin.Slice.slicePlaces lo hi (-1))) _ _ s
  rw [adjust_rev n]
  show wpAny _ _ (pure ((n : Int) - 1, (-1 : Int), Builtin.Slice.slicePlaces ((n : Int) - 1) (-1) (-1))) _ _ s
  rw [places_rev n]
  exact wpAny_pure h
theorem getItem_tuple_rev {prog : Program} {w : World} {A : Around} {E : Value → Shared → Prop} {s : Shared} {t sl : Addr} {items : Array Value} {vs : Value} {Q : Value → Shared → Prop} (ht : IsTup s.heap t items) (hs : s.heap.IsSliceOf sl .none .none vs) (ps : IsPart vs (some (-1)))
    (h : Q (.ref s.heap.objs.size) { s with heap := s.heap.push { cls := .type "tuple", data := .seq items.toList.reverse.toArray } })
    (hsz : items.size ≤ sizeLine) : wpAny (model prog w) A (getItem (.ref t) (.ref sl)) Q E s := by
  have hdrop : sizeOk (.seq items.toList.reverse.toArray) := by
    show items.toList.reverse.toArray.size ≤ sizeLine
    rw [List.size_toArray, List.length_reverse, Array.length_toList]
    omega
  obtain ⟨os, hos, hcs, hds⟩ := id hs
  have hTs : s.TypeIs (.ref sl) "slice" := ⟨os, hos, hcs⟩
  unfold getItem
  try with_reducible refine wpAny_holding ?_
  first | refine wpAny_bind (wpAny_pure ?_) | skip
  refine wpAny_bind (wpAny_sequenceKey ht.typeIs (by decide) ?_)
  refine wpAny_bind (wpAny_callSpecial?_slot (name := Str.ofString "__getitem__") ht.typeIs slot_tuple_getitem
    (wpAny_call_entry slot_tuple_getitem ht.typeIs entry_tuple_getitem ?_ (args_tuple_getitem _ _)))
  show wpAny _ _ (Builtin.Tuple.tupleItemsOf (.ref t) >>= _) _ _ s
  refine wpAny_bind (tupleItemsOf_ ht ?_)
  refine wpAny_bind (wpAny_typeOf hTs ?_)
  rw [if_pos (by decide)]
  refine wpAny_bind (sliceApplied_rev hs ps ?_)
  have hno : ¬ ((((items.size : Int) - 1) == 0 && (-1 : Int) == 1 && items.size == items.size) = true) := by simp
  show wpAny _ _ (if (((items.size : Int) - 1) == 0 && (-1 : Int) == 1 && items.size == items.size) = true then _ else _) _ _ s
  rw [if_neg hno, pick_rev items]
  first
    | exact wpAny_bind (m := Builtin.Tuple.tupleExact _) (wpAny_newObj_type (wpAny_pure ⟨_, rfl, wpAny_pure h⟩) hdrop)
    | exact wpAny_bind (m := Builtin.Tuple.tupleExact _) (wpAny_newObj_type (wpAny_bind (wpAny_pure (wpAny_pure ⟨_, rfl, wpAny_pure h⟩))) hdrop)
    | exact wpAny_bind (wpAny_bind (m := Builtin.Tuple.tupleExact _) (wpAny_newObj_type (wpAny_pure (wpAny_pure ⟨_, rfl, wpAny_pure h⟩)) hdrop))
    | exact wpAny_bind (wpAny_bind (m := Builtin.Tuple.tupleExact _) (wpAny_newObj_type (wpAny_pure ⟨_, rfl, wpAny_pure h⟩) hdrop))
section
variable {X : Cx} {W : Wish} {e : Expr} {m : M LD} {te : TE} {k : Nat} {p1 p2 p3 pos : Pos}
def tRevX (K : PySem.W.Frag) (te : TE) : TE := fun σ H Q => te σ H fun x H1 => ∃ a xs, x = .ref a ∧ ((SqL K H1 a xs ∧ ∀ p, H1 p = none → Q (.ref p) (upd H1 p (.lst xs.reverse))) ∨ (SqT K H1 a xs ∧ ∀ p, H1 p = none → Q (.ref p) (upd H1 p (.tup xs.reverse))))
theorem pe_revX {e : Expr} {te : TE} {k : Nat} {p1 p2 p3 pos : Pos} (he : PE X e te) : PE X (.Subscript e (.Slice none none (some (.UnaryOp .USub (.Constant (.int 1) k p1) p2)) p3) pos) (tRevX X.K te) := by
  refine ⟨fun pins s σ H Q I h => ?_⟩
  refine Subscript_ (thn (he.run pins s σ H _ I h) fun v s1 ⟨x, H1, I1, r1, q1⟩ => ?_)
  obtain ⟨a, xs, ex, hx⟩ := q1
  subst ex
  cases r1
  have hst : PO X (some (.UnaryOp .USub (.Constant (.int 1) k p1) p2)) (tPart (tUn (rU fun i => .int (-i)) (tC (.int 1)))) := po_some (pe_un un_neg pe_int)
  refine wpAny_Slice (thn (po_none.run pins s1 σ H1 (fun o H2 => o = none ∧ H2 = H1) I1 ⟨rfl, rfl⟩) fun vl s2 ⟨l, H2, I2, pl, el, e2⟩ => ?_)
  subst el e2
  refine thn (po_none.run pins s2 σ H2 (fun o H3 => o = none ∧ H3 = H2) I2 ⟨rfl, rfl⟩) fun vu s3 ⟨u, H3, I3, pu, eu, e3⟩ => ?_
  subst eu e3
  refine thn (hst.run pins s3 σ H3 (fun o H4 => o = some (-1) ∧ H4 = H3) I3 ⟨1, rfl, -1, rfl, rfl, rfl⟩) fun vs s4 ⟨o, H4, I4, ps, eo, e4⟩ => ?_
  subst eo e4
  have I5 : Inv X pins σ H4 { s4 with heap := s4.heap.push { cls := .type "slice", data := .fields #[vl, vu, vs] } } := I4.kept (t' := s4.toks) fun b ob q => Heap.get?_push_of_some _ q
  rcases hx with ⟨hx, q⟩ | ⟨hx, q⟩
  · obtain ⟨its, r, ht, hz⟩ := I5.list hx
    have hlen := r.length
    show wpAny (model X.prog X.w) X.A (subscriptTail e (.Slice none none (some (.UnaryOp .USub (.Constant (.int 1) k p1) p2)) p3) (.ref a) (.ref s4.heap.objs.size)) (EP X pins σ Q) X.xe { s4 with heap := s4.heap.push { cls := .type "slice", data := .fields #[vl, vu, vs] } }
    refine tail_any (ops := [.ref a, .ref s4.heap.objs.size]) ht.isList.typeIs (PySem.slot_list_getitem.lookup) ?_ (by with_unfolding_all rfl)
    refine wpAny_getItem_list_slice ht.isList (Heap.IsSliceOf.new _ vl vu vs) pl pu ps (by decide) ?_ (by rw [List.size_toArray]; omega)
    rw [PySem.W.krv_pick]
    refine ⟨.ref _, _, I5.laid (t' := s4.toks) (o := .lst xs.reverse) (fun b ob q => Heap.get?_push_of_some _ q) (Nat.le_refl _) ?_, rfl, q _ (I5.hok.fresh (Nat.le_refl _))⟩
    exact ⟨by rw [List.length_reverse]; exact hz, _, 0, r.reverse, Heap.get?_push_size _ rfl⟩
  · obtain ⟨its, r, ht, hz⟩ := I5.tuple hx
    have hlen := r.length
    cases pl
    cases pu
    show wpAny (model X.prog X.w) X.A (subscriptTail e (.Slice none none (some (.UnaryOp .USub (.Constant (.int 1) k p1) p2)) p3) (.ref a) (.ref s4.heap.objs.size)) (EP X pins σ Q) X.xe { s4 with heap := s4.heap.push { cls := .type "slice", data := .fields #[.none, .none, vs] } }
    refine tail_any (ops := [.ref a, .ref s4.heap.objs.size]) ht.typeIs slot_tuple_getitem.lookup ?_ (by with_unfolding_all rfl)
    refine getItem_tuple_rev ht (Heap.IsSliceOf.new _ .none .none vs) ps ?_ (by rw [List.size_toArray]; omega)
    refine ⟨.ref _, _, I5.laid (t' := s4.toks) (o := .tup xs.reverse) (fun b ob q => Heap.get?_push_of_some _ q) (Nat.le_refl _) ?_, rfl, q _ (I5.hok.fresh (Nat.le_refl _))⟩
    exact ⟨by rw [List.length_reverse]; exact hz, _, r.reverse, IsTup.new _ _⟩
theorem v_revL (he : PE X e (tV X.K W m)) : PE X (.Subscript e (.Slice none none (some (.UnaryOp .USub (.Constant (.int 1) k p1) p2)) p3) pos) (tV X.K W (op1 revD m)) := by
  refine PE.imp (pe_revX he) fun σ H Q ⟨ρ, T, rel, a⟩ => ⟨ρ, T, rel, a.bind.imp fun x ρ' q v H1 r => ?_⟩
  obtain ⟨k, d⟩ := x
  obtain ⟨L, c, g⟩ := r
  unfold revD at q
  cases d with
  | lst xs =>
    obtain ⟨p, vs, rfl, s1, l1, g1⟩ := g.lst_inv
    exact ⟨p, vs, rfl, .inl ⟨SqL.of s1, fun p hp => q _ _ ⟨L, c, (g1.rev l1).newL (by simp [l1]) hp⟩⟩⟩
  | rol xs =>
    obtain ⟨p, vs, rfl, s1, l1, g1⟩ := g.rol_inv
    exact ⟨p, vs, rfl, .inl ⟨s1, fun p hp => q _ _ ⟨L, c, (g1.rev l1).newL (by simp [l1]) hp⟩⟩⟩
  | tup xs =>
    obtain ⟨p, vs, rfl, s1, l1, g1⟩ := g.tup_inv
    exact ⟨p, vs, rfl, .inr ⟨s1, fun p hp => q _ _ ⟨L, c, (g1.rev l1).newT (by simp [l1]) hp⟩⟩⟩
  | _ => exact q.elim
end
/-! ### min(xs), max(xs) of a list of numbers -/
def minO : List Int → Option Int
  | [] => none
  | [x] => some x
  | x :: y :: ys => (minO (y :: ys)).map fun m => if m < x then m else x
def maxO : List Int → Option Int
  | [] => none
  | [x] => some x
  | x :: y :: ys => (maxO (y :: ys)).map fun m => if x < m then m else x
theorem minO_is : ∀ {xs : List Int} {m : Int}, minO xs = some m → m ∈ xs ∧ ∀ y ∈ xs, m ≤ y
  | [x], m, h => by cases h; simp
  | x :: y :: ys, m, h => by
    unfold minO at h
    cases e : minO (y :: ys) with
    | none => rw [e] at h; cases h
    | some n =>
      obtain ⟨h1, h2⟩ := minO_is e
      rw [e] at h
      have h' : (if n < x then n else x) = m := Option.some.inj h
      subst h'
      by_cases q : n < x
      · rw [if_pos q]
        refine ⟨List.mem_cons_of_mem _ h1, fun z hz => ?_⟩
        rcases List.mem_cons.mp hz with rfl | hz
        · omega
        · exact h2 z hz
      · rw [if_neg q]
        refine ⟨List.mem_cons_self .., fun z hz => ?_⟩
        rcases List.mem_cons.mp hz with rfl | hz
        · omega
        · have := h2 z hz; omega
theorem maxO_is : ∀ {xs : List Int} {m : Int}, maxO xs = some m → m ∈ xs ∧ ∀ y ∈ xs, y ≤ m
  | [x], m, h => by cases h; simp
  | x :: y :: ys, m, h => by
    unfold maxO at h
    cases e : maxO (y :: ys) with
    | none => rw [e] at h; cases h
    | some n =>
      obtain ⟨h1, h2⟩ := maxO_is e
      rw [e] at h
      have h' : (if x < n then n else x) = m := Option.some.inj h
      subst h'
      by_cases q : x < n
      · rw [if_pos q]
        refine ⟨List.mem_cons_of_mem _ h1, fun z hz => ?_⟩
        rcases List.mem_cons.mp hz with rfl | hz
        · omega
        · exact h2 z hz
      · rw [if_neg q]
        refine ⟨List.mem_cons_self .., fun z hz => ?_⟩
        rcases List.mem_cons.mp hz with rfl | hz
        · omega
        · have := h2 z hz; omega
def fMin (d : D) : Option D := (lstN d).bind fun ns => (minO ns).map D.int
def fMax (d : D) : Option D := (lstN d).bind fun ns => (maxO ns).map D.int
theorem s_minL {K : PySem.W.Frag} : SOp K (rMin K) (o1 fMin) := by
  intro H ds vs d h e
  unfold o1 at e
  split at e
  · obtain ⟨v, rfl, k⟩ := kds1 h
    unfold fMin at e
    cases q : lstN _ with
    | none => rw [q] at e; cases e
    | some ns =>
      rw [q] at e
      cases q2 : minO ns with
      | none => simp only [Option.bind, q2, Option.map] at e; cases e
      | some m =>
        simp only [Option.bind, q2, Option.map] at e
        cases e
        obtain ⟨p, rfl, hs⟩ := k.lstN q
        obtain ⟨m1, m2⟩ := minO_is q2
        refine ⟨rfl, fun Q q' => ⟨p, ns, rfl, hs, List.length_pos_of_mem m1, fun n n1 n2 => ?_⟩⟩
        have : n = m := Int.le_antisymm (n2 m m1) (m2 n n1)
        rw [this]
        exact q'
  · cases e
theorem s_maxL {K : PySem.W.Frag} : SOp K (rMax K) (o1 fMax) := by
  intro H ds vs d h e
  unfold o1 at e
  split at e
  · obtain ⟨v, rfl, k⟩ := kds1 h
    unfold fMax at e
    cases q : lstN _ with
    | none => rw [q] at e; cases e
    | some ns =>
      rw [q] at e
      cases q2 : maxO ns with
      | none => simp only [Option.bind, q2, Option.map] at e; cases e
      | some m =>
        simp only [Option.bind, q2, Option.map] at e
        cases e
        obtain ⟨p, rfl, hs⟩ := k.lstN q
        obtain ⟨m1, m2⟩ := maxO_is q2
        refine ⟨rfl, fun Q q' => ⟨p, ns, rfl, hs, List.length_pos_of_mem m1, fun n n1 n2 => ?_⟩⟩
        have : n = m := Int.le_antisymm (m2 n n1) (n2 m m1)
        rw [this]
        exact q'
  · cases e
end Vs
set_option Elab.async false
set_option linter.all false
set_option maxRecDepth 100000
set_option maxHeartbeats 2000000
/-! Vs23: isinstance(x, T), T a built-in type. -/
namespace Vs
open PySem PySem.Spec PyProof.Rows L2
inductive Ty where
  | non | bl | int | str | tup | lst | dic
  deriving DecidableEq
def Ty.nm : Ty → String
  | .non => "NoneType"
  | .bl => "bool"
  | .int => "int"
  | .str => "str"
  | .tup => "tuple"
  | .lst => "list"
  | .dic => "dict"
def tyD : D → Option Ty
  | .non => some .non
  | .bl _ => some .bl
  | .int _ => some .int
  | .str _ => some .str
  | .tup _ => some .tup
  | .lst _ => some .lst
  | .rol _ => some .lst
  | .pin _ => none
  | .dic _ => some .dic
  | _ => none
def isTy : Ty → Ty → Bool
  | .bl, .int => true
  | .non, .non => true
  | .bl, .bl => true
  | .int, .int => true
  | .str, .str => true
  | .tup, .tup => true
  | .lst, .lst => true
  | .dic, .dic => true
  | _, _ => false
def isD (T : Ty) (d : D) : Option D := (tyD d).map fun t => .bl (isTy t T)
theorem kit_is (K : PySem.W.Frag) (t T : Ty) (hT : T ≠ .non) : PySem.W.kitOne K (.type t.nm) (.type T.nm) = some (isTy t T) := by
  cases T <;> first | exact absurd rfl hT | (cases t <;> kernel_rfl)
section
variable {K : PySem.W.Frag} {H : Hp}
theorem ty_tup {a : Addr} {xs : List V} (h : SqT K H a xs) : TyX K H (.ref a) (.type "tuple") := by
  rcases h with (h | ⟨o, h⟩) | ⟨o, its, n, h1, h2, _⟩
  · exact .base (.tup h)
  · exact .fTuple h
  · exact .kTuple h1 h2
theorem ty_lst {a : Addr} {xs : List V} (h : SqL K H a xs) : TyX K H (.ref a) (.type "list") := by
  rcases h with (h | ⟨o, h⟩) | ⟨o, its, n, h1, h2, _⟩
  · exact .base (.lst h)
  · exact .base (.frz h)
  · exact .kList h1 h2
theorem KD.ty {d : D} {v : V} {t : Ty} (h : KD K H d v) (e : tyD d = some t) : TyX K H v (.type t.nm) := by
  cases d with
  | non => cases e; obtain rfl := h.isS rfl; exact .base .non
  | bl b => cases e; rw [h.bl]; exact .base (.bl b)
  | int i => cases e; rw [h.int]; exact .base (.int i)
  | str x => cases e; rw [h.str]; exact .base (.str x)
  | tup xs => cases e; obtain ⟨p, vs, rfl, h1, _⟩ := h.tup; exact ty_tup h1
  | lst xs => cases e; obtain ⟨p, vs, rfl, h1, _⟩ := h.lst; exact .base (.lst h1)
  | rol xs => cases e; obtain ⟨p, vs, rfl, h1, _⟩ := h.rol; exact ty_lst h1
  | pin a => cases e
  | dic ks => cases e; obtain ⟨p, kvs, rfl, h1, _⟩ := h.dic; exact .base (.dK h1)
  | dit ks => cases e
  | iset ns => cases e
end
section
variable {X : Cx} {W : Wish} {ea : Expr} {p p2 pos : Pos} {ma : M Ar} {T : Ty} {x : Str}
theorem v_isi (hx : bootBuiltins x = some (.type T.nm)) (hT : T ≠ .non) (hg : Gl X "isinstance") (hm : X.mg "isinstance" = none) (hg2 : Gl X x) (hm2 : X.mg x = none) (ha : PE X ea (tA X.K W ma))
    (hn : x ≠ "__name__" := by decide) (hd : (x == ("__debug__" : Str)) = false := by decide)
    (na : starEach [ea, .Name x p2] X.env = (false, eval ea X.env) :: starEach [.Name x p2] X.env := by rfl) (nb : starEach [.Name x p2] X.env = (false, eval (.Name x p2) X.env) :: starEach [] X.env := by rfl)
    (hp : (backTo pos (starEach [.Name x p2] X.env)).any (·.1) = false := by rfl) : PE X (.Call (.Name "isinstance" p) [ea, .Name x p2] [] pos) (tV X.K W (un (isD T) ma)) := by
  refine PE.imp (pe_callB call_isi hg hm PyProof.Rows.boot_isinstance (pa_cons ha (pa_cons (pe_bltn (v := .ty T.nm) hg2 hm2 hx rfl hn hd) pa_nil nb) na) (by decide) (by decide) na hp) fun σ H Q ⟨ρ, T', rel, h⟩ => ⟨ρ, T', rel, h.bind.imp fun a ρ' q v H' r' pp => ?_⟩
  cases e : a.get ρ' with
  | none => rw [e] at q; exact q.elim
  | some d =>
    rw [e] at q
    simp only at q
    cases e2 : tyD d with
    | none => simp only [isD, e2, Option.map] at q; exact q.elim
    | some t =>
      simp only [isD, e2, Option.map] at q
      exact ⟨v, .ty T.nm, .type t.nm, .type T.nm, isTy t T, rfl, .ty _, (get_kd r' pp e).ty e2, kit_is X.K t T hT, q (.bl (isTy t T)) H' ((r'.good fun L g => by rw [List.append_assoc] at g; exact g.dropA).scal (d := .bl (isTy t T)) rfl)⟩
end
end Vs
set_option Elab.async false
set_option linter.all false
set_option maxRecDepth 100000
set_option maxHeartbeats 2000000
/-! Vs24: x in row, x not in row. -/
namespace Vs
open PySem PySem.Spec PyProof.Rows L2
def rInT (K : PySem.W.Frag) : R2 := fun x y H Q => ∃ d ds, Dp K H x d ∧ Dp K H y (.tuple ds) ∧ SeqAt.shaped d = true ∧ SeqAt.shaped (.tuple ds) = true ∧ Q (.bl (ds.any fun z => PyData.eqv z d)) H
def rNotInT (K : PySem.W.Frag) : R2 := fun x y H Q => ∃ d ds, Dp K H x d ∧ Dp K H y (.tuple ds) ∧ SeqAt.shaped d = true ∧ SeqAt.shaped (.tuple ds) = true ∧ Q (.bl (!ds.any fun z => PyData.eqv z d)) H
section
variable {X : Cx}
theorem op_inT (hu : X.A.units + 65 < cLine) : OpR X (compareOp .In) (rInT X.K) := by
  intro pins s σ H x y v u Q I rx ry h
  obtain ⟨d, ds, hd, he, sd, se, q⟩ := h
  obtain ⟨as, r1⟩ := Dp.reads I d x v hd rx
  obtain ⟨bs, r2⟩ := Dp.reads I (.tuple ds) y u he ry
  exact SeqAt.in_tuple_reads r2 r1 (SeqAt.canLay_of_shaped se) (SeqAt.canLay_of_shaped sd) (room_in_shaped sd hu) ⟨.bl _, H, I, rfl, q⟩
theorem op_notInT (hu : X.A.units + 65 < cLine) : OpR X (compareOp .NotIn) (rNotInT X.K) := by
  intro pins s σ H x y v u Q I rx ry h
  obtain ⟨d, ds, hd, he, sd, se, q⟩ := h
  obtain ⟨as, r1⟩ := Dp.reads I d x v hd rx
  obtain ⟨bs, r2⟩ := Dp.reads I (.tuple ds) y u he ry
  exact SeqAt.notIn_tuple_reads r2 r1 (SeqAt.canLay_of_shaped se) (SeqAt.canLay_of_shaped sd) (room_in_shaped sd hu) ⟨.bl _, H, I, rfl, q⟩
end
/-- x in y -/
def inD (x y : D) : Option Bool := match rowD y with
  | some (_, ys) => if x.isS && ys.all D.isS then some (inV x.sv (ys.map D.sv)) else match py x, py y with
    | some a, some (.list bs) => if SeqAt.shaped a && SeqAt.shaped (.list bs) then some (bs.any fun z => PyData.eqv z a) else none
    | some a, some (.tuple bs) => if SeqAt.shaped a && SeqAt.shaped (.tuple bs) then some (bs.any fun z => PyData.eqv z a) else none
    | _, _ => none
  | none => none
def oIn : List D → Option D
  | [x, y] => (inD x y).map .bl
  | _ => none
def oNotIn : List D → Option D
  | [x, y] => (inD x y).map fun b => .bl (!b)
  | _ => none
def rInX (K : PySem.W.Frag) : R2 := fun x y H Q => rIn K false x y H Q ∨ rInD K x y H Q ∨ rInT K x y H Q
def rNotInX (K : PySem.W.Frag) : R2 := fun x y H Q => rIn K true x y H Q ∨ rNotInD K x y H Q ∨ rNotInT K x y H Q
section
variable {K : PySem.W.Frag} {H : Hp}
theorem flat_sv {d : D} (h : d.isS = true) : flatV d.sv = true := by
  cases d <;> first | rfl | cases h
theorem KDs.sv : ∀ {ds : List D} {vs : List V}, KDs K H ds vs → ds.all D.isS = true → vs = ds.map D.sv
  | [], _, h, _ => by cases h; rfl
  | d :: ds, _, h, e => by
    rw [List.all_cons, Bool.and_eq_true] at e
    cases h with
    | cons h1 h2 => rw [h1.isS e.1, KDs.sv h2 e.2]; rfl
theorem all_flat : ∀ {ds : List D}, ds.all D.isS = true → (ds.map D.sv).all flatV = true
  | [], _ => rfl
  | d :: ds, e => by
    rw [List.all_cons, Bool.and_eq_true] at e
    rw [List.map_cons, List.all_cons, flat_sv e.1, all_flat e.2]
    rfl
theorem inD_ok {x y : D} {v w : V} {b : Bool} (h1 : KD K H x v) (h2 : KD K H y w) (e : inD x y = some b) :
    (∀ Q : VK, Q (.bl b) H → rInX K v w H Q) ∧ ∀ Q : VK, Q (.bl (!b)) H → rNotInX K v w H Q := by
  unfold inD at e
  cases e1 : rowD y with
  | none => rw [e1] at e; cases e
  | some p =>
    obtain ⟨t, ys⟩ := p
    rw [e1] at e
    simp only at e
    by_cases z : (x.isS && ys.all D.isS) = true
    · rw [if_pos z] at e
      rw [Bool.and_eq_true] at z
      obtain ⟨p, vs, rfl, hs, hk⟩ := h2.row e1
      obtain rfl := h1.isS z.1
      obtain rfl := hk.sv z.2
      have hq : SqL K H p (ys.map D.sv) ∨ SqT K H p (ys.map D.sv) := by
        cases t with
        | true => exact .inl hs
        | false => exact .inr hs
      cases e
      exact ⟨fun Q q => .inl ⟨p, _, rfl, hq, flat_sv z.1, all_flat z.2, q⟩, fun Q q => .inl ⟨p, _, rfl, hq, flat_sv z.1, all_flat z.2, q⟩⟩
    · rw [if_neg z] at e
      split at e
      · rename_i a bs p1 p2
        by_cases s : (SeqAt.shaped a && SeqAt.shaped (.list bs)) = true
        · rw [if_pos s] at e
          cases e
          rw [Bool.and_eq_true] at s
          exact ⟨fun Q q => .inr (.inl ⟨a, bs, py_dp x h1 p1, py_dp y h2 p2, s.1, s.2, q⟩), fun Q q => .inr (.inl ⟨a, bs, py_dp x h1 p1, py_dp y h2 p2, s.1, s.2, q⟩)⟩
        · rw [if_neg s] at e; cases e
      · rename_i a bs p1 p2
        by_cases s : (SeqAt.shaped a && SeqAt.shaped (.tuple bs)) = true
        · rw [if_pos s] at e
          cases e
          rw [Bool.and_eq_true] at s
          exact ⟨fun Q q => .inr (.inr ⟨a, bs, py_dp x h1 p1, py_dp y h2 p2, s.1, s.2, q⟩), fun Q q => .inr (.inr ⟨a, bs, py_dp x h1 p1, py_dp y h2 p2, s.1, s.2, q⟩)⟩
        · rw [if_neg s] at e; cases e
      · cases e
theorem s_in : SOp K (fun vs H Q => ∃ x y, vs = [x, y] ∧ rInX K x y H Q) oIn := by
  intro H ds vs d h e
  unfold oIn at e
  split at e
  · rename_i x y
    cases q : inD x y with
    | none => rw [q] at e; cases e
    | some b =>
      rw [q] at e; cases e
      obtain ⟨v, w, rfl, h1, h2⟩ := kds2 h
      exact ⟨rfl, fun Q q' => ⟨v, w, rfl, (inD_ok h1 h2 q).1 Q q'⟩⟩
  · cases e
theorem s_notin : SOp K (fun vs H Q => ∃ x y, vs = [x, y] ∧ rNotInX K x y H Q) oNotIn := by
  intro H ds vs d h e
  unfold oNotIn at e
  split at e
  · rename_i x y
    cases q : inD x y with
    | none => rw [q] at e; cases e
    | some b =>
      rw [q] at e; cases e
      obtain ⟨v, w, rfl, h1, h2⟩ := kds2 h
      exact ⟨rfl, fun Q q' => ⟨v, w, rfl, (inD_ok h1 h2 q).2 Q q'⟩⟩
  · cases e
end
section
variable {X : Cx} {W : Wish} {ea eb : Expr} {pos : Pos} {ma mb : M Ar} {k : Nat}
theorem op_inX (hu : X.A.units + 65 < cLine) : OpR X (compareOp .In) (rInX X.K) := OpR.or op_in_seq (OpR.or (op_inD hu) (op_inT hu))
theorem op_notInX (hu : X.A.units + 65 < cLine) : OpR X (compareOp .NotIn) (rNotInX X.K) := OpR.or op_notIn_seq (OpR.or (op_notInD hu) (op_notInT hu))
theorem v_in (hr : Room k X.A) (ha : PE X ea (tA X.K W ma)) (hb : PE X eb (tA X.K W mb)) (hm : behindInMarks .In eb = false := by rfl) : PE X (.Compare ea [.In] [eb] pos) (tV X.K W (sop oIn (two ma mb))) := v_cmp2 (op_inX (by have := hr.un; omega)) s_in ha hb hm
theorem v_notin (hr : Room k X.A) (ha : PE X ea (tA X.K W ma)) (hb : PE X eb (tA X.K W mb)) (hm : behindInMarks .NotIn eb = false := by rfl) : PE X (.Compare ea [.NotIn] [eb] pos) (tV X.K W (sop oNotIn (two ma mb))) := v_cmp2 (op_notInX (by have := hr.un; omega)) s_notin ha hb hm
theorem t_in (hr : Room k X.A) (ha : PE X ea (tA X.K W ma)) (hb : PE X eb (tA X.K W mb)) (hm : behindInMarks .In eb = false := by rfl) : PT X (.Compare ea [.In] [eb] pos) (tT X.K W (asB (sop oIn (two ma mb)))) := t_cmp2 (op_inX (by have := hr.un; omega)) s_in ha hb hm
theorem t_notin (hr : Room k X.A) (ha : PE X ea (tA X.K W ma)) (hb : PE X eb (tA X.K W mb)) (hm : behindInMarks .NotIn eb = false := by rfl) : PT X (.Compare ea [.NotIn] [eb] pos) (tT X.K W (asB (sop oNotIn (two ma mb)))) := t_cmp2 (op_notInX (by have := hr.un; omega)) s_notin ha hb hm
end
end Vs
namespace Vs
open PySem PySem.Spec PyProof.Rows L2
/-- a module's whole number -/
theorem v_gI2 {X : Cx} {W : Wish} {x : Str} {i : Int} {pos : Pos} (hg : Gl X x) (hm : ∃ t, X.mg x = some (.int i t)) (hd : (x == ("__debug__" : Str)) = false := by decide) : PE X (.Name x pos) (tV X.K W (kc (.int i))) := by
  obtain ⟨t, hm⟩ := hm
  exact v_gI hg hm hd
end Vs
set_option Elab.async false
set_option linter.all false
set_option maxRecDepth 100000
set_option maxHeartbeats 2000000
/-! Vs25: {}. -/
namespace Vs
open PySem PySem.Spec PyProof.Rows L2
section
variable {X : Cx} {W : Wish} {pos : Pos}
def dic0 : M LD := M.ret (9, .dic [])
theorem v_dic0 : PE X (.Dict [] [] pos) (tV X.K W dic0) :=
  PE.imp pe_dnewK fun σ H Q ⟨ρ, T, rel, a⟩ => fun p hp => a (.ref p) _ (rel.good fun L g => Good.newD (k := 8) (ks := []) (kvs := []) g rfl hp)
end
end Vs
set_option Elab.async false
set_option linter.all false
set_option maxRecDepth 100000
set_option maxHeartbeats 2000000
/-! Vs26: text.split(by). -/
namespace Vs
open PySem PySem.Spec PyProof.Rows L2
def splM (a b : M LD) : M LD := a.bind fun x => match x.2 with
  | .str s => b.bind fun y ρ => match y.2 with
    | .str t => if (t.length == 0) = false ∧ s.length + 2 ≤ lineN then .ok (9, .lst ((Txt.split s t).map D.str)) ρ else .no
    | _ => .no
  | _ => fun _ => .no
theorem kd_strs {K : PySem.W.Frag} {H : Hp} : ∀ xs : List Str, KDs K H (xs.map D.str) (xs.map V.str)
  | [] => .nil
  | x :: xs => .cons (s_kd (d := .str x) rfl) (kd_strs xs)
section
variable {X : Cx} {W : Wish} {o e : Expr} {apos pos : Pos} {a b : M LD}
theorem v_split (ho : PE X o (tV X.K W a)) (he : PE X e (tV X.K W b)) (hs : starEach [e] X.env = [(false, eval e X.env)] := by rfl) (hbase : attributeBase o "split" X.env (eval o X.env) = eval o X.env := by rfl) (hline : (apos.endLine == pos.line) = true := by rfl) :
    PE X (.Call (.Attribute o "split" apos) [e] [] pos) (tV X.K W (splM a b)) := by
  refine PE.imp (pe_split ho he hs hbase hline) fun σ H Q ⟨ρ, T, rel, h⟩ => ⟨ρ, T, rel, h.bind.imp fun x ρ1 q v H1 r1 => ?_⟩
  obtain ⟨kx, dx⟩ := x
  cases dx with
  | str s =>
    have r1' : Rel X.K H1 ρ1 σ ((kx, .str s, v) :: T) := r1
    obtain rfl := r1'.top.str
    have q' : Aft W T (M.bind b (fun y ρ => match y.2 with
      | .str t => if (t.length == 0) = false ∧ s.length + 2 ≤ lineN then .ok (9, .lst ((Txt.split s t).map D.str)) ρ else .no
      | _ => .no) ρ1) fun x ρ' => ∀ v H', Rel X.K H' ρ' σ ((x.1, x.2, v) :: T) → Q v H' := q
    refine ⟨⟨s, rfl⟩, ρ1, _, r1', (q'.bind.up).imp fun y ρ2 q2 w2 H2 r2 => ?_⟩
    obtain ⟨ky, dy⟩ := y
    cases dy with
    | str t =>
      have r2' : Rel X.K H2 ρ2 σ ((ky, .str t, w2) :: (kx, .str s, V.str s) :: T) := r2
      obtain rfl := r2'.top.str
      by_cases z : (t.length == 0) = false ∧ s.length + 2 ≤ lineN
      · have q3 : Aft W T (if (t.length == 0) = false ∧ s.length + 2 ≤ lineN then R.ok (9, D.lst ((Txt.split s t).map D.str)) ρ2 else R.no) fun x ρ' => ∀ v H', Rel X.K H' ρ' σ ((x.1, x.2, v) :: T) → Q v H' := q2
        rw [if_pos z] at q3
        refine ⟨s, t, rfl, rfl, z.1, by rw [lineE]; exact z.2, fun p hp => q3 _ _ (r2'.drop.drop.good fun L g => ?_)⟩
        refine (Good.scalRow (k := 8) ?_ (kd_strs _) g).newL (by simp) hp
        rw [List.all_eq_true]
        intro y hy
        obtain ⟨z, _, rfl⟩ := List.mem_map.mp hy
        rfl
      · have q3 : Aft W T (if (t.length == 0) = false ∧ s.length + 2 ≤ lineN then R.ok (9, D.lst ((Txt.split s t).map D.str)) ρ2 else R.no) fun x ρ' => ∀ v H', Rel X.K H' ρ' σ ((x.1, x.2, v) :: T) → Q v H' := q2
        rw [if_neg z] at q3; exact q3.elim
    | _ => exact q2.elim
  | _ => exact q.elim
end
/-! ### int of a number, a truth or a text -/
def fIntS (d : D) : Option D := match d with
  | .int i => some (.int i)
  | .bl b => some (.int (if b then 1 else 0))
  | .str a => if a.length ≤ 640 then (PySem.intText? a).map D.int else none
  | _ => none
def rIntS : List V → Hp → VK → Prop := fun xs H Q => ((∃ i, xs = [V.int i] ∧ Q (.int i) H) ∨ ∃ k, xs = [V.bl k] ∧ Q (.int (if k then 1 else 0)) H) ∨ (∃ a n, xs = [.str a] ∧ PySem.intText? a = some n ∧ a.length ≤ 640 ∧ Q (.int n) H)
theorem call_intS {X : Cx} : CallR X (.type "int") rIntS := CallR.or call_int1 call_int_str
theorem s_intS {K : PySem.W.Frag} : SOp K rIntS (o1 fIntS) := by
  intro H ds vs d h e
  unfold o1 at e
  split at e
  · obtain ⟨v, rfl, k⟩ := kds1 h
    unfold fIntS at e
    split at e
    · cases e
      obtain rfl := k.int
      exact ⟨rfl, fun Q q => .inl (.inl ⟨_, rfl, q⟩)⟩
    · cases e
      obtain rfl := k.bl
      exact ⟨rfl, fun Q q => .inl (.inr ⟨_, rfl, q⟩)⟩
    · rename_i a
      obtain rfl := k.str
      by_cases z : a.length ≤ 640
      · rw [if_pos z] at e
        cases e2 : PySem.intText? a with
        | none => rw [e2] at e; cases e
        | some n =>
          rw [e2] at e
          cases e
          exact ⟨rfl, fun Q q => .inr ⟨_, _, rfl, e2, z, q⟩⟩
      · rw [if_neg z] at e; cases e
    · cases e
  · cases e
end Vs
set_option Elab.async false
set_option linter.all false
set_option maxRecDepth 100000
set_option maxHeartbeats 400000
/-! Vs27: plain side: a comprehension by an invariant. -/
namespace Vs
open PySem PySem.Spec PyProof.Rows L2
theorem compL_ok {own : List Nat} {g : G} {t : M Bool} {e : M LD} {J : Rho → Prop} {A : D → Prop} {k : Nat} : ∀ (ds : List D) (acc : List D) (ρ : Rho),
    (∀ d ∈ ds, ∀ ρ, J ρ → ∃ ρ1, g (lv d, d) ρ = some ρ1 ∧ Ok (t ρ1) fun b ρ2 => (b = true → Ok (e ρ2) fun x ρ3 => A x.2 ∧ k ≤ x.1 ∧ J (wipeC ρ3 own)) ∧ (b = false → J (wipeC ρ2 own))) → J ρ → (∀ a ∈ acc, A a) →
    Ok (compL own g t e ds k acc ρ) fun x ρ' => J ρ' ∧ ∃ xs, x = (k + 1, .lst xs) ∧ (∀ a ∈ xs, A a) ∧ xs.length ≤ acc.length + ds.length
  | [], acc, ρ, _, hJ, hA => .of rfl ⟨hJ, _, rfl, hA, by simp⟩
  | d :: ds, acc, ρ, hs, hJ, hA => by
    obtain ⟨ρ1, e1, h1⟩ := hs d (List.mem_cons_self ..) ρ hJ
    obtain ⟨b, ρ2, e2, q1, q2⟩ := h1.get
    have hs' : ∀ d ∈ ds, ∀ ρ, J ρ → _ := fun d hd => hs d (List.mem_cons_of_mem _ hd)
    unfold compL
    rw [e1]
    simp only [e2]
    cases b with
    | false =>
      refine (compL_ok ds acc _ hs' (q2 rfl) hA).imp fun x ρ' ⟨j, xs, h2, h3, h4⟩ => ⟨j, xs, h2, h3, by simp; omega⟩
    | true =>
      obtain ⟨x, ρ3, e3, a3, k3, j3⟩ := (q1 rfl).get
      simp only [e3]
      rw [Nat.min_eq_left k3]
      refine (compL_ok ds (acc ++ [x.2]) _ hs' j3 ?_).imp fun x ρ' ⟨j, xs, h2, h3, h4⟩ => ⟨j, xs, h2, h3, by simp at h4 ⊢; omega⟩
      intro a ha
      rcases List.mem_append.mp ha with h | h
      · exact hA a h
      · simp at h; subst h; exact a3
end Vs
set_option Elab.async false
set_option linter.all false
set_option maxRecDepth 100000
set_option maxHeartbeats 400000
/-! Vs28: extend by a tuple. -/
namespace Vs
open PySem PySem.Spec PyProof.Rows L2
def rExtendT (K : PySem.W.Frag) : V → List V → Hp → VK → Prop := fun x vs H Q => ∃ l b xs zs, x = .ref l ∧ vs = [.ref b] ∧ H l = some (.lst xs) ∧ SqT K H b zs ∧ xs.length + zs.length ≤ sizeLine ∧ Q .non (upd H l (.lst (xs ++ zs)))
def rExtendX (K : PySem.W.Frag) : V → List V → Hp → VK → Prop := fun x vs H Q => rExtend x vs H Q ∨ rExtendT K x vs H Q
section
variable {X : Cx}
theorem extend_tup (l : Addr) (items : Array Value) (n : Nat) (b : Addr) (items2 : Array Value) (n2 : Nat) (dc : Option Addr) (sl : Array (Option Value)) (hs0 : ¬(!items.isEmpty && Builtin.List.listTooLong (items.size + items2.size)) = true) (hs1 : items.size ≤ sizeLine) (hs2 : items.size + items2.size ≤ sizeLine + 1) :
    Meets (Builtin.«list.extend» ⟨[.ref l, .ref b], []⟩) (fun _ R s => s.heap.get? l = some { cls := .type "list", dict := none, data := .seq items n, slots := #[] } ∧ s.heap.get? b = some { cls := .type "tuple", dict := dc, data := .seq items2 n2, slots := sl } ∧ R (.ok (.ret Value.none)) { s with heap := s.heap.update l (Obj.mapSeq fun x => x ++ items2), toks := s.toks }) :=
  .of_wp fun prog w A R s h => by
    obtain ⟨hp, g, d, tk, os⟩ := s; obtain ⟨hl, hb, h⟩ := h; have f1 := AutoSeq1.idx_int; have f2 := AutoSeq1.sub_tuple_tuple; have f3 := AutoSeq1.sub_list_list; have f4 := AutoSeq1.sub_tuple_list; have f5 := AutoSeq1.sub_list_tuple;
    have hz' : (items ++ items2).size ≤ sizeLine + 1 := by rw [Array.size_append]; exact hs2
    wp_walk using (wpAny_updateSeq hl rfl (hz := hs1) (_hz' := hz')), wpAny_loadPart' hl, wpAny_loadPart' hb; exact ⟨_, rfl, h⟩
theorem mt_extendT : MtM X "list.extend" (rExtendT X.K) := by
  intro pins s σ H x vs v us Q I rx rv h
  obtain ⟨l, b, xs, zs, rfl, rfl, hH, hB, hz, q⟩ := h
  cases rx
  obtain ⟨u, rfl, ru⟩ := rv.one
  cases ru
  obtain ⟨z, its, n, r, hl, e⟩ := I.lstM hH
  obtain ⟨its2, r2, ⟨⟨oc, od, odt, osl⟩, e2, hc2, n2, hd2⟩, z2⟩ := I.tuple hB
  simp only at hc2 hd2
  subst hc2 hd2
  have hl2 := r2.length
  have hsz : its.toArray.size + its2.toArray.size ≤ sizeLine := by rw [List.size_toArray, List.size_toArray]; omega
  have hlong : ¬ (!its.toArray.isEmpty && Builtin.List.listTooLong (its.toArray.size + its2.toArray.size)) = true := by
    rw [notLongL hsz, Bool.and_false]
    exact Bool.false_ne_true
  refine call_meets F.slot_list_extend ⟨_, e, rfl⟩ F.entry_list_extend (F.args_list_extend_2 _ _)
    (extend_tup l its.toArray n b its2.toArray n2 od osl hlong (by rw [List.size_toArray]; omega) (by omega)) ⟨e, e2, ?_⟩
  refine ⟨.non, _, I.lset (its' := its ++ its2) hH e (by simp) (r.append r2) ?_, rfl, q⟩
  rw [List.length_append]
  omega
theorem mt_extendX : MtM X "list.extend" (rExtendX X.K) := by
  intro pins s σ H x vs v us Q I rx rv h
  rcases h with h | h
  · exact mt_extend pins s σ H x vs v us Q I rx rv h
  · exact mt_extendT pins s σ H x vs v us Q I rx rv h
end
def moExtendX : MO := fun k d xs => match k, d, xs with
  | k + 1, .lst ds, [x] => match x.2 with
    | .lst es => if ds.length + es.length ≤ lineN then some ((9, .non), min k (x.1 - 1) + 1, .lst (ds ++ es)) else none
    | .tup es => if ds.length + es.length ≤ lineN then some ((9, .non), min k x.1 + 1, .lst (ds ++ es)) else none
    | _ => none
  | _, _, _ => none
theorem m_extendX {K : PySem.W.Frag} : MutOp K (rExtendX K) moExtendX := by
  intro Rs H L k d xs v vs z k' d' g hl e
  by_cases ht : ∃ k0 ds x es, k = k0 + 1 ∧ d = .lst ds ∧ xs = [x] ∧ x.2 = .tup es
  · obtain ⟨k, ds, x, es, rfl, rfl, rfl, hx⟩ := ht
    simp only [moExtendX, hx] at e
    by_cases hz : ds.length + es.length ≤ lineN
    · rw [if_pos hz] at e
      cases e
      match vs, hl with
      | [w], _ =>
        have g1 : Good K Rs H ((k + 1, .lst ds, v) :: (x.1, .tup es, w) :: L) := by
          have : Good K Rs H ((k + 1, .lst ds, v) :: (x.1, x.2, w) :: L) := g
          rwa [hx] at this
        obtain ⟨p, ws, rfl, h1, h2, g2⟩ := g1.own_inv
        have g3 : Good K (p :: Rs) H ((x.1, .tup es, w) :: (its k ds ws ++ L)) := g2.perm List.perm_middle
        obtain ⟨p2, us, rfl, h3, h4, g4⟩ := g3.tup_inv
        have g5 : Good K (p :: Rs) H (its k ds ws ++ (its x.1 es us ++ L)) := g4.perm (by
          rw [← List.append_assoc, ← List.append_assoc]
          exact List.perm_append_comm.append_right L)
        have g6 := its_both h2 (Nat.min_le_left k x.1) (Nat.min_le_right k x.1) g5
        refine ⟨.non, p, .lst (ws ++ us), rfl, nodup_res g2, ?_, fun Q q => .inr ⟨p, p2, ws, us, rfl, rfl, h1, h3, by rw [lineE, ← h2, ← h4]; exact hz, q⟩⟩
        exact ((Good.own upd_same (by simp [h2, h4]) (g6.wr (by rw [h1]; exact True.intro))).non (k := 9)).perm (.swap _ _ _)
    · rw [if_neg hz] at e; cases e
  · have e' : moExtend k d xs = some (z, k', d') := by
      unfold moExtendX at e
      unfold moExtend
      split at e
      · rename_i k ds x
        split at e
        · rename_i es hx
          simp only [hx]; exact e
        · rename_i es hx
          exact absurd ⟨k, ds, x, es, rfl, rfl, rfl, hx⟩ ht
        · cases e
      · cases e
    obtain ⟨u, b, ob, h1, h2, h3, h4⟩ := m_extend Rs H L k d xs v vs z k' d' g hl e'
    exact ⟨u, b, ob, h1, h2, h3, fun Q q => .inl (h4 Q q)⟩
end Vs
set_option Elab.async false
set_option linter.all false
set_option maxRecDepth 100000
set_option maxHeartbeats 1000000
/-! Vs29: tuple * 1. -/
namespace Vs
open PySem PySem.Spec PyProof.Rows L2
theorem tuple_mul1 (l : Addr) (items : Array Value) (n : Nat) (dd : Option Addr) (sl : Array (Option Value)) (u : Tok) :
    Meets (Builtin.«tuple.__mul__» ⟨[.ref l, .int 1 u], []⟩) (fun _ R s => s.heap.get? l = some { cls := .type "tuple", dict := dd, data := .seq items n, slots := sl } ∧ R (.ok (.ret (Value.ref l))) s) :=
  .of_wp fun prog w A R s h => by
    obtain ⟨hp, g, d, tk, os⟩ := s
    obtain ⟨hl, h⟩ := h
    have f1 := AutoSeq1.idx_int
    have c1 : (items.isEmpty || ((1 : Int) == 1)) = true := by simp
    wp_walk using wpAny_loadPart' hl
    repeat (first
      | (refine wpAny_ite_true (decide_eq_true c1) ?_; wp_walk using wpAny_loadPart' hl))
    exact ⟨_, rfl, h⟩
def rRep1 (K : PySem.W.Frag) : R2 := fun x y H Q => ∃ l xs, x = .ref l ∧ y = .int 1 ∧ SqT K H l xs ∧ Q (.ref l) H
section
variable {X : Cx}
theorem op_rep1 : OpR X (binaryOp .Mult) (rRep1 X.K) := by
  intro pins s σ H x y v u Q I rx ry h
  obtain ⟨l, xs, rfl, rfl, hT, q⟩ := h
  cases rx
  obtain ⟨t, rfl⟩ := ry
  obtain ⟨its, r, ⟨⟨cls, dd, data, sl⟩, ho, hc, n, hd⟩, hs⟩ := I.tuple hT
  simp only at hc hd
  subst hc hd
  refine wpAny_binaryOp_repeat_ref (T := "tuple") (U := "int") (by decide) ⟨_, ho, rfl⟩ (fun s' => typeIs_int s' 1 t) noFill_tuple_mul F.fills_int_mul F.slot_int_rmul repeat_tuple F.slot_int_index.lookup
    (call_meets F.slot_int_rmul (typeIs_int s 1 t) F.entry_int_rmul (F.args_int_rmul_2 _ _) (int_rmul_tuple 1 t l its.toArray n dd sl)
      ⟨ho, rfl, ⟨_, ho, rfl⟩, call_meets F.slot_tuple_mul ⟨_, ho, rfl⟩ F.entry_tuple_mul (F.args_tuple_mul_2 _ _) (tuple_mul1 l its.toArray n dd sl t) ⟨ho, ?_⟩⟩)
  exact ⟨.ref l, H, I, rfl, q⟩
end
def mulE (x y : LD) : Option LD := match x.2, y.2 with
  | .tup xs, .int 1 => some (x.1, .tup xs)
  | _, _ => mulD x y
theorem c_mulE {K : PySem.W.Frag} : COp K (fun x y H Q => rMulX K x y H Q ∨ rRep1 K x y H Q) mulE := by
  intro H ρ σ T x y z v w r e Q q
  obtain ⟨k1, d1⟩ := x
  obtain ⟨k2, d2⟩ := y
  unfold mulE at e
  split at e
  · rename_i xs h1 h2
    simp only at h1 h2
    subst h1 h2
    cases e
    obtain rfl := r.top.int
    obtain ⟨L, c, g⟩ := r.drop
    obtain ⟨p, vs, rfl, s1, l1, g1⟩ := g.tup_inv
    exact .inr ⟨p, vs, rfl, rfl, s1, q _ _ ⟨L, c, g⟩⟩
  · exact .inl (c_mul H ρ σ T _ _ z v w r e Q q)
section
variable {X : Cx} {W : Wish} {ea eb : Expr} {pos : Pos} {ma mb : M LD}
theorem v_mulE (ha : PE X ea (tV X.K W ma)) (hb : PE X eb (tV X.K W mb)) : PE X (.BinOp ea .Mult eb pos) (tV X.K W (opV mulE ma mb)) :=
  v_opV (OpR.or (OpR.or op_mulX (OpR.or op_rep op_repT)) op_rep1) c_mulE ha hb
end
end Vs
set_option Elab.async false
set_option linter.all false
set_option maxRecDepth 100000
set_option maxHeartbeats 4000000
/-! Xe0: making an exception of the program's own classes (two levels over ValueError; __init__ says super().__init__(..) and keeps one field, or none). -/
namespace Vs
open PySem PySem.Spec PyProof.Rows L2
open PySem.HandSPX (excO refsVE exc_osa call_own refsVE_contains)
open PySem.W (ksFn ksEnv KxsFacts kxs_mw)

/-! ### the texts of __init__ -/
def agsO (f : Str) (p1 p2 : Pos) : Arguments := { posonlyargs := [], args := [{ arg := "self", annotation := none, pos := p1 }, { arg := f, annotation := none, pos := p2 }], vararg := none, kwonlyargs := [], kw_defaults := [], kwarg := none, defaults := [] }
def agsZ (p1 : Pos) : Arguments := { posonlyargs := [], args := [{ arg := "self", annotation := none, pos := p1 }], vararg := none, kwonlyargs := [], kw_defaults := [], kwarg := none, defaults := [] }
abbrev supS (as : List Expr) (p0 p1 p2 p3 p4 : Pos) : Stmt := .Expr (.Call (.Attribute (.Call (.Name "super" p0) [] [] p1) "__init__" p2) as [] p3) p4
def bdO (f : Str) (p0 p1 p2 p3 p4 q0 q1 q2 q3 q4 : Pos) : List Stmt := [supS [.Name f q0] p0 p1 p2 p3 p4, .Assign [.Attribute (.Name "self" q1) f q2] (.Name f q3) q4]
def bdZ (p0 p1 p2 p3 p4 : Pos) : List Stmt := [supS [] p0 p1 p2 p3 p4]
def scO (f : Str) : Scope := { kind := .function, names := [("self", .local), (f, .local), ("__class__", .free), ("super", .globalImplicit)], isGenerator := false, isCoroutine := false, more := [] }
def scZ : Scope := { kind := .function, names := [("self", .local), ("__class__", .free), ("super", .globalImplicit)], isGenerator := false, isCoroutine := false, more := [] }

/-- what is known of the class at C -/
structure ECls (K : PySem.W.Frag) (C fI : Addr) : Prop where
  cls : ∃ nm q N bs bm sn sub ab col dd k0 k1 k2 k3 k5, K.lookup C = some (excClassObj nm q C N bs bm true sn sub ab col dd k0 k1 k2 k3 k5 "ValueError.__new__") ∧ refsVE bm = true
  sa : PySem.W.findIn K (.ref C) "__setattr__" = some (some (.builtin "object.__setattr__"))
  ga : PySem.W.findIn K (.ref C) "__getattribute__" = some (some (.builtin "BaseException.__getattribute__"))
  gg : PySem.W.findIn K (.ref C) "__getattr__" = some none
  iC : PySem.W.findIn K (.ref C) "__init__" = some (some (.ref fI))
  tC : PySem.W.typeIn K (.ref fI) = some (.type "function")
  kC : PySem.W.keepIn K (.ref C) = true
  exC : PySem.W.subIn K (.ref C) (.type "BaseException") = some true
  veC : PySem.W.subIn K (.ref C) (.type "ValueError") = some true
  tyC : PySem.W.typeIn K (.ref C) = some (.type "type")
  hdC : PySem.W.hasDictIn K C = true
  me : PySem.W.mroIn K C (.ref C) = some true
  sup : PySem.W.ks_superIn K C C "__init__" = some (some (.builtin "ValueError.__init__"))
  op : PySem.W.nsIn K cStatics "thirdparty.any" = some none
/-- .. and of its __init__ -/
structure EFn (P : Program) (K : PySem.W.Frag) (C fI : Addr) (qual : Str) (pa : Arguments) (bo : List Stmt) (sc : Scope) : Prop where
  fn : ∃ (oc : Value) (od : Option Addr) (doc pm : Value) (an : Option Addr) (cda cc : Addr) (ct : Value) (osl : Array (Option Value)), K.lookup fI = some ⟨oc, od, .func (ksFn "__init__" qual pa bo sc .none .none doc pm an (.ref cda) ct cc), osl⟩ ∧ PySem.W.codeIn K (.ref cda) qual = true ∧
    (∃ (x1 : Value) (x2 : Option Addr) (x3 : Array (Option Value)), K.lookup cc = some ⟨x1, x2, .cell (some (.ref C)), x3⟩) ∧
    ∃ (y1 : Value) (y2 : Option Addr) (vs : Array Value) (y3 : Array (Option Value)) (file : Str) (tf : Tok), K.lookup cda = some ⟨y1, y2, .fields vs, y3⟩ ∧ vs[2]? = some (.str file tf) ∧ ((P.main.file : Str) == file) = true
  top : (P.main.scope.names.lookup ("super" : Str)).isSome = false

theorem ve_base : ExcBaseFacts "ValueError" "ValueError.__new__" "ValueError.__init__" [.type "ValueError", .type "Exception", .type "BaseException", .type "object"] := PySem.F.excBase_ValueError

section
variable {P : Program} {w : World} {A : Around} {E : Value → Shared → Prop} {h : Heap} {g : Array GenState} {dr : Drawn} {t : Nat} {os : OsState} {K : PySem.W.Frag} {mg mb : Str → Option Value} {C fI : Addr}
/-- the bound __init__ of ValueError, called -/
theorem mw_call {u x t0 : Addr} {us : List Value} {Q : Value → Shared → Prop} (T : ECls K C fI) (X : K.In h) (hx : h.get? x = some (excO C t0)) (hu : h.get? u = some (kxs_mw "ValueError.__init__" x)) (hl : us.length ≤ sizeLine)
    (hq : ∀ h' t1, (∀ b o, b ≠ x → h.get? b = some o → h'.get? b = some o) → h'.get? x = some (excO C t1) → Q .none ⟨h', g, dr, t, os⟩) : wpAny (model P w) A (call (.ref u) us) Q E ⟨h, g, dr, t, os⟩ := by
  obtain ⟨nm, q, N, bs, bm, sn, sub, ab, col, dd, k0, k1, k2, k3, k5, hC, hbm⟩ := T.cls
  have tr : (Value.type "method-wrapper" == Value.type "method" || Value.type "method-wrapper" == Value.type "builtin_function_or_method" || Value.type "method-wrapper" == Value.type "method-wrapper") = true := by decide
  apply wpAny_call
  apply codeAny_of_tree
  show wpAny (model P w) A.in1 (callAny (.ref u) ⟨us, []⟩) _ _ _
  unfold callAny
  refine wpAny_bind (wpAny_load hu (PySem.W.KFB.if_so tr (wpAny_bind (PySem.W.check_bound_init ve_base.toExcCallFacts (X _ _ hC) hx rfl (wpAny_bind (wpAny_pure (wpAny_pure ?_)))))))
  exact ⟨plainId_quiet ve_base.init.plain _, codeAny_builtin ve_base.initEntry (PySem.W.exc_init_tree (cls := .ref C) (t0 := t0) (dv := none) (c2 := .none) (c3 := .none) (b4 := .bool false) hx hl fun h' kp hx' _ => hq h' _ kp hx')⟩

/-- super().__init__(..) in an __init__ of ours -/
theorem sup_stmt {qual : Str} {pa : Arguments} {bo : List Stmt} {sc : Scope} {L x t0 : Addr} {m : Str → Option Value} {ar : Arg} {as : List Expr} {us : List Value} {p0 p1 p2 p3 p4 : Pos} {cda cc : Addr} {pl : Sem Bool} {Q : Flow → Shared → Prop}
    (T : ECls K C fI) (hfn : ∃ (oc : Value) (od : Option Addr) (doc pm : Value) (an : Option Addr) (ct : Value) (osl : Array (Option Value)), K.lookup fI = some ⟨oc, od, .func (ksFn "__init__" qual pa bo sc .none .none doc pm an (.ref cda) ct cc), osl⟩)
    (hcc : ∃ (x1 : Value) (x2 : Option Addr) (x3 : Array (Option Value)), K.lookup cc = some ⟨x1, x2, .cell (some (.ref C)), x3⟩)
    (hcd : ∃ (y1 : Value) (y2 : Option Addr) (vs : Array Value) (y3 : Array (Option Value)) (file : Str) (tf : Tok), K.lookup cda = some ⟨y1, y2, .fields vs, y3⟩ ∧ vs[2]? = some (.str file tf) ∧ ((P.main.file : Str) == file) = true)
    (top : (P.main.scope.names.lookup ("super" : Str)).isSome = false)
    (X : K.In h) (hx : h.get? x = some (excO C t0)) (hxC : x ≠ C) (hg : h.Ns mainGlobals mg) (hmg : mg "super" = none) (hb : h.Ns builtinsNs mb) (hmb : mb "super" = some (.type "super")) (hL : h.Ns L m) (hself : m ar.arg = some (.ref x))
    (hp : (pa.posonlyargs ++ pa.args).head? = some ar) (hk : sc.kind = .function) (hks : sc.names.lookup ("super" : Str) = some .globalImplicit) (hkc : sc.names.lookup ("__class__" : Str) = some .free) (hka : sc.names.lookup ar.arg = some .local)
    (hev : ∀ (s : Shared) (u : Value) (Q' : Args → Shared → Prop), s.heap.Ns L m → Q' ⟨us, []⟩ s → wpAny (model P w) A (evalArgs u true (backTo p3 (starEach as (ksEnv qual sc L fI (.ref cda) cc))) []) Q' E s) (hpl : (backTo p3 (starEach as (ksEnv qual sc L fI (.ref cda) cc))).any (·.1) = false)
    (hl : us.length ≤ sizeLine) (hi : interactive (ksEnv qual sc L fI (.ref cda) cc) = false) (hsw : swapsWith (.Call (.Attribute (.Call (.Name "super" p0) [] [] p1) "__init__" p2) as [] p3) none p4.line (ksEnv qual sc L fI (.ref cda) cc) = pure false)
    (hcl : eval (.Call (.Attribute (.Call (.Name "super" p0) [] [] p1) "__init__" p2) as [] p3) (ksEnv qual sc L fI (.ref cda) cc) = (do
      let ov ← attributeBase (.Call (.Name "super" p0) [] [] p1) "__init__" (ksEnv qual sc L fI (.ref cda) cc) (eval (.Call (.Name "super" p0) [] [] p1) (ksEnv qual sc L fI (.ref cda) cc))
      standAt p2.atName
      let (f, first) ← holding [ov] (getMethod ov "__init__" pl)
      callWith p3 f first (backTo p3 (starEach as (ksEnv qual sc L fI (.ref cda) cc))) []))
    (hq : ∀ h' t' t1, (∀ b o, b ≠ x → h.get? b = some o → h'.get? b = some o) → h'.get? x = some (excO C t1) → Q .next ⟨h', g, dr, t', os⟩) :
    _root_.PySem.wpAt (model P w) A (.func bo (ksEnv qual sc L fI (.ref cda) cc)) (exec (supS as p0 p1 p2 p3 p4) (ksEnv qual sc L fI (.ref cda) cc)) Q E ⟨h, g, dr, t, os⟩ := by
  obtain ⟨oc, od, doc, pm, an, ct, osl, hf⟩ := hfn
  obtain ⟨x1, x2, x3, hcell⟩ := hcc
  obtain ⟨y1, y2, vs, y3, file, tf, hcode, hvs, hfile⟩ := hcd
  obtain ⟨nm, q, N, bs, bm, sn, sub, ab, col, dd, k0, k1, k2, k3, k5, hC, hbm⟩ := T.cls
  have hcl2 : ∃ cd, PySem.W.clsIn K C = some cd := ⟨_, by unfold PySem.W.clsIn; rw [hC] <;> rfl⟩
  obtain ⟨cd, hcd2⟩ := hcl2
  have hCd : ∃ oD, h.get? C = some oD ∧ oD.data = .cls cd := by
    unfold PySem.W.clsIn at hcd2
    rw [hC] at hcd2
    refine ⟨_, X _ _ hC, ?_⟩
    cases hcd2
    rfl
  obtain ⟨oD, hD, hDd⟩ := hCd
  refine PySem.ks_wpAt_Expr_any (PySem.ks_wpAt_MethodCall (PySem.ks_wpAt_super_base hks hkc rfl rfl (X _ _ hf) rfl hp rfl (X _ _ hcode) rfl hvs hfile top ?_) hcl) hi hsw
  refine PySem.W.ks_loadName_global hk hks (PySem.Calls.loadGlobal_builtin hg hmg hb hmb ⟨rfl, ?_⟩)
  refine wpAny_loadName_free hk hkc rfl ⟨_, X _ _ hcell, rfl⟩ ?_
  refine wpAny_loadName_local hk hka hL hself ?_
  refine PySem.ks_wpAny_isType_cls hD hDd ⟨rfl, ?_⟩
  refine PySem.ks_wpAny_call_super hD hDd hx rfl (fun c z => nomatch z) (PySem.W.looks_mroIn X T.me) fun h1 hso kp1 => ?_
  have X1 : K.In h1 := X.keeps kp1
  have I1 : PySem.W.InstAt h1 x (excO C t0) C none := ⟨kp1 _ _ hx, rfl, rfl, trivial⟩
  have hm := T.sup
  unfold PySem.W.ks_superIn at hm
  rw [hcd2] at hm
  refine PySem.W.kxs_getMethod PySem.W.kxs_ValueError hso (PySem.W.looks_opaque X1 T.op) (l₀ := cd.mro) (fun A Q E s k q => wpAny_bind ((PySem.W.looks_clsIn X1 hcd2) A _ E s k (wpAny_pure q))) rfl X1 hm (I1.type.andThen (PySem.W.looks_subIn X1 T.veC)) hxC rfl ?_
  have kp2 : ∀ b o, h1.get? b = some o → (h1.push (kxs_mw "ValueError.__init__" x)).get? b = some o := fun b o e => Heap.get?_push_of_some _ e
  have kp : ∀ b o, h.get? b = some o → (h1.push (kxs_mw "ValueError.__init__" x)).get? b = some o := fun b o e => kp2 b o (kp1 b o e)
  have hu : (h1.push (kxs_mw "ValueError.__init__" x)).get? h1.objs.size = some (kxs_mw "ValueError.__init__" x) := Heap.get?_push_at rfl rfl
  have hLn : (h1.push (kxs_mw "ValueError.__init__" x)).Ns L m := by
    obtain ⟨oL, es, ep, e1, r⟩ := hL
    exact ⟨oL, es, ep, kp _ _ e1, r⟩
  refine PySem.W.kxs_callWith (i := "ValueError.__init__") (x := x) hpl (hev _ _ _ hLn ⟨hu, ?_⟩)
  exact mw_call T (X1.keeps kp2) (kp _ _ hx) hu hl fun h3 t1 kp3 hx3 => hq h3 _ t1 (fun b o hb e => kp3 b o hb (kp b o e)) hx3
end
end Vs
set_option Elab.async false
set_option linter.all false
set_option maxRecDepth 100000
set_option maxHeartbeats 4000000
/-! Xe1: the __init__ of such a class run, the class called, as an expression that makes an exception. -/
namespace Vs
open PySem PySem.Spec PyProof.Rows L2
open PySem.HandSPX (excO refsVE exc_osa call_own refsVE_contains)
open PySem.W (ksFn ksEnv KxsFacts kxs_mw)

section
variable {P : Program} {w : World} {A : Around} {R : Result → Shared → Prop} {s : Shared} {K : PySem.W.Frag} {mg mb : Str → Option Value} {C fI : Addr} {qual : Str}
theorem len1 (v : Value) : [v].length ≤ sizeLine := by rw [sizeLine_eq]; exact (by decide : 1 ≤ 16777216)
theorem len0 : ([] : List Value).length ≤ sizeLine := Nat.zero_le _
theorem cls_in {x : Addr} {o : Obj} (X : K.In s.heap) (T : ECls K C fI) (hx : s.heap.get? x = some o) (hd : ∀ c, o.data ≠ .cls c) : x ≠ C := by
  rintro rfl
  obtain ⟨nm, q, N, bs, bm, sn, sub, ab, col, dd, k0, k1, k2, k3, k5, hC, _⟩ := T.cls
  have e := X _ _ hC
  rw [hx] at e
  cases e
  exact hd _ rfl
/-- a frame of the def at hand -/
theorem frame_ns {h₀ : Heap} {L : Addr} {m : Str → Option Value} {h' : Heap} {x : Addr} (hL : h₀.Ns L m) (hne : L ≠ x) (k : ∀ b o, b ≠ x → h₀.get? b = some o → h'.get? b = some o) : h'.Ns L m := by
  obtain ⟨oL, es, ep, e1, r⟩ := hL
  exact ⟨oL, es, ep, k _ _ hne e1, r⟩

theorem ld_own {M : Model} {E : Value → Shared → Prop} {env : Env} {m : Str → Option Value} {y : Str} {pos : Pos} {v : Value} {Q : Value → Shared → Prop} (hn : s.heap.Ns env.locals m) (hv : m y = some v) (hQ : Q v s)
    (hk : env.scope.kind = .function) (hl : env.kindOf y = some .local) (hd : (y == ("__debug__" : Str)) = false) : wpAny M A (eval (.Name y pos) env) Q E s := wpAny_Name (wpAny_loadName_local hk hl hn hv hQ) hd
def SupCall (as : List Expr) (r0 r1 r2 r3 : Pos) : Prop := ∀ env : Env, ∃ pl : Sem Bool, eval (.Call (.Attribute (.Call (.Name "super" r0) [] [] r1) "__init__" r2) as [] r3) env = (do
      let ov ← attributeBase (.Call (.Name "super" r0) [] [] r1) "__init__" env (eval (.Call (.Name "super" r0) [] [] r1) env)
      standAt r2.atName
      let (f, first) ← holding [ov] (getMethod ov "__init__" pl)
      callWith r3 f first (backTo r3 (starEach as env)) [])
/-- an __init__ that keeps one field -/
theorem init1 {f : Str} {x t0 : Addr} {v : Value} {p1 p2 r0 r1 r2 r3 r4 q0 q1 q2 q3 q4 : Pos} (T : ECls K C fI) (F : EFn P K C fI qual (agsO f p1 p2) (bdO f r0 r1 r2 r3 r4 q0 q1 q2 q3 q4) (scO f))
    (X : K.In s.heap) (hlim : s.heap.NoLimit) (hg : s.heap.Ns mainGlobals mg) (hmg : mg "super" = none) (hb : s.heap.Ns builtinsNs mb) (hmb : mb "super" = some (.type "super")) (hx : s.heap.get? x = some (excO C t0)) (hnx : K.lookup x = none) (hroom : A.depth < recursionLimit)
    (hno : PySem.W.findIn K (.ref C) f = some none)
    (hq : ∀ h' tk dx t1, (∀ b o, b ≠ x → s.heap.get? b = some o → h'.get? b = some o) → h'.get? x = some { cls := .ref C, dict := some dx, data := .fields #[.ref t1, .none, .none, .none, .bool false, .none] } → s.heap.objs.size ≤ dx → dx ≠ x →
      h'.Ns1 dx (fun y => if y = f then some v else none) → R (.ok (.ret .none)) { s with heap := h', toks := tk })
    (e1 : (([(f, v), (("self" : Str), Value.ref x)] : List (Str × Value)).lookup f) = some v := by rfl)
    (e2 : (([(f, v), (("self" : Str), Value.ref x)] : List (Str × Value)).lookup ("self" : Str)) = some (Value.ref x) := by rfl)
    (hbd : ∀ (doc pm : Value) (an : Option Addr) (cda cc : Addr) (ct : Value), bindArgs (ksFn "__init__" qual (agsO f p1 p2) (bdO f r0 r1 r2 r3 r4 q0 q1 q2 q3 q4) (scO f) .none .none doc pm an (.ref cda) ct cc) ⟨[.ref x, v], []⟩ = pure [(("self" : Str), Value.ref x), (f, v)] := by intros; first | rfl | with_unfolding_all rfl)
    (k1 : (scO f).names.lookup f = some .local := by rfl) (k2 : (scO f).names.lookup ("super" : Str) = some .globalImplicit := by rfl) (k3 : (scO f).names.lookup ("__class__" : Str) = some .free := by rfl) (kd : (f == ("__debug__" : Str)) = false := by rfl)
    (hcl : SupCall [.Name f q0] r0 r1 r2 r3 := by exact fun _ => ⟨_, rfl⟩) :
    codeAny (model P w) A (.call (.ref fI) ⟨[.ref x, v], []⟩) R s := by
  obtain ⟨oc, od, doc, pm, an, cda, cc, ct, osl, ho, hcd, hcc, hcode⟩ := F.fn
  obtain ⟨hp, g, dr, tk, os⟩ := s
  refine PySem.ks_codeAny_call_defAt (body := bdO f r0 r1 r2 r3 r4 q0 q1 q2 q3 q4) (binds := [("self", .ref x), (f, v)]) hroom (X _ _ ho) rfl hlim (PySem.W.codeRec_of X hcd) rfl (BindsTo.of_eq (hbd _ _ _ _ _ _)) (by intro y hy; simp [ksFn, PySem.W.fnX, scO] at hy; rcases hy with rfl | rfl | rfl | rfl <;> simp) (by
      intro y hy
      simp at hy
      rcases hy with rfl | rfl
      · rfl
      · exact k1) (fun h₁ hns kp => ?_)
  have X₁ : K.In h₁ := X.keeps kp
  have hxL : hp.objs.size ≠ x := Nat.ne_of_gt (Heap.lt_size hx)
  have hx₁ := kp _ _ hx
  have hxC : x ≠ C := cls_in (s := ⟨h₁, g, dr, tk, os⟩) X₁ T hx₁ (fun c z => nomatch z)
  have nsk : ∀ {a : Addr} {m : Str → Option Value}, hp.Ns a m → h₁.Ns a m := fun {a m} z => by
    obtain ⟨oL, es, ep, e1, r⟩ := z
    exact ⟨oL, es, ep, kp _ _ e1, r⟩
  obtain ⟨pl, hc⟩ := hcl (ksEnv qual (scO f) hp.objs.size fI (.ref cda) cc)
  refine PySem.ks_wpAt_execs_cons ?_
  refine sup_stmt (us := [v]) T ⟨_, _, _, _, _, _, _, ho⟩ hcc hcode F.top X₁ hx₁ hxC (nsk hg) hmg (nsk hb) hmb hns e2 rfl rfl k2 k3 rfl (fun sN u Q' hN hQ => ?_) rfl (len1 v) rfl rfl hc (fun h2 t2 t1 kp2 hx2 => ?_)
  · exact PySem.Calls.evalArgs_plain (PySem.Calls.spliced_cons (ld_own hN e1 (PySem.Calls.spliced_nil hQ) rfl k1 kd))
  refine wpAt_of_wpAny (wpAny_execs_cons (plainObj_wpAny_Assign_Attribute ?_))
  have hns2 := frame_ns hns hxL kp2
  have X₂ : K.In h2 := fun a o e => kp2 a o (fun z => by rw [z, hnx] at e; cases e) (X₁ a o e)
  refine ld_own hns2 e1 (ld_own hns2 e2 ?_ rfl rfl rfl) rfl k1 kd
  obtain ⟨nm, q, N, bs, bm, sn, sub, ab, col, dd, k0, k1', k2', k3', k5, hC, hbm⟩ := T.cls
  have hcl : PySem.W.clsIn K C = some { name := nm, bases := bs, mro := .ref C :: bm, ns := N, qualname := q, hasDict := true, slotNames := sn, subclasses := sub, abstract := ab, collection := col, hasDel := false } := by unfold PySem.W.clsIn; rw [hC] <;> rfl
  refine PySem.W.set_plain X₂ (ox := excO C t1) (od := none) ⟨hx2, rfl, rfl, trivial⟩ T.sa ?_
  refine exc_osa X₂ hx2 hcl (show refsVE (.ref C :: bm) = true from hbm) rfl hno (fun h₃ tk₃ dx k₃ dn dne hx₃ hn₃ => ?_)
  have z : hp.objs.size < h2.objs.size := hns2.lt
  exact wpAny_execs_nil (hq h₃ tk₃ dx t1 (fun b o hb e => k₃ b o hb (kp2 b o hb (kp b o e))) hx₃ (Nat.le_of_lt (Nat.lt_of_lt_of_le z dn)) dne hn₃)
/-- one that keeps nothing -/
theorem init0 {x t0 : Addr} {p1 r0 r1 r2 r3 r4 : Pos} (T : ECls K C fI) (F : EFn P K C fI qual (agsZ p1) (bdZ r0 r1 r2 r3 r4) scZ)
    (X : K.In s.heap) (hlim : s.heap.NoLimit) (hg : s.heap.Ns mainGlobals mg) (hmg : mg "super" = none) (hb : s.heap.Ns builtinsNs mb) (hmb : mb "super" = some (.type "super")) (hx : s.heap.get? x = some (excO C t0)) (hroom : A.depth < recursionLimit)
    (hq : ∀ h' tk t1, (∀ b o, b ≠ x → s.heap.get? b = some o → h'.get? b = some o) → h'.get? x = some (excO C t1) → R (.ok (.ret .none)) { s with heap := h', toks := tk })
    (hbd : ∀ (doc pm : Value) (an : Option Addr) (cda cc : Addr) (ct : Value), bindArgs (ksFn "__init__" qual (agsZ p1) (bdZ r0 r1 r2 r3 r4) scZ .none .none doc pm an (.ref cda) ct cc) ⟨[.ref x], []⟩ = pure [(("self" : Str), Value.ref x)] := by intros; first | rfl | with_unfolding_all rfl)
    (hcl : SupCall [] r0 r1 r2 r3 := by exact fun _ => ⟨_, rfl⟩) :
    codeAny (model P w) A (.call (.ref fI) ⟨[.ref x], []⟩) R s := by
  obtain ⟨oc, od, doc, pm, an, cda, cc, ct, osl, ho, hcd, hcc, hcode⟩ := F.fn
  obtain ⟨hp, g, dr, tk, os⟩ := s
  refine PySem.ks_codeAny_call_defAt (body := bdZ r0 r1 r2 r3 r4) (binds := [("self", .ref x)]) hroom (X _ _ ho) rfl hlim (PySem.W.codeRec_of X hcd) rfl (BindsTo.of_eq (hbd _ _ _ _ _ _)) (by intro y hy; simp [ksFn, PySem.W.fnX, scZ] at hy; rcases hy with rfl | rfl | rfl <;> simp) (by
      intro y hy
      simp at hy
      rcases hy with rfl
      rfl) (fun h₁ hns kp => ?_)
  have X₁ : K.In h₁ := X.keeps kp
  have hxL : hp.objs.size ≠ x := Nat.ne_of_gt (Heap.lt_size hx)
  have hx₁ := kp _ _ hx
  have hxC : x ≠ C := cls_in (s := ⟨h₁, g, dr, tk, os⟩) X₁ T hx₁ (fun c z => nomatch z)
  have nsk : ∀ {a : Addr} {m : Str → Option Value}, hp.Ns a m → h₁.Ns a m := fun {a m} z => by
    obtain ⟨oL, es, ep, e1, r⟩ := z
    exact ⟨oL, es, ep, kp _ _ e1, r⟩
  obtain ⟨pl, hc⟩ := hcl (ksEnv qual scZ hp.objs.size fI (.ref cda) cc)
  refine PySem.ks_wpAt_execs_cons ?_
  refine sup_stmt (us := []) T ⟨_, _, _, _, _, _, _, ho⟩ hcc hcode F.top X₁ hx₁ hxC (nsk hg) hmg (nsk hb) hmb hns rfl rfl rfl rfl rfl rfl (fun sN u Q' hN hQ => ?_) rfl len0 rfl rfl hc (fun h2 t2 t1 kp2 hx2 => ?_)
  · exact PyProof.Rows.evalArgs_empty hQ
  exact wpAt_of_wpAny (wpAny_execs_nil (hq h2 t2 t1 (fun b o hb e => kp2 b o hb (kp b o e)) hx2))

/-- what an __init__ does, in short: with f one field, without none -/
structure IniOk (P : Program) (w : World) (K : PySem.W.Frag) (mg : Str → Option Value) (C fI : Addr) (fo : Option Str) : Prop where
  one : ∀ f, fo = some f → ∀ (A : Around) (R : Result → Shared → Prop) (s : Shared) (mb : Str → Option Value) (x t0 : Addr) (v : Value), K.In s.heap → s.heap.NoLimit → s.heap.Ns mainGlobals mg → mg "super" = none → s.heap.Ns builtinsNs mb → mb "super" = some (.type "super") → s.heap.get? x = some (excO C t0) → K.lookup x = none → A.depth < recursionLimit →
    (∀ h' tk dx t1, (∀ b o, b ≠ x → s.heap.get? b = some o → h'.get? b = some o) → h'.get? x = some { cls := .ref C, dict := some dx, data := .fields #[.ref t1, .none, .none, .none, .bool false, .none] } → s.heap.objs.size ≤ dx → dx ≠ x →
      h'.Ns1 dx (fun y => if y = f then some v else none) → R (.ok (.ret .none)) { s with heap := h', toks := tk }) → codeAny (model P w) A (.call (.ref fI) ⟨[.ref x, v], []⟩) R s
  no : fo = none → ∀ (A : Around) (R : Result → Shared → Prop) (s : Shared) (mb : Str → Option Value) (x t0 : Addr), K.In s.heap → s.heap.NoLimit → s.heap.Ns mainGlobals mg → mg "super" = none → s.heap.Ns builtinsNs mb → mb "super" = some (.type "super") → s.heap.get? x = some (excO C t0) → A.depth < recursionLimit →
    (∀ h' tk t1, (∀ b o, b ≠ x → s.heap.get? b = some o → h'.get? b = some o) → h'.get? x = some (excO C t1) → R (.ok (.ret .none)) { s with heap := h', toks := tk }) → codeAny (model P w) A (.call (.ref fI) ⟨[.ref x], []⟩) R s
end
/-- what a text of ours says of an exception's class: its name, its field -/
structure ETx (P : Program) (w : World) (K : PySem.W.Frag) (mg : Str → Option Value) (c : Str) (fo : Option Str) (C : Addr) : Prop where
  gC : mg c = some (.ref C)
  ns : mg "super" = none
  ini : ∃ fI, ECls K C fI ∧ IniOk P w K mg C fI fo
  noF : ∀ f, fo = some f → PySem.W.findIn K (.ref C) f = some none

/-! ### C(e), C() -/
section
variable {X : Cx} {C : Addr} {c f : Str} {e : Expr} {ta : TA} {p pos : Pos} {k : Nat}
theorem relO_one {v : V} {u : Value} (f : Str) (r : RelV v u) (g : Str) : RelO (List.lookup g [(f, v)]) (if g = f then some u else none) := by
  by_cases h : g = f
  · subst h
    rw [if_pos rfl]
    have q : List.lookup g [(g, v)] = some v := by simp [List.lookup]
    rw [q]; exact r
  · have q0 : (g == f) = false := by simpa using h
    have q : List.lookup g [(f, v)] = none := by simp [List.lookup, q0]
    rw [if_neg h, q]; trivial
def tMk1 (C : Addr) (f : Str) (ta : TA)  : L2.St → Hp → XK → Prop := fun σ H Q => ta σ H fun vs H1 => ∃ v, vs = [v] ∧ ∀ d, H1 d = none → Q (.ref C) (some d) (upd H1 d (.xd [(f, v)]))
def tMk0 (C : Addr) : L2.St → Hp → XK → Prop := fun _ H Q => Q (.ref C) none H
theorem blt_sup (I : X.Ok) : ∃ mb, X.base.Ns builtinsNs mb ∧ mb "super" = some (.type "super") := by
  obtain ⟨mb, h1, h2⟩ := I.mod.blt
  exact ⟨mb, h1, (h2 _ (by decide)).trans (by kernel_rfl)⟩
theorem pmk1 (T : ETx X.prog X.w X.K X.mg c (some f) C) (hr : Room k X.A) (hk : 1 ≤ k) (ha : PA X [e] ta) (hgl : Gl X c) (hdb : (c == ("__debug__" : Str)) = false := by decide)
    (he : starEach (e :: []) X.env = (false, eval e X.env) :: starEach [] X.env := by rfl) (hpl : (backTo pos (starEach [] X.env)).any (·.1) = false := by rfl) : PMk X (.Call (.Name c p) [e] [] pos) (tMk1 C f ta) := by
  intro pins s σ H Q I hh
  obtain ⟨fI, EC, IO⟩ := T.ini
  refine wpAny_Call_Name_kw (ld_glob I hgl T.gC ?_ hdb)
  refine PySem.W.callWith_K (h₀ := X.base) I.ok.mod.kin EC.kC (thn (ha.run pos pins s σ H _ I hh) fun us sa hv => ?_) he hpl
  obtain ⟨vs, H1, I1, rv, v, ev, hQ⟩ := hv
  subst ev
  refine ⟨I1.kIn, ?_⟩
  cases rv with
  | @cons _ u _ ur ru rn =>
    cases rn
    obtain ⟨nm, q, N, bs, bm, sn, sub, ab, col, dd, k0, k1, k2, k3, k5, hC, hbm⟩ := EC.cls
    obtain ⟨mb, hmb1, hmb2⟩ := blt_sup I1.ok
    have hlim := I1.nolimit
    have stb : ∀ b o, X.base.get? b = some o → sa.heap.get? b = some o := I1.bk
    have KI := I1.kIn
    have nsk : ∀ {a : Addr} {m : Str → Option Value} {h' : Heap}, X.base.Ns a m → (∀ b o, sa.heap.get? b = some o → h'.get? b = some o) → h'.Ns a m := fun {a m h'} z kp => by
      obtain ⟨oL, es, ep, e1, r⟩ := z
      exact ⟨oL, es, ep, kp _ _ (stb _ _ e1), r⟩
    obtain ⟨hp, g, dr, tk, os⟩ := sa
    have kp : ∀ b o, hp.get? b = some o → ((hp.push (PySem.W.kdv_tup [u])).push (excO C hp.objs.size)).get? b = some o := fun b o z => Heap.get?_push_of_some _ (Heap.get?_push_of_some _ z)
    have hget : ((hp.push (PySem.W.kdv_tup [u])).push (excO C hp.objs.size)).get? (hp.objs.size + 1) = some (excO C hp.objs.size) := by heap_get
    have hnx : X.K.lookup (hp.objs.size + 1) = none := by
      cases q : X.K.lookup (hp.objs.size + 1) with
      | none => rfl
      | some o =>
        have z : hp.get? (hp.objs.size + 1) = some o := KI _ _ q
        exact absurd (Nat.lt_of_succ_lt (Heap.lt_size z)) (Nat.lt_irrefl _)
    show wpAny _ _ (call (.ref C) [u]) _ _ _
    refine wpAny_call (call_own ve_base (fun Y => refsVE_contains Y bm hbm) (KI _ _ hC) (PySem.W.looks_findIn KI EC.iC) (fun self => PySem.W.bind_fn KI self EC.tC) (len1 u) ?_)
    refine IO.one f rfl _ _ ⟨(hp.push (PySem.W.kdv_tup [u])).push (excO C hp.objs.size), g, dr, tk, os⟩ mb (hp.objs.size + 1) hp.objs.size u (KI.keeps kp) (hlim.keeps kp) (nsk I1.ok.mod.glob kp) T.ns (nsk hmb1 kp) hmb2 hget hnx (by have q := hr.dp; show X.A.depth + 1 < recursionLimit; omega) fun h' tk' dx t1 k' hx dn dne hns => ⟨rfl, ?_⟩
    have old : ∀ b o, hp.get? b = some o → h'.get? b = some o := fun b o z => k' b o (Nat.ne_of_lt (Nat.lt_succ_of_lt (Heap.lt_size z))) (kp b o z)
    have dbig : hp.objs.size ≤ dx := by
      have q : hp.objs.size + 1 + 1 ≤ dx := by
        first
          | (simpa only [Heap.size_push] using dn)
          | exact dn
      omega
    show MkP X pins σ Q (.ref (hp.objs.size + 1)) ⟨h', g, dr, tk', os⟩
    obtain ⟨G', g1, g2⟩ := restrict h' fun b => decide (b ≠ hp.objs.size + 1)
    have gk : ∀ b, b ≠ hp.objs.size + 1 → G'.get? b = h'.get? b := fun b hb => g1 b (decide_eq_true hb)
    have ge : G'.get? (hp.objs.size + 1) = none := g2 _ (by simp)
    have oldG : ∀ b o, hp.get? b = some o → G'.get? b = some o := fun b o z => (gk b (Nat.ne_of_lt (Nat.lt_succ_of_lt (Heap.lt_size z)))).trans (old b o z)
    have ob : ObjOk X.prog X.w (upd H1 dx (.xd [(f, v)])) G' dx (.xd [(f, v)]) := ⟨_, hns.at (fun o z => (gk dx dne).trans z), relO_one f ru⟩
    have J : L2.Inv X pins σ (upd H1 dx (.xd [(f, v)])) ⟨G', g, dr, tk', os⟩ := I1.laid (t' := tk') oldG dbig ob
    refine ⟨_, _, _, ⟨G', g, dr, tk', os⟩, _, .ref C, some dx, rfl, J, fun b o z => ?_, ge, hx, ⟨rfl, rfl⟩, rfl, rfl, ?_, rfl, I1.bare, raises_own EC.exC EC.tyC, hQ dx (I1.hok.fresh dbig)⟩
    · by_cases hb : b = hp.objs.size + 1
      · have z' : G'.get? b = some o := z
        rw [hb, ge] at z'; cases z'
      · exact (gk b hb).symm.trans z
    · rw [upd_ne (Ne.symm dne)]
      exact I1.hok.fresh (Nat.le_succ _)
theorem pmk0 (T : ETx X.prog X.w X.K X.mg c none C) (hr : Room k X.A) (hk : 1 ≤ k) (hgl : Gl X c) (hdb : (c == ("__debug__" : Str)) = false := by decide) : PMk X (.Call (.Name c p) [] [] pos) (tMk0 C) := by
  intro pins s σ H Q I hh
  obtain ⟨fI, EC, IO⟩ := T.ini
  refine wpAny_Call_Name_kw (ld_glob I hgl T.gC ?_ hdb)
  refine PySem.W.callWith_K0 I.kIn EC.kC ?_
  obtain ⟨nm, q, N, bs, bm, sn, sub, ab, col, dd, k0, k1, k2, k3, k5, hC, hbm⟩ := EC.cls
  obtain ⟨mb, hmb1, hmb2⟩ := blt_sup I.ok
  have hlim := I.nolimit
  have stb : ∀ b o, X.base.get? b = some o → s.heap.get? b = some o := I.bk
  have KI := I.kIn
  have nsk : ∀ {a : Addr} {m : Str → Option Value} {h' : Heap}, X.base.Ns a m → (∀ b o, s.heap.get? b = some o → h'.get? b = some o) → h'.Ns a m := fun {a m h'} z kp => by
    obtain ⟨oL, es, ep, e1, r⟩ := z
    exact ⟨oL, es, ep, kp _ _ (stb _ _ e1), r⟩
  obtain ⟨hp, g, dr, tk, os⟩ := s
  have kp : ∀ b o, hp.get? b = some o → ((hp.push (PySem.W.kdv_tup [])).push (excO C hp.objs.size)).get? b = some o := fun b o z => Heap.get?_push_of_some _ (Heap.get?_push_of_some _ z)
  have hget : ((hp.push (PySem.W.kdv_tup [])).push (excO C hp.objs.size)).get? (hp.objs.size + 1) = some (excO C hp.objs.size) := by heap_get
  show wpAny _ _ (call (.ref C) []) _ _ _
  refine wpAny_call (call_own ve_base (fun Y => refsVE_contains Y bm hbm) (KI _ _ hC) (PySem.W.looks_findIn KI EC.iC) (fun self => PySem.W.bind_fn KI self EC.tC) len0 ?_)
  refine IO.no rfl _ _ ⟨(hp.push (PySem.W.kdv_tup [])).push (excO C hp.objs.size), g, dr, tk, os⟩ mb (hp.objs.size + 1) hp.objs.size (KI.keeps kp) (hlim.keeps kp) (nsk I.ok.mod.glob kp) T.ns (nsk hmb1 kp) hmb2 hget (by have q := hr.dp; show X.A.depth + 1 < recursionLimit; omega) fun h' tk' t1 k' hx => ⟨rfl, ?_⟩
  have old : ∀ b o, hp.get? b = some o → h'.get? b = some o := fun b o z => k' b o (Nat.ne_of_lt (Nat.lt_succ_of_lt (Heap.lt_size z))) (kp b o z)
  show MkP X pins σ Q (.ref (hp.objs.size + 1)) ⟨h', g, dr, tk', os⟩
  have J : L2.Inv X pins σ H ⟨hp, g, dr, tk', os⟩ := I.tok tk'
  exact ⟨_, _, _, ⟨hp, g, dr, tk', os⟩, _, .ref C, none, rfl, J, old, by
    cases z : hp.get? (hp.objs.size + 1) with
    | none => rfl
    | some o => exact absurd (Nat.lt_of_succ_lt (Heap.lt_size z)) (Nat.lt_irrefl _), hx, ⟨rfl, rfl⟩, rfl, rfl, I.hok.fresh (Nat.le_succ _), rfl, I.bare, raises_own EC.exC EC.tyC, hh⟩
end
end Vs
set_option Elab.async false
set_option linter.all false
set_option maxRecDepth 100000
set_option maxHeartbeats 2000000
/-! Xe2: raise, defs that may raise (FnX), their calls. -/
namespace Vs
open PySem PySem.Spec PyProof.Rows L2

abbrev xits (x : Xn) (vs : List V) : List Item := its 0 (x.fs.map (·.2)) vs
/-- an exception of class cls with the dict d is x; its fields have the values vs -/
def XB (H : Hp) (mg : Str → Option Value) (x : Xn) (cls : Value) (d : Option Addr) (vs : List V) : Prop := (∃ C, mg x.cls = some (.ref C) ∧ cls = .ref C) ∧ match x.fs, vs with
  | [], [] => d = none
  | [(f, _)], [v] => ∃ dx, d = some dx ∧ H dx = some (.xd [(f, v)])
  | _, _ => False
/-- the wish of a context, on values -/
def wishOf (K : PySem.W.Frag) (mg : Str → Option Value) (Wx : WX) : Wish where
  p x ρ T := ∀ cls d σ H vs, Rel K H ρ σ (xits x vs ++ T) → XB H mg x cls d vs → Wx cls d σ H
  up x ρ T t h cls d σ H vs r b := h cls d σ H vs (r.good fun L g => by
    rw [List.append_assoc] at g ⊢
    exact (g.perm (show (xits x vs ++ (t :: T ++ L)).Perm (t :: (xits x vs ++ (T ++ L))) from List.perm_middle)).tail) b
/-- raise C(e), raise C() -/
def sRaise1 (c f : Str) (m : M LD) : M Out := m.bind fun x ρ => .ok (.xn ⟨c, [(f, x.2)]⟩) ρ
def sRaise0 (c : Str) : M Out := fun ρ => .ok (.xn ⟨c, []⟩) ρ
section
variable {X : Cx} {Wx : WX} {P : Sg → Prop} {c f : Str} {C : Addr} {e : Expr} {m : M LD} {k : Nat} {p pos pos2 : Pos}
theorem s_raise1 (hc : X.calm = true) (tk : Takes X Wx) (T : ETx X.prog X.w X.K X.mg c (some f) C) (hr : Room k X.A) (hk : 1 ≤ k) (h : PE X e (tV X.K (wishOf X.K X.mg Wx) m)) (hgl : Gl X c) (hdb : (c == ("__debug__" : Str)) = false := by decide)
    (he : starEach (e :: []) X.env = (false, eval e X.env) :: starEach [] X.env := by rfl) (hpl : (backTo pos (starEach [] X.env)).any (·.1) = false := by rfl) :
    PS X (.Raise (some (.Call (.Name c p) [e] [] pos)) none pos2) (tS X.K (wishOf X.K X.mg Wx) P (sRaise1 c f m)) := by
  refine PS.imp (ps_raise hc tk (pmk1 T hr hk (vs_cons h vs_nil he) hgl hdb he hpl)) fun D σ H ⟨ρ, S, r, hp, a⟩ => ?_
  refine ⟨ρ, S, r, ?_⟩
  have a' : Aft (wishOf X.K X.mg Wx) S (m ρ) fun x ρ1 => (wishOf X.K X.mg Wx).p ⟨c, [(f, x.2)]⟩ ρ1 S := a.bind
  cases q : m ρ with
  | no => rw [q] at a'; exact a'.elim
  | ex x ρ' => rw [q] at a'; unfold consV M.bind; rw [q]; exact a'
  | ok x ρ' =>
    rw [q] at a'
    unfold consV M.bind
    rw [q]
    show Aft _ S (R.ok [x] ρ') _
    intro vs H' hl r'
    match vs, hl with
    | [v], _ =>
      refine ⟨v, rfl, fun d hd => a' _ _ σ _ [v] ?_ ⟨⟨C, T.gC, rfl⟩, d, rfl, upd_same⟩⟩
      have r2 : Rel X.K H' ρ' σ ((x.1, x.2, v) :: S) := r'
      exact r2.good fun L g => (g.low (Nat.zero_le _)).new hd
theorem s_raise0 (hc : X.calm = true) (tk : Takes X Wx) (T : ETx X.prog X.w X.K X.mg c none C) (hr : Room k X.A) (hk : 1 ≤ k) (hgl : Gl X c) (hdb : (c == ("__debug__" : Str)) = false := by decide) :
    PS X (.Raise (some (.Call (.Name c p) [] [] pos)) none pos2) (tS X.K (wishOf X.K X.mg Wx) P (sRaise0 c)) := by
  refine PS.imp (ps_raise hc tk (pmk0 T hr hk hgl hdb)) fun D σ H ⟨ρ, S, r, hp, a⟩ => ?_
  exact a _ _ σ _ [] r ⟨⟨C, T.gC, rfl⟩, rfl⟩
end

/-! ### a statement whose expression may raise -/
def cx {α : Type} (m : M α) (f : α → M Out) : M Out := fun ρ => match m ρ with
  | .no => .no
  | .ok a ρ' => f a ρ'
  | .ex x ρ' => .ok (.xn x) ρ'
def sAsgX (m : M LD) (g : G) : M Out := cx m fun x ρ => match g x ρ with
  | some ρ' => .ok .nx ρ'
  | none => .no
def sDropX (m : M LD) : M Out := cx m fun _ => M.ret .nx
def sRetX (m : M LD) : M Out := cx m fun x => M.ret (.rt x)
theorem cx_aft {α : Type} {W : Wish} {K : PySem.W.Frag} {P : Sg → Prop} {T : List Item} {D : Ends} {m : M α} {f : α → M Out} {ρ : Rho} (h : Aft W T (cx m f ρ) fun o ρ' => OutP K W P T D ρ' o) : Aft W T (m.bind f ρ) fun o ρ' => OutP K W P T D ρ' o := by
  unfold cx at h
  unfold M.bind
  cases q : m ρ with
  | no => rw [q] at h; exact h
  | ok a ρ' => rw [q] at h; exact h
  | ex x ρ' => rw [q] at h; exact h
section
variable {X : Cx} {W : Wish} {P : Sg → Prop} {st : Stmt} {m : M LD} {g : G} {e : Expr} {pos : Pos}
theorem s_asgX (h : PS X st (tS X.K W P (sAsg m g))) : PS X st (tS X.K W P (sAsgX m g)) := PS.imp h fun D σ H ⟨ρ, T, r, p, a⟩ => ⟨ρ, T, r, p, cx_aft a⟩
theorem s_dropX (h : PS X st (tS X.K W P (sDrop m))) : PS X st (tS X.K W P (sDropX m)) := PS.imp h fun D σ H ⟨ρ, T, r, p, a⟩ => ⟨ρ, T, r, p, cx_aft a⟩
theorem s_retX (h : PS X st (tS X.K W P (sRet m))) : PS X st (tS X.K W P (sRetX m)) := PS.imp h fun D σ H ⟨ρ, T, r, p, a⟩ => ⟨ρ, T, r, p, cx_aft a⟩
end

/-! ### a def that may raise -/
def fnRunX (n : Nat) (b : M Out) (xs : List LD) : R LD := match b (xs.map (fun x => Cell.c x.1 x.2) ++ List.replicate (n - xs.length) Cell.u) with
  | .ok (.rt z) ρ => .ok z ρ
  | .ok .nx ρ => .ok (9, .non) ρ
  | .ok (.xn x) ρ => .ex x ρ
  | _ => .no
def Res (K : PySem.W.Frag) (mg : Str → Option Value) (T : List Item) (r : R LD) (Q : VK) (E : XK) : Prop := match r with
  | .no => False
  | .ok z _ => ∀ v H', Good K [] H' ((z.1, z.2, v) :: T) → Q v H'
  | .ex x _ => ∀ cls d vs H', Good K [] H' (xits x vs ++ T) → XB H' mg x cls d vs → E cls d H'
structure FnX (P : Program) (w : World) (K : PySem.W.Frag) (mg : Str → Option Value) (base : Heap) (k : Nat) (f : Addr) (fd : FuncData) (ps : List Str) (F : List LD → R LD) : Prop where
  run : ∀ (A : Around) (outer : List Env) (s : Shared) (H : Hp) (args : Args) (us : List Value) (vs : List V) (xs : List LD) (T : List Item) (Q : VK) (E : XK), Room k A → A.guards = some [] → Env0 P w K mg base A outer s H →
    us.length = ps.length → BindsTo s fd args (ps.zip us) → Vals vs us → xs.length = vs.length → Good K [] H (itemsOf xs vs ++ T) → Res K mg T (F xs) Q E → codeAny (model P w) A (.call (.ref f) args) (CR (L2.CX P w) outer P w H s Q E) s
theorem FnX.mono {P : Program} {w : World} {K : PySem.W.Frag} {mg : Str → Option Value} {base : Heap} {j k : Nat} {f : Addr} {fd : FuncData} {ps : List Str} {F : List LD → R LD} (G : FnX P w K mg base j f fd ps F) (h : j ≤ k) :
    FnX P w K mg base k f fd ps F := ⟨fun A outer s H args us vs xs T Q E hr => G.run A outer s H args us vs xs T Q E (hr.mono h)⟩
/-- what a def lets out, as a wish -/
abbrev wE (E : XK) : WX := fun cls d _ H => E cls d H
section
variable {P : Program} {w : World} {K : PySem.W.Frag} {mg : Str → Option Value} {base : Heap}
theorem fnX_of {x qual : Str} {st : Stmt} {f : Addr} {fd : FuncData} {N ps : List Str} {k : Nat} {b : M Out} (F : Fun K x qual st f fd) (S : FnScope N ps (defScope st))
    (hbody : ∀ (σ0 : Sg) (cdv : Value) (A : Around) (outer : List Env) (s : Shared) (H : Hp) (E : XK), Room k (A.deeper (envOfC qual (defScope st) s.heap.objs.size f cdv)) → (A.deeper (envOfC qual (defScope st) s.heap.objs.size f cdv)).guards = some [] →
      PSs (cxOf (L2.CX P w) P w K mg base N qual (defScope st) f cdv A outer s H E) (defBody st) (tS K (wishOf K mg (wE E)) (Pin [] σ0) b)) : FnX P w K mg base (k + 1) f fd ps (fnRunX N.length b) := by
  obtain ⟨oc, od, kV, doc, pm, an, cdv, ct, osl, rfl, lk, hcd⟩ := F.ex
  refine ⟨fun A outer s H args us vs xs T Q E hr hgd e0 hus hb rv hl g hF => ?_⟩
  have hA : (A.deeper (envOfC qual (defScope st) s.heap.objs.size f cdv)).guards = some [] := hgd
  have HB := hbody (start N vs) cdv A outer s H E (hr.deeper _) hA
  have hvs : vs.length = ps.length := by rw [rv.length, hus]
  have kx : K.In s.heap := e0.mod.kin.keeps fun b o e => (e0.bs b o e).1
  have lim : s.heap.NoLimit := e0.mod.nolimit.keeps fun b o e => (e0.bs b o e).1
  have pk : ∀ y ∈ ps.zip us, (defScope st).names.lookup y.1 = some .local ∨ ((defScope st).names.lookup y.1 = some .cell ∧ ((cellsFrom (s.heap.objs.size + 1) (defScope st).names []).lookup y.1).isSome = true) := by
    rintro ⟨n, v⟩ hy
    exact (S.par n (List.of_mem_zip hy).1).elim .inl fun q => .inr ⟨q, PySem.W.cellsFrom_some _ _ _ (.inl q)⟩
  refine codeAny_call_function hr.depth (kx _ _ lk) rfl S.co S.gen rfl (PySem.W.codeRec_of kx hcd) (hb _ _ _ _ ?_)
  refine wpAny_newFunctionEnv_cells S.kind pk fun env he s1 ic => ?_
  subst he
  refine ⟨lim.keeps ic.toInCall.keep, codeAny_func ?_⟩
  have I := inv_start (CX := L2.CX P w) (E := E) S hr.hd e0 hvs rv ic
  have hpl : vs.length ≤ N.length := by have := congrArg List.length S.pre; rw [List.length_take] at this; omega
  have rel0 : Rel K H (xs.map (fun x => Cell.c x.1 x.2) ++ List.replicate (N.length - xs.length) Cell.u) (start N vs) T := by
    refine ⟨itemsOf xs vs, ?_, g.perm List.perm_append_comm⟩
    unfold L2.start
    rw [hl]
    exact cells_start _ hl
  have fin : ∀ {ρ : Rho} {σ' : Sg} {H' : Hp} {T' : List Item}, Rel K H' ρ σ' (T' ++ T) → Good K [] H' (T' ++ T) := fun {ρ σ' H' T'} r => by
    obtain ⟨L, c, g⟩ := r
    exact (g.perm (List.perm_append_comm)).dropA
  have hrun : tS K (wishOf K mg (wE E)) (Pin [] (start N vs)) b { nx := fun _ H' => Q .non H', rt := Q } (start N vs) H := by
    have pin0 : Pin [] (start N vs) (start N vs) := fun j _ => rfl
    refine ⟨_, T, rel0, pin0, ?_⟩
    unfold fnRunX at hF
    cases eb : b (xs.map (fun x => Cell.c x.1 x.2) ++ List.replicate (N.length - xs.length) Cell.u) with
    | no => rw [eb] at hF; exact hF.elim
    | ex x ρ' => rw [eb] at hF; exact hF.elim
    | ok o ρ' =>
      rw [eb] at hF
      cases o with
      | nx => exact fun σ' H' r p => hF .non H' ((fin (T' := []) r).non)
      | bk => exact hF.elim
      | ct => exact hF.elim
      | rt z => exact fun v σ' H' r p => hF v H' (fin (T' := [(z.1, z.2, v)]) r)
      | xn x => exact fun cls d σ' H' vs' r b' => hF cls d vs' H' (fin r) b'
  refine wpAny_mono (HB.run [] s1 (start N vs) H _ I hrun) (fun fl s' hs => ?_) fun e s' hs => hs
  have done : ∀ {σ' : Sg} {H' : Hp} {v : V} {u : Value}, L2.Inv (cxOf (L2.CX P w) P w K mg base N qual (defScope st) f cdv A outer s H E) [] σ' H' s' → RelV v u → Q v H' → CE outer P w H s Q u s' := fun {σ' H' v u} J q1 q2 => ⟨v, H', J.os, J.bare, J.base, J.hok, q1, q2⟩
  match fl, hs with
  | .ret u, ⟨v, σ', H', J, q1, q2⟩ => exact done J q1 q2
  | .next, ⟨σ', H', J, q⟩ => exact done (v := V.non) (u := Value.none) J rfl q
  | .brk, ⟨_, _, _, q⟩ => exact False.elim q
  | .cont, ⟨_, _, _, q⟩ => exact False.elim q
end

/-! ### its call -/
def callX (F : List LD → R LD) (pm : List Nat) (n kn : Nat) (m mk : M (List Ar)) : M LD := m.bind fun as => mk.bind fun bs ρ => if as.length = n ∧ bs.length = kn then (match takeA ρ (pickL pm (as ++ bs)) with
  | none => .no
  | some (xs, ρ1) => match F xs with
    | .ok z _ => .ok z ρ1
    | .ex x _ => .ex x ρ1
    | .no => .no) else .no
section
variable {X : Cx} {Wx : WX} {k : Nat} {f : Addr} {fd : FuncData} {ps ks : List Str} {pm : List Nat} {F : List LD → R LD} {x : Str} {p pos kpos : Pos} {e : Expr} {es : List Expr} {kws : List Keyword} {m mk : M (List Ar)} {n kn : Nat}
theorem callX_end {pins : List (Addr × Obj)} {σ : Sg} {s : Shared} {H : Hp} {Q : VK} {us ws : List Value} {vs zs : List V} {as bs : List Ar} {ρ : Rho} {T : List Item} (tk : Takes X Wx) (G : FnX X.prog X.w X.K X.mg X.base k f fd ps F) (hr : Room k X.A) (hgd : X.A.guards = some []) (hb : BindG X.K fd ps ks n pm)
    (hpm : pm.Perm (List.range (n + kn))) (hkn : ks.length = kn) (I : L2.Inv X pins σ H s) (rv : Vals vs us) (rz : Vals zs ws) (rel : Rel X.K H ρ σ (tmps bs zs ++ (tmps as vs ++ T))) (pa : Paired (Ar.at σ) as vs) (pb : Paired (Ar.at σ) bs zs)
    (h : Aft (wishOf X.K X.mg Wx) T (if as.length = n ∧ bs.length = kn then (match takeA ρ (pickL pm (as ++ bs)) with
      | none => R.no
      | some (xs, ρ1) => match F xs with
        | .ok z _ => .ok z ρ1
        | .ex x _ => .ex x ρ1
        | .no => .no) else R.no) fun z ρ' => ∀ v H', Rel X.K H' ρ' σ ((z.1, z.2, v) :: T) → Q v H') :
    wpAny (model X.prog X.w) X.A (call (.ref f) us (ks.zip ws)) (EP X pins σ Q) X.xe s := by
  by_cases hp : as.length = n ∧ bs.length = kn
  · rw [if_pos hp] at h
    have la := pa.length
    have lb := pb.length
    have rel2 : Rel X.K H ρ σ (tmps (pickL pm (as ++ bs)) (pickL pm (vs ++ zs)) ++ T) := rel.good fun L g => by
      have p1 : (tmps bs zs ++ (tmps as vs ++ T)).Perm (tmps (as ++ bs) (vs ++ zs) ++ T) := by
        rw [tmps_append la, ← List.append_assoc]
        exact List.perm_append_comm.append_right T
      have p2 := (tmps_pick (as := as ++ bs) (vs := vs ++ zs) (pm := pm) (by rw [List.length_append, List.length_append, la, lb]) (by rw [List.length_append, hp.1, hp.2]; exact hpm)).append_right T
      exact g.perm ((p1.trans p2).append_right L)
    have pab := paired_pick (paired_append pa pb) pm
    cases e1 : takeA ρ (pickL pm (as ++ bs)) with
    | none => rw [e1] at h; exact h.elim
    | some y =>
      obtain ⟨xs, ρ1⟩ := y
      rw [e1] at h
      simp only at h
      obtain ⟨hl, L, c, g⟩ := take_rel rel2 pab e1
      obtain ⟨hb1, hb2⟩ := hb s us ws (by rw [← rv.length, ← la]; exact hp.1) (by rw [← rz.length, ← lb, hkn]; exact hp.2)
      rw [List.append_assoc] at g
      refine wpAny_call (codeAny_mono (G.run X.A X.stack s H ⟨us, ks.zip ws⟩ _ _ xs (T ++ L) Q (fun cls d H' => Wx cls d σ H') hr hgd I.env0 hb2 hb1 (vals_pick (rv.append rz) pm) hl g ?_) fun r s' hq => ?_)
      · unfold Res
        cases e2 : F xs with
        | no => rw [e2] at h; exact h.elim
        | ok z ρc =>
          rw [e2] at h
          exact fun v H' g' => h v H' ⟨L, c, g'⟩
        | ex x ρc =>
          rw [e2] at h
          exact fun cls d vs' H' g' b => h cls d σ H' vs' ⟨L, c, by rw [List.append_assoc]; exact g'⟩ b
      · cases r with
        | error e => exact tk e s' (XE.of_call I (fun _ _ _ z => z) hq)
        | ok fl =>
          match fl, hq with
          | .ret u, hq => exact I.after hq
  · rw [if_neg hp] at h; exact h.elim
/-- such a def and how it is called, in one -/
structure CaX (P : Program) (w : World) (K : PySem.W.Frag) (mg : Str → Option Value) (base : Heap) (k : Nat) (x : Str) (st : Stmt) (ps : List Str) (F : List LD → R LD) : Prop where
  ex : ∃ f fd, FnX P w K mg base k f fd ps F ∧ Fun K x x st f fd ∧ mg x = some (.ref f)
variable {j : Nat} {st : Stmt}
theorem x_call (tk : Takes X Wx) (C : CaX X.prog X.w X.K X.mg X.base j x st ps F) (hb : BindS x st ps [] n pm) (hpm : pm.Perm (List.range (n + 0))) (hr : Room k X.A) (hj : j ≤ k) (hgd : X.A.guards = some []) (hg : Gl X x) (ha : PA X (e :: es) (tAs X.K (wishOf X.K X.mg Wx) m))
    (hdb : (x == ("__debug__" : Str)) = false := by decide) (he : starEach (e :: es) X.env = (false, eval e X.env) :: starEach es X.env := by rfl) (hpl : (backTo pos (starEach es X.env)).any (·.1) = false := by rfl) :
    PE X (.Call (.Name x p) (e :: es) [] pos) (tV X.K (wishOf X.K X.mg Wx) (callX F pm n 0 m noAr)) := by
  obtain ⟨f, fd, G, U, hm⟩ := C.ex
  refine ⟨fun pins s σ H Q I ⟨ρ, T, rel, a⟩ => ?_⟩
  refine wpAny_Call_Name_kw (ld_glob I hg hm ?_ hdb)
  refine PySem.W.callWith_K (h₀ := X.base) I.ok.mod.kin U.kp (thn (ha.run pos pins s σ H (fun vs H1 => ∃ (as : List Ar) (ρ1 : Rho), Rel X.K H1 ρ1 σ (tmps as vs ++ T) ∧ Paired (Ar.at σ) as vs ∧ Aft (wishOf X.K X.mg Wx) T (noAr.bind _ ρ1) _) I ⟨ρ, T, rel, a.bind.imp fun as ρ1 q1 vs H1 r1 p1 => ⟨as, ρ1, r1, p1, q1⟩⟩) fun us s1 hq => ?_) he hpl
  obtain ⟨vs, H1, I1, rv, as, ρ1, r1, p1, q1⟩ := hq
  exact ⟨I1.kIn, callX_end (zs := []) (ws := []) (bs := []) tk (G.mono hj) hr hgd (Vs.Fun.bindG [] n pm U hb) hpm rfl I1 rv .nil r1 p1 .nil q1⟩
theorem x_call0 (tk : Takes X Wx) (C : CaX X.prog X.w X.K X.mg X.base j x st ps F) (hb : BindS x st ps [] 0 []) (hr : Room k X.A) (hj : j ≤ k) (hgd : X.A.guards = some []) (hg : Gl X x) (hdb : (x == ("__debug__" : Str)) = false := by decide) :
    PE X (.Call (.Name x p) [] [] pos) (tV X.K (wishOf X.K X.mg Wx) (callX F [] 0 0 noAr noAr)) := by
  obtain ⟨f, fd, G, U, hm⟩ := C.ex
  refine ⟨fun pins s σ H Q I ⟨ρ, T, rel, a⟩ => ?_⟩
  refine wpAny_Call_Name_kw (ld_glob I hg hm ?_ hdb)
  exact PySem.W.callWith_K0 I.kIn U.kp (callX_end (us := []) (ws := []) (vs := []) (zs := []) (as := []) (bs := []) tk (G.mono hj) hr hgd (Vs.Fun.bindG [] 0 [] U hb) (.refl _) rfl I .nil .nil rel .nil .nil a)
theorem x_callK (tk : Takes X Wx) (C : CaX X.prog X.w X.K X.mg X.base j x st ps F) (hb : BindS x st ps ks 0 pm) (hpm : pm.Perm (List.range (0 + kn))) (hkn : ks.length = kn) (hr : Room k X.A) (hj : j ≤ k) (hgd : X.A.guards = some []) (hg : Gl X x) (ha : PK X kws (tAs X.K (wishOf X.K X.mg Wx) mk))
    (hall : (backToKw pos (keywordEach kws X.env)).all (·.1.isSome) = true := by rfl) (hks : (backToKw pos (keywordEach kws X.env)).filterMap (·.1) = ks := by rfl) (hdb : (x == ("__debug__" : Str)) = false := by decide)
    (hpl : ((backTo pos (starEach [] X.env)).any (·.1) || (backToKw pos (keywordEach kws X.env)).any (·.1.isNone)) = false := by rfl) : PE X (.Call (.Name x p) [] kws pos) (tV X.K (wishOf X.K X.mg Wx) (callX F pm 0 kn noAr mk)) := by
  obtain ⟨f, fd, G, U, hm⟩ := C.ex
  refine ⟨fun pins s σ H Q I ⟨ρ, T, rel, a⟩ => ?_⟩
  refine wpAny_Call_Name_kw (ld_glob I hg hm ?_ hdb)
  have a' : Aft (wishOf X.K X.mg Wx) T (M.bind mk (fun bs ρ => if ([] : List Ar).length = 0 ∧ bs.length = kn then (match takeA ρ (pickL pm ([] ++ bs)) with
      | none => R.no
      | some (xs, ρ1) => match F xs with
        | .ok z _ => .ok z ρ1
        | .ex x _ => .ex x ρ1
        | .no => .no) else R.no) ρ) fun z ρ' => ∀ v H', Rel X.K H' ρ' σ ((z.1, z.2, v) :: T) → Q v H' := a
  refine PySem.W.callWith_KW0 (h₀ := X.base) I.ok.mod.kin U.kp hall (thn (ha.run pos pins s σ H (fun zs H1 => ∃ (bs : List Ar) (ρ1 : Rho), Rel X.K H1 ρ1 σ (tmps bs zs ++ T) ∧ Paired (Ar.at σ) bs zs ∧ Aft (wishOf X.K X.mg Wx) T _ _) I ⟨ρ, T, rel, a'.bind.imp fun bs ρ1 q1 zs H1 r1 p1 => ⟨bs, ρ1, r1, p1, q1⟩⟩) fun ws s1 hq => ?_) hpl
  obtain ⟨zs, H1, I1, rz, bs, ρ1, r1, p1, q1⟩ := hq
  refine ⟨I1.kIn, ?_⟩
  rw [hks]
  exact callX_end (us := []) (vs := []) (as := []) tk (G.mono hj) hr hgd (Vs.Fun.bindG ks 0 pm U hb) hpm hkn I1 .nil rz r1 .nil p1 q1
theorem x_callKW (tk : Takes X Wx) (C : CaX X.prog X.w X.K X.mg X.base j x st ps F) (hb : BindS x st ps ks n pm) (hpm : pm.Perm (List.range (n + kn))) (hkn : ks.length = kn) (hr : Room k X.A) (hj : j ≤ k) (hgd : X.A.guards = some []) (hg : Gl X x) (ha : PA X (e :: es) (tAs X.K (wishOf X.K X.mg Wx) m)) (hb2 : PK X kws (tAs X.K (wishOf X.K X.mg Wx) mk))
    (hall : (backToKw pos (keywordEach kws X.env)).all (·.1.isSome) = true := by rfl) (hks : (backToKw pos (keywordEach kws X.env)).filterMap (·.1) = ks := by rfl) (hdb : (x == ("__debug__" : Str)) = false := by decide)
    (he : starEach (e :: es) X.env = (false, eval e X.env) :: starEach es X.env := by rfl) (hpl : ((backTo pos (starEach (e :: es) X.env)).any (·.1) || (backToKw pos (keywordEach kws X.env)).any (·.1.isNone)) = false := by rfl) :
    PE X (.Call (.Name x p) (e :: es) kws pos) (tV X.K (wishOf X.K X.mg Wx) (callX F pm n kn m mk)) := by
  obtain ⟨f, fd, G, U, hm⟩ := C.ex
  refine ⟨fun pins s σ H Q I ⟨ρ, T, rel, a⟩ => ?_⟩
  refine wpAny_Call_Name_kw (ld_glob I hg hm ?_ hdb)
  refine PySem.W.callWith_KW (h₀ := X.base) I.ok.mod.kin U.kp hall (thn (ha.run pos pins s σ H (fun vs H1 => ∃ (as : List Ar) (ρ1 : Rho), Rel X.K H1 ρ1 σ (tmps as vs ++ T) ∧ Paired (Ar.at σ) as vs ∧ Aft (wishOf X.K X.mg Wx) T _ _) I ⟨ρ, T, rel, a.bind.imp fun as ρ1 q1 vs H1 r1 p1 => ⟨as, ρ1, r1, p1, q1⟩⟩) fun us s1 hq => ?_) hpl he
  obtain ⟨vs, H1, I1, rv, as, ρ1, r1, p1, q1⟩ := hq
  refine thn (hb2.run pos pins s1 σ H1 (fun zs H2 => ∃ (bs : List Ar) (ρ2 : Rho), Rel X.K H2 ρ2 σ (tmps bs zs ++ (tmps as vs ++ T)) ∧ Paired (Ar.at σ) bs zs ∧ Aft (wishOf X.K X.mg Wx) T _ _) I1 ⟨ρ1, tmps as vs ++ T, r1, (q1.bind.ups _).imp fun bs ρ2 q2 zs H2 r2 p2 => ⟨bs, ρ2, r2, p2, q2⟩⟩) fun ws s2 hq2 => ?_
  obtain ⟨zs, H2, I2, rz, bs, ρ2, r2, p2, q2⟩ := hq2
  refine ⟨I2.kIn, ?_⟩
  rw [hks]
  exact callX_end tk (G.mono hj) hr hgd (Vs.Fun.bindG ks n pm U hb) hpm hkn I2 rv rz r2 p1 p2 q2
end
end Vs
set_option Elab.async false
set_option linter.all false
set_option maxRecDepth 100000
set_option maxHeartbeats 2000000
/-! Xe3: try: .. except C as n: return [..]. -/
namespace Vs
open PySem PySem.Spec PyProof.Rows L2

/-- what is asked of a class in an except clause; S: the package's own base -/
structure EHd (K : PySem.W.Frag) (mg : Str → Option Value) (c : Str) (C S : Addr) : Prop where
  gC : mg c = some (.ref C)
  ex : PySem.W.exmOne K (.ref C) (.ref C) = some true
  xf : XfC K C
  hc : PySem.W.findIn K (.ref C) "__class__" = some (some (.builtin "object.__class__"))
  hn : PySem.W.specialIn K (.builtin "object.__class__") "__get__" = some (some (.builtin "getset_descriptor.__get__"))
  ht : PySem.W.takesIn K (.builtin "object.__class__") = some true
  hm : PySem.W.mroIn K C (.type "object") = some true
  kit : PySem.W.kitOne K (.ref C) (.ref S) = some true
  gS : mg "SumError" = some (.ref S)
def rIsE2 (K : PySem.W.Frag) (C a : Addr) (d : Option Addr) : List V → Hp → VK → Prop := fun xs H Q => ∃ (c : V) (cv : Value) (b : Bool), xs = [.ref a, c] ∧ (∀ u, RelV c u → u = cv) ∧ PySem.W.kitOne K (.ref C) cv = some b ∧ (∀ dd, d = some dd → ∃ fs, H dd = some (.xd fs)) ∧ Q (.bl b) H
theorem call_isE2 {X : Cx} {a C S : Addr} {c : Str} {oe : Obj} {d : Option Addr} {pn : List (Addr × Obj)} (T : EHd X.K X.mg c C S) (hz : Zc (.ref C) d oe) (hf : ∃ vs, oe.data = .fields vs) : CallR (X.suite a ((a, oe) :: pn)) (.builtin "isinstance") (rIsE2 X.K C a d) := by
  intro pins s σ H xs us Q I r h
  obtain ⟨cc, cv, b, rfl, hcv, e, hdd, q⟩ := h
  cases r with
  | cons rx rr =>
    cases rr with
    | cons rt rr =>
      cases rr
      cases rx
      have ec := hcv _ rt
      subst ec
      obtain ⟨hget, _⟩ := I.pin (a, oe) (List.mem_append.mpr (.inl List.mem_cons_self))
      obtain ⟨vs, hv⟩ := hf
      have J : ∃ od, PySem.W.InstAt s.heap a oe C od := by
        cases d with
        | none => exact ⟨none, hget, hz.1, by unfold PySem.W.notCls; rw [hv] <;> rfl, by rw [hz.2]; trivial⟩
        | some dd =>
          obtain ⟨fs, hxd⟩ := hdd dd rfl
          have hx : ObjOk X.prog X.w H s.heap dd (.xd fs) := I.hok dd _ hxd
          obtain ⟨mA, hns, _⟩ := hx
          obtain ⟨od, ho, hl⟩ := lookIn_ns hns
          exact ⟨some od, hget, hz.1, by unfold PySem.W.notCls; rw [hv] <;> rfl, by rw [hz.2]; exact ho⟩
      obtain ⟨od, J⟩ := J
      have hcl : (PySem.W.clsIn X.K C).isSome = true := by
        obtain ⟨cd, hc, _⟩ := PySem.W.any_some T.xf.hdC
        rw [hc]; rfl
      exact PySem.W.kia_one (PySem.W.kitx_exc hcl T.xf.ga T.xf.gg T.xf.exC T.hc T.hn T.ht T.hm) I.kIn J e (fun z => nomatch z) fun tk => ⟨.bl b, H, I.kept (t' := tk) fun _ _ z => z, rfl, q⟩

/-! ### what the suites return -/
def hd1 (c f w : Str) (more : List D) (x : Xn) : Option D := if x.cls = c then (match x.fs with
  | [(g, d)] => if g = f then some (.lst (.str w :: d :: more)) else none
  | _ => none) else none
def hd0 (c w : Str) (more : List D) (x : Xn) : Option D := if x.cls = c then some (.lst (.str w :: more)) else none
theorem hd1_cls {c f w : Str} {more : List D} (x : Xn) (d : D) (h : hd1 c f w more x = some d) : x.cls = c := by
  unfold hd1 at h
  by_cases q : x.cls = c
  · exact q
  · rw [if_neg q] at h; cases h
theorem hd0_cls {c w : Str} {more : List D} (x : Xn) (d : D) (h : hd0 c w more x = some d) : x.cls = c := by
  unfold hd0 at h
  by_cases q : x.cls = c
  · exact q
  · rw [if_neg q] at h; cases h
def sTry (i : Nat) (mb : M Out) (hd : Xn → Option D) : M Out := fun ρ => match mb ρ with
  | .ok (.xn x) ρ' => (match hd x with
    | some d => if i < ρ'.length then .ok (.rt (1, d)) (ρ'.set i .u) else .no
    | none => .no)
  | .ex _ _ => .no
  | .no => .no
  | .ok o ρ' => .ok o ρ'
/-- the reading of such a suite -/
def tSu (K : PySem.W.Frag) (mg : Str → Option Value) (i : Nat) (hd : Xn → Option D) (a : Addr) (cls : Value) (d : Option Addr) : TS := fun D σ H => ∃ x vs ρ T, Rel K H ρ σ (xits x vs ++ T) ∧ XB H mg x cls d vs ∧ σ[i]? = some (some (.ref a)) ∧ ∃ dd, hd x = some dd ∧ ∀ v H', Rel K H' ρ σ ((1, dd, v) :: T) → D.rt v H'

theorem Cells.putAny {ρ : Rho} {σ : Sg} {L : List Item} (h : Cells ρ σ L) : ∀ (i : Nat) (x : Option V), ρ[i]? = some .u → Cells ρ (σ.set i x) L := by
  induction h with
  | nil => intro i x e; simp at e
  | u _ ih =>
    intro i x e
    cases i with
    | zero => exact .u (by assumption)
    | succ i => exact .u (ih i x (by simpa using e))
  | c _ ih =>
    intro i x e
    cases i with
    | zero => simp at e
    | succ i => exact .c (ih i x (by simpa using e))
theorem Rel.put {K : PySem.W.Frag} {H : Hp} {ρ : Rho} {σ : Sg} {T : List Item} (r : Rel K H ρ σ T) {i : Nat} (x : Option V) (hi : i < ρ.length) : Rel K H (ρ.set i .u) (σ.set i x) T := by
  obtain ⟨L, c, g⟩ := r.wipe1 i
  exact ⟨L, c.putAny i x (by rw [List.getElem?_set_self hi]), g⟩

section
variable {X : Cx} {W : Wish} {P : Sg → Prop} {c n : Str} {C S : Addr} {i : Nat} {body suite : List Stmt} {b₀ : Stmt} {np pos pos' : Pos} {mb : M Out} {hd : Xn → Option D}
theorem s_try1 (hP : ∀ σ, P σ) (hs : X.stack = X.env :: X.outer) (hf : X.env.frame = some X.env.locals) (hN : X.N.Nodup) (hi : X.N[i]? = some n) (hln : X.env.kindOf n = some .local) (T : EHd X.K X.mg c C S) (hgl : Gl X c)
    (hb : ∀ (Wx : WX) (pn : List (Addr × Obj)) (xe : Value → Shared → Prop), Takes (X.tr pn xe) Wx → PassesOwn (model X.prog X.w) X.A X.env xe → PSs (X.tr pn xe) body (tS X.K (wishOf X.K X.mg Wx) P mb))
    (hsu : ∀ (a : Addr) (oe : Obj) (cls : Value) (d : Option Addr) (pn : List (Addr × Obj)), Zc cls d oe → (∃ vs, oe.data = .fields vs) → PSs (X.suite a ((a, oe) :: pn)) (b₀ :: suite) (tSu X.K X.mg i hd a cls d))
    (hx : ∀ x d, hd x = some d → x.cls = c) (hdb : (c == ("__debug__" : Str)) = false := by decide) :
    PS X (.Try body [.ExceptHandler (some (.Name c np)) (some n) (b₀ :: suite) pos'] [] [] pos) (tS X.K W P (sTry i mb hd)) := by
  have tk0 : Takes X (fun _ _ _ _ => False) := fun _ _ ⟨_, _, _, _, _, _, _, _, _, _, _, _, _, _, _, _, w⟩ => w.elim
  refine PS.imp (ps_try_as (tb := fun Wx => tS X.K (wishOf X.K X.mg Wx) P mb) (ts := tSu X.K X.mg i hd) hs hf hN hi hln ⟨hgl, hdb, .inl T.gC⟩ tk0 hb hsu) fun D σ H ⟨ρ, S', r, p, a⟩ => ⟨ρ, S', r, p, ?_⟩
  unfold sTry at a
  cases e : mb ρ with
  | no => rw [e] at a; exact a.elim
  | ex x ρ' => rw [e] at a; exact a.elim
  | ok o ρ' =>
    rw [e] at a
    cases o with
    | nx => exact a
    | bk => exact a
    | ct => exact a
    | rt z => exact a
    | xn x =>
      simp only at a
      cases q : hd x with
      | none => rw [q] at a; exact a.elim
      | some dd =>
        rw [q] at a
        simp only at a
        by_cases hl : i < ρ'.length
        · rw [if_pos hl] at a
          intro cls d σ1 H1 vs r1 b1
          have hc1 := hx _ _ q
          obtain ⟨⟨C', hC', rfl⟩, b2⟩ := id b1
          rw [hc1, T.gC] at hC'
          cases hC'
          refine ⟨true, T.ex, fun _ a0 na => ?_, fun z => nomatch z⟩
          have hl2 : i < σ1.length := by
            obtain ⟨L, cc, _⟩ := r1
            rw [← cc.len]; exact hl
          exact ⟨x, vs, _, S', r1.put (some (.ref a0)) hl, b1, by rw [List.getElem?_set_self hl2], dd, q, fun v H' r' => a v _ H' r' (hP _)⟩
        · rw [if_neg hl] at a; exact a.elim

variable {w f : Str} {a : Addr} {oe : Obj} {cls : Value} {d : Option Addr} {pn : List (Addr × Obj)} {j : Nat} {p1 p2 p3 p4 p5 p6 p7 p8 p9 : Pos} {σ : Sg} {H : Hp}
theorem xb1 {x : Xn} {vs : List V} {K : PySem.W.Frag} {ρ : Rho} {T : List Item} {more : List D} {dd : D} (b : XB H X.mg x cls d vs) (r : Rel K H ρ σ (xits x vs ++ T)) (gC : X.mg c = some (.ref C)) (h : hd1 c f w more x = some dd) :
    cls = .ref C ∧ ∃ dx v e, d = some dx ∧ H dx = some (.xd [(f, v)]) ∧ dd = .lst (.str w :: e :: more) ∧ Rel K H ρ σ ((0, e, v) :: T) := by
  unfold hd1 at h
  by_cases q : x.cls = c
  · rw [if_pos q] at h
    obtain ⟨xc, fs⟩ := x
    obtain ⟨⟨C', h1, rfl⟩, b2⟩ := b
    have q' : xc = c := q
    subst q'
    rw [gC] at h1
    cases h1
    dsimp only at h
    cases fs with
    | nil => cases h
    | cons y fs =>
      cases fs with
      | cons _ _ => cases h
      | nil =>
        obtain ⟨g, e⟩ := y
        cases vs with
        | nil => exact b2.elim
        | cons v vs =>
          cases vs with
          | cons _ _ => exact b2.elim
          | nil =>
            obtain ⟨dx, e1, e2⟩ := b2
            dsimp only at h
            by_cases q2 : g = f
            · rw [if_pos q2] at h
              subst q2
              cases h
              exact ⟨rfl, dx, v, e, e1, e2, rfl, r⟩
            · rw [if_neg q2] at h; cases h
  · rw [if_neg q] at h; cases h
theorem xb0 {x : Xn} {vs : List V} {K : PySem.W.Frag} {ρ : Rho} {T : List Item} {more : List D} {dd : D} (b : XB H X.mg x cls d vs) (r : Rel K H ρ σ (xits x vs ++ T)) (gC : X.mg c = some (.ref C)) (h : hd0 c w more x = some dd) :
    cls = .ref C ∧ dd = .lst (.str w :: more) ∧ Rel K H ρ σ T ∧ ∀ dx, d = some dx → ∃ fs, H dx = some (.xd fs) := by
  unfold hd0 at h
  by_cases q : x.cls = c
  · rw [if_pos q] at h
    cases h
    obtain ⟨xc, fs⟩ := x
    obtain ⟨⟨C', h1, rfl⟩, b2⟩ := b
    have q' : xc = c := q
    subst q'
    rw [gC] at h1
    cases h1
    refine ⟨rfl, rfl, r.good fun L g => by rw [List.append_assoc] at g; exact g.dropA, ?_⟩
    match fs, vs, b2 with
    | [], [], b2 => intro dx e; have b3 : d = none := b2; rw [b3] at e; cases e
    | [(g, e)], [v], ⟨dx, e1, e2⟩ => intro dx' e; rw [e1] at e; cases e; exact ⟨_, e2⟩
  · rw [if_neg q] at h; cases h
abbrev isE (n : Str) (p4 p5 p6 p7 : Pos) : Expr := .Call (.Name "isinstance" p4) [.Name n p5, .Name "SumError" p6] [] p7
theorem pe_isE (T : EHd X.K X.mg c C S) (hz : Zc (.ref C) d oe) (hf : ∃ vs, oe.data = .fields vs) (hv : PE (X.suite a ((a, oe) :: pn)) (.Name n p5) (tVar i)) (hgi : Gl X "isinstance") (hmi : X.mg "isinstance" = none) (hgS : Gl X "SumError")
    (he : starEach [.Name n p5, .Name "SumError" p6] X.env = (false, eval (.Name n p5) X.env) :: starEach [.Name "SumError" p6] X.env := by rfl) (he2 : starEach [.Name "SumError" p6] X.env = (false, eval (.Name "SumError" p6) X.env) :: starEach [] X.env := by rfl) (hpl : (backTo p7 (starEach [.Name "SumError" p6] X.env)).any (·.1) = false := by rfl) :
    PE (X.suite a ((a, oe) :: pn)) (isE n p4 p5 p6 p7) (fun σ H Q => σ[i]? = some (some (.ref a)) ∧ (∀ dd, d = some dd → ∃ fs, H dd = some (.xd fs)) ∧ Q (.bl true) H) := by
  refine PE.imp (pe_callB (call_isE2 T hz hf) hgi hmi (by first | exact PyProof.Rows.boot_isinstance | kernel_rfl) (pa_cons hv (pa_cons (pe_glob (X := X.suite a ((a, oe) :: pn)) (v := .ref S) hgS T.gS rfl) pa_nil he2) he) (by decide) rfl he hpl) fun σ H Q ⟨h1, h2, h3⟩ => ?_
  exact ⟨.ref a, h1, .ref S, .ref S, true, rfl, fun u hu => hu, T.kit, h2, h3⟩
abbrev strE (w : Str) (j : Nat) (p1 : Pos) : Expr := .Constant (.str w) j p1
abbrev fldE (n f : Str) (p2 p3 : Pos) : Expr := .Attribute (.Name n p2) f p3
/-- return [w, n.f, isinstance(n, SumError)] -/
theorem su_A (T : EHd X.K X.mg c C S) (hno : PySem.W.findIn X.K (.ref C) f = some none) (hz : Zc cls d oe) (hf : ∃ vs, oe.data = .fields vs) (hv : ∀ p, PE (X.suite a ((a, oe) :: pn)) (.Name n p) (tVar i)) (hgi : Gl X "isinstance") (hmi : X.mg "isinstance" = none) (hgS : Gl X "SumError")
    (hb : attributeBase (.Name n p2) f X.env (eval (.Name n p2) X.env) = eval (.Name n p2) X.env := by rfl)
    (h1 : starEach [strE w j p1, fldE n f p2 p3, isE n p4 p5 p6 p7] X.env = (false, eval (strE w j p1) X.env) :: starEach [fldE n f p2 p3, isE n p4 p5 p6 p7] X.env := by rfl) (h2 : starEach [fldE n f p2 p3, isE n p4 p5 p6 p7] X.env = (false, eval (fldE n f p2 p3) X.env) :: starEach [isE n p4 p5 p6 p7] X.env := by rfl) (h3 : starEach [isE n p4 p5 p6 p7] X.env = (false, eval (isE n p4 p5 p6 p7) X.env) :: starEach [] X.env := by rfl)
    (he : starEach [.Name n p5, .Name "SumError" p6] X.env = (false, eval (.Name n p5) X.env) :: starEach [.Name "SumError" p6] X.env := by rfl) (he2 : starEach [.Name "SumError" p6] X.env = (false, eval (.Name "SumError" p6) X.env) :: starEach [] X.env := by rfl) (hpl : (backTo p7 (starEach [.Name "SumError" p6] X.env)).any (·.1) = false := by rfl) :
    PSs (X.suite a ((a, oe) :: pn)) [.Return (some (.List [strE w j p1, fldE n f p2 p3, isE n p4 p5 p6 p7] p8)) p9] (tSu X.K X.mg i (hd1 c f w [.bl true]) a cls d) := by
  by_cases hcls : cls = .ref C
  · subst hcls
    refine PSs.imp (pss_one (ps_ret (pe_lst (pa_cons pe_str (pa_cons (pe_xf T.xf hno hz hf (hv p2) hb) (pa_cons (pe_isE T hz hf (hv p5) hgi hmi hgS he he2 hpl) pa_nil h3) h2) h1)))) fun D σ H ⟨x, vs, ρ, S', r, b, hσ, dd, hq, hr⟩ => ?_
    obtain ⟨_, dx, v, e, e1, e2, rfl, r1⟩ := xb1 b r T.gC hq
    refine ⟨.ref a, hσ, rfl, rfl, dx, _, v, e1, e2, by simp [List.lookup], hσ, fun dd h => by rw [e1] at h; cases h; exact ⟨_, e2⟩, by show 3 ≤ sizeLine; rw [sizeLine_eq]; decide, fun p hp => hr _ _ ?_⟩
    refine r1.good fun L g => ?_
    have g2 : Good X.K [] H (its 0 [.str w, e, .bl true] [.str w, v, .bl true] ++ (S' ++ L)) := Good.str ((show Good X.K [] H ((0, .bl true, .bl true) :: (0, e, v) :: (S' ++ L)) from g.bl).perm (.swap _ _ _))
    exact g2.newL rfl hp
  · refine PSs.imp (pss_one (ps_ret (pe_lst (pa_cons pe_str (pa_cons (pe_xf T.xf hno hz hf (hv p2) hb) (pa_cons (te := fun _ _ _ => False) ⟨fun _ _ _ _ _ _ z => z.elim⟩ pa_nil h3) h2) h1)))) fun D σ H ⟨x, vs, ρ, S', r, b, hσ, dd, hq, hr⟩ => ?_
    exact absurd (xb1 b r T.gC hq).1 hcls
/-- return [w, isinstance(n, SumError)] -/
theorem su_B (T : EHd X.K X.mg c C S) (hz : Zc cls d oe) (hf : ∃ vs, oe.data = .fields vs) (hv : ∀ p, PE (X.suite a ((a, oe) :: pn)) (.Name n p) (tVar i)) (hgi : Gl X "isinstance") (hmi : X.mg "isinstance" = none) (hgS : Gl X "SumError")
    (h1 : starEach [strE w j p1, isE n p4 p5 p6 p7] X.env = (false, eval (strE w j p1) X.env) :: starEach [isE n p4 p5 p6 p7] X.env := by rfl) (h3 : starEach [isE n p4 p5 p6 p7] X.env = (false, eval (isE n p4 p5 p6 p7) X.env) :: starEach [] X.env := by rfl)
    (he : starEach [.Name n p5, .Name "SumError" p6] X.env = (false, eval (.Name n p5) X.env) :: starEach [.Name "SumError" p6] X.env := by rfl) (he2 : starEach [.Name "SumError" p6] X.env = (false, eval (.Name "SumError" p6) X.env) :: starEach [] X.env := by rfl) (hpl : (backTo p7 (starEach [.Name "SumError" p6] X.env)).any (·.1) = false := by rfl) :
    PSs (X.suite a ((a, oe) :: pn)) [.Return (some (.List [strE w j p1, isE n p4 p5 p6 p7] p8)) p9] (tSu X.K X.mg i (hd0 c w [.bl true]) a cls d) := by
  by_cases hcls : cls = .ref C
  · subst hcls
    refine PSs.imp (pss_one (ps_ret (pe_lst (pa_cons pe_str (pa_cons (pe_isE T hz hf (hv p5) hgi hmi hgS he he2 hpl) pa_nil h3) h1)))) fun D σ H ⟨x, vs, ρ, S', r, b, hσ, dd, hq, hr⟩ => ?_
    obtain ⟨_, rfl, r1, hd'⟩ := xb0 b r T.gC hq
    refine ⟨hσ, hd', by show 2 ≤ sizeLine; rw [sizeLine_eq]; decide, fun p hp => hr _ _ ?_⟩
    refine r1.good fun L g => ?_
    have g2 : Good X.K [] H (its 0 [.str w, .bl true] [.str w, .bl true] ++ (S' ++ L)) := Good.str (show Good X.K [] H ((0, .bl true, .bl true) :: (S' ++ L)) from g.bl)
    exact g2.newL rfl hp
  · refine PSs.imp (pss_one (ps_ret (pe_lst (pa_cons pe_str (pa_cons (te := fun _ _ _ => False) ⟨fun _ _ _ _ _ _ z => z.elim⟩ pa_nil h3) h1)))) fun D σ H ⟨x, vs, ρ, S', r, b, hσ, dd, hq, hr⟩ => ?_
    exact absurd (xb0 b r T.gC hq).1 hcls
/-- return [w, n.f] if isinstance(n, SumError) else [] -/
theorem su_C {p10 p11 : Pos} (T : EHd X.K X.mg c C S) (hno : PySem.W.findIn X.K (.ref C) f = some none) (hz : Zc cls d oe) (hf : ∃ vs, oe.data = .fields vs) (hv : ∀ p, PE (X.suite a ((a, oe) :: pn)) (.Name n p) (tVar i)) (hgi : Gl X "isinstance") (hmi : X.mg "isinstance" = none) (hgS : Gl X "SumError")
    (hb : attributeBase (.Name n p2) f X.env (eval (.Name n p2) X.env) = eval (.Name n p2) X.env := by rfl)
    (ht : ∀ whole, isTrue (isE n p4 p5 p6 p7) X.env whole = (do let v ← whole; standAt (isE n p4 p5 p6 p7).pos; holding [v] (truthy v)) := by intro _; rfl)
    (h1 : starEach [strE w j p1, fldE n f p2 p3] X.env = (false, eval (strE w j p1) X.env) :: starEach [fldE n f p2 p3] X.env := by rfl) (h2 : starEach [fldE n f p2 p3] X.env = (false, eval (fldE n f p2 p3) X.env) :: starEach [] X.env := by rfl)
    (he : starEach [.Name n p5, .Name "SumError" p6] X.env = (false, eval (.Name n p5) X.env) :: starEach [.Name "SumError" p6] X.env := by rfl) (he2 : starEach [.Name "SumError" p6] X.env = (false, eval (.Name "SumError" p6) X.env) :: starEach [] X.env := by rfl) (hpl : (backTo p7 (starEach [.Name "SumError" p6] X.env)).any (·.1) = false := by rfl) :
    PSs (X.suite a ((a, oe) :: pn)) [.Return (some (.IfExp (isE n p4 p5 p6 p7) (.List [strE w j p1, fldE n f p2 p3] p8) (.List [] p10) p11)) p9] (tSu X.K X.mg i (hd1 c f w []) a cls d) := by
  by_cases hcls : cls = .ref C
  · subst hcls
    refine PSs.imp (pss_one (ps_ret (pe_ifExp (pt_val (pe_isE T hz hf (hv p5) hgi hmi hgS he he2 hpl) ht) (pe_lst (pa_cons pe_str (pa_cons (pe_xf T.xf hno hz hf (hv p2) hb) pa_nil h2) h1)) (pe_lst pa_nil)))) fun D σ H ⟨x, vs, ρ, S', r, b, hσ, dd, hq, hr⟩ => ?_
    obtain ⟨_, dx, v, e, e1, e2, rfl, r1⟩ := xb1 b r T.gC hq
    refine ⟨hσ, fun dd h => by rw [e1] at h; cases h; exact ⟨_, e2⟩, true, rfl, ?_⟩
    dsimp only
    rw [if_pos rfl]
    refine ⟨.ref a, hσ, rfl, rfl, dx, _, v, e1, e2, by simp [List.lookup], by show 2 ≤ sizeLine; rw [sizeLine_eq]; decide, fun p hp => hr _ _ ?_⟩
    refine r1.good fun L g => ?_
    have g2 : Good X.K [] H (its 0 [.str w, e] [.str w, v] ++ (S' ++ L)) := Good.str (show Good X.K [] H ((0, e, v) :: (S' ++ L)) from g)
    exact g2.newL rfl hp
  · refine PSs.imp (pss_one (ps_ret (pe_ifExp (show PT (X.suite a ((a, oe) :: pn)) (isE n p4 p5 p6 p7) (fun _ _ _ => False) from ⟨fun _ _ _ _ _ _ z => z.elim⟩) (pe_lst (pa_cons pe_str (pa_cons (pe_xf T.xf hno hz hf (hv p2) hb) pa_nil h2) h1)) (pe_lst pa_nil)))) fun D σ H ⟨x, vs, ρ, S', r, b, hσ, dd, hq, hr⟩ => ?_
    exact absurd (xb1 b r T.gC hq).1 hcls
/-- return [w] if isinstance(n, SumError) else [] -/
theorem su_D {p10 p11 : Pos} (T : EHd X.K X.mg c C S) (hz : Zc cls d oe) (hf : ∃ vs, oe.data = .fields vs) (hv : ∀ p, PE (X.suite a ((a, oe) :: pn)) (.Name n p) (tVar i)) (hgi : Gl X "isinstance") (hmi : X.mg "isinstance" = none) (hgS : Gl X "SumError")
    (ht : ∀ whole, isTrue (isE n p4 p5 p6 p7) X.env whole = (do let v ← whole; standAt (isE n p4 p5 p6 p7).pos; holding [v] (truthy v)) := by intro _; rfl)
    (h1 : starEach [strE w j p1] X.env = (false, eval (strE w j p1) X.env) :: starEach [] X.env := by rfl)
    (he : starEach [.Name n p5, .Name "SumError" p6] X.env = (false, eval (.Name n p5) X.env) :: starEach [.Name "SumError" p6] X.env := by rfl) (he2 : starEach [.Name "SumError" p6] X.env = (false, eval (.Name "SumError" p6) X.env) :: starEach [] X.env := by rfl) (hpl : (backTo p7 (starEach [.Name "SumError" p6] X.env)).any (·.1) = false := by rfl) :
    PSs (X.suite a ((a, oe) :: pn)) [.Return (some (.IfExp (isE n p4 p5 p6 p7) (.List [strE w j p1] p8) (.List [] p10) p11)) p9] (tSu X.K X.mg i (hd0 c w []) a cls d) := by
  by_cases hcls : cls = .ref C
  · subst hcls
    refine PSs.imp (pss_one (ps_ret (pe_ifExp (pt_val (pe_isE T hz hf (hv p5) hgi hmi hgS he he2 hpl) ht) (pe_lst (pa_cons pe_str pa_nil h1)) (pe_lst pa_nil)))) fun D σ H ⟨x, vs, ρ, S', r, b, hσ, dd, hq, hr⟩ => ?_
    obtain ⟨_, rfl, r1, hd'⟩ := xb0 b r T.gC hq
    refine ⟨hσ, hd', true, rfl, ?_⟩
    dsimp only
    rw [if_pos rfl]
    refine ⟨by show 1 ≤ sizeLine; rw [sizeLine_eq]; decide, fun p hp => hr _ _ ?_⟩
    refine r1.good fun L g => ?_
    have g2 : Good X.K [] H (its 0 [.str w] [.str w] ++ (S' ++ L)) := Good.str g
    exact g2.newL rfl hp
  · refine PSs.imp (pss_one (ps_ret (pe_ifExp (show PT (X.suite a ((a, oe) :: pn)) (isE n p4 p5 p6 p7) (fun _ _ _ => False) from ⟨fun _ _ _ _ _ _ z => z.elim⟩) (pe_lst (pa_cons pe_str pa_nil h1)) (pe_lst pa_nil)))) fun D σ H ⟨x, vs, ρ, S', r, b, hσ, dd, hq, hr⟩ => ?_
    exact absurd (xb0 b r T.gC hq).1 hcls
end
end Vs
set_option Elab.async false
set_option linter.all false
set_option maxRecDepth 100000
set_option maxHeartbeats 2000000
/-! Vs30: in, not in of dicts; d.get(k, x); a == b == c. -/
namespace Vs
open PySem PySem.Spec PyProof.Rows L2

/-! ### chains of == -/
def bEq (i j : Int) : Bool := decide (i = j)
def bNe (i j : Int) : Bool := !decide (i = j)
section
variable {X : Cx}
theorem dec_vi (i j : Int) : decide (V.int i = V.int j) = decide (i = j) := by simp
theorem eq_b : OpR X (compareOp .Eq) (rI0 fun i j => .bl (bEq i j)) := fun pins s σ H x y v u Q I r1 r2 h => by
  obtain ⟨i, j, rfl, rfl, q⟩ := h
  exact op_eq pins s σ H _ _ v u Q I r1 r2 ⟨rfl, by rw [dec_vi]; exact q⟩
theorem ne_b : OpR X (compareOp .NotEq) (rI0 fun i j => .bl (bNe i j)) := fun pins s σ H x y v u Q I r1 r2 h => by
  obtain ⟨i, j, rfl, rfl, q⟩ := h
  exact op_ne pins s σ H _ _ v u Q I r1 r2 ⟨rfl, by rw [dec_vi]; exact q⟩
end

/-! ### in a dict -/
def oInA : List D → Option D
  | [x, .dic ks] => (keyOfD x).map fun kk => .bl (lookK ks kk).isSome
  | l => oIn l
def oNotInA : List D → Option D
  | [x, .dic ks] => (keyOfD x).map fun kk => .bl (!(lookK ks kk).isSome)
  | l => oNotIn l
def rInK (neg : Bool) : R2 := fun x y H Q => ∃ a o, y = .ref a ∧ DGet H a x o ∧ Q (.bl (if neg then !o.isSome else o.isSome)) H
section
variable {X : Cx}
theorem op_inK (hu : X.A.units + 65 < cLine) : OpR X (compareOp .In) (rInK false) := fun pins s σ H x y v u Q I r1 r2 h => by
  obtain ⟨a, o, rfl, g, q⟩ := h
  cases r2
  exact d_in (by omega) I g r1 fun s' I' => ⟨.bl o.isSome, H, I', rfl, q⟩
theorem op_notinK (hu : X.A.units + 65 < cLine) : OpR X (compareOp .NotIn) (rInK true) := fun pins s σ H x y v u Q I r1 r2 h => by
  obtain ⟨a, o, rfl, g, q⟩ := h
  cases r2
  exact d_notIn (by omega) I g r1 fun s' I' => ⟨.bl (!o.isSome), H, I', rfl, q⟩
end
section
variable {K : PySem.W.Frag}
theorem look_dk {H : Hp} {ks : List (Key × D)} {v : V} {kk : Key} (h : KD K H (.dic ks) v) : ∃ a o, v = .ref a ∧ DGet H a (kV kk) o ∧ o.isSome = (lookK ks kk).isSome := by
  obtain ⟨p, kvs, rfl, h1, h2, _⟩ := h.dic
  refine ⟨p, _, rfl, DGet.k h1, ?_⟩
  rw [valV_look]
  have key : ∀ {ks : List (Key × D)} {kvs : List (Key × V)}, kvs.map (·.1) = ks.map (·.1) → (lookK kvs kk).isSome = (lookK ks kk).isSome := by
    intro ks
    induction ks with
    | nil => intro kvs e; cases kvs with | nil => rfl | cons _ _ => simp at e
    | cons a ks ih =>
      intro kvs e
      cases kvs with
      | nil => simp at e
      | cons b kvs =>
        obtain ⟨a1, a2⟩ := a
        obtain ⟨b1, b2⟩ := b
        simp only [List.map_cons, List.cons.injEq] at e
        obtain ⟨rfl, e⟩ := e
        unfold lookK
        by_cases q : b1 = kk
        · simp [q]
        · simp [q]; exact ih e
  exact key h2
theorem s_inA : SOp K (fun vs H Q => ∃ x y, vs = [x, y] ∧ (rInK false x y H Q ∨ rInX K x y H Q)) oInA := by
  intro H ds vs d h e
  unfold oInA at e
  split at e
  · rename_i x ks
    cases q : keyOfD x with
    | none => rw [q] at e; cases e
    | some kk =>
      rw [q] at e; cases e
      obtain ⟨v, w, rfl, h1, h2⟩ := kds2 h
      obtain ⟨sx, ex⟩ := keyOfD_eq q
      obtain ⟨a, o, rfl, g, eo⟩ := look_dk (kk := kk) h2
      refine ⟨rfl, fun Q q' => ⟨v, _, rfl, .inl ⟨a, o, rfl, ?_, ?_⟩⟩⟩
      · rw [h1.isS sx, ex]; exact g
      · rw [if_neg Bool.false_ne_true, eo]; exact q'
  · obtain ⟨h1, h2⟩ := s_in H ds vs d h e
    exact ⟨h1, fun Q q => let ⟨x, y, e, r⟩ := h2 Q q; ⟨x, y, e, .inr r⟩⟩
theorem s_notinA : SOp K (fun vs H Q => ∃ x y, vs = [x, y] ∧ (rInK true x y H Q ∨ rNotInX K x y H Q)) oNotInA := by
  intro H ds vs d h e
  unfold oNotInA at e
  split at e
  · rename_i x ks
    cases q : keyOfD x with
    | none => rw [q] at e; cases e
    | some kk =>
      rw [q] at e; cases e
      obtain ⟨v, w, rfl, h1, h2⟩ := kds2 h
      obtain ⟨sx, ex⟩ := keyOfD_eq q
      obtain ⟨a, o, rfl, g, eo⟩ := look_dk (kk := kk) h2
      refine ⟨rfl, fun Q q' => ⟨v, _, rfl, .inl ⟨a, o, rfl, ?_, ?_⟩⟩⟩
      · rw [h1.isS sx, ex]; exact g
      · rw [if_pos rfl, eo]; exact q'
  · obtain ⟨h1, h2⟩ := s_notin H ds vs d h e
    exact ⟨h1, fun Q q => let ⟨x, y, e, r⟩ := h2 Q q; ⟨x, y, e, .inr r⟩⟩
end
section
variable {X : Cx} {W : Wish} {ea eb : Expr} {pos : Pos} {ma mb : M Ar} {k : Nat}
theorem v_inA (hr : Room k X.A) (ha : PE X ea (tA X.K W ma)) (hb : PE X eb (tA X.K W mb)) (hm : behindInMarks .In eb = false := by rfl) : PE X (.Compare ea [.In] [eb] pos) (tV X.K W (sop oInA (two ma mb))) := v_cmp2 (OpR.or (op_inK (by have := hr.un; omega)) (op_inX (by have := hr.un; omega))) s_inA ha hb hm
theorem v_notinA (hr : Room k X.A) (ha : PE X ea (tA X.K W ma)) (hb : PE X eb (tA X.K W mb)) (hm : behindInMarks .NotIn eb = false := by rfl) : PE X (.Compare ea [.NotIn] [eb] pos) (tV X.K W (sop oNotInA (two ma mb))) := v_cmp2 (OpR.or (op_notinK (by have := hr.un; omega)) (op_notInX (by have := hr.un; omega))) s_notinA ha hb hm
theorem t_inA (hr : Room k X.A) (ha : PE X ea (tA X.K W ma)) (hb : PE X eb (tA X.K W mb)) (hm : behindInMarks .In eb = false := by rfl) : PT X (.Compare ea [.In] [eb] pos) (tT X.K W (asB (sop oInA (two ma mb)))) := t_cmp2 (OpR.or (op_inK (by have := hr.un; omega)) (op_inX (by have := hr.un; omega))) s_inA ha hb hm
theorem t_notinA (hr : Room k X.A) (ha : PE X ea (tA X.K W ma)) (hb : PE X eb (tA X.K W mb)) (hm : behindInMarks .NotIn eb = false := by rfl) : PT X (.Compare ea [.NotIn] [eb] pos) (tT X.K W (asB (sop oNotInA (two ma mb)))) := t_cmp2 (OpR.or (op_notinK (by have := hr.un; omega)) (op_notInX (by have := hr.un; omega))) s_notinA ha hb hm
end

/-! ### d.get(k, x), d a name -/
def dgetN (i : Nat) (mk mf : M LD) : M LD := fun ρ => match ρ[i]? with
  | some (.c _ (.dic _)) => (mk.bind fun y => mf.bind fun z ρ => match ρ[i]? with
    | some (.c k (.dic ks)) => (match keyOfD y.2 with
      | some kk => (match lookK ks kk with
        | some d => if d.isS then .ok (9, d) ρ else .ok (0, d) (ρ.set i (.c (min k 1) (.dic ks)))
        | none => .ok z ρ)
      | none => .no)
    | _ => .no) ρ
  | _ => .no
section
variable {X : Cx} {W : Wish} {e f : Expr} {i k : Nat} {x : Str} {np apos cpos : Pos} {mk mf : M LD}
theorem v_dget2 (hr : Room k X.A) (hx : PE X (.Name x np) (tVar i)) (he : PE X e (tV X.K W mk)) (hf : PE X f (tV X.K W mf)) (m : M2 X (.Name x np) "get" apos e f cpos) : PE X (.Call (.Attribute (.Name x np) "get" apos) [e, f] [] cpos) (tV X.K W (dgetN i mk mf)) := by
  refine PE.imp (pe_dget2 (by have := hr.un; omega) hx he hf m) fun σ H Q ⟨ρ, T, rel, a⟩ => ?_
  unfold dgetN at a
  cases q : ρ[i]? with
  | none => rw [q] at a; exact a.elim
  | some c =>
    cases c with
    | u => rw [q] at a; exact a.elim
    | c k0 d0 =>
      cases d0 with
      | dic ks0 =>
        rw [q] at a
        obtain ⟨v0, hv0, kd0⟩ := rel.kd q
        obtain ⟨p0, kvs0, rfl, h10, _, _⟩ := kd0.dic
        refine ⟨.ref p0, hv0, p0, rfl, .inl ⟨kvs0, .inl h10⟩, ρ, T, rel, a.bind.imp fun y ρ1 q1 vy H1 r1 => ?_⟩
        refine ⟨ρ1, _, r1, (q1.bind.up).imp fun z ρ2 q2 vz H2 r2 => ?_⟩
        cases q3 : ρ2[i]? with
        | none => rw [q3] at q2; exact q2.elim
        | some c =>
          cases c with
          | u => rw [q3] at q2; exact q2.elim
          | c k1 d1 =>
            cases d1 with
            | dic ks =>
              rw [q3] at q2
              simp only at q2
              obtain ⟨v1, hv1, kd1⟩ := r2.kd q3
              rw [hv0] at hv1
              cases hv1
              obtain ⟨p, kvs, e1, h1, h2, kds⟩ := kd1.dic
              cases e1
              cases ek : keyOfD y.2 with
              | none => rw [ek] at q2; exact q2.elim
              | some kk =>
                rw [ek] at q2
                simp only at q2
                obtain ⟨sy, ey⟩ := keyOfD_eq ek
                have vy' : vy = kV kk := by
                  have ky : KD X.K H2 y.2 vy := r2.drop.top
                  rw [ky.isS sy, ey]
                cases el : lookK ks kk with
                | none =>
                  rw [el] at q2
                  refine ⟨none, ?_, ?_⟩
                  · have g := DGet.k (k := kk) h1
                    have en : valV kvs kk = none := by
                      rw [valV_look]
                      obtain ⟨a', o', e5, g5, e6⟩ := look_dk (kk := kk) kd1
                      cases e5
                      have : lookK kvs kk = none := by
                        cases hl : lookK kvs kk with
                        | none => rfl
                        | some w =>
                          exfalso
                          rcases g5 with ⟨kvs', k', rd', ek', eo'⟩ | ⟨kvs', k', b', rd', ek', _, _⟩
                          · rcases rd' with rd' | ⟨o5, rd'⟩
                            · rw [h1] at rd'
                              cases rd'
                              have : k' = kk := by
                                cases k' <;> cases kk <;> simp [kV] at ek' <;> simp [ek']
                              subst this
                              rw [eo', valV_look, hl, el] at e6
                              cases e6
                            · rw [h1] at rd'; cases rd'
                          · cases kk <;> simp [kV] at ek'
                      exact this
                    rw [en] at g
                    rw [vy']
                    exact g
                  · exact q2 vz H2 (r2.good fun L g => (g.perm (.swap _ _ _)).tail)
                | some d =>
                  rw [el] at q2
                  simp only at q2
                  obtain ⟨n, u, h3, h4, h5, _⟩ := lookK_at h2 el
                  have dg : DGet H2 p0 (kV kk) (some u) := by
                    have := DGet.k (k := kk) h1
                    rwa [valV_look, h3] at this
                  have fo : Fol H2 (.ref p0) [.ky kk] u := ⟨p0, kvs, u, rfl, h1, h3, rfl⟩
                  have su : subT (.dic ks) [.ky kk] = some d := by
                    show (lookK ks kk).bind (fun x => subT x []) = some d
                    rw [el]
                    rfl
                  refine ⟨some u, by rw [vy']; exact dg, ?_⟩
                  have r3 : Rel X.K H2 ρ2 σ T := r2.drop.drop
                  by_cases sd : d.isS = true
                  · rw [if_pos sd] at q2
                    obtain rfl := (KD.sub (d := .dic ks) (r := .ref p0) kd1 fo su).isS sd
                    exact q2 _ H2 (r3.scal sd)
                  · rw [if_neg sd] at q2
                    obtain ⟨L, c, g⟩ := r3.move2 q3 hv0
                    have g2 := Good.shareAt (L := T ++ L) g fo su
                    have r4 : Rel X.K H2 (ρ2.set i .u) σ ((min k1 1, .dic ks, .ref p0) :: (0, d, u) :: T) := ⟨L, c, g2.perm (.swap _ _ _)⟩
                    have r5 := r4.back (getElem?_set_u q3) hv0
                    rw [set_set_c] at r5
                    exact q2 u H2 r5
            | _ => rw [q3] at q2; exact q2.elim
      | _ => rw [q] at a; exact a.elim
end
end Vs
namespace Vs
open PySem PySem.Spec PyProof.Rows L2
/-! ### a call that could raise, where it does not -/
abbrev wNo : WX := fun _ _ _ _ => False
theorem tk_no {X : Cx} : Takes X wNo := fun _ _ ⟨_, _, _, _, _, _, _, _, _, _, _, _, _, _, _, _, w⟩ => w.elim
theorem v_safe {X : Cx} {e : Expr} {m : M LD} (h : PE X e (tV X.K (wishOf X.K X.mg wNo) m)) : PE X e (tV X.K W0 m) := PE.imp h fun σ H Q ⟨ρ, T, rel, a⟩ => ⟨ρ, T, rel, by
  cases q : m ρ with
  | no => rw [q] at a; exact a.elim
  | ok x ρ' => rw [q] at a; exact a
  | ex x ρ' => rw [q] at a; exact a.elim⟩
end Vs
set_option Elab.async false
set_option linter.all false
set_option maxRecDepth 100000
set_option maxHeartbeats 2000000
/-! Xe4: a try of two clauses, each with a name. -/
namespace Vs
open PySem PySem.Spec PyProof.Rows L2

/-- what the clauses with one name wish of an exception, one after the other; none is left over -/
def wAsM (K : PySem.W.Frag) (i : Nat) (D : Ends) : List (Value × (Addr → Value → Option Addr → TS)) → WX
  | [] => fun _ _ _ _ => False
  | (c, ts) :: r => fun cls d σ H => ∃ b, PySem.W.exmOne K cls c = some b ∧ (b = true → ∀ a, H a = none → ts a cls d { nx := fun σ' H' => D.nx (σ'.set i none) H', rt := D.rt, bk := fun σ' H' => D.bk (σ'.set i none) H', ct := fun σ' H' => D.ct (σ'.set i none) H' } (σ.set i (some (.ref a))) H) ∧ (b = false → wAsM K i D r cls d σ H)
inductive HdsAs (X : Cx) (n : Str) : List ExceptHandler → List (Value × (Addr → Value → Option Addr → TS)) → Prop
  | nil : HdsAs X n [] []
  | cons {x : Str} {c : Value} {ts : Addr → Value → Option Addr → TS} {b₀ : Stmt} {suite : List Stmt} {np pos' : Pos} {hds : List ExceptHandler} {l : List (Value × (Addr → Value → Option Addr → TS))} (hc : Names X x c)
      (hsu : ∀ (a : Addr) (oe : Obj) (cls : Value) (d : Option Addr) (pn : List (Addr × Obj)), Zc cls d oe → (∃ vs, oe.data = .fields vs) → PSs (X.suite a ((a, oe) :: pn)) (b₀ :: suite) (ts a cls d)) (r : HdsAs X n hds l) :
      HdsAs X n (.ExceptHandler (some (.Name x np)) (some n) (b₀ :: suite) pos' :: hds) ((c, ts) :: l)
section
variable {X : Cx} {n : Str} {i : Nat} {body : List Stmt} {h₀ : ExceptHandler} {hds : List ExceptHandler} {l : List (Value × (Addr → Value → Option Addr → TS))} {pos : Pos} {tb : WX → TS}
theorem ps_try_asM (hs : X.stack = X.env :: X.outer) (hf : X.env.frame = some X.env.locals) (hN : X.N.Nodup) (hi : X.N[i]? = some n) (hln : X.env.kindOf n = some .local)
    (hb : ∀ (W : WX) (pn : List (Addr × Obj)) (xe : Value → Shared → Prop), Takes (X.tr pn xe) W → PassesOwn (model X.prog X.w) X.A X.env xe → PSs (X.tr pn xe) body (tb W))
    (hh : HdsAs X n (h₀ :: hds) l) : PS X (.Try body (h₀ :: hds) [] [] pos) (fun D σ H => tb (wAsM X.K i D l) D σ H) := by
  refine ⟨fun pins s σ H D I h => ?_⟩
  have ok := I.ok
  have hfr : X.A.frames = some (X.env :: X.outer) := by rw [ok.frames, hs]
  have hloc : Loc X.env.scope n := .inl hln
  refine wpAny_Try_except ?_
  refine wpAny_mono ((hb (wAsM X.K i D l) (X.pn ++ pins) (fun e s₁ => wpAny (model X.prog X.w) X.A (noteFrame e X.env) (fun _ s₂ => wpAny (model X.prog X.w) X.A (setFlight e none) (fun _ s₃ =>
    wpAny (model X.prog X.w) X.A (handleBy e X.env (h₀ :: hds)) (SP X pins D) X.xe s₃) X.xe s₂) X.xe s₁) (fun u s' xx => ?_) PassesOwn.looking).run [] s σ H D (I.toTry _) h) (fun f s1 hsp => ?_) (fun e s1 he => he)
  · -- the catch
    obtain ⟨a, B, sI, pins', σ', H', cls, d, rfl, J', nb, up, sky, na, os, ag, w⟩ := xx
    have J : Inv X pins σ' H' sI := J'.ofTry ok
    have sky' : Sky B (X.env :: X.outer) a (Zc cls d) X.env.locals s'.heap := by rw [← hs]; exact sky
    show wpAny (model X.prog X.w) X.A (noteFrame (.ref a) X.env) _ _ _
    refine Sky.land Zc.steady hfr hf sky' fun h3 fl3 up3 => ?_
    have J3 : Inv X pins σ' H' { s' with heap := h3 } := J.landed nb fl3.1 (up.trans up3) os ag
    obtain ⟨oe3, vs3, he3, hz3, hd3⟩ := fl3.there
    have notFr : ∀ {h : Heap} {o : Obj} {vs : Array Value}, h.FunFrames B (X.env :: X.outer) → h.get? a = some o → o.data = .fields vs → a ∉ frs (X.env :: X.outer) := fun {h o vs} ff e dd hm => by
      obtain ⟨_, o', e', hnf⟩ := ff.mem hm
      rw [e] at e'; cases e'
      exact hnf _ dd
    have nfr := notFr fl3.2.2.1 he3 hd3
    have nL : a ≠ X.env.locals := fun z => nfr (List.mem_filterMap.mpr ⟨X.env, List.mem_cons_self, by rw [hf, z]⟩)
    have nF : a ∉ X.fs := fun hm => by
      obtain ⟨e, he, q⟩ := List.mem_filterMap.mp hm
      exact nfr (List.mem_filterMap.mpr ⟨e, List.mem_cons_of_mem _ he, q⟩)
    have S3 := J3.suite he3 hd3 na nL nF
    have go : ∀ {hds' : List ExceptHandler} {l' : List (Value × (Addr → Value → Option Addr → TS))}, HdsAs X n hds' l' → wAsM X.K i D l' cls d σ' H' →
        wpAny (model X.prog X.w) X.A (handleBy (.ref a) X.env hds') (SP X pins D) X.xe { s' with heap := h3 } := by
      intro hds' l' hk
      induction hk with
      | nil => intro w; exact w.elim
      | @cons x c ts b₀ suite np pos' hds2 l2 hc hsu r ih =>
        intro w
        obtain ⟨b, hb1, hyes, hno⟩ := w
        refine wpAny_handleBy_cons (codeAny_handlers_test ?_) (by intro q; cases q)
        have LT : PySem.W.Looks (model X.prog X.w) h3 (typeOf (.ref a)) cls := fun A Q E s k q => wpAny_typeOf_ref (k _ _ he3) (by rw [hz3.1]; exact q)
        have LM := PySem.W.exm_one (M := model X.prog X.w) (J3.kIn) LT hb1
        have test : ∀ {Q : Value → Shared → Prop} {E : Value → Shared → Prop}, Q c { s' with heap := h3 } → wpAny (model X.prog X.w) (X.A.mark (some (.ref a))) (eval (.Name x np) X.env) Q E { s' with heap := h3 } := fun {Q E} q => by
          obtain ⟨hg, hdbg, hm | ⟨hm, hv, hnn⟩⟩ := hc
          · exact ld_glob (X := X.suite a ((a, oe3) :: (X.pn ++ pins))) S3 hg hm q hdbg
          · exact ld_blt (X := X.suite a ((a, oe3) :: (X.pn ++ pins))) S3 hg hm hv q hnn hdbg
        refine test (LM.here ?_)
        cases b with
        | true =>
          refine codeAny_handlers_suite_as ?_
          refine HandSPX.lands_againZ fl3 fun h4 fl4 up4 => ?_
          have J4 : Inv X pins σ' H' { s' with heap := h4 } := J.landed nb fl4.1 ((up.trans up3).trans up4) os ag
          obtain ⟨oe4, vs4, he4, hz4, hd4⟩ := fl4.there
          have S4 := J4.suite he4 hd4 na nL nF
          refine store_ok (X := X.suite a ((a, oe4) :: (X.pn ++ pins))) (v := .ref a) S4 hN hi hloc rfl (fun s5 S5 => ?_) (.inr hln)
          refine wpAny_mono ((hsu a oe4 cls d (X.pn ++ pins) hz4 ⟨_, hd4⟩).run [] s5 _ H' _ S5 (hyes rfl a na)) (fun f s6 hsp => ?_) (fun _ _ z => False.elim z)
          have end_ : ∀ {σ6 : L2.St} {H6 : Hp} {Q : Shared → Prop}, Inv (X.suite a ((a, oe4) :: (X.pn ++ pins))) [] σ6 H6 s6 → (∀ s7, Inv X pins (σ6.set i none) H6 s7 → Q s7) →
              wpAny (model X.prog X.w) X.A (do bindName X.env n .none; unbindBehindTheSuite X.env n pos') (fun _ s7 => Q s7) X.xe s6 := fun {σ6 H6 Q} S6 hq => gone_ok (S6.unsuite ok) hN hi hln hq
          cases f with
          | next =>
            obtain ⟨σ6, H6, S6, q6⟩ := hsp
            exact end_ S6 fun s7 J7 => ⟨_, _, J7, q6⟩
          | brk =>
            obtain ⟨σ6, H6, S6, q6⟩ := hsp
            exact end_ S6 fun s7 J7 => ⟨_, _, J7, q6⟩
          | cont =>
            obtain ⟨σ6, H6, S6, q6⟩ := hsp
            exact end_ S6 fun s7 J7 => ⟨_, _, J7, q6⟩
          | ret u =>
            obtain ⟨v6, σ6, H6, S6, r6, q6⟩ := hsp
            exact end_ S6 fun s7 J7 => ⟨_, _, _, J7, r6, q6⟩
        | false =>
          show wpAny _ X.A (handleBy (.ref a) X.env hds2) _ _ _
          exact ih (hno rfl)
    exact go hh w
  · cases f with
    | next =>
      obtain ⟨σ', H', J', q⟩ := hsp
      exact wpAny_execs_nil ⟨σ', H', J'.ofTry ok, q⟩
    | brk =>
      obtain ⟨σ', H', J', q⟩ := hsp
      exact ⟨σ', H', J'.ofTry ok, q⟩
    | cont =>
      obtain ⟨σ', H', J', q⟩ := hsp
      exact ⟨σ', H', J'.ofTry ok, q⟩
    | ret u =>
      obtain ⟨v, σ', H', J', r, q⟩ := hsp
      exact ⟨v, σ', H', J'.ofTry ok, r, q⟩
end

def hdOr {α : Type} (f g : Xn → Option α) (x : Xn) : Option α := (f x).or (g x)
section
variable {X : Cx} {W : Wish} {P : Sg → Prop} {c1 c2 n : Str} {C1 C2 S1 S2 : Addr} {i : Nat} {body suite1 suite2 : List Stmt} {b1 b2 : Stmt} {np1 np2 pos pos1 pos2 : Pos} {mb : M Out} {hdA hdB : Xn → Option D}
theorem s_try2 (hP : ∀ σ, P σ) (hs : X.stack = X.env :: X.outer) (hf : X.env.frame = some X.env.locals) (hN : X.N.Nodup) (hi : X.N[i]? = some n) (hln : X.env.kindOf n = some .local) (T1 : EHd X.K X.mg c1 C1 S1) (hgl1 : Gl X c1) (T2 : EHd X.K X.mg c2 C2 S2) (hgl2 : Gl X c2)
    (hne : ∀ A1 A2, X.mg c1 = some (.ref A1) → X.mg c2 = some (.ref A2) → PySem.W.exmOne X.K (.ref A2) (.ref A1) = some false)
    (hb : ∀ (Wx : WX) (pn : List (Addr × Obj)) (xe : Value → Shared → Prop), Takes (X.tr pn xe) Wx → PassesOwn (model X.prog X.w) X.A X.env xe → PSs (X.tr pn xe) body (tS X.K (wishOf X.K X.mg Wx) P mb))
    (hsu1 : ∀ (a : Addr) (oe : Obj) (cls : Value) (d : Option Addr) (pn : List (Addr × Obj)), Zc cls d oe → (∃ vs, oe.data = .fields vs) → PSs (X.suite a ((a, oe) :: pn)) (b1 :: suite1) (tSu X.K X.mg i hdA a cls d))
    (hsu2 : ∀ (a : Addr) (oe : Obj) (cls : Value) (d : Option Addr) (pn : List (Addr × Obj)), Zc cls d oe → (∃ vs, oe.data = .fields vs) → PSs (X.suite a ((a, oe) :: pn)) (b2 :: suite2) (tSu X.K X.mg i hdB a cls d))
    (hx1 : ∀ x d, hdA x = some d → x.cls = c1) (hx2 : ∀ x d, hdB x = some d → x.cls = c2) (hdb1 : (c1 == ("__debug__" : Str)) = false := by decide) (hdb2 : (c2 == ("__debug__" : Str)) = false := by decide) :
    PS X (.Try body [.ExceptHandler (some (.Name c1 np1)) (some n) (b1 :: suite1) pos1, .ExceptHandler (some (.Name c2 np2)) (some n) (b2 :: suite2) pos2] [] [] pos) (tS X.K W P (sTry i mb (hdOr hdA hdB))) := by
  refine PS.imp (ps_try_asM (tb := fun Wx => tS X.K (wishOf X.K X.mg Wx) P mb) hs hf hN hi hln hb
    (.cons (ts := tSu X.K X.mg i hdA) ⟨hgl1, hdb1, .inl T1.gC⟩ hsu1 (.cons (ts := tSu X.K X.mg i hdB) ⟨hgl2, hdb2, .inl T2.gC⟩ hsu2 .nil))) fun D σ H ⟨ρ, S', r, p, a⟩ => ⟨ρ, S', r, p, ?_⟩
  unfold sTry at a
  cases e : mb ρ with
  | no => rw [e] at a; exact a.elim
  | ex x ρ' => rw [e] at a; exact a.elim
  | ok o ρ' =>
    rw [e] at a
    cases o with
    | nx => exact a
    | bk => exact a
    | ct => exact a
    | rt z => exact a
    | xn x =>
      simp only at a
      cases q : hdOr hdA hdB x with
      | none => rw [q] at a; exact a.elim
      | some dd =>
        rw [q] at a
        simp only at a
        by_cases hl : i < ρ'.length
        · rw [if_pos hl] at a
          intro cls d σ1 H1 vs r1 b1
          have hl2 : i < σ1.length := by
            obtain ⟨L, cc, _⟩ := r1
            rw [← cc.len]; exact hl
          unfold hdOr at q
          cases qa : hdA x with
          | some dd' =>
            rw [qa] at q
            cases q
            have hc1 := hx1 _ _ qa
            obtain ⟨⟨C', hC', rfl⟩, b2⟩ := id b1
            rw [hc1, T1.gC] at hC'
            cases hC'
            exact ⟨true, T1.ex, fun _ a0 na => ⟨x, vs, _, S', r1.put (some (.ref a0)) hl, b1, by rw [List.getElem?_set_self hl2], dd, qa, fun v H' r' => a v _ H' r' (hP _)⟩, fun z => nomatch z⟩
          | none =>
            rw [qa] at q
            have q2 : hdB x = some dd := q
            have hc2 := hx2 _ _ q2
            obtain ⟨⟨C', hC', rfl⟩, b2⟩ := id b1
            rw [hc2, T2.gC] at hC'
            cases hC'
            refine ⟨false, hne _ _ T1.gC T2.gC, fun z => (nomatch z), fun _ => ?_⟩
            exact ⟨true, T2.ex, fun _ a0 na => ⟨x, vs, _, S', r1.put (some (.ref a0)) hl, b1, by rw [List.getElem?_set_self hl2], dd, q2, fun v H' r' => a v _ H' r' (hP _)⟩, fun z => nomatch z⟩
        · rw [if_neg hl] at a; exact a.elim
end
end Vs
set_option Elab.async false
set_option linter.all false
set_option maxRecDepth 100000
set_option maxHeartbeats 2000000
/-! Vs31: y = x['k'], where what stands at the key is changed by the name y in the next statement and then stands in x again. -/
namespace Vs
open PySem PySem.Spec PyProof.Rows L2

section
variable {κ α : Type} [DecidableEq κ]
theorem setK_cons {key j : κ} {a b : α} {r : List (κ × α)} : setK ((j, b) :: r) key a = if j = key then (j, a) :: r else (j, b) :: setK r key a := by rw [setK]
theorem lookK_cons {key j : κ} {b : α} {r : List (κ × α)} : lookK ((j, b) :: r) key = if j = key then some b else lookK r key := by rw [lookK]
theorem setK_nil {key : κ} {a : α} : setK ([] : List (κ × α)) key a = [(key, a)] := by rw [setK]
theorem look_set {key : κ} {a : α} : ∀ ks : List (κ × α), lookK (setK ks key a) key = some a
  | [] => by rw [setK_nil, lookK_cons, if_pos rfl]
  | (j, b) :: r => by
    rw [setK_cons]
    by_cases h : j = key
    · rw [if_pos h, lookK_cons, if_pos h]
    · rw [if_neg h, lookK_cons, if_neg h]; exact look_set r
theorem set_set_K {key : κ} {a b : α} : ∀ ks : List (κ × α), setK (setK ks key a) key b = setK ks key b
  | [] => by rw [setK_nil, setK_cons, if_pos rfl, setK_nil]
  | (j, c) :: r => by
    rw [setK_cons, setK_cons]
    by_cases h : j = key
    · rw [if_pos h, if_pos h, setK_cons, if_pos h]
    · rw [if_neg h, if_neg h, setK_cons, if_neg h, set_set_K r]
end
section
variable {K : PySem.W.Frag} {H : Hp} {L : List Item} {Rs : List Addr} {k : Nat} {ks : List (Key × D)} {ds : List D} {v : V} {key : Key} {g : Addr}
theorem its_atP {n : Nat} {xs : List D} {ws : List V} {w : V} (hl : xs.length = ws.length) (hn : n < xs.length) (hw : ws[n]? = some w) (y : D) : ((k, y, w) :: its k (xs.eraseIdx n) (ws.eraseIdx n)).Perm (its k (xs.set n y) ws) := by
  have e : ws.set n w = ws := by
    obtain ⟨h, rfl⟩ := List.getElem?_eq_some_iff.mp hw
    exact List.set_getElem_self h
  have := its_set (k := k) (y := y) (u := w) hl hn
  rwa [e] at this
theorem set_self {n : Nat} {xs : List D} {d : D} (h : xs[n]? = some d) : xs.set n d = xs := by
  obtain ⟨h2, rfl⟩ := List.getElem?_eq_some_iff.mp h
  exact List.set_getElem_self h2
theorem Good.pin {k : Nat} {a : Addr} (h : Good K Rs H L) : Good K Rs H ((k, .pin a, .ref a) :: L) := let ⟨F, G, r, x⟩ := h; ⟨F, G, .pin r, x⟩
theorem Good.pin_inv {k : Nat} {a : Addr} (h : Good K Rs H ((k, .pin a, v) :: L)) : v = .ref a := by
  obtain ⟨F, G, r, x⟩ := h
  cases r
  rfl
theorem Good.takeK (h : Good K Rs H ((k + 1, .dic ks, v) :: L)) (e : lookK ks key = some (.lst ds)) :
    ∃ p g kvs, v = .ref p ∧ H p = some (.dK kvs) ∧ lookK kvs key = some (.ref g) ∧ Good K Rs H ((k, .lst ds, .ref g) :: (k + 1, .dic (setK ks key (.pin g)), .ref p) :: L) := by
  obtain ⟨p, kvs, rfl, h1, h2, g0⟩ := h.dicO_inv
  obtain ⟨n, b, h3, h4, h5, h6, _, _⟩ := lookK_at h2 e
  have hl : (ks.map (·.2)).length = (kvs.map (·.2)).length := by
    have := congrArg List.length h2
    simpa using this.symm
  have hn : n < (ks.map (·.2)).length := (List.getElem?_eq_some_iff.mp h4).1
  have p1 := its_atP (k := k) hl hn h5 (.lst ds)
  rw [set_self h4] at p1
  have g1 : Good K (p :: Rs) H ((k, .lst ds, b) :: (its k ((ks.map (·.2)).eraseIdx n) ((kvs.map (·.2)).eraseIdx n) ++ L)) := g0.perm (p1.symm.append_right L)
  obtain ⟨q, vs, rfl, _⟩ := g1.lst_inv
  refine ⟨p, q, kvs, rfl, h1, h3, ?_⟩
  have p2 := its_atP (k := k) hl hn h5 (.pin q)
  rw [← (h6 (.pin q)).1] at p2
  have g2 : Good K (p :: Rs) H (its k ((setK ks key (.pin q)).map (·.2)) (kvs.map (·.2)) ++ ((k, .lst ds, .ref q) :: L)) := (g1.pin (k := k) (a := q)).perm (by
    refine List.Perm.trans ?_ (p2.append_right _)
    exact (List.perm_middle (a := (k, D.lst ds, V.ref q)) (l₁ := its k ((ks.map (·.2)).eraseIdx n) ((kvs.map (·.2)).eraseIdx n)) (l₂ := L)).symm.cons _)
  have g3 := Good.dicO (k := k) h1 (by rw [h2, (h6 (.pin q)).2]) g2
  exact g3.perm (.swap _ _ _)
theorem Good.giveK (h : Good K Rs H ((k, .lst ds, .ref g) :: (k + 1, .dic ks, v) :: L)) (e : lookK ks key = some (.pin g)) : Good K Rs H ((k + 1, .dic (setK ks key (.lst ds)), v) :: L) := by
  obtain ⟨p, kvs, rfl, h1, h2, g0⟩ := (h.perm (.swap _ _ _)).dicO_inv
  obtain ⟨n, b, h3, h4, h5, h6, _, _⟩ := lookK_at h2 e
  have hl : (ks.map (·.2)).length = (kvs.map (·.2)).length := by
    have := congrArg List.length h2
    simpa using this.symm
  have hn : n < (ks.map (·.2)).length := (List.getElem?_eq_some_iff.mp h4).1
  have p1 := its_atP (k := k) hl hn h5 (.pin g)
  rw [set_self h4] at p1
  have g1 : Good K (p :: Rs) H ((k, .pin g, b) :: (its k ((ks.map (·.2)).eraseIdx n) ((kvs.map (·.2)).eraseIdx n) ++ ((k, .lst ds, .ref g) :: L))) := g0.perm (p1.symm.append_right _)
  obtain rfl := g1.pin_inv
  have p2 := its_atP (k := k) hl hn h5 (.lst ds)
  rw [← (h6 (.lst ds)).1] at p2
  have g2 : Good K (p :: Rs) H (its k ((setK ks key (.lst ds)).map (·.2)) (kvs.map (·.2)) ++ L) := g1.tail.perm (by
    refine List.Perm.trans ?_ (p2.append_right _)
    exact List.perm_middle)
  exact Good.dicO (k := k) h1 (by rw [h2, (h6 (.lst ds)).2]) g2
end
def takeP (i j : Nat) (key : Key) (ρ : Rho) : Option (Nat × List (Key × D) × List D) := match ρ[i]? with
  | some (.c (k + 1) (.dic ks)) => match lookK ks key with
    | some (.lst ds) => if j < ρ.length ∧ i ≠ j then some (k, ks, ds) else none
    | _ => none
  | _ => none
def giveP (i j : Nat) (key : Key) (k : Nat) (ks : List (Key × D)) (ρ : Rho) : Option Rho := match ρ[i]?, ρ[j]? with
  | some .u, some (.c k2 (.lst ds)) => if k2 = k ∧ i ≠ j then some ((ρ.set j .u).set i (.c (k + 1) (.dic (setK ks key (.lst ds))))) else none
  | _, _ => none
def sAl (i j : Nat) (key : Key) (m2 mr : M Out) : M Out := fun ρ => match takeP i j key ρ with
  | some (k, ks, ds) => (match m2 ((ρ.set i .u).set j (.c k (.lst ds))) with
    | .ok .nx ρ2 => (match giveP i j key k ks ρ2 with
      | some ρ3 => mr ρ3
      | none => .no)
    | .ok (.rt z) ρ2 => (match giveP i j key k ks ρ2 with
      | some ρ3 => .ok (.rt z) ρ3
      | none => .no)
    | _ => .no)
  | none => .no
theorem Rel.giveP {K : PySem.W.Frag} {H : Hp} {ρ ρ3 : Rho} {σ : Sg} {A T : List Item} {i j k : Nat} {key : Key} {ks : List (Key × D)} {p g : Addr} (h : Rel K H ρ σ (A ++ (k + 1, .dic (setK ks key (.pin g)), .ref p) :: T)) (hi : σ[i]? = some (some (.ref p))) (hj : σ[j]? = some (some (.ref g))) (e : giveP i j key k ks ρ = some ρ3) : Rel K H ρ3 σ (A ++ T) := by
  unfold Vs.giveP at e
  split at e
  · rename_i k2 ds ei ej
    split at e
    · rename_i hc
      obtain ⟨rfl, hne⟩ := hc
      cases e
      obtain ⟨v, hv, r⟩ := h.move ej
      rw [hj] at hv
      cases hv
      have r2 : Rel K H (ρ.set j .u) σ ((k2 + 1, .dic (setK ks key (.lst ds)), .ref p) :: (A ++ T)) := r.good fun L gd => by
        have g1 : Good K [] H ((k2, .lst ds, .ref g) :: (k2 + 1, .dic (setK ks key (.pin g)), .ref p) :: (A ++ (T ++ L))) := gd.perm (by
          refine List.Perm.cons _ ?_
          show ((A ++ _ :: T) ++ L).Perm _
          rw [List.append_assoc]
          exact List.perm_middle)
        have g2 := g1.giveK (key := key) (look_set ks)
        rw [set_set_K] at g2
        rw [List.cons_append, List.append_assoc]
        exact g2
      refine r2.back ?_ hi
      rw [List.getElem?_set_ne (by rintro rfl; exact hne rfl)]
      exact ei
    · cases e
  · cases e
section
variable {X : Cx} {W : Wish} {s2 : Stmt} {rest : List Stmt} {i j : Nat} {key : Str} {pn y : Str} {p1 p2 pos pos' ps : Pos} {m2 mr : M Out} {k jj : Nat} {σ0 : Sg}
theorem s_alias (hr : Room k X.A) (hN : X.N.Nodup) (hj : X.N[j]? = some y) (hy : Loc X.env.scope y) (hv : PE X (.Name pn p1) (tVar i)) (hk : PE X (.Constant (.str key) jj p2) (tC (.str key)))
    (h2 : ∀ σ1, PS X s2 (tS X.K W (Pin [i, j] σ1) m2)) (h3 : PSs X rest (tS X.K W (Pin [i] σ0) mr))
    (hpl : PlainIx (.Constant (.str key) jj p2) := by exact fun _ _ => rfl) (hs : swapsWith (.Subscript (.Name pn p1) (.Constant (.str key) jj p2) ps) (some (.Name y pos')) pos.line X.env = pure false := by rfl)
    (hf : X.fn y = true ∨ X.env.scope.names.lookup y = some .local := by first | exact .inl rfl | exact .inr rfl | assumption) :
    PSs X (.Assign [.Name y pos'] (.Subscript (.Name pn p1) (.Constant (.str key) jj p2) ps) pos :: s2 :: rest) (tS X.K W (Pin [i] σ0) (sAl i j (.inr key) m2 mr)) := by
  refine ⟨fun pins s σ H D I hq => ?_⟩
  obtain ⟨ρ, T, r, hp, a⟩ := hq
  unfold sAl at a
  cases et : takeP i j (.inr key) ρ with
  | none => rw [et] at a; exact a.elim
  | some t =>
    obtain ⟨kk, ks, ds⟩ := t
    rw [et] at a
    dsimp only at a
    unfold takeP at et
    split at et
    · rename_i k0 ks0 ei
      split at et
      · rename_i ds0 el
        split at et
        · rename_i hc
          obtain ⟨hjl, hne⟩ := hc
          cases et
          obtain ⟨v, hσi, r1⟩ := r.move ei
          obtain ⟨L, c, gd⟩ := r1
          obtain ⟨p, g, kvs, rfl, h1, h3', g1⟩ := Good.takeK (L := T ++ L) gd el
          have r2 : Rel X.K H (ρ.set i .u) σ ((kk, .lst ds, .ref g) :: (kk + 1, .dic (setK ks (.inr key) (.pin g)), .ref p) :: T) := ⟨L, c, g1⟩
          have r3 := r2.store (i := j) (by simpa using hjl)
          have hjσ : j < σ.length := by
            rw [← c.len]
            simpa using hjl
          refine (pss_cons (ps_set hN hj hy (pe_ix (ix_sub (hu_of hr)) hv hk hpl) hs hf) (pss_cons (h2 (σ.set j (some (.ref g)))) h3)).run pins s σ H D I ?_
          refine ⟨.ref p, hσi, .inr ⟨p, .ref g, rfl, ?_, ?_⟩⟩
          · have := DGet.k (k := (Sum.inr key : Key)) h1
            rwa [valV_look, h3'] at this
          · have pb : ∀ {σ' : Sg}, Pin [i, j] (σ.set j (some (.ref g))) σ' → σ'[i]? = some (some (.ref p)) ∧ σ'[j]? = some (some (.ref g)) ∧ Pin [i] σ0 σ' := fun {σ'} hp' => by
              have e1 := hp' i (by simp)
              have e2 := hp' j (by simp)
              rw [List.getElem?_set_ne (fun z => hne z.symm)] at e1
              rw [List.getElem?_set_self hjσ] at e2
              refine ⟨e1.trans hσi, e2, fun x hx => ?_⟩
              have : x = i := by simpa using hx
              subst this
              exact e1.trans (hp x (by simp))
            refine ⟨_, _, r3, fun _ _ => rfl, ?_⟩
            cases em : m2 ((ρ.set i .u).set j (.c kk (.lst ds))) with
            | no => rw [em] at a; exact a.elim
            | ex x ρ' => rw [em] at a; exact a.elim
            | ok o ρ2 =>
              rw [em] at a
              cases o with
              | nx =>
                dsimp only at a
                intro σ' H' r' p'
                obtain ⟨q1, q2, q3⟩ := pb p'
                cases eg : giveP i j (.inr key) kk ks ρ2 with
                | none => rw [eg] at a; exact a.elim
                | some ρ3 =>
                  rw [eg] at a
                  exact ⟨ρ3, T, Rel.giveP (A := []) r' q1 q2 eg, q3, a⟩
              | rt z =>
                dsimp only at a
                intro v' σ' H' r' p'
                obtain ⟨q1, q2, q3⟩ := pb p'
                cases eg : giveP i j (.inr key) kk ks ρ2 with
                | none => rw [eg] at a; exact a.elim
                | some ρ3 =>
                  rw [eg] at a
                  exact a v' σ' H' (Rel.giveP (A := [(z.1, z.2, v')]) r' q1 q2 eg) q3
              | bk => exact a.elim
              | ct => exact a.elim
              | xn x => exact a.elim
        · cases et
      · cases et
    · cases et
end
/-! ### x.insert(0, e) -/
def rInsert : V → List V → Hp → VK → Prop := fun x vs H Q => ∃ (l : Addr) (xs : List V) (i : Int) (y : V), x = .ref l ∧ vs = [.int i, y] ∧ H l = some (.lst xs) ∧ xs.length < sizeLine ∧ 0 ≤ i ∧ i < 2 ^ 63 ∧ Q .non (upd H l (.lst (xs.take i.toNat ++ [y] ++ xs.drop i.toNat)))
theorem mt_insertR {X : Cx} : MtR X "list.insert" rInsert := mt_insert
def moIns : MO := fun k d xs => match k, d, xs with
  | k + 1, .lst ds, [(_, .int 0), x] => if ds.length < lineN then some ((9, .non), min k x.1 + 1, .lst (x.2 :: ds)) else none
  | _, _, _ => none
theorem m_ins {K : PySem.W.Frag} : MutOp K rInsert moIns := by
  intro Rs H L k d xs v vs z k' d' g hl e
  unfold moIns at e
  split at e
  · rename_i k ds a x
    by_cases hz : ds.length < lineN
    · rw [if_pos hz] at e
      cases e
      match vs, hl with
      | [w0, w], _ =>
        have g0 : Good K Rs H ((k + 1, .lst ds, v) :: (a, .int 0, w0) :: (x.1, x.2, w) :: L) := g
        have e0 : w0 = .int 0 := (g0.kd_mem (k := a) (d := .int 0) (v := w0) (by simp)).int
        subst e0
        obtain ⟨p, ws, rfl, h1, h2, g2⟩ := g0.own_inv
        have g3 : Good K (p :: Rs) H (its k ds ws ++ (its x.1 [x.2] [w] ++ L)) := (g2.perm (show ((its k ds ws ++ ((a, .int 0, V.int 0) :: (x.1, x.2, w) :: L))).Perm ((a, .int 0, V.int 0) :: (its k ds ws ++ ((x.1, x.2, w) :: L))) from List.perm_middle)).tail
        have g4 := its_both h2 (Nat.min_le_left k x.1) (Nat.min_le_right k x.1) g3
        have g5 : Good K (p :: Rs) H (its (min k x.1) (x.2 :: ds) (w :: ws) ++ L) := g4.perm (by
          rw [its_append h2]
          refine List.Perm.append_right L ?_
          show (its (min k x.1) ds ws ++ [(min k x.1, x.2, w)]).Perm ((min k x.1, x.2, w) :: its (min k x.1) ds ws)
          exact List.perm_append_comm)
        refine ⟨.non, p, .lst (w :: ws), rfl, nodup_res g2, ?_, fun Q q => ⟨p, ws, 0, w, rfl, rfl, h1, by rw [lineE, ← h2]; exact hz, by decide, by decide, q⟩⟩
        exact ((Good.own upd_same (by simp [h2]) (g5.wr (by rw [h1]; exact True.intro))).non (k := 9)).perm (.swap _ _ _)
    · rw [if_neg hz] at e; cases e
  · cases e
end Vs
set_option Elab.async false
set_option linter.all false
set_option maxRecDepth 100000
set_option maxHeartbeats 2000000
/-! Vs32: x[e] as a place, e any expression. -/
namespace Vs
open PySem PySem.Spec PyProof.Rows L2
def plXV (j : Nat) (me : M LD) : M Place := fun ρ => match ρ[j]? with
  | some (.c _ _) => (me.bind fun y ρ1 => match y.2, ρ1[j]? with
    | .int z, some (.c _ (.lst ds)) => (match ixN ds.length z with
      | some n => .ok (j, [.ix n]) ρ1
      | none => .no)
    | _, _ => .no) ρ
  | _ => .no
section
variable {X : Cx} {W : Wish} {eb : Expr} {x : Str} {p1 pos : Pos} {me : M LD} {j k : Nat}
theorem l_itemV (hr : Room k X.A) (hn : PE X (.Name x p1) (tVar j)) (hb : PE X eb (tV X.K W me)) (hs : PlainIx eb) : PE X (.Subscript (.Name x p1) eb pos) (tPl X.K W (plXV j me)) := by
  refine PE.imp (pe_ix (ix_sub (hu_of hr)) hn hb hs) fun σ H Q ⟨ρ, T, rel, a⟩ => ?_
  unfold plXV at a
  cases ec : ρ[j]? with
  | none => simp only [ec] at a; exact a.elim
  | some c =>
    cases c with
    | u => simp only [ec] at a; exact a.elim
    | c k0 d0 =>
      simp only [ec] at a
      obtain ⟨v, hv, _⟩ := rel.kd ec
      refine ⟨v, hv, ρ, T, rel, a.bind.imp fun y ρ1 q1 w H1 r1 => ?_⟩
      obtain ⟨ky, dy⟩ := y
      cases dy with
      | int z =>
        obtain rfl := r1.top.int
        cases e1 : ρ1[j]? with
        | none => simp only [e1] at q1; exact q1.elim
        | some c =>
          cases c with
          | u => simp only [e1] at q1; exact q1.elim
          | c k1 d1 =>
            cases d1 with
            | lst ds =>
              simp only [e1] at q1
              cases en : ixN ds.length z with
              | none => rw [en] at q1; exact q1.elim
              | some n =>
                rw [en] at q1
                obtain ⟨v', hv', kd⟩ := r1.drop.kd e1
                rw [hv] at hv'
                cases hv'
                obtain ⟨i1, i2, i3, i4⟩ := ixN_seq en
                obtain ⟨p, ws, rfl, h1, kds⟩ := kd.lst
                obtain ⟨u, h2, _⟩ := kds.at (List.getElem?_eq_getElem i2)
                exact .inl (.inl ⟨p, ws, z, u, rfl, rfl, SqL.of h1, by unfold atI; rw [← kds.length, en]; exact h2, q1 u H1 r1.drop ⟨.ref p, hv, p, ws, u, rfl, h1, h2, rfl⟩⟩)
            | _ => simp only [e1] at q1; exact q1.elim
      | _ => exact q1.elim
end
end Vs
set_option Elab.async false
set_option linter.all false
set_option maxRecDepth 100000
set_option maxHeartbeats 400000
/-! Ts0: the typed side: what is known of the cells (CA, Sat), values by encoders, what an expression's term gives (Ev). -/
namespace Ts
open PySem PySem.Spec PyProof.Rows L2 Vs

/-! ### encoders -/
abbrev eI : Int → D := D.int
abbrev eB : Bool → D := D.bl
abbrev eS : Str → D := D.str
def eN : Unit → D := fun _ => .non
def eD : D → D := fun d => d
def eT {α : Type} (e : α → D) (xs : List α) : D := .tup (xs.map e)
def eL {α : Type} (e : α → D) (xs : List α) : D := .lst (xs.map e)
def eR {α : Type} (e : α → D) (xs : List α) : D := .rol (xs.map e)
def eP {α β : Type} (e : α → D) (f : β → D) (p : α × β) : D := .tup [e p.1, f p.2]
def eP3 {α β γ : Type} (e : α → D) (f : β → D) (g : γ → D) (p : α × β × γ) : D := .tup [e p.1, f p.2.1, g p.2.2]
def eP4 {α β γ δ : Type} (e : α → D) (f : β → D) (g : γ → D) (h : δ → D) (p : α × β × γ × δ) : D := .tup [e p.1, f p.2.1, g p.2.2.1, h p.2.2.2]
def eO {α : Type} (e : α → D) : Option α → D
  | none => .non
  | some x => e x
/-- an encoder of values that are no nodes -/
structure Flat {α : Type} (e : α → D) : Prop where
  s : ∀ x, (e x).isS = true
theorem fl_I : Flat eI := ⟨fun _ => rfl⟩
theorem fl_B : Flat eB := ⟨fun _ => rfl⟩
theorem fl_S : Flat eS := ⟨fun _ => rfl⟩
/-- one of nodes -/
structure Node {α : Type} (e : α → D) : Prop where
  s : ∀ x, (e x).isS = false
theorem nd_T {α : Type} {e : α → D} : Node (eT e) := ⟨fun _ => rfl⟩
theorem nd_L {α : Type} {e : α → D} : Node (eL e) := ⟨fun _ => rfl⟩
theorem nd_P {α β : Type} {e : α → D} {f : β → D} : Node (eP e f) := ⟨fun _ => rfl⟩

/-! ### cells -/
/-- no value, or one that is no node -/
def flatC : Cell → Bool
  | .u => true
  | .c _ d => d.isS
inductive CA where
  | u | a | f
  | v (k : Nat) (d : D)
inductive Sat : List CA → Rho → Prop where
  | nil : Sat [] []
  | u {Γ ρ} : Sat Γ ρ → Sat (.u :: Γ) (.u :: ρ)
  | a {Γ ρ c} : Sat Γ ρ → Sat (.a :: Γ) (c :: ρ)
  | f {Γ ρ c} : flatC c = true → Sat Γ ρ → Sat (.f :: Γ) (c :: ρ)
  | v {Γ ρ k k' d} : k ≤ k' → Sat Γ ρ → Sat (.v k d :: Γ) (.c k' d :: ρ)
theorem Sat.len {Γ : List CA} {ρ : Rho} (h : Sat Γ ρ) : ρ.length = Γ.length := by
  induction h with
  | nil => rfl
  | u _ ih => simp [ih]
  | a _ ih => simp [ih]
  | f _ _ ih => simp [ih]
  | v _ _ ih => simp [ih]
theorem Sat.get {Γ : List CA} {ρ : Rho} (h : Sat Γ ρ) : ∀ {i : Nat} {k : Nat} {d : D}, Γ[i]? = some (.v k d) → ∃ k', ρ[i]? = some (.c k' d) ∧ k ≤ k' := by
  induction h with
  | nil => intro i k d e; simp at e
  | u _ ih => intro i k d e; cases i with
    | zero => simp at e
    | succ i => exact ih (by simpa using e)
  | a _ ih => intro i k d e; cases i with
    | zero => simp at e
    | succ i => exact ih (by simpa using e)
  | f _ _ ih => intro i k d e; cases i with
    | zero => simp at e
    | succ i => exact ih (by simpa using e)
  | v hk _ ih => intro i k d e; cases i with
    | zero => simp at e; obtain ⟨rfl, rfl⟩ := e; exact ⟨_, rfl, hk⟩
    | succ i => exact ih (by simpa using e)
theorem Sat.getu {Γ : List CA} {ρ : Rho} (h : Sat Γ ρ) : ∀ {i : Nat}, Γ[i]? = some .u → ρ[i]? = some .u := by
  induction h with
  | nil => intro i e; simp at e
  | u _ ih => intro i e; cases i with
    | zero => rfl
    | succ i => exact ih (by simpa using e)
  | a _ ih => intro i e; cases i with
    | zero => simp at e
    | succ i => exact ih (by simpa using e)
  | f _ _ ih => intro i e; cases i with
    | zero => simp at e
    | succ i => exact ih (by simpa using e)
  | v hk _ ih => intro i e; cases i with
    | zero => simp at e
    | succ i => exact ih (by simpa using e)
/-- a cell is as told -/
inductive Is : CA → Cell → Prop where
  | u : Is .u .u
  | a {c} : Is .a c
  | f {c} : flatC c = true → Is .f c
  | v {k k' d} : k ≤ k' → Is (.v k d) (.c k' d)
theorem Sat.set {Γ : List CA} {ρ : Rho} (h : Sat Γ ρ) : ∀ {i : Nat} {x : CA} {c : Cell}, Is x c → Sat (Γ.set i x) (ρ.set i c) := by
  induction h with
  | nil => intro i x c q; exact .nil
  | u h ih => intro i x c q; cases i with
    | zero => cases q with
      | u => exact .u h
      | a => exact .a h
      | f e => exact .f e h
      | v e => exact .v e h
    | succ i => exact .u (ih q)
  | a h ih => intro i x c q; cases i with
    | zero => cases q with
      | u => exact .u h
      | a => exact .a h
      | f e => exact .f e h
      | v e => exact .v e h
    | succ i => exact .a (ih q)
  | f e0 h ih => intro i x c q; cases i with
    | zero => cases q with
      | u => exact .u h
      | a => exact .a h
      | f e => exact .f e h
      | v e => exact .v e h
    | succ i => exact .f e0 (ih q)
  | v e0 h ih => intro i x c q; cases i with
    | zero => cases q with
      | u => exact .u h
      | a => exact .a h
      | f e => exact .f e h
      | v e => exact .v e h
    | succ i => exact .v e0 (ih q)
theorem Sat.keep {Γ : List CA} {ρ : Rho} {i k k' k2 : Nat} {d : D} (h : Sat Γ ρ) (e : k ≤ k') : Sat (Γ.set i (.v k d)) (ρ.set i (.c k' d)) := h.set (.v e)
/-- what is told by Γ is told by Γ', too -/
inductive Wk : List CA → List CA → Prop where
  | nil : Wk [] []
  | u {Γ Γ'} : Wk Γ Γ' → Wk (.u :: Γ) (.u :: Γ')
  | a {x Γ Γ'} : Wk Γ Γ' → Wk (x :: Γ) (.a :: Γ')
  | fu {Γ Γ'} : Wk Γ Γ' → Wk (.u :: Γ) (.f :: Γ')
  | ff {Γ Γ'} : Wk Γ Γ' → Wk (.f :: Γ) (.f :: Γ')
  | fv {k d Γ Γ'} : d.isS = true → Wk Γ Γ' → Wk (.v k d :: Γ) (.f :: Γ')
  | v {k k' d Γ Γ'} : k' ≤ k → Wk Γ Γ' → Wk (.v k d :: Γ) (.v k' d :: Γ')
theorem Wk.sat {Γ Γ' : List CA} (w : Wk Γ Γ') : ∀ {ρ : Rho}, Sat Γ ρ → Sat Γ' ρ := by
  induction w with
  | nil => intro ρ h; exact h
  | u _ ih => intro ρ h; cases h with | u h => exact .u (ih h)
  | a _ ih => intro ρ h; cases h with
    | u h => exact .a (ih h)
    | a h => exact .a (ih h)
    | f _ h => exact .a (ih h)
    | v _ h => exact .a (ih h)
  | fu _ ih => intro ρ h; cases h with | u h => exact .f rfl (ih h)
  | ff _ ih => intro ρ h; cases h with | f e h => exact .f e (ih h)
  | fv e _ ih => intro ρ h; cases h with | v _ h => exact .f e (ih h)
  | v e _ ih => intro ρ h; cases h with | v e' h => exact .v (Nat.le_trans e e') (ih h)
theorem Wk.refl : ∀ {Γ : List CA}, Wk Γ Γ
  | [] => .nil
  | .u :: _ => .u Wk.refl
  | .a :: _ => .a Wk.refl
  | .f :: _ => .ff Wk.refl
  | .v _ _ :: _ => .v (Nat.le_refl _) Wk.refl
theorem Wk.vE {k k' : Nat} {d d' : D} {Γ Γ' : List CA} (h : k' ≤ k) (e : d = d') (w : Wk Γ Γ') : Wk (.v k d :: Γ) (.v k' d' :: Γ') := e ▸ .v h w

/-! ### what a term gives -/
structure Ev (Γ : List CA) (m : M LD) (k : Nat) (d : D) (Γ' : List CA) : Prop where
  run : ∀ ρ, Sat Γ ρ → ∃ k' ρ', m ρ = .ok (k', d) ρ' ∧ k ≤ k' ∧ Sat Γ' ρ'
/-- an argument: a value, or a name that is looked at last -/
inductive AS where
  | val (k : Nat) (d : D)
  | vw (i : Nat)
inductive AsR : AS → Ar → Prop where
  | val {k k' d} : k ≤ k' → AsR (.val k d) (.val (k', d))
  | vw {i} : AsR (.vw i) (.view i)
inductive AsRs : List AS → List Ar → Prop where
  | nil : AsRs [] []
  | cons {s a ss as} : AsR s a → AsRs ss as → AsRs (s :: ss) (a :: as)
structure EA (Γ : List CA) (m : M Ar) (s : AS) (Γ' : List CA) : Prop where
  run : ∀ ρ, Sat Γ ρ → ∃ a ρ', m ρ = .ok a ρ' ∧ AsR s a ∧ Sat Γ' ρ'
structure EAs (Γ : List CA) (m : M (List Ar)) (ss : List AS) (Γ' : List CA) : Prop where
  run : ∀ ρ, Sat Γ ρ → ∃ as ρ', m ρ = .ok as ρ' ∧ AsRs ss as ∧ Sat Γ' ρ'
structure ET (Γ : List CA) (m : M Bool) (b : Bool) (Γ' : List CA) : Prop where
  run : ∀ ρ, Sat Γ ρ → ∃ ρ', m ρ = .ok b ρ' ∧ Sat Γ' ρ'
structure EP (Γ : List CA) (m : M (Option Int)) (o : Option Int) (Γ' : List CA) : Prop where
  run : ∀ ρ, Sat Γ ρ → ∃ ρ', m ρ = .ok o ρ' ∧ Sat Γ' ρ'
structure EI (Γ : List CA) (m : M (List D)) (ds : List D) (Γ' : List CA) : Prop where
  run : ∀ ρ, Sat Γ ρ → ∃ ρ', m ρ = .ok ds ρ' ∧ Sat Γ' ρ'
inductive LeVs : List (Nat × D) → List LD → Prop where
  | nil : LeVs [] []
  | cons {k k' d as xs} : k ≤ k' → LeVs as xs → LeVs ((k, d) :: as) ((k', d) :: xs)
structure EVs (Γ : List CA) (m : M (List LD)) (as : List (Nat × D)) (Γ' : List CA) : Prop where
  run : ∀ ρ, Sat Γ ρ → ∃ xs ρ', m ρ = .ok xs ρ' ∧ LeVs as xs ∧ Sat Γ' ρ'
structure EQ (Γ : List CA) (q : Rho → Option D) (d : D) : Prop where
  run : ∀ ρ, Sat Γ ρ → q ρ = some d
structure EPl (Γ : List CA) (m : M Vs.Place) (p : Vs.Place) : Prop where
  run : ∀ ρ, Sat Γ ρ → m ρ = .ok p ρ
structure EG (Γ : List CA) (g : G) (k : Nat) (d : D) (Γ' : List CA) : Prop where
  run : ∀ ρ k', Sat Γ ρ → k ≤ k' → ∃ ρ', g (k', d) ρ = some ρ' ∧ Sat Γ' ρ'
structure EGs (Γ : List CA) (g : Gs) (as : List (Nat × D)) (Γ' : List CA) : Prop where
  run : ∀ ρ xs, Sat Γ ρ → LeVs as xs → ∃ ρ', g xs ρ = some ρ' ∧ Sat Γ' ρ'
def look (Γ : List CA) : AS → Option D
  | .val _ d => some d
  | .vw i => match Γ[i]? with
    | some (.v _ d) => some d
    | _ => none
def looks (Γ : List CA) : List AS → Option (List D)
  | [] => some []
  | s :: ss => match look Γ s, looks Γ ss with
    | some d, some ds => some (d :: ds)
    | _, _ => none

section
variable {Γ Γ1 Γ2 Γ3 : List CA} {ρ : Rho} {k ka kb i j : Nat} {d da db : D} {a b m : M LD} {α β γ : Type}
theorem look_get {s : AS} {x : Ar} (h : AsR s x) (sat : Sat Γ ρ) (e : look Γ s = some d) : x.get ρ = some d := by
  cases h with
  | val _ => exact e
  | vw =>
    rename_i i
    simp only [look] at e
    cases q : Γ[i]? with
    | none => rw [q] at e; simp at e
    | some c =>
      cases c with
      | u => rw [q] at e; simp at e
      | a => rw [q] at e; simp at e
      | f => rw [q] at e; simp at e
      | v k d' =>
        rw [q] at e
        simp at e
        subst e
        obtain ⟨k', e2, _⟩ := sat.get q
        simp [Ar.get, e2]
theorem looks_gets {ss : List AS} {xs : List Ar} (h : AsRs ss xs) (sat : Sat Γ ρ) : ∀ {ds : List D}, looks Γ ss = some ds → gets ρ xs = some ds := by
  induction h with
  | nil => intro ds e; exact e
  | cons h _ ih =>
    intro ds e
    unfold looks at e
    rename_i s x ss xs _
    cases q : look Γ s with
    | none => rw [q] at e; simp at e
    | some d =>
      cases q2 : looks Γ ss with
      | none => rw [q, q2] at e; simp at e
      | some ds' =>
        rw [q, q2] at e
        simp at e
        subst e
        simp [gets, look_get h sat q, ih q2]

theorem e_wk (w : Wk Γ Γ1) (h : Ev Γ1 m k d Γ2) : Ev Γ m k d Γ2 := ⟨fun ρ s => h.run ρ (w.sat s)⟩
theorem e_to (h : Ev Γ m k d Γ1) (w : Wk Γ1 Γ2) : Ev Γ m k d Γ2 := ⟨fun ρ s => by
  obtain ⟨k', ρ', e, hk, s'⟩ := h.run ρ s
  exact ⟨k', ρ', e, hk, w.sat s'⟩⟩
theorem e_as (h : Ev Γ m k da Γ1) (e : da = d) : Ev Γ m k d Γ1 := e ▸ h
theorem e_kc : Ev Γ (kc d) 9 d Γ := ⟨fun ρ s => ⟨9, ρ, rfl, Nat.le_refl _, s⟩⟩
theorem e_rdS (h : Γ[i]? = some (.v k d)) (hs : d.isS = true) : Ev Γ (rd i) 9 d Γ := ⟨fun ρ s => by
  obtain ⟨k', e, _⟩ := s.get h
  exact ⟨9, ρ, by unfold rd; rw [e]; simp [hs], Nat.le_refl _, s⟩⟩
theorem Sat.set0 {Γ : List CA} {ρ : Rho} {i k : Nat} {d : D} (s : Sat Γ ρ) (e : ρ[i]? = some (.c k d)) : Sat (Γ.set i (.v 0 d)) ρ := by
  have h := s.set (i := i) (.v (d := d) (Nat.zero_le k))
  have : ρ.set i (.c k d) = ρ := by
    apply List.ext_getElem?
    intro n
    rw [List.getElem?_set]
    split
    · rename_i h; subst h
      split
      · exact e.symm
      · rename_i hl; rw [List.getElem?_eq_none (by omega)] at e; cases e
    · rfl
  rwa [this] at h
theorem e_rdN (h : Γ[i]? = some (.v k d)) : Ev Γ (rd i) 0 d (Γ.set i (.v 0 d)) := ⟨fun ρ s => by
  obtain ⟨k', e, _⟩ := s.get h
  by_cases hs : d.isS = true
  · exact ⟨9, ρ, by unfold rd; rw [e]; simp [hs], Nat.zero_le _, s.set0 e⟩
  · exact ⟨0, ρ.set i (.c 0 d), by unfold rd; rw [e]; simp [hs], Nat.zero_le _, s.set (.v (Nat.le_refl _))⟩⟩
theorem e_mvS (h : Γ[i]? = some (.v k d)) (hs : d.isS = true) : Ev Γ (mv i) 9 d Γ := ⟨fun ρ s => by
  obtain ⟨k', e, _⟩ := s.get h
  exact ⟨9, ρ, by unfold mv; rw [e]; simp [hs], Nat.le_refl _, s⟩⟩
theorem e_mvN (h : Γ[i]? = some (.v k d)) (hs : d.isS = false) : Ev Γ (mv i) k d (Γ.set i .u) := ⟨fun ρ s => by
  obtain ⟨k', e, hk⟩ := s.get h
  exact ⟨k', ρ.set i .u, by unfold mv; rw [e]; simp [hs], hk, s.set .u⟩⟩
theorem e_mvD (h : Γ[i]? = some (.v k d)) (hk : k ≤ 9) : Ev Γ (mv i) k d (Γ.set i .a) := ⟨fun ρ s => by
  obtain ⟨k', e, hk'⟩ := s.get h
  by_cases hs : d.isS = true
  · refine ⟨9, ρ, by unfold mv; rw [e]; simp [hs], hk, ?_⟩
    have q := s.set (i := i) (.a (c := .c k' d))
    have : ρ.set i (.c k' d) = ρ := by
      apply List.ext_getElem?
      intro n
      rw [List.getElem?_set]
      split
      · rename_i h; subst h
        split
        · exact e.symm
        · rename_i hl; rw [List.getElem?_eq_none (by omega)] at e; cases e
      · rfl
    rwa [this] at q
  · exact ⟨k', ρ.set i .u, by unfold mv; rw [e]; simp [hs], hk', s.set .a⟩⟩
/-! arguments -/
theorem ea_vw (h : Γ[i]? = some (.v k d)) : EA Γ (vwOk i) (.vw i) Γ := ⟨fun ρ s => by
  obtain ⟨k', e, _⟩ := s.get h
  exact ⟨_, ρ, by unfold vwOk; rw [e], .vw, s⟩⟩
theorem ea_of (h : Ev Γ m k d Γ1) : EA Γ (asAr m) (.val k d) Γ1 := ⟨fun ρ s => by
  obtain ⟨k', ρ', e, hk, s'⟩ := h.run ρ s
  exact ⟨_, ρ', by unfold asAr M.bind M.ret; rw [e], .val hk, s'⟩⟩
theorem eas_nil : EAs Γ noAr [] Γ := ⟨fun ρ s => ⟨_, ρ, rfl, .nil, s⟩⟩
theorem eas_cons {ma : M Ar} {ms : M (List Ar)} {s : AS} {ss : List AS} (h : EA Γ ma s Γ1) (hs : EAs Γ1 ms ss Γ2) : EAs Γ (consAr ma ms) (s :: ss) Γ2 := ⟨fun ρ st => by
  obtain ⟨x, ρ1, e1, r1, s1⟩ := h.run ρ st
  obtain ⟨xs, ρ2, e2, r2, s2⟩ := hs.run ρ1 s1
  exact ⟨_, ρ2, by unfold consAr M.bind; rw [e1]; simp only [M.bind, e2, M.ret], .cons r1 r2, s2⟩⟩
theorem eas_two {ma mb : M Ar} {s t : AS} (h : EA Γ ma s Γ1) (hs : EA Γ1 mb t Γ2) : EAs Γ (two ma mb) [s, t] Γ2 := ⟨fun ρ st => by
  obtain ⟨x, ρ1, e1, r1, s1⟩ := h.run ρ st
  obtain ⟨y, ρ2, e2, r2, s2⟩ := hs.run ρ1 s1
  exact ⟨_, ρ2, by unfold two M.bind; rw [e1]; simp only [M.bind, e2, M.ret], .cons r1 (.cons r2 .nil), s2⟩⟩
theorem e_sop {o : List D → Option D} {ms : M (List Ar)} {ss : List AS} {ds : List D} (h : EAs Γ ms ss Γ1) (hl : looks Γ1 ss = some ds) (ho : o ds = some d) : Ev Γ (sop o ms) 9 d Γ1 := ⟨fun ρ st => by
  obtain ⟨xs, ρ1, e1, r1, s1⟩ := h.run ρ st
  exact ⟨9, ρ1, by unfold sop M.bind; rw [e1]; simp only [looks_gets r1 s1 hl, ho], Nat.le_refl _, s1⟩⟩
theorem e_un {o : D → Option D} {ma : M Ar} {s : AS} (h : EA Γ ma s Γ1) (hl : look Γ1 s = some da) (ho : o da = some d) : Ev Γ (un o ma) 9 d Γ1 := ⟨fun ρ st => by
  obtain ⟨x, ρ1, e1, r1, s1⟩ := h.run ρ st
  exact ⟨9, ρ1, by unfold un M.bind; rw [e1]; simp only [look_get r1 s1 hl, ho], Nat.le_refl _, s1⟩⟩
/-! operations with levels -/
def OpS (o : LD → LD → Option LD) (ka : Nat) (da : D) (kb : Nat) (db : D) (k : Nat) (d : D) : Prop := ∀ k1 k2, ka ≤ k1 → kb ≤ k2 → ∃ k', k ≤ k' ∧ o (k1, da) (k2, db) = some (k', d)
theorem e_opV {o : LD → LD → Option LD} (h : Ev Γ a ka da Γ1) (hs : Ev Γ1 b kb db Γ2) (ho : OpS o ka da kb db k d) : Ev Γ (opV o a b) k d Γ2 := ⟨fun ρ st => by
  obtain ⟨k1, ρ1, e1, r1, s1⟩ := h.run ρ st
  obtain ⟨k2, ρ2, e2, r2, s2⟩ := hs.run ρ1 s1
  obtain ⟨k', hk, e⟩ := ho k1 k2 r1 r2
  exact ⟨k', ρ2, by unfold opV M.bind; rw [e1]; simp only [M.bind, e2, e], hk, s2⟩⟩
def Op1S (o : LD → Option LD) (ka : Nat) (da : D) (k : Nat) (d : D) : Prop := ∀ k1, ka ≤ k1 → ∃ k', k ≤ k' ∧ o (k1, da) = some (k', d)
theorem e_op1 {o : LD → Option LD} (h : Ev Γ a ka da Γ1) (ho : Op1S o ka da k d) : Ev Γ (op1 o a) k d Γ1 := ⟨fun ρ st => by
  obtain ⟨k1, ρ1, e1, r1, s1⟩ := h.run ρ st
  obtain ⟨k', hk, e⟩ := ho k1 r1
  exact ⟨k', ρ1, by unfold op1 M.bind; rw [e1]; simp only [e], hk, s1⟩⟩
theorem os_addI {x y : Int} : OpS addD ka (.int x) kb (.int y) 9 (.int (x + y)) := fun _ _ _ _ => ⟨9, Nat.le_refl _, rfl⟩
theorem os_addS {x y : Str} (h : x.length + y.length ≤ lineN) : OpS addD ka (.str x) kb (.str y) 9 (.str (x ++ y)) := fun _ _ _ _ => ⟨9, Nat.le_refl _, by simp [addD, h]⟩
theorem os_addT {e : α → D} {xs ys : List α} (h : xs.length + ys.length ≤ lineN) : OpS addD ka (eT e xs) kb (eT e ys) (min ka kb) (eT e (xs ++ ys)) := fun k1 k2 h1 h2 => ⟨min k1 k2, by omega, by simp [addD, eT, h]⟩
theorem os_addL {e : α → D} {xs ys : List α} (h : xs.length + ys.length ≤ lineN) : OpS addD ka (eL e xs) kb (eL e ys) (min (ka - 1) (kb - 1) + 1) (eL e (xs ++ ys)) := fun k1 k2 h1 h2 => ⟨min (k1 - 1) (k2 - 1) + 1, by omega, by simp [addD, eL, h]⟩
theorem os_mulI {x y : Int} (h : mulOk x y = true) : OpS mulD ka (.int x) kb (.int y) 9 (.int (x * y)) := fun _ _ _ _ => ⟨9, Nat.le_refl _, by simp [mulD, h]⟩
def repI (n : Int) (xs : List α) : List α := (List.replicate n.toNat xs).flatten
def RepOk (n : Int) (xs : List α) : Prop := xs.length * n.toNat ≤ lineN ∧ -(2 ^ 63) ≤ n ∧ n < 2 ^ 63
theorem flat_map (n : Nat) (e : α → D) (xs : List α) : (List.replicate n (xs.map e)).flatten = (List.replicate n xs).flatten.map e := by
  rw [List.map_flatten, List.map_replicate]
theorem os_mulL {e : α → D} {xs : List α} {n : Int} (he : Flat e) (h : RepOk n xs) : OpS mulD ka (eL e xs) kb (.int n) 9 (eL e (repI n xs)) := fun _ _ _ _ => ⟨9, Nat.le_refl _, by
  have q : (xs.map e).all D.isS = true := by simp [he.s]
  obtain ⟨h1, h2, h3⟩ := h
  simp only [mulD, eL, List.length_map, h1, h2, h3, and_self, if_true, q, flat_map, repI]⟩
theorem os_mulLn {e : α → D} {xs : List α} {n : Int} (h : RepOk n xs) : OpS mulD ka (eL e xs) kb (.int n) 1 (eL e (repI n xs)) := fun _ _ _ _ => by
  obtain ⟨h1, h2, h3⟩ := h
  refine ⟨if (xs.map e).all D.isS then 9 else 1, by split <;> omega, ?_⟩
  simp only [mulD, eL, List.length_map, h1, h2, h3, and_self, if_true, flat_map, repI]
theorem os_mulT {e : α → D} {xs : List α} {n : Int} (h : xs ≠ [] ∧ 2 ≤ n ∧ n ≤ 1000 ∧ xs.length ≤ 1000) : OpS mulD ka (eT e xs) kb (.int n) 0 (eT e (repI n xs)) := fun _ _ _ _ => ⟨0, Nat.le_refl _, by
  obtain ⟨h1, h2, h3, h4⟩ := h
  have q : xs.map e ≠ [] := by simpa using h1
  simp only [mulD, eT, List.length_map, ne_eq, q, not_false_eq_true, h2, h3, h4, and_self, if_true, flat_map, repI]⟩
/-! items -/
def getI [Inhabited α] (xs : List α) (i : Int) : α := xs.getD (if 0 ≤ i then i.toNat else (xs.length + i).toNat) default
def InR (n : Nat) (i : Int) : Prop := -(n : Int) ≤ i ∧ i < n
instance {n : Nat} {i : Int} : Decidable (InR n i) := inferInstanceAs (Decidable (_ ∧ _))
theorem ixN_in {n : Nat} {i : Int} (h : InR n i) : ixN n i = some (if 0 ≤ i then i.toNat else (n + i).toNat) ∧ (if 0 ≤ i then i.toNat else (n + i).toNat) < n := by
  obtain ⟨h1, h2⟩ := h
  unfold ixN
  by_cases h0 : 0 ≤ i
  · simp only [if_pos h0, h2, if_true]
    exact ⟨trivial, by omega⟩
  · simp only [if_neg h0]
    refine ⟨?_, by omega⟩
    split
    · congr 1; omega
    · omega
theorem atI_in [Inhabited α] {e : α → D} {xs : List α} {i : Int} (h : InR xs.length i) : atI (xs.map e) i = some (e (getI xs i)) := by
  obtain ⟨h1, h2⟩ := ixN_in h
  have h1' : ixN (xs.map e).length i = some (if 0 ≤ i then i.toNat else (xs.length + i).toNat) := by rw [List.length_map]; exact h1
  unfold atI
  rw [h1']
  simp only [Option.bind_some, getI, List.getD_eq_getElem?_getD, List.getElem?_map, List.getElem?_eq_getElem h2, Option.map_some, Option.getD_some]
theorem atI_in' [Inhabited α] {xs : List α} {i : Int} (h : InR xs.length i) : atI xs i = some (getI xs i) := by
  have h2 := atI_in (e := D.int) (xs := List.replicate xs.length 0) (i := i) (by simpa using h)
  obtain ⟨h1, h2⟩ := ixN_in h
  unfold atI
  rw [h1]
  simp only [Option.bind_some, getI, List.getD_eq_getElem?_getD, List.getElem?_eq_getElem h2, Option.getD_some]
end
end Ts
set_option Elab.async false
set_option linter.all false
set_option maxRecDepth 100000
set_option maxHeartbeats 400000
/-! Ts1: the typed side: operations one by one. -/
namespace Ts
open PySem PySem.Spec PyProof.Rows L2 Vs
section
variable {Γ Γ1 Γ2 Γ3 : List CA} {ρ : Rho} {k k0 ka kb ki i j : Nat} {d d0 da db y : D} {a b m : M LD} {α β γ δ : Type}
/-! numbers -/
theorem o_sub {x y : Int} : oSub [.int x, .int y] = some (.int (x - y)) := rfl
theorem o_div {x y : Int} (h : 0 < y ∧ y.natAbs.log2 < 9000) : oDiv [.int x, .int y] = some (.int (x / y)) := by simp [oDiv, oI2c, divOk, h.1, h.2]
theorem o_mod {x y : Int} (h : 0 < y) : oMod [.int x, .int y] = some (.int (x % y)) := by simp [oMod, oI2c, modOk, h]
theorem o_pow {x y : Int} (h : powOk x y = true) : oPow [.int x, .int y] = some (.int (x ^ y.toNat)) := by simp [oPow, oI2c, h]
theorem o_shr {x y : Int} (h : 0 ≤ y) : oShr [.int x, .int y] = some (.int (x / 2 ^ y.toNat)) := by simp [oShr, oI2c, shrOk, h]
theorem o_shl {x y : Int} (h : powOk x y = true) : oShl [.int x, .int y] = some (.int (x * 2 ^ y.toNat)) := by simp [oShl, oI2c, h]
theorem o_and {x y : Int} : oAnd [.int x, .int y] = some (.int (Builtin.bitAnd x y)) := rfl
theorem o_or {x y : Int} : oOr [.int x, .int y] = some (.int (Builtin.bitOr x y)) := rfl
theorem o_xor {x y : Int} : oXor [.int x, .int y] = some (.int (Builtin.bitXor x y)) := rfl
theorem o_lt {x y : Int} : oLt [.int x, .int y] = some (.bl (decide (x < y))) := rfl
theorem o_le {x y : Int} : oLe [.int x, .int y] = some (.bl (decide (x ≤ y))) := rfl
theorem o_gt {x y : Int} : oGt [.int x, .int y] = some (.bl (decide (y < x))) := rfl
theorem o_ge {x y : Int} : oGe [.int x, .int y] = some (.bl (decide (y ≤ x))) := rfl
theorem o_neg {x : Int} : oNeg (.int x) = some (.int (-x)) := rfl
def absI (x : Int) : Int := if x < 0 then -x else x
theorem o_abs {x : Int} : o1 fAbs [.int x] = some (.int (absI x)) := rfl
theorem o_int {x : Int} : o1 fInt [.int x] = some (.int x) := rfl
def bI (b : Bool) : Int := if b then 1 else 0
theorem o_intB {b : Bool} : o1 fInt [.bl b] = some (.int (bI b)) := rfl
theorem o_intS {x : Int} : o1 fIntS [.int x] = some (.int x) := rfl
theorem o_intSB {b : Bool} : o1 fIntS [.bl b] = some (.int (bI b)) := rfl
def minI (x y : Int) : Int := if y < x then y else x
def maxI (x y : Int) : Int := if y > x then y else x
theorem o_min2 {x y : Int} : omin2 [.int x, .int y] = some (.int (minI x y)) := rfl
theorem o_max2 {x y : Int} : omax2 [.int x, .int y] = some (.int (maxI x y)) := rfl
/-! rows of numbers -/
theorem nums_I : ∀ xs : List Int, numsD (xs.map D.int) = some xs
  | [] => rfl
  | x :: xs => by simp [numsD, nums_I xs]
theorem o_lenT {e : α → D} {xs : List α} : o1 fLen [eT e xs] = some (.int xs.length) := by simp [o1, fLen, eT]
theorem o_lenL {e : α → D} {xs : List α} : o1 fLen [eL e xs] = some (.int xs.length) := by simp [o1, fLen, eL]
theorem o_lenR {e : α → D} {xs : List α} : o1 fLen [eR e xs] = some (.int xs.length) := by simp [o1, fLen, eR]
theorem o_sumT {xs : List Int} : o1 fSum [eT eI xs] = some (.int xs.sum) := by simp [o1, fSum, eT, nums_I]
theorem o_sumL {xs : List Int} : o1 fSum [eL eI xs] = some (.int xs.sum) := by simp [o1, fSum, eL, nums_I]
theorem bls_B : ∀ xs : List Bool, blsD (xs.map D.bl) = some xs
  | [] => rfl
  | x :: xs => by simp [blsD, bls_B xs]
theorem o_all {xs : List Bool} : o1 fAll [eL eB xs] = some (.bl (xs.all id)) := by simp [o1, fAll, eL, bls_B]
theorem o_any {xs : List Bool} : o1 fAny [eL eB xs] = some (.bl (xs.any id)) := by simp [o1, fAny, eL, bls_B]
theorem o_minL {xs : List Int} (h : xs ≠ []) : o1 fMin [eL eI xs] = some (.int ((minO xs).getD 0)) := by
  cases xs with
  | nil => exact absurd rfl h
  | cons x xs =>
    have : ∀ x : Int, ∀ xs, ∃ m, minO (x :: xs) = some m := by
      intro x xs
      induction xs generalizing x with
      | nil => exact ⟨x, rfl⟩
      | cons y ys ih => obtain ⟨m, e⟩ := ih y; exact ⟨_, by simp only [minO, e, Option.map_some]; rfl⟩
    obtain ⟨m, e⟩ := this x xs
    simp only [o1, fMin, eL, lstN, nums_I, Option.bind_some, e, Option.map_some, Option.getD_some]
theorem o_maxL {xs : List Int} (h : xs ≠ []) : o1 fMax [eL eI xs] = some (.int ((maxO xs).getD 0)) := by
  cases xs with
  | nil => exact absurd rfl h
  | cons x xs =>
    have : ∀ x : Int, ∀ xs, ∃ m, maxO (x :: xs) = some m := by
      intro x xs
      induction xs generalizing x with
      | nil => exact ⟨x, rfl⟩
      | cons y ys ih => obtain ⟨m, e⟩ := ih y; exact ⟨_, by simp only [maxO, e, Option.map_some]; rfl⟩
    obtain ⟨m, e⟩ := this x xs
    simp only [o1, fMax, eL, lstN, nums_I, Option.bind_some, e, Option.map_some, Option.getD_some]
/-! tuple(..), list(..), reversed, sorted -/
theorem o1_tupL {e : α → D} {xs : List α} : Op1S tupD ka (eL e xs) (ka - 1) (eT e xs) := fun k1 h => ⟨k1 - 1, by omega, rfl⟩
theorem o1_tupT {e : α → D} {xs : List α} : Op1S tupD ka (eT e xs) ka (eT e xs) := fun k1 h => ⟨k1, h, rfl⟩
theorem o1_tupR {e : α → D} {xs : List α} : Op1S tupD ka (eR e xs) 0 (eT e xs) := fun k1 h => ⟨0, Nat.le_refl _, rfl⟩
theorem o1_lstT {e : α → D} {xs : List α} : Op1S lstD ka (eT e xs) (up ka) (eL e xs) := fun k1 h => ⟨up k1, by unfold up; omega, rfl⟩
theorem o1_lstL {e : α → D} {xs : List α} : Op1S lstD ka (eL e xs) (max ka 1) (eL e xs) := fun k1 h => ⟨k1 - 1 + 1, by omega, rfl⟩
theorem o1_lstR {e : α → D} {xs : List α} : Op1S lstD ka (eR e xs) 1 (eL e xs) := fun k1 h => ⟨1, Nat.le_refl _, rfl⟩
theorem o1_revT {e : α → D} {xs : List α} : Op1S revD ka (eT e xs) ka (eT e xs.reverse) := fun k1 h => ⟨k1, h, by simp [revD, eT]⟩
theorem o1_revL {e : α → D} {xs : List α} : Op1S revD ka (eL e xs) (max ka 1) (eL e xs.reverse) := fun k1 h => ⟨k1 - 1 + 1, by omega, by simp [revD, eL]⟩
theorem o1_srt {xs : List Int} : Op1S srtD ka (eL eI xs) 9 (eL eI (srtO xs)) := fun k1 h => ⟨9, Nat.le_refl _, by simp [srtD, eL, lstN, nums_I]⟩
/-! items -/
theorem os_idxT [Inhabited α] {e : α → D} {xs : List α} {n : Int} (h : InR xs.length n) : OpS idxO ka (eT e xs) kb (.int n) (min ka 9) (e (getI xs n)) := fun k1 k2 h1 h2 => by
  refine ⟨if (e (getI xs n)).isS then 9 else k1, by split <;> omega, ?_⟩
  simp only [idxO, idxD, eT, atI_in h, Option.map_some]
theorem os_idxTS [Inhabited α] {e : α → D} {xs : List α} {n : Int} (he : Flat e) (h : InR xs.length n) : OpS idxO ka (eT e xs) kb (.int n) 9 (e (getI xs n)) := fun k1 k2 h1 h2 => by
  refine ⟨9, by omega, ?_⟩
  simp only [idxO, idxD, eT, atI_in h, Option.map_some, he.s, if_true]
theorem os_idxL [Inhabited α] {e : α → D} {xs : List α} {n : Int} (h : InR xs.length n) : OpS idxO ka (eL e xs) kb (.int n) (min (ka - 1) 9) (e (getI xs n)) := fun k1 k2 h1 h2 => by
  refine ⟨if (e (getI xs n)).isS then 9 else k1 - 1, by split <;> omega, ?_⟩
  simp only [idxO, idxD, eL, atI_in h, Option.map_some]
theorem os_idxLS [Inhabited α] {e : α → D} {xs : List α} {n : Int} (he : Flat e) (h : InR xs.length n) : OpS idxO ka (eL e xs) kb (.int n) 9 (e (getI xs n)) := fun k1 k2 h1 h2 => by
  refine ⟨9, by omega, ?_⟩
  simp only [idxO, idxD, eL, atI_in h, Option.map_some, he.s, if_true]
theorem os_idxP0 {e : α → D} {f : β → D} {p : α × β} : OpS idxO ka (eP e f p) kb (.int 0) (min ka 9) (e p.1) := fun k1 k2 h1 h2 => ⟨if (e p.1).isS then 9 else k1, by split <;> omega, rfl⟩
theorem os_idxP1 {e : α → D} {f : β → D} {p : α × β} : OpS idxO ka (eP e f p) kb (.int 1) (min ka 9) (f p.2) := fun k1 k2 h1 h2 => ⟨if (f p.2).isS then 9 else k1, by split <;> omega, rfl⟩
/-- x[i] of a name: what comes, and the name's level behind -/
def SubS (k : Nat) (d y : D) (kz : Nat) (z : D) (kn : Nat) : Prop := ∀ k1, k ≤ k1 → ∃ kz1 kn1, kz ≤ kz1 ∧ kn ≤ kn1 ∧ subI k1 d y = some ((kz1, z), kn1)
theorem e_subN {mi : M LD} {kz kn : Nat} {z : D} (h0 : Γ[j]? = some (.v k0 d0)) (hi : Ev Γ mi ki y Γ1) (h1 : Γ1[j]? = some (.v k d)) (hs : SubS k d y kz z kn) : Ev Γ (subN j mi) kz z (Γ1.set j (.v kn d)) := ⟨fun ρ st => by
  obtain ⟨k0', e0, _⟩ := st.get h0
  obtain ⟨ki', ρ1, e1, r1, s1⟩ := hi.run ρ st
  obtain ⟨k', e2, hk⟩ := s1.get h1
  obtain ⟨kz1, kn1, hz, hn, e3⟩ := hs k' hk
  refine ⟨kz1, ρ1.set j (.c kn1 d), ?_, hz, s1.set (.v hn)⟩
  unfold subN
  rw [e0]
  simp only [M.bind, e1, e2, e3]⟩
theorem ss_TS [Inhabited α] {e : α → D} {xs : List α} {n : Int} (he : Flat e) (h : InR xs.length n) : SubS k (eT e xs) (.int n) 9 (e (getI xs n)) k := fun k1 h1 => ⟨9, k1, Nat.le_refl _, h1, by simp [subI, viewI, eT, atI_in h, he.s]⟩
theorem ss_TN [Inhabited α] {e : α → D} {xs : List α} {n : Int} (h : InR xs.length n) : SubS k (eT e xs) (.int n) 0 (e (getI xs n)) 0 := fun k1 h1 => by
  by_cases q : (e (getI xs n)).isS = true
  · exact ⟨9, k1, Nat.zero_le _, Nat.zero_le _, by simp [subI, viewI, eT, atI_in h, q]⟩
  · exact ⟨0, 0, Nat.zero_le _, Nat.zero_le _, by simp [subI, viewI, eT, atI_in h, q]⟩
theorem ss_LS [Inhabited α] {e : α → D} {xs : List α} {n : Int} (he : Flat e) (h : InR xs.length n) : SubS k (eL e xs) (.int n) 9 (e (getI xs n)) k := fun k1 h1 => ⟨9, k1, Nat.le_refl _, h1, by simp [subI, viewI, eL, atI_in h, he.s]⟩
theorem ss_LN [Inhabited α] {e : α → D} {xs : List α} {n : Int} (h : InR xs.length n) : SubS k (eL e xs) (.int n) 0 (e (getI xs n)) (min k 1) := fun k1 h1 => by
  by_cases q : (e (getI xs n)).isS = true
  · exact ⟨9, k1, Nat.zero_le _, by omega, by simp [subI, viewI, eL, atI_in h, q]⟩
  · exact ⟨0, min k1 1, Nat.zero_le _, by omega, by simp [subI, viewI, eL, atI_in h, q]⟩
theorem ss_RS [Inhabited α] {e : α → D} {xs : List α} {n : Int} (he : Flat e) (h : InR xs.length n) : SubS k (eR e xs) (.int n) 9 (e (getI xs n)) k := fun k1 h1 => ⟨9, k1, Nat.le_refl _, h1, by simp [subI, viewI, eR, atI_in h, he.s]⟩
theorem ss_P {ds : List D} {n : Nat} {z : D} (h : ds[n]? = some z) (hn : atI ds (n : Int) = some z) : SubS k (.tup ds) (.int (n : Int)) 0 z 0 := fun k1 h1 => by
  by_cases q : z.isS = true
  · exact ⟨9, k1, Nat.zero_le _, Nat.zero_le _, by simp [subI, viewI, hn, q]⟩
  · exact ⟨0, 0, Nat.zero_le _, Nat.zero_le _, by simp [subI, viewI, hn, q]⟩
theorem ss_tup {ds : List D} {n : Int} {z : D} (hn : atI ds n = some z) : SubS k (.tup ds) (.int n) 0 z 0 := fun k1 h1 => by
  by_cases q : z.isS = true
  · exact ⟨9, k1, Nat.zero_le _, Nat.zero_le _, by simp [subI, viewI, hn, q]⟩
  · exact ⟨0, 0, Nat.zero_le _, Nat.zero_le _, by simp [subI, viewI, hn, q]⟩
theorem ss_tupS {ds : List D} {n : Int} {z : D} (hn : atI ds n = some z) (q : z.isS = true) : SubS k (.tup ds) (.int n) 9 z k := fun k1 h1 => ⟨9, k1, Nat.le_refl _, h1, by simp [subI, viewI, hn, q]⟩
/-! slices -/
theorem cut_map {e : α → D} {xs : List α} {lo hi : Option Int} : cutL (xs.map e) lo hi = (cutL xs lo hi).map e := by
  simp [cutL, List.map_take, List.map_drop]
theorem ep_no : EP Γ noP none Γ := ⟨fun ρ s => ⟨ρ, rfl, s⟩⟩
theorem ep_as {n : Int} (h : Ev Γ m k (.int n) Γ1) : EP Γ (asP m) (some n) Γ1 := ⟨fun ρ s => by
  obtain ⟨k', ρ', e, _, s'⟩ := h.run ρ s
  exact ⟨ρ', by unfold asP M.bind; rw [e]; rfl, s'⟩⟩
theorem e_slc {l h : M (Option Int)} {lo hi : Option Int} (hx : Ev Γ m ka da Γ1) (hl : EP Γ1 l lo Γ2) (hh : EP Γ2 h hi Γ3) (ho : Op1S (fun x => sliceD x lo hi) ka da k d) : Ev Γ (slc m l h) k d Γ3 := ⟨fun ρ s => by
  obtain ⟨k1, ρ1, e1, r1, s1⟩ := hx.run ρ s
  obtain ⟨ρ2, e2, s2⟩ := hl.run ρ1 s1
  obtain ⟨ρ3, e3, s3⟩ := hh.run ρ2 s2
  obtain ⟨k', hk, e⟩ := ho k1 r1
  exact ⟨k', ρ3, by unfold slc M.bind; rw [e1]; simp only [M.bind, e2, e3]; rw [show sliceD (k1, da) lo hi = some (k', d) from e], hk, s3⟩⟩
theorem sl_T {e : α → D} {xs : List α} {lo hi : Option Int} : Op1S (fun x => sliceD x lo hi) ka (eT e xs) ka (eT e (cutL xs lo hi)) := fun k1 h => ⟨k1, h, by simp [sliceD, eT, cut_map]⟩
theorem sl_L {e : α → D} {xs : List α} {lo hi : Option Int} : Op1S (fun x => sliceD x lo hi) ka (eL e xs) (max ka 1) (eL e (cutL xs lo hi)) := fun k1 h => ⟨k1 - 1 + 1, by omega, by simp [sliceD, eL, cut_map]⟩
theorem sl_R {e : α → D} {xs : List α} {lo hi : Option Int} : Op1S (fun x => sliceD x lo hi) ka (eR e xs) 1 (eL e (cutL xs lo hi)) := fun k1 h => ⟨1, Nat.le_refl _, by simp [sliceD, eR, eL, cut_map]⟩
/-! displays -/
theorem evs_nil : EVs Γ noVs [] Γ := ⟨fun ρ s => ⟨[], ρ, rfl, .nil, s⟩⟩
theorem evs_cons {ms : M (List LD)} {as : List (Nat × D)} (h : Ev Γ m k d Γ1) (hs : EVs Γ1 ms as Γ2) : EVs Γ (consV m ms) ((k, d) :: as) Γ2 := ⟨fun ρ st => by
  obtain ⟨k1, ρ1, e1, r1, s1⟩ := h.run ρ st
  obtain ⟨xs, ρ2, e2, r2, s2⟩ := hs.run ρ1 s1
  exact ⟨_, ρ2, by unfold consV M.bind; rw [e1]; simp only [M.bind, e2, M.ret], .cons r1 r2, s2⟩⟩
def lvlS : List (Nat × D) → Nat
  | [] => 9
  | x :: xs => min x.1 (lvlS xs)
theorem LeVs.lvl {as : List (Nat × D)} {xs : List LD} (h : LeVs as xs) : lvlS as ≤ Vs.lvl xs := by
  induction h with
  | nil => exact Nat.le_refl _
  | cons h _ ih => simp only [lvlS, Vs.lvl]; omega
theorem LeVs.snd {as : List (Nat × D)} {xs : List LD} (h : LeVs as xs) : xs.map (·.2) = as.map (·.2) := by
  induction h with
  | nil => rfl
  | cons h _ ih => simp [ih]
theorem LeVs.len {as : List (Nat × D)} {xs : List LD} (h : LeVs as xs) : xs.length = as.length := by
  induction h with
  | nil => rfl
  | cons h _ ih => simp [ih]
theorem e_tup {ms : M (List LD)} {as : List (Nat × D)} {kk : Nat} (h : EVs Γ ms as Γ1) (hl' : decide (as.length ≤ lineN) = true) (hk : lvlS as = kk) : Ev Γ (mkTup ms) kk (.tup (as.map (·.2))) Γ1 := ⟨fun ρ st => by
  obtain ⟨xs, ρ1, e1, r1, s1⟩ := h.run ρ st
  have hl := of_decide_eq_true hl'
  subst hk
  exact ⟨lvl xs, ρ1, by unfold mkTup M.bind; rw [e1]; simp only [r1.len, hl, if_true, r1.snd], r1.lvl, s1⟩⟩
theorem e_lst {ms : M (List LD)} {as : List (Nat × D)} {kk : Nat} (h : EVs Γ ms as Γ1) (hl' : decide (as.length ≤ lineN) = true) (hk : up (lvlS as) = kk) : Ev Γ (mkLst ms) kk (.lst (as.map (·.2))) Γ1 := ⟨fun ρ st => by
  obtain ⟨xs, ρ1, e1, r1, s1⟩ := h.run ρ st
  have hl := of_decide_eq_true hl'
  subst hk
  exact ⟨up (lvl xs), ρ1, by unfold mkLst M.bind; rw [e1]; simp only [r1.len, hl, if_true, r1.snd], by have := r1.lvl; unfold up; omega, s1⟩⟩
/-! ranges as lists -/
def rgI (lo hi : Int) : List Int := (List.range (hi - lo).toNat).map fun (j : Nat) => lo + (j : Int)
theorem range_I {lo hi : Int} : rangeD lo hi = (rgI lo hi).map D.int := by simp [rangeD, rgI, Function.comp_def]
theorem e_rgn1L {n : Int} (h : Ev Γ m ka (.int n) Γ1) (hg : rgL 0 n = true) : Ev Γ (rgn1 .lst 9 m) 9 (eL eI (rgI 0 n)) Γ1 := ⟨fun ρ st => by
  obtain ⟨k1, ρ1, e1, r1, s1⟩ := h.run ρ st
  exact ⟨9, ρ1, by unfold rgn1 M.bind; rw [e1]; simp only [rgM, hg, if_true, range_I, eL], Nat.le_refl _, s1⟩⟩
theorem e_rgn1T {n : Int} (h : Ev Γ m ka (.int n) Γ1) (hg : rgL 0 n = true) : Ev Γ (rgn1 .tup 9 m) 9 (eT eI (rgI 0 n)) Γ1 := ⟨fun ρ st => by
  obtain ⟨k1, ρ1, e1, r1, s1⟩ := h.run ρ st
  exact ⟨9, ρ1, by unfold rgn1 M.bind; rw [e1]; simp only [rgM, hg, if_true, range_I, eT], Nat.le_refl _, s1⟩⟩
theorem e_rgn2L {l n : Int} (h : Ev Γ a ka (.int l) Γ1) (h2 : Ev Γ1 b kb (.int n) Γ2) (hg : rgL l n = true) : Ev Γ (rgn2 .lst 9 a b) 9 (eL eI (rgI l n)) Γ2 := ⟨fun ρ st => by
  obtain ⟨k1, ρ1, e1, r1, s1⟩ := h.run ρ st
  obtain ⟨k2, ρ2, e2, r2, s2⟩ := h2.run ρ1 s1
  exact ⟨9, ρ2, by unfold rgn2 M.bind; rw [e1]; simp only [M.bind, e2, rgM, hg, if_true, range_I, eL], Nat.le_refl _, s2⟩⟩
theorem e_rgn2T {l n : Int} (h : Ev Γ a ka (.int l) Γ1) (h2 : Ev Γ1 b kb (.int n) Γ2) (hg : rgL l n = true) : Ev Γ (rgn2 .tup 9 a b) 9 (eT eI (rgI l n)) Γ2 := ⟨fun ρ st => by
  obtain ⟨k1, ρ1, e1, r1, s1⟩ := h.run ρ st
  obtain ⟨k2, ρ2, e2, r2, s2⟩ := h2.run ρ1 s1
  exact ⟨9, ρ2, by unfold rgn2 M.bind; rw [e1]; simp only [M.bind, e2, rgM, hg, if_true, range_I, eT], Nat.le_refl _, s2⟩⟩
/-! sets of numbers -/
def SetOk (xs : List Int) : Prop := xs.length ≤ 4000 ∧ (sortU xs).length < 64
theorem rowN_T {xs : List Int} : rowN (eT eI xs) = some xs := by simp [rowN, rowD, eT, nums_I]
theorem rowN_L {xs : List Int} : rowN (eL eI xs) = some xs := by simp [rowN, rowD, eL, nums_I]
theorem e_srtU {xs : List Int} (h : Ev Γ m ka da Γ1) (hr : rowN da = some xs) (hg : SetOk xs) : Ev Γ (srtU m) 9 (eL eI (sortU xs)) Γ1 := ⟨fun ρ st => by
  obtain ⟨k1, ρ1, e1, r1, s1⟩ := h.run ρ st
  obtain ⟨g1, g2⟩ := hg
  exact ⟨9, ρ1, by unfold srtU M.bind; rw [e1]; simp only [hr, g1, g2, and_self, if_true, eL], Nat.le_refl _, s1⟩⟩
theorem e_lenU {xs : List Int} (h : Ev Γ m ka da Γ1) (hr : rowN da = some xs) (hg : xs.length ≤ 4000) : Ev Γ (lenU m) 9 (.int (sortU xs).length) Γ1 := ⟨fun ρ st => by
  obtain ⟨k1, ρ1, e1, r1, s1⟩ := h.run ρ st
  exact ⟨9, ρ1, by unfold lenU M.bind; rw [e1]; simp only [hr, hg, if_true], Nat.le_refl _, s1⟩⟩
/-! tests -/
theorem et_asB {t : Bool} (h : Ev Γ m k (.bl t) Γ1) : ET Γ (asB m) t Γ1 := ⟨fun ρ st => by
  obtain ⟨k1, ρ1, e1, r1, s1⟩ := h.run ρ st
  exact ⟨ρ1, by unfold asB M.bind; rw [e1]; rfl, s1⟩⟩
variable {ta tb : M Bool} {x z : Bool}
theorem et_to (h : ET Γ ta x Γ1) (w : Wk Γ1 Γ2) : ET Γ ta x Γ2 := ⟨fun ρ st => by
  obtain ⟨ρ1, e1, s1⟩ := h.run ρ st
  exact ⟨ρ1, e1, w.sat s1⟩⟩
theorem et_ret : ET Γ (M.ret x) x Γ := ⟨fun ρ st => ⟨ρ, rfl, st⟩⟩
theorem et_and (h : ET Γ ta x Γ1) (h2 : x = true → ET Γ1 tb z Γ2) (w : x = false → Wk Γ1 Γ2) : ET Γ (andT ta tb) (x && z) Γ2 := ⟨fun ρ st => by
  obtain ⟨ρ1, e1, s1⟩ := h.run ρ st
  cases x with
  | false => exact ⟨ρ1, by unfold andT M.bind; rw [e1]; rfl, (w rfl).sat s1⟩
  | true =>
    obtain ⟨ρ2, e2, s2⟩ := (h2 rfl).run ρ1 s1
    exact ⟨ρ2, by unfold andT M.bind; rw [e1]; exact e2, s2⟩⟩
theorem et_or (h : ET Γ ta x Γ1) (h2 : x = false → ET Γ1 tb z Γ2) (w : x = true → Wk Γ1 Γ2) : ET Γ (orT ta tb) (x || z) Γ2 := ⟨fun ρ st => by
  obtain ⟨ρ1, e1, s1⟩ := h.run ρ st
  cases x with
  | true => exact ⟨ρ1, by unfold orT M.bind; rw [e1]; rfl, (w rfl).sat s1⟩
  | false =>
    obtain ⟨ρ2, e2, s2⟩ := (h2 rfl).run ρ1 s1
    exact ⟨ρ2, by unfold orT M.bind; rw [e1]; exact e2, s2⟩⟩
theorem et_not (h : ET Γ ta x Γ1) : ET Γ (notT ta) (!x) Γ1 := ⟨fun ρ st => by
  obtain ⟨ρ1, e1, s1⟩ := h.run ρ st
  exact ⟨ρ1, by unfold notT M.bind; rw [e1]; rfl, s1⟩⟩
theorem e_andV (h : Ev Γ a ka (.bl x) Γ1) (h2 : x = true → Ev Γ1 b kb (.bl z) Γ2) (w : x = false → Wk Γ1 Γ2) : Ev Γ (andV a b) (min kb 9) (.bl (x && z)) Γ2 := ⟨fun ρ st => by
  obtain ⟨k1, ρ1, e1, r1, s1⟩ := h.run ρ st
  cases x with
  | false => exact ⟨9, ρ1, by unfold andV M.bind; rw [e1]; rfl, by omega, (w rfl).sat s1⟩
  | true =>
    obtain ⟨k2, ρ2, e2, r2, s2⟩ := (h2 rfl).run ρ1 s1
    exact ⟨k2, ρ2, by unfold andV M.bind; rw [e1]; exact e2, by omega, s2⟩⟩
theorem e_orV (h : Ev Γ a ka (.bl x) Γ1) (h2 : x = false → Ev Γ1 b kb (.bl z) Γ2) (w : x = true → Wk Γ1 Γ2) : Ev Γ (orV a b) (min kb 9) (.bl (x || z)) Γ2 := ⟨fun ρ st => by
  obtain ⟨k1, ρ1, e1, r1, s1⟩ := h.run ρ st
  cases x with
  | true => exact ⟨9, ρ1, by unfold orV M.bind; rw [e1]; rfl, by omega, (w rfl).sat s1⟩
  | false =>
    obtain ⟨k2, ρ2, e2, r2, s2⟩ := (h2 rfl).run ρ1 s1
    exact ⟨k2, ρ2, by unfold orV M.bind; rw [e1]; exact e2, by omega, s2⟩⟩
theorem e_notV (h : Ev Γ a ka (.bl x) Γ1) : Ev Γ (notV a) 9 (.bl (!x)) Γ1 := ⟨fun ρ st => by
  obtain ⟨k1, ρ1, e1, r1, s1⟩ := h.run ρ st
  exact ⟨9, ρ1, by unfold notV M.bind; rw [e1]; rfl, Nat.le_refl _, s1⟩⟩
theorem e_ite {c : M Bool} {e : α → D} {u v : α} (h : ET Γ c x Γ1) (ha : x = true → Ev Γ1 a k (e u) Γ2) (hb : x = false → Ev Γ1 b k (e v) Γ2) : Ev Γ (iteV c a b) k (e (if x = true then u else v)) Γ2 := ⟨fun ρ st => by
  obtain ⟨ρ1, e1, s1⟩ := h.run ρ st
  cases x with
  | true =>
    obtain ⟨k2, ρ2, e2, r2, s2⟩ := (ha rfl).run ρ1 s1
    exact ⟨k2, ρ2, by unfold iteV M.bind; rw [e1]; exact e2, r2, s2⟩
  | false =>
    obtain ⟨k2, ρ2, e2, r2, s2⟩ := (hb rfl).run ρ1 s1
    exact ⟨k2, ρ2, by unfold iteV M.bind; rw [e1]; exact e2, r2, s2⟩⟩
theorem e_chn {oa ob : Int → Int → Bool} {c : M LD} {kc' : Nat} {i1 i2 i3 : Int} (h : Ev Γ a ka (.int i1) Γ1) (h2 : Ev Γ1 b kb (.int i2) Γ2) (h3 : oa i1 i2 = true → Ev Γ2 c kc' (.int i3) Γ3) (w : oa i1 i2 = false → Wk Γ2 Γ3) : Ev Γ (chn oa ob a b c) 9 (.bl (oa i1 i2 && ob i2 i3)) Γ3 := ⟨fun ρ st => by
  obtain ⟨k1, ρ1, e1, r1, s1⟩ := h.run ρ st
  obtain ⟨k2, ρ2, e2, r2, s2⟩ := h2.run ρ1 s1
  cases q : oa i1 i2 with
  | false => exact ⟨9, ρ2, by unfold chn M.bind; rw [e1]; simp only [M.bind, e2, q]; rfl, by omega, (w q).sat s2⟩
  | true =>
    obtain ⟨k3, ρ3, e3, r3, s3⟩ := (h3 q).run ρ2 s2
    exact ⟨9, ρ3, by unfold chn M.bind; rw [e1]; simp only [M.bind, e2, q, e3, if_true]; rfl, by omega, s3⟩⟩
/-! equality -/
structure EqE {α : Type} [DecidableEq α] (e : α → D) (n : Nat) : Prop where
  ex : ∃ p : α → PyData, (∀ x, py (e x) = some (p x)) ∧ (∀ x, (p x).canLay0 = true) ∧ (∀ x, (p x).depth ≤ n) ∧ ∀ x y, PyData.eqv (p x) (p y) = decide (x = y)
theorem eqe_I : EqE eI 0 := ⟨PyData.int, fun _ => rfl, fun _ => rfl, fun _ => by simp [PyData.depth], fun x y => by simp [PyData.eqv, Bool.beq_eq_decide_eq]⟩
theorem eqe_B : EqE eB 0 := ⟨PyData.bool, fun _ => rfl, fun _ => rfl, fun _ => by simp [PyData.depth], fun x y => by simp [PyData.eqv, Bool.beq_eq_decide_eq]⟩
theorem pys_of {α : Type} {e : α → D} {p : α → PyData} (h : ∀ x, py (e x) = some (p x)) : ∀ xs : List α, pys (xs.map e) = some (xs.map p)
  | [] => rfl
  | x :: xs => by simp [pys, h, pys_of h xs]
theorem lay_of {α : Type} {p : α → PyData} (h : ∀ x, (p x).canLay0 = true) : ∀ xs : List α, PyData.canLayAll0 (xs.map p) = true
  | [] => by simp [PyData.canLayAll0]
  | x :: xs => by simp [PyData.canLayAll0, h, lay_of h xs]
theorem dep_of {α : Type} {p : α → PyData} {n : Nat} (h : ∀ x, (p x).depth ≤ n) : ∀ xs : List α, PyData.depthAll (xs.map p) ≤ n
  | [] => by simp [PyData.depthAll]
  | x :: xs => by have := h x; have := dep_of h xs; simp [PyData.depthAll]; omega
theorem eqv_of {α : Type} [DecidableEq α] {p : α → PyData} (h : ∀ x y, PyData.eqv (p x) (p y) = decide (x = y)) : ∀ xs ys : List α, PyData.eqvAll (xs.map p) (ys.map p) = decide (xs = ys)
  | [], [] => by simp [PyData.eqvAll]
  | [], _ :: _ => by simp [PyData.eqvAll]
  | _ :: _, [] => by simp [PyData.eqvAll]
  | x :: xs, y :: ys => by simp [PyData.eqvAll, h, eqv_of h xs ys]
theorem eqe_T {α : Type} [DecidableEq α] {e : α → D} {n : Nat} (h : EqE e n) : EqE (eT e) (n + 1) := by
  obtain ⟨p, h1, h2, h3, h4⟩ := h
  exact ⟨fun xs => .tuple (xs.map p), fun xs => by simp [eT, py, pys_of h1], fun xs => by simp [PyData.canLay0, lay_of h2], fun xs => by have := dep_of h3 xs; simp [PyData.depth]; omega, fun xs ys => by simp [PyData.eqv, eqv_of h4]⟩
theorem eqe_L {α : Type} [DecidableEq α] {e : α → D} {n : Nat} (h : EqE e n) : EqE (eL e) (n + 1) := by
  obtain ⟨p, h1, h2, h3, h4⟩ := h
  exact ⟨fun xs => .list (xs.map p), fun xs => by simp [eL, py, pys_of h1], fun xs => by simp [PyData.canLay0, lay_of h2], fun xs => by have := dep_of h3 xs; simp [PyData.depth]; omega, fun xs ys => by simp [PyData.eqv, eqv_of h4]⟩
theorem eqe_P {α β : Type} [DecidableEq α] [DecidableEq β] {e : α → D} {f : β → D} {n : Nat} (h : EqE e n) (hf : EqE f n) : EqE (eP e f) (n + 1) := by
  obtain ⟨p, h1, h2, h3, h4⟩ := h
  obtain ⟨q, g1, g2, g3, g4⟩ := hf
  exact ⟨fun x => .tuple [p x.1, q x.2], fun x => by simp [eP, py, pys, h1, g1], fun x => by simp [PyData.canLay0, PyData.canLayAll0, h2, g2], fun x => by have := h3 x.1; have := g3 x.2; simp [PyData.depth, PyData.depthAll]; omega, fun x y => by simp [PyData.eqv, PyData.eqvAll, h4, g4, Prod.ext_iff]⟩
theorem eqe_P3 {α β γ : Type} [DecidableEq α] [DecidableEq β] [DecidableEq γ] {e : α → D} {f : β → D} {g : γ → D} {n : Nat} (h : EqE e n) (hf : EqE f n) (hg : EqE g n) : EqE (eP3 e f g) (n + 1) := by
  obtain ⟨p, h1, h2, h3, h4⟩ := h
  obtain ⟨q, g1, g2, g3, g4⟩ := hf
  obtain ⟨r, i1, i2, i3, i4⟩ := hg
  exact ⟨fun x => .tuple [p x.1, q x.2.1, r x.2.2], fun x => by simp [eP3, py, pys, h1, g1, i1], fun x => by simp [PyData.canLay0, PyData.canLayAll0, h2, g2, i2], fun x => by have := h3 x.1; have := g3 x.2.1; have := i3 x.2.2; simp [PyData.depth, PyData.depthAll]; omega, fun x y => by simp [PyData.eqv, PyData.eqvAll, h4, g4, i4, Prod.ext_iff]⟩
theorem eqD_of [DecidableEq α] {e : α → D} {n : Nat} (h : EqE e n) (hn : n ≤ 64 := by decide) (u v : α) : eqD (e u) (e v) = some (decide (u = v)) := by
  obtain ⟨p, h1, h2, h3, h4⟩ := h
  have e1 := h1 u; have e2 := h1 v
  have q := h4 u v
  have s1 : SeqAt.shaped (p u) = true := by simp [SeqAt.shaped, h2]; have := h3 u; omega
  have s2 : SeqAt.shaped (p v) = true := by simp [SeqAt.shaped, h2]; have := h3 v; omega
  unfold eqD
  split
  · rename_i i j hx hy
    rw [hx] at e1; rw [hy] at e2
    simp only [py, Option.some.injEq] at e1 e2
    rw [← e1, ← e2] at q
    simpa [PyData.eqv, Bool.beq_eq_decide_eq] using q
  · rename_i i j hx hy
    rw [hx] at e1; rw [hy] at e2
    simp only [py, Option.some.injEq] at e1 e2
    rw [← e1, ← e2] at q
    simpa [PyData.eqv, Bool.beq_eq_decide_eq] using q
  · rename_i i j hx hy
    rw [hx] at e1; rw [hy] at e2
    simp only [py, Option.some.injEq] at e1 e2
    rw [← e1, ← e2] at q
    simpa [PyData.eqv, Bool.beq_eq_decide_eq] using q
  · simp only [e1, e2, s1, s2, Bool.and_self, if_true, q]
theorem o_eq [DecidableEq α] {e : α → D} {n : Nat} {u v : α} (h : EqE e n) (hn : n ≤ 64 := by decide) : oEq [e u, e v] = some (.bl (decide (u = v))) := by simp [oEq, eqD_of h hn]
theorem o_ne [DecidableEq α] {e : α → D} {n : Nat} {u v : α} (h : EqE e n) (hn : n ≤ 64 := by decide) : oNe [e u, e v] = some (.bl (!decide (u = v))) := by simp [oNe, eqD_of h hn]
theorem o_eqS {u v : Str} : oEq [.str u, .str v] = some (.bl (decide (u = v))) := rfl
theorem o_neS {u v : Str} : oNe [.str u, .str v] = some (.bl (!decide (u = v))) := rfl
theorem o_isB {u v : Bool} : oIsB [.bl u, .bl v] = some (.bl (decide (u = v))) := rfl
theorem o_notB {u v : Bool} : oNotB [.bl u, .bl v] = some (.bl (!decide (u = v))) := rfl
theorem o_isNO {e : α → D} {u : Option α} (h : ∀ x, (e x).isN = false) : oIsN [eO e u, .non] = some (.bl u.isNone) := by
  cases u with
  | none => rfl
  | some x => show some (D.bl (e x).isN) = _; rw [h]; rfl
theorem o_notNO {e : α → D} {u : Option α} (h : ∀ x, (e x).isN = false) : oNotN [eO e u, .non] = some (.bl u.isSome) := by
  cases u with
  | none => rfl
  | some x => show some (D.bl (!(e x).isN)) = _; rw [h]; rfl
theorem o_isND {d : D} : oIsN [d, .non] = some (.bl d.isN) := rfl
theorem o_notND {d : D} : oNotN [d, .non] = some (.bl (!d.isN)) := rfl
/-! repr -/
def ReprOk (d : D) : Prop := isDic0 d = true ∨ ∃ q, shW d = some q ∧ q.1 ≤ lineN ∧ q.2 ≤ 40
theorem o_repr {d : D} (h : ReprOk d) : o1 fRepr [d] = some (.str (shT d)) := by
  rcases h with h | ⟨q, e, h1, h2⟩
  · simp [o1, fRepr, h]
  · simp [o1, fRepr, e, h1, h2]
end
end Ts
set_option Elab.async false
set_option linter.all false
set_option maxRecDepth 100000
set_option maxHeartbeats 400000
/-! Ts2: the typed side: iterables, targets, changes in place, comprehensions. -/
namespace Ts
open PySem PySem.Spec PyProof.Rows L2 Vs
section
variable {Γ Γ1 Γ2 Γ3 : List CA} {ρ : Rho} {k k0 ka kb ki i j : Nat} {d d0 da db y : D} {a b m : M LD} {α β γ δ σ : Type}
/-! iterables -/
theorem ei_T {e : α → D} {xs : List α} (h : Ev Γ m k (eT e xs) Γ1) : EI Γ (seqM m) (xs.map e) Γ1 := ⟨fun ρ st => by
  obtain ⟨k1, ρ1, e1, r1, s1⟩ := h.run ρ st
  exact ⟨ρ1, by unfold seqM M.bind; rw [e1]; rfl, s1⟩⟩
theorem ei_L {e : α → D} {xs : List α} (h : Ev Γ m k (eL e xs) Γ1) : EI Γ (seqM m) (xs.map e) Γ1 := ⟨fun ρ st => by
  obtain ⟨k1, ρ1, e1, r1, s1⟩ := h.run ρ st
  exact ⟨ρ1, by unfold seqM M.bind; rw [e1]; rfl, s1⟩⟩
theorem ei_R {e : α → D} {xs : List α} (h : Ev Γ m k (eR e xs) Γ1) : EI Γ (seqM m) (xs.map e) Γ1 := ⟨fun ρ st => by
  obtain ⟨k1, ρ1, e1, r1, s1⟩ := h.run ρ st
  exact ⟨ρ1, by unfold seqM M.bind; rw [e1]; rfl, s1⟩⟩
theorem ei_rng1 {ms : M (List LD)} {n : Int} (h : EVs Γ ms [(k, .int n)] Γ1) (hg : rgOk n = true) : EI Γ (rng1 ms) ((rgI 0 n).map eI) Γ1 := ⟨fun ρ st => by
  obtain ⟨xs, ρ1, e1, r1, s1⟩ := h.run ρ st
  cases r1 with | cons hk r1 => cases r1 with | nil =>
  exact ⟨ρ1, by unfold rng1 M.bind; rw [e1]; simp only [hg, if_true, M.ret, range_I], s1⟩⟩
theorem ei_rng2 {ms : M (List LD)} {l n : Int} (h : EVs Γ ms [(ka, .int l), (kb, .int n)] Γ1) (hg : (rgOk l && rgOk n) = true) : EI Γ (rng2 ms) ((rgI l n).map eI) Γ1 := ⟨fun ρ st => by
  obtain ⟨xs, ρ1, e1, r1, s1⟩ := h.run ρ st
  cases r1 with | cons hk r1 => cases r1 with | cons hk2 r1 => cases r1 with | nil =>
  exact ⟨ρ1, by unfold rng2 M.bind; rw [e1]; simp only [hg, if_true, M.ret, range_I], s1⟩⟩
def enumI (xs : List α) : List (Int × α) := xs.zipIdx.map fun q => ((q.2 : Int), q.1)
theorem enum_map {e : α → D} {xs : List α} : enumD (xs.map e) = (enumI xs).map (eP eI e) := by
  simp [enumD, enumI, List.zipIdx_map, eP, Function.comp_def]
theorem zip_map {e : α → D} {f : β → D} {xs : List α} {ys : List β} : zipD (xs.map e) (ys.map f) = (xs.zip ys).map (eP e f) := by
  simp [zipD, eP, List.zip_map, Function.comp_def]
/-- a row's items, whatever row it is -/
inductive IsRow {α : Type} (e : α → D) (xs : List α) : D → Prop where
  | t : IsRow e xs (eT e xs)
  | l : IsRow e xs (eL e xs)
  | r : IsRow e xs (eR e xs)
theorem IsRow.row {e : α → D} {xs : List α} {d : D} (h : IsRow e xs d) : ∃ b, rowD d = some (b, xs.map e) := by
  cases h with
  | t => exact ⟨false, rfl⟩
  | l => exact ⟨true, rfl⟩
  | r => exact ⟨true, rfl⟩
theorem ei_enum {ms : M (List LD)} {e : α → D} {xs : List α} (h : EVs Γ ms [(k, d)] Γ1) (hr : IsRow e xs d) : EI Γ (enumM ms) ((enumI xs).map (eP eI e)) Γ1 := ⟨fun ρ st => by
  obtain ⟨xs', ρ1, e1, r1, s1⟩ := h.run ρ st
  obtain ⟨b, er⟩ := hr.row
  cases r1 with | cons hk r1 => cases r1 with | nil =>
  exact ⟨ρ1, by unfold enumM viaR M.bind; rw [e1]; simp only [enumR, er, Option.map_some, enum_map], s1⟩⟩
theorem ei_zip {ms : M (List LD)} {e : α → D} {f : β → D} {xs : List α} {ys : List β} (h : EVs Γ ms [(ka, da), (kb, db)] Γ1) (hr : IsRow e xs da) (hr2 : IsRow f ys db) : EI Γ (zipM ms) ((xs.zip ys).map (eP e f)) Γ1 := ⟨fun ρ st => by
  obtain ⟨xs', ρ1, e1, r1, s1⟩ := h.run ρ st
  obtain ⟨b, er⟩ := hr.row
  obtain ⟨b2, er2⟩ := hr2.row
  cases r1 with | cons hk r1 => cases r1 with | cons hk2 r1 => cases r1 with | nil =>
  exact ⟨ρ1, by unfold zipM viaR M.bind; rw [e1]; simp only [zipR, er, er2, Option.map_some, Option.bind_some, zip_map], s1⟩⟩
/-! targets -/
theorem eg_n (h : decide (i < Γ.length) = true) : EG Γ (gN i) k d (Γ.set i (.v k d)) := ⟨fun ρ k' s hk => ⟨ρ.set i (.c k' d), by
  have := s.len
  have : i < ρ.length := by have := of_decide_eq_true h; omega
  simp [gN, this], s.set (.v hk)⟩⟩
theorem egs_nil : EGs Γ gsN [] Γ := ⟨fun ρ xs s h => by cases h; exact ⟨ρ, rfl, s⟩⟩
theorem egs_cons {g : G} {gs : Gs} {as : List (Nat × D)} (h : EG Γ g k d Γ1) (hs : EGs Γ1 gs as Γ2) : EGs Γ (gsC g gs) ((k, d) :: as) Γ2 := ⟨fun ρ xs s l => by
  cases l with | cons hk l =>
  obtain ⟨ρ1, e1, s1⟩ := h.run ρ _ s hk
  obtain ⟨ρ2, e2, s2⟩ := hs.run ρ1 _ s1 l
  exact ⟨ρ2, by simp [gsC, e1, e2], s2⟩⟩
def lvAll (k : Nat) (ds : List D) : List (Nat × D) := ds.map fun d => (k, d)
theorem levs_all {k k' : Nat} (h : k ≤ 9) (h' : k ≤ k') : ∀ ds : List D, LeVs (lvAll k ds) (ds.map fun d => (if d.isS then 9 else k', d))
  | [] => .nil
  | d :: ds => .cons (by split <;> omega) (levs_all h h' ds)
theorem eg_R {n : Nat} {gs : Gs} {ds : List D} (hk : decide (k ≤ 9) = true) (hn : ds.length = n) (h : EGs Γ gs (lvAll k ds) Γ1) : EG Γ (gR n gs) k (.tup ds) Γ1 := ⟨fun ρ k' s hk' => by
  obtain ⟨ρ1, e1, s1⟩ := h.run ρ _ s (levs_all (of_decide_eq_true hk) hk' ds)
  exact ⟨ρ1, by simp [gR, partsR, hn, e1], s1⟩⟩
theorem eg_RL {n : Nat} {gs : Gs} {ds : List D} (hk : decide (k ≤ 9) = true) (hn : ds.length = n) (h : EGs Γ gs (lvAll k ds) Γ1) : EG Γ (gR n gs) (k + 1) (.lst ds) Γ1 := ⟨fun ρ k' s hk' => by
  obtain ⟨ρ1, e1, s1⟩ := h.run ρ _ s (levs_all (k' := k' - 1) (of_decide_eq_true hk) (by omega) ds)
  exact ⟨ρ1, by simp [gR, partsR, hn, e1], s1⟩⟩
/-- a row of n items as a written one -/
def firstN [Inhabited α] : Nat → List α → List α
  | 0, _ => []
  | n + 1, xs => xs.headD default :: firstN n xs.tail
theorem firstN_eq [Inhabited α] : ∀ (n : Nat) (xs : List α), xs.length = n → firstN n xs = xs
  | 0, [], _ => rfl
  | n + 1, x :: xs, h => by simp [firstN, firstN_eq n xs (by simpa using h)]
  | 0, _ :: _, h => by simp at h
  | n + 1, [], h => by simp at h
theorem eg_RT [Inhabited α] {n : Nat} {gs : Gs} {e : α → D} {xs : List α} (hk : decide (k ≤ 9) = true) (hn : xs.length = n) (h : EGs Γ gs (lvAll k ((firstN n xs).map e)) Γ1) : EG Γ (gR n gs) k (eT e xs) Γ1 := by
  rw [firstN_eq n xs hn] at h
  exact eg_R hk (by simpa using hn) h
theorem eg_RTL [Inhabited α] {n : Nat} {gs : Gs} {e : α → D} {xs : List α} (hk : decide (k ≤ 9) = true) (hn : xs.length = n) (h : EGs Γ gs (lvAll k ((firstN n xs).map e)) Γ1) : EG Γ (gR n gs) (k + 1) (eL e xs) Γ1 := by
  rw [firstN_eq n xs hn] at h
  exact eg_RL hk (by simpa using hn) h
/-! places -/
theorem pl_n (h : Γ[j]? = some (.v k d)) : EPl Γ (plN j) (j, []) := ⟨fun ρ s => by
  obtain ⟨k', e, _⟩ := s.get h
  unfold plN; rw [e]⟩
theorem eq_k : EQ Γ (qK d) d := ⟨fun _ _ => rfl⟩
theorem eq_n (h : Γ[i]? = some (.v k d)) (hs : d.isS = true) : EQ Γ (qN i) d := ⟨fun ρ s => by
  obtain ⟨k', e, _⟩ := s.get h
  unfold qN; rw [e]; simp [hs]⟩
theorem eq_2 {o : List D → Option D} {p q : Rho → Option D} (h : EQ Γ p da) (h2 : EQ Γ q db) (sa : da.isS = true) (sb : db.isS = true) (ho : o [da, db] = some d) : EQ Γ (q2 o p q) d := ⟨fun ρ s => by
  unfold q2; rw [h.run ρ s, h2.run ρ s]; simp [sa, sb, ho]⟩
theorem oq_add {x y : Int} : oAddI [.int x, .int y] = some (.int (x + y)) := rfl
theorem oq_mul {x y : Int} (h : mulOk x y = true) : oMulI [.int x, .int y] = some (.int (x * y)) := by simp [oMulI, oI2c, h]
theorem eq_U {o : D → Option D} {p : Rho → Option D} (h : EQ Γ p da) (ho : o da = some d) : EQ Γ (qU o p) d := ⟨fun ρ s => by
  unfold qU; rw [h.run ρ s]; exact ho⟩
theorem eq_XT [Inhabited α] {e : α → D} {xs : List α} {n : Int} {p : Rho → Option D} (h0 : Γ[j]? = some (.v k (eT e xs))) (h : EQ Γ p (.int n)) (he : Flat e) (hn : InR xs.length n) : EQ Γ (qX j p) (e (getI xs n)) := ⟨fun ρ s => by
  obtain ⟨k', e0, _⟩ := s.get h0
  unfold qX; rw [e0, h.run ρ s]; simp [eT, atI_in hn, he.s]⟩
theorem eq_XL [Inhabited α] {e : α → D} {xs : List α} {n : Int} {p : Rho → Option D} (h0 : Γ[j]? = some (.v k (eL e xs))) (h : EQ Γ p (.int n)) (he : Flat e) (hn : InR xs.length n) : EQ Γ (qX j p) (e (getI xs n)) := ⟨fun ρ s => by
  obtain ⟨k', e0, _⟩ := s.get h0
  unfold qX; rw [e0, h.run ρ s]; simp [eL, atI_in hn, he.s]⟩
def ixI (n : Nat) (i : Int) : Nat := if 0 ≤ i then i.toNat else (n + i).toNat
def setI (xs : List α) (i : Int) (x : α) : List α := xs.set (ixI xs.length i) x
theorem ixN_ix {n : Nat} {i : Int} (h : InR n i) : ixN n i = some (ixI n i) := (ixN_in h).1
theorem getI_ix [Inhabited α] {xs : List α} {i : Int} (h : InR xs.length i) : xs[ixI xs.length i]? = some (getI xs i) := by
  have h2 := (ixN_in h).2
  unfold ixI getI
  rw [List.getD_eq_getElem?_getD, List.getElem?_eq_getElem h2]
  rfl
/-- xs[i] = x -/
theorem eg_at1 {e : α → D} {xs : List α} {n : Int} {x : α} {q : Rho → Option D} (h0 : Γ[j]? = some (.v (k + 1) (eL e xs))) (hq : EQ Γ q (.int n)) (hn : InR xs.length n) : EG Γ (gAt (plN j) q) ka (e x) (Γ.set j (.v (min k ka + 1) (eL e (setI xs n x)))) := ⟨fun ρ k' s hk => by
  obtain ⟨k2, e0, hk2⟩ := s.get h0
  obtain ⟨k3, rfl⟩ : ∃ k3, k2 = k3 + 1 := ⟨k2 - 1, by omega⟩
  refine ⟨ρ.set j (.c (min k3 k' + 1) (eL e (setI xs n x))), ?_, s.set (.v (by omega))⟩
  unfold gAt plN
  rw [e0]
  simp only [e0, hq.run ρ s]
  simp [subT, eL, putO, liftP, moSet, ixN_ix (n := xs.length) hn, setI, ixI, List.map_set]⟩
/-- xs[i][j] = x -/
theorem eg_at2 [Inhabited α] {e : α → D} {xs : List (List α)} {n l : Int} {x : α} {q q' : Rho → Option D} (h0 : Γ[j]? = some (.v (k + 2) (eL (eL e) xs))) (hq : EQ Γ q (.int n)) (hq' : EQ Γ q' (.int l)) (hn : InR xs.length n) (hl : InR (getI xs n).length l) :
    EG Γ (gAt (plX (plN j) q) q') ka (e x) (Γ.set j (.v (min (k + 1) (min k ka + 1) + 1) (eL (eL e) (setI xs n (setI (getI xs n) l x))))) := ⟨fun ρ k' s hk => by
  obtain ⟨k2, e0, hk2⟩ := s.get h0
  obtain ⟨k3, rfl⟩ : ∃ k3, k2 = k3 + 2 := ⟨k2 - 2, by omega⟩
  refine ⟨ρ.set j (.c (min (k3 + 1) (min k3 k' + 1) + 1) (eL (eL e) (setI xs n (setI (getI xs n) l x)))), ?_, s.set (.v (by omega))⟩
  have i1 : ixN (xs.map (eL e)).length n = some (ixI xs.length n) := by rw [List.length_map]; exact ixN_ix hn
  have g1 : (xs.map (eL e))[ixI xs.length n]? = some (eL e (getI xs n)) := by rw [List.getElem?_map, getI_ix hn]; rfl
  have i2 : ixN ((getI xs n).map e).length l = some (ixI (getI xs n).length l) := by rw [List.length_map]; exact ixN_ix hl
  have p : plX (plN j) q ρ = .ok (j, [.ix (ixI xs.length n)]) ρ := by
    simp only [plX, plN, M.bind, e0, hq.run ρ s, subT]
    simp only [eL, i1, List.nil_append]
  unfold gAt
  rw [p]
  simp only [e0, hq'.run ρ s, subT, eL, g1, Option.bind_some, putO, liftP, lift1, moSet, i2]
  simp [setI, List.map_set, eL, ixI]⟩
/-! changes in place -/
theorem e_mut {o : MO} {ms : M (List LD)} {as : List (Nat × D)} {ds0 : List D} {kz kn : Nat} {z d' : D} (h0 : Γ[j]? = some (.v k0 (.lst ds0))) (h : EVs Γ ms as Γ1) (h1 : Γ1[j]? = some (.v k d))
    (ho : ∀ k1 xs, k ≤ k1 → LeVs as xs → ∃ kz1 kn1, kz ≤ kz1 ∧ kn ≤ kn1 ∧ o k1 d xs = some ((kz1, z), kn1, d')) : Ev Γ (mut1 j o ms) kz z (Γ1.set j (.v kn d')) := ⟨fun ρ st => by
  obtain ⟨k0', e0, _⟩ := st.get h0
  obtain ⟨xs, ρ1, e1, r1, s1⟩ := h.run ρ st
  obtain ⟨k', e2, hk⟩ := s1.get h1
  obtain ⟨kz1, kn1, hz, hn, e3⟩ := ho k' xs hk r1
  refine ⟨kz1, ρ1.set j (.c kn1 d'), ?_, hz, s1.set (.v hn)⟩
  unfold mut1
  rw [e0]
  simp only [M.bind, e1, e2, e3]⟩
theorem mo_app {e : α → D} {xs : List α} {x : α} (hl : xs.length < lineN) : ∀ k1 as, k + 1 ≤ k1 → LeVs [(ka, e x)] as → ∃ kz1 kn1, 9 ≤ kz1 ∧ min k ka + 1 ≤ kn1 ∧ moAppend k1 (eL e xs) as = some ((kz1, .non), kn1, eL e (xs ++ [x])) := fun k1 as hk h => by
  cases h with | cons hk2 h => cases h with | nil =>
  obtain ⟨k3, rfl⟩ : ∃ k3, k1 = k3 + 1 := ⟨k1 - 1, by omega⟩
  rename_i k'
  exact ⟨9, min k3 k' + 1, by omega, by omega, by simp [moAppend, eL, hl]⟩
theorem mo_ext {e : α → D} {xs ys : List α} (hl : xs.length + ys.length ≤ lineN) : ∀ k1 as, k + 1 ≤ k1 → LeVs [(ka, eL e ys)] as → ∃ kz1 kn1, 9 ≤ kz1 ∧ min k (ka - 1) + 1 ≤ kn1 ∧ moExtend k1 (eL e xs) as = some ((kz1, .non), kn1, eL e (xs ++ ys)) := fun k1 as hk h => by
  cases h with | cons hk2 h => cases h with | nil =>
  obtain ⟨k3, rfl⟩ : ∃ k3, k1 = k3 + 1 := ⟨k1 - 1, by omega⟩
  rename_i k'
  exact ⟨9, min k3 (k' - 1) + 1, by omega, by omega, by simp [moExtend, eL, hl]⟩
theorem mo_pop [Inhabited α] {e : α → D} {xs : List α} (hl : xs ≠ []) : ∀ k1 as, k + 1 ≤ k1 → LeVs [] as → ∃ kz1 kn1, min k 9 ≤ kz1 ∧ k + 1 ≤ kn1 ∧ moPop k1 (eL e xs) as = some ((kz1, e (getI xs (-1))), kn1, eL e xs.dropLast) := fun k1 as hk h => by
  cases h
  obtain ⟨k3, rfl⟩ : ∃ k3, k1 = k3 + 1 := ⟨k1 - 1, by omega⟩
  have hp : 0 < xs.length := List.length_pos_iff.mpr hl
  have hr : InR xs.length (-1) := ⟨by omega, by omega⟩
  have e1 : (xs.map e)[(xs.map e).length - 1]? = some (e (getI xs (-1))) := by
    have := getI_ix hr
    have e2 : ixI xs.length (-1) = xs.length - 1 := by unfold ixI; rw [if_neg (by omega)]; omega
    rw [e2] at this
    rw [List.length_map, List.getElem?_map, this]; rfl
  exact ⟨if (e (getI xs (-1))).isS then 9 else k3, k3 + 1, by split <;> omega, by omega, by simp only [moPop, eL, e1, List.map_dropLast]⟩
def delI (xs : List α) (i : Int) : List α := xs.eraseIdx (ixI xs.length i)
theorem map_eraseIdx (e : α → D) : ∀ (xs : List α) (n : Nat), (xs.map e).eraseIdx n = (xs.eraseIdx n).map e
  | [], _ => by simp
  | x :: xs, 0 => by simp
  | x :: xs, n + 1 => by simp [map_eraseIdx e xs n]
theorem mo_popAt [Inhabited α] {e : α → D} {xs : List α} {n : Int} (hn : InR xs.length n ∧ xs.length ≤ lineN) : ∀ k1 as, k + 1 ≤ k1 → LeVs [(ka, .int n)] as → ∃ kz1 kn1, min k 9 ≤ kz1 ∧ k + 1 ≤ kn1 ∧ moPopAt k1 (eL e xs) as = some ((kz1, e (getI xs n)), kn1, eL e (delI xs n)) := fun k1 as hk h => by
  cases h with | cons hk2 h => cases h with | nil =>
  obtain ⟨k3, rfl⟩ : ∃ k3, k1 = k3 + 1 := ⟨k1 - 1, by omega⟩
  have i1 : ixN (xs.map e).length n = some (ixI xs.length n) := by rw [List.length_map]; exact ixN_ix hn.1
  have g1 : (xs.map e)[ixI xs.length n]? = some (e (getI xs n)) := by rw [List.getElem?_map, getI_ix hn.1]; rfl
  have hl := hn.2
  exact ⟨if (e (getI xs n)).isS then 9 else k3, k3 + 1, by split <;> omega, by omega, by simp only [moPopAt, eL, i1, g1]; simp only [List.length_map, hl, if_true, delI, map_eraseIdx]⟩
/-! comprehensions -/
def wipeS (Γ : List CA) : List Nat → List CA
  | [] => Γ
  | v :: vs => (wipeS Γ vs).set v .u
theorem Sat.wipe {Γ : List CA} {ρ : Rho} (h : Sat Γ ρ) : ∀ vs : List Nat, Sat (wipeS Γ vs) (wipeC ρ vs)
  | [] => h
  | _ :: vs => (Sat.wipe h vs).set .u
def backS (Γ0 : List CA) (Γ : List CA) : List Nat → List CA
  | [] => Γ
  | v :: vs => match Γ0[v]? with
    | some c => backS Γ0 (Γ.set v c) vs
    | none => backS Γ0 Γ vs
theorem Sat.at {Γ : List CA} {ρ : Rho} (h : Sat Γ ρ) : ∀ i : Nat, (Γ[i]? = none ∧ ρ[i]? = none) ∨ ∃ x c, Γ[i]? = some x ∧ ρ[i]? = some c ∧ Is x c := by
  induction h with
  | nil => intro i; left; simp
  | u _ ih => intro i; cases i with
    | zero => right; exact ⟨_, _, rfl, rfl, .u⟩
    | succ i => simpa using ih i
  | a _ ih => intro i; cases i with
    | zero => right; exact ⟨_, _, rfl, rfl, .a⟩
    | succ i => simpa using ih i
  | f hk _ ih => intro i; cases i with
    | zero => right; exact ⟨_, _, rfl, rfl, .f hk⟩
    | succ i => simpa using ih i
  | v hk _ ih => intro i; cases i with
    | zero => right; exact ⟨_, _, rfl, rfl, .v hk⟩
    | succ i => simpa using ih i
theorem Sat.back {Γ0 : List CA} {ρ0 : Rho} (h0 : Sat Γ0 ρ0) : ∀ (vs : List Nat) {Γ : List CA} {ρ : Rho}, Sat Γ ρ → Sat (backS Γ0 Γ vs) (backC ρ0 ρ vs)
  | [], _, _, h => h
  | w :: vs, Γ, ρ, h => by
    unfold backS backC
    rcases h0.at w with ⟨e1, e2⟩ | ⟨x, c, e1, e2, q⟩
    · rw [e1, e2]; exact Sat.back h0 vs h
    · rw [e1, e2]; exact Sat.back h0 vs (h.set q)
/-- the own names hold no node -/
def OwnOk (Γ : List CA) (vs : List Nat) : Bool := vs.all fun v => match Γ[v]? with
  | some .u => true
  | some .f => true
  | some (.v _ d) => d.isS
  | _ => false
theorem ownOk {Γ : List CA} {ρ : Rho} (h : Sat Γ ρ) {vs : List Nat} (ho : OwnOk Γ vs = true) : vs.all (fun v => match ρ[v]? with | some (.c _ d) => d.isS | _ => true) = true := by
  rw [List.all_eq_true]
  intro v hv
  have q := List.all_eq_true.mp ho v hv
  rcases h.at v with ⟨e1, e2⟩ | ⟨x, c, e1, e2, q'⟩
  · rw [e2]
  · rw [e1] at q
    rw [e2]
    cases q' with
    | u => rfl
    | a => simp at q
    | f e => exact (match c, e with
      | .u, _ => rfl
      | .c _ _, e => e)
    | v _ => exact q
def mapS (f : σ → α → β × σ) : List α → σ → List β × σ
  | [], s => ([], s)
  | x :: xs, s => ((f s x).1 :: (mapS f xs (f s x).2).1, (mapS f xs (f s x).2).2)
def mapG (ok : σ → α → Prop) (f : σ → α → β × σ) : List α → σ → Prop
  | [], _ => True
  | x :: xs, s => ok s x ∧ mapG ok f xs (f s x).2
theorem compS_run {own : List Nat} {g : G} {e : M LD} {en : α → D} {en' : β → D} {ke : Nat} {Γ0 : σ → List CA} {Γx Γz : σ → α → List CA} {f : σ → α → β × σ} {ok : σ → α → Prop} (hg : ∀ s x, EG (Γ0 s) g 0 (en x) (Γx s x)) (he : ∀ s x, ok s x → Ev (Γx s x) e ke (en' (f s x).1) (Γz s x))
    (hw : ∀ s x, ok s x → Wk (wipeS (Γz s x) own) (Γ0 (f s x).2)) : ∀ (xs : List α) (s : σ) (kk : Nat) (acc : List β) (ρ : Rho), min ke 8 ≤ kk → mapG ok f xs s → Sat (Γ0 s) ρ →
    ∃ k' ρ', compL own g (M.ret true) e (xs.map en) kk (acc.map en') ρ = .ok (k', eL en' (acc ++ (mapS f xs s).1)) ρ' ∧ min ke 8 + 1 ≤ k' ∧ Sat (Γ0 (mapS f xs s).2) ρ'
  | [], s, kk, acc, ρ, hk, _, st => ⟨kk + 1, ρ, by simp [compL, M.ret, mapS, eL], by omega, st⟩
  | x :: xs, s, kk, acc, ρ, hk, hG, st => by
    obtain ⟨ρ1, e1, s1⟩ := (hg s x).run ρ (lv (en x)) st (Nat.zero_le _)
    obtain ⟨k2, ρ2, e2, hk2, s2⟩ := (he s x hG.1).run ρ1 s1
    have s3 := (hw s x hG.1).sat (s2.wipe own)
    obtain ⟨k', ρ', e3, hk3, s4⟩ := compS_run hg he hw xs (f s x).2 (min kk k2) (acc ++ [(f s x).1]) _ (by omega) hG.2 s3
    refine ⟨k', ρ', ?_, hk3, by simpa [mapS] using s4⟩
    rw [List.map_cons]
    unfold compL
    rw [e1]
    simp only [M.ret, e2]
    simpa [mapS] using e3
/-- a comprehension that changes what it draws from -/
theorem e_compS {own : List Nat} {it : M (List D)} {g : G} {e : M LD} {xs : List α} {en : α → D} {en' : β → D} {ke : Nat} {s0 : σ} (Γ0 : σ → List CA) {Γx Γz : σ → α → List CA} (f : σ → α → β × σ) (ok : σ → α → Prop)
    (hi : EI Γ it (xs.map en) Γ1) (hn : xs.length ≤ lineN) (ho : OwnOk Γ1 own = true) (w0 : Wk (wipeS Γ1 own) (Γ0 s0)) (hG : mapG ok f xs s0) (hg : ∀ s x, EG (Γ0 s) g 0 (en x) (Γx s x)) (he : ∀ s x, ok s x → Ev (Γx s x) e ke (en' (f s x).1) (Γz s x))
    (hw : ∀ s x, ok s x → Wk (wipeS (Γz s x) own) (Γ0 (f s x).2)) : Ev Γ (comp own it g (M.ret true) e) (min ke 8 + 1) (eL en' (mapS f xs s0).1) (backS Γ1 (Γ0 (mapS f xs s0).2) own) := ⟨fun ρ st => by
  obtain ⟨ρ1, e1, s1⟩ := hi.run ρ st
  obtain ⟨k', ρ', e2, hk, s2⟩ := compS_run hg he hw xs s0 8 [] _ (by omega) hG (w0.sat (s1.wipe own))
  refine ⟨k', backC ρ1 ρ' own, ?_, hk, s1.back own s2⟩
  simp only [List.map_nil, List.nil_append] at e2
  unfold comp M.bind
  rw [e1]
  refine (if_pos ⟨by rw [List.length_map]; exact hn, ownOk s1 ho⟩).trans ?_
  rw [e2]⟩
theorem mapS_pure {f : α → β} : ∀ xs : List α, (mapS (fun (_ : Unit) x => (f x, ())) xs ()).1 = xs.map f
  | [] => rfl
  | x :: xs => by simp [mapS, mapS_pure xs]
theorem mapG_pure {f : α → β} {ok : α → Prop} : ∀ xs : List α, (∀ x ∈ xs, ok x) → mapG (fun (_ : Unit) x => ok x) (fun (_ : Unit) x => (f x, ())) xs ()
  | [], _ => True.intro
  | x :: xs, h => ⟨h x (List.mem_cons_self ..), mapG_pure xs fun y hy => h y (List.mem_cons_of_mem _ hy)⟩
/-- one that changes nothing -/
theorem e_comp {own : List Nat} {it : M (List D)} {g : G} {e : M LD} {xs : List α} {en : α → D} {en' : β → D} {ke : Nat} (Γ0 : List CA) {Γx Γz : α → List CA} (f : α → β) (ok : α → Prop)
    (hi : EI Γ it (xs.map en) Γ1) (hn : xs.length ≤ lineN) (ho : OwnOk Γ1 own = true) (w0 : Wk (wipeS Γ1 own) Γ0) (hG : ∀ x ∈ xs, ok x) (hg : ∀ x, EG Γ0 g 0 (en x) (Γx x)) (he : ∀ x, ok x → Ev (Γx x) e ke (en' (f x)) (Γz x))
    (hw : ∀ x, ok x → Wk (wipeS (Γz x) own) Γ0) : Ev Γ (comp own it g (M.ret true) e) (min ke 8 + 1) (eL en' (xs.map f)) (backS Γ1 Γ0 own) := by
  have h := e_compS (σ := Unit) (s0 := ()) (fun _ => Γ0) (fun _ x => (f x, ())) (fun _ x => ok x) hi hn ho w0 (mapG_pure xs hG) (fun _ x => hg x) (fun _ x h => he x h) (fun _ x h => hw x h)
  rwa [mapS_pure] at h
theorem compF_run {own : List Nat} {g : G} {t : M Bool} {e : M LD} {en : α → D} {en' : β → D} {ke : Nat} {Γ0 : List CA} {Γx Γy Γz : α → List CA} {p : α → Bool} {f : α → β} {ok : α → Prop} (hg : ∀ x, EG Γ0 g 0 (en x) (Γx x)) (ht : ∀ x, ok x → ET (Γx x) t (p x) (Γy x)) (he : ∀ x, ok x → p x = true → Ev (Γy x) e ke (en' (f x)) (Γz x))
    (hw : ∀ x, ok x → p x = true → Wk (wipeS (Γz x) own) Γ0) (hw' : ∀ x, ok x → Wk (wipeS (Γy x) own) Γ0) : ∀ (xs : List α) (kk : Nat) (acc : List β) (ρ : Rho), min ke 8 ≤ kk → (∀ x ∈ xs, ok x) → Sat Γ0 ρ →
    ∃ k' ρ', compL own g t e (xs.map en) kk (acc.map en') ρ = .ok (k', eL en' (acc ++ (xs.filter p).map f)) ρ' ∧ min ke 8 + 1 ≤ k' ∧ Sat Γ0 ρ'
  | [], kk, acc, ρ, hk, _, st => ⟨kk + 1, ρ, by simp [compL, M.ret, eL], by omega, st⟩
  | x :: xs, kk, acc, ρ, hk, hG, st => by
    have ok1 := hG x (List.mem_cons_self ..)
    have ok2 : ∀ y ∈ xs, ok y := fun y hy => hG y (List.mem_cons_of_mem _ hy)
    obtain ⟨ρ1, e1, s1⟩ := (hg x).run ρ (lv (en x)) st (Nat.zero_le _)
    obtain ⟨ρ2, e2, s2⟩ := (ht x ok1).run ρ1 s1
    cases q : p x with
    | false =>
      rw [q] at e2
      obtain ⟨k', ρ', e3, hk3, s4⟩ := compF_run hg ht he hw hw' xs kk acc _ hk ok2 ((hw' x ok1).sat (s2.wipe own))
      refine ⟨k', ρ', ?_, hk3, s4⟩
      rw [List.map_cons]
      unfold compL
      rw [e1]
      simp only [e2, e3, List.filter_cons, q, Bool.false_eq_true, if_false]
    | true =>
      rw [q] at e2
      obtain ⟨k2, ρ3, e3, hk2, s3⟩ := (he x ok1 q).run ρ2 s2
      obtain ⟨k', ρ', e4, hk3, s4⟩ := compF_run hg ht he hw hw' xs (min kk k2) (acc ++ [f x]) _ (by omega) ok2 ((hw x ok1 q).sat (s3.wipe own))
      refine ⟨k', ρ', ?_, hk3, s4⟩
      rw [List.map_cons]
      unfold compL
      rw [e1]
      simp only [e2, e3]
      rw [show List.map en' acc ++ [en' (f x)] = List.map en' (acc ++ [f x]) by simp, e4]
      simp [q]
/-- with an if -/
theorem e_compF {own : List Nat} {it : M (List D)} {g : G} {t : M Bool} {e : M LD} {xs : List α} {en : α → D} {en' : β → D} {ke : Nat} (Γ0 : List CA) {Γx Γy Γz : α → List CA} (p : α → Bool) (f : α → β) (ok : α → Prop)
    (hi : EI Γ it (xs.map en) Γ1) (hn : xs.length ≤ lineN) (ho : OwnOk Γ1 own = true) (w0 : Wk (wipeS Γ1 own) Γ0) (hG : ∀ x ∈ xs, ok x) (hg : ∀ x, EG Γ0 g 0 (en x) (Γx x)) (ht : ∀ x, ok x → ET (Γx x) t (p x) (Γy x)) (he : ∀ x, ok x → p x = true → Ev (Γy x) e ke (en' (f x)) (Γz x))
    (hw : ∀ x, ok x → p x = true → Wk (wipeS (Γz x) own) Γ0) (hw' : ∀ x, ok x → Wk (wipeS (Γy x) own) Γ0) : Ev Γ (comp own it g t e) (min ke 8 + 1) (eL en' ((xs.filter p).map f)) (backS Γ1 Γ0 own) := ⟨fun ρ st => by
  obtain ⟨ρ1, e1, s1⟩ := hi.run ρ st
  obtain ⟨k', ρ', e2, hk, s2⟩ := compF_run hg ht he hw hw' xs 8 [] _ (by omega) hG (w0.sat (s1.wipe own))
  refine ⟨k', backC ρ1 ρ' own, ?_, hk, s1.back own s2⟩
  simp only [List.map_nil, List.nil_append] at e2
  unfold comp M.bind
  rw [e1]
  refine (if_pos ⟨by rw [List.length_map]; exact hn, ownOk s1 ho⟩).trans ?_
  rw [e2]⟩
end
end Ts
set_option Elab.async false
set_option linter.all false
set_option maxRecDepth 100000
set_option maxHeartbeats 400000
/-! Ts3: the typed side: statements (T: a value and what it asks), loops, defs, calls. -/
namespace Ts
open PySem PySem.Spec PyProof.Rows L2 Vs

/-- a value, and what must hold that it comes -/
structure T (β : Type) where
  v : β
  g : Prop
/-- how a turn ends -/
inductive Cf (β σ : Type) where
  | ret (b : β) | nxt (s : σ) | brk (s : σ)
namespace T
variable {α β γ σ : Type}
def rt (P : Prop) (v : β) : T β := ⟨v, P⟩
def lt (P : Prop) (x : α) (f : α → T β) : T β := ⟨(f x).v, P ∧ (f x).g⟩
def ite (P : Prop) (c : Bool) (a b : T β) : T β := ⟨if c = true then a.v else b.v, P ∧ (c = true → a.g) ∧ (c = false → b.g)⟩
def bnd (a : T α) (f : α → T β) : T β := ⟨(f a.v).v, a.g ∧ (f a.v).g⟩
def sumV (f : σ → T β) : β ⊕ σ → β
  | .inl b => b
  | .inr s => (f s).v
def sumG (f : σ → T β) : β ⊕ σ → Prop
  | .inl _ => True
  | .inr s => (f s).g
/-- what may have ended -/
def bndS (a : T (β ⊕ σ)) (f : σ → T β) : T β := ⟨sumV f a.v, a.g ∧ sumG f a.v⟩
def fold (step : σ → α → T σ) : List α → σ → T σ
  | [], s => ⟨s, True⟩
  | x :: xs, s => ⟨(fold step xs (step s x).v).v, (step s x).g ∧ (fold step xs (step s x).v).g⟩
def cfV (f : σ → β ⊕ σ) : Cf β σ → β ⊕ σ
  | .ret b => .inl b
  | .brk s => .inr s
  | .nxt s => f s
def cfG (f : σ → Prop) : Cf β σ → Prop
  | .ret _ => True
  | .brk _ => True
  | .nxt s => f s
def foldR (step : σ → α → T (Cf β σ)) : List α → σ → T (β ⊕ σ)
  | [], s => ⟨.inr s, True⟩
  | x :: xs, s => ⟨cfV (fun s => (foldR step xs s).v) (step s x).v, (step s x).g ∧ cfG (fun s => (foldR step xs s).g) (step s x).v⟩
def whl (c : σ → T Bool) (step : σ → T σ) : Nat → σ → T σ
  | 0, s => ⟨s, False⟩
  | n + 1, s => ⟨if (c s).v = true then (whl c step n (step s).v).v else s, (c s).g ∧ ((c s).v = true → (step s).g ∧ (whl c step n (step s).v).g)⟩
def whlR (c : σ → T Bool) (step : σ → T (Cf β σ)) : Nat → σ → T (β ⊕ σ)
  | 0, s => ⟨.inr s, False⟩
  | n + 1, s => ⟨if (c s).v = true then cfV (fun s => (whlR c step n s).v) (step s).v else .inr s, (c s).g ∧ ((c s).v = true → (step s).g ∧ cfG (fun s => (whlR c step n s).g) (step s).v)⟩
end T

abbrev Post (β : Type) := β → Out → Rho → Prop
structure Bt {β : Type} (m : M Out) (Γ : List CA) (t : T β) (post : Post β) : Prop where
  run : t.g → ∀ ρ, Sat Γ ρ → Ok (m ρ) (post t.v)
/-- a statement that goes on -/
structure Es (Γ : List CA) (s : M Out) (Γ' : List CA) : Prop where
  run : ∀ ρ, Sat Γ ρ → ∃ ρ', s ρ = .ok .nx ρ' ∧ Sat Γ' ρ'
/-- at a block's end: the cells are as told -/
def JoinP {σ : Type} (Γn : σ → List CA) : Post σ := fun s o ρ => o = .nx ∧ Sat (Γn s) ρ
def EscP {β : Type} (post : Post β) : Post β := fun b o ρ => o ≠ .nx ∧ post b o ρ
def SumP {β σ : Type} (post : Post β) (Γn : σ → List CA) : Post (β ⊕ σ) := fun x o ρ => match x with
  | .inl b => o ≠ .nx ∧ post b o ρ
  | .inr s => o = .nx ∧ Sat (Γn s) ρ
def LoopP {σ : Type} (Γn : σ → List CA) : Post σ := fun s o ρ => (o = .nx ∨ o = .ct) ∧ Sat (Γn s) ρ
def CfP {β σ : Type} (post : Post β) (Γn : σ → List CA) : Post (Cf β σ) := fun x o ρ => match x with
  | .ret b => ((∃ z, o = .rt z) ∨ ∃ z, o = .xn z) ∧ post b o ρ
  | .nxt s => (o = .nx ∨ o = .ct) ∧ Sat (Γn s) ρ
  | .brk s => o = .bk ∧ Sat (Γn s) ρ
def IoAt (io : List (Nat × Nat × D)) (ρ : Rho) : Prop := ∀ q ∈ io, ∃ k2, ρ[q.1]? = some (.c k2 q.2.2) ∧ q.2.1 ≤ k2
def RetP {β : Type} (en : β → D) (k : Nat) (io : β → List (Nat × Nat × D)) : Post β := fun b o ρ => (∃ k', (o = .rt (k', en b) ∧ k ≤ k') ∨ (o = .nx ∧ en b = .non ∧ k ≤ 9)) ∧ IoAt (io b) ρ

section
variable {Γ Γ1 Γ2 Γ3 : List CA} {ρ : Rho} {k k0 ka kb ki i j l : Nat} {d d0 da db y : D} {a b m : M LD} {α β γ δ σ : Type} {s s1 s2 rest : M Out} {P : Prop} {post : Post β}
theorem Ok.ret' {α : Type} {r : R α} {Q : α → Rho → Prop} {a : α} {ρ : Rho} (e : r = .ok a ρ) (h : Q a ρ) : Ok r Q := Ok.of e h
/-! simple statements -/
theorem es_asg (h : Ev Γ m k d Γ1) (hi : decide (i < Γ1.length) = true) : Es Γ (sAsg m (gN i)) (Γ1.set i (.v k d)) := ⟨fun ρ st => by
  obtain ⟨k1, ρ1, e1, r1, s1⟩ := h.run ρ st
  obtain ⟨ρ2, e2, s2⟩ := (eg_n (k := k) (d := d) hi).run ρ1 k1 s1 r1
  exact ⟨ρ2, by unfold sAsg M.bind; rw [e1]; simp only [e2], s2⟩⟩
theorem es_gen {g : G} (h : Ev Γ m k d Γ1) (hg : EG Γ1 g k d Γ2) : Es Γ (sAsg m g) Γ2 := ⟨fun ρ st => by
  obtain ⟨k1, ρ1, e1, r1, s1⟩ := h.run ρ st
  obtain ⟨ρ2, e2, s2⟩ := hg.run ρ1 k1 s1 r1
  exact ⟨ρ2, by unfold sAsg M.bind; rw [e1]; simp only [e2], s2⟩⟩
theorem es_drop (h : Ev Γ m k d Γ1) : Es Γ (sDrop m) Γ1 := ⟨fun ρ st => by
  obtain ⟨k1, ρ1, e1, r1, s1⟩ := h.run ρ st
  exact ⟨ρ1, by unfold sDrop M.bind; rw [e1]; rfl, s1⟩⟩
theorem es_par (h : Ev Γ a ka da Γ1) (h2 : Ev Γ1 b kb db Γ2) (hi : decide (i < Γ2.length ∧ j < Γ2.length) = true) : Es Γ (sPar i j a b) ((Γ2.set i (.v ka da)).set j (.v kb db)) := ⟨fun ρ st => by
  obtain ⟨k1, ρ1, e1, r1, s1⟩ := h.run ρ st
  obtain ⟨k2, ρ2, e2, r2, s2⟩ := h2.run ρ1 s1
  have hl := of_decide_eq_true hi
  rw [← s2.len] at hl
  exact ⟨_, by unfold sPar M.bind; rw [e1]; simp only [M.bind, e2]; rw [if_pos hl], (s2.set (.v r1)).set (.v r2)⟩⟩
theorem es_par3 {c : M LD} {kc' : Nat} {dc : D} (h : Ev Γ a ka da Γ1) (h2 : Ev Γ1 b kb db Γ2) (h3 : Ev Γ2 c kc' dc Γ3) (hi : decide (i < Γ3.length ∧ j < Γ3.length ∧ l < Γ3.length) = true) : Es Γ (sPar3 i j l a b c) (((Γ3.set i (.v ka da)).set j (.v kb db)).set l (.v kc' dc)) := ⟨fun ρ st => by
  obtain ⟨k1, ρ1, e1, r1, s1⟩ := h.run ρ st
  obtain ⟨k2, ρ2, e2, r2, s2⟩ := h2.run ρ1 s1
  obtain ⟨k3, ρ3, e3, r3, s3⟩ := h3.run ρ2 s2
  have hl := of_decide_eq_true hi
  rw [← s3.len] at hl
  exact ⟨_, by unfold sPar3 M.bind; rw [e1]; simp only [M.bind, e2, e3]; rw [if_pos hl], ((s3.set (.v r1)).set (.v r2)).set (.v r3)⟩⟩
theorem es_forget {vs : List Nat} (h : Es (wipeS Γ vs) s Γ1) : Es Γ (forget vs s) Γ1 := ⟨fun ρ st => h.run _ (st.wipe vs)⟩
theorem es_nx : Es Γ sNx Γ := ⟨fun ρ st => ⟨ρ, rfl, st⟩⟩
theorem es_wk (w : Wk Γ Γ1) (h : Es Γ1 s Γ2) : Es Γ s Γ2 := ⟨fun ρ st => h.run ρ (w.sat st)⟩
theorem bt_forget {vs : List Nat} {t : T β} (h : Bt s (wipeS Γ vs) t post) : Bt (forget vs s) Γ t post := ⟨fun hg ρ st => h.run hg _ (st.wipe vs)⟩
/-! in a row -/
theorem bt_step {v : α} {R : α → T β} (Γn : α → List CA) (h : P → Es Γ s Γ1) (w : P → Wk Γ1 (Γn v)) (c : ∀ x, Bt rest (Γn x) (R x) post) : Bt (sSeq s rest) Γ (T.lt P v R) post := ⟨fun hg ρ st => by
  obtain ⟨ρ1, e1, s1⟩ := (h hg.1).run ρ st
  exact seqE e1 ((c v).run hg.2 ρ1 ((w hg.1).sat s1))⟩
/-- the last of a row -/
theorem bt_last {t : T β} (h : Bt (sSeq s sNx) Γ t post) : Bt s Γ t post := ⟨fun hg ρ st => by
  obtain ⟨o, ρ1, e, q⟩ := (h.run hg ρ st).get
  unfold sSeq M.bind at e
  cases e2 : s ρ with
  | no => rw [e2] at e; cases e
  | ex x ρ' => rw [e2] at e; cases e
  | ok a ρ' =>
    rw [e2] at e
    refine Ok.of rfl ?_
    cases a <;> (simp [sNx, M.ret] at e; obtain ⟨rfl, rfl⟩ := e; exact q)⟩
theorem bt_wk {t : T β} (w : Wk Γ Γ1) (h : Bt s Γ1 t post) : Bt s Γ t post := ⟨fun hg ρ st => h.run hg ρ (w.sat st)⟩
/-! ends -/
theorem bt_end {v : σ} {Γn : σ → List CA} (w : P → Wk Γ (Γn v)) : Bt sNx Γ (T.rt P v) (JoinP Γn) := ⟨fun hg ρ st => Ok.of rfl ⟨rfl, (w hg).sat st⟩⟩
theorem bt_endS {v : σ} {Γn : σ → List CA} (w : P → Wk Γ (Γn v)) : Bt sNx Γ (T.rt P (.inr v)) (SumP post Γn) := ⟨fun hg ρ st => Ok.of rfl ⟨rfl, (w hg).sat st⟩⟩
theorem bt_endL {v : σ} {Γn : σ → List CA} (w : P → Wk Γ (Γn v)) : Bt sNx Γ (T.rt P v) (LoopP Γn) := ⟨fun hg ρ st => Ok.of rfl ⟨.inl rfl, (w hg).sat st⟩⟩
theorem bt_ctL' {v : σ} {Γn : σ → List CA} (w : P → Wk Γ (Γn v)) : Bt (M.ret .ct) Γ (T.rt P v) (LoopP Γn) := ⟨fun hg ρ st => Ok.of rfl ⟨.inr rfl, (w hg).sat st⟩⟩
theorem bt_endC {v : σ} {Γn : σ → List CA} (w : P → Wk Γ (Γn v)) : Bt sNx Γ (T.rt P (.nxt v)) (CfP post Γn) := ⟨fun hg ρ st => Ok.of rfl ⟨.inl rfl, (w hg).sat st⟩⟩
theorem bt_ctC' {v : σ} {Γn : σ → List CA} (w : P → Wk Γ (Γn v)) : Bt (M.ret .ct) Γ (T.rt P (.nxt v)) (CfP post Γn) := ⟨fun hg ρ st => Ok.of rfl ⟨.inr rfl, (w hg).sat st⟩⟩
theorem bt_bkC {v : σ} {Γn : σ → List CA} (w : P → Wk Γ (Γn v)) : Bt (M.ret .bk) Γ (T.rt P (.brk v)) (CfP post Γn) := ⟨fun hg ρ st => Ok.of rfl ⟨rfl, (w hg).sat st⟩⟩
/-- an end that is no end of the block: it goes past what follows -/
theorem bt_esc {t : T β} (h : Bt s Γ t post) (hn : ∀ v ρ, ¬ post v .nx ρ) : Bt s Γ t (EscP post) := ⟨fun hg ρ st => (h.run hg ρ st).imp fun o ρ q => ⟨fun e => hn t.v ρ (e ▸ q), q⟩⟩
theorem bt_endR {v : β} {en : β → D} {io : β → List (Nat × Nat × D)} (hn : P → en v = .non) (hk : k ≤ 9) (h : P → ∀ ρ, Sat Γ ρ → IoAt (io v) ρ) : Bt sNx Γ (T.rt P v) (RetP en k io) := ⟨fun hg ρ st => Ok.of rfl ⟨⟨9, .inr ⟨rfl, hn hg, hk⟩⟩, h hg ρ st⟩⟩
/-- return -/
theorem io_nil {ρ : Rho} : IoAt [] ρ := fun _ h => nomatch h
theorem io_cons {io : List (Nat × Nat × D)} (h : Γ[i]? = some (.v k d)) (hk : decide (k0 ≤ k) = true) (hs : ∀ ρ, Sat Γ ρ → IoAt io ρ) : ∀ ρ, Sat Γ ρ → IoAt ((i, k0, d) :: io) ρ := fun ρ st q hq => by
  rcases List.mem_cons.mp hq with rfl | hq
  · obtain ⟨k', e, hk'⟩ := st.get h
    have := of_decide_eq_true hk
    exact ⟨k', e, by simpa using by omega⟩
  · exact hs ρ st q hq
theorem io_no : ∀ ρ, Sat Γ ρ → IoAt [] ρ := fun _ _ => io_nil
/-- where a return's value goes -/
structure RO {β β' : Type} (f : β → β') (post : Post β') (en : β → D) (k : Nat) (io : β → List (Nat × Nat × D)) : Prop where
  run : ∀ v k' ρ, k ≤ k' → IoAt (io v) ρ → post (f v) (.rt (k', en v)) ρ
theorem ro_ret {en : β → D} {io : β → List (Nat × Nat × D)} : RO (fun v => v) (RetP en k io) en k io := ⟨fun v k' ρ hk hio => ⟨⟨k', .inl ⟨rfl, hk⟩⟩, hio⟩⟩
theorem ro_esc {β' : Type} {f : β → β'} {post : Post β'} {en : β → D} {io : β → List (Nat × Nat × D)} (h : RO f post en k io) : RO f (EscP post) en k io := ⟨fun v k' ρ hk hio => ⟨by simp, h.run v k' ρ hk hio⟩⟩
theorem ro_sum {β' : Type} {f : β → β'} {post : Post β'} {en : β → D} {io : β → List (Nat × Nat × D)} {Γn : σ → List CA} (h : RO f post en k io) : RO (fun v => .inl (f v)) (SumP post Γn) en k io := ⟨fun v k' ρ hk hio => ⟨by simp, h.run v k' ρ hk hio⟩⟩
theorem ro_cf {β' : Type} {f : β → β'} {post : Post β'} {en : β → D} {io : β → List (Nat × Nat × D)} {Γn : σ → List CA} (h : RO f post en k io) : RO (fun v => .ret (f v)) (CfP post Γn) en k io := ⟨fun v k' ρ hk hio => ⟨.inl ⟨_, rfl⟩, h.run v k' ρ hk hio⟩⟩
theorem bt_ret {β' : Type} {f : β → β'} {post : Post β'} {v : β} {en : β → D} {io : β → List (Nat × Nat × D)} (ro : RO f post en k0 io) (h : P → Ev Γ m k (en v) Γ1) (hk : decide (k0 ≤ k) = true) (hio : P → ∀ ρ, Sat Γ1 ρ → IoAt (io v) ρ) : Bt (sRet m) Γ (T.rt P (f v)) post := ⟨fun hg ρ st => by
  obtain ⟨k1, ρ1, e1, r1, s1⟩ := (h hg).run ρ st
  have := of_decide_eq_true hk
  exact Ok.of (a := .rt (k1, en v)) (ρ := ρ1) (Q := post (f v)) (by unfold sRet M.bind; rw [e1]; rfl) (ro.run v k1 ρ1 (by omega) (hio hg ρ1 s1))⟩
theorem bt_ct {v : β} (h : P → ∀ ρ, Sat Γ ρ → post v .ct ρ) : Bt (M.ret .ct) Γ (T.rt P v) post := ⟨fun hg ρ st => Ok.of rfl (h hg ρ st)⟩
theorem bt_bk {v : β} (h : P → ∀ ρ, Sat Γ ρ → post v .bk ρ) : Bt (M.ret .bk) Γ (T.rt P v) post := ⟨fun hg ρ st => Ok.of rfl (h hg ρ st)⟩
theorem ct_loop {v : σ} {Γn : σ → List CA} (w : Wk Γ (Γn v)) : ∀ ρ, Sat Γ ρ → LoopP Γn v .ct ρ := fun ρ st => ⟨.inr rfl, w.sat st⟩
theorem ct_cf {v : σ} {Γn : σ → List CA} (w : Wk Γ (Γn v)) : ∀ ρ, Sat Γ ρ → CfP post Γn (.nxt v) .ct ρ := fun ρ st => ⟨.inr rfl, w.sat st⟩
theorem ct_esc {v : β} (h : ∀ ρ, Sat Γ ρ → post v .ct ρ) : ∀ ρ, Sat Γ ρ → EscP post v .ct ρ := fun ρ st => ⟨by simp, h ρ st⟩
theorem ct_sum {v : β} {Γn : σ → List CA} (h : ∀ ρ, Sat Γ ρ → post v .ct ρ) : ∀ ρ, Sat Γ ρ → SumP post Γn (.inl v) .ct ρ := fun ρ st => ⟨by simp, h ρ st⟩
theorem bk_cf {v : σ} {Γn : σ → List CA} (w : Wk Γ (Γn v)) : ∀ ρ, Sat Γ ρ → CfP post Γn (.brk v) .bk ρ := fun ρ st => ⟨rfl, w.sat st⟩
theorem bk_esc {v : β} (h : ∀ ρ, Sat Γ ρ → post v .bk ρ) : ∀ ρ, Sat Γ ρ → EscP post v .bk ρ := fun ρ st => ⟨by simp, h ρ st⟩
theorem bk_sum {v : β} {Γn : σ → List CA} (h : ∀ ρ, Sat Γ ρ → post v .bk ρ) : ∀ ρ, Sat Γ ρ → SumP post Γn (.inl v) .bk ρ := fun ρ st => ⟨by simp, h ρ st⟩
/-! if -/
variable {c : M Bool} {x : Bool}
theorem ifRun {Q : Out → Rho → Prop} (h : ET Γ c x Γ1) (ha : x = true → ∀ ρ, Sat Γ1 ρ → Ok (s1 ρ) Q) (hb : x = false → ∀ ρ, Sat Γ1 ρ → Ok (s2 ρ) Q) : ∀ ρ, Sat Γ ρ → Ok (sIf c s1 s2 ρ) Q := fun ρ st => by
  obtain ⟨ρ1, e1, st1⟩ := h.run ρ st
  refine Ok.bind (Ok.of e1 ?_)
  cases x with
  | true => exact ha rfl ρ1 st1
  | false => exact hb rfl ρ1 st1
/-- both branches go on -/
theorem bt_if {tA tB : T σ} {R : σ → T β} (Γn : σ → List CA) (h : P → ET Γ c x Γ1) (ha : x = true → Bt s1 Γ1 tA (JoinP Γn)) (hb : x = false → Bt s2 Γ1 tB (JoinP Γn)) (cc : ∀ y, Bt rest (Γn y) (R y) post) : Bt (sSeq (sIf c s1 s2) rest) Γ (T.bnd (T.ite P x tA tB) R) post := ⟨fun hg ρ st => by
  obtain ⟨⟨hP, g1, g2⟩, g3⟩ := hg
  refine Ok.seq (ifRun (h hP) ?_ ?_ ρ st)
  · intro q ρ1 st1
    refine ((ha q).run (g1 q) ρ1 st1).imp fun o ρ2 ⟨e, st2⟩ => ⟨e, ?_⟩
    have e2 : (T.ite P x tA tB).v = tA.v := by simp [T.ite, q]
    rw [← e2] at st2
    exact (cc _).run g3 ρ2 st2
  · intro q ρ1 st1
    refine ((hb q).run (g2 q) ρ1 st1).imp fun o ρ2 ⟨e, st2⟩ => ⟨e, ?_⟩
    have e2 : (T.ite P x tA tB).v = tB.v := by simp [T.ite, q]
    rw [← e2] at st2
    exact (cc _).run g3 ρ2 st2⟩
/-- the first branch ends the whole; the second one goes on with what follows -/
theorem seq_esc {r : M Out} {Q : Out → Rho → Prop} (h : Ok (s ρ) fun o ρ' => o ≠ .nx ∧ Q o ρ') : Ok (sSeq s r ρ) Q := Ok.bind (h.imp fun o ρ' ⟨hn, q⟩ => by
  cases o with
  | nx => exact absurd rfl hn
  | bk => exact Ok.of rfl q
  | ct => exact Ok.of rfl q
  | rt z => exact Ok.of rfl q
  | xn z => exact Ok.of rfl q)
theorem bt_ifE {tA tR : T β} (h : P → ET Γ c x Γ1) (ha : x = true → Bt s1 Γ1 tA (EscP post)) (hb : x = false → Bt (sSeq s2 rest) Γ1 tR post) : Bt (sSeq (sIf c s1 s2) rest) Γ (T.ite P x tA tR) post := ⟨fun hg ρ st => by
  obtain ⟨hP, g1, g2⟩ := hg
  obtain ⟨ρ1, e1, st1⟩ := (h hP).run ρ st
  have key : sSeq (sIf c s1 s2) rest ρ = sSeq (if x = true then s1 else s2) rest ρ1 := by
    unfold sSeq sIf M.bind
    rw [e1]
  rw [key]
  cases x with
  | true => exact seq_esc ((ha rfl).run (g1 rfl) ρ1 st1)
  | false => exact (hb rfl).run (g2 rfl) ρ1 st1⟩
/-- the second branch ends the whole -/
theorem bt_ifE2 {tB tR : T β} (h : P → ET Γ c x Γ1) (ha : x = true → Bt (sSeq s1 rest) Γ1 tR post) (hb : x = false → Bt s2 Γ1 tB (EscP post)) : Bt (sSeq (sIf c s1 s2) rest) Γ (T.ite P x tR tB) post := ⟨fun hg ρ st => by
  obtain ⟨hP, g1, g2⟩ := hg
  obtain ⟨ρ1, e1, st1⟩ := (h hP).run ρ st
  have key : sSeq (sIf c s1 s2) rest ρ = sSeq (if x = true then s1 else s2) rest ρ1 := by
    unfold sSeq sIf M.bind
    rw [e1]
  rw [key]
  cases x with
  | true => exact (ha rfl).run (g1 rfl) ρ1 st1
  | false => exact seq_esc ((hb rfl).run (g2 rfl) ρ1 st1)⟩
theorem bt_nx {t : T β} (h : Bt rest Γ t post) : Bt (sSeq sNx rest) Γ t post := ⟨fun hg ρ st => seqE rfl (h.run hg ρ st)⟩
/-- rows within rows -/
theorem bt_assoc {t : T β} (h : Bt (sSeq s1 (sSeq s2 rest)) Γ t post) : Bt (sSeq (sSeq s1 s2) rest) Γ t post := ⟨fun hg ρ st => by
  obtain ⟨o, ρ1, e, q⟩ := (h.run hg ρ st).get
  refine Ok.of ?_ q
  unfold sSeq M.bind at e ⊢
  cases e2 : s1 ρ with
  | no => rw [e2] at e; cases e
  | ex x ρ' => rw [e2] at e; cases e
  | ok a ρ' =>
    rw [e2] at e
    cases a <;> exact e⟩
/-- a branch may end the whole or go on -/
theorem bt_ifS {tA tB : T (β ⊕ σ)} {R : σ → T β} (Γn : σ → List CA) (h : P → ET Γ c x Γ1) (ha : x = true → Bt s1 Γ1 tA (SumP post Γn)) (hb : x = false → Bt s2 Γ1 tB (SumP post Γn)) (cc : ∀ y, Bt rest (Γn y) (R y) post) : Bt (sSeq (sIf c s1 s2) rest) Γ (T.bndS (T.ite P x tA tB) R) post := ⟨fun hg ρ st => by
  obtain ⟨⟨hP, g1, g2⟩, g3⟩ := hg
  have main : Ok (sIf c s1 s2 ρ) (SumP post Γn (T.ite P x tA tB).v) := by
    refine ifRun (h hP) ?_ ?_ ρ st
    · intro q ρ1 st1
      have e2 : (T.ite P x tA tB).v = tA.v := by simp [T.ite, q]
      rw [e2]; exact (ha q).run (g1 q) ρ1 st1
    · intro q ρ1 st1
      have e2 : (T.ite P x tA tB).v = tB.v := by simp [T.ite, q]
      rw [e2]; exact (hb q).run (g2 q) ρ1 st1
  unfold T.bndS
  cases q : (T.ite P x tA tB).v with
  | inl b => rw [q] at main; exact seq_esc main
  | inr s0 =>
    rw [q] at main g3
    exact Ok.seq (main.imp fun o ρ2 ⟨e, st2⟩ => ⟨e, (cc s0).run g3 ρ2 st2⟩)⟩
/-! loops -/
theorem fold_run {g : G} {body : M Out} {en : α → D} {Γn : σ → List CA} {Γx : σ → α → List CA} {step : σ → α → T σ} (hg : ∀ s x, EG (Γn s) g 0 (en x) (Γx s x)) (hb : ∀ s x, Bt body (Γx s x) (step s x) (LoopP Γn)) : ∀ (xs : List α) (s0 : σ) (ρ : Rho), (T.fold step xs s0).g → Sat (Γn s0) ρ →
    Ok (forL g body (xs.map en) ρ) fun o ρ' => o = .nx ∧ Sat (Γn (T.fold step xs s0).v) ρ'
  | [], s0, ρ, _, st => Ok.of rfl ⟨rfl, st⟩
  | x :: xs, s0, ρ, hG, st => by
    obtain ⟨ρ1, e1, st1⟩ := (hg s0 x).run ρ (lv (en x)) st (Nat.zero_le _)
    obtain ⟨o, ρ2, e2, ho, st2⟩ := ((hb s0 x).run hG.1 ρ1 st1).get
    have ih := fold_run hg hb xs (step s0 x).v ρ2 hG.2 st2
    rw [List.map_cons]
    unfold forL
    rw [e1]
    simp only [e2]
    rcases ho with rfl | rfl
    · exact ih
    · exact ih
theorem bt_for {it : M (List D)} {g : G} {body : M Out} {xs : List α} {en : α → D} {s0 : σ} (Γn : σ → List CA) {Γx : σ → α → List CA} {step : σ → α → T σ} {R : σ → T β} (h : P → EI Γ it (xs.map en) Γ1) (w : P → Wk Γ1 (Γn s0)) (hg : ∀ s x, EG (Γn s) g 0 (en x) (Γx s x)) (hb : ∀ s x, Bt body (Γx s x) (step s x) (LoopP Γn)) (cc : ∀ s, Bt rest (Γn s) (R s) post) :
    Bt (sSeq (sFor it g body) rest) Γ (T.lt P xs fun xs => T.bnd (T.fold step xs s0) R) post := ⟨fun hg' ρ st => by
  obtain ⟨hP, g1, g2⟩ := hg'
  obtain ⟨ρ1, e1, st1⟩ := (h hP).run ρ st
  refine Ok.seq (Ok.bind (Ok.of e1 ?_))
  exact (fold_run hg hb xs s0 ρ1 g1 ((w hP).sat st1)).imp fun o ρ2 ⟨e, st2⟩ => ⟨e, (cc _).run g2 ρ2 st2⟩⟩
theorem foldR_run {g : G} {body : M Out} {en : α → D} {Γn : σ → List CA} {Γx : σ → α → List CA} {step : σ → α → T (Cf β σ)} (hg : ∀ s x, EG (Γn s) g 0 (en x) (Γx s x)) (hb : ∀ s x, Bt body (Γx s x) (step s x) (CfP post Γn)) : ∀ (xs : List α) (s0 : σ) (ρ : Rho), (T.foldR step xs s0).g → Sat (Γn s0) ρ →
    Ok (forL g body (xs.map en) ρ) (SumP post Γn (T.foldR step xs s0).v)
  | [], s0, ρ, _, st => Ok.of rfl ⟨rfl, st⟩
  | x :: xs, s0, ρ, hG, st => by
    obtain ⟨ρ1, e1, st1⟩ := (hg s0 x).run ρ (lv (en x)) st (Nat.zero_le _)
    obtain ⟨o, ρ2, e2, q⟩ := ((hb s0 x).run hG.1 ρ1 st1).get
    rw [List.map_cons]
    unfold forL
    rw [e1]
    simp only [e2]
    have hG2 := hG.2
    unfold T.foldR
    cases r : (step s0 x).v with
    | ret b =>
      rw [r] at q
      obtain ⟨⟨z, rfl⟩ | ⟨z, rfl⟩, q⟩ := q <;> exact Ok.of rfl ⟨by simp, q⟩
    | brk s =>
      rw [r] at q
      obtain ⟨rfl, q⟩ := q
      exact Ok.of rfl ⟨rfl, q⟩
    | nxt s =>
      rw [r] at q hG2
      obtain ⟨ho, q⟩ := q
      have ih := foldR_run hg hb xs s ρ2 hG2 q
      rcases ho with rfl | rfl
      · exact ih
      · exact ih
theorem bt_forR {it : M (List D)} {g : G} {body : M Out} {xs : List α} {en : α → D} {s0 : σ} (Γn : σ → List CA) {Γx : σ → α → List CA} {step : σ → α → T (Cf β σ)} {R : σ → T β} (h : P → EI Γ it (xs.map en) Γ1) (w : P → Wk Γ1 (Γn s0)) (hg : ∀ s x, EG (Γn s) g 0 (en x) (Γx s x)) (hb : ∀ s x, Bt body (Γx s x) (step s x) (CfP post Γn)) (cc : ∀ s, Bt rest (Γn s) (R s) post) :
    Bt (sSeq (sFor it g body) rest) Γ (T.lt P xs fun xs => T.bndS (T.foldR step xs s0) R) post := ⟨fun hg' ρ st => by
  obtain ⟨hP, g1, g2⟩ := hg'
  obtain ⟨ρ1, e1, st1⟩ := (h hP).run ρ st
  have main : Ok (sFor it g body ρ) (SumP post Γn (T.foldR step xs s0).v) := Ok.bind (Ok.of e1 (foldR_run hg hb xs s0 ρ1 g1 ((w hP).sat st1)))
  show Ok _ (post (T.bndS (T.foldR step xs s0) R).v)
  unfold T.bndS
  cases q : (T.foldR step xs s0).v with
  | inl b => rw [q] at main; exact seq_esc main
  | inr s1 =>
    rw [q] at main g2
    exact Ok.seq (main.imp fun o ρ2 ⟨e, st2⟩ => ⟨e, (cc s1).run g2 ρ2 st2⟩)⟩
/-! while -/
theorem whl_run {c : M Bool} {body : M Out} {Γn Γc : σ → List CA} {cv : σ → T Bool} {step : σ → T σ} (hc : ∀ s, (cv s).g → ET (Γn s) c (cv s).v (Γc s)) (hw : ∀ s, Wk (Γc s) (Γn s)) (hb : ∀ s, Bt body (Γc s) (step s) (LoopP Γn)) : ∀ (n : Nat) (s0 : σ) (ρ : Rho), (T.whl cv step n s0).g → Sat (Γn s0) ρ →
    Ok (whL c body n ρ) fun o ρ' => o = .nx ∧ Sat (Γn (T.whl cv step n s0).v) ρ'
  | 0, s0, ρ, hG, st => hG.elim
  | n + 1, s0, ρ, hG, st => by
    obtain ⟨g1, g2⟩ := hG
    obtain ⟨ρ1, e1, st1⟩ := (hc s0 g1).run ρ st
    unfold whL
    refine Ok.bind (Ok.of e1 ?_)
    unfold T.whl
    cases q : (cv s0).v with
    | false => exact Ok.of rfl ⟨rfl, (hw s0).sat st1⟩
    | true =>
      obtain ⟨g3, g4⟩ := g2 q
      obtain ⟨o, ρ2, e2, ho, st2⟩ := ((hb s0).run g3 ρ1 st1).get
      have ih := whl_run hc hw hb n (step s0).v ρ2 g4 st2
      simp only [if_true, e2]
      rcases ho with rfl | rfl
      · exact ih
      · exact ih
theorem bt_while {c : M Bool} {body : M Out} {s0 : σ} (Γn : σ → List CA) {Γc : σ → List CA} {cv : σ → T Bool} {step : σ → T σ} {R : σ → T β} (w : Wk Γ (Γn s0)) (hc : ∀ s, (cv s).g → ET (Γn s) c (cv s).v (Γc s)) (hw : ∀ s, Wk (Γc s) (Γn s)) (hb : ∀ s, Bt body (Γc s) (step s) (LoopP Γn)) (cc : ∀ s, Bt rest (Γn s) (R s) post) :
    Bt (sSeq (sWh c body) rest) Γ (T.bnd (T.whl cv step whN s0) R) post := ⟨fun hg ρ st => by
  obtain ⟨g1, g2⟩ := hg
  exact Ok.seq ((whl_run hc hw hb whN s0 ρ g1 (w.sat st)).imp fun o ρ2 ⟨e, st2⟩ => ⟨e, (cc _).run g2 ρ2 st2⟩)⟩
theorem whlR_run {c : M Bool} {body : M Out} {Γn Γc : σ → List CA} {cv : σ → T Bool} {step : σ → T (Cf β σ)} (hc : ∀ s, (cv s).g → ET (Γn s) c (cv s).v (Γc s)) (hw : ∀ s, Wk (Γc s) (Γn s)) (hb : ∀ s, Bt body (Γc s) (step s) (CfP post Γn)) : ∀ (n : Nat) (s0 : σ) (ρ : Rho), (T.whlR cv step n s0).g → Sat (Γn s0) ρ →
    Ok (whL c body n ρ) (SumP post Γn (T.whlR cv step n s0).v)
  | 0, s0, ρ, hG, st => hG.elim
  | n + 1, s0, ρ, hG, st => by
    obtain ⟨g1, g2⟩ := hG
    obtain ⟨ρ1, e1, st1⟩ := (hc s0 g1).run ρ st
    unfold whL
    refine Ok.bind (Ok.of e1 ?_)
    unfold T.whlR
    cases q : (cv s0).v with
    | false => exact Ok.of rfl ⟨rfl, (hw s0).sat st1⟩
    | true =>
      obtain ⟨g3, g4⟩ := g2 q
      obtain ⟨o, ρ2, e2, q2⟩ := ((hb s0).run g3 ρ1 st1).get
      simp only [if_true, e2]
      cases r : (step s0).v with
      | ret b =>
        rw [r] at q2
        obtain ⟨⟨z, rfl⟩ | ⟨z, rfl⟩, q2⟩ := q2 <;> exact Ok.of rfl ⟨by simp, q2⟩
      | brk s =>
        rw [r] at q2
        obtain ⟨rfl, q2⟩ := q2
        exact Ok.of rfl ⟨rfl, q2⟩
      | nxt s =>
        rw [r] at q2 g4
        obtain ⟨ho, q2⟩ := q2
        have ih := whlR_run hc hw hb n s ρ2 g4 q2
        rcases ho with rfl | rfl
        · exact ih
        · exact ih
theorem bt_whileR {c : M Bool} {body : M Out} {s0 : σ} (Γn : σ → List CA) {Γc : σ → List CA} {cv : σ → T Bool} {step : σ → T (Cf β σ)} {R : σ → T β} (w : Wk Γ (Γn s0)) (hc : ∀ s, (cv s).g → ET (Γn s) c (cv s).v (Γc s)) (hw : ∀ s, Wk (Γc s) (Γn s)) (hb : ∀ s, Bt body (Γc s) (step s) (CfP post Γn)) (cc : ∀ s, Bt rest (Γn s) (R s) post) :
    Bt (sSeq (sWh c body) rest) Γ (T.bndS (T.whlR cv step whN s0) R) post := ⟨fun hg ρ st => by
  obtain ⟨g1, g2⟩ := hg
  have main := whlR_run hc hw hb whN s0 ρ g1 (w.sat st)
  show Ok _ (post (T.bndS (T.whlR cv step whN s0) R).v)
  unfold T.bndS
  cases q : (T.whlR cv step whN s0).v with
  | inl b => rw [q] at main; exact seq_esc main
  | inr s1 =>
    rw [q] at main g2
    exact Ok.seq (main.imp fun o ρ2 ⟨e, st2⟩ => ⟨e, (cc s1).run g2 ρ2 st2⟩)⟩
/-! defs -/
structure Sp (F : List LD → R LD) (as : List (Nat × D)) (k : Nat) (d : D) (io : List (Nat × Nat × D)) : Prop where
  run : ∀ xs, LeVs as xs → ∃ k' ρ, F xs = .ok (k', d) ρ ∧ k ≤ k' ∧ IoAt io ρ
def argsS (as : List (Nat × D)) : List CA := as.map fun a => .v a.1 a.2
theorem args_sat {as : List (Nat × D)} {xs : List LD} (h : LeVs as xs) (n : Nat) : Sat (argsS as ++ List.replicate n .u) (xs.map (fun x => Cell.c x.1 x.2) ++ List.replicate n Cell.u) := by
  induction h with
  | nil =>
    induction n with
    | zero => exact .nil
    | succ n ih => exact .u ih
  | cons hk _ ih => exact .v hk ih
theorem sp_of {n : Nat} {m : M Out} {as : List (Nat × D)} {t : T β} {en : β → D} {io : β → List (Nat × Nat × D)} (hg : t.g) (h : Bt m (argsS as ++ List.replicate (n - as.length) .u) t (RetP en k io)) : Sp (fnRun n m) as k (en t.v) (io t.v) := ⟨fun xs hx => by
  have st := args_sat hx (n - as.length)
  obtain ⟨o, ρ1, e, ⟨k', q⟩, hio⟩ := (h.run hg _ st).get
  unfold fnRun
  rw [hx.len, e]
  rcases q with ⟨rfl, hk⟩ | ⟨rfl, e2, hk⟩
  · exact ⟨k', ρ1, rfl, hk, hio⟩
  · exact ⟨9, ρ1, by rw [e2], hk, hio⟩⟩
/-! calls -/
/-- what is handed in, and the cells behind -/
def takeS : List CA → List AS → Option (List (Nat × D) × List CA)
  | Γ, [] => some ([], Γ)
  | Γ, .val k d :: ss => match takeS Γ ss with
    | some y => some ((k, d) :: y.1, y.2)
    | none => none
  | Γ, .vw i :: ss => match Γ[i]? with
    | some (.v k d) => if d.isS then none else (match takeS (Γ.set i .u) ss with
      | some y => some ((k, d) :: y.1, y.2)
      | none => none)
    | _ => none
theorem take_run {ss : List AS} {xs : List Ar} (h : AsRs ss xs) : ∀ {Γ : List CA} {ρ : Rho} {as : List (Nat × D)} {Γ1 : List CA}, Sat Γ ρ → takeS Γ ss = some (as, Γ1) → ∃ ys ρ1, takeA ρ xs = some (ys, ρ1) ∧ LeVs as ys ∧ Sat Γ1 ρ1 := by
  induction h with
  | nil => intro Γ ρ as Γ1 st e; cases e; exact ⟨[], ρ, rfl, .nil, st⟩
  | cons h _ ih =>
    intro Γ ρ as Γ1 st e
    cases h with
    | val hk =>
      unfold takeS at e
      rename_i ss xs _ k k' d
      cases q : takeS Γ ss with
      | none => rw [q] at e; cases e
      | some y =>
        rw [q] at e
        cases e
        obtain ⟨ys, ρ1, e1, l1, s1⟩ := ih st q
        exact ⟨_, ρ1, by unfold takeA; rw [e1]; rfl, .cons hk l1, s1⟩
    | vw =>
      rename_i ss xs _ i
      unfold takeS at e
      cases q : Γ[i]? with
      | none => rw [q] at e; cases e
      | some c =>
        rw [q] at e
        cases c with
        | u => cases e
        | f => cases e
        | a => cases e
        | v k d =>
          simp only at e
          obtain ⟨k', e0, hk⟩ := st.get q
          cases hs : d.isS with
          | true => rw [hs] at e; cases e
          | false =>
            rw [hs] at e
            simp only [Bool.false_eq_true, if_false] at e
            cases q2 : takeS (Γ.set i .u) ss with
            | none => rw [q2] at e; cases e
            | some y =>
              rw [q2] at e
              cases e
              obtain ⟨ys, ρ1, e1, l1, s1⟩ := ih (st.set .u) q2
              exact ⟨_, ρ1, by unfold takeA; rw [e0]; simp only [hs, Bool.false_eq_true, if_false, e1, Option.map_some], .cons hk l1, s1⟩
theorem pick_rel {ss : List AS} {xs : List Ar} (h : AsRs ss xs) : ∀ n : Nat, (ss[n]? = none ∧ xs[n]? = none) ∨ ∃ s x, ss[n]? = some s ∧ xs[n]? = some x ∧ AsR s x := by
  induction h with
  | nil => intro n; left; simp
  | cons h _ ih => intro n; cases n with
    | zero => right; exact ⟨_, _, rfl, rfl, h⟩
    | succ n => simpa using ih n
theorem pick_run {ss : List AS} {xs : List Ar} (h : AsRs ss xs) : ∀ pm : List Nat, AsRs (pickL pm ss) (pickL pm xs)
  | [] => .nil
  | p :: pm => by
    have ih := pick_run h pm
    unfold pickL at ih ⊢
    rw [List.filterMap_cons, List.filterMap_cons]
    rcases pick_rel h p with ⟨e1, e2⟩ | ⟨s, x, e1, e2, r⟩
    · rw [e1, e2]; exact ih
    · rw [e1, e2]; exact .cons r ih
theorem AsRs.app {ss tt : List AS} {xs ys : List Ar} (h : AsRs ss xs) (h2 : AsRs tt ys) : AsRs (ss ++ tt) (xs ++ ys) := by
  induction h with
  | nil => exact h2
  | cons h _ ih => exact .cons h ih
theorem AsRs.len {ss : List AS} {xs : List Ar} (h : AsRs ss xs) : xs.length = ss.length := by
  induction h with
  | nil => rfl
  | cons _ _ ih => simp [ih]
theorem LeVs.mono {as bs : List (Nat × D)} (h : LeVs as bs) : ∀ {xs : List LD}, LeVs bs xs → LeVs as xs := by
  induction h with
  | nil => intro xs h; exact h
  | cons hk _ ih => intro xs h; cases h with | cons h1 h2 => exact .cons (Nat.le_trans hk h1) (ih h2)
theorem e_lv {k' : Nat} (h : Ev Γ m k d Γ1) (hk : k' ≤ k) : Ev Γ m k' d Γ1 := ⟨fun ρ st => by
  obtain ⟨k1, ρ1, e1, r1, s1⟩ := h.run ρ st
  exact ⟨k1, ρ1, e1, by omega, s1⟩⟩
/-- a def that changes nothing of what it gets -/
theorem e_call {F : List LD → R LD} {pm : List Nat} {n kn : Nat} {ma mk : M (List Ar)} {ss tt : List AS} {as as0 : List (Nat × D)} {io : List (Nat × Nat × D)} (h : EAs Γ ma ss Γ1) (h2 : EAs Γ1 mk tt Γ2) (hl : decide (ss.length = n ∧ tt.length = kn) = true) (ht : takeS Γ2 (pickL pm (ss ++ tt)) = some (as, Γ3)) (le : LeVs as0 as) (hs : Sp F as0 k d io) : Ev Γ (callG F [] pm n kn ma mk) k d Γ3 := ⟨fun ρ st => by
  obtain ⟨xs, ρ1, e1, r1, s1⟩ := h.run ρ st
  obtain ⟨ys, ρ2, e2, r2, s2⟩ := h2.run ρ1 s1
  obtain ⟨zs, ρ3, e3, l3, s3⟩ := take_run (pick_run (r1.app r2) pm) s2 ht
  obtain ⟨k', ρc, e4, hk, _⟩ := hs.run zs (le.mono l3)
  have hl' := of_decide_eq_true hl
  rw [← r1.len, ← r2.len] at hl'
  exact ⟨k', ρ3, by unfold callG M.bind; rw [e1]; simp only [M.bind, e2]; rw [if_pos hl']; simp only [e3, e4, backA], hk, s3⟩⟩
/-- one that changes the content of one name -/
theorem e_callIo {F : List LD → R LD} {p : Nat} {pm : List Nat} {n kn : Nat} {ma mk : M (List Ar)} {ss tt : List AS} {as as0 : List (Nat × D)} {kp : Nat} {dp : D} (h : EAs Γ ma ss Γ1) (h2 : EAs Γ1 mk tt Γ2) (hl : decide (ss.length = n ∧ tt.length = kn) = true) (ht : takeS Γ2 (pickL pm (ss ++ tt)) = some (as, Γ3)) (hp : (pickL pm (ss ++ tt))[p]? = some (.vw i)) (hu : Γ3[i]? = some .u) (le : LeVs as0 as) (hs : Sp F as0 k d [(p, kp, dp)]) : Ev Γ (callG F [p] pm n kn ma mk) k d (Γ3.set i (.v kp dp)) := ⟨fun ρ st => by
  obtain ⟨xs, ρ1, e1, r1, s1⟩ := h.run ρ st
  obtain ⟨ys, ρ2, e2, r2, s2⟩ := h2.run ρ1 s1
  have rr := pick_run (r1.app r2) pm
  obtain ⟨zs, ρ3, e3, l3, s3⟩ := take_run rr s2 ht
  obtain ⟨k', ρc, e4, hk, hio⟩ := hs.run zs (le.mono l3)
  obtain ⟨k2, e5, hk2⟩ := hio _ (List.mem_cons_self ..)
  have hl' := of_decide_eq_true hl
  rw [← r1.len, ← r2.len] at hl'
  have hv : (pickL pm (xs ++ ys))[p]? = some (.view i) := by
    rcases pick_rel rr p with ⟨q1, q2⟩ | ⟨s, x, q1, q2, r⟩
    · rw [hp] at q1; cases q1
    · rw [hp] at q1; cases q1; cases r; exact q2
  have hu' := s3.getu hu
  have hb : backA (pickL pm (xs ++ ys)) ρ3 ρc [p] = some (ρ3.set i (.c k2 dp)) := by
    unfold backA
    rw [hv, e5]
    simp only [hu']
    rfl
  exact ⟨k', ρ3.set i (.c k2 dp), by unfold callG M.bind; rw [e1]; simp only [M.bind, e2]; rw [if_pos hl']; simp only [e3, e4, hb], hk, s3.set (.v hk2)⟩⟩
end
end Ts
set_option Elab.async false
set_option linter.all false
set_option maxRecDepth 100000
set_option maxHeartbeats 400000
/-! Ts4: the typed side: more operations. -/
namespace Ts
open PySem PySem.Spec PyProof.Rows L2 Vs
section
variable {Γ Γ1 Γ2 Γ3 : List CA} {ρ : Rho} {k k0 ka kb ki i j : Nat} {d d0 da db y : D} {a b m : M LD} {α β γ δ σ : Type} {s s1 s2 rest : M Out} {P : Prop} {post : Post β}
theorem cv_T {e : α → D} {v : List α} : eT e v = eT eD (v.map e) := by simp [eT, eD]
theorem cv_L {e : α → D} {v : List α} : eL e v = eL eD (v.map e) := by simp [eL, eD]
theorem cv_R {e : α → D} {v : List α} : eR e v = eR eD (v.map e) := by simp [eR, eD]
theorem cv_mapT {e : α → D} {e' : β → D} {g : α → β} {v : List α} (h : ∀ x, e x = e' (g x)) : eT e v = eT e' (v.map g) := by simp [eT, h]
theorem cv_mapL {e : α → D} {e' : β → D} {g : α → β} {v : List α} (h : ∀ x, e x = e' (g x)) : eL e v = eL e' (v.map g) := by simp [eL, h]
theorem cv_mapR {e : α → D} {e' : β → D} {g : α → β} {v : List α} (h : ∀ x, e x = e' (g x)) : eR e v = eR e' (v.map g) := by simp [eR, h]
theorem bt_forgetS {vs : List Nat} {t : T β} (h : Bt (sSeq s rest) (wipeS Γ vs) t post) : Bt (sSeq (forget vs s) rest) Γ t post := ⟨fun hg ρ st => by
  have := h.run hg _ (st.wipe vs)
  exact this⟩
/-! trees that are known to be rows, numbers -/
def tupOf : D → List D
  | .tup xs => xs
  | _ => []
def isTupD : D → Bool
  | .tup _ => true
  | _ => false
def intOf : D → Int
  | .int i => i
  | _ => 0
def isIntD : D → Bool
  | .int _ => true
  | _ => false
theorem cv_tup {d : D} (h : isTupD d = true) : d = eT eD (tupOf d) := by
  cases d with
  | tup xs =>
    have : List.map eD xs = xs := by
      have e : (eD : D → D) = id := rfl
      rw [e, List.map_id]
    simp only [eT, tupOf, this]
  | _ => cases h
theorem cv_int {d : D} (h : isIntD d = true) : d = eI (intOf d) := by
  cases d with
  | tup xs => first | rfl | cases h
  | int i => first | rfl | cases h
  | _ => cases h
theorem o_lenTD {d : D} (h : isTupD d = true) : o1 fLen [d] = some (.int (tupOf d).length) := by
  cases d with
  | tup xs => first | rfl | cases h
  | int i => first | rfl | cases h
  | _ => cases h
theorem o_cast1 {o : List D → Option D} {d r : D} {ds : List D} (h : isIntD d = true) (q : o (eI (intOf d) :: ds) = some r) : o (d :: ds) = some r := by
  cases d with
  | tup xs => first | exact q | cases h
  | int i => exact q
  | _ => cases h
theorem o_absD {d : D} (h : isIntD d = true) : o1 fAbs [d] = some (.int (absI (intOf d))) := by
  cases d with
  | tup xs => first | rfl | cases h
  | int i => exact o_abs
  | _ => cases h
abbrev DivOk (y : Int) : Prop := 0 < y ∧ y.natAbs.log2 < 9000
abbrev RepTOk (n : Int) (xs : List α) : Prop := n = 1 ∨ xs ≠ [] ∧ 2 ≤ n ∧ n ≤ 1000 ∧ xs.length ≤ 1000
theorem mulE_D {x y : LD} (h : ∀ n, y.2 ≠ .int n ∨ x.2.isS = true ∨ (∃ xs, x.2 = .lst xs)) : mulE x y = mulD x y := by
  unfold mulE
  split
  · rename_i xs h1 h2
    rcases h 1 with q | q | ⟨ys, q⟩
    · exact absurd h2 q
    · rw [h1] at q; cases q
    · rw [h1] at q; cases q
  · rfl
theorem os_eI {x y : Int} (h : mulOk x y = true) : OpS mulE ka (.int x) kb (.int y) 9 (.int (x * y)) := fun k1 k2 h1 h2 => by
  rw [mulE_D fun _ => .inr (.inl rfl)]; exact os_mulI h k1 k2 h1 h2
theorem os_eL {e : α → D} {xs : List α} {n : Int} (he : Flat e) (h : RepOk n xs) : OpS mulE ka (eL e xs) kb (.int n) 9 (eL e (repI n xs)) := fun k1 k2 h1 h2 => by
  rw [mulE_D fun _ => .inr (.inr ⟨_, rfl⟩)]; exact os_mulL he h k1 k2 h1 h2
theorem os_eLn {e : α → D} {xs : List α} {n : Int} (h : RepOk n xs) : OpS mulE ka (eL e xs) kb (.int n) 1 (eL e (repI n xs)) := fun k1 k2 h1 h2 => by
  rw [mulE_D fun _ => .inr (.inr ⟨_, rfl⟩)]; exact os_mulLn h k1 k2 h1 h2
theorem os_eT {e : α → D} {xs : List α} {n : Int} (h : RepTOk n xs) : OpS mulE ka (eT e xs) kb (.int n) 0 (eT e (repI n xs)) := fun k1 k2 h1 h2 => by
  by_cases q : n = 1
  · subst q
    exact ⟨k1, Nat.zero_le _, by simp [mulE, eT, repI]⟩
  · have h := h.resolve_left q
    have e1 : mulE (k1, eT e xs) (k2, .int n) = mulD (k1, eT e xs) (k2, .int n) := by
      unfold mulE
      split
      · rename_i h2; exact absurd (by injection h2) q
      · rfl
    rw [e1]
    exact os_mulT h k1 k2 h1 h2
def EqOk (x y : D) : Prop := (eqD x y).isSome = true
def dEq (x y : D) : Bool := (eqD x y).getD false
theorem o_eqD {x y : D} (h : EqOk x y) : oEq [x, y] = some (.bl (dEq x y)) := by
  unfold EqOk at h
  cases q : eqD x y with
  | none => rw [q] at h; cases h
  | some b => simp [oEq, dEq, q]
theorem o_neD {x y : D} (h : EqOk x y) : oNe [x, y] = some (.bl (!dEq x y)) := by
  unfold EqOk at h
  cases q : eqD x y with
  | none => rw [q] at h; cases h
  | some b => simp [oNe, dEq, q]
theorem eqe_wk [DecidableEq α] {e : α → D} {n n' : Nat} (h : EqE e n) (hn : n ≤ n') : EqE e n' := by
  obtain ⟨p, h1, h2, h3, h4⟩ := h
  exact ⟨p, h1, h2, fun x => Nat.le_trans (h3 x) hn, h4⟩
theorem inV_I {x : Int} (xs : List Int) : inV (V.int x) (xs.map V.int) = decide (x ∈ xs) := by
  have q : ∀ y : Int, eqV (V.int y) (V.int x) = decide (y = x) := fun y => by simp [eqV, Bool.beq_eq_decide_eq]
  unfold inV
  rw [List.any_map]
  induction xs with
  | nil => rfl
  | cons y ys ih =>
    rw [List.any_cons, ih]
    simp only [Function.comp, q]
    by_cases h : y = x
    · simp [h]
    · have : ¬ x = y := fun e => h e.symm
      simp [h, this]
theorem sv_I (xs : List Int) : (xs.map D.int).map D.sv = xs.map V.int := by simp [D.sv, Function.comp_def]
theorem o_inL {x : Int} {xs : List Int} : oIn [.int x, eL eI xs] = some (.bl (decide (x ∈ xs))) := by
  have h : (xs.map D.int).all D.isS = true := by simp
  simp only [oIn, inD, eL, rowD, isS_int, h, Bool.and_self, if_true, sv_I, D.sv, inV_I xs, Option.map_some]
theorem o_inT {x : Int} {xs : List Int} : oIn [.int x, eT eI xs] = some (.bl (decide (x ∈ xs))) := by
  have h : (xs.map D.int).all D.isS = true := by simp
  simp only [oIn, inD, eT, rowD, isS_int, h, Bool.and_self, if_true, sv_I, D.sv, inV_I xs, Option.map_some]
theorem o_ninL {x : Int} {xs : List Int} : oNotIn [.int x, eL eI xs] = some (.bl (!decide (x ∈ xs))) := by
  have h : (xs.map D.int).all D.isS = true := by simp
  simp only [oNotIn, inD, eL, rowD, isS_int, h, Bool.and_self, if_true, sv_I, D.sv, inV_I xs, Option.map_some]
theorem o_ninT {x : Int} {xs : List Int} : oNotIn [.int x, eT eI xs] = some (.bl (!decide (x ∈ xs))) := by
  have h : (xs.map D.int).all D.isS = true := by simp
  simp only [oNotIn, inD, eT, rowD, isS_int, h, Bool.and_self, if_true, sv_I, D.sv, inV_I xs, Option.map_some]
/-- xs[i][j] of a list of lists -/
theorem e_alt2 [Inhabited α] {e : α → D} {xs : List (List α)} {n l : Int} {q q' : Rho → Option D} {m2 : M LD} (h0 : Γ[j]? = some (.v k (eL (eL e) xs))) (hq : EQ Γ q (.int n)) (hq' : EQ Γ q' (.int l)) (he : Flat e) (hn : InR xs.length n) (hl : InR (getI xs n).length l) :
    Ev Γ (altM (rdP (plX (plX (plN j) q) q')) m2) 9 (e (getI (getI xs n) l)) Γ := ⟨fun ρ s => by
  obtain ⟨k2, e0, hk2⟩ := s.get h0
  refine ⟨9, ρ, ?_, Nat.le_refl _, s⟩
  have i1 : ixN (xs.map (eL e)).length n = some (ixI xs.length n) := by rw [List.length_map]; exact ixN_ix hn
  have g1 : (xs.map (eL e))[ixI xs.length n]? = some (eL e (getI xs n)) := by rw [List.getElem?_map, getI_ix hn]; rfl
  have i2 : ixN ((getI xs n).map e).length l = some (ixI (getI xs n).length l) := by rw [List.length_map]; exact ixN_ix hl
  have g2 : ((getI xs n).map e)[ixI (getI xs n).length l]? = some (e (getI (getI xs n) l)) := by rw [List.getElem?_map, getI_ix hl]; rfl
  have p : plX (plX (plN j) q) q' ρ = .ok (j, [.ix (ixI xs.length n), .ix (ixI (getI xs n).length l)]) ρ := by
    have p1 : plX (plN j) q ρ = .ok (j, [.ix (ixI xs.length n)]) ρ := by
      simp only [plX, plN, M.bind, e0, hq.run ρ s, subT]
      simp only [eL, i1, List.nil_append]
    have p2 : subT (eL (eL e) xs) [.ix (ixI xs.length n)] = some (.lst ((getI xs n).map e)) := by
      show (((xs.map (eL e))[ixI xs.length n]?).bind fun x => subT x []) = _
      rw [g1]; rfl
    show M.bind (plX (plN j) q) _ ρ = _
    unfold M.bind
    rw [p1]
    simp only [e0, hq'.run ρ s, p2, i2, List.cons_append, List.nil_append]
  have r : rdP (plX (plX (plN j) q) q') ρ = .ok (9, e (getI (getI xs n) l)) ρ := by
    unfold rdP M.bind
    rw [p]
    have p3 : subT (eL (eL e) xs) [.ix (ixI xs.length n), .ix (ixI (getI xs n).length l)] = some (e (getI (getI xs n) l)) := by
      show (((xs.map (eL e))[ixI xs.length n]?).bind fun x => subT x _) = _
      rw [g1]
      show ((((getI xs n).map e)[ixI (getI xs n).length l]?).bind fun x => subT x []) = _
      rw [g2]; rfl
    simp only [e0, p3, he.s, if_true]
  unfold altM
  rw [r]⟩
theorem eq_XP {ds : List D} {n : Int} {p : Rho → Option D} (h0 : Γ[j]? = some (.v k (.tup ds))) (h : EQ Γ p (.int n)) (hn : atI ds n = some d) (hs : d.isS = true) : EQ Γ (qX j p) d := ⟨fun ρ s => by
  obtain ⟨k', e0, _⟩ := s.get h0
  unfold qX; rw [e0, h.run ρ s]; simp [hn, hs]⟩
theorem e_callN {F : List LD → R LD} {p : Nat} {pm : List Nat} {n kn : Nat} {ma mk : M (List Ar)} {ss tt : List AS} {as as0 : List (Nat × D)} {io : List (Nat × Nat × D)} {kv : Nat} {dv : D} (h : EAs Γ ma ss Γ1) (h2 : EAs Γ1 mk tt Γ2) (hl : decide (ss.length = n ∧ tt.length = kn) = true) (ht : takeS Γ2 (pickL pm (ss ++ tt)) = some (as, Γ3)) (hp : (pickL pm (ss ++ tt))[p]? = some (.val kv dv)) (le : LeVs as0 as) (hs : Sp F as0 k d io) : Ev Γ (callG F [p] pm n kn ma mk) k d Γ3 := ⟨fun ρ st => by
  obtain ⟨xs, ρ1, e1, r1, s1⟩ := h.run ρ st
  obtain ⟨ys, ρ2, e2, r2, s2⟩ := h2.run ρ1 s1
  have rr := pick_run (r1.app r2) pm
  obtain ⟨zs, ρ3, e3, l3, s3⟩ := take_run rr s2 ht
  obtain ⟨k', ρc, e4, hk, hio⟩ := hs.run zs (le.mono l3)
  have hl' := of_decide_eq_true hl
  rw [← r1.len, ← r2.len] at hl'
  have hv : ∃ x, (pickL pm (xs ++ ys))[p]? = some (.val x) := by
    rcases pick_rel rr p with ⟨q1, q2⟩ | ⟨s, x, q1, q2, r⟩
    · rw [hp] at q1; cases q1
    · rw [hp] at q1; cases q1; cases r; exact ⟨_, q2⟩
  obtain ⟨x, hv⟩ := hv
  have hb : backA (pickL pm (xs ++ ys)) ρ3 ρc [p] = some ρ3 := by
    unfold backA
    rw [hv]
    cases ρc[p]? with
    | none => rfl
    | some c => cases c <;> rfl
  exact ⟨k', ρ3, by unfold callG M.bind; rw [e1]; simp only [M.bind, e2]; rw [if_pos hl']; simp only [e3, e4, hb], hk, s3⟩⟩
theorem bt_seqX {t : T β} (h : Bt s Γ t (EscP post)) : Bt (sSeq s rest) Γ t post := ⟨fun hg ρ st => seq_esc (h.run hg ρ st)⟩
theorem bt_addNx {t : T β} (h : Bt s Γ t post) : Bt (sSeq s sNx) Γ t post := ⟨fun hg ρ st => by
  obtain ⟨o, ρ1, e, q⟩ := (h.run hg ρ st).get
  refine Ok.of (a := o) (ρ := ρ1) ?_ q
  unfold sSeq M.bind
  rw [e]
  cases o <;> rfl⟩
theorem sSeq_assoc {a b c : M Out} : sSeq (sSeq a b) c = sSeq a (sSeq b c) := by
  funext ρ
  unfold sSeq M.bind
  cases a ρ with
  | no => rfl
  | ex x ρ' => rfl
  | ok o ρ' => cases o <;> rfl
theorem mo_extL {e : α → D} {xs ys : List α} (hl : xs.length + ys.length ≤ lineN) : ∀ k1 as, k + 1 ≤ k1 → LeVs [(ka, eL e ys)] as → ∃ kz1 kn1, 9 ≤ kz1 ∧ min k (ka - 1) + 1 ≤ kn1 ∧ moExtendX k1 (eL e xs) as = some ((kz1, .non), kn1, eL e (xs ++ ys)) := fun k1 as hk h => by
  cases h with | cons hk2 h => cases h with | nil =>
  obtain ⟨k3, rfl⟩ : ∃ k3, k1 = k3 + 1 := ⟨k1 - 1, by omega⟩
  rename_i k'
  exact ⟨9, min k3 (k' - 1) + 1, by omega, by omega, by simp [moExtendX, eL, hl]⟩
theorem mo_extT {e : α → D} {xs ys : List α} (hl : xs.length + ys.length ≤ lineN) : ∀ k1 as, k + 1 ≤ k1 → LeVs [(ka, eT e ys)] as → ∃ kz1 kn1, 9 ≤ kz1 ∧ min k ka + 1 ≤ kn1 ∧ moExtendX k1 (eL e xs) as = some ((kz1, .non), kn1, eL e (xs ++ ys)) := fun k1 as hk h => by
  cases h with | cons hk2 h => cases h with | nil =>
  obtain ⟨k3, rfl⟩ : ∃ k3, k1 = k3 + 1 := ⟨k1 - 1, by omega⟩
  rename_i k'
  exact ⟨9, min k3 k' + 1, by omega, by omega, by simp [moExtendX, eL, eT, hl]⟩
def isDb (T : Ty) (d : D) : Bool := match tyD d with
  | some t => isTy t T
  | none => false
theorem o_isD {T : Ty} {d : D} (h : (tyD d).isSome = true) : isD T d = some (.bl (isDb T d)) := by
  unfold isD isDb
  cases q : tyD d with
  | none => rw [q] at h; cases h
  | some t => rfl
def SplitOk (x y : Str) : Prop := (y.length == 0) = false ∧ x.length + 2 ≤ lineN
theorem e_split {x y : Str} (h : Ev Γ a ka (.str x) Γ1) (h2 : Ev Γ1 b kb (.str y) Γ2) (hg : SplitOk x y) : Ev Γ (splM a b) 9 (eL eS (Txt.split x y)) Γ2 := ⟨fun ρ st => by
  obtain ⟨k1, ρ1, e1, r1, s1⟩ := h.run ρ st
  obtain ⟨k2, ρ2, e2, r2, s2⟩ := h2.run ρ1 s1
  exact ⟨9, ρ2, by unfold splM M.bind; rw [e1]; simp only [M.bind, e2]; exact if_pos hg, Nat.le_refl _, s2⟩⟩
def IntTextOk (x : Str) : Prop := x.length ≤ 640 ∧ (PySem.intText? x).isSome = true
def intText (x : Str) : Int := (PySem.intText? x).getD 0
theorem o_intText {x : Str} (h : IntTextOk x) : o1 fIntS [.str x] = some (.int (intText x)) := by
  obtain ⟨h1, h2⟩ := h
  cases q : PySem.intText? x with
  | none => rw [q] at h2; cases h2
  | some n => simp [o1, fIntS, h1, q, intText]
theorem ifF {c : Bool} {x z : α} (h : c = false) : (if c = true then x else z) = z := by simp [h]
theorem ifT {c : Bool} {x z : α} (h : c = true) : (if c = true then x else z) = x := by simp [h]
/-- a value that may be None, where it is none -/
theorem cv_O [Inhabited α] {e : α → D} {u : Option α} (h : u.isSome = true) : eO e u = e (u.getD default) := by
  cases u with
  | none => cases h
  | some x => rfl
end
end Ts
set_option Elab.async false
set_option linter.all false
set_option maxRecDepth 100000
set_option maxHeartbeats 400000
/-! Ts5: the typed side of exceptions: what may raise gives Xn ⊕ β. -/
namespace Ts
open PySem PySem.Spec PyProof.Rows L2 Vs

def RetX {β : Type} (n : Nat) (en : β → D) (k : Nat) : Post (Xn ⊕ β) := fun v o ρ => match v with
  | .inl x => o = .xn x ∧ n ≤ ρ.length
  | .inr b => ∃ k', (o = .rt (k', en b) ∧ k ≤ k') ∨ (o = .nx ∧ en b = .non ∧ k ≤ 9)
/-- where what is raised goes -/
structure RX {β' : Type} (n : Nat) (f : Xn → β') (post : Post β') : Prop where
  run : ∀ x ρ, n ≤ ρ.length → post (f x) (.xn x) ρ
/-- a term that may raise -/
structure EvR {β : Type} (n : Nat) (Γ : List CA) (m : M LD) (r : Xn ⊕ β) (en : β → D) (k : Nat) (Γ' : List CA) : Prop where
  run : ∀ ρ, Sat Γ ρ → match r with
    | .inl x => ∃ ρ', m ρ = .ex x ρ' ∧ n ≤ ρ'.length
    | .inr b => ∃ k' ρ', m ρ = .ok (k', en b) ρ' ∧ k ≤ k' ∧ Sat Γ' ρ'
structure SpX {β : Type} (F : List LD → R LD) (as : List (Nat × D)) (k : Nat) (en : β → D) (r : Xn ⊕ β) : Prop where
  run : ∀ xs, LeVs as xs → match r with
    | .inl x => ∃ ρ, F xs = .ex x ρ
    | .inr b => ∃ k' ρ, F xs = .ok (k', en b) ρ ∧ k ≤ k'
namespace T
variable {β γ : Type}
def bndX (P : Prop) (r : Xn ⊕ β) (fx : Xn → γ) (R : β → T γ) : T γ := ⟨Sum.elim fx (fun v => (R v).v) r, P ∧ Sum.elim (fun _ => True) (fun v => (R v).g) r⟩
def tryX (a : T (Xn ⊕ β)) (h : Xn → Option β) (dflt : β) : T β := ⟨Sum.elim (fun x => (h x).getD dflt) id a.v, a.g ∧ Sum.elim (fun x => (h x).isSome = true) (fun _ => True) a.v⟩
end T

section
variable {Γ Γ1 Γ2 Γ3 : List CA} {ρ : Rho} {k k0 ka i n : Nat} {d da : D} {a b m : M LD} {α β γ σ : Type} {rest : M Out} {P : Prop} {en : β → D}
theorem rx_ret : RX n (fun x => (.inl x : Xn ⊕ β)) (RetX n en k) := ⟨fun _ _ h => ⟨rfl, h⟩⟩
theorem rx_esc {β' : Type} {f : Xn → β'} {post : Post β'} (h : RX n f post) : RX n f (EscP post) := ⟨fun x ρ hl => ⟨by simp, h.run x ρ hl⟩⟩
theorem rx_sum {β' : Type} {f : Xn → β'} {post : Post β'} {Γn : σ → List CA} (h : RX n f post) : RX n (fun x => (.inl (f x) : β' ⊕ σ)) (SumP post Γn) := ⟨fun x ρ hl => ⟨by simp, h.run x ρ hl⟩⟩
theorem rx_cf {β' : Type} {f : Xn → β'} {post : Post β'} {Γn : σ → List CA} (h : RX n f post) : RX n (fun x => (.ret (f x) : Cf β' σ)) (CfP post Γn) := ⟨fun x ρ hl => ⟨.inr ⟨_, rfl⟩, h.run x ρ hl⟩⟩
theorem ro_retX : RO (fun v => (.inr v : Xn ⊕ β)) (RetX n en k) en k (fun _ => []) := ⟨fun v k' ρ hk _ => ⟨k', .inl ⟨rfl, hk⟩⟩⟩
theorem bt_endRX {v : β} (hn : P → en v = .non) (hk : k ≤ 9) : Bt sNx Γ (T.rt P (.inr v)) (RetX n en k) := ⟨fun hg ρ st => Ok.of rfl ⟨9, .inr ⟨rfl, hn hg, hk⟩⟩⟩
theorem spx_of {N : Nat} {mo : M Out} {as : List (Nat × D)} {t : T (Xn ⊕ β)} (hg : t.g) (h : Bt mo (argsS as ++ List.replicate (N - as.length) .u) t (RetX 0 en k)) : SpX (fnRunX N mo) as k en t.v := ⟨fun xs hx => by
  have st := args_sat hx (N - as.length)
  obtain ⟨o, ρ1, e, q⟩ := (h.run hg _ st).get
  unfold fnRunX
  rw [hx.len, e]
  cases ev : t.v with
  | inl x =>
    rw [ev] at q
    obtain ⟨rfl, _⟩ := q
    exact ⟨ρ1, rfl⟩
  | inr z =>
    rw [ev] at q
    obtain ⟨k', ⟨rfl, hk⟩ | ⟨rfl, e2, hk⟩⟩ := q
    · exact ⟨k', ρ1, rfl, hk⟩
    · exact ⟨9, ρ1, by rw [e2], hk⟩⟩
/-! raise -/
theorem bt_raise1 {β' : Type} {f : Xn → β'} {post : Post β'} {c fl : Str} (rx : RX n f post) (h : P → Ev Γ m k d Γ1) (hn : decide (n ≤ Γ1.length) = true) : Bt (sRaise1 c fl m) Γ (T.rt P (f ⟨c, [(fl, d)]⟩)) post := ⟨fun hg ρ st => by
  obtain ⟨k1, ρ1, e1, r1, s1⟩ := (h hg).run ρ st
  have := of_decide_eq_true hn
  refine Ok.of (a := .xn ⟨c, [(fl, d)]⟩) (ρ := ρ1) (Q := post (f ⟨c, [(fl, d)]⟩)) ?_ (rx.run _ ρ1 (by rw [s1.len]; exact this))
  unfold sRaise1 M.bind
  rw [e1]⟩
theorem bt_raise0 {β' : Type} {f : Xn → β'} {post : Post β'} {c : Str} (rx : RX n f post) (hn : decide (n ≤ Γ.length) = true) : Bt (sRaise0 c) Γ (T.rt True (f ⟨c, []⟩)) post := ⟨fun _ ρ st => by
  have := of_decide_eq_true hn
  exact Ok.of (a := .xn ⟨c, []⟩) (ρ := ρ) (Q := post (f ⟨c, []⟩)) rfl (rx.run _ ρ (by rw [st.len]; exact this))⟩
/-! terms that may raise -/
theorem evr_of {v : β} (h : Ev Γ m k (en v) Γ1) : EvR n Γ m (.inr v) en k Γ1 := ⟨h.run⟩
theorem evr_lv {r : Xn ⊕ β} {k' : Nat} (h : EvR n Γ m r en k Γ1) (hk : k' ≤ k) : EvR n Γ m r en k' Γ1 := ⟨fun ρ st => by
  have q := h.run ρ st
  cases r with
  | inl x => exact q
  | inr v => obtain ⟨k1, ρ1, e1, r1, s1⟩ := q; exact ⟨k1, ρ1, e1, by omega, s1⟩⟩
theorem evr_to {r : Xn ⊕ β} (h : EvR n Γ m r en k Γ1) (w : Wk Γ1 Γ2) : EvR n Γ m r en k Γ2 := ⟨fun ρ st => by
  have q := h.run ρ st
  cases r with
  | inl x => exact q
  | inr v => obtain ⟨k1, ρ1, e1, r1, s1⟩ := q; exact ⟨k1, ρ1, e1, r1, w.sat s1⟩⟩
theorem evr_as {γ : Type} {eg : γ → D} {r : Xn ⊕ β} (f : β → γ) (h : EvR n Γ m r en k Γ1) (e : ∀ v, en v = eg (f v)) : EvR n Γ m (Sum.map id f r) eg k Γ1 := ⟨fun ρ st => by
  have q := h.run ρ st
  cases r with
  | inl x => exact q
  | inr v => obtain ⟨k1, ρ1, e1, r1, s1⟩ := q; exact ⟨k1, ρ1, by rw [e1, e], r1, s1⟩⟩
theorem evr_call {F : List LD → R LD} {pm : List Nat} {nn kn : Nat} {ma mk : M (List Ar)} {ss tt : List AS} {as as0 : List (Nat × D)} {r : Xn ⊕ β} (h : EAs Γ ma ss Γ1) (h2 : EAs Γ1 mk tt Γ2) (hl : decide (ss.length = nn ∧ tt.length = kn) = true) (ht : takeS Γ2 (pickL pm (ss ++ tt)) = some (as, Γ3)) (le : LeVs as0 as) (hn : decide (n ≤ Γ3.length) = true) (hs : SpX F as0 k en r) :
    EvR n Γ (callX F pm nn kn ma mk) r en k Γ3 := ⟨fun ρ st => by
  obtain ⟨xs, ρ1, e1, r1, s1⟩ := h.run ρ st
  obtain ⟨ys, ρ2, e2, r2, s2⟩ := h2.run ρ1 s1
  obtain ⟨zs, ρ3, e3, l3, s3⟩ := take_run (pick_run (r1.app r2) pm) s2 ht
  have q := hs.run zs (le.mono l3)
  have hl' := of_decide_eq_true hl
  have hn' := of_decide_eq_true hn
  rw [← r1.len, ← r2.len] at hl'
  cases r with
  | inl x =>
    obtain ⟨ρc, e4⟩ := q
    exact ⟨ρ3, by unfold callX M.bind; rw [e1]; simp only [M.bind, e2]; rw [if_pos hl']; simp only [e3, e4], by rw [s3.len]; exact hn'⟩
  | inr v =>
    obtain ⟨k', ρc, e4, hk⟩ := q
    exact ⟨k', ρ3, by unfold callX M.bind; rw [e1]; simp only [M.bind, e2]; rw [if_pos hl']; simp only [e3, e4], hk, s3⟩⟩
theorem evr_ite {c : M Bool} {x : Bool} {ra rb : Xn ⊕ β} (h : ET Γ c x Γ1) (ha : x = true → EvR n Γ1 a ra en k Γ2) (hb : x = false → EvR n Γ1 b rb en k Γ2) : EvR n Γ (iteV c a b) (if x = true then ra else rb) en k Γ2 := ⟨fun ρ st => by
  obtain ⟨ρ1, e1, s1⟩ := h.run ρ st
  have key : iteV c a b ρ = (if x = true then a else b) ρ1 := by unfold iteV M.bind; rw [e1]
  rw [key]
  cases x with
  | true => exact (ha rfl).run ρ1 s1
  | false => exact (hb rfl).run ρ1 s1⟩
/-- [e, m], m may raise -/
theorem evr_lst2 {r : Xn ⊕ β} (h : Ev Γ a ka da Γ1) (h2 : EvR n Γ1 m r en k Γ2) : EvR n Γ (mkLst (consV a (consV m noVs))) r (fun v => .lst [da, en v]) 1 Γ2 := ⟨fun ρ st => by
  obtain ⟨k1, ρ1, e1, r1, s1⟩ := h.run ρ st
  have q := h2.run ρ1 s1
  cases r with
  | inl x =>
    obtain ⟨ρ2, e2, l2⟩ := q
    exact ⟨ρ2, by unfold mkLst consV M.bind; simp only [M.bind, e1, e2], l2⟩
  | inr v =>
    obtain ⟨k2, ρ2, e2, r2, s2⟩ := q
    refine ⟨_, ρ2, by unfold mkLst consV noVs; simp only [M.bind, e1, e2, M.ret]; rw [if_pos (Nat.le_of_ble_eq_true rfl)]; rfl, Nat.le_add_left _ _, s2⟩⟩
/-! statements -/
theorem bt_retR {β' : Type} {f : β → β'} {fx : Xn → β'} {post : Post β'} {r : Xn ⊕ β} (ro : RO f post en k0 (fun _ => [])) (rx : RX n fx post) (h : P → EvR n Γ m r en k Γ1) (hk : decide (k0 ≤ k) = true) : Bt (sRetX m) Γ (T.rt P (Sum.elim fx f r)) post := ⟨fun hg ρ st => by
  have q := (h hg).run ρ st
  have := of_decide_eq_true hk
  cases r with
  | inl x =>
    obtain ⟨ρ1, e1, l1⟩ := q
    exact Ok.of (a := .xn x) (ρ := ρ1) (Q := post (fx x)) (by unfold sRetX cx; rw [e1]) (rx.run x ρ1 l1)
  | inr v =>
    obtain ⟨k1, ρ1, e1, r1, s1⟩ := q
    exact Ok.of (a := .rt (k1, en v)) (ρ := ρ1) (Q := post (f v)) (by unfold sRetX cx; rw [e1]; rfl) (ro.run v k1 ρ1 (by omega) io_nil)⟩
theorem seqX {s : M Out} {ρ ρ1 : Rho} {x : Xn} {Q : Out → Rho → Prop} (e : s ρ = .ok (.xn x) ρ1) (q : Q (.xn x) ρ1) : Ok (sSeq s rest ρ) Q := Ok.of (a := .xn x) (ρ := ρ1) (by unfold sSeq M.bind; rw [e]; rfl) q
/-- a target gets what came -/
theorem bt_genR {β' : Type} {fx : Xn → β'} {post : Post β'} {g : G} {r : Xn ⊕ β} {R : β → T β'} {Γ2 : β → List CA} (Γn : β → List CA) (rx : RX n fx post) (h : P → EvR n Γ m r en k Γ1) (hg : ∀ v, EG Γ1 g k (en v) (Γ2 v)) (w : ∀ v, Wk (Γ2 v) (Γn v)) (c : ∀ v, Bt rest (Γn v) (R v) post) : Bt (sSeq (sAsgX m g) rest) Γ (T.bndX P r fx R) post := ⟨fun hG ρ st => by
  obtain ⟨hP, hR⟩ := hG
  have q := (h hP).run ρ st
  cases r with
  | inl x =>
    obtain ⟨ρ1, e1, l1⟩ := q
    exact seqX (x := x) (ρ1 := ρ1) (by unfold sAsgX cx; rw [e1]) (rx.run x ρ1 l1)
  | inr v =>
    obtain ⟨k1, ρ1, e1, r1, s1⟩ := q
    obtain ⟨ρ2, e2, s2⟩ := (hg v).run ρ1 k1 s1 r1
    exact seqE (ρ' := ρ2) (by unfold sAsgX cx; rw [e1]; simp only [e2]) ((c v).run hR ρ2 ((w v).sat s2))⟩
theorem bt_dropR {β' : Type} {fx : Xn → β'} {post : Post β'} {r : Xn ⊕ β} {R : β → T β'} (Γn : List CA) (rx : RX n fx post) (h : P → EvR n Γ m r en k Γ1) (w : Wk Γ1 Γn) (c : ∀ v, Bt rest Γn (R v) post) : Bt (sSeq (sDropX m) rest) Γ (T.bndX P r fx R) post := ⟨fun hG ρ st => by
  obtain ⟨hP, hR⟩ := hG
  have q := (h hP).run ρ st
  cases r with
  | inl x =>
    obtain ⟨ρ1, e1, l1⟩ := q
    exact seqX (x := x) (ρ1 := ρ1) (by unfold sDropX cx; rw [e1]) (rx.run x ρ1 l1)
  | inr v =>
    obtain ⟨k1, ρ1, e1, r1, s1⟩ := q
    exact seqE (ρ' := ρ1) (by unfold sDropX cx; rw [e1]; rfl) ((c v).run hR ρ1 (w.sat s1))⟩
/-- try .. except C as n: return .. -/
theorem bt_try {mb : M Out} {hd : Xn → Option D} {tB : T (Xn ⊕ β)} {h : Xn → Option β} {dflt : β} (hb : Bt mb Γ tB (RetX (i + 1) en k)) (hh : ∀ x v, h x = some v → hd x = some (en v)) (hk : decide (k0 ≤ k ∧ k0 ≤ 1) = true) : Bt (sTry i mb hd) Γ (T.tryX tB h dflt) (RetP en k0 fun _ => []) := ⟨fun hG ρ st => by
  obtain ⟨h1, h2⟩ := hG
  obtain ⟨o, ρ1, e, q⟩ := (hb.run h1 ρ st).get
  obtain ⟨hk1, hk2⟩ := of_decide_eq_true hk
  unfold T.tryX
  cases ev : tB.v with
  | inl x =>
    rw [ev] at q h2
    obtain ⟨rfl, hl⟩ := q
    obtain ⟨v, hv⟩ := Option.isSome_iff_exists.mp h2
    refine Ok.of (a := .rt (1, en v)) (ρ := ρ1.set i .u) ?_ ⟨⟨1, .inl ⟨by simp [hv], hk2⟩⟩, io_nil⟩
    unfold sTry
    rw [e]
    simp only [hh x v hv]
    rw [if_pos (by omega)]
  | inr v =>
    rw [ev] at q
    obtain ⟨k', ⟨rfl, hk3⟩ | ⟨rfl, e2, hk3⟩⟩ := q
    · exact Ok.of (a := .rt (k', en v)) (ρ := ρ1) (by unfold sTry; rw [e]) ⟨⟨k', .inl ⟨rfl, by omega⟩⟩, io_nil⟩
    · exact Ok.of (a := .nx) (ρ := ρ1) (by unfold sTry; rw [e]) ⟨⟨k', .inr ⟨rfl, e2, by omega⟩⟩, io_nil⟩⟩
/-! what the clauses return, as rows of any values, or as one -/
def hv1 (c f w : Str) (more : List D) (x : Xn) : Option (List D) := if x.cls = c then (match x.fs with
  | [(g, d)] => if g = f then some (.str w :: d :: more) else none
  | _ => none) else none
def hv0 (c w : Str) (more : List D) (x : Xn) : Option (List D) := if x.cls = c then some (.str w :: more) else none
theorem hv1_L {c f w : Str} {more : List D} (x : Xn) (v : List D) (h : hv1 c f w more x = some v) : hd1 c f w more x = some (eL eD v) := by
  unfold hv1 at h
  unfold hd1
  have e : eL eD v = .lst v := by show D.lst (v.map fun d => d) = _; rw [List.map_id']
  by_cases q : x.cls = c
  · rw [if_pos q] at h ⊢
    obtain ⟨xc, fs⟩ := x
    dsimp only at h ⊢
    cases fs with
    | nil => cases h
    | cons y fs =>
      cases fs with
      | cons _ _ => cases h
      | nil =>
        obtain ⟨g, d⟩ := y
        dsimp only at h ⊢
        by_cases q2 : g = f
        · rw [if_pos q2] at h ⊢; cases h; rw [e]
        · rw [if_neg q2] at h; cases h
  · rw [if_neg q] at h; cases h
theorem hv0_L {c w : Str} {more : List D} (x : Xn) (v : List D) (h : hv0 c w more x = some v) : hd0 c w more x = some (eL eD v) := by
  unfold hv0 at h
  unfold hd0
  have e : eL eD v = .lst v := by show D.lst (v.map fun d => d) = _; rw [List.map_id']
  by_cases q : x.cls = c
  · rw [if_pos q] at h ⊢; cases h; rw [e]
  · rw [if_neg q] at h; cases h
theorem hd_D {hd : Xn → Option D} (x : Xn) (v : D) (h : hd x = some v) : hd x = some (eD v) := h
end
end Ts
set_option Elab.async false
set_option linter.all false
set_option maxRecDepth 100000
set_option maxHeartbeats 400000
/-! Ts6: the typed side of dicts with numbers as keys, of calls that do not raise. -/
namespace Ts
open PySem PySem.Spec PyProof.Rows L2 Vs

def eM {α : Type} (e : α → D) (kvs : List (Int × α)) : D := .dic (kvs.map fun p => ((Sum.inl p.1 : Key), e p.2))
def mLook {α : Type} : List (Int × α) → Int → Option α
  | [], _ => none
  | (j, a) :: r, k => if j = k then some a else mLook r k
def mPut {α : Type} : List (Int × α) → Int → α → List (Int × α)
  | [], k, a => [(k, a)]
  | (j, b) :: r, k, a => if j = k then (j, a) :: r else (j, b) :: mPut r k a
def MOk {α : Type} (kvs : List (Int × α)) : Prop := (kvs.map (·.1)).Nodup ∧ kvs.length < lineN
theorem look_M {α : Type} (e : α → D) (i : Int) : ∀ kvs : List (Int × α), lookK (kvs.map fun p => ((Sum.inl p.1 : Key), e p.2)) (Sum.inl i) = (mLook kvs i).map e
  | [] => rfl
  | (j, a) :: r => by
    rw [List.map_cons]
    unfold lookK mLook
    by_cases h : j = i
    · subst h; simp
    · have h2 : ¬ (Sum.inl j : Key) = Sum.inl i := fun q => h (Sum.inl.inj q)
      simp [h, h2, look_M e i r]
theorem put_M {α : Type} (e : α → D) (i : Int) (x : α) : ∀ kvs : List (Int × α), setK (kvs.map fun p => ((Sum.inl p.1 : Key), e p.2)) (Sum.inl i) (e x) = (mPut kvs i x).map fun p => ((Sum.inl p.1 : Key), e p.2)
  | [] => rfl
  | (j, a) :: r => by
    rw [List.map_cons]
    unfold setK mPut
    by_cases h : j = i
    · subst h; simp
    · have h2 : ¬ (Sum.inl j : Key) = Sum.inl i := fun q => h (Sum.inl.inj q)
      simp [h, h2, put_M e i x r]
theorem mok_D {α : Type} {e : α → D} {kvs : List (Int × α)} (h : MOk kvs) : ((kvs.map fun p => ((Sum.inl p.1 : Key), e p.2)).map (·.1)).Nodup ∧ (kvs.map fun p => ((Sum.inl p.1 : Key), e p.2)).length < lineN := by
  obtain ⟨h1, h2⟩ := h
  refine ⟨?_, by simpa using h2⟩
  rw [List.map_map]
  have : ((fun x : Key × D => x.1) ∘ fun p : Int × α => ((Sum.inl p.1 : Key), e p.2)) = fun p => (Sum.inl p.1 : Key) := rfl
  rw [this]
  have e2 : (kvs.map fun p => (Sum.inl p.1 : Key)) = (kvs.map (·.1)).map (fun i => (Sum.inl i : Key)) := by rw [List.map_map]; rfl
  rw [e2]
  exact List.Pairwise.map _ (fun a b hab q => hab (Sum.inl.inj q)) h1
section
variable {Γ Γ1 Γ2 : List CA} {k ka kb i j : Nat} {d da db : D} {a b m : M LD} {α β : Type}
theorem o_inM {e : α → D} {kvs : List (Int × α)} {x : Int} : oInA [.int x, eM e kvs] = some (.bl (mLook kvs x).isSome) := by
  show (keyOfD (.int x)).map (fun kk => D.bl (lookK (kvs.map fun p => ((Sum.inl p.1 : Key), e p.2)) kk).isSome) = _
  simp [keyOfD, look_M]
theorem o_ninM {e : α → D} {kvs : List (Int × α)} {x : Int} : oNotInA [.int x, eM e kvs] = some (.bl (!(mLook kvs x).isSome)) := by
  show (keyOfD (.int x)).map (fun kk => D.bl (!(lookK (kvs.map fun p => ((Sum.inl p.1 : Key), e p.2)) kk).isSome)) = _
  simp [keyOfD, look_M]
theorem eg_atM {e : α → D} {kvs : List (Int × α)} {n : Int} {x : α} {q : Rho → Option D} (h0 : Γ[j]? = some (.v (k + 1) (eM e kvs))) (hq : EQ Γ q (.int n)) (hm : MOk kvs) : EG Γ (gAt (plN j) q) ka (e x) (Γ.set j (.v (min k ka + 1) (eM e (mPut kvs n x)))) := ⟨fun ρ k' s hk => by
  obtain ⟨k2, e0, hk2⟩ := s.get h0
  obtain ⟨k3, rfl⟩ : ∃ k3, k2 = k3 + 1 := ⟨k2 - 1, by omega⟩
  refine ⟨ρ.set j (.c (min k3 k' + 1) (eM e (mPut kvs n x))), ?_, s.set (.v (by omega))⟩
  unfold gAt plN
  rw [e0]
  simp only [e0, hq.run ρ s]
  have h1 := mok_D (e := e) hm
  have e2 : moPut (Sum.inl n) (k3 + 1) (eM e kvs) [(k', e x)] = some ((9, D.non), min k3 k' + 1, eM e (mPut kvs n x)) := by
    show (if ((kvs.map fun p => ((Sum.inl p.1 : Key), e p.2)).map (·.1)).Nodup ∧ (kvs.map fun p => ((Sum.inl p.1 : Key), e p.2)).length < lineN then some ((9, D.non), min k3 k' + 1, D.dic (setK (kvs.map fun p => ((Sum.inl p.1 : Key), e p.2)) (Sum.inl n) (e x))) else none) = _
    rw [if_pos h1, put_M]
    rfl
  show (match moPut (Sum.inl n) (k3 + 1) (eM e kvs) [(k', e x)] with
    | some (_, k', d') => some (ρ.set j (.c k' d'))
    | none => none) = _
  rw [e2]⟩
theorem eq_nD (h : Γ[i]? = some (.v k d)) (hi : isIntD d = true) : EQ Γ (qN i) (.int (intOf d)) := ⟨fun ρ s => by
  obtain ⟨k', e, _⟩ := s.get h
  have q := cv_int hi
  have hs : d.isS = true := by rw [q]; rfl
  unfold qN
  rw [e]
  simp [hs]
  exact q⟩
def mGet [Inhabited α] (kvs : List (Int × α)) (n : Int) : α := (mLook kvs n).getD default
theorem ss_M [Inhabited α] {e : α → D} {kvs : List (Int × α)} {n : Int} (he : Flat e) (h : (mLook kvs n).isSome = true) : SubS k (eM e kvs) (.int n) 9 (e (mGet kvs n)) k := fun k1 h1 => by
  obtain ⟨v, hv⟩ := Option.isSome_iff_exists.mp h
  refine ⟨9, k1, Nat.le_refl _, h1, ?_⟩
  show ((keyOfD (.int n)).bind fun kk => (lookK (kvs.map fun p => ((Sum.inl p.1 : Key), e p.2)) kk).map fun d => if d.isS then ((9, d), k1) else ((0, d), min k1 1)) = _
  simp [keyOfD, look_M, hv, mGet, he.s]
/-- d.get(n, x) of flat values -/
theorem e_dget {mk mf : M LD} {e : α → D} {kvs : List (Int × α)} {n : Int} {x : α} (h0 : Γ[i]? = some (.v k (eM e kvs))) (h1 : Ev Γ mk ka (.int n) Γ1) (h2 : Ev Γ1 mf kb (e x) Γ2) (h3 : Γ2[i]? = some (.v k (eM e kvs))) (he : Flat e) : Ev Γ (dgetN i mk mf) (min kb 9) (e ((mLook kvs n).getD x)) Γ2 := ⟨fun ρ s => by
  obtain ⟨k0, e0, _⟩ := s.get h0
  obtain ⟨k1, ρ1, e1, r1, s1⟩ := h1.run ρ s
  obtain ⟨k2, ρ2, e2, r2, s2⟩ := h2.run ρ1 s1
  obtain ⟨k3, e3, _⟩ := s2.get h3
  have key : dgetN i mk mf ρ = (match lookK (kvs.map fun p => ((Sum.inl p.1 : Key), e p.2)) (Sum.inl n) with
      | some d => if d.isS then .ok (9, d) ρ2 else .ok (0, d) (ρ2.set i (.c (min k3 1) (eM e kvs)))
      | none => .ok (k2, e x) ρ2) := by
    unfold dgetN
    rw [e0]
    unfold eM
    simp only [M.bind, e1, e2, e3, keyOfD]
    rfl
  rw [key, look_M]
  cases q : mLook kvs n with
  | none => exact ⟨k2, ρ2, rfl, by omega, s2⟩
  | some v => exact ⟨9, ρ2, by simp [he.s], by omega, s2⟩⟩
/-! calls that do not raise -/
def rightV [Inhabited β] : Xn ⊕ β → β
  | .inl _ => default
  | .inr b => b
theorem ev_safe [Inhabited β] {n : Nat} {r : Xn ⊕ β} {en : β → D} (h : EvR n Γ m r en k Γ1) (hr : r.isRight = true) : Ev Γ m k (en (rightV r)) Γ1 := by
  cases r with
  | inl x => cases hr
  | inr v => exact ⟨h.run⟩
end
end Ts
namespace Ts
open PySem PySem.Spec PyProof.Rows L2 Vs
theorem o_inMD {α : Type} {e : α → D} {kvs : List (Int × α)} {x : D} (h : isIntD x = true) : oInA [x, eM e kvs] = some (.bl (mLook kvs (intOf x)).isSome) := by
  conv => lhs; rw [cv_int h]
  exact o_inM
theorem o_ninMD {α : Type} {e : α → D} {kvs : List (Int × α)} {x : D} (h : isIntD x = true) : oNotInA [x, eM e kvs] = some (.bl (!(mLook kvs (intOf x)).isSome)) := by
  conv => lhs; rw [cv_int h]
  exact o_ninM
end Ts
namespace Ts
open PySem PySem.Spec PyProof.Rows L2 Vs
theorem map_cast : ∀ {xs : List D}, xs.all isIntD = true → xs.map eD = (xs.map intOf).map D.int
  | [], _ => rfl
  | x :: xs, h => by
    rw [List.all_cons, Bool.and_eq_true] at h
    rw [List.map_cons, List.map_cons, List.map_cons, map_cast h.2]
    congr 1
    exact cv_int h.1
theorem o_sumLD {xs : List D} (h : xs.all isIntD = true) : o1 fSum [eL eD xs] = some (.int (xs.map intOf).sum) := by
  unfold eL
  rw [map_cast h]
  exact o_sumL (xs := xs.map intOf)
theorem o_sumTD {xs : List D} (h : xs.all isIntD = true) : o1 fSum [eT eD xs] = some (.int (xs.map intOf).sum) := by
  unfold eT
  rw [map_cast h]
  exact o_sumT (xs := xs.map intOf)
theorem o_sumD {d : D} (h : (isTupD d && (tupOf d).all isIntD) = true) : o1 fSum [d] = some (.int ((tupOf d).map intOf).sum) := by
  rw [Bool.and_eq_true] at h
  conv => lhs; rw [cv_tup h.1]
  exact o_sumTD h.2
theorem ss_D {k : Nat} {d : D} {n : Int} (h : isTupD d = true) (hn : InR (tupOf d).length n) : SubS k d (.int n) 0 (getI (tupOf d) n) 0 := by
  have q := ss_TN (k := k) (e := eD) hn
  rw [← cv_tup h] at q
  exact q
end Ts
set_option Elab.async false
set_option linter.all false
set_option maxRecDepth 100000
set_option maxHeartbeats 2000000
/-! Ts7: what two clauses return, as rows of any values. -/
namespace Ts
open PySem PySem.Spec PyProof.Rows L2 Vs
theorem hdOr_L {α β : Type} {f g : Xn → Option α} {f' g' : Xn → Option β} {e : α → β} (h1 : ∀ x v, f x = some v → f' x = some (e v)) (h2 : ∀ x v, g x = some v → g' x = some (e v)) (hn : ∀ x, f x = none → f' x = none) (x : Xn) (v : α) (h : hdOr f g x = some v) : hdOr f' g' x = some (e v) := by
  unfold hdOr at h ⊢
  cases ef : f x with
  | some w =>
    rw [ef] at h
    rw [h1 x w ef]
    cases h
    rfl
  | none =>
    rw [ef] at h
    rw [hn x ef]
    exact h2 x v h
theorem hv1_N {c f w : Str} {more : List D} (x : Xn) (h : hv1 c f w more x = none) : hd1 c f w more x = none := by
  unfold hv1 at h
  unfold hd1
  by_cases q : x.cls = c
  · rw [if_pos q] at h ⊢
    obtain ⟨xc, fs⟩ := x
    dsimp only at h ⊢
    match fs, h with
    | [], _ => rfl
    | [(g, d)], h =>
      dsimp only at h ⊢
      by_cases q2 : g = f
      · rw [if_pos q2] at h; cases h
      · rw [if_neg q2]
    | _ :: _ :: _, _ => rfl
  · rw [if_neg q]
theorem hv0_N {c w : Str} {more : List D} (x : Xn) (h : hv0 c w more x = none) : hd0 c w more x = none := by
  unfold hv0 at h
  unfold hd0
  by_cases q : x.cls = c
  · rw [if_pos q] at h; cases h
  · rw [if_neg q]
theorem o_cL {o : List D → Option D} {x r : D} {ys : List D} (h : isIntD x = true) (e : o (eI (intOf x) :: ys) = some r) : o (x :: ys) = some r :=
  (congrArg (fun d => o (d :: ys)) (cv_int h)).trans e
theorem o_cR {o : List D → Option D} {x a r : D} {ys : List D} (h : isIntD x = true) (e : o (a :: eI (intOf x) :: ys) = some r) : o (a :: x :: ys) = some r :=
  (congrArg (fun d => o (a :: d :: ys)) (cv_int h)).trans e
end Ts
set_option Elab.async false
set_option linter.all false
set_option maxRecDepth 100000
set_option maxHeartbeats 2000000
/-! Ts8: x[e].append(y), e any expression, y still. -/
namespace Ts
open PySem PySem.Spec PyProof.Rows L2 Vs
theorem e_appV {Γ Γ1 : List CA} {α : Type} [Inhabited α] {e : α → D} {xs : List (List α)} {n : Int} {x : α} {me : M LD} {q : Rho → Option D} {j k kk km : Nat} {d0 : D} (h0 : Γ[j]? = some (.v kk d0)) (hm : Ev Γ me km (.int n) Γ1) (h1 : Γ1[j]? = some (.v (k + 2) (eL (eL e) xs)))
    (hq : EQ Γ1 q (e x)) (he : Flat e) (hk : decide (k ≤ 7) = true) (hn : InR xs.length n) (hl : (getI xs n).length < lineN) :
    Ev Γ (mutP moAppend (plXV j me) [q]) 9 .non (Γ1.set j (.v (k + 2) (eL (eL e) (setI xs n (getI xs n ++ [x]))))) := ⟨fun ρ s => by
  obtain ⟨k0, e0, _⟩ := s.get h0
  obtain ⟨ky, ρ1, em, _, s1⟩ := hm.run ρ s
  obtain ⟨k2, e1, hk2⟩ := s1.get h1
  obtain ⟨k3, rfl⟩ : ∃ k3, k2 = k3 + 2 := ⟨k2 - 2, by omega⟩
  have hk7 := of_decide_eq_true hk
  have i1 : ixN (xs.map (eL e)).length n = some (ixI xs.length n) := by rw [List.length_map]; exact ixN_ix hn
  have g1 : (xs.map (eL e))[ixI xs.length n]? = some (eL e (getI xs n)) := by rw [List.getElem?_map, getI_ix hn]; rfl
  have p : plXV j me ρ = .ok (j, [.ix (ixI xs.length n)]) ρ1 := by
    unfold plXV
    rw [e0]
    simp only [M.bind, em, e1]
    simp only [eL, i1]
  have qr : qRow [q] ρ1 = some [e x] := by
    unfold qRow
    rw [hq.run ρ1 s1]
    have : qRow [] ρ1 = some [] := rfl
    rw [this]
    simp [he.s]
  refine ⟨9, ρ1.set j (.c (min (k3 + 1) (min k3 9 + 1) + 1) (eL (eL e) (setI xs n (getI xs n ++ [x])))), ?_, Nat.le_refl _, s1.set (.v (by omega))⟩
  unfold mutP
  simp only [M.bind, p, e1, qr, subT, eL, g1, Option.bind_some, isL, if_true, atP, liftP, lift1, moAppend, List.map_cons, List.map_nil]
  rw [if_pos (by rw [List.length_map]; exact hl)]
  simp [setI, List.map_set, eL, ixI]⟩
theorem o_eL {o : List D → Option D} {x y r : D} {ys : List D} (h : x = y) (e : o (y :: ys) = some r) : o (x :: ys) = some r := (congrArg (fun d => o (d :: ys)) h).trans e
theorem o_eR {o : List D → Option D} {x y a r : D} {ys : List D} (h : x = y) (e : o (a :: y :: ys) = some r) : o (a :: x :: ys) = some r := (congrArg (fun d => o (a :: d :: ys)) h).trans e
end Ts
set_option Elab.async false
set_option linter.all false
set_option maxRecDepth 100000
set_option maxHeartbeats 400000
/-! Pm: plain facts: what T-terms come to, rows by their places, squares, what repr asks. -/
namespace Ts
open PySem PySem.Spec PyProof.Rows L2 Vs
section
variable {α β γ δ σ : Type} {P : Prop}
/-! ### T -/
theorem rt_v {v : β} : (T.rt P v).v = v := rfl
theorem rt_g {v : β} : (T.rt P v).g = P := rfl
theorem lt_v {x : α} {f : α → T β} : (T.lt P x f).v = (f x).v := rfl
theorem lt_g {x : α} {f : α → T β} : (T.lt P x f).g = (P ∧ (f x).g) := rfl
theorem ite_v {c : Bool} {a b : T β} : (T.ite P c a b).v = if c = true then a.v else b.v := rfl
theorem ite_g {c : Bool} {a b : T β} : (T.ite P c a b).g = (P ∧ (c = true → a.g) ∧ (c = false → b.g)) := rfl
theorem bnd_v {a : T α} {f : α → T β} : (T.bnd a f).v = (f a.v).v := rfl
theorem bnd_g {a : T α} {f : α → T β} : (T.bnd a f).g = (a.g ∧ (f a.v).g) := rfl
theorem fold_nil {step : σ → α → T σ} {s : σ} : T.fold step [] s = ⟨s, True⟩ := rfl
theorem fold_cons {step : σ → α → T σ} {x : α} {xs : List α} {s : σ} : T.fold step (x :: xs) s = ⟨(T.fold step xs (step s x).v).v, (step s x).g ∧ (T.fold step xs (step s x).v).g⟩ := rfl
/-- a term asks nothing that fails, and its value is as wanted -/
structure Tw (t : T β) (Q : β → Prop) : Prop where
  g : t.g
  q : Q t.v
theorem Tw.imp {t : T β} {Q Q' : β → Prop} (h : Tw t Q) (f : ∀ v, Q v → Q' v) : Tw t Q' := ⟨h.g, f _ h.q⟩
theorem tw_rt {v : β} {Q : β → Prop} (h : P) (q : Q v) : Tw (T.rt P v) Q := ⟨h, q⟩
theorem tw_lt {x : α} {f : α → T β} {Q : β → Prop} (h : P) (q : Tw (f x) Q) : Tw (T.lt P x f) Q := ⟨⟨h, q.g⟩, q.q⟩
theorem tw_ite {c : Bool} {a b : T β} {Q : β → Prop} (h : P) (ha : c = true → Tw a Q) (hb : c = false → Tw b Q) : Tw (T.ite P c a b) Q := by
  cases c with
  | true => exact ⟨⟨h, fun _ => (ha rfl).g, (fun q => nomatch q)⟩, (ha rfl).q⟩
  | false => exact ⟨⟨h, (fun q => nomatch q), fun _ => (hb rfl).g⟩, (hb rfl).q⟩
theorem tw_iteF {c : Bool} {a b : T β} {Q : β → Prop} (h : P) (e : c = false) (hb : Tw b Q) : Tw (T.ite P c a b) Q := tw_ite h (fun q => by rw [e] at q; cases q) fun _ => hb
theorem tw_iteT {c : Bool} {a b : T β} {Q : β → Prop} (h : P) (e : c = true) (ha : Tw a Q) : Tw (T.ite P c a b) Q := tw_ite h (fun _ => ha) fun q => by rw [e] at q; cases q
theorem tw_bnd {a : T α} {f : α → T β} {Q : β → Prop} (h : Tw a fun v => Tw (f v) Q) : Tw (T.bnd a f) Q := ⟨⟨h.g, h.q.g⟩, h.q.q⟩
theorem tw_bndS {a : T (β ⊕ σ)} {f : σ → T β} {Q : β → Prop} (h : Tw a fun v => match v with | .inl b => Q b | .inr s => Tw (f s) Q) : Tw (T.bndS a f) Q := by
  obtain ⟨g, q⟩ := h
  unfold T.bndS
  cases e : a.v with
  | inl b => rw [e] at q; exact ⟨⟨g, by show T.sumG f (Sum.inl b); exact True.intro⟩, q⟩
  | inr s => rw [e] at q; exact ⟨⟨g, q.g⟩, q.q⟩
theorem tw_fold {step : σ → α → T σ} {I : σ → Prop} : ∀ {xs : List α} {s : σ}, (∀ s x, x ∈ xs → I s → Tw (step s x) I) → I s → Tw (T.fold step xs s) I
  | [], _, _, h => ⟨True.intro, h⟩
  | x :: xs, s, hs, h => by
    have h1 := hs s x (List.mem_cons_self ..) h
    have h2 := tw_fold (xs := xs) (fun s y hy => hs s y (List.mem_cons_of_mem _ hy)) h1.q
    exact ⟨⟨h1.g, h2.g⟩, h2.q⟩
/-- a loop that never ends early -/
theorem tw_foldR {step : σ → α → T (Cf β σ)} {I : σ → Prop} : ∀ {xs : List α} {s : σ}, (∀ s x, x ∈ xs → I s → Tw (step s x) fun v => ∃ s', v = .nxt s' ∧ I s') → I s → Tw (T.foldR step xs s) fun v => ∃ s', v = .inr s' ∧ I s'
  | [], s, _, h => ⟨True.intro, s, rfl, h⟩
  | x :: xs, s, hs, h => by
    obtain ⟨g1, s1, e1, i1⟩ := hs s x (List.mem_cons_self ..) h
    have h2 := tw_foldR (xs := xs) (fun s y hy => hs s y (List.mem_cons_of_mem _ hy)) i1
    refine ⟨⟨g1, ?_⟩, ?_⟩
    · rw [e1]; exact h2.g
    · obtain ⟨s2, e2, i2⟩ := h2.q
      refine ⟨s2, ?_, i2⟩
      show T.cfV _ (step s x).v = _
      rw [e1]; exact e2
theorem tw_bndR {step : σ → α → T (Cf β σ)} {xs : List α} {s : σ} {f : σ → T β} {Q : β → Prop} {I : σ → Prop} (hs : ∀ s x, x ∈ xs → I s → Tw (step s x) fun v => ∃ s', v = .nxt s' ∧ I s') (h : I s) (hf : ∀ s, I s → Tw (f s) Q) : Tw (T.bndS (T.foldR step xs s) f) Q :=
  tw_bndS ((tw_foldR hs h).imp fun v ⟨s', e, i⟩ => by subst e; exact hf s' i)
/-! a loop that grows a list or takes a sum is a fold -/
theorem fold_v {step : σ → α → T σ} : ∀ {xs : List α} {s : σ}, (T.fold step xs s).v = xs.foldl (fun s x => (step s x).v) s
  | [], _ => rfl
  | x :: xs, s => by rw [fold_cons]; exact fold_v
/-! ### rows -/
theorem len_rgI {a b : Int} : (rgI a b).length = (b - a).toNat := by simp [rgI]
theorem mem_rgI {a b x : Int} : x ∈ rgI a b ↔ a ≤ x ∧ x < b := by
  unfold rgI
  rw [List.mem_map]
  constructor
  · rintro ⟨j, hj, rfl⟩
    have := List.mem_range.mp hj
    omega
  · rintro ⟨h1, h2⟩
    exact ⟨(x - a).toNat, List.mem_range.mpr (by omega), by omega⟩
theorem all_rgI {a b : Int} {p : Int → Prop} : (∀ x ∈ rgI a b, p x) ↔ ∀ x, a ≤ x → x < b → p x :=
  ⟨fun h x h1 h2 => h x (mem_rgI.mpr ⟨h1, h2⟩), fun h x hx => h x (mem_rgI.mp hx).1 (mem_rgI.mp hx).2⟩
theorem inR_of {n : Nat} {i : Int} (h0 : 0 ≤ i) (h1 : i < n) : InR n i := ⟨by omega, h1⟩
theorem getI_nat [Inhabited α] {xs : List α} {i : Int} (h0 : 0 ≤ i) : getI xs i = xs.getD i.toNat default := by unfold getI; rw [if_pos h0]
theorem getI_get [Inhabited α] {xs : List α} {i : Int} (h0 : 0 ≤ i) (h1 : i < xs.length) : getI xs i = xs[i.toNat]'(by omega) := by
  rw [getI_nat h0, List.getD_eq_getElem?_getD, List.getElem?_eq_getElem (by omega : i.toNat < xs.length), Option.getD_some]
theorem getI_mem [Inhabited α] {xs : List α} {i : Int} (h : InR xs.length i) : getI xs i ∈ xs := by
  have h2 := (ixN_in h).2
  unfold getI
  rw [List.getD_eq_getElem?_getD, List.getElem?_eq_getElem h2, Option.getD_some]
  exact List.getElem_mem h2
theorem getI_map [Inhabited α] [Inhabited β] {f : α → β} {xs : List α} {i : Int} (h : InR xs.length i) : getI (xs.map f) i = f (getI xs i) := by
  have h2 := (ixN_in h).2
  unfold getI
  simp only [List.length_map, List.getD_eq_getElem?_getD, List.getElem?_map, List.getElem?_eq_getElem h2, Option.map_some, Option.getD_some]
theorem getI_rg {a b i : Int} (h0 : 0 ≤ i) (h1 : i < b - a) : getI (rgI a b) i = a + i := by
  rw [getI_get h0 (by rw [len_rgI]; omega)]
  simp only [rgI, List.getElem_map, List.getElem_range]
  omega
theorem getI_maprg [Inhabited β] {f : Int → β} {n i : Int} (h0 : 0 ≤ i) (h1 : i < n) : getI ((rgI 0 n).map f) i = f i := by
  rw [getI_map ⟨by omega, by rw [len_rgI]; omega⟩, getI_rg h0 (by omega), Int.zero_add]
theorem map_getI [Inhabited α] (xs : List α) : (rgI 0 xs.length).map (getI xs) = xs := by
  apply List.ext_getElem?
  intro i
  rw [List.getElem?_map]
  by_cases h : i < xs.length
  · have e : (rgI 0 (xs.length : Int))[i]? = some (i : Int) := by
      have : i < (rgI 0 (xs.length : Int)).length := by rw [len_rgI]; omega
      rw [List.getElem?_eq_getElem this]
      simp [rgI]
    rw [e, Option.map_some, getI_nat (by omega), List.getD_eq_getElem?_getD, Int.toNat_natCast, List.getElem?_eq_getElem h, Option.getD_some]
  · rw [List.getElem?_eq_none (l := rgI 0 (xs.length : Int)) (by rw [len_rgI]; omega), List.getElem?_eq_none (by omega)]; rfl
theorem map_getI' [Inhabited α] {xs : List α} {n : Int} (h : (xs.length : Int) = n) : (rgI 0 n).map (getI xs) = xs := by rw [← h]; exact map_getI xs
theorem map_getI_f [Inhabited α] {f : α → β} {xs : List α} {n : Int} (h : (xs.length : Int) = n) : (rgI 0 n).map (fun i => f (getI xs i)) = xs.map f := by
  have := congrArg (List.map f) (map_getI' h)
  rwa [List.map_map] at this
theorem ext_getI [Inhabited α] {xs ys : List α} (hl : xs.length = ys.length) (h : ∀ i : Int, 0 ≤ i → i < xs.length → getI xs i = getI ys i) : xs = ys := by
  apply List.ext_getElem hl
  intro i h1 h2
  have := h i (by omega) (by omega)
  rw [getI_get (by omega) (by omega), getI_get (by omega) (by omega)] at this
  simpa using this
theorem rgOk_of {n : Int} (h0 : -1000000000 ≤ n) (h1 : n ≤ 1000000000) : rgOk n = true := by simp [rgOk]; omega
theorem rgL_of {a b : Int} (h0 : 0 ≤ a) (h1 : b ≤ 1000000) : rgL a b = true ∨ b < -1000000000 ∨ 1000000000 < a := by
  by_cases q1 : b < -1000000000
  · exact .inr (.inl q1)
  · by_cases q2 : 1000000000 < a
    · exact .inr (.inr q2)
    · left; simp [rgL, rgOk_of, lineN]; refine ⟨⟨rgOk_of (by omega) (by omega), rgOk_of (by omega) (by omega)⟩, by omega⟩
theorem rgL0 {b : Int} (h0 : -1000000000 ≤ b) (h1 : b ≤ 1000000) : rgL 0 b = true := by simp [rgL, rgOk_of h0 (by omega : b ≤ 1000000000), rgOk_of (n := 0)]; omega
/-! ### squares -/
structure Sq (n : Nat) (s : List (List α)) : Prop where
  len : s.length = n
  row : ∀ r ∈ s, r.length = n
abbrev at2 [Inhabited α] (s : List (List α)) (i j : Int) : α := getI (getI s i) j
def mkSq (n : Nat) (f : Int → Int → α) : List (List α) := (rgI 0 n).map fun i => (rgI 0 n).map fun j => f i j
theorem sq_mk {n : Nat} {f : Int → Int → α} : Sq n (mkSq n f) := ⟨by simp [mkSq, len_rgI], fun r hr => by
  obtain ⟨i, _, rfl⟩ := List.mem_map.mp hr
  simp [len_rgI]⟩
theorem at_mk [Inhabited α] {n : Nat} {f : Int → Int → α} {i j : Int} (h0 : 0 ≤ i) (h1 : i < n) (h2 : 0 ≤ j) (h3 : j < n) : at2 (mkSq n f) i j = f i j := by
  unfold mkSq at2
  rw [getI_maprg h0 h1, getI_maprg h2 h3]
theorem Sq.rowAt [Inhabited α] {n : Nat} {s : List (List α)} (h : Sq n s) {i : Int} (h0 : 0 ≤ i) (h1 : i < n) : (getI s i).length = n := h.row _ (getI_mem ⟨by omega, by rw [h.len]; exact h1⟩)
theorem sq_eta [Inhabited α] {n : Nat} {s : List (List α)} (h : Sq n s) : s = mkSq n (at2 s) := by
  unfold mkSq
  refine ext_getI (by rw [List.length_map, len_rgI, h.len]; omega) fun i h0 h1 => ?_
  rw [h.len] at h1
  rw [getI_maprg h0 h1]
  exact (map_getI' (by rw [h.rowAt h0 h1])).symm
theorem sq_ext [Inhabited α] {n : Nat} {s t : List (List α)} (hs : Sq n s) (ht : Sq n t) (h : ∀ i j, 0 ≤ i → i < (n : Int) → 0 ≤ j → j < (n : Int) → at2 s i j = at2 t i j) : s = t := by
  rw [sq_eta hs, sq_eta ht]
  unfold mkSq
  refine List.map_congr_left fun i hi => List.map_congr_left fun j hj => ?_
  obtain ⟨h0, h1⟩ := mem_rgI.mp hi
  obtain ⟨h2, h3⟩ := mem_rgI.mp hj
  exact h i j h0 h1 h2 h3
theorem sq_map {n : Nat} {s : List (List α)} (f : α → β) (h : Sq n s) : Sq n (s.map fun r => r.map f) := ⟨by simp [h.len], fun r hr => by
  obtain ⟨q, hq, rfl⟩ := List.mem_map.mp hr
  simp [h.row q hq]⟩
theorem at_map [Inhabited α] [Inhabited β] {n : Nat} {s : List (List α)} {f : α → β} (h : Sq n s) {i j : Int} (h0 : 0 ≤ i) (h1 : i < n) (h2 : 0 ≤ j) (h3 : j < n) : at2 (s.map fun r => r.map f) i j = f (at2 s i j) := by
  unfold at2
  rw [getI_map ⟨by omega, by rw [h.len]; exact h1⟩, getI_map ⟨by omega, by rw [h.rowAt h0 h1]; exact h3⟩]
/-- every item -/
def AllSq (p : α → Prop) (s : List (List α)) : Prop := ∀ r ∈ s, ∀ x ∈ r, p x
theorem all_mk {n : Nat} {f : Int → Int → α} {p : α → Prop} (h : ∀ i j, 0 ≤ i → i < (n : Int) → 0 ≤ j → j < (n : Int) → p (f i j)) : AllSq p (mkSq n f) := by
  intro r hr x hx
  obtain ⟨i, hi, rfl⟩ := List.mem_map.mp hr
  obtain ⟨j, hj, rfl⟩ := List.mem_map.mp hx
  obtain ⟨h0, h1⟩ := mem_rgI.mp hi
  obtain ⟨h2, h3⟩ := mem_rgI.mp hj
  exact h i j h0 h1 h2 h3
theorem AllSq.at [Inhabited α] {p : α → Prop} {n : Nat} {s : List (List α)} (h : AllSq p s) (hs : Sq n s) {i j : Int} (h0 : 0 ≤ i) (h1 : i < n) (h2 : 0 ≤ j) (h3 : j < n) : p (at2 s i j) :=
  h _ (getI_mem ⟨by omega, by rw [hs.len]; exact h1⟩) _ (getI_mem ⟨by omega, by rw [hs.rowAt h0 h1]; exact h3⟩)
theorem all_map {p : β → Prop} {f : α → β} {s : List (List α)} (h : AllSq (fun x => p (f x)) s) : AllSq p (s.map fun r => r.map f) := by
  intro r hr x hx
  obtain ⟨q, hq, rfl⟩ := List.mem_map.mp hr
  obtain ⟨y, hy, rfl⟩ := List.mem_map.mp hx
  exact h q hq y hy
/-! ### sets of sums -/
theorem mem_insU {x y : Int} : ∀ {xs : List Int}, y ∈ insU x xs ↔ y = x ∨ y ∈ xs
  | [] => by simp [insU]
  | z :: zs => by
    unfold insU
    split
    · simp
    · split
      · rename_i h; subst h; simp
      · rw [List.mem_cons, mem_insU, List.mem_cons]
        constructor
        · rintro (h | h | h) <;> simp [h]
        · rintro (h | h | h) <;> simp [h]
theorem mem_sortU {y : Int} : ∀ {xs : List Int}, y ∈ sortU xs ↔ y ∈ xs
  | [] => by simp [sortU]
  | x :: xs => by rw [sortU, mem_insU, mem_sortU, List.mem_cons]
theorem sorted_insU {x : Int} : ∀ {xs : List Int}, xs.Pairwise (· < ·) → (insU x xs).Pairwise (· < ·)
  | [], _ => by simp [insU]
  | y :: ys, h => by
    have h1 := List.pairwise_cons.mp h
    unfold insU
    split
    · rename_i q
      refine List.pairwise_cons.mpr ⟨fun z hz => ?_, h⟩
      rcases List.mem_cons.mp hz with rfl | hz
      · exact q
      · have := h1.1 z hz; omega
    · split
      · exact h
      · refine List.pairwise_cons.mpr ⟨fun z hz => ?_, sorted_insU h1.2⟩
        rcases mem_insU.mp hz with rfl | hz
        · omega
        · exact h1.1 z hz
theorem sorted_sortU : ∀ xs : List Int, (sortU xs).Pairwise (· < ·)
  | [] => .nil
  | x :: xs => sorted_insU (sorted_sortU xs)
def Eqs (xs : List Int) : Prop := xs ≠ [] ∧ ∃ c, ∀ x ∈ xs, x = c
theorem eqs_iff {xs : List Int} : (sortU xs).length = 1 ↔ Eqs xs := by
  constructor
  · intro h
    obtain ⟨c, hc⟩ := List.length_eq_one_iff.mp h
    refine ⟨fun e => ?_, c, fun x hx => ?_⟩
    · subst e; cases hc
    · have := mem_sortU.mpr hx
      rw [hc] at this
      simpa using this
  · rintro ⟨hn, c, hc⟩
    have hp := sorted_sortU xs
    have hm : ∀ x ∈ sortU xs, x = c := fun x hx => hc x (mem_sortU.mp hx)
    cases e : sortU xs with
    | nil =>
      cases xs with
      | nil => exact absurd rfl hn
      | cons x xs => have := mem_sortU.mpr (List.mem_cons_self (a := x) (l := xs)); rw [e] at this; cases this
    | cons a l =>
      cases l with
      | nil => rfl
      | cons b l =>
        rw [e] at hp hm
        have h1 := (List.pairwise_cons.mp hp).1 b (List.mem_cons_self ..)
        have h2 := hm a (List.mem_cons_self ..)
        have h3 := hm b (by simp)
        omega
theorem len_sortU (xs : List Int) : (sortU xs).length ≤ xs.length := by
  have h : ∀ (x : Int) (ys : List Int), (insU x ys).length ≤ ys.length + 1 := by
    intro x ys
    induction ys with
    | nil => simp [insU]
    | cons y ys ih =>
      unfold insU
      split
      · simp
      · split
        · simp
        · simp; exact ih
  induction xs with
  | nil => simp [sortU]
  | cons x xs ih => have := h x (sortU xs); simp [sortU]; omega
theorem dec_eqs {xs : List Int} [Decidable (Eqs xs)] : decide (((sortU xs).length : Int) = 1) = decide (Eqs xs) := by
  have : ((sortU xs).length : Int) = 1 ↔ Eqs xs := by rw [← eqs_iff]; omega
  exact decide_eq_decide.mpr this
instance {xs : List Int} : Decidable (Eqs xs) := decidable_of_iff _ (eqs_iff (xs := xs))
/-! ### lines of a square -/
def cols (s : List (List Int)) : List (List Int) := (rgI 0 s.length).map fun j => s.map fun r => getI r j
def fall (s : List (List Int)) : List Int := (rgI 0 s.length).map fun i => at2 s i i
def rise (s : List (List Int)) : List Int := (rgI 0 s.length).map fun i => at2 s i (s.length - 1 - i)
def lns (s : List (List Int)) : List (List Int) := s ++ cols s ++ [fall s, rise s]
def sums (s : List (List Int)) : List Int := (lns s).map List.sum
theorem lns_map {n : Nat} {s : List (List Int)} (h : Sq n s) (f : Int → Int) : lns (s.map fun r => r.map f) = (lns s).map fun l => l.map f := by
  have hl : ((s.map fun r => r.map f).length : Int) = s.length := by rw [List.length_map]
  unfold lns cols fall rise
  rw [hl]
  simp only [List.map_append, List.map_map, List.map_cons, List.map_nil]
  congr 1
  · congr 1
    refine List.map_congr_left fun j hj => ?_
    simp only [Function.comp, List.map_map]
    refine List.map_congr_left fun r hr => ?_
    have := mem_rgI.mp hj
    exact getI_map ⟨by omega, by rw [h.row r hr, ← h.len]; omega⟩
  · congr 1
    · refine List.map_congr_left fun i hi => ?_
      have := mem_rgI.mp hi
      exact at_map h (by omega) (by rw [← h.len]; omega) (by omega) (by rw [← h.len]; omega)
    · congr 1
      refine List.map_congr_left fun i hi => ?_
      have := mem_rgI.mp hi
      exact at_map h (by omega) (by rw [← h.len]; omega) (by omega) (by rw [← h.len]; omega)
theorem lns_len {n : Nat} {s : List (List Int)} (h : Sq n s) : ∀ l ∈ lns s, l.length = n := by
  intro l hl
  unfold lns at hl
  rcases List.mem_append.mp hl with hl | hl
  · rcases List.mem_append.mp hl with hl | hl
    · exact h.row l hl
    · obtain ⟨j, _, rfl⟩ := List.mem_map.mp hl
      rw [List.length_map, h.len]
  · simp at hl
    rcases hl with rfl | rfl
    · unfold fall; rw [List.length_map, len_rgI, h.len]; omega
    · unfold rise; rw [List.length_map, len_rgI, h.len]; omega
theorem len_lns {n : Nat} {s : List (List Int)} (h : Sq n s) : (lns s).length = 2 * n + 2 := by
  unfold lns cols
  simp [len_rgI, h.len]
  omega
/-! ### what repr asks -/
def ShOk (d : D) (B k : Nat) : Prop := ∃ q, shW d = some q ∧ q.1 ≤ B ∧ q.2 ≤ k
theorem ReprOk.of {d : D} {B k : Nat} (h : ShOk d B k) (hB : B ≤ lineN) (hk : k ≤ 40) : ReprOk d := by
  obtain ⟨q, e, h1, h2⟩ := h
  exact .inr ⟨q, e, by omega, by omega⟩
/-- a number that repr shows -/
def Small (i : Int) : Prop := -(2 ^ 1000) < i ∧ i < 2 ^ 1000
theorem small_of {i : Int} (h0 : -1000000000000000000000000000000000000000000000000000000000000000 ≤ i) (h1 : i ≤ 1000000000000000000000000000000000000000000000000000000000000000) : Small i := ⟨by omega, by omega⟩
theorem small_log {i : Int} (h : Small i) : i.natAbs.log2 < 1920 := Nat.lt_trans (log2_lt (k := 1000) (by have := h.1; have := h.2; omega) (by decide)) (by decide)
theorem sh_I {i : Int} (h : Small i) : ShOk (eI i) 1921 0 := ⟨(1921, 0), by simp [shW, small_log h], Nat.le_refl _, Nat.le_refl _⟩
theorem sh_B {b : Bool} : ShOk (eB b) 1921 0 := ⟨(8, 0), by simp [shW], by decide, Nat.le_refl _⟩
theorem sh_N : ShOk D.non 1921 0 := ⟨(8, 0), by simp [shW], by decide, Nat.le_refl _⟩
theorem sh_row {B k : Nat} : ∀ {ds : List D}, (∀ d ∈ ds, ShOk d B k) → ∃ q, shWs ds = some q ∧ q.1 ≤ ds.length * (B + 2) ∧ q.2 ≤ k
  | [], _ => ⟨(0, 0), by simp [shWs], by simp, Nat.zero_le _⟩
  | d :: ds, h => by
    obtain ⟨q1, e1, a1, b1⟩ := h d (List.mem_cons_self ..)
    obtain ⟨q2, e2, a2, b2⟩ := sh_row (ds := ds) fun x hx => h x (List.mem_cons_of_mem _ hx)
    refine ⟨(q1.1 + q2.1 + 2, max q1.2 q2.2), by simp [shWs, e1, e2], ?_, ?_⟩
    · simp only [List.length_cons]; rw [Nat.add_mul]; omega
    · simp only; omega
theorem sh_tup {ds : List D} {B k n : Nat} (h : ∀ d ∈ ds, ShOk d B k) (hn : ds.length ≤ n) : ShOk (.tup ds) (n * (B + 2) + 3) (k + 1) := by
  obtain ⟨q, e, a, b⟩ := sh_row h
  have : ds.length * (B + 2) ≤ n * (B + 2) := Nat.mul_le_mul_right _ hn
  exact ⟨(q.1 + 3, q.2 + 1), by simp [shW, e], by simp only; omega, by simp only; omega⟩
theorem sh_lst {ds : List D} {B k n : Nat} (h : ∀ d ∈ ds, ShOk d B k) (hn : ds.length ≤ n) : ShOk (.lst ds) (n * (B + 2) + 3) (k + 1) := by
  obtain ⟨q, e, a, b⟩ := sh_row h
  have : ds.length * (B + 2) ≤ n * (B + 2) := Nat.mul_le_mul_right _ hn
  exact ⟨(q.1 + 3, q.2 + 1), by simp [shW, e], by simp only; omega, by simp only; omega⟩
theorem sh_T {e : α → D} {xs : List α} {B k n : Nat} (h : ∀ x ∈ xs, ShOk (e x) B k) (hn : xs.length ≤ n) : ShOk (eT e xs) (n * (B + 2) + 3) (k + 1) :=
  sh_tup (fun d hd => by obtain ⟨x, hx, rfl⟩ := List.mem_map.mp hd; exact h x hx) (by simpa using hn)
theorem sh_L {e : α → D} {xs : List α} {B k n : Nat} (h : ∀ x ∈ xs, ShOk (e x) B k) (hn : xs.length ≤ n) : ShOk (eL e xs) (n * (B + 2) + 3) (k + 1) :=
  sh_lst (fun d hd => by obtain ⟨x, hx, rfl⟩ := List.mem_map.mp hd; exact h x hx) (by simpa using hn)
theorem sh_wk {d : D} {B k B' k' : Nat} (h : ShOk d B k) (hB : B ≤ B') (hk : k ≤ k') : ShOk d B' k' := by
  obtain ⟨q, e, a, b⟩ := h
  exact ⟨q, e, by omega, by omega⟩
/-- a square of at most 12 rows -/
theorem sh_sq {n : Nat} {s : List (List Int)} (h : Sq n s) (hn : n ≤ 12) (ha : AllSq Small s) : ShOk (eT (eT eI) s) 277000 2 :=
  sh_wk (sh_T (n := 12) (B := 23079) (k := 1) (fun r hr => sh_T (n := 12) (fun x hx => sh_I (ha r hr x hx)) (by rw [h.row r hr]; exact hn)) (by rw [h.len]; exact hn)) (by decide) (by decide)
end
end Ts
set_option Elab.async false
set_option linter.all false
set_option maxRecDepth 100000
set_option maxHeartbeats 400000
/-! Pm2: plain facts: loops that repeat, squares turned, rows with an item otherwise, drawn rows. -/
namespace Ts
open PySem PySem.Spec PyProof.Rows L2 Vs
section
variable {α β γ δ σ : Type} {P : Prop}
instance {x y : Str} : Decidable (SplitOk x y) := inferInstanceAs (Decidable (_ ∧ _))
instance {x : Str} : Decidable (IntTextOk x) := inferInstanceAs (Decidable (_ ∧ _))
instance {n : Int} {xs : List α} : Decidable (RepOk n xs) := inferInstanceAs (Decidable (_ ∧ _))
def iter (q : σ → σ) : Nat → σ → σ
  | 0, s => s
  | n + 1, s => iter q n (q s)
theorem tw_iter {step : σ → α → T σ} {q : σ → σ} {I : σ → Prop} (hs : ∀ s x, I s → Tw (step s x) (· = q s)) (hI : ∀ s, I s → I (q s)) : ∀ {xs : List α} {s : σ}, I s → Tw (T.fold step xs s) (· = iter q xs.length s)
  | [], _, _ => ⟨True.intro, rfl⟩
  | x :: xs, s, h => by
    obtain ⟨g1, e1⟩ := hs s x h
    obtain ⟨g2, e2⟩ := tw_iter hs hI (xs := xs) (hI s h)
    rw [fold_cons]
    refine ⟨⟨g1, ?_⟩, ?_⟩
    · rw [e1]; exact g2
    · show (T.fold step xs (step s x).v).v = _
      rw [e1]; exact e2
theorem iter_inv {q : σ → σ} {I : σ → Prop} (hI : ∀ s, I s → I (q s)) : ∀ (n : Nat) {s : σ}, I s → I (iter q n s)
  | 0, _, h => h
  | n + 1, _, h => iter_inv hI n (hI _ h)
theorem tw_cons {step : σ → α → T σ} {x : α} {xs : List α} {s : σ} {Q : σ → Prop} (h : Tw (step s x) fun v => Tw (T.fold step xs v) Q) : Tw (T.fold step (x :: xs) s) Q := ⟨⟨h.g, h.q.g⟩, h.q.q⟩
theorem tw_nil {step : σ → α → T σ} {s : σ} {Q : σ → Prop} (h : Q s) : Tw (T.fold step [] s) Q := ⟨True.intro, h⟩
theorem tw_foldI {step : σ → α → T σ} {I : Nat → σ → Prop} : ∀ {xs : List α} {k : Nat} {s : σ}, (∀ k s x, x ∈ xs → I k s → Tw (step s x) (I (k + 1))) → I k s → Tw (T.fold step xs s) (I (k + xs.length))
  | [], _, _, _, h => ⟨True.intro, h⟩
  | x :: xs, k, s, hs, h => by
    have h1 := hs k s x (List.mem_cons_self ..) h
    have h2 := tw_foldI (xs := xs) (fun k s y hy => hs k s y (List.mem_cons_of_mem _ hy)) h1.q
    rw [show k + (x :: xs).length = k + 1 + xs.length by simp; omega]
    exact ⟨⟨h1.g, h2.g⟩, h2.q⟩
/-- drawn rows -/
theorem mapS_all {f : σ → α → β × σ} {ok : σ → α → Prop} {p : β → Prop} {I : σ → Prop} : ∀ {xs : List α} {s : σ}, (∀ s x, x ∈ xs → I s → ok s x ∧ p (f s x).1 ∧ I (f s x).2) → I s → mapG ok f xs s ∧ (∀ y ∈ (mapS f xs s).1, p y) ∧ (mapS f xs s).1.length = xs.length ∧ I (mapS f xs s).2
  | [], s, _, h => ⟨True.intro, (fun _ h => nomatch h), rfl, h⟩
  | x :: xs, s, hs, h => by
    obtain ⟨h1, h2, h3⟩ := hs s x (List.mem_cons_self ..) h
    obtain ⟨g1, g2, g3, g4⟩ := mapS_all (xs := xs) (fun s y hy => hs s y (List.mem_cons_of_mem _ hy)) h3
    refine ⟨⟨h1, g1⟩, fun y hy => ?_, by simp [mapS, g3], g4⟩
    simp only [mapS, List.mem_cons] at hy
    rcases hy with rfl | hy
    · exact h2
    · exact g2 y hy
/-! rows with an item otherwise -/
theorem sIx_le (n : Nat) (d : Nat) (o : Option Int) : True := True.intro
theorem cut_lo {xs : List α} {i : Int} (h0 : 0 ≤ i) (h1 : i ≤ xs.length) : cutL xs none (some i) = xs.take i.toNat := by
  have e1 : HT.sIx xs.length 0 none = 0 := by simp [HT.sIx]
  have e2 : HT.sIx xs.length xs.length (some i) = i.toNat := by
    simp only [HT.sIx]
    split <;> omega
  unfold cutL
  rw [e1, e2]; simp
theorem cut_hi {xs : List α} {i : Int} (h0 : 0 ≤ i) (h1 : i ≤ xs.length) : cutL xs (some i) none = xs.drop i.toNat := by
  have e1 : HT.sIx xs.length xs.length none = xs.length := by simp [HT.sIx]
  have e2 : HT.sIx xs.length 0 (some i) = i.toNat := by
    simp only [HT.sIx]
    split <;> omega
  unfold cutL
  rw [e1, e2, List.take_of_length_le (by simp)]
theorem cut_mid {xs : List α} {i j : Int} (h0 : 0 ≤ i) (h1 : i ≤ j) (h2 : j ≤ xs.length) : cutL xs (some i) (some j) = (xs.drop i.toNat).take (j.toNat - i.toNat) := by
  have e1 : HT.sIx xs.length xs.length (some j) = j.toNat := by
    simp only [HT.sIx]
    split <;> omega
  have e2 : HT.sIx xs.length 0 (some i) = i.toNat := by
    simp only [HT.sIx]
    split <;> omega
  unfold cutL
  rw [e1, e2]
theorem put_eq {xs : List α} {i : Int} {x : α} (h0 : 0 ≤ i) (h1 : i < xs.length) : (cutL xs none (some i) ++ [x]) ++ cutL xs (some (i + 1)) none = xs.set i.toNat x := by
  rw [cut_lo h0 (by omega), cut_hi (by omega) (by omega), show (i + 1).toNat = i.toNat + 1 by omega, List.set_eq_take_append_cons_drop, if_pos (by omega)]
  simp
theorem sum_set : ∀ {l : List Int} {k : Nat} {y : Int} (h : k < l.length), (l.set k y).sum = l.sum - l[k] + y
  | x :: l, 0, y, _ => by simp; omega
  | x :: l, k + 1, y, h => by
    have := sum_set (l := l) (k := k) (y := y) (by simpa using h)
    simp only [List.set_cons_succ, List.sum_cons, List.getElem_cons_succ, this]
    omega
/-! squares turned -/
def quartS (s : List (List Int)) : List (List Int) := (rgI 0 s.length).map fun i => (rgI 0 s.length).map fun j => at2 s (s.length - 1 - j) i
def flipS (s : List (List Int)) : List (List Int) := (rgI 0 s.length).map fun i => (rgI 0 s.length).map fun j => at2 s j i
theorem quart_mk {n : Nat} {s : List (List Int)} (h : Sq n s) : quartS s = mkSq n fun i j => at2 s (n - 1 - j) i := by unfold quartS mkSq; rw [h.len]
theorem flip_mk {n : Nat} {s : List (List Int)} (h : Sq n s) : flipS s = mkSq n fun i j => at2 s j i := by unfold flipS mkSq; rw [h.len]
theorem sq_quart {n : Nat} {s : List (List Int)} (h : Sq n s) : Sq n (quartS s) := by rw [quart_mk h]; exact sq_mk
theorem sq_flip {n : Nat} {s : List (List Int)} (h : Sq n s) : Sq n (flipS s) := by rw [flip_mk h]; exact sq_mk
def turnS (s : List (List Int)) (k : Int) : List (List Int) := iter quartS (k % 4).toNat (if k > 3 then flipS s else s)
theorem sq_turn {n : Nat} {s : List (List Int)} (h : Sq n s) (k : Int) : Sq n (turnS s k) := iter_inv (fun _ => sq_quart) _ (by
  split
  · exact sq_flip h
  · exact h)
theorem all_quart {n : Nat} {s : List (List Int)} {p : Int → Prop} (h : Sq n s) (ha : AllSq p s) : AllSq p (quartS s) := by
  rw [quart_mk h]; exact all_mk fun i j h0 h1 h2 h3 => ha.at h (by omega) (by omega) h0 h1
theorem all_flip {n : Nat} {s : List (List Int)} {p : Int → Prop} (h : Sq n s) (ha : AllSq p s) : AllSq p (flipS s) := by
  rw [flip_mk h]; exact all_mk fun i j h0 h1 h2 h3 => ha.at h h2 h3 h0 h1
theorem all_turn {n : Nat} {s : List (List Int)} {p : Int → Prop} (h : Sq n s) (ha : AllSq p s) (k : Int) : AllSq p (turnS s k) := by
  have : Sq n (if k > 3 then flipS s else s) ∧ AllSq p (if k > 3 then flipS s else s) := by
    split
    · exact ⟨sq_flip h, all_flip h ha⟩
    · exact ⟨h, ha⟩
  exact (iter_inv (I := fun s => Sq n s ∧ AllSq p s) (fun s q => ⟨sq_quart q.1, all_quart q.1 q.2⟩) _ this).2
/-! sums of lines led -/
theorem sum_led (f n : Int) : ∀ l : List Int, (l.map fun x => f * x + n).sum = f * l.sum + l.length * n
  | [] => by simp
  | x :: l => by
    rw [List.map_cons, List.sum_cons, sum_led f n l, List.sum_cons, List.length_cons, Int.mul_add]
    have : ((l.length + 1 : Nat) : Int) * n = l.length * n + n := by rw [Int.natCast_succ, Int.add_mul, Int.one_mul]
    rw [this]; omega
theorem sum_led2 (f n : Int) : ∀ l : List Int, (l.map fun x => (f * x + n) * (f * x + n)).sum = f * f * (l.map fun x => x * x).sum + 2 * f * n * l.sum + l.length * (n * n)
  | [] => by simp
  | x :: l => by
    rw [List.map_cons, List.sum_cons, sum_led2 f n l, List.map_cons, List.sum_cons, List.sum_cons, List.length_cons, Int.natCast_succ]
    grind
theorem eqs_lines {n : Nat} {s : List (List Int)} {g : Int → Int} (h : Sq n s) {c : Int} (hc : ∀ l ∈ lns s, (l.map g).sum = c) : Eqs (sums (s.map fun r => r.map g)) := by
  unfold sums
  rw [lns_map h]
  refine ⟨?_, c, ?_⟩
  · have := len_lns h
    intro e
    have := congrArg List.length e
    simp [len_lns h] at this
  · intro x hx
    obtain ⟨l, hl, rfl⟩ := List.mem_map.mp hx
    obtain ⟨l', hl', rfl⟩ := List.mem_map.mp hl
    exact hc l' hl'
theorem eqs_get {s : List (List Int)} (h : Eqs (sums s)) : ∃ c, ∀ l ∈ lns s, l.sum = c := by
  obtain ⟨_, c, hc⟩ := h
  exact ⟨c, fun l hl => hc _ (List.mem_map.mpr ⟨l, hl, rfl⟩)⟩
theorem row_line {s : List (List Int)} {l : List Int} (h : l ∈ s) : l ∈ lns s := by simp [lns, h]
theorem tw_ltP {x : α} {f : α → T β} {Q : β → Prop} (R : α → Prop) (h : P) (hx : R x) (c : ∀ y, R y → Tw (f y) Q) : Tw (T.lt P x f) Q := tw_lt h (c x hx)
theorem tw_flat {step : List α → List α → T (List α)} (hs : step = fun s x => T.lt (s.length + x.length ≤ lineN) (s ++ x) fun y => T.rt True y) : ∀ {xs : List (List α)} {s : List α}, s.length + xs.flatten.length ≤ lineN → Tw (T.fold step xs s) (· = s ++ xs.flatten)
  | [], s, _ => ⟨True.intro, by simp [T.fold]⟩
  | x :: xs, s, h => by
    have hl : s.length + (x.length + xs.flatten.length) ≤ lineN := by simpa using h
    refine tw_cons ?_
    subst hs
    refine tw_lt (by omega) (tw_rt True.intro ?_)
    refine (tw_flat rfl (xs := xs) (s := s ++ x) (by rw [List.length_append]; omega)).imp fun v e => ?_
    rw [e]; simp
theorem cut_len {xs : List α} {lo hi : Option Int} : (cutL xs lo hi).length ≤ xs.length := by
  unfold cutL
  simp
  omega
theorem flat_len {n : Nat} {s : List (List α)} (h : Sq n s) : s.flatten.length = n * n := by
  have key : ∀ {k : Nat} {t : List (List α)}, (∀ r ∈ t, r.length = k) → t.flatten.length = t.length * k := by
    intro k t
    induction t with
    | nil => simp
    | cons r t ih =>
      intro h
      have h1 := h r (List.mem_cons_self ..)
      have h2 := ih fun q hq => h q (List.mem_cons_of_mem _ hq)
      rw [List.flatten_cons, List.length_append, h1, h2, List.length_cons, Nat.add_mul, Nat.one_mul]; omega
  rw [key h.row, h.len]
theorem rep_one {x : α} {n : Int} : repI n [x] = List.replicate n.toNat x := by
  unfold repI
  induction n.toNat with
  | zero => rfl
  | succ k ih => rw [List.replicate_succ, List.flatten_cons, ih, List.replicate_succ]; rfl
theorem sq_rep {x : α} {n : Nat} : Sq n (repI (n : Int) [repI (n : Int) [x]]) := by
  rw [rep_one, rep_one]
  exact ⟨by simp, fun r hr => by rw [(List.mem_replicate.mp hr).2]; simp⟩
theorem all_rep2 {x : α} {n : Int} {p : α → Prop} (h : p x) : AllSq p (repI n [repI n [x]]) := by
  rw [rep_one, rep_one]
  intro r hr y hy
  rw [(List.mem_replicate.mp hr).2] at hy
  rw [(List.mem_replicate.mp hy).2]
  exact h
theorem repTok {x : α} {n : Int} (h0 : 1 ≤ n) (h1 : n ≤ 1000) : RepTOk n [x] := by
  by_cases h : n = 1
  · exact .inl h
  · exact .inr ⟨by simp, by omega, h1, by simp⟩
end
end Ts
set_option Elab.async false
set_option linter.all false
set_option maxRecDepth 100000
set_option maxHeartbeats 400000
/-! Pm3: loops that search, values of any kind, what repr asks of them. -/
namespace Ts
open PySem PySem.Spec PyProof.Rows L2 Vs
section
variable {α β γ δ σ : Type} {P : Prop}
/-- a loop, by how many items are still to come -/
theorem tw_foldN {step : σ → α → T σ} {I : Nat → σ → Prop} : ∀ {xs : List α} {s : σ}, (∀ k s x, x ∈ xs → I (k + 1) s → Tw (step s x) (I k)) → I xs.length s → Tw (T.fold step xs s) (I 0)
  | [], _, _, h => ⟨True.intro, h⟩
  | x :: xs, s, hs, h => by
    have h1 := hs xs.length s x (List.mem_cons_self ..) h
    have h2 := tw_foldN (xs := xs) (fun k s y hy => hs k s y (List.mem_cons_of_mem _ hy)) h1.q
    exact ⟨⟨h1.g, h2.g⟩, h2.q⟩
/-! ### loops that leave at the first find -/
def cfO : Option β → Cf β Unit
  | some b => .ret b
  | none => .nxt ()
def smO : Option β → β ⊕ Unit
  | some b => .inl b
  | none => .inr ()
theorem tw_find {step : Unit → α → T (Cf β Unit)} {f : α → Option β} : ∀ {xs : List α}, (∀ x ∈ xs, Tw (step () x) (· = cfO (f x))) → Tw (T.foldR step xs ()) (· = smO (xs.findSome? f))
  | [], _ => ⟨True.intro, rfl⟩
  | x :: xs, hs => by
    have h1 := hs x (List.mem_cons_self ..)
    have h2 := tw_find (xs := xs) (fun y hy => hs y (List.mem_cons_of_mem _ hy))
    cases e : f x with
    | some b =>
      rw [e] at h1
      refine ⟨⟨h1.g, by rw [h1.q]; exact True.intro⟩, ?_⟩
      show T.cfV _ (step () x).v = _
      rw [h1.q, List.findSome?_cons, e]; rfl
    | none =>
      rw [e] at h1
      refine ⟨⟨h1.g, by rw [h1.q]; exact h2.g⟩, ?_⟩
      show T.cfV _ (step () x).v = _
      rw [h1.q, List.findSome?_cons, e]; exact h2.q
theorem tw_findS {step : Unit → α → T (Cf β Unit)} {f : α → Option β} {xs : List α} {g : Unit → T β} {Q : β → Prop} (hs : ∀ x ∈ xs, Tw (step () x) (· = cfO (f x))) (h1 : ∀ b, xs.findSome? f = some b → Q b) (h2 : xs.findSome? f = none → Tw (g ()) Q) : Tw (T.bndS (T.foldR step xs ()) g) Q :=
  tw_bndS ((tw_find hs).imp fun v e => by
    subst e
    cases q : xs.findSome? f with
    | some b => exact h1 b q
    | none => exact h2 q)
theorem find_filter {p : α → Bool} {g : α → β} : ∀ xs : List α, xs.findSome? (fun x => if p x = true then some (g x) else none) = ((xs.filter p).map g).head?
  | [] => rfl
  | x :: xs => by
    rw [List.findSome?_cons]
    cases q : p x with
    | true => simp [q]
    | false => simp [q, find_filter xs]
theorem find_ext {f g : α → Option β} : ∀ {xs : List α}, (∀ x ∈ xs, f x = g x) → xs.findSome? f = xs.findSome? g
  | [], _ => rfl
  | x :: xs, h => by rw [List.findSome?_cons, List.findSome?_cons, h x List.mem_cons_self, find_ext fun y hy => h y (List.mem_cons_of_mem _ hy)]
theorem find_mem {f : α → Option β} {b : β} : ∀ {xs : List α}, xs.findSome? f = some b → ∃ x ∈ xs, f x = some b
  | [], h => nomatch h
  | x :: xs, h => by
    rw [List.findSome?_cons] at h
    cases q : f x with
    | some c => rw [q] at h; exact ⟨x, List.mem_cons_self, by rw [q]; exact h⟩
    | none =>
      rw [q] at h
      obtain ⟨y, hy, e⟩ := find_mem h
      exact ⟨y, List.mem_cons_of_mem _ hy, e⟩
theorem mem_enumI {xs : List α} {q : Int × α} (h : q ∈ enumI xs) : 0 ≤ q.1 ∧ q.1 < xs.length ∧ q.2 ∈ xs := by
  unfold enumI at h
  obtain ⟨⟨x, i⟩, hx, rfl⟩ := List.mem_map.mp h
  obtain ⟨_, h2, h3⟩ := List.mem_zipIdx hx
  refine ⟨by simp, by simp only; omega, ?_⟩
  simp only
  rw [h3]; exact List.getElem_mem _
theorem len_enumI {xs : List α} : (enumI xs).length = xs.length := by simp [enumI]
theorem mem_cut {xs : List α} {lo hi : Option Int} {x : α} (h : x ∈ cutL xs lo hi) : x ∈ xs := List.mem_of_mem_drop (List.mem_of_mem_take h)
theorem getI_0 [Inhabited α] {x : α} {xs : List α} : getI (x :: xs) 0 = x := rfl
/-! ### trees of known kinds -/
theorem tyT {xs : List D} : isDb .tup (.tup xs) = true := rfl
theorem isDb_tup (d : D) : isDb .tup d = isTupD d := by cases d <;> rfl
theorem isWhole (d : D) : (isDb .int d && !(isDb .bl d)) = isIntD d := by cases d <;> rfl
/-- an item: its kind is known, its text small -/
structure ItOk (x : D) : Prop where
  t : (tyD x).isSome = true
  s : ShOk x 1926 1
structure RwOk (r : D) : Prop where
  t : (tyD r).isSome = true
  n : (tupOf r).length ≤ 1000
  x : ∀ x ∈ tupOf r, (tyD x).isSome = true
  s : ShOk r 60000 2
structure VlOk (d : D) : Prop where
  t : (tyD d).isSome = true
  n : (tupOf d).length ≤ 1000
  x : ∀ r ∈ tupOf d, (tyD r).isSome = true ∧ (tupOf r).length ≤ 1000 ∧ ∀ x ∈ tupOf r, (tyD x).isSome = true
  s : ReprOk d
theorem sh_up {d : D} {B k B' k' : Nat} (h : ShOk d B k) (hB : B ≤ B') (hk : k ≤ k') : ShOk d B' k' := sh_wk h hB hk
theorem it_I {i : Int} (h : Small i) : ItOk (eI i) := ⟨rfl, sh_up (sh_I h) (by decide) (by decide)⟩
theorem it_B {b : Bool} : ItOk (eB b) := ⟨rfl, sh_up sh_B (by decide) (by decide)⟩
theorem it_N : ItOk (eN ()) := ⟨rfl, sh_up sh_N (by decide) (by decide)⟩
theorem eT_D (ds : List D) : eT eD ds = .tup ds := by
  have e : (eD : D → D) = id := rfl
  simp [eT, e]
theorem eL_D (ds : List D) : eL eD ds = .lst ds := by
  have e : (eD : D → D) = id := rfl
  simp [eL, e]
theorem rw_row {ds : List D} (h : ∀ x ∈ ds, ItOk x) (hn : ds.length ≤ 15) : RwOk (.tup ds) :=
  ⟨rfl, by simp only [tupOf]; omega, fun x hx => (h x hx).t, sh_up (sh_tup (B := 1926) (k := 1) (n := 15) (fun x hx => (h x hx).s) hn) (by decide) (by decide)⟩
theorem rw_lst {ds : List D} (h : ∀ x ∈ ds, ItOk x) (hn : ds.length ≤ 15) : RwOk (.lst ds) :=
  ⟨rfl, by simp [tupOf], fun x hx => (nomatch hx), sh_up (sh_lst (B := 1926) (k := 1) (n := 15) (fun x hx => (h x hx).s) hn) (by decide) (by decide)⟩
theorem tup_flat {x : D} (h : ∀ ys, x ≠ .tup ys) : tupOf x = [] := by
  cases x with
  | tup ys => exact absurd rfl (h ys)
  | _ => rfl
theorem rw_item {x : D} (h : ItOk x) (hf : ∀ ys, x ≠ .tup ys) : RwOk x :=
  ⟨h.t, by rw [tup_flat hf]; simp, fun y hy => by rw [tup_flat hf] at hy; exact (nomatch hy), sh_up h.s (by decide) (by decide)⟩
theorem vl_tup {ds : List D} (h : ∀ r ∈ ds, RwOk r) (hn : ds.length ≤ 30) : VlOk (.tup ds) :=
  ⟨rfl, by simp only [tupOf]; omega, fun r hr => ⟨(h r hr).t, (h r hr).n, (h r hr).x⟩, ReprOk.of (sh_tup (B := 60000) (k := 2) (n := 30) (fun r hr => (h r hr).s) hn) (by decide) (by decide)⟩
theorem vl_lst {ds : List D} (h : ∀ r ∈ ds, RwOk r) (hn : ds.length ≤ 30) : VlOk (.lst ds) :=
  ⟨rfl, by simp [tupOf], fun r hr => (nomatch hr), ReprOk.of (sh_lst (B := 60000) (k := 2) (n := 30) (fun r hr => (h r hr).s) hn) (by decide) (by decide)⟩
/-- no item of it is a row -/
theorem vl_row {r : D} (h : RwOk r) (hx : ∀ x ∈ tupOf r, ∀ ys, x ≠ .tup ys) : VlOk r :=
  ⟨h.t, h.n, fun x hx' => ⟨h.x x hx', by rw [tup_flat (hx x hx')]; simp, fun y hy => by rw [tup_flat (hx x hx')] at hy; exact (nomatch hy)⟩, ReprOk.of h.s (by decide) (by decide)⟩
theorem rw_ints {r : List Int} (h : ∀ x ∈ r, Small x) (hn : r.length ≤ 15) : RwOk (eT eI r) := rw_row (ds := r.map eI) (fun x hx => by
  obtain ⟨i, hi, rfl⟩ := List.mem_map.mp hx
  exact it_I (h i hi)) (by simpa using hn)
theorem ints_flat {r : List Int} : ∀ x ∈ tupOf (eT eI r), ∀ ys, x ≠ .tup ys := by
  intro x hx ys e
  obtain ⟨i, hi, rfl⟩ := List.mem_map.mp hx
  cases e
theorem vl_ints {r : List Int} (h : ∀ x ∈ r, Small x) (hn : r.length ≤ 15) : VlOk (eT eI r) := vl_row (rw_ints h hn) ints_flat
theorem vl_sq {s : List (List Int)} (h : ∀ r ∈ s, r.length ≤ 15 ∧ ∀ x ∈ r, Small x) (hn : s.length ≤ 30) : VlOk (eT (eT eI) s) := vl_tup (ds := s.map (eT eI)) (fun x hx => by
  obtain ⟨r, hr, rfl⟩ := List.mem_map.mp hx
  exact rw_ints (h r hr).2 (h r hr).1) (by simpa using hn)
theorem vl_sqL {s : List (List Int)} (h : ∀ r ∈ s, r.length ≤ 15 ∧ ∀ x ∈ r, Small x) (hn : s.length ≤ 30) : VlOk (eL (eT eI) s) := vl_lst (ds := s.map (eT eI)) (fun x hx => by
  obtain ⟨r, hr, rfl⟩ := List.mem_map.mp hx
  exact rw_ints (h r hr).2 (h r hr).1) (by simpa using hn)
theorem sh_S {x : Str} (h : x.cps.toList.all (fun c => decide (c < 16 ^ 8)) = true) (hn : x.length ≤ 100) : ShOk (eS x) 1926 1 := ⟨(10 * x.length + 2, 0), by
  show (if _ then _ else _) = _
  rw [if_pos h], by simp only; omega, Nat.zero_le _⟩
theorem sh_P3 {e : α → D} {f : β → D} {g : γ → D} {p : α × β × γ} (h1 : ShOk (e p.1) 1926 1) (h2 : ShOk (f p.2.1) 1926 1) (h3 : ShOk (g p.2.2) 1926 1) : ShOk (eP3 e f g p) 60000 2 :=
  sh_up (sh_tup (B := 1926) (k := 1) (n := 3) (ds := [e p.1, f p.2.1, g p.2.2]) (fun x hx => by
    simp only [List.mem_cons, List.not_mem_nil, or_false] at hx
    rcases hx with rfl | rfl | rfl
    · exact h1
    · exact h2
    · exact h3) (by simp)) (by decide) (by decide)
theorem rp_two {d : D} {B k : Nat} (h : ShOk d B k) (hB : B ≤ 1000000) (hk : k ≤ 30) : ReprOk (eL eD [d, d]) := by
  rw [eL_D]
  exact ReprOk.of (sh_lst (ds := [d, d]) (n := 2) (B := 1000000) (k := 30) (fun x hx => by
    simp only [List.mem_cons, List.not_mem_nil, or_false] at hx
    rcases hx with rfl | rfl <;> exact sh_up h hB hk) (by simp)) (by decide) (by decide)
theorem rp_twoE {e : α → D} {x : α} {B k : Nat} (h : ShOk (e x) B k) (hB : B ≤ 1000000) (hk : k ≤ 30) : ReprOk (eL e [x, x]) :=
  ReprOk.of (sh_L (n := 2) (B := 1000000) (k := 30) (fun y hy => by
    simp only [List.mem_cons, List.not_mem_nil, or_false] at hy
    rcases hy with rfl | rfl <;> exact sh_up h hB hk) (by simp)) (by decide) (by decide)
theorem rp_row {xs : List Int} {n : Nat} (h : ∀ x ∈ xs, Small x) (hn : xs.length ≤ n) (h2 : n ≤ 400) : ShOk (eT eI xs) (n * (1921 + 2) + 3) 1 := sh_T (fun x hx => sh_I (h x hx)) hn
end
end Ts
set_option Elab.async false
set_option linter.all false
set_option maxRecDepth 100000
set_option maxHeartbeats 400000
/-! Pm4: nested searches, trees of known kinds at any depth, loops that append, sums, cubes. -/
namespace Ts
open PySem PySem.Spec PyProof.Rows L2 Vs
section
variable {α β γ δ σ : Type} {P : Prop}
/-! ### nested searches -/
theorem find_map {f : α → Option β} {g : β → γ} : ∀ xs : List α, xs.findSome? (fun x => (f x).map g) = (xs.findSome? f).map g
  | [] => rfl
  | x :: xs => by
    rw [List.findSome?_cons, List.findSome?_cons]
    cases q : f x with
    | some b => rfl
    | none => exact find_map xs
theorem tw_find2 {step : Unit → α → T (Cf (Cf β Unit) Unit)} {f : α → Option β} {xs : List α} (hs : ∀ x ∈ xs, Tw (step () x) (· = cfO ((f x).map (Cf.ret (σ := Unit))))) :
    Tw (T.bndS (T.foldR step xs ()) (fun _ => T.rt True (Cf.nxt ()))) (· = cfO (xs.findSome? f)) :=
  tw_bndS ((tw_find (f := fun x => (f x).map (Cf.ret (σ := Unit))) hs).imp fun v e => by
    subst e
    rw [find_map]
    cases q : xs.findSome? f with
    | some b => rfl
    | none => exact tw_rt True.intro rfl)
/-! ### trees of known kinds, all the way down -/
def Ty : Nat → D → Prop
  | 0, x => (tyD x).isSome = true
  | k + 1, x => (tyD x).isSome = true ∧ (tupOf x).length ≤ 1000 ∧ ∀ y ∈ tupOf x, Ty k y
def AT (x : D) : Prop := ∀ k, Ty k x
theorem AT.t {x : D} (h : AT x) : (tyD x).isSome = true := h 0
theorem AT.n {x : D} (h : AT x) : (tupOf x).length ≤ 1000 := (h 1).2.1
theorem AT.x {x y : D} (h : AT x) (hy : y ∈ tupOf x) : AT y := fun k => (h (k + 1)).2.2 y hy
theorem at_tup {ds : List D} (h : ∀ y ∈ ds, AT y) (hn : ds.length ≤ 1000) : AT (.tup ds)
  | 0 => rfl
  | k + 1 => ⟨rfl, hn, fun y hy => h y hy k⟩
theorem at_flat {x : D} (h : (tyD x).isSome = true) (hf : tupOf x = []) : AT x
  | 0 => h
  | k + 1 => ⟨h, by rw [hf]; simp, fun y hy => by rw [hf] at hy; exact nomatch hy⟩
/-- a tree whose kinds are known and whose text is not long -/
structure Vl (B k : Nat) (x : D) : Prop where
  a : AT x
  s : ShOk x B k
theorem Vl.up {B k B' k' : Nat} {x : D} (h : Vl B k x) (hB : B ≤ B') (hk : k ≤ k') : Vl B' k' x := ⟨h.a, sh_wk h.s hB hk⟩
theorem vI {i : Int} (h : Small i) : Vl 1921 0 (eI i) := ⟨at_flat rfl rfl, sh_I h⟩
theorem vB {b : Bool} : Vl 1921 0 (eB b) := ⟨at_flat rfl rfl, sh_B⟩
theorem vN : Vl 1921 0 (eN ()) := ⟨at_flat rfl rfl, sh_N⟩
theorem vS {x : Str} (h : x.cps.toList.all (fun c => decide (c < 16 ^ 8)) = true) (hn : x.length ≤ 100) : Vl 1921 0 (eS x) := ⟨at_flat rfl rfl, ⟨(10 * x.length + 2, 0), by
  show (if _ then _ else _) = _
  rw [if_pos h], by simp only; omega, Nat.le_refl _⟩⟩
theorem v_tup {ds : List D} {B k n : Nat} (h : ∀ y ∈ ds, Vl B k y) (hn : ds.length ≤ n) (h2 : n ≤ 1000) : Vl (n * (B + 2) + 3) (k + 1) (.tup ds) := ⟨at_tup (fun y hy => (h y hy).a) (by omega), sh_tup (fun y hy => (h y hy).s) hn⟩
theorem v_lst {ds : List D} {B k n : Nat} (h : ∀ y ∈ ds, Vl B k y) (hn : ds.length ≤ n) : Vl (n * (B + 2) + 3) (k + 1) (.lst ds) := ⟨at_flat rfl rfl, sh_lst (fun y hy => (h y hy).s) hn⟩
theorem v_eT {e : α → D} {xs : List α} {B k n : Nat} (h : ∀ y ∈ xs, Vl B k (e y)) (hn : xs.length ≤ n) (h2 : n ≤ 1000) : Vl (n * (B + 2) + 3) (k + 1) (eT e xs) := v_tup (ds := xs.map e) (fun y hy => by
  obtain ⟨x, hx, rfl⟩ := List.mem_map.mp hy
  exact h x hx) (by simpa using hn) h2
theorem v_eL {e : α → D} {xs : List α} {B k n : Nat} (h : ∀ y ∈ xs, Vl B k (e y)) (hn : xs.length ≤ n) : Vl (n * (B + 2) + 3) (k + 1) (eL e xs) := v_lst (ds := xs.map e) (fun y hy => by
  obtain ⟨x, hx, rfl⟩ := List.mem_map.mp hy
  exact h x hx) (by simpa using hn)
theorem v_D {ds : List D} {B k : Nat} (h : Vl B k (.tup ds)) : Vl B k (eT eD ds) := by rw [eT_D]; exact h
theorem Vl.rp {B k : Nat} {x : D} (h : Vl B k x) (hB : B ≤ lineN) (hk : k ≤ 40) : ReprOk x := ReprOk.of h.s hB hk
/-! ### loops that append -/
theorem tw_grow {step : List β → α → T (List β)} {f : α → List β} {N : Nat} : ∀ {xs : List α} {s : List β}, (∀ s x, x ∈ xs → s.length + (f x).length ≤ N → Tw (step s x) (· = s ++ f x)) → s.length + (xs.flatMap f).length ≤ N → Tw (T.fold step xs s) (· = s ++ xs.flatMap f)
  | [], s, _, _ => ⟨True.intro, by show s = s ++ []; simp⟩
  | x :: xs, s, hs, hn => by
    rw [List.flatMap_cons, List.length_append] at hn
    have h1 := hs s x (List.mem_cons_self ..) (by omega)
    have h2 := tw_grow (xs := xs) (s := s ++ f x) (fun s y hy => hs s y (List.mem_cons_of_mem _ hy)) (by rw [List.length_append]; omega)
    refine ⟨⟨h1.g, by rw [h1.q]; exact h2.g⟩, ?_⟩
    show (T.fold step xs (step s x).v).v = _
    rw [h1.q, h2.q, List.flatMap_cons, List.append_assoc]
/-- three lists at once -/
theorem tw_grow3 {step : List β × List γ × List δ → α → T (List β × List γ × List δ)} {f : α → List β} {g : α → List γ} {h : α → List δ} {N : Nat} : ∀ {xs : List α} {s : List β × List γ × List δ},
    (∀ s x, x ∈ xs → s.1.length + (f x).length ≤ N → s.2.1.length + (g x).length ≤ N → s.2.2.length + (h x).length ≤ N → Tw (step s x) (· = (s.1 ++ f x, s.2.1 ++ g x, s.2.2 ++ h x))) →
    s.1.length + (xs.flatMap f).length ≤ N → s.2.1.length + (xs.flatMap g).length ≤ N → s.2.2.length + (xs.flatMap h).length ≤ N → Tw (T.fold step xs s) (· = (s.1 ++ xs.flatMap f, s.2.1 ++ xs.flatMap g, s.2.2 ++ xs.flatMap h))
  | [], s, _, _, _, _ => ⟨True.intro, by show s = (s.1 ++ [], s.2.1 ++ [], s.2.2 ++ []); simp⟩
  | x :: xs, s, hs, n1, n2, n3 => by
    rw [List.flatMap_cons, List.length_append] at n1 n2 n3
    have h1 := hs s x (List.mem_cons_self ..) (by omega) (by omega) (by omega)
    have h2 := tw_grow3 (xs := xs) (s := (s.1 ++ f x, s.2.1 ++ g x, s.2.2 ++ h x)) (fun s y hy => hs s y (List.mem_cons_of_mem _ hy)) (by simp only [List.length_append]; omega) (by simp only [List.length_append]; omega) (by simp only [List.length_append]; omega)
    refine ⟨⟨h1.g, by rw [h1.q]; exact h2.g⟩, ?_⟩
    show (T.fold step xs (step s x).v).v = _
    rw [h1.q, h2.q]
    simp only [List.flatMap_cons, List.append_assoc]
theorem tw_grow2 {step : List β × List γ → α → T (List β × List γ)} {f : α → List β} {g : α → List γ} {N : Nat} : ∀ {xs : List α} {s : List β × List γ},
    (∀ s x, x ∈ xs → s.1.length + (f x).length ≤ N → s.2.length + (g x).length ≤ N → Tw (step s x) (· = (s.1 ++ f x, s.2 ++ g x))) →
    s.1.length + (xs.flatMap f).length ≤ N → s.2.length + (xs.flatMap g).length ≤ N → Tw (T.fold step xs s) (· = (s.1 ++ xs.flatMap f, s.2 ++ xs.flatMap g))
  | [], s, _, _, _ => ⟨True.intro, by show s = (s.1 ++ [], s.2 ++ []); simp⟩
  | x :: xs, s, hs, n1, n2 => by
    rw [List.flatMap_cons, List.length_append] at n1 n2
    have h1 := hs s x (List.mem_cons_self ..) (by omega) (by omega)
    have h2 := tw_grow2 (xs := xs) (s := (s.1 ++ f x, s.2 ++ g x)) (fun s y hy => hs s y (List.mem_cons_of_mem _ hy)) (by simp only [List.length_append]; omega) (by simp only [List.length_append]; omega)
    refine ⟨⟨h1.g, by rw [h1.q]; exact h2.g⟩, ?_⟩
    show (T.fold step xs (step s x).v).v = _
    rw [h1.q, h2.q]
    simp only [List.flatMap_cons, List.append_assoc]
theorem flatMap_one {f : α → β} : ∀ xs : List α, (xs.flatMap fun x => [f x]) = xs.map f
  | [] => rfl
  | x :: xs => by rw [List.flatMap_cons, flatMap_one xs]; rfl
theorem len_flatMap {f : α → List β} {k : Nat} : ∀ {xs : List α}, (∀ x ∈ xs, (f x).length ≤ k) → (xs.flatMap f).length ≤ xs.length * k
  | [], _ => by simp
  | x :: xs, h => by
    rw [List.flatMap_cons, List.length_append, List.length_cons, Nat.succ_mul]
    have := h x List.mem_cons_self
    have := len_flatMap (xs := xs) fun y hy => h y (List.mem_cons_of_mem _ hy)
    omega
theorem sum_bd {B : Int} : ∀ {l : List Int}, (∀ x ∈ l, -B ≤ x ∧ x ≤ B) → -(l.length * B) ≤ l.sum ∧ l.sum ≤ l.length * B
  | [], _ => by simp
  | x :: l, h => by
    have h1 := h x List.mem_cons_self
    have h2 := sum_bd (l := l) fun y hy => h y (List.mem_cons_of_mem _ hy)
    simp only [List.sum_cons, List.length_cons]
    have e : ((l.length + 1 : Nat) : Int) * B = l.length * B + B := by rw [Int.natCast_add, Int.add_mul]; simp
    rw [e]
    omega
/-! ### cubes -/
structure Cb (n : Nat) (c : List (List (List α))) : Prop where
  len : c.length = n
  sq : ∀ s ∈ c, Sq n s
def AllC (p : α → Prop) (c : List (List (List α))) : Prop := ∀ s ∈ c, AllSq p s
abbrev at3 [Inhabited α] (c : List (List (List α))) (i j k : Int) : α := getI (getI (getI c i) j) k
theorem Cb.sqAt [Inhabited α] {n : Nat} {c : List (List (List α))} (h : Cb n c) {i : Int} (h0 : 0 ≤ i) (h1 : i < n) : Sq n (getI c i) := h.sq _ (getI_mem ⟨by omega, by rw [h.len]; exact h1⟩)
theorem Cb.in1 {n : Nat} {c : List (List (List α))} (h : Cb n c) {i : Int} (h0 : 0 ≤ i) (h1 : i < n) : InR c.length i := inR_of h0 (by rw [h.len]; exact h1)
theorem Cb.in2 [Inhabited α] {n : Nat} {c : List (List (List α))} (h : Cb n c) {i j : Int} (h0 : 0 ≤ i) (h1 : i < n) (h2 : 0 ≤ j) (h3 : j < n) : InR (getI c i).length j := inR_of h2 (by rw [(h.sqAt h0 h1).len]; exact h3)
theorem Cb.in3 [Inhabited α] {n : Nat} {c : List (List (List α))} (h : Cb n c) {i j k : Int} (h0 : 0 ≤ i) (h1 : i < n) (h2 : 0 ≤ j) (h3 : j < n) (h4 : 0 ≤ k) (h5 : k < n) : InR (getI (getI c i) j).length k := inR_of h4 (by rw [(h.sqAt h0 h1).rowAt h2 h3]; exact h5)
theorem cb_rep {x : α} {n : Nat} : Cb n (repI (n : Int) [repI (n : Int) [repI (n : Int) [x]]]) := ⟨by rw [rep_one, List.length_replicate]; omega, fun s hs => by
  rw [rep_one] at hs
  have := (List.mem_replicate.mp hs).2
  subst this
  exact sq_rep⟩
theorem allC_rep {x : α} {n : Int} {p : α → Prop} (h : p x) : AllC p (repI n [repI n [repI n [x]]]) := fun s hs => by
  rw [rep_one] at hs
  have := (List.mem_replicate.mp hs).2
  subst this
  exact all_rep2 h
theorem AllC.row {p : α → Prop} {c : List (List (List α))} (h : AllC p c) {s : List (List α)} (hs : s ∈ c) {r : List α} (hr : r ∈ s) {x : α} (hx : x ∈ r) : p x := h s hs r hr x hx
end
end Ts
set_option Elab.async false
set_option linter.all false
set_option maxRecDepth 100000
set_option maxHeartbeats 400000
/-! Pm5: while loops by a measure, the greatest common divisor. -/
namespace Ts
open PySem PySem.Spec PyProof.Rows L2 Vs
section
variable {α β γ δ σ : Type} {P : Prop}
theorem tw_whl {c : σ → T Bool} {step : σ → T σ} {I : σ → Prop} {μ : σ → Nat} (h : ∀ s, I s → (c s).g ∧ ((c s).v = true → Tw (step s) fun s' => I s' ∧ μ s' < μ s)) : ∀ (n : Nat) (s : σ), I s → μ s < n → Tw (T.whl c step n s) fun s' => I s' ∧ (c s').v = false
  | 0, s, _, hm => absurd hm (Nat.not_lt_zero _)
  | n + 1, s, hi, hm => by
    obtain ⟨g, hs⟩ := h s hi
    cases e : (c s).v with
    | false =>
      refine ⟨⟨g, fun q => by rw [e] at q; cases q⟩, ?_⟩
      show (if (c s).v = true then _ else s : σ) |> fun s' => I s' ∧ (c s').v = false
      rw [e]
      exact ⟨hi, e⟩
    | true =>
      have w := hs e
      have ih := tw_whl h n (step s).v w.q.1 (by have := w.q.2; omega)
      refine ⟨⟨g, fun _ => ⟨w.g, ih.g⟩⟩, ?_⟩
      show (if (c s).v = true then (T.whl c step n (step s).v).v else s : σ) |> fun s' => I s' ∧ (c s').v = false
      rw [e]
      exact ih.q
/-- more room does not change what a loop gives -/
theorem whl_more {c : σ → T Bool} {step : σ → T σ} {I : σ → Prop} {μ : σ → Nat} (h : ∀ s, I s → (c s).v = true → I (step s).v ∧ μ (step s).v < μ s) : ∀ (n m : Nat) (s : σ), I s → μ s < n → μ s < m → (T.whl c step n s).v = (T.whl c step m s).v
  | 0, _, _, _, hm, _ => absurd hm (Nat.not_lt_zero _)
  | n + 1, 0, _, _, _, hm => absurd hm (Nat.not_lt_zero _)
  | n + 1, m + 1, s, hi, h1, h2 => by
    show (if (c s).v = true then (T.whl c step n (step s).v).v else s) = (if (c s).v = true then (T.whl c step m (step s).v).v else s)
    cases e : (c s).v with
    | false => rfl
    | true =>
      obtain ⟨i, d⟩ := h s hi e
      simp only [if_true]
      exact whl_more h n m _ i (by omega) (by omega)
end
end Ts
set_option Elab.async false
set_option linter.all false
set_option maxRecDepth 100000
set_option maxHeartbeats 400000
/-! Pm6: loops that may end early with a state, dicts of known numbers, single steps of a while loop, drawn orders. -/
namespace Ts
open PySem PySem.Spec PyProof.Rows L2 Vs
section
variable {α β γ δ σ : Type} {P : Prop}
/-! ### loops that may end early -/
def foF (f : σ → α → Cf β σ) : List α → σ → β ⊕ σ
  | [], s => .inr s
  | x :: r, s => T.cfV (foF f r) (f s x)
theorem tw_foF {step : σ → α → T (Cf β σ)} {f : σ → α → Cf β σ} {I : Nat → σ → Prop} {k0 : Nat} : ∀ {xs : List α} {s : σ}, (∀ k s x, x ∈ xs → I (k + 1) s → Tw (step s x) (· = f s x) ∧ ∀ s', f s x = .nxt s' ∨ f s x = .brk s' → I k s') → (∀ k s, I (k + 1) s → I k s) → I (xs.length + k0) s → Tw (T.foldR step xs s) fun v => v = foF f xs s ∧ ∀ s', v = .inr s' → I k0 s'
  | [], s, _, _, h => ⟨True.intro, rfl, fun s' e => by cases e; simpa using h⟩
  | x :: xs, s, hs, hd, h => by
    have h : I (xs.length + k0 + 1) s := by rw [List.length_cons] at h; have e : xs.length + 1 + k0 = xs.length + k0 + 1 := by omega
                                            rwa [e] at h
    obtain ⟨t1, i1⟩ := hs (xs.length + k0) s x List.mem_cons_self h
    have dn : ∀ n s, I (n + k0) s → I k0 s := fun n => by
      induction n with
      | zero => intro s h; simpa using h
      | succ n ih => intro s h; exact ih s (hd _ _ (by rwa [show n + k0 + 1 = n + 1 + k0 by omega]))
    cases e : f s x with
    | ret b =>
      rw [e] at t1
      refine ⟨⟨t1.g, by rw [t1.q]; exact True.intro⟩, ?_⟩
      show T.cfV _ (step s x).v = T.cfV (foF f xs) (f s x) ∧ _
      rw [t1.q, e]
      exact ⟨rfl, fun s' e2 => by
        have e3 : T.cfV (fun s => (T.foldR step xs s).v) (step s x).v = .inr s' := e2
        rw [t1.q] at e3; cases e3⟩
    | brk s1 =>
      have i2 := i1 s1 (.inr e)
      rw [e] at t1
      refine ⟨⟨t1.g, by rw [t1.q]; exact True.intro⟩, ?_⟩
      show T.cfV _ (step s x).v = T.cfV (foF f xs) (f s x) ∧ _
      rw [t1.q, e]
      exact ⟨rfl, fun s' e2 => by
        have e3 : T.cfV (fun s => (T.foldR step xs s).v) (step s x).v = .inr s' := e2
        rw [t1.q] at e3; cases e3; exact dn _ _ i2⟩
    | nxt s1 =>
      have i2 := i1 s1 (.inl e)
      rw [e] at t1
      have ih := tw_foF (step := step) (f := f) (I := I) (k0 := k0) (xs := xs) (s := s1) (fun k s y hy => hs k s y (List.mem_cons_of_mem _ hy)) hd i2
      refine ⟨⟨t1.g, by rw [t1.q]; exact ih.g⟩, ?_⟩
      show T.cfV _ (step s x).v = T.cfV (foF f xs) (f s x) ∧ _
      rw [t1.q, e]
      exact ⟨ih.q.1, fun s' e2 => by
        have e3 : T.cfV (fun s => (T.foldR step xs s).v) (step s x).v = .inr s' := e2
        rw [t1.q] at e3; exact ih.q.2 s' e3⟩
def CfRel (R : β → γ → Prop) : Cf β σ → Cf γ σ → Prop
  | .ret b, .ret c => R b c
  | .nxt s, .nxt t => s = t
  | .brk s, .brk t => s = t
  | _, _ => False
def SmRel (R : β → γ → Prop) : β ⊕ σ → γ ⊕ σ → Prop
  | .inl b, .inl c => R b c
  | .inr s, .inr t => s = t
  | _, _ => False
theorem foF_rel {f : σ → α → Cf β σ} {g : σ → α → Cf γ σ} {R : β → γ → Prop} : ∀ {xs : List α} {s : σ}, (∀ s x, x ∈ xs → CfRel R (f s x) (g s x)) → SmRel R (foF f xs s) (foF g xs s)
  | [], s, _ => rfl
  | x :: xs, s, h => by
    have h1 := h s x List.mem_cons_self
    have ih := fun s => foF_rel (f := f) (g := g) (R := R) (xs := xs) (s := s) fun s y hy => h s y (List.mem_cons_of_mem _ hy)
    show SmRel R (T.cfV (foF f xs) (f s x)) (T.cfV (foF g xs) (g s x))
    cases ef : f s x <;> cases eg : g s x <;> rw [ef, eg] at h1 <;> first | exact h1.elim | exact h1 | (cases h1; exact ih _) | (cases h1; rfl)
theorem foF_all {f : σ → α → Cf β σ} : ∀ {xs : List α} {s s' : σ}, (∀ s x t, f s x ≠ .brk t) → foF f xs s = .inr s' → ∀ x ∈ xs, ∃ s1 s2, f s1 x = .nxt s2
  | [], _, _, _, _, _, hx => nomatch hx
  | y :: xs, s, s', hb, e, x, hx => by
    have e : T.cfV (foF f xs) (f s y) = .inr s' := e
    cases ef : f s y with
    | ret b => rw [ef] at e; cases e
    | brk t => exact absurd ef (hb _ _ _)
    | nxt t =>
      rw [ef] at e
      rcases List.mem_cons.mp hx with rfl | hx
      · exact ⟨s, t, ef⟩
      · exact foF_all hb e x hx
theorem foF_ret {f : σ → α → Cf β σ} {b : β} : ∀ {xs : List α} {s : σ}, foF f xs s = .inl b → ∃ s1, ∃ x ∈ xs, f s1 x = .ret b
  | [], _, e => nomatch e
  | y :: xs, s, e => by
    have e : T.cfV (foF f xs) (f s y) = .inl b := e
    cases ef : f s y with
    | ret c => rw [ef] at e; cases e; exact ⟨s, y, List.mem_cons_self, ef⟩
    | brk t => rw [ef] at e; cases e
    | nxt t =>
      rw [ef] at e
      obtain ⟨s1, x, hx, e2⟩ := foF_ret (xs := xs) (s := t) e
      exact ⟨s1, x, List.mem_cons_of_mem _ hx, e2⟩
/-! ### dicts of numbers -/
theorem mPut_keys {kvs : List (Int × α)} {k : Int} {x : α} : ∀ (q : Int), q ∈ (mPut kvs k x).map (·.1) ↔ q = k ∨ q ∈ kvs.map (·.1) := by
  induction kvs with
  | nil => intro q; simp [mPut]
  | cons p kvs ih =>
    intro q
    obtain ⟨j, b⟩ := p
    unfold mPut
    split
    · next e => subst e; simp
    · simp only [List.map_cons, List.mem_cons, ih]
      constructor
      · rintro (h | h | h)
        · exact .inr (.inl h)
        · exact .inl h
        · exact .inr (.inr h)
      · rintro (h | h | h)
        · exact .inr (.inl h)
        · exact .inl h
        · exact .inr (.inr h)
theorem mPut_nodup {k : Int} {x : α} : ∀ {kvs : List (Int × α)}, (kvs.map (·.1)).Nodup → ((mPut kvs k x).map (·.1)).Nodup
  | [], _ => by simp [mPut]
  | (j, b) :: r, h => by
    unfold mPut
    simp only [List.map_cons, List.nodup_cons] at h
    split
    · simp only [List.map_cons, List.nodup_cons]; exact h
    · next hne =>
      simp only [List.map_cons, List.nodup_cons]
      refine ⟨fun hm => ?_, mPut_nodup h.2⟩
      rcases (mPut_keys _).mp hm with e | hm
      · exact hne e
      · exact h.1 hm
theorem mPut_len {k : Int} {x : α} : ∀ {kvs : List (Int × α)}, (mPut kvs k x).length ≤ kvs.length + 1
  | [] => by simp [mPut]
  | (j, b) :: r => by
    unfold mPut
    split
    · simp
    · have := mPut_len (k := k) (x := x) (kvs := r)
      simp only [List.length_cons]; omega
theorem look_put {k q : Int} {x : α} : ∀ {kvs : List (Int × α)}, mLook (mPut kvs k x) q = if k = q then some x else mLook kvs q
  | [] => by unfold mPut mLook mLook; rfl
  | (j, b) :: r => by
    unfold mPut
    split
    · next e =>
      subst e
      unfold mLook
      split <;> rfl
    · next hne =>
      unfold mLook
      rw [look_put (kvs := r)]
      split
      · next e => subst e; rw [if_neg (fun h => hne h.symm)]
      · rfl
/-- a dict of at most so many keys -/
def MI (N k : Nat) (kvs : List (Int × α)) : Prop := (kvs.map (·.1)).Nodup ∧ kvs.length + k ≤ N
theorem MI.ok {N k : Nat} {kvs : List (Int × α)} (h : MI N k kvs) (hN : N < 1000000) : MOk kvs := ⟨h.1, Nat.lt_trans (by have := h.2; omega : kvs.length < 1000000) (by decide)⟩
theorem MI.put {N k : Nat} {kvs : List (Int × α)} {q : Int} {x : α} (h : MI N (k + 1) kvs) : MI N k (mPut kvs q x) := ⟨mPut_nodup h.1, by have := h.2; have := mPut_len (k := q) (x := x) (kvs := kvs); omega⟩
theorem MI.dn {N k : Nat} {kvs : List (Int × α)} (h : MI N (k + 1) kvs) : MI N k kvs := ⟨h.1, by have := h.2; omega⟩
/-! ### single steps of a while loop -/
theorem tw_wh1 {c : σ → T Bool} {step : σ → T σ} {n : Nat} {s : σ} {Q : σ → Prop} (hg : (c s).g) (hc : (c s).v = true) (hs : Tw (step s) fun s' => Tw (T.whl c step n s') Q) : Tw (T.whl c step (n + 1) s) Q := by
  refine ⟨⟨hg, fun _ => ⟨hs.g, hs.q.g⟩⟩, ?_⟩
  show Q (if (c s).v = true then (T.whl c step n (step s).v).v else s)
  rw [if_pos hc]; exact hs.q.q
theorem tw_wh0 {c : σ → T Bool} {step : σ → T σ} {n : Nat} {s : σ} {Q : σ → Prop} (hg : (c s).g) (hc : (c s).v = false) (hs : Q s) : Tw (T.whl c step (n + 1) s) Q := by
  refine ⟨⟨hg, fun q => by rw [hc] at q; cases q⟩, ?_⟩
  show Q (if (c s).v = true then (T.whl c step n (step s).v).v else s)
  rw [if_neg (by rw [hc]; exact Bool.false_ne_true)]; exact hs
theorem whN_more (k : Nat) (hk : k ≤ 100) : ∃ n, whN = n + k := ⟨whN - k, by
  have : 100 ≤ whN := by decide
  omega⟩
/-! ### a place taken out -/
theorem ixI_nat {n : Nat} {i : Int} (h0 : 0 ≤ i) : ixI n i = i.toNat := if_pos h0
theorem len_delI {xs : List α} {i : Int} (h0 : 0 ≤ i) (h1 : i < xs.length) : (delI xs i).length = xs.length - 1 := by
  unfold delI
  rw [ixI_nat h0, List.length_eraseIdx, if_pos (by omega)]
theorem mem_delI {xs : List α} {i : Int} {x : α} (h : x ∈ delI xs i) : x ∈ xs := List.mem_of_mem_eraseIdx h
/-! ### numbered rows -/
theorem getI_enum {f : Int → α} {n : Int} (h0 : 0 ≤ n) : enumI ((rgI 0 n).map f) = (rgI 0 n).map fun j => (j, f j) := by
  apply List.ext_getElem
  · simp [enumI]
  · intro i h1 h2
    simp [enumI, rgI]
theorem enum_eq {xs ys : List α} (h : xs = ys) : enumI xs = enumI ys := by rw [h]
theorem all_enum {xs : List α} {p : α → Prop} (h : ∀ q ∈ enumI xs, p q.2) : ∀ x ∈ xs, p x := fun x hx => by
  obtain ⟨i, hi, rfl⟩ := List.getElem_of_mem hx
  exact h ((i : Int), xs[i]) (by
    unfold enumI
    exact List.mem_map.mpr ⟨(xs[i], i), List.mem_zipIdx_iff_getElem?.mpr (by simp [hi]), rfl⟩)
end
end Ts
set_option Elab.async false
set_option linter.all false
set_option maxRecDepth 100000
set_option maxHeartbeats 400000
/-! Pm7: loops by what is behind them; boards put together. -/
namespace Ts
open PySem PySem.Spec PyProof.Rows L2 Vs
section
variable {α β γ δ σ : Type} {P : Prop}
/-- a loop that may end early, by the items it has gone through -/
theorem tw_pre {step : σ → α → T (Cf β σ)} {I : List α → σ → Prop} {Q : β → Prop} {xs : List α} (h : ∀ pre x post s, xs = pre ++ x :: post → I pre s → Tw (step s x) fun v => match v with | .ret b => Q b | .nxt s' => I (pre ++ [x]) s' | .brk _ => False) :
    ∀ (post pre : List α) (s : σ), xs = pre ++ post → I pre s → Tw (T.foldR step post s) fun v => match v with | .inl b => Q b | .inr s' => I xs s'
  | [], pre, s, e, i => ⟨True.intro, by rw [List.append_nil] at e; show I xs s; rw [e]; exact i⟩
  | x :: post, pre, s, e, i => by
    have h1 := h pre x post s e i
    have q := h1.q
    cases ev : (step s x).v with
    | ret b =>
      rw [ev] at q
      refine ⟨⟨h1.g, by rw [ev]; exact True.intro⟩, ?_⟩
      show match T.cfV _ (step s x).v with | .inl b => Q b | .inr s' => I xs s'
      rw [ev]; exact q
    | brk s' => rw [ev] at q; exact q.elim
    | nxt s' =>
      rw [ev] at q
      have ih := tw_pre h post (pre ++ [x]) s' (by rw [e]; simp) q
      refine ⟨⟨h1.g, by rw [ev]; exact ih.g⟩, ?_⟩
      show match T.cfV _ (step s x).v with | .inl b => Q b | .inr s' => I xs s'
      rw [ev]; exact ih.q
theorem enum_snd {xs : List α} : (enumI xs).map (·.2) = xs := by simp [enumI, List.map_map, Function.comp_def]
theorem enum_split {xs : List α} {pre post : List (Int × α)} {q : Int × α} (h : enumI xs = pre ++ q :: post) : xs = pre.map (·.2) ++ q.2 :: post.map (·.2) := by
  have := congrArg (List.map (·.2)) h
  rw [enum_snd] at this
  simpa using this
theorem look_mem {q : Int} : ∀ {kvs : List (Int × α)}, (mLook kvs q).isSome = true ↔ q ∈ kvs.map (·.1)
  | [] => by simp [mLook]
  | (j, b) :: r => by
    unfold mLook
    split
    · next e => subst e; simp
    · next hne =>
      rw [look_mem (kvs := r)]
      simp only [List.map_cons, List.mem_cons]
      exact ⟨.inr, fun h => h.resolve_left fun e => hne e.symm⟩
end
/-! ### boards put together -/
def prodB (m : Int) (s t : List (List Int)) : List (List Int) := s.flatMap fun row => t.map fun line => row.flatMap fun x => line.map fun y => m * (x - 1) + y
/-- a level board -/
structure Lvl (a b : Nat) (s : List (List Int)) : Prop where
  len : s.length = a
  row : ∀ r ∈ s, r.length = b
  rng : ∀ r ∈ s, ∀ x ∈ r, 1 ≤ x ∧ x ≤ (a : Int) * b
  nod : s.flatten.Nodup
  rs : ∀ r ∈ s, 2 * r.sum = (b : Int) * (a * b + 1)
  cs : ∀ j : Int, 0 ≤ j → j < b → 2 * (s.map fun r => getI r j).sum = (a : Int) * (a * b + 1)
theorem len_fm {α β : Type} {f : α → List β} {k : Nat} : ∀ {xs : List α}, (∀ x ∈ xs, (f x).length = k) → (xs.flatMap f).length = xs.length * k
  | [], _ => by simp
  | x :: xs, h => by
    rw [List.flatMap_cons, List.length_append, List.length_cons, Nat.succ_mul, h x List.mem_cons_self, len_fm fun y hy => h y (List.mem_cons_of_mem _ hy), Nat.add_comm]
theorem sum_add {α : Type} {k : Int} {g : α → Int} : ∀ t : List α, (t.map fun l => k + g l).sum = t.length * k + (t.map g).sum
  | [] => by simp
  | x :: t => by
    simp only [List.map_cons, List.sum_cons, List.length_cons, sum_add t]
    grind
theorem sum_fm {α β : Type} {m : Int} {f : α → Int} {g : β → Int} {t : List β} : ∀ s : List α, (s.flatMap fun r => t.map fun l => m * (f r - 1) + g l).sum = t.length * (m * ((s.map f).sum - s.length)) + s.length * (t.map g).sum
  | [] => by simp
  | r :: s => by
    simp only [List.flatMap_cons, List.sum_append, sum_fm s, sum_add, List.map_cons, List.sum_cons, List.length_cons]
    grind
theorem two_eq {m x y x' y' : Int} (h : m * (x - 1) + y = m * (x' - 1) + y') (y0 : 1 ≤ y) (y1 : y ≤ m) (z0 : 1 ≤ y') (z1 : y' ≤ m) : x = x' ∧ y = y' := by
  have e1 : m * (x - 1) = m * x - m := by rw [Int.mul_sub, Int.mul_one]
  have e2 : m * (x' - 1) = m * x' - m := by rw [Int.mul_sub, Int.mul_one]
  have key : x = x' := by
    rcases Int.lt_trichotomy x x' with h2 | h2 | h2
    · have := Int.mul_le_mul_of_nonneg_left (show (1 : Int) ≤ x' - x by omega) (show 0 ≤ m by omega)
      rw [Int.mul_one, Int.mul_sub] at this
      omega
    · exact h2
    · have := Int.mul_le_mul_of_nonneg_left (show (1 : Int) ≤ x - x' by omega) (show 0 ≤ m by omega)
      rw [Int.mul_one, Int.mul_sub] at this
      omega
  subst key
  exact ⟨rfl, by omega⟩
theorem mem_prow {m : Int} {row line : List Int} {z : Int} (h : z ∈ row.flatMap fun x => line.map fun y => m * (x - 1) + y) : ∃ x ∈ row, ∃ y ∈ line, z = m * (x - 1) + y := by
  obtain ⟨x, hx, h2⟩ := List.mem_flatMap.mp h
  obtain ⟨y, hy, rfl⟩ := List.mem_map.mp h2
  exact ⟨x, hx, y, hy, rfl⟩
theorem nod_prod {m : Int} {s t : List (List Int)} (hs : s.flatten.Nodup) (ht : t.flatten.Nodup) (hr : ∀ r ∈ t, ∀ y ∈ r, 1 ≤ y ∧ y ≤ m) : (prodB m s t).flatten.Nodup := by
  unfold List.Nodup at hs ht ⊢
  rw [List.pairwise_flatten] at hs ht ⊢
  unfold prodB
  constructor
  · intro l hl
    obtain ⟨row, hrow, h2⟩ := List.mem_flatMap.mp hl
    obtain ⟨line, hline, rfl⟩ := List.mem_map.mp h2
    rw [List.pairwise_flatMap]
    refine ⟨fun x hx => ?_, (hs.1 row hrow).imp_of_mem fun {x x'} hx hx' hne z hz w hw e => ?_⟩
    · rw [List.pairwise_map]
      exact (ht.1 line hline).imp fun hne e => hne (by omega)
    · obtain ⟨y, hy, rfl⟩ := List.mem_map.mp hz
      obtain ⟨y', hy', rfl⟩ := List.mem_map.mp hw
      exact hne (two_eq e (hr line hline y hy).1 (hr line hline y hy).2 (hr line hline y' hy').1 (hr line hline y' hy').2).1
  · rw [List.pairwise_flatMap]
    refine ⟨fun row hrow => ?_, hs.2.imp_of_mem fun {r1 r2} h1 h2 hd l1 hl1 l2 hl2 z hz w hw e => ?_⟩
    · rw [List.pairwise_map]
      refine ht.2.imp_of_mem fun {l1 l2} h1 h2 hd z hz w hw e => ?_
      obtain ⟨x, hx, y, hy, rfl⟩ := mem_prow hz
      obtain ⟨x', hx', y', hy', rfl⟩ := mem_prow hw
      exact hd y hy y' hy' (two_eq e (hr l1 h1 y hy).1 (hr l1 h1 y hy).2 (hr l2 h2 y' hy').1 (hr l2 h2 y' hy').2).2
    · obtain ⟨l1, k1, rfl⟩ := List.mem_map.mp hl1
      obtain ⟨l2, k2, rfl⟩ := List.mem_map.mp hl2
      obtain ⟨x, hx, y, hy, rfl⟩ := mem_prow hz
      obtain ⟨x', hx', y', hy', rfl⟩ := mem_prow hw
      exact hd x hx x' hx' (two_eq e (hr l1 k1 y hy).1 (hr l1 k1 y hy).2 (hr l2 k2 y' hy').1 (hr l2 k2 y' hy').2).1
theorem at_prow {f : Int → Int → Int} {line : List Int} {d : Nat} (hl : line.length = d) {q : Nat} (hq : q < d) : ∀ {row : List Int} {p : Nat}, p < row.length → (row.flatMap fun x => line.map fun y => f x y)[p * d + q]? = some (f (getI row p) (getI line q))
  | [], _, h => absurd h (Nat.not_lt_zero _)
  | x :: row, 0, _ => by
    rw [List.flatMap_cons, List.getElem?_append_left (by rw [List.length_map, hl]; omega), List.getElem?_map]
    have e : line[0 * d + q]? = some (getI line (q : Int)) := by
      rw [Nat.zero_mul, Nat.zero_add]
      have := getI_get (xs := line) (i := (q : Int)) (by omega) (by omega)
      rw [this, List.getElem?_eq_getElem (by omega)]; rfl
    rw [e]
    rfl
  | x :: row, p + 1, h => by
    rw [List.flatMap_cons, List.getElem?_append_right (by rw [List.length_map, hl, Nat.succ_mul]; omega), List.length_map, hl]
    have e : (p + 1) * d + q - d = p * d + q := by rw [Nat.succ_mul]; omega
    rw [e, at_prow hl hq (row := row) (p := p) (by simpa using h)]
    have e2 : getI (x :: row) ((p + 1 : Nat) : Int) = getI row (p : Int) := by
      rw [getI_nat (by omega), getI_nat (by omega)]
      simp
    rw [e2]
theorem getI_some {α : Type} [Inhabited α] {xs : List α} {n : Nat} {x : α} (h : xs[n]? = some x) : getI xs (n : Int) = x := by
  rw [getI_nat (by omega)]
  simp [h]
theorem lvl_prod {a b c d : Nat} {s t : List (List Int)} (h : Lvl a b s) (k : Lvl c d t) (hd : 1 ≤ d) : Lvl (a * c) (b * d) (prodB ((c : Int) * d) s t) := by
  have prl : ∀ row ∈ s, ∀ line ∈ t, (row.flatMap fun x => line.map fun y => ((c : Int) * d) * (x - 1) + y).length = b * d := fun row hr line hl => by
    rw [len_fm (k := d) (fun x _ => by rw [List.length_map]; exact k.row line hl), h.row row hr]
  refine ⟨?_, fun r hr => ?_, fun r hr z hz => ?_, nod_prod h.nod k.nod k.rng, fun r hr => ?_, fun j j0 j1 => ?_⟩
  · unfold prodB
    rw [len_fm (k := c) (fun r _ => by rw [List.length_map]; exact k.len), h.len]
  · obtain ⟨row, hrow, h2⟩ := List.mem_flatMap.mp hr
    obtain ⟨line, hline, rfl⟩ := List.mem_map.mp h2
    exact prl row hrow line hline
  · obtain ⟨row, hrow, h2⟩ := List.mem_flatMap.mp hr
    obtain ⟨line, hline, rfl⟩ := List.mem_map.mp h2
    obtain ⟨x, hx, y, hy, rfl⟩ := mem_prow hz
    have hx2 := h.rng row hrow x hx
    have hy2 := k.rng line hline y hy
    have m0 : (0 : Int) ≤ (c : Int) * d := Int.mul_nonneg (by omega) (by omega)
    have m1 := Int.mul_le_mul_of_nonneg_left (show x - 1 ≤ (a : Int) * b - 1 by omega) m0
    have m2 := Int.mul_nonneg m0 (show 0 ≤ x - 1 by omega)
    have e : ((c : Int) * d) * ((a : Int) * b - 1) + (c : Int) * d = ((a * c : Nat) : Int) * ((b * d : Nat) : Int) := by
      rw [Int.natCast_mul, Int.natCast_mul]; grind
    exact ⟨by omega, by omega⟩
  · obtain ⟨row, hrow, h2⟩ := List.mem_flatMap.mp hr
    obtain ⟨line, hline, rfl⟩ := List.mem_map.mp h2
    have e := sum_fm (m := (c : Int) * d) (f := fun x : Int => x) (g := fun y : Int => y) (t := line) row
    simp only [List.map_id'] at e
    have e1 := h.rs row hrow
    have e2 := k.rs line hline
    rw [h.row row hrow, k.row line hline] at e
    rw [e, Int.natCast_mul, Int.natCast_mul]
    grind
  · obtain ⟨n, rfl⟩ : ∃ n : Nat, j = n := ⟨j.toNat, by omega⟩
    have hn : n < b * d := by omega
    have ep : n = (n / d) * d + n % d := by rw [Nat.mul_comm]; exact (Nat.div_add_mod n d).symm
    have hq : n % d < d := Nat.mod_lt _ hd
    have hp : n / d < b := Nat.div_lt_of_lt_mul (by rw [Nat.mul_comm]; exact hn)
    have hg : ∀ row ∈ s, ∀ line ∈ t, getI (row.flatMap fun x => line.map fun y => ((c : Int) * d) * (x - 1) + y) (n : Int) = ((c : Int) * d) * (getI row ((n / d : Nat) : Int) - 1) + getI line ((n % d : Nat) : Int) := fun row hr line hl => by
      apply getI_some
      have := at_prow (f := fun x y => ((c : Int) * d) * (x - 1) + y) (k.row line hl) hq (row := row) (p := n / d) (by rw [h.row row hr]; exact hp)
      rw [← ep] at this
      exact this
    have e : ((prodB ((c : Int) * d) s t).map fun r => getI r (n : Int)) = s.flatMap fun row => t.map fun line => ((c : Int) * d) * (getI row ((n / d : Nat) : Int) - 1) + getI line ((n % d : Nat) : Int) := by
      unfold prodB
      rw [List.map_flatMap]
      have ext : ∀ (f g : List Int → List Int), (∀ r ∈ s, f r = g r) → s.flatMap f = s.flatMap g := fun f g hfg => by
        rw [List.flatMap_def, List.flatMap_def, List.map_congr_left hfg]
      apply ext
      intro row hr
      rw [List.map_map]
      exact List.map_congr_left fun line hl => hg row hr line hl
    rw [e, sum_fm]
    have e1 := h.cs ((n / d : Nat) : Int) (Int.natCast_nonneg _) (Int.ofNat_lt.mpr hp)
    have e2 := k.cs ((n % d : Nat) : Int) (Int.natCast_nonneg _) (Int.ofNat_lt.mpr hq)
    rw [h.len, k.len, Int.natCast_mul, Int.natCast_mul]
    grind
end Ts
set_option Elab.async false
set_option linter.all false
set_option maxRecDepth 100000
set_option maxHeartbeats 400000
/-! Pm8: the code points of texts; square roots by halving and by Newton. -/
namespace Ts
open PySem PySem.Spec PyProof.Rows L2 Vs
/-! ### the code points of texts -/
def Cp (d : D) : Prop := ∀ k : Nat, 16 ^ 8 ≤ k → ∀ p, py d = some p → k ∉ p.shown.cps.toList
theorem cp_I {i : Int} : Cp (eI i) := fun k hk p hp => by
  have e : p = .int i := by
    have : py (D.int i) = some (PyData.int i) := rfl
    exact (Option.some.inj (this.symm.trans hp)).symm
  rw [e]
  exact shown_int_free' ⟨by omega, .inr (by omega)⟩ i
theorem cp_chk {d : D} {p : PyData} (h : py d = some p) (hc : p.shown.cps.toList.all (fun c => decide (c < 16 ^ 8)) = true) : Cp d := fun k hk q hq hm => by
  have e : q = p := (Option.some.inj (h.symm.trans hq)).symm
  rw [e] at hm
  have := of_decide_eq_true (List.all_eq_true.mp hc k hm)
  omega
theorem cp_B {b : Bool} : Cp (eB b) := cp_chk (p := .bool b) rfl (by cases b <;> decide +kernel)
theorem cp_N : Cp (eN ()) := cp_chk (p := .none) rfl (by decide +kernel)
theorem pys_mem : ∀ {xs : List D} {ps : List PyData}, pys xs = some ps → ∀ p ∈ ps, ∃ x ∈ xs, py x = some p
  | [], ps, h, p, hp => by
    have : pys [] = some [] := by unfold pys; rfl
    have e := Option.some.inj (this.symm.trans h)
    subst e
    exact nomatch hp
  | x :: xs, ps, h, p, hp => by
    unfold pys at h
    cases e1 : py x with
    | none => rw [e1] at h; simp at h
    | some a =>
      cases e2 : pys xs with
      | none => rw [e1, e2] at h; simp at h
      | some r =>
        rw [e1, e2] at h
        simp only [Option.some.injEq] at h
        subst h
        rcases List.mem_cons.mp hp with rfl | hp
        · exact ⟨x, List.mem_cons_self, e1⟩
        · obtain ⟨y, hy, e⟩ := pys_mem e2 p hp
          exact ⟨y, List.mem_cons_of_mem _ hy, e⟩
theorem cp_all {xs : List D} {ps : List PyData} (h : ∀ x ∈ xs, Cp x) (hp : pys xs = some ps) {k : Nat} (hk : 16 ^ 8 ≤ k) : ∀ t ∈ PyData.shownAll ps, k ∉ t.cps.toList :=
  shownAll_free fun p hm => by
    obtain ⟨x, hx, e⟩ := pys_mem hp p hm
    exact h x hx k hk p e
theorem cp_lst {xs : List D} (h : ∀ x ∈ xs, Cp x) : Cp (.lst xs) := fun k hk p hp hm => by
  unfold py at hp
  cases e : pys xs with
  | none => rw [e] at hp; simp at hp
  | some ps =>
    rw [e] at hp
    have hp : p = .list ps := by simpa using hp.symm
    rw [hp, PyData.shown_list] at hm
    have ca := cp_all h e hk
    rw [mem_cps_append, mem_cps_append, signs_lbrack, signs_rbrack, mem_join, signs_sep] at hm
    simp only [List.mem_cons, List.not_mem_nil, or_false] at hm
    rcases hm with (hm | (⟨t, ht, hc⟩ | ⟨_, hm⟩)) | hm
    · omega
    · exact ca t ht hc
    · omega
    · omega
theorem cp_tup {xs : List D} (h : ∀ x ∈ xs, Cp x) : Cp (.tup xs) := fun k hk p hp hm => by
  unfold py at hp
  cases e : pys xs with
  | none => rw [e] at hp; simp at hp
  | some ps =>
    rw [e] at hp
    have hp : p = .tuple ps := by simpa using hp.symm
    rw [hp, PyData.shown_tuple] at hm
    have ca := cp_all h e hk
    rw [mem_cps_append, mem_cps_append, signs_lparen, mem_join, signs_sep, signs_tuple_end] at hm
    simp only [List.mem_cons, List.not_mem_nil, or_false] at hm
    rcases hm with (hm | (⟨t, ht, hc⟩ | ⟨_, hm⟩)) | hm
    · omega
    · exact ca t ht hc
    · omega
    · split at hm
      · simp only [List.mem_cons, List.not_mem_nil, or_false] at hm
        omega
      · simp only [List.mem_cons, List.not_mem_nil, or_false] at hm
        omega
theorem cp_T {α : Type} {e : α → D} {xs : List α} (h : ∀ x ∈ xs, Cp (e x)) : Cp (eT e xs) := cp_tup fun y hy => by
  obtain ⟨x, hx, rfl⟩ := List.mem_map.mp hy
  exact h x hx
theorem cp_L {α : Type} {e : α → D} {xs : List α} (h : ∀ x ∈ xs, Cp (e x)) : Cp (eL e xs) := cp_lst fun y hy => by
  obtain ⟨x, hx, rfl⟩ := List.mem_map.mp hy
  exact h x hx
/-- a text as a value -/
theorem sh_text {d : D} {B k : Nat} (hs : ShOk d B k) (hc : Cp d) : ShOk (eS (shT d)) (10 * B + 2) 0 := by
  obtain ⟨q, hq, h1, h2⟩ := hs
  obtain ⟨p, g1, _, _, g4, _⟩ := shW_py hq
  have et : shT d = p.shown := shT_py g1
  have hall : (shT d).cps.toList.all (fun c => decide (c < 16 ^ 8)) = true := by
    rw [List.all_eq_true]
    intro c hm
    rw [et] at hm
    refine decide_eq_true (Nat.lt_of_not_le fun hk => hc c hk p g1 hm)
  refine ⟨(10 * (shT d).length + 2, 0), ?_, ?_, Nat.le_refl _⟩
  · show shW (D.str (shT d)) = _
    unfold shW
    rw [if_pos hall]
  · rw [et]
    show 10 * p.shown.length + 2 ≤ 10 * B + 2
    omega
/-! ### == with an empty list -/
def Lay (d : D) : Prop := ∀ p, py d = some p → p.canLay0 = true
theorem lay_chk {d : D} {p : PyData} (h : py d = some p) (hc : p.canLay0 = true) : Lay d := fun q hq => by
  rw [(Option.some.inj (h.symm.trans hq)).symm]; exact hc
theorem lay_I {i : Int} : Lay (eI i) := lay_chk (p := .int i) rfl rfl
theorem lay_B {b : Bool} : Lay (eB b) := lay_chk (p := .bool b) rfl rfl
theorem lay_N : Lay (eN ()) := lay_chk (p := .none) rfl rfl
theorem lay_ps : ∀ {ps : List PyData}, (∀ p ∈ ps, p.canLay0 = true) → PyData.canLayAll0 ps = true
  | [], _ => rfl
  | p :: ps, h => by
    unfold PyData.canLayAll0
    rw [h p List.mem_cons_self, lay_ps fun q hq => h q (List.mem_cons_of_mem _ hq)]; rfl
theorem lay_psI : ∀ {ps : List PyData}, PyData.canLayAll0 ps = true → ∀ p ∈ ps, p.canLay0 = true
  | [], _, p, hp => nomatch hp
  | q :: ps, h, p, hp => by
    unfold PyData.canLayAll0 at h
    rw [Bool.and_eq_true] at h
    rcases List.mem_cons.mp hp with rfl | hp
    · exact h.1
    · exact lay_psI h.2 p hp
theorem lay_lst {xs : List D} (h : ∀ x ∈ xs, Lay x) : Lay (.lst xs) := fun p hp => by
  unfold py at hp
  cases e : pys xs with
  | none => rw [e] at hp; simp at hp
  | some ps =>
    rw [e] at hp
    have hp : p = .list ps := by simpa using hp.symm
    rw [hp, PyData.canLay0]
    exact lay_ps fun q hq => by
      obtain ⟨x, hx, e2⟩ := pys_mem e q hq
      exact h x hx q e2
theorem lay_tup {xs : List D} (h : ∀ x ∈ xs, Lay x) : Lay (.tup xs) := fun p hp => by
  unfold py at hp
  cases e : pys xs with
  | none => rw [e] at hp; simp at hp
  | some ps =>
    rw [e] at hp
    have hp : p = .tuple ps := by simpa using hp.symm
    rw [hp, PyData.canLay0]
    exact lay_ps fun q hq => by
      obtain ⟨x, hx, e2⟩ := pys_mem e q hq
      exact h x hx q e2
/-- an item that == can look at -/
structure Eqb (d : D) : Prop where
  e : ∃ p, py d = some p ∧ p.canLay0 = true ∧ p.depth ≤ 30
theorem eqb_of {d : D} {B k : Nat} (h : ShOk d B k) (hk : k ≤ 30) (l : Lay d) : Eqb d := by
  obtain ⟨q, hq, _, h2⟩ := h
  obtain ⟨p, g1, _, _, _, g5⟩ := shW_py hq
  exact ⟨p, g1, l p g1, by omega⟩
theorem eqb_all : ∀ {ys : List D}, (∀ y ∈ ys, Eqb y) → ∃ ps, pys ys = some ps ∧ (∀ p ∈ ps, p.canLay0 = true) ∧ PyData.depthAll ps ≤ 30 ∧ ps.length = ys.length
  | [], _ => ⟨[], by unfold pys; rfl, (fun p hp => nomatch hp), by unfold PyData.depthAll; omega, rfl⟩
  | y :: ys, h => by
    obtain ⟨p, h1, h2, h3⟩ := (h y List.mem_cons_self).e
    obtain ⟨ps, g1, g2, g3, g4⟩ := eqb_all fun z hz => h z (List.mem_cons_of_mem _ hz)
    refine ⟨p :: ps, by unfold pys; rw [h1, g1], fun q hq => ?_, ?_, by simp [g4]⟩
    · rcases List.mem_cons.mp hq with rfl | hq
      · exact h2
      · exact g2 q hq
    · unfold PyData.depthAll; omega
theorem eq_nil {ys : List D} (h : ∀ y ∈ ys, Eqb y) : eqD (.lst ys) (.lst []) = some (decide (ys = [])) := by
  obtain ⟨ps, g1, g2, g3, g4⟩ := eqb_all h
  have a : py (.lst ys) = some (.list ps) := by unfold py; rw [g1]; rfl
  have b : py (.lst []) = some (.list []) := by unfold py; rfl
  have s1 : SeqAt.shaped (.list ps) = true := by
    unfold SeqAt.shaped
    rw [PyData.canLay0, lay_ps g2, PyData.depth, Bool.true_and]
    exact decide_eq_true (by omega)
  have s2 : SeqAt.shaped (.list []) = true := by decide
  have e : eqD (.lst ys) (.lst []) = (match py (.lst ys), py (.lst []) with
    | some a, some b => if SeqAt.shaped a && SeqAt.shaped b then some (PyData.eqv a b) else none
    | _, _ => none) := rfl
  rw [e, a, b]
  simp only [s1, s2, Bool.and_self, if_true]
  congr 1
  cases ps with
  | nil =>
    have : ys = [] := List.length_eq_zero_iff.mp g4.symm
    rw [this]; rfl
  | cons p ps =>
    have : ys ≠ [] := fun e => by rw [e] at g4; cases g4
    rw [decide_eq_false this]; rfl
theorem eqok_nil {ys : List D} (h : ∀ y ∈ ys, Eqb y) : EqOk (eL eD ys) (eL eD []) ∧ dEq (eL eD ys) (eL eD []) = decide (ys = []) := by
  rw [eL_D, eL_D]
  unfold EqOk dEq
  rw [eq_nil h]
  exact ⟨rfl, rfl⟩
theorem sh_items : ∀ {xs : List D} {q : Nat × Nat}, shWs xs = some q → ∀ x ∈ xs, ∃ a, shW x = some a ∧ a.2 ≤ q.2
  | [], _, _, x, hx => nomatch hx
  | y :: ys, q, h, x, hx => by
    unfold shWs at h
    cases e1 : shW y with
    | none => rw [e1] at h; simp at h
    | some a =>
      cases e2 : shWs ys with
      | none => rw [e1, e2] at h; simp at h
      | some r =>
        rw [e1, e2] at h
        simp only [Option.some.injEq] at h
        subst h
        rcases List.mem_cons.mp hx with rfl | hx
        · exact ⟨a, e1, Nat.le_max_left _ _⟩
        · obtain ⟨c, h1, h2⟩ := sh_items e2 x hx
          exact ⟨c, h1, Nat.le_trans h2 (Nat.le_max_right _ _)⟩
theorem eqb_items {d : D} {B k : Nat} (h : ShOk d B k) (hk : k ≤ 30) (l : Lay d) : ∀ x ∈ tupOf d, Eqb x := by
  cases d with
  | tup ds =>
    intro x hx
    have hx : x ∈ ds := hx
    obtain ⟨q, hq, _, h2⟩ := h
    obtain ⟨p, g1, _, _, _, _⟩ := shW_py hq
    have lp := l p g1
    unfold shW at hq
    cases e : shWs ds with
    | none => rw [e] at hq; simp at hq
    | some w =>
      rw [e] at hq
      have hq : q = (w.1 + 3, w.2 + 1) := by simpa using hq.symm
      obtain ⟨a, ha, ha2⟩ := sh_items e x hx
      obtain ⟨px, g1x, _, _, _, g5⟩ := shW_py ha
      refine ⟨px, g1x, ?_, by rw [hq] at h2; simp only at h2; omega⟩
      unfold py at g1
      cases e3 : pys ds with
      | none => rw [e3] at g1; simp at g1
      | some ps =>
        rw [e3] at g1
        have hp : p = .tuple ps := by simpa using g1.symm
        rw [hp, PyData.canLay0] at lp
        exact lay_psI lp px (by
          clear hp lp g1
          induction ds generalizing ps w with
          | nil => cases hx
          | cons y ys ih =>
            unfold pys at e3
            cases f1 : py y with
            | none => rw [f1] at e3; simp at e3
            | some b =>
              cases f2 : pys ys with
              | none => rw [f1, f2] at e3; simp at e3
              | some r =>
                rw [f1, f2] at e3
                simp only [Option.some.injEq] at e3
                subst e3
                rcases List.mem_cons.mp hx with rfl | hx
                · rw [g1x] at f1; cases f1; exact List.mem_cons_self
                · refine List.mem_cons_of_mem _ ?_
                  have : ∀ {zs : List D} {rs : List PyData}, pys zs = some rs → x ∈ zs → px ∈ rs := by
                    intro zs
                    induction zs with
                    | nil => intro rs _ hz; cases hz
                    | cons z zs ih2 =>
                      intro rs hr hz
                      unfold pys at hr
                      cases k1 : py z with
                      | none => rw [k1] at hr; simp at hr
                      | some c =>
                        cases k2 : pys zs with
                        | none => rw [k1, k2] at hr; simp at hr
                        | some r2 =>
                          rw [k1, k2] at hr
                          simp only [Option.some.injEq] at hr
                          subst hr
                          rcases List.mem_cons.mp hz with rfl | hz
                          · rw [g1x] at k1; cases k1; exact List.mem_cons_self
                          · exact List.mem_cons_of_mem _ (ih2 k2 hz)
                  exact this f2 hx)
  | _ => intro x hx; exact nomatch hx
/-! ### halving -/
def lg (m : Nat) : Nat := if m = 0 then 0 else m.log2 + 1
theorem lg_half {m m' : Nat} (h : m' ≤ m / 2) (h1 : 1 ≤ m) : lg m' < lg m := by
  unfold lg
  rw [if_neg (by omega : ¬ m = 0)]
  split
  · omega
  · next h0 =>
    have a : m < 2 ^ (m.log2 + 1) := (Nat.log2_lt (by omega)).mp (Nat.lt_succ_self _)
    have b : m' < 2 ^ m.log2 := by rw [Nat.pow_succ] at a; omega
    have := (Nat.log2_lt h0).mpr b
    omega
theorem lg_lt {m k : Nat} (h : m < 2 ^ k) : lg m ≤ k := by
  unfold lg
  split
  · omega
  · next h0 => have := (Nat.log2_lt h0).mpr h; omega
/-! ### square roots -/
structure Rt (n r : Int) : Prop where
  z : 0 ≤ r
  lo : r * r ≤ n
  hi : n < (r + 1) * (r + 1)
theorem rt_ex : ∀ n : Nat, ∃ r : Int, Rt n r
  | 0 => ⟨0, by decide, by decide, by decide⟩
  | n + 1 => by
    obtain ⟨r, h⟩ := rt_ex n
    have h0 := h.z
    have h1 := h.lo
    have h2 := h.hi
    by_cases e : ((n : Int) + 1) < (r + 1) * (r + 1)
    · exact ⟨r, h0, by omega, by simpa using e⟩
    · refine ⟨r + 1, by omega, by push_cast; omega, ?_⟩
      have : (r + 1 + 1) * (r + 1 + 1) = (r + 1) * (r + 1) + 2 * (r + 1) + 1 := by grind
      push_cast
      omega
theorem Rt.uniq {n r s : Int} (h : Rt n r) (k : Rt n s) : r = s := by
  have key : ∀ {r s : Int}, Rt n r → Rt n s → ¬ r < s := fun {r s} h k hl => by
    have a : (r + 1) * (r + 1) ≤ s * s := Int.mul_le_mul (by omega) (by omega) (by have := h.z; omega) k.z
    have := h.hi
    have := k.lo
    omega
  have := key h k
  have := key k h
  omega
theorem newton_lo {n r f : Int} (h : Rt n r) (hf : 1 ≤ f) : r ≤ (f + n / f) / 2 := by
  have a : 2 * r - f ≤ n / f := by
    rw [Int.le_ediv_iff_mul_le (by omega)]
    have := h.lo
    have e : (2 * r - f) * f = r * r - (r - f) * (r - f) := by grind
    have : 0 ≤ (r - f) * (r - f) := by
      rcases Int.le_total 0 (r - f) with q | q
      · exact Int.mul_nonneg q q
      · exact Int.mul_nonneg_of_nonpos_of_nonpos q q
    omega
  omega
theorem newton_hi {n r f : Int} (h : Rt n r) (hf : r < f) : n / f ≤ r := by
  have h0 := h.z
  have : n / f < r + 1 := Int.ediv_lt_of_lt_mul (by omega) (by
    have := h.hi
    have : (r + 1) * (r + 1) ≤ (r + 1) * f := Int.mul_le_mul_of_nonneg_left (by omega) (by omega)
    omega)
  omega
end Ts
set_option Elab.async false
set_option linter.all false
set_option maxRecDepth 100000
set_option maxHeartbeats 400000
/-! Pm9: plain rows of numbers; maps of pairs modulo a number. -/
namespace Ts
open PySem PySem.Spec PyProof.Rows L2 Vs
theorem rgI_cons {a b : Int} (h : a < b) : rgI a b = a :: rgI (a + 1) b := by
  apply List.ext_getElem
  · simp only [len_rgI, List.length_cons]; omega
  · intro i h1 h2
    cases i with
    | zero => simp [rgI]
    | succ i => simp [rgI]; omega
theorem rgI_nil {a b : Int} (h : b ≤ a) : rgI a b = [] := List.length_eq_zero_iff.mp (by rw [len_rgI]; omega)
theorem rgI_nodup {a b : Int} : (rgI a b).Nodup := by
  unfold rgI
  rw [List.Nodup, List.pairwise_map]
  exact List.pairwise_lt_range.imp fun h e => by omega
theorem up_rgI : ∀ {l : List Int} {a : Int}, l.Pairwise (· < ·) → (∀ x ∈ l, a ≤ x ∧ x < a + l.length) → l = rgI a (a + l.length)
  | [], a, _, _ => by rw [rgI_nil (by simp)]
  | x :: xs, a, hp, hr => by
    rw [List.pairwise_cons] at hp
    have hx := hr x List.mem_cons_self
    have ih := up_rgI (l := xs) (a := a + 1) hp.2 fun y hy => by
      have h1 := hp.1 y hy
      have h2 := hr y (List.mem_cons_of_mem _ hy)
      rw [List.length_cons] at h2
      exact ⟨by omega, by omega⟩
    have e : a + ((x :: xs).length : Int) = a + 1 + xs.length := by rw [List.length_cons]; omega
    rw [e, rgI_cons (by omega), ← ih]
    congr 1
    cases xs with
    | nil => rw [List.length_singleton] at hx; omega
    | cons y ys =>
      have hy := hp.1 y List.mem_cons_self
      have e2 : y = a + 1 := by
        rw [rgI_cons (by rw [List.length_cons]; omega)] at ih
        exact (List.cons.inj ih).1
      omega
theorem plain_iff {l : List Int} (h : ∀ x ∈ l, 1 ≤ x ∧ x ≤ l.length) : srtO l = rgI 1 ((l.length : Int) + 1) ↔ l.Nodup := by
  constructor
  · intro e
    exact (srtO_perm l).nodup_iff.mp (by rw [e]; exact rgI_nodup)
  · intro hn
    have hl : (srtO l).length = l.length := (srtO_perm l).length_eq
    have h2 : (srtO l).Nodup := (srtO_perm l).nodup_iff.mpr hn
    have up := srtO_up l
    have lt : (srtO l).Pairwise (· < ·) := (up.and h2).imp fun ⟨a, b⟩ => by omega
    have := up_rgI (l := srtO l) (a := 1) lt fun x hx => by
      have := h x ((srtO_perm l).mem_iff.mp hx)
      rw [hl]; omega
    rw [hl, Int.add_comm] at this
    exact this
/-! maps of pairs -/
theorem dvd_sub_of {n x y : Int} (h : x % n = y % n) : n ∣ x - y := Int.dvd_of_emod_eq_zero (Int.emod_eq_emod_iff_emod_sub_eq_zero.mp h)
theorem small_dvd {n x : Int} (h : n ∣ x) (h0 : -n < x) (h1 : x < n) : x = 0 := by
  obtain ⟨k, rfl⟩ := h
  rcases Int.lt_trichotomy k 0 with q | q | q
  · have := Int.mul_le_mul_of_nonneg_left (show k ≤ -1 by omega) (show 0 ≤ n by omega)
    omega
  · rw [q, Int.mul_zero]
  · have := Int.mul_le_mul_of_nonneg_left (show 1 ≤ k by omega) (show 0 ≤ n by omega)
    omega
theorem cop_dvd {n D x : Int} (hg : Int.gcd n D = 1) (h : n ∣ D * x) : n ∣ x := by
  rw [← Int.natAbs_dvd_natAbs] at h ⊢
  rw [Int.natAbs_mul] at h
  exact Nat.Coprime.dvd_of_dvd_mul_left hg h
theorem inj_of_gcd {n a b c d : Int} (hg : Int.gcd n (a * d - b * c) = 1) {i j i' j' : Int} (hi : 0 ≤ i ∧ i < n) (hj : 0 ≤ j ∧ j < n) (hi' : 0 ≤ i' ∧ i' < n) (hj' : 0 ≤ j' ∧ j' < n)
    (e1 : (i * a + j * b) % n = (i' * a + j' * b) % n) (e2 : (i * c + j * d) % n = (i' * c + j' * d) % n) : i = i' ∧ j = j' := by
  have d1 := dvd_sub_of e1
  have d2 := dvd_sub_of e2
  have x1 : n ∣ (a * d - b * c) * (i - i') := by
    have := Int.dvd_sub (Int.dvd_mul_of_dvd_right d1 (b := d)) (Int.dvd_mul_of_dvd_right d2 (b := b))
    have e : d * (i * a + j * b - (i' * a + j' * b)) - b * (i * c + j * d - (i' * c + j' * d)) = (a * d - b * c) * (i - i') := by grind
    rwa [e] at this
  have x2 : n ∣ (a * d - b * c) * (j - j') := by
    have := Int.dvd_sub (Int.dvd_mul_of_dvd_right d2 (b := a)) (Int.dvd_mul_of_dvd_right d1 (b := c))
    have e : a * (i * c + j * d - (i' * c + j' * d)) - c * (i * a + j * b - (i' * a + j' * b)) = (a * d - b * c) * (j - j') := by grind
    rwa [e] at this
  have y1 := cop_dvd hg x1
  have y2 := cop_dvd hg x2
  have z1 := small_dvd y1 (by omega) (by omega)
  have z2 := small_dvd y2 (by omega) (by omega)
  omega
theorem ker_of_gcd {n a b c d : Int} (hn : 1 ≤ n) (hg : Int.gcd n (a * d - b * c) ≠ 1) : ∃ i j, (0 ≤ i ∧ i < n) ∧ (0 ≤ j ∧ j < n) ∧ ¬ (i = 0 ∧ j = 0) ∧ (i * a + j * b) % n = 0 ∧ (i * c + j * d) % n = 0 := by
  obtain ⟨g, eg⟩ : ∃ g : Int, (Int.gcd n (a * d - b * c) : Int) = g := ⟨_, rfl⟩
  have gn : g ∣ n := by rw [← eg]; exact Int.gcd_dvd_left ..
  have gD : g ∣ a * d - b * c := by rw [← eg]; exact Int.gcd_dvd_right ..
  have g0 : 0 < g := by
    rcases Int.lt_or_eq_of_le (show 0 ≤ g by rw [← eg]; exact Int.natCast_nonneg _) with q | q
    · exact q
    · rw [← q] at gn
      have := Int.zero_dvd.mp gn
      omega
  have g1 : 1 < g := by
    have : g ≠ 1 := fun e => hg (by rw [e] at eg; exact_mod_cast eg)
    omega
  obtain ⟨m, hm⟩ := gn
  have m0 : 0 < m := by
    rcases Int.lt_or_le 0 m with q | q
    · exact q
    · have := Int.mul_nonpos_of_nonneg_of_nonpos (show 0 ≤ g by omega) q
      omega
  have key : ∀ v1 v2 : Int, ¬ (g ∣ v1 ∧ g ∣ v2) → g ∣ v1 * a + v2 * b → g ∣ v1 * c + v2 * d → ∃ i j, (0 ≤ i ∧ i < n) ∧ (0 ≤ j ∧ j < n) ∧ ¬ (i = 0 ∧ j = 0) ∧ (i * a + j * b) % n = 0 ∧ (i * c + j * d) % n = 0 := by
    intro v1 v2 hv h1 h2
    have big : ∀ x y u w : Int, g ∣ x * u + y * w → ((m * x) % n * u + (m * y) % n * w) % n = 0 := fun x y u w h => by
      obtain ⟨k, hk⟩ := h
      have e1 : (m * x) % n = m * x - n * (m * x / n) := Int.emod_def _ _
      have e2 : (m * y) % n = m * y - n * (m * y / n) := Int.emod_def _ _
      refine Int.emod_eq_zero_of_dvd ⟨k - (m * x / n) * u - (m * y / n) * w, ?_⟩
      rw [e1, e2]
      have : m * (x * u + y * w) = n * k := by rw [hk, hm]; grind
      grind
    have nz : ∀ v : Int, (m * v) % n = 0 → g ∣ v := fun v h => by
      obtain ⟨k, hk⟩ := Int.dvd_of_emod_eq_zero h
      refine ⟨k, ?_⟩
      have : m * v = m * (g * k) := by rw [hk, hm]; grind
      exact Int.eq_of_mul_eq_mul_left (by omega) this
    exact ⟨(m * v1) % n, (m * v2) % n, ⟨Int.emod_nonneg _ (by omega), Int.emod_lt_of_pos _ (by omega)⟩, ⟨Int.emod_nonneg _ (by omega), Int.emod_lt_of_pos _ (by omega)⟩, fun ⟨p, q⟩ => hv ⟨nz _ p, nz _ q⟩, big v1 v2 a b h1, big v1 v2 c d h2⟩
  by_cases hab : g ∣ a ∧ g ∣ b
  · by_cases hcd : g ∣ c ∧ g ∣ d
    · refine key 1 0 (fun h => ?_) (by simpa using hab.1) (by simpa using hcd.1)
      have := Int.le_of_dvd (by decide) h.1
      omega
    · refine key d (-c) (fun h => hcd ⟨by simpa using h.2, h.1⟩) ?_ ?_
      · have e : d * a + -c * b = a * d - b * c := by grind
        rw [e]; exact gD
      · have e : d * c + -c * d = 0 := by grind
        rw [e]; exact Int.dvd_zero _
  · refine key (-b) a (fun h => hab ⟨h.2, by simpa using h.1⟩) ?_ ?_
    · have e : -b * a + a * b = 0 := by grind
      rw [e]; exact Int.dvd_zero _
    · have e : -b * c + a * d = a * d - b * c := by grind
      rw [e]; exact gD
end Ts
set_option Elab.async false
set_option linter.all false
set_option maxRecDepth 100000
set_option maxHeartbeats 2000000
namespace Lk63
open PySem PySem.Spec PyProof.Rows L2 Vs
def top (i : Nat) : Stmt := PySem.Challenge.pw_equalsums_k63_whole_main_digit_lots.main.body.getD i (.Pass ⟨0, 0, 0, 0⟩)
abbrev s_digit_place : Stmt := top 5
abbrev s_digit_lots : Stmt := top 6
abbrev s_agree_to : Stmt := top 8
abbrev s__law_pot : Stmt := top 10
abbrev s__law_of : Stmt := top 11
abbrev s__law_one : Stmt := top 12
abbrev s__law_order : Stmt := top 13
abbrev s__law_flat : Stmt := top 14
abbrev s__law_raised : Stmt := top 15
abbrev s__law_place : Stmt := top 16
abbrev s__law_told : Stmt := top 17
abbrev s_law : Stmt := top 18
structure Txt (mg : Str → Option Value) : Prop where
  z_abs : mg "abs" = none
  z_enumerate : mg "enumerate" = none
  z_int : mg "int" = none
  z_isinstance : mg "isinstance" = none
  z_len : mg "len" = none
  z_list : mg "list" = none
  z_min : mg "min" = none
  z_range : mg "range" = none
  z_repr : mg "repr" = none
  z_sum : mg "sum" = none
  z_tuple : mg "tuple" = none
  z_zip : mg "zip" = none
  g_MAX_DIGITED : ∃ t, mg "MAX_DIGITED" = some (.int 1024 t)
theorem bd_digit_place_0 : BindS "digit_place" s_digit_place ["base", "x"] [] 2 [0, 1] := fun _ _ _ _ _ _ us ws h1 h2 => match us, ws, h1, h2 with | [_, _], [], _, _ => ⟨rfl, rfl⟩
theorem bd__law_of_0 : BindS "_law_of" s__law_of ["pot", "many"] [] 2 [0, 1] := fun _ _ _ _ _ _ us ws h1 h2 => match us, ws, h1, h2 with | [_, _], [], _, _ => ⟨rfl, rfl⟩
theorem bd_digit_lots_0 : BindS "digit_lots" s_digit_lots ["base", "k"] ["k", "base"] 0 [1, 0] := fun _ _ _ _ _ _ us ws h1 h2 => match us, ws, h1, h2 with | [], [_, _], _, _ => ⟨rfl, rfl⟩
theorem bd_digit_lots_1 : BindS "digit_lots" s_digit_lots ["base", "k"] [] 2 [0, 1] := fun _ _ _ _ _ _ us ws h1 h2 => match us, ws, h1, h2 with | [_, _], [], _, _ => ⟨rfl, rfl⟩
theorem bd__law_pot_0 : BindS "_law_pot" s__law_pot ["script"] [] 1 [0] := fun _ _ _ _ _ _ us ws h1 h2 => match us, ws, h1, h2 with | [_], [], _, _ => ⟨rfl, rfl⟩
theorem bd__law_one_0 : BindS "_law_one" s__law_one ["pot", "items"] [] 2 [0, 1] := fun _ _ _ _ _ _ us ws h1 h2 => match us, ws, h1, h2 with | [_, _], [], _, _ => ⟨rfl, rfl⟩
theorem bd__law_place_0 : BindS "_law_place" s__law_place ["base", "x"] [] 2 [0, 1] := fun _ _ _ _ _ _ us ws h1 h2 => match us, ws, h1, h2 with | [_, _], [], _, _ => ⟨rfl, rfl⟩
theorem bd_digit_place_1 : BindS "digit_place" s_digit_place ["base", "x"] ["x", "base"] 0 [1, 0] := fun _ _ _ _ _ _ us ws h1 h2 => match us, ws, h1, h2 with | [], [_, _], _, _ => ⟨rfl, rfl⟩
theorem bd__law_raised_0 : BindS "_law_raised" s__law_raised ["number", "often"] [] 2 [0, 1] := fun _ _ _ _ _ _ us ws h1 h2 => match us, ws, h1, h2 with | [_, _], [], _, _ => ⟨rfl, rfl⟩
theorem bd__law_flat_0 : BindS "_law_flat" s__law_flat ["rows"] [] 1 [0] := fun _ _ _ _ _ _ us ws h1 h2 => match us, ws, h1, h2 with | [_], [], _, _ => ⟨rfl, rfl⟩
theorem bd__law_told_0 : BindS "_law_told" s__law_told ["base", "k", "is_named"] [] 3 [0, 1, 2] := fun _ _ _ _ _ _ us ws h1 h2 => match us, ws, h1, h2 with | [_, _, _], [], _, _ => ⟨rfl, rfl⟩
theorem bd__law_order_0 : BindS "_law_order" s__law_order ["pot", "row"] [] 2 [0, 1] := fun _ _ _ _ _ _ us ws h1 h2 => match us, ws, h1, h2 with | [_, _], [], _, _ => ⟨rfl, rfl⟩
theorem bd_agree_to_0 : BindS "agree_to" s_agree_to ["one", "other"] [] 2 [0, 1] := fun _ _ _ _ _ _ us ws h1 h2 => match us, ws, h1, h2 with | [_, _], [], _, _ => ⟨rfl, rfl⟩
theorem ini_TooMany {P : Program} {w : World} {K : PySem.W.Frag} {mg : Str → Option Value} {C fI : Addr} (T : ECls K C fI) (F : EFn P K C fI "TooMany.__init__" (agsO "limit" ⟨7, 17, 7, 21⟩ ⟨7, 23, 7, 28⟩) (bdO "limit" ⟨8, 8, 8, 13⟩ ⟨8, 8, 8, 15⟩ ⟨8, 8, 8, 24⟩ ⟨8, 8, 8, 31⟩ ⟨8, 8, 8, 31⟩ ⟨8, 25, 8, 30⟩ ⟨9, 8, 9, 12⟩ ⟨9, 8, 9, 18⟩ ⟨9, 21, 9, 26⟩ ⟨9, 8, 9, 26⟩) (scO "limit")) (hno : PySem.W.findIn K (.ref C) "limit" = some none) : IniOk P w K mg C fI (some "limit") where
  one := fun f hf => by
    cases hf
    exact fun A R s mb x t0 v X hl hg hm hb hmb hx hn hr hq => init1 T F X hl hg hm hb hmb hx hn hr hno hq
  no := fun h => nomatch h
structure Tcl (P : Program) (w : World) (K : PySem.W.Frag) (mg : Str → Option Value) : Prop where
  e_TooMany : ∃ C, ETx P w K mg "TooMany" (some "limit") C
  h_TooMany : ∃ C S, EHd K mg "TooMany" C S ∧ PySem.W.findIn K (.ref C) "limit" = some none
section
variable {P : Program} {w : World} {K : PySem.W.Frag} {mg : Str → Option Value} {base : Heap}
def m_digit_place : M Out :=
  sSeq (sAsg (kc (.int 0)) (gN 2))
    (sSeq (sWh (asB (sop oGt (two (vwOk 1) (asAr (kc (.int 0)))))) (sPar 2 1 (opV addD (rd 2) (sop oMod (two (vwOk 1) (vwOk 0)))) (sop oDiv (two (vwOk 1) (vwOk 0)))))
    (sRet (sop oMod (two (vwOk 2) (vwOk 0)))))
def F_digit_place : List LD → R LD := fnRun 3 m_digit_place
theorem sc_digit_place : FnScope ["base", "x", "total"] ["base", "x"] (defScope s_digit_place) := ⟨rfl, rfl, rfl, by decide +kernel, rfl, by decide +kernel, by decide +kernel⟩
theorem ok_digit_place {f : Addr} {fd : FuncData} (T : Txt mg) (F : Fun K "digit_place" "digit_place" s_digit_place f fd) : FnG P w K mg base 1 f fd ["base", "x"] [] F_digit_place := by
  refine fnG_of F sc_digit_place fun σ0 cdv A outer s H hr hgd => ?_
  unfold m_digit_place
  exact b_cons (s_set sc_digit_place.nd rfl (Or.inl rfl) (v_int) (pin_set (by decide)))
    (b_cons (s_while PassesOwn.never (t_gt (a_vw (pv 1)) (a_of (v_int))) (b_one (s_par rfl sc_digit_place.nd (i := 2) (j := 1) rfl rfl (by decide) rfl rfl (v_add (v_rd (pv 2)) (v_mod (a_vw (pv 1)) (a_vw (pv 0)))) (v_div (a_vw (pv 1)) (a_vw (pv 0))) (pin_set (by decide)) (pin_set (by decide)) rfl)))
    (b_one (s_ret (v_mod (a_vw (pv 2)) (a_vw (pv 0))))))
def m_digit_lots : M Out :=
  sSeq (sAsg (kc (.int 1)) (gN 2))
    (sSeq (sFor (rng1 (consV (opV addD (rd 1) (kc (.int 1))) (noVs))) (gN 3) (sAsg (opV mulE (rd 2) (rd 0)) (gN 2)))
    (sSeq (sIf (asB (sop oGt (two (vwOk 2) (asAr (kc (.int 1024)))))) (sRaise1 "TooMany" "limit" (kc (.int 1024))) (sNx))
    (sSeq (sAsg (comp [6] (rng1 (consV (rd 0) (noVs))) (gN 6) (M.ret true) (mkLst (noVs))) (gN 4))
    (sSeq (sFor (rng1 (consV (rd 2) (noVs))) (gN 5) (sDrop (mutP moAppend (plXV 4 (callG F_digit_place [] [0, 1] 2 0 (consAr (asAr (rd 0)) (consAr (asAr (rd 5)) (noAr))) (noAr))) [qN 5])))
    (sRet (op1 tupD (comp [7] (seqM (rd 4)) (gN 7) (M.ret true) (op1 tupD (rd 7)))))))))
def F_digit_lots : List LD → R LD := fnRunX 8 m_digit_lots
theorem sc_digit_lots : FnScope ["base", "k", "many", "step", "found", "x", "place", "lot"] ["base", "k"] (defScope s_digit_lots) := ⟨rfl, rfl, rfl, by decide +kernel, rfl, by decide +kernel, by decide +kernel⟩
theorem ok_digit_lots {f : Addr} {fd : FuncData} (T : Txt mg) (F : Fun K "digit_lots" "digit_lots" s_digit_lots f fd) (TC : Tcl P w K mg) (C_digit_place : Cal P w K mg base 1 "digit_place" s_digit_place ["base", "x"] [] F_digit_place) : FnX P w K mg base 2 f fd ["base", "k"] F_digit_lots := by
  obtain ⟨C_TooMany, e_TooMany⟩ := TC.e_TooMany
  refine fnX_of F sc_digit_lots fun σ0 cdv A outer s H E hr hgd => ?_
  unfold m_digit_lots
  exact b_cons (s_set sc_digit_lots.nd rfl (Or.inl rfl) (v_int) (pin_set (by decide)))
    (b_cons (s_for (passes_of rfl) rfl (i_range1 rfl T.z_range (vs_cons (v_add (v_rd (pv 1)) (v_int)) (vs_nil))) (g_name (pg_name (i := 3) sc_digit_lots.nd rfl (Or.inl rfl)) (pin_set (by decide))) (b_one (s_set sc_digit_lots.nd rfl (Or.inl rfl) (v_mulE (v_rd (pv 2)) (v_rd (pv 0))) (pin_set (by decide)))))
    (b_cons (s_if (t_gt (a_vw (pv 2)) (a_of (v_gI2 rfl T.g_MAX_DIGITED))) (b_one (s_raise1 rfl (takes_of rfl rfl rfl rfl) e_TooMany hr (by decide) (v_gI2 rfl T.g_MAX_DIGITED) rfl)) (b_nil))
    (b_cons (s_setLc rfl sc_digit_lots.nd rfl rfl (sw_true rfl rfl rfl (by decide +kernel)) (i_range1 rfl T.z_range (vs_cons (v_rd (pv 0)) (vs_nil))) (own := [("place", 6)]) (blkOk_by (by kernel_rfl)) (fun _ _ _ _ _ _ => g_name (pg_name (i := 6) sc_digit_lots.nd rfl (Or.inl rfl)) (blk_stays (by decide))) (fun _ _ _ _ _ => pts_no) (fun _ _ _ _ _ => v_lst (vs_nil)) (pin_set (by decide)))
    (b_cons (s_for (passes_of rfl) rfl (i_range1 rfl T.z_range (vs_cons (v_rd (pv 2)) (vs_nil))) (g_name (pg_name (i := 5) sc_digit_lots.nd rfl (Or.inl rfl)) (pin_set (by decide))) (b_one (s_expr (v_mutP PySem.F.slot_list_append PySem.F.type_list_append mt_append m_append (l_itemV hr (pv 4) (c_call C_digit_place bd_digit_place_0 (by decide) hr (by decide) hgd pass0 rfl (as_cons (a_of (v_rd (pv 0))) (as_cons (a_of (v_rd (pv 5))) (as_nil)))) (fun _ _ => rfl)) (qs_cons (qe_name (pv 5)) (qs_nil))))))
    (b_one (s_ret (v_callT1 call_tuple_of c_tup rfl T.z_tuple PyProof.Rows.boot_tuple (v_comp rfl sc_digit_lots.nd (i_seq (v_rd (pv 4))) (own := [("lot", 7)]) (blkOk_by (by kernel_rfl)) (fun _ _ _ _ _ _ => g_name (pg_name (i := 7) sc_digit_lots.nd rfl (Or.inl rfl)) (blk_stays (by decide))) (fun _ _ _ _ _ => pts_no) (fun _ _ _ _ _ => v_callT1 call_tuple_of c_tup rfl T.z_tuple PyProof.Rows.boot_tuple (v_rd (pv 7)))))))))))
def m_agree_to : M Out :=
  sSeq (sIf (asB (sop oNe (two (asAr (sop (o1 fLen) (consAr (vwOk 0) noAr))) (asAr (sop (o1 fLen) (consAr (vwOk 1) noAr)))))) (sRet (un oNeg (asAr (kc (.int 1))))) (sNx))
    (sSeq (sIf (asB (sop oEq (two (vwOk 0) (vwOk 1)))) (sRet (kc .non)) (sNx))
    (sSeq (sPar3 2 3 4 (op1 lstD (rd 0)) (op1 lstD (rd 1)) (kc (.int 0)))
    (sSeq (sWh (asB (sop oEq (two (asAr (sop (o1 fSum) (consAr (vwOk 2) noAr))) (asAr (sop (o1 fSum) (consAr (vwOk 3) noAr)))))) (sSeq (sAsg (comp [5, 6] (zipM (consV (rd 2) (consV (rd 0) (noVs)))) (gR 2 (gsC (gN 5) (gsC (gN 6) (gsN)))) (M.ret true) (opV mulE (rd 5) (rd 6))) (gN 2))
    (sSeq (sAsg (comp [5, 6] (zipM (consV (rd 3) (consV (rd 1) (noVs)))) (gR 2 (gsC (gN 5) (gsC (gN 6) (gsN)))) (M.ret true) (opV mulE (rd 5) (rd 6))) (gN 3))
    (sAsg (opV addD (rd 4) (kc (.int 1))) (gN 4)))))
    (sRet (mv 4)))))
def F_agree_to : List LD → R LD := fnRun 7 m_agree_to
theorem sc_agree_to : FnScope ["one", "other", "ours", "theirs", "k", "power", "item"] ["one", "other"] (defScope s_agree_to) := ⟨rfl, rfl, rfl, by decide +kernel, rfl, by decide +kernel, by decide +kernel⟩
theorem ok_agree_to {f : Addr} {fd : FuncData} (T : Txt mg) (F : Fun K "agree_to" "agree_to" s_agree_to f fd) : FnG P w K mg base 1 f fd ["one", "other"] [] F_agree_to := by
  refine fnG_of F sc_agree_to fun σ0 cdv A outer s H hr hgd => ?_
  unfold m_agree_to
  exact b_cons (s_if (t_ne hr (a_of (v_callB call_len_seq s_len rfl T.z_len PySem.boot_len (as_cons (a_vw (pv 0)) as_nil))) (a_of (v_callB call_len_seq s_len rfl T.z_len PySem.boot_len (as_cons (a_vw (pv 1)) as_nil)))) (b_one (s_ret (v_neg (a_of (v_int))))) (b_nil))
    (b_cons (s_if (t_eq hr (a_vw (pv 0)) (a_vw (pv 1))) (b_one (s_ret (v_non))) (b_nil))
    (b_cons (s_par3 rfl sc_agree_to.nd (i := 2) (j := 3) (l := 4) rfl rfl rfl (by decide) (by decide) (by decide) rfl rfl rfl (v_callT1 call_list_of c_lst rfl T.z_list PyProof.Rows.boot_list (v_rd (pv 0))) (v_callT1 call_list_of c_lst rfl T.z_list PyProof.Rows.boot_list (v_rd (pv 1))) (v_int) (pin_set (by decide)) (pin_set (by decide)) (pin_set (by decide)) rfl)
    (b_cons (s_while PassesOwn.never (t_eq hr (a_of (v_callB (cr_sumX rfl) s_sum rfl T.z_sum PyProof.Rows.boot_sum (as_cons (a_vw (pv 2)) as_nil))) (a_of (v_callB (cr_sumX rfl) s_sum rfl T.z_sum PyProof.Rows.boot_sum (as_cons (a_vw (pv 3)) as_nil)))) (b_cons (s_setLc rfl sc_agree_to.nd rfl rfl (sw_true rfl rfl rfl (by decide +kernel)) (i_zip rfl T.z_zip (vs_cons (v_rd (pv 2)) (vs_cons (v_rd (pv 0)) (vs_nil)))) (own := [("power", 5), ("item", 6)]) (blkOk_by (by kernel_rfl)) (fun _ _ _ _ _ _ => g_row rfl (gs_cons (g_name (pg_name (i := 5) sc_agree_to.nd rfl (Or.inl rfl)) (blk_stays (by decide))) (gs_cons (g_name (pg_name (i := 6) sc_agree_to.nd rfl (Or.inl rfl)) (blk_stays (by decide))) (gs_nil)))) (fun _ _ _ _ _ => pts_no) (fun _ _ _ _ _ => v_mulE (v_rd (pv 5)) (v_rd (pv 6))) (pin_set (by decide)))
    (b_cons (s_setLc rfl sc_agree_to.nd rfl rfl (sw_true rfl rfl rfl (by decide +kernel)) (i_zip rfl T.z_zip (vs_cons (v_rd (pv 3)) (vs_cons (v_rd (pv 1)) (vs_nil)))) (own := [("power", 5), ("item", 6)]) (blkOk_by (by kernel_rfl)) (fun _ _ _ _ _ _ => g_row rfl (gs_cons (g_name (pg_name (i := 5) sc_agree_to.nd rfl (Or.inl rfl)) (blk_stays (by decide))) (gs_cons (g_name (pg_name (i := 6) sc_agree_to.nd rfl (Or.inl rfl)) (blk_stays (by decide))) (gs_nil)))) (fun _ _ _ _ _ => pts_no) (fun _ _ _ _ _ => v_mulE (v_rd (pv 5)) (v_rd (pv 6))) (pin_set (by decide)))
    (b_one (s_set sc_agree_to.nd rfl (Or.inl rfl) (v_add (v_rd (pv 4)) (v_int)) (pin_set (by decide)))))))
    (b_one (s_ret (v_mv (pv 4)))))))
def m__law_pot : M Out :=
  sSeq (forget [3] (sPar 1 2 (comp [3] (seqM (slc (rd 0) (noP) (asP (kc (.int 63))))) (gN 3) (M.ret true) (opV addD (opV mulE (kc (.int 2)) (sop (o1 fAbs) (consAr (vwOk 3) noAr))) (sop (o1 fInt) (consAr (asAr (sop oLt (two (vwOk 3) (asAr (kc (.int 0)))))) noAr)))) (opV addD (kc (.int 19591)) (opV mulE (kc (.int 71)) (sop (o1 fLen) (consAr (vwOk 0) noAr))))))
    (sSeq (sFor (seqM (rd 1)) (gN 3) (sAsg (sop oMod (two (asAr (opV addD (opV addD (opV mulE (rd 2) (kc (.int 69069))) (rd 3)) (kc (.int 11)))) (asAr (kc (.int 4294967291))))) (gN 2)))
    (forget [3] (sRet (mkLst (consV (comp [3] (seqM (rd 1)) (gN 3) (asB (sop oGt (two (vwOk 3) (asAr (sop oPow (two (asAr (kc (.int 10))) (asAr (kc (.int 12))))))))) (rd 3)) (consV (rd 2) (consV (kc (.int 0)) (noVs))))))))
def F__law_pot : List LD → R LD := fnRun 4 m__law_pot
theorem sc__law_pot : FnScope ["script", "cells", "mixed", "cell"] ["script"] (defScope s__law_pot) := ⟨rfl, rfl, rfl, by decide +kernel, rfl, by decide +kernel, by decide +kernel⟩
theorem ok__law_pot {f : Addr} {fd : FuncData} (T : Txt mg) (F : Fun K "_law_pot" "_law_pot" s__law_pot f fd) : FnG P w K mg base 1 f fd ["script"] [] F__law_pot := by
  refine fnG_of F sc__law_pot fun σ0 cdv A outer s H hr hgd => ?_
  unfold m__law_pot
  exact b_cons (s_forget [3] (s_par rfl sc__law_pot.nd (i := 1) (j := 2) rfl rfl (by decide) rfl rfl (v_comp rfl sc__law_pot.nd (i_seq (v_slice (v_rd (pv 0)) p_none (p_some (v_int)))) (own := [("cell", 3)]) (blkOk_by (by kernel_rfl)) (fun _ _ _ _ _ _ => g_name (pg_name (i := 3) sc__law_pot.nd rfl (Or.inl rfl)) (blk_stays (by decide))) (fun _ _ _ _ _ => pts_no) (fun _ _ _ _ _ => v_add (v_mulE (v_int) (v_callB call_abs s_abs rfl T.z_abs PyProof.Rows.boot_abs (as_cons (a_vw (pv 3)) as_nil))) (v_callTy call_int1 s_int rfl T.z_int PyProof.Rows.boot_int (as_cons (a_of (v_lt (a_vw (pv 3)) (a_of (v_int)))) as_nil)))) (v_add (v_int) (v_mulE (v_int) (v_callB call_len_seq s_len rfl T.z_len PySem.boot_len (as_cons (a_vw (pv 0)) as_nil)))) (pin_set (by decide)) (pin_set (by decide)) rfl))
    (b_cons (s_for PassesOwn.never rfl (i_seq (v_rd (pv 1))) (g_name (pg_name (i := 3) sc__law_pot.nd rfl (Or.inl rfl)) (pin_set (by decide))) (b_one (s_set sc__law_pot.nd rfl (Or.inl rfl) (v_mod (a_of (v_add (v_add (v_mulE (v_rd (pv 2)) (v_int)) (v_rd (pv 3))) (v_int))) (a_of (v_int))) (pin_set (by decide)))))
    (b_one (s_forget [3] (s_ret (v_lst (vs_cons (v_comp rfl sc__law_pot.nd (i_seq (v_rd (pv 1))) (own := [("cell", 3)]) (blkOk_by (by kernel_rfl)) (fun _ _ _ _ _ _ => g_name (pg_name (i := 3) sc__law_pot.nd rfl (Or.inl rfl)) (blk_stays (by decide))) (fun _ _ _ _ _ => pts_if (t_gt (a_vw (pv 3)) (a_of (v_pow (a_of (v_int)) (a_of (v_int)))))) (fun _ _ _ _ _ => v_rd (pv 3))) (vs_cons (v_rd (pv 2)) (vs_cons (v_int) (vs_nil)))))))))
def m__law_of : M Out :=
  sSeq (sIf (asB (sop oLt (two (vwOk 1) (asAr (kc (.int 2)))))) (sRet (kc (.int 0))) (sNx))
    (sSeq (sIf (asB (cmpP oNe (plX (plN 0) (qK (.int 0))) [])) (sSeq (sAsg (mutP moPop (plX (plN 0) (qK (.int 0))) []) (gN 2))
    (sSeq (sIf (asB (sop oGe (two (vwOk 2) (vwOk 1)))) (sDrop (mutP moAppend (plX (plN 0) (qK (.int 0))) [q2 oDiv (qN 2) (qN 1)])) (sNx))
    (sRet (sop oMod (two (vwOk 2) (vwOk 1)))))) (sNx))
    (sSeq (sAsg (opV addD (subN 0 (kc (.int 2))) (kc (.int 1))) (gAt (plN 0) (qK (.int 2))))
    (sSeq (sAsg (sop oMod (two (asAr (opV addD (subN 0 (kc (.int 1))) (opV mulE (subN 0 (kc (.int 2))) (kc (.int 2654435761))))) (asAr (kc (.int 4294967279))))) (gN 3))
    (sSeq (sAsg (sop oMod (two (asAr (opV addD (opV addD (opV mulE (rd 3) (rd 3)) (opV mulE (subN 0 (kc (.int 2))) (kc (.int 40503)))) (kc (.int 5)))) (asAr (kc (.int 4294967231))))) (gN 3))
    (sSeq (sAsg (sop oMod (two (asAr (opV addD (opV mulE (rd 3) (rd 3)) (subN 0 (kc (.int 1))))) (asAr (kc (.int 4294967291))))) (gN 3))
    (sRet (sop oMod (two (asAr (sop oDiv (two (vwOk 3) (asAr (kc (.int 256)))))) (vwOk 1)))))))))
def F__law_of : List LD → R LD := fnRun 4 m__law_of
theorem sc__law_of : FnScope ["pot", "many", "cell", "number"] ["pot", "many"] (defScope s__law_of) := ⟨rfl, rfl, rfl, by decide +kernel, rfl, by decide +kernel, by decide +kernel⟩
theorem ok__law_of {f : Addr} {fd : FuncData} (T : Txt mg) (F : Fun K "_law_of" "_law_of" s__law_of f fd) : FnG P w K mg base 1 f fd ["pot", "many"] [0] F__law_of := by
  refine fnG_of F sc__law_of fun σ0 cdv A outer s H hr hgd => ?_
  unfold m__law_of
  exact b_cons (s_if (t_lt (a_vw (pv 1)) (a_of (v_int))) (b_one (s_ret (v_int))) (b_nil))
    (b_cons (s_if (t_neP hr (l_item hr (l_name (pv 0)) (qe_int) (fun _ _ => rfl)) (qs_nil)) (b_cons (s_set sc__law_of.nd rfl (Or.inl rfl) (v_mutP0 PySem.F.slot_list_pop PySem.F.type_list_pop mt_pop m_pop (l_item hr (l_name (pv 0)) (qe_int) (fun _ _ => rfl))) (pin_set (by decide)))
    (b_cons (s_if (t_ge (a_vw (pv 2)) (a_vw (pv 1))) (b_one (s_expr (v_mutP PySem.F.slot_list_append PySem.F.type_list_append mt_append m_append (l_item hr (l_name (pv 0)) (qe_int) (fun _ _ => rfl)) (qs_cons (qe_div (qe_name (pv 2)) (qe_name (pv 1))) (qs_nil))))) (b_nil))
    (b_one (s_ret (v_mod (a_vw (pv 2)) (a_vw (pv 1))))))) (b_nil))
    (b_cons (s_asg (v_add (v_subN hr (pv 0) (v_int) (fun _ _ => rfl)) (v_int)) (g_at hr (l_name (pv 0)) (qe_int)))
    (b_cons (s_set sc__law_of.nd rfl (Or.inl rfl) (v_mod (a_of (v_add (v_subN hr (pv 0) (v_int) (fun _ _ => rfl)) (v_mulE (v_subN hr (pv 0) (v_int) (fun _ _ => rfl)) (v_int)))) (a_of (v_int))) (pin_set (by decide)))
    (b_cons (s_set sc__law_of.nd rfl (Or.inl rfl) (v_mod (a_of (v_add (v_add (v_mulE (v_rd (pv 3)) (v_rd (pv 3))) (v_mulE (v_subN hr (pv 0) (v_int) (fun _ _ => rfl)) (v_int))) (v_int))) (a_of (v_int))) (pin_set (by decide)))
    (b_cons (s_set sc__law_of.nd rfl (Or.inl rfl) (v_mod (a_of (v_add (v_mulE (v_rd (pv 3)) (v_rd (pv 3))) (v_subN hr (pv 0) (v_int) (fun _ _ => rfl)))) (a_of (v_int))) (pin_set (by decide)))
    (b_one (s_ret (v_mod (a_of (v_div (a_vw (pv 3)) (a_of (v_int)))) (a_vw (pv 1))))))))))
def m__law_one : M Out :=
  sRet (subN 1 (callG F__law_of [0] [0, 1] 2 0 (consAr (vwOk 0) (consAr (asAr (sop (o1 fLen) (consAr (vwOk 1) noAr))) (noAr))) (noAr)))
def F__law_one : List LD → R LD := fnRun 2 m__law_one
theorem sc__law_one : FnScope ["pot", "items"] ["pot", "items"] (defScope s__law_one) := ⟨rfl, rfl, rfl, by decide +kernel, rfl, by decide +kernel, by decide +kernel⟩
theorem ok__law_one {f : Addr} {fd : FuncData} (T : Txt mg) (F : Fun K "_law_one" "_law_one" s__law_one f fd) (C__law_of : Cal P w K mg base 1 "_law_of" s__law_of ["pot", "many"] [0] F__law_of) : FnG P w K mg base 2 f fd ["pot", "items"] [0] F__law_one := by
  refine fnG_of F sc__law_one fun σ0 cdv A outer s H hr hgd => ?_
  unfold m__law_one
  exact b_one (s_ret (v_subN hr (pv 1) (c_call C__law_of bd__law_of_0 (by decide) hr (by decide) hgd pass0 rfl (as_cons (a_vw (pv 0)) (as_cons (a_of (v_callB call_len_seq s_len rfl T.z_len PySem.boot_len (as_cons (a_vw (pv 1)) as_nil))) (as_nil)))) (fun _ _ => rfl)))
def m__law_order : M Out :=
  sSeq (sPar 2 3 (op1 lstD (rd 1)) (mkLst (noVs)))
    (sSeq (sWh (asB (sop oNe (two (vwOk 2) (asAr (mkLst (noVs)))))) (sDrop (mut1 3 moAppend (consV (mut1 2 moPopAt (consV (callG F__law_of [0] [0, 1] 2 0 (consAr (vwOk 0) (consAr (asAr (sop (o1 fLen) (consAr (vwOk 2) noAr))) (noAr))) (noAr)) (noVs))) (noVs)))))
    (sRet (mv 3)))
def F__law_order : List LD → R LD := fnRun 4 m__law_order
theorem sc__law_order : FnScope ["pot", "row", "left", "found"] ["pot", "row"] (defScope s__law_order) := ⟨rfl, rfl, rfl, by decide +kernel, rfl, by decide +kernel, by decide +kernel⟩
theorem ok__law_order {f : Addr} {fd : FuncData} (T : Txt mg) (F : Fun K "_law_order" "_law_order" s__law_order f fd) (C__law_of : Cal P w K mg base 1 "_law_of" s__law_of ["pot", "many"] [0] F__law_of) : FnG P w K mg base 2 f fd ["pot", "row"] [0] F__law_order := by
  refine fnG_of F sc__law_order fun σ0 cdv A outer s H hr hgd => ?_
  unfold m__law_order
  exact b_cons (s_par rfl sc__law_order.nd (i := 2) (j := 3) rfl rfl (by decide) rfl rfl (v_callT1 call_list_of c_lst rfl T.z_list PyProof.Rows.boot_list (v_rd (pv 1))) (v_lst (vs_nil)) (pin_set (by decide)) (pin_set (by decide)) rfl)
    (b_cons (s_while PassesOwn.never (t_ne hr (a_vw (pv 2)) (a_of (v_lst (vs_nil)))) (b_one (s_expr (v_mut1 PySem.F.slot_list_append PySem.F.type_list_append mt_append m_append (pv 3) (vs_cons (v_mut1 PySem.F.slot_list_pop PySem.F.type_list_pop mt_popAt m_popAt (pv 2) (vs_cons (c_call C__law_of bd__law_of_0 (by decide) hr (by decide) hgd pass0 rfl (as_cons (a_vw (pv 0)) (as_cons (a_of (v_callB call_len_seq s_len rfl T.z_len PySem.boot_len (as_cons (a_vw (pv 2)) as_nil))) (as_nil)))) (vs_nil))) (vs_nil))))))
    (b_one (s_ret (v_mv (pv 3)))))
def m__law_flat : M Out :=
  sSeq (sAsg (mkLst (noVs)) (gN 1))
    (sSeq (sFor (seqM (rd 0)) (gN 2) (sDrop (mut1 1 moExtendX (consV (rd 2) (noVs)))))
    (sRet (mv 1)))
def F__law_flat : List LD → R LD := fnRun 3 m__law_flat
theorem sc__law_flat : FnScope ["rows", "found", "row"] ["rows"] (defScope s__law_flat) := ⟨rfl, rfl, rfl, by decide +kernel, rfl, by decide +kernel, by decide +kernel⟩
theorem ok__law_flat {f : Addr} {fd : FuncData} (T : Txt mg) (F : Fun K "_law_flat" "_law_flat" s__law_flat f fd) : FnG P w K mg base 1 f fd ["rows"] [] F__law_flat := by
  refine fnG_of F sc__law_flat fun σ0 cdv A outer s H hr hgd => ?_
  unfold m__law_flat
  exact b_cons (s_set sc__law_flat.nd rfl (Or.inl rfl) (v_lst (vs_nil)) (pin_set (by decide)))
    (b_cons (s_for PassesOwn.never rfl (i_seq (v_rd (pv 0))) (g_name (pg_name (i := 2) sc__law_flat.nd rfl (Or.inl rfl)) (pin_set (by decide))) (b_one (s_expr (v_mut1 PySem.F.slot_list_extend PySem.F.type_list_extend mt_extendX m_extendX (pv 1) (vs_cons (v_rd (pv 2)) (vs_nil))))))
    (b_one (s_ret (v_mv (pv 1)))))
def m__law_raised : M Out :=
  sSeq (sAsg (kc (.int 1)) (gN 2))
    (sSeq (sFor (rng1 (consV (rd 1) (noVs))) (gN 3) (sAsg (opV mulE (rd 2) (rd 0)) (gN 2)))
    (sRet (mv 2)))
def F__law_raised : List LD → R LD := fnRun 4 m__law_raised
theorem sc__law_raised : FnScope ["number", "often", "found", "turn"] ["number", "often"] (defScope s__law_raised) := ⟨rfl, rfl, rfl, by decide +kernel, rfl, by decide +kernel, by decide +kernel⟩
theorem ok__law_raised {f : Addr} {fd : FuncData} (T : Txt mg) (F : Fun K "_law_raised" "_law_raised" s__law_raised f fd) : FnG P w K mg base 1 f fd ["number", "often"] [] F__law_raised := by
  refine fnG_of F sc__law_raised fun σ0 cdv A outer s H hr hgd => ?_
  unfold m__law_raised
  exact b_cons (s_set sc__law_raised.nd rfl (Or.inl rfl) (v_int) (pin_set (by decide)))
    (b_cons (s_for PassesOwn.never rfl (i_range1 rfl T.z_range (vs_cons (v_rd (pv 1)) (vs_nil))) (g_name (pg_name (i := 3) sc__law_raised.nd rfl (Or.inl rfl)) (pin_set (by decide))) (b_one (s_set sc__law_raised.nd rfl (Or.inl rfl) (v_mulE (v_rd (pv 2)) (v_rd (pv 0))) (pin_set (by decide)))))
    (b_one (s_ret (v_mv (pv 2)))))
def m__law_place : M Out :=
  sSeq (sAsg (kc (.int 0)) (gN 2))
    (sSeq (sWh (asB (sop oGt (two (vwOk 1) (asAr (kc (.int 0)))))) (sPar 2 1 (opV addD (rd 2) (sop oMod (two (asAr (sop (o1 fInt) (consAr (vwOk 1) noAr))) (vwOk 0)))) (sop oDiv (two (vwOk 1) (vwOk 0)))))
    (sRet (sop oMod (two (asAr (sop (o1 fInt) (consAr (vwOk 2) noAr))) (vwOk 0)))))
def F__law_place : List LD → R LD := fnRun 3 m__law_place
theorem sc__law_place : FnScope ["base", "x", "found"] ["base", "x"] (defScope s__law_place) := ⟨rfl, rfl, rfl, by decide +kernel, rfl, by decide +kernel, by decide +kernel⟩
theorem ok__law_place {f : Addr} {fd : FuncData} (T : Txt mg) (F : Fun K "_law_place" "_law_place" s__law_place f fd) : FnG P w K mg base 1 f fd ["base", "x"] [] F__law_place := by
  refine fnG_of F sc__law_place fun σ0 cdv A outer s H hr hgd => ?_
  unfold m__law_place
  exact b_cons (s_set sc__law_place.nd rfl (Or.inl rfl) (v_int) (pin_set (by decide)))
    (b_cons (s_while PassesOwn.never (t_gt (a_vw (pv 1)) (a_of (v_int))) (b_one (s_par rfl sc__law_place.nd (i := 2) (j := 1) rfl rfl (by decide) rfl rfl (v_add (v_rd (pv 2)) (v_mod (a_of (v_callTy call_int1 s_int rfl T.z_int PyProof.Rows.boot_int (as_cons (a_vw (pv 1)) as_nil))) (a_vw (pv 0)))) (v_div (a_vw (pv 1)) (a_vw (pv 0))) (pin_set (by decide)) (pin_set (by decide)) rfl)))
    (b_one (s_ret (v_mod (a_of (v_callTy call_int1 s_int rfl T.z_int PyProof.Rows.boot_int (as_cons (a_vw (pv 2)) as_nil))) (a_vw (pv 0))))))
def m__law_told : M Out :=
  sTry 3 (sRetX (iteV (asB (rd 2)) (callX F_digit_lots [1, 0] 0 2 (noAr) (consAr (asAr (rd 1)) (consAr (asAr (rd 0)) (noAr)))) (callX F_digit_lots [0, 1] 2 0 (consAr (asAr (rd 0)) (consAr (asAr (rd 1)) (noAr))) (noAr)))) (hd1 "TooMany" "limit" "more than" [.bl true])
def F__law_told : List LD → R LD := fnRun 4 m__law_told
theorem sc__law_told : FnScope ["base", "k", "is_named", "error"] ["base", "k", "is_named"] (defScope s__law_told) := ⟨rfl, rfl, rfl, by decide +kernel, rfl, by decide +kernel, by decide +kernel⟩
theorem ok__law_told {f : Addr} {fd : FuncData} (T : Txt mg) (F : Fun K "_law_told" "_law_told" s__law_told f fd) (TC : Tcl P w K mg) (C_digit_lots : CaX P w K mg base 2 "digit_lots" s_digit_lots ["base", "k"] F_digit_lots) : FnG P w K mg base 3 f fd ["base", "k", "is_named"] [] F__law_told := by
  obtain ⟨H_TooMany, S_TooMany, h_TooMany, n_TooMany⟩ := TC.h_TooMany
  refine fnG_of F sc__law_told fun σ0 cdv A outer s H hr hgd => ?_
  unfold m__law_told
  exact b_one (s_try1 (i := 3) (fun _ _ h => nomatch h) rfl rfl sc__law_told.nd rfl rfl h_TooMany rfl (fun Wx pn xe tk hps => b_one (s_retX (s_ret (v_ite (t_val (v_rd (pv 2))) (x_callK tk C_digit_lots bd_digit_lots_0 (by decide) rfl hr (by decide) hgd rfl (k_cons (a_of (v_rd (pv 1))) (k_cons (a_of (v_rd (pv 0))) (k_nil)))) (x_call tk C_digit_lots bd_digit_lots_1 (by decide) hr (by decide) hgd rfl (as_cons (a_of (v_rd (pv 0))) (as_cons (a_of (v_rd (pv 1))) (as_nil)))))))) (fun a oe cls d pn hz hf => su_A h_TooMany n_TooMany hz hf (fun p => pv 3) rfl T.z_isinstance rfl) (by first | exact hd1_cls | exact hd0_cls))
def m_law : M Out :=
  sSeq (sAsg (callG F__law_pot [] [0] 1 0 (consAr (asAr (rd 0)) (noAr)) (noAr)) (gN 1))
    (sSeq (sAsg (opV addD (kc (.int 2)) (callG F__law_of [0] [0, 1] 2 0 (consAr (vwOk 1) (consAr (asAr (kc (.int 9))) (noAr))) (noAr))) (gN 2))
    (sSeq (sFor (rng1 (consV (kc (.int 6)) (noVs))) (gN 3) (sSeq (sAsg (opV mulE (callG F__law_of [0] [0, 1] 2 0 (consAr (vwOk 1) (consAr (asAr (callG F__law_one [0] [0, 1] 2 0 (consAr (vwOk 1) (consAr (asAr (mkLst (consV (kc (.int 20)) (consV (kc (.int 5000)) (consV (sop oPow (two (asAr (kc (.int 10))) (asAr (kc (.int 9))))) (noVs)))))) (noAr))) (noAr))) (noAr))) (noAr)) (callG F__law_one [0] [0, 1] 2 0 (consAr (vwOk 1) (consAr (asAr (mkLst (consV (kc (.int 1)) (consV (kc (.int 1)) (consV (sop oPow (two (asAr (kc (.int 10))) (asAr (kc (.int 12))))) (consV (sop oPow (two (asAr (kc (.int 10))) (asAr (kc (.int 21))))) (noVs))))))) (noAr))) (noAr))) (gN 4))
    (sSeq (sAsg (callG F__law_place [] [0, 1] 2 0 (consAr (asAr (rd 2)) (consAr (asAr (rd 4)) (noAr))) (noAr)) (gN 5))
    (sIf (asB (sop oNe (two (asAr (sop (o1 fRepr) (consAr (asAr (mkLst (consV (callG F_digit_place [] [0, 1] 2 0 (consAr (asAr (rd 2)) (consAr (asAr (rd 4)) (noAr))) (noAr)) (consV (callG F_digit_place [] [1, 0] 0 2 (noAr) (consAr (asAr (rd 4)) (consAr (asAr (rd 2)) (noAr)))) (noVs))))) noAr))) (asAr (sop (o1 fRepr) (consAr (asAr (mkLst (consV (rd 5) (consV (rd 5) (noVs))))) noAr)))))) (sRet (kc (.bl false))) (sNx)))))
    (sSeq (sIf (asB (sop oNe (two (asAr (callG F_digit_place [] [0, 1] 2 0 (consAr (asAr (rd 2)) (consAr (asAr (sop oPow (two (asAr (kc (.int 10))) (asAr (kc (.int 30)))))) (noAr))) (noAr))) (asAr (callG F__law_place [] [0, 1] 2 0 (consAr (asAr (rd 2)) (consAr (asAr (sop oPow (two (asAr (kc (.int 10))) (asAr (kc (.int 30)))))) (noAr))) (noAr)))))) (sRet (kc (.bl false))) (sNx))
    (sSeq (sAsg (callG F__law_of [0] [0, 1] 2 0 (consAr (vwOk 1) (consAr (asAr (callG F__law_one [0] [0, 1] 2 0 (consAr (vwOk 1) (consAr (asAr (mkLst (consV (kc (.int 3)) (consV (kc (.int 6)) (consV (kc (.int 11)) (consV (kc (.int 41)) (noVs))))))) (noAr))) (noAr))) (noAr))) (noAr)) (gN 6))
    (sSeq (sAsg (callG F__law_raised [] [0, 1] 2 0 (consAr (asAr (rd 2)) (consAr (asAr (opV addD (sop omin2 (consAr (vwOk 6) (consAr (asAr (kc (.int 11))) noAr))) (kc (.int 1)))) (noAr))) (noAr)) (gN 7))
    (sSeq (sAsg (mkLst (consV (kc (.str "more than")) (consV (kc (.int 1024)) (consV (kc (.bl true)) (noVs))))) (gN 5))
    (sSeq (forget [4, 9] (sIf (andT (asB (sop oLe (two (vwOk 7) (asAr (kc (.int 1024)))))) (asB (sop oLt (two (vwOk 6) (asAr (kc (.int 11))))))) (sSeq (sAsg (rgn1 .lst 9 (rd 2)) (gN 8))
    (sSeq (sFor (rng1 (consV (rd 6) (noVs))) (gN 3) (forget [4] (sAsg (callG F__law_flat [] [0] 1 0 (consAr (asAr (comp [14] (seqM (rd 8)) (gN 14) (M.ret true) (comp [4] (rng1 (consV (rd 2) (noVs))) (gN 4) (M.ret true) (sop oMod (two (asAr (sop (o1 fInt) (consAr (asAr (opV addD (rd 14) (rd 4))) noAr))) (vwOk 2)))))) (noAr)) (noAr)) (gN 8))))
    (forget [4, 9] (sAsg (op1 tupD (comp [9] (rng1 (consV (rd 2) (noVs))) (gN 9) (M.ret true) (op1 tupD (comp [4, 14] (enumM (consV (rd 8) (noVs))) (gR 2 (gsC (gN 4) (gsC (gN 14) (gsN)))) (asB (sop oEq (two (vwOk 14) (vwOk 9)))) (rd 4))))) (gN 5))))) (sNx)))
    (sSeq (sIf (asB (sop oNe (two (asAr (sop (o1 fRepr) (consAr (asAr (mkLst (consV (callG F__law_told [] [0, 1, 2] 3 0 (consAr (asAr (rd 2)) (consAr (asAr (rd 6)) (consAr (asAr (kc (.bl false))) (noAr)))) (noAr)) (consV (callG F__law_told [] [0, 1, 2] 3 0 (consAr (asAr (rd 2)) (consAr (asAr (rd 6)) (consAr (asAr (kc (.bl true))) (noAr)))) (noAr)) (noVs))))) noAr))) (asAr (sop (o1 fRepr) (consAr (asAr (mkLst (consV (rd 5) (consV (rd 5) (noVs))))) noAr)))))) (sRet (kc (.bl false))) (sNx))
    (sSeq (sIf (asB (un (isD .lst) (vwOk 5))) (sRet (kc (.bl true))) (sNx))
    (sSeq (sAsg (slc (callG F__law_order [0] [0, 1] 2 0 (consAr (vwOk 1) (consAr (asAr (rgn1 .lst 9 (rd 2))) (noAr))) (noAr)) (noP) (asP (kc (.int 2)))) (gR 2 (gsC (gN 9) (gsC (gN 10) (gsN)))))
    (sSeq (sAsg (mkLst (consV (opV mulE (mkLst (consV (kc (.int 1)) (noVs))) (sop (o1 fLen) (consAr (asAr (subN 5 (rd 9))) noAr))) (consV (opV mulE (mkLst (consV (kc (.int 1)) (noVs))) (sop (o1 fLen) (consAr (asAr (subN 5 (rd 10))) noAr))) (noVs)))) (gN 11))
    (sSeq (sFor (rng1 (consV (opV addD (rd 6) (kc (.int 1))) (noVs))) (gN 12) (sSeq (sIf (asB (sop oNe (two (asAr (sop (o1 fSum) (consAr (asAr (subN 11 (kc (.int 0)))) noAr))) (asAr (sop (o1 fSum) (consAr (asAr (subN 11 (kc (.int 1)))) noAr)))))) (sRet (kc (.bl false))) (sNx))
    (forget [4] (sAsg (comp [15, 16] (zipM (consV (rd 11) (consV (mkTup (consV (subN 5 (rd 9)) (consV (subN 5 (rd 10)) (noVs)))) (noVs)))) (gR 2 (gsC (gN 15) (gsC (gN 16) (gsN)))) (M.ret true) (comp [17, 4] (zipM (consV (rd 15) (consV (rd 16) (noVs)))) (gR 2 (gsC (gN 17) (gsC (gN 4) (gsN)))) (M.ret true) (opV mulE (rd 17) (rd 4)))) (gN 11)))))
    (sSeq (sIf (asB (sop oGt (two (asAr (sop (o1 fLen) (consAr (asAr (subN 5 (kc (.int 0)))) noAr))) (asAr (kc (.int 64)))))) (sRet (kc (.bl true))) (sNx))
    (sSeq (sAsg (callG F_agree_to [] [0, 1] 2 0 (consAr (asAr (subN 5 (rd 9))) (consAr (asAr (subN 5 (rd 10))) (noAr))) (noAr)) (gN 13))
    (sRet (andV (sop oGe (two (vwOk 13) (vwOk 6))) (orV (sop oGt (two (vwOk 2) (asAr (kc (.int 2))))) (sop oEq (two (vwOk 13) (vwOk 6))))))))))))))))))))
def F_law : List LD → R LD := fnRun 18 m_law
theorem sc_law : FnScope ["script", "pot", "base", "turn", "x", "due", "k", "size", "places", "i", "j", "rows", "power", "told", "own", "row", "lot", "a"] ["script"] (defScope s_law) := ⟨rfl, rfl, rfl, by decide +kernel, rfl, by decide +kernel, by decide +kernel⟩
theorem ok_law {f : Addr} {fd : FuncData} (T : Txt mg) (F : Fun K "law" "law" s_law f fd) (C__law_flat : Cal P w K mg base 1 "_law_flat" s__law_flat ["rows"] [] F__law_flat) (C__law_of : Cal P w K mg base 1 "_law_of" s__law_of ["pot", "many"] [0] F__law_of) (C__law_one : Cal P w K mg base 2 "_law_one" s__law_one ["pot", "items"] [0] F__law_one) (C__law_order : Cal P w K mg base 2 "_law_order" s__law_order ["pot", "row"] [0] F__law_order) (C__law_place : Cal P w K mg base 1 "_law_place" s__law_place ["base", "x"] [] F__law_place) (C__law_pot : Cal P w K mg base 1 "_law_pot" s__law_pot ["script"] [] F__law_pot) (C__law_raised : Cal P w K mg base 1 "_law_raised" s__law_raised ["number", "often"] [] F__law_raised) (C__law_told : Cal P w K mg base 3 "_law_told" s__law_told ["base", "k", "is_named"] [] F__law_told) (C_agree_to : Cal P w K mg base 1 "agree_to" s_agree_to ["one", "other"] [] F_agree_to) (C_digit_place : Cal P w K mg base 1 "digit_place" s_digit_place ["base", "x"] [] F_digit_place) : FnG P w K mg base 4 f fd ["script"] [] F_law := by
  refine fnG_of F sc_law fun σ0 cdv A outer s H hr hgd => ?_
  unfold m_law
  exact b_cons (s_set sc_law.nd rfl (Or.inl rfl) (c_call C__law_pot bd__law_pot_0 (by decide) hr (by decide) hgd pass0 rfl (as_cons (a_of (v_rd (pv 0))) (as_nil))) (pin_set (by decide)))
    (b_cons (s_set sc_law.nd rfl (Or.inr rfl) (v_add (v_int) (c_call C__law_of bd__law_of_0 (by decide) hr (by decide) hgd pass0 rfl (as_cons (a_vw (pv 1)) (as_cons (a_of (v_int)) (as_nil))))) (pin_set (by decide)))
    (b_cons (s_for PassesOwn.never rfl (i_range1 rfl T.z_range (vs_cons (v_int) (vs_nil))) (g_name (pg_name (i := 3) sc_law.nd rfl (Or.inl rfl)) (pin_set (by decide))) (b_cons (s_set sc_law.nd rfl (Or.inl rfl) (v_mulE (c_call C__law_of bd__law_of_0 (by decide) hr (by decide) hgd pass0 rfl (as_cons (a_vw (pv 1)) (as_cons (a_of (c_call C__law_one bd__law_one_0 (by decide) hr (by decide) hgd pass0 rfl (as_cons (a_vw (pv 1)) (as_cons (a_of (v_lst (vs_cons (v_int) (vs_cons (v_int) (vs_cons (v_pow (a_of (v_int)) (a_of (v_int))) (vs_nil)))))) (as_nil))))) (as_nil)))) (c_call C__law_one bd__law_one_0 (by decide) hr (by decide) hgd pass0 rfl (as_cons (a_vw (pv 1)) (as_cons (a_of (v_lst (vs_cons (v_int) (vs_cons (v_int) (vs_cons (v_pow (a_of (v_int)) (a_of (v_int))) (vs_cons (v_pow (a_of (v_int)) (a_of (v_int))) (vs_nil))))))) (as_nil))))) (pin_set (by decide)))
    (b_cons (s_set sc_law.nd rfl (Or.inl rfl) (c_call C__law_place bd__law_place_0 (by decide) hr (by decide) hgd pass0 rfl (as_cons (a_of (v_rd (pv 2))) (as_cons (a_of (v_rd (pv 4))) (as_nil)))) (pin_set (by decide)))
    (b_one (s_if (t_ne hr (a_of (v_callB (cr_repr hr hgd) s_repr rfl T.z_repr PyProof.Rows.boot_repr (as_cons (a_of (v_lst (vs_cons (c_call C_digit_place bd_digit_place_0 (by decide) hr (by decide) hgd pass0 rfl (as_cons (a_of (v_rd (pv 2))) (as_cons (a_of (v_rd (pv 4))) (as_nil)))) (vs_cons (c_callK C_digit_place bd_digit_place_1 (by decide) rfl hr (by decide) hgd pass0 rfl (k_cons (a_of (v_rd (pv 4))) (k_cons (a_of (v_rd (pv 2))) (k_nil)))) (vs_nil))))) as_nil))) (a_of (v_callB (cr_repr hr hgd) s_repr rfl T.z_repr PyProof.Rows.boot_repr (as_cons (a_of (v_lst (vs_cons (v_rd (pv 5)) (vs_cons (v_rd (pv 5)) (vs_nil))))) as_nil)))) (b_one (s_ret (v_bl))) (b_nil))))))
    (b_cons (s_if (t_ne hr (a_of (c_call C_digit_place bd_digit_place_0 (by decide) hr (by decide) hgd pass0 rfl (as_cons (a_of (v_rd (pv 2))) (as_cons (a_of (v_pow (a_of (v_int)) (a_of (v_int)))) (as_nil))))) (a_of (c_call C__law_place bd__law_place_0 (by decide) hr (by decide) hgd pass0 rfl (as_cons (a_of (v_rd (pv 2))) (as_cons (a_of (v_pow (a_of (v_int)) (a_of (v_int)))) (as_nil)))))) (b_one (s_ret (v_bl))) (b_nil))
    (b_cons (s_set sc_law.nd rfl (Or.inl rfl) (c_call C__law_of bd__law_of_0 (by decide) hr (by decide) hgd pass0 rfl (as_cons (a_vw (pv 1)) (as_cons (a_of (c_call C__law_one bd__law_one_0 (by decide) hr (by decide) hgd pass0 rfl (as_cons (a_vw (pv 1)) (as_cons (a_of (v_lst (vs_cons (v_int) (vs_cons (v_int) (vs_cons (v_int) (vs_cons (v_int) (vs_nil))))))) (as_nil))))) (as_nil)))) (pin_set (by decide)))
    (b_cons (s_set sc_law.nd rfl (Or.inl rfl) (c_call C__law_raised bd__law_raised_0 (by decide) hr (by decide) hgd pass0 rfl (as_cons (a_of (v_rd (pv 2))) (as_cons (a_of (v_add (v_callB (call_min2 rfl) s_min2 rfl T.z_min PyProof.Rows.boot_min (as_cons (a_vw (pv 6)) (as_cons (a_of (v_int)) as_nil))) (v_int))) (as_nil)))) (pin_set (by decide)))
    (b_cons (s_set sc_law.nd rfl (Or.inl rfl) (v_lst (vs_cons (v_str) (vs_cons (v_int) (vs_cons (v_bl) (vs_nil))))) (pin_set (by decide)))
    (b_cons (s_forget [4, 9] (s_if (t_w (w_and (t_le (a_vw (pv 7)) (a_of (v_int))) (w_one (t_lt (a_vw (pv 6)) (a_of (v_int)))))) (b_cons (s_set sc_law.nd rfl (Or.inr rfl) (v_lrg1 rfl rfl T.z_list rfl T.z_range (v_rd (pv 2))) (pin_set (by decide)))
    (b_cons (s_for PassesOwn.never rfl (i_range1 rfl T.z_range (vs_cons (v_rd (pv 6)) (vs_nil))) (g_name (pg_name (i := 3) sc_law.nd rfl (Or.inl rfl)) (pin_set (by decide))) (b_one (s_forget [4] (s_set sc_law.nd rfl (Or.inr rfl) (c_call C__law_flat bd__law_flat_0 (by decide) hr (by decide) hgd pass0 rfl (as_cons (a_of (v_comp rfl sc_law.nd (i_seq (v_rd (pv 8))) (own := [("own", 14)]) (blkOk_by (by kernel_rfl)) (fun _ _ _ _ _ _ => g_name (pg_name (i := 14) sc_law.nd rfl (Or.inr rfl)) (blk_stays (by decide))) (fun _ _ _ _ _ => pts_no) (fun _ _ _ _ _ => v_comp rfl sc_law.nd (i_range1 rfl T.z_range (vs_cons (v_rd (pv 2)) (vs_nil))) (own := [("x", 4)]) (blkOk_by (by kernel_rfl)) (fun _ _ _ _ _ _ => g_name (pg_name (i := 4) sc_law.nd rfl (Or.inl rfl)) (blk_stays (by decide))) (fun _ _ _ _ _ => pts_no) (fun _ _ _ _ _ => v_mod (a_of (v_callTy call_int1 s_int rfl T.z_int PyProof.Rows.boot_int (as_cons (a_of (v_add (v_rd (pv 14)) (v_rd (pv 4)))) as_nil))) (a_vw (pv 2)))))) (as_nil))) (pin_set (by decide))))))
    (b_one (s_forget [4, 9] (s_set sc_law.nd rfl (Or.inl rfl) (v_callT1 call_tuple_of c_tup rfl T.z_tuple PyProof.Rows.boot_tuple (v_comp rfl sc_law.nd (i_range1 rfl T.z_range (vs_cons (v_rd (pv 2)) (vs_nil))) (own := [("i", 9)]) (blkOk_by (by kernel_rfl)) (fun _ _ _ _ _ _ => g_name (pg_name (i := 9) sc_law.nd rfl (Or.inr rfl)) (blk_stays (by decide))) (fun _ _ _ _ _ => pts_no) (fun _ _ _ _ _ => v_callT1 call_tuple_of c_tup rfl T.z_tuple PyProof.Rows.boot_tuple (v_comp rfl sc_law.nd (i_enum rfl T.z_enumerate (vs_cons (v_rd (pv 8)) (vs_nil))) (own := [("x", 4), ("own", 14)]) (blkOk_by (by kernel_rfl)) (fun _ _ _ _ _ _ => g_row rfl (gs_cons (g_name (pg_name (i := 4) sc_law.nd rfl (Or.inl rfl)) (blk_stays (by decide))) (gs_cons (g_name (pg_name (i := 14) sc_law.nd rfl (Or.inl rfl)) (blk_stays (by decide))) (gs_nil)))) (fun _ _ _ _ _ => pts_if (t_eq hr (a_vw (pv 14)) (a_vw (pv 9)))) (fun _ _ _ _ _ => v_rd (pv 4)))))) (pin_set (by decide))))))) (b_nil)))
    (b_cons (s_if (t_ne hr (a_of (v_callB (cr_repr hr hgd) s_repr rfl T.z_repr PyProof.Rows.boot_repr (as_cons (a_of (v_lst (vs_cons (c_call C__law_told bd__law_told_0 (by decide) hr (by decide) hgd pass0 rfl (as_cons (a_of (v_rd (pv 2))) (as_cons (a_of (v_rd (pv 6))) (as_cons (a_of (v_bl)) (as_nil))))) (vs_cons (c_call C__law_told bd__law_told_0 (by decide) hr (by decide) hgd pass0 rfl (as_cons (a_of (v_rd (pv 2))) (as_cons (a_of (v_rd (pv 6))) (as_cons (a_of (v_bl)) (as_nil))))) (vs_nil))))) as_nil))) (a_of (v_callB (cr_repr hr hgd) s_repr rfl T.z_repr PyProof.Rows.boot_repr (as_cons (a_of (v_lst (vs_cons (v_rd (pv 5)) (vs_cons (v_rd (pv 5)) (vs_nil))))) as_nil)))) (b_one (s_ret (v_bl))) (b_nil))
    (b_cons (s_if (t_val (v_isi (T := .lst) PyProof.Rows.boot_list (by decide) rfl T.z_isinstance rfl T.z_list (a_vw (pv 5)))) (b_one (s_ret (v_bl))) (b_nil))
    (b_cons (s_asg (v_slice (c_call C__law_order bd__law_order_0 (by decide) hr (by decide) hgd pass0 rfl (as_cons (a_vw (pv 1)) (as_cons (a_of (v_lrg1 rfl rfl T.z_list rfl T.z_range (v_rd (pv 2)))) (as_nil)))) p_none (p_some (v_int))) (g_row rfl (gs_cons (g_name (pg_name (i := 9) sc_law.nd rfl (Or.inl rfl)) (pin_set (by decide))) (gs_cons (g_name (pg_name (i := 10) sc_law.nd rfl (Or.inl rfl)) (pin_set (by decide))) (gs_nil)))))
    (b_cons (s_set sc_law.nd rfl (Or.inl rfl) (v_lst (vs_cons (v_mulE (v_lst (vs_cons (v_int) (vs_nil))) (v_callB call_len_seq s_len rfl T.z_len PySem.boot_len (as_cons (a_of (v_subN hr (pv 5) (v_rd (pv 9)) (fun _ _ => rfl))) as_nil))) (vs_cons (v_mulE (v_lst (vs_cons (v_int) (vs_nil))) (v_callB call_len_seq s_len rfl T.z_len PySem.boot_len (as_cons (a_of (v_subN hr (pv 5) (v_rd (pv 10)) (fun _ _ => rfl))) as_nil))) (vs_nil)))) (pin_set (by decide)))
    (b_cons (s_for PassesOwn.never rfl (i_range1 rfl T.z_range (vs_cons (v_add (v_rd (pv 6)) (v_int)) (vs_nil))) (g_name (pg_name (i := 12) sc_law.nd rfl (Or.inl rfl)) (pin_set (by decide))) (b_cons (s_if (t_ne hr (a_of (v_callB (cr_sumX rfl) s_sum rfl T.z_sum PyProof.Rows.boot_sum (as_cons (a_of (v_subN hr (pv 11) (v_int) (fun _ _ => rfl))) as_nil))) (a_of (v_callB (cr_sumX rfl) s_sum rfl T.z_sum PyProof.Rows.boot_sum (as_cons (a_of (v_subN hr (pv 11) (v_int) (fun _ _ => rfl))) as_nil)))) (b_one (s_ret (v_bl))) (b_nil))
    (b_one (s_forget [4] (s_setLc rfl sc_law.nd rfl rfl (sw_true rfl rfl rfl (by decide +kernel)) (i_zip rfl T.z_zip (vs_cons (v_rd (pv 11)) (vs_cons (v_tup (vs_cons (v_subN hr (pv 5) (v_rd (pv 9)) (fun _ _ => rfl)) (vs_cons (v_subN hr (pv 5) (v_rd (pv 10)) (fun _ _ => rfl)) (vs_nil)))) (vs_nil)))) (own := [("row", 15), ("lot", 16)]) (blkOk_by (by kernel_rfl)) (fun _ _ _ _ _ _ => g_row rfl (gs_cons (g_name (pg_name (i := 15) sc_law.nd rfl (Or.inl rfl)) (blk_stays (by decide))) (gs_cons (g_name (pg_name (i := 16) sc_law.nd rfl (Or.inl rfl)) (blk_stays (by decide))) (gs_nil)))) (fun _ _ _ _ _ => pts_no) (fun _ _ _ _ _ => v_comp rfl sc_law.nd (i_zip rfl T.z_zip (vs_cons (v_rd (pv 15)) (vs_cons (v_rd (pv 16)) (vs_nil)))) (own := [("a", 17), ("x", 4)]) (blkOk_by (by kernel_rfl)) (fun _ _ _ _ _ _ => g_row rfl (gs_cons (g_name (pg_name (i := 17) sc_law.nd rfl (Or.inl rfl)) (blk_stays (by decide))) (gs_cons (g_name (pg_name (i := 4) sc_law.nd rfl (Or.inl rfl)) (blk_stays (by decide))) (gs_nil)))) (fun _ _ _ _ _ => pts_no) (fun _ _ _ _ _ => v_mulE (v_rd (pv 17)) (v_rd (pv 4)))) (pin_set (by decide)))))))
    (b_cons (s_if (t_gt (a_of (v_callB call_len_seq s_len rfl T.z_len PySem.boot_len (as_cons (a_of (v_subN hr (pv 5) (v_int) (fun _ _ => rfl))) as_nil))) (a_of (v_int))) (b_one (s_ret (v_bl))) (b_nil))
    (b_cons (s_set sc_law.nd rfl (Or.inl rfl) (c_call C_agree_to bd_agree_to_0 (by decide) hr (by decide) hgd pass0 rfl (as_cons (a_of (v_subN hr (pv 5) (v_rd (pv 9)) (fun _ _ => rfl))) (as_cons (a_of (v_subN hr (pv 5) (v_rd (pv 10)) (fun _ _ => rfl))) (as_nil)))) (pin_set (by decide)))
    (b_one (s_ret (v_and (v_ge (a_vw (pv 13)) (a_vw (pv 6))) (v_one (v_or (v_gt (a_vw (pv 2)) (a_of (v_int))) (v_one (v_eq hr (a_vw (pv 13)) (a_vw (pv 6)))))))))))))))))))))))
end
theorem all_mk {l : PySem.W.OpenLaw} {w : World} {K : PySem.W.Frag} {h : Heap} {mg : Str → Option Value} {fa f1 f2 f3 f4 f5 f6 f7 f8 f9 f10 f11 f12 : Addr} (X : K.In h) (G : h.Ns mainGlobals mg) (hfa : mg "law" = some (.ref fa))
    {od1 an1 od2 an2 od3 an3 od4 an4 od5 an5 od6 an6 od7 an7 od8 an8 od9 an9 od10 an10 od11 an11 od12 an12 : Option Addr} {sl1 sl2 sl3 sl4 sl5 sl6 sl7 sl8 sl9 sl10 sl11 sl12 : Array (Option Value)} {oc1 kV1 dc1 pm1 cd1 ct1 oc2 kV2 dc2 pm2 cd2 ct2 oc3 kV3 dc3 pm3 cd3 ct3 oc4 kV4 dc4 pm4 cd4 ct4 oc5 kV5 dc5 pm5 cd5 ct5 oc6 kV6 dc6 pm6 cd6 ct6 oc7 kV7 dc7 pm7 cd7 ct7 oc8 kV8 dc8 pm8 cd8 ct8 oc9 kV9 dc9 pm9 cd9 ct9 oc10 kV10 dc10 pm10 cd10 ct10 oc11 kV11 dc11 pm11 cd11 ct11 oc12 kV12 dc12 pm12 cd12 ct12 : Value}
    (a1 : PySem.W.nsIn K mainGlobals "digit_place" = some (some (.ref f1))) (l1 : K.lookup f1 = some ⟨oc1, od1, .func (PySem.W.fnOf "digit_place" "digit_place" (defArgs s_digit_place) (defBody s_digit_place) (defScope s_digit_place) .none kV1 dc1 pm1 an1 cd1 ct1), sl1⟩) (c1 : PySem.W.codeIn K cd1 "digit_place" = true) (k1 : PySem.W.keepIn K (.ref f1) = true)
    (a2 : PySem.W.nsIn K mainGlobals "digit_lots" = some (some (.ref f2))) (l2 : K.lookup f2 = some ⟨oc2, od2, .func (PySem.W.fnOf "digit_lots" "digit_lots" (defArgs s_digit_lots) (defBody s_digit_lots) (defScope s_digit_lots) .none kV2 dc2 pm2 an2 cd2 ct2), sl2⟩) (c2 : PySem.W.codeIn K cd2 "digit_lots" = true) (k2 : PySem.W.keepIn K (.ref f2) = true)
    (a3 : PySem.W.nsIn K mainGlobals "agree_to" = some (some (.ref f3))) (l3 : K.lookup f3 = some ⟨oc3, od3, .func (PySem.W.fnOf "agree_to" "agree_to" (defArgs s_agree_to) (defBody s_agree_to) (defScope s_agree_to) .none kV3 dc3 pm3 an3 cd3 ct3), sl3⟩) (c3 : PySem.W.codeIn K cd3 "agree_to" = true) (k3 : PySem.W.keepIn K (.ref f3) = true)
    (a4 : PySem.W.nsIn K mainGlobals "_law_pot" = some (some (.ref f4))) (l4 : K.lookup f4 = some ⟨oc4, od4, .func (PySem.W.fnOf "_law_pot" "_law_pot" (defArgs s__law_pot) (defBody s__law_pot) (defScope s__law_pot) .none kV4 dc4 pm4 an4 cd4 ct4), sl4⟩) (c4 : PySem.W.codeIn K cd4 "_law_pot" = true) (k4 : PySem.W.keepIn K (.ref f4) = true)
    (a5 : PySem.W.nsIn K mainGlobals "_law_of" = some (some (.ref f5))) (l5 : K.lookup f5 = some ⟨oc5, od5, .func (PySem.W.fnOf "_law_of" "_law_of" (defArgs s__law_of) (defBody s__law_of) (defScope s__law_of) .none kV5 dc5 pm5 an5 cd5 ct5), sl5⟩) (c5 : PySem.W.codeIn K cd5 "_law_of" = true) (k5 : PySem.W.keepIn K (.ref f5) = true)
    (a6 : PySem.W.nsIn K mainGlobals "_law_one" = some (some (.ref f6))) (l6 : K.lookup f6 = some ⟨oc6, od6, .func (PySem.W.fnOf "_law_one" "_law_one" (defArgs s__law_one) (defBody s__law_one) (defScope s__law_one) .none kV6 dc6 pm6 an6 cd6 ct6), sl6⟩) (c6 : PySem.W.codeIn K cd6 "_law_one" = true) (k6 : PySem.W.keepIn K (.ref f6) = true)
    (a7 : PySem.W.nsIn K mainGlobals "_law_order" = some (some (.ref f7))) (l7 : K.lookup f7 = some ⟨oc7, od7, .func (PySem.W.fnOf "_law_order" "_law_order" (defArgs s__law_order) (defBody s__law_order) (defScope s__law_order) .none kV7 dc7 pm7 an7 cd7 ct7), sl7⟩) (c7 : PySem.W.codeIn K cd7 "_law_order" = true) (k7 : PySem.W.keepIn K (.ref f7) = true)
    (a8 : PySem.W.nsIn K mainGlobals "_law_flat" = some (some (.ref f8))) (l8 : K.lookup f8 = some ⟨oc8, od8, .func (PySem.W.fnOf "_law_flat" "_law_flat" (defArgs s__law_flat) (defBody s__law_flat) (defScope s__law_flat) .none kV8 dc8 pm8 an8 cd8 ct8), sl8⟩) (c8 : PySem.W.codeIn K cd8 "_law_flat" = true) (k8 : PySem.W.keepIn K (.ref f8) = true)
    (a9 : PySem.W.nsIn K mainGlobals "_law_raised" = some (some (.ref f9))) (l9 : K.lookup f9 = some ⟨oc9, od9, .func (PySem.W.fnOf "_law_raised" "_law_raised" (defArgs s__law_raised) (defBody s__law_raised) (defScope s__law_raised) .none kV9 dc9 pm9 an9 cd9 ct9), sl9⟩) (c9 : PySem.W.codeIn K cd9 "_law_raised" = true) (k9 : PySem.W.keepIn K (.ref f9) = true)
    (a10 : PySem.W.nsIn K mainGlobals "_law_place" = some (some (.ref f10))) (l10 : K.lookup f10 = some ⟨oc10, od10, .func (PySem.W.fnOf "_law_place" "_law_place" (defArgs s__law_place) (defBody s__law_place) (defScope s__law_place) .none kV10 dc10 pm10 an10 cd10 ct10), sl10⟩) (c10 : PySem.W.codeIn K cd10 "_law_place" = true) (k10 : PySem.W.keepIn K (.ref f10) = true)
    (a11 : PySem.W.nsIn K mainGlobals "_law_told" = some (some (.ref f11))) (l11 : K.lookup f11 = some ⟨oc11, od11, .func (PySem.W.fnOf "_law_told" "_law_told" (defArgs s__law_told) (defBody s__law_told) (defScope s__law_told) .none kV11 dc11 pm11 an11 cd11 ct11), sl11⟩) (c11 : PySem.W.codeIn K cd11 "_law_told" = true) (k11 : PySem.W.keepIn K (.ref f11) = true)
    (a12 : PySem.W.nsIn K mainGlobals "law" = some (some (.ref f12))) (l12 : K.lookup f12 = some ⟨oc12, od12, .func (PySem.W.fnOf "law" "law" (defArgs s_law) (defBody s_law) (defScope s_law) .none kV12 dc12 pm12 an12 cd12 ct12), sl12⟩) (c12 : PySem.W.codeIn K cd12 "law" = true) (k12 : PySem.W.keepIn K (.ref f12) = true)
    (z_abs : PySem.W.nsIn K mainGlobals "abs" = some none) (z_enumerate : PySem.W.nsIn K mainGlobals "enumerate" = some none) (z_int : PySem.W.nsIn K mainGlobals "int" = some none) (z_isinstance : PySem.W.nsIn K mainGlobals "isinstance" = some none) (z_len : PySem.W.nsIn K mainGlobals "len" = some none) (z_list : PySem.W.nsIn K mainGlobals "list" = some none) (z_min : PySem.W.nsIn K mainGlobals "min" = some none) (z_range : PySem.W.nsIn K mainGlobals "range" = some none) (z_repr : PySem.W.nsIn K mainGlobals "repr" = some none) (z_sum : PySem.W.nsIn K mainGlobals "sum" = some none) (z_tuple : PySem.W.nsIn K mainGlobals "tuple" = some none) (z_zip : PySem.W.nsIn K mainGlobals "zip" = some none) {t_MAX_DIGITED : Tok} (g_MAX_DIGITED : PySem.W.nsIn K mainGlobals "MAX_DIGITED" = some (some (.int 1024 t_MAX_DIGITED)))
    {S : Addr} (aS : PySem.W.nsIn K mainGlobals "SumError" = some (some (.ref S))) (zsup : PySem.W.nsIn K mainGlobals "super" = some none) (opq : PySem.W.nsIn K cStatics "thirdparty.any" = some none) (tops : (l.prog.main.scope.names.lookup ("super" : Str)).isSome = false)
    (hnC : PySem.W.specialIn K (.builtin "object.__class__") "__get__" = some (some (.builtin "getset_descriptor.__get__"))) (htC : PySem.W.takesIn K (.builtin "object.__class__") = some true)
    {C_TooMany I_TooMany N_TooMany ca_TooMany cc_TooMany : Addr} {nm_TooMany q_TooMany : Str} {bs_TooMany : List Value} {sn_TooMany : List Str} {sub_TooMany : List Value} {ab_TooMany : Bool} {col_TooMany : Option Bool} {dd_TooMany od_TooMany an_TooMany x2_TooMany y2_TooMany : Option Addr} {m0_TooMany m1_TooMany m2_TooMany m3_TooMany m5_TooMany : Option Value} {oc_TooMany doc_TooMany pm_TooMany ct_TooMany x1_TooMany y1_TooMany : Value} {sl_TooMany x3_TooMany y3_TooMany : Array (Option Value)} {vs_TooMany : Array Value} {fl_TooMany : Str} {tf_TooMany : Tok}
    (kA_TooMany : PySem.W.nsIn K mainGlobals "TooMany" = some (some (.ref C_TooMany))) (kL_TooMany : K.lookup C_TooMany = some (excClassObj nm_TooMany q_TooMany C_TooMany N_TooMany bs_TooMany [.ref S, .type "ValueError", .type "Exception", .type "BaseException", .type "object"] true sn_TooMany sub_TooMany ab_TooMany col_TooMany dd_TooMany m0_TooMany m1_TooMany m2_TooMany m3_TooMany m5_TooMany "ValueError.__new__")) (kS_TooMany : PySem.W.findIn K (.ref C_TooMany) "__setattr__" = some (some (.builtin "object.__setattr__"))) (kG_TooMany : PySem.W.findIn K (.ref C_TooMany) "__getattribute__" = some (some (.builtin "BaseException.__getattribute__"))) (kH_TooMany : PySem.W.findIn K (.ref C_TooMany) "__getattr__" = some none) (kI_TooMany : PySem.W.findIn K (.ref C_TooMany) "__init__" = some (some (.ref I_TooMany))) (kT_TooMany : PySem.W.typeIn K (.ref I_TooMany) = some (.type "function")) (kK_TooMany : PySem.W.keepIn K (.ref C_TooMany) = true) (kE_TooMany : PySem.W.subIn K (.ref C_TooMany) (.type "BaseException") = some true) (kV_TooMany : PySem.W.subIn K (.ref C_TooMany) (.type "ValueError") = some true) (kY_TooMany : PySem.W.typeIn K (.ref C_TooMany) = some (.type "type")) (kD_TooMany : PySem.W.hasDictIn K C_TooMany = true) (kM_TooMany : PySem.W.mroIn K C_TooMany (.ref C_TooMany) = some true) (kO_TooMany : PySem.W.mroIn K C_TooMany (.type "object") = some true) (kU_TooMany : PySem.W.ks_superIn K C_TooMany C_TooMany "__init__" = some (some (.builtin "ValueError.__init__"))) (kX_TooMany : PySem.W.subIn K (.ref C_TooMany) (.ref C_TooMany) = some true) (kC_TooMany : PySem.W.findIn K (.ref C_TooMany) "__class__" = some (some (.builtin "object.__class__"))) (kW_TooMany : PySem.W.kitOne K (.ref C_TooMany) (.ref S) = some true) (kF_TooMany : K.lookup I_TooMany = some ⟨oc_TooMany, od_TooMany, .func (PySem.W.ksFn "__init__" "TooMany.__init__" (agsO "limit" ⟨7, 17, 7, 21⟩ ⟨7, 23, 7, 28⟩) (bdO "limit" ⟨8, 8, 8, 13⟩ ⟨8, 8, 8, 15⟩ ⟨8, 8, 8, 24⟩ ⟨8, 8, 8, 31⟩ ⟨8, 8, 8, 31⟩ ⟨8, 25, 8, 30⟩ ⟨9, 8, 9, 12⟩ ⟨9, 8, 9, 18⟩ ⟨9, 21, 9, 26⟩ ⟨9, 8, 9, 26⟩) (scO "limit") .none .none doc_TooMany pm_TooMany an_TooMany (.ref ca_TooMany) ct_TooMany cc_TooMany), sl_TooMany⟩) (kP_TooMany : PySem.W.codeIn K (.ref ca_TooMany) "TooMany.__init__" = true) (kQ_TooMany : K.lookup cc_TooMany = some ⟨x1_TooMany, x2_TooMany, .cell (some (.ref C_TooMany)), x3_TooMany⟩) (kR_TooMany : K.lookup ca_TooMany = some ⟨y1_TooMany, y2_TooMany, .fields vs_TooMany, y3_TooMany⟩) (kZ_TooMany : vs_TooMany[2]? = some (.str fl_TooMany tf_TooMany)) (kJ_TooMany : ((l.prog.main.file : Str) == fl_TooMany) = true) (kN_TooMany : PySem.W.findIn K (.ref C_TooMany) "limit" = some none) :
    ∃ fd : FuncData, (∀ (s : Shared) (v : Value), BindsTo s fd ⟨[v], []⟩ [("script", v)]) ∧ ∀ base : Heap, K.In base → base.Ns mainGlobals mg → FnG l.prog w K mg base 4 fa fd ["script"] [] F_law := by
  have e := hfa.symm.trans (PySem.W.mg_of X G a12)
  cases e
  have T : Txt mg := ⟨PySem.W.mg_none_of X G z_abs, PySem.W.mg_none_of X G z_enumerate, PySem.W.mg_none_of X G z_int, PySem.W.mg_none_of X G z_isinstance, PySem.W.mg_none_of X G z_len, PySem.W.mg_none_of X G z_list, PySem.W.mg_none_of X G z_min, PySem.W.mg_none_of X G z_range, PySem.W.mg_none_of X G z_repr, PySem.W.mg_none_of X G z_sum, PySem.W.mg_none_of X G z_tuple, PySem.W.mg_none_of X G z_zip, ⟨_, PySem.W.mg_of X G g_MAX_DIGITED⟩⟩
  have E_TooMany : ECls K C_TooMany I_TooMany := ⟨⟨_, _, _, _, _, _, _, _, _, _, _, _, _, _, _, kL_TooMany, by first | rfl | kernel_rfl⟩, kS_TooMany, kG_TooMany, kH_TooMany, kI_TooMany, kT_TooMany, kK_TooMany, kE_TooMany, kV_TooMany, kY_TooMany, kD_TooMany, kM_TooMany, kU_TooMany, opq⟩
  have D_TooMany : ETx l.prog w K mg "TooMany" (some "limit") C_TooMany := ⟨PySem.W.mg_of X G kA_TooMany, PySem.W.mg_none_of X G zsup, ⟨I_TooMany, E_TooMany, ini_TooMany E_TooMany ⟨⟨_, _, _, _, _, _, _, _, _, kF_TooMany, kP_TooMany, ⟨_, _, _, kQ_TooMany⟩, ⟨_, _, _, _, _, _, kR_TooMany, kZ_TooMany, kJ_TooMany⟩⟩, tops⟩ kN_TooMany⟩, fun f h => by cases h; exact kN_TooMany⟩
  have TC : Tcl l.prog w K mg := ⟨⟨_, D_TooMany⟩, ⟨_, _, ⟨PySem.W.mg_of X G kA_TooMany, PySem.W.exm_ref kE_TooMany kD_TooMany kY_TooMany kX_TooMany, ⟨kG_TooMany, kH_TooMany, kE_TooMany, kD_TooMany⟩, kC_TooMany, hnC, htC, kO_TooMany, kW_TooMany, PySem.W.mg_of X G aS⟩, kN_TooMany⟩⟩
  have U1 := fun_mk (x := "digit_place") (qual := "digit_place") (st := s_digit_place) l1 c1 k1
  have U2 := fun_mk (x := "digit_lots") (qual := "digit_lots") (st := s_digit_lots) l2 c2 k2
  have U3 := fun_mk (x := "agree_to") (qual := "agree_to") (st := s_agree_to) l3 c3 k3
  have U4 := fun_mk (x := "_law_pot") (qual := "_law_pot") (st := s__law_pot) l4 c4 k4
  have U5 := fun_mk (x := "_law_of") (qual := "_law_of") (st := s__law_of) l5 c5 k5
  have U6 := fun_mk (x := "_law_one") (qual := "_law_one") (st := s__law_one) l6 c6 k6
  have U7 := fun_mk (x := "_law_order") (qual := "_law_order") (st := s__law_order) l7 c7 k7
  have U8 := fun_mk (x := "_law_flat") (qual := "_law_flat") (st := s__law_flat) l8 c8 k8
  have U9 := fun_mk (x := "_law_raised") (qual := "_law_raised") (st := s__law_raised) l9 c9 k9
  have U10 := fun_mk (x := "_law_place") (qual := "_law_place") (st := s__law_place) l10 c10 k10
  have U11 := fun_mk (x := "_law_told") (qual := "_law_told") (st := s__law_told) l11 c11 k11
  have U12 := fun_mk (x := "law") (qual := "law") (st := s_law) l12 c12 k12
  refine ⟨PySem.W.fnOf "law" "law" (defArgs s_law) (defBody s_law) (defScope s_law) .none kV12 dc12 pm12 an12 cd12 ct12, fun s v => .of_eq rfl, fun base _ _ => ?_⟩
  have C_digit_place : ∀ base, Cal l.prog w K mg base 1 "digit_place" s_digit_place ["base", "x"] [] F_digit_place := fun base => ⟨_, _, ok_digit_place T U1, U1, PySem.W.mg_of X G a1⟩
  have C_digit_lots : ∀ base, CaX l.prog w K mg base 2 "digit_lots" s_digit_lots ["base", "k"] F_digit_lots := fun base => ⟨_, _, ok_digit_lots T U2 TC (C_digit_place base), U2, PySem.W.mg_of X G a2⟩
  have C_agree_to : ∀ base, Cal l.prog w K mg base 1 "agree_to" s_agree_to ["one", "other"] [] F_agree_to := fun base => ⟨_, _, ok_agree_to T U3, U3, PySem.W.mg_of X G a3⟩
  have C__law_pot : ∀ base, Cal l.prog w K mg base 1 "_law_pot" s__law_pot ["script"] [] F__law_pot := fun base => ⟨_, _, ok__law_pot T U4, U4, PySem.W.mg_of X G a4⟩
  have C__law_of : ∀ base, Cal l.prog w K mg base 1 "_law_of" s__law_of ["pot", "many"] [0] F__law_of := fun base => ⟨_, _, ok__law_of T U5, U5, PySem.W.mg_of X G a5⟩
  have C__law_one : ∀ base, Cal l.prog w K mg base 2 "_law_one" s__law_one ["pot", "items"] [0] F__law_one := fun base => ⟨_, _, ok__law_one T U6 (C__law_of base), U6, PySem.W.mg_of X G a6⟩
  have C__law_order : ∀ base, Cal l.prog w K mg base 2 "_law_order" s__law_order ["pot", "row"] [0] F__law_order := fun base => ⟨_, _, ok__law_order T U7 (C__law_of base), U7, PySem.W.mg_of X G a7⟩
  have C__law_flat : ∀ base, Cal l.prog w K mg base 1 "_law_flat" s__law_flat ["rows"] [] F__law_flat := fun base => ⟨_, _, ok__law_flat T U8, U8, PySem.W.mg_of X G a8⟩
  have C__law_raised : ∀ base, Cal l.prog w K mg base 1 "_law_raised" s__law_raised ["number", "often"] [] F__law_raised := fun base => ⟨_, _, ok__law_raised T U9, U9, PySem.W.mg_of X G a9⟩
  have C__law_place : ∀ base, Cal l.prog w K mg base 1 "_law_place" s__law_place ["base", "x"] [] F__law_place := fun base => ⟨_, _, ok__law_place T U10, U10, PySem.W.mg_of X G a10⟩
  have C__law_told : ∀ base, Cal l.prog w K mg base 3 "_law_told" s__law_told ["base", "k", "is_named"] [] F__law_told := fun base => ⟨_, _, ok__law_told T U11 TC (C_digit_lots base), U11, PySem.W.mg_of X G a11⟩
  exact ok_law T U12 (C__law_flat base) (C__law_of base) (C__law_one base) (C__law_order base) (C__law_place base) (C__law_pot base) (C__law_raised base) (C__law_told base) (C_agree_to base) (C_digit_place base)
theorem walk {l : PySem.W.OpenLaw} {q : Program} {loose : List Str} {XP : (Str → Option Value) → Heap → Prop} {YP : World → Heap → Prop} {d : DefRec} {K : Params → PySem.W.Frag} (hn : l.most = some 63) (hdf : d.params.defaults = []) (hY : ∀ (w : World) (h : Heap), YP w h → (K w.params).In h)
    (hT : ∀ ns : List Int, ns.length ≤ 63 → ∃ kz ρ, F_law [scr ns] = .ok (kz, .bl true) ρ)
    (F : ∀ (w : World) (mg : Str → Option Value) (fa : Addr) (h : Heap), (K w.params).In h → h.Ns mainGlobals mg → mg d.name = some (.ref fa) →
      ∃ fd : FuncData, (∀ (s : Shared) (u : Value), BindsTo s fd ⟨[u], []⟩ [("script", u)]) ∧ ∀ base : Heap, (K w.params).In base → base.Ns mainGlobals mg → FnG l.prog w (K w.params) mg base 4 fa fd ["script"] [] F_law) :
    PySem.W.WalkO q loose XP YP l.row.toRowW d [] (fun f vs => PySem.call f vs) :=
  walk_G (n := 63) (k := 4) hn (by decide) hdf ⟨rfl, by decide, by decide⟩ hY F hT
end Lk63
set_option Elab.async false
set_option linter.all false
set_option maxRecDepth 100000
set_option maxHeartbeats 1000000
namespace Lk63
open PySem PySem.Spec PyProof.Rows L2 Vs Ts
/-! the pot (list kind) -/
structure Dk where
  gs : List Int
  few : gs.length < 1000
  m : Int
  t : Int
abbrev potD (gs : List Int) (m t : Int) : D := .lst [.lst (gs.map D.int), .int m, .int t]
def Dk.d (k : Dk) : D := potD k.gs k.m k.t
instance : Inhabited Dk := ⟨⟨[], by decide, 0, 0⟩⟩
theorem lg256 : Nat.log2 256 < 9000 := by decide +kernel
theorem mulOk_mod {x n y : Int} (h0 : 0 < n) (h1 : n < 2 ^ 63) : mulOk (x % n) y = true := mulOk_l (mod_small x h0 h1)
/-- what is drawn anew -/
def hashN (m t many : Int) : Int :=
  ((((m + (t + 1) * 2654435761) % 4294967279 * ((m + (t + 1) * 2654435761) % 4294967279) + (t + 1) * 40503 + 5) % 4294967231) * (((m + (t + 1) * 2654435761) % 4294967279 * ((m + (t + 1) * 2654435761) % 4294967279) + (t + 1) * 40503 + 5) % 4294967231) + m) % 4294967291 / 256 % many
theorem draw_small (gs : List Int) (m t many : Int) (k l : Nat) (h : many < 2) : F__law_of [(k, potD gs m t), (l, .int many)] = .ok (9, .int 0) [.c k (potD gs m t), .c l (.int many), .u, .u] := by
  simp [lineN, gets, Ar.get, oI2, oB2, oSub, oMod, oDiv, oPow, oI2c, oLt, oLe, oGt, oGe, o1, addD, mulD, idxO, idxD, subI, viewI, keyOfD, lookK, setK, lvl, up, pickL, takeA, backA, wipeC, backC, lv, rangeD, rgOk, partsR, divOk, modOk, fInt, fLen, tupD, lstD, sliceD, enumR, zipR, rowD, enumD, zipD, rg2, rg3, rg4, rg5, F__law_of, fnRun, m__law_of, h]
theorem draw_great (gs : List Int) (g m t many : Int) (k l : Nat) (h : ¬ many < 2) (hb : many.natAbs.log2 < 9000) (hl : gs.length < 999) : Ok (F__law_of [(k + 9, potD (gs ++ [g]) m t), (l, .int many)]) fun z ρ => z = (9, .int (g % many)) ∧ ∃ k' c2 c3, ρ = [.c k' (potD (if many ≤ g then gs ++ [g / many] else gs) m t), .c l (.int many), c2, c3] ∧ 9 ≤ k' := by
  have h0 : (0 : Int) < many := by omega
  have hl2 : gs.length < 16777216 := by omega
  by_cases hg : many ≤ g
  · refine ⟨?_⟩
    simp [lineN, OkD, F__law_of, fnRun, m__law_of, sSeq, sIf, M.bind, M.ret, asB, sop, two, vwOk, asAr, kc, gets, Ar.get, oLt, oB2, h, sRet, cmpP, plX, plN, qK, subT, atI, ixN, oNe, ne_app, mutP, isL, atP, liftP, lift1, moPop, qRow, sAsg, gN, oGe, hg, q2, qN, oDiv, oI2c, divOk, h0, hb, moAppend, sDrop, consAr, noAr, o1, oMod, modOk, sNx, hl2]
    omega
  · refine ⟨?_⟩
    simp [lineN, OkD, F__law_of, fnRun, m__law_of, sSeq, sIf, M.bind, M.ret, asB, sop, two, vwOk, asAr, kc, gets, Ar.get, oLt, oB2, h, sRet, cmpP, plX, plN, qK, subT, atI, ixN, oNe, ne_app, mutP, isL, atP, liftP, lift1, moPop, qRow, sAsg, gN, oGe, hg, q2, qN, oDiv, oI2c, divOk, h0, hb, moAppend, sDrop, consAr, noAr, o1, oMod, modOk, sNx]
theorem draw_hash (m t many : Int) (k l : Nat) (h : ¬ many < 2) : Ok (F__law_of [(k + 9, potD [] m t), (l, .int many)]) fun z ρ => z = (9, .int (hashN m t many)) ∧ ∃ k' c2 c3, ρ = [.c k' (potD [] m (t + 1)), .c l (.int many), c2, c3] ∧ 9 ≤ k' := by
  have h0 : (0 : Int) < many := by omega
  have ne0 := ne_nil []
  simp only [List.map_nil] at ne0
  refine ⟨?_⟩
  simp [lineN, OkD, F__law_of, fnRun, m__law_of, sSeq, sIf, M.bind, M.ret, asB, sop, two, vwOk, asAr, kc, gets, Ar.get, oLt, oB2, h, sRet, cmpP, plX, plN, qK, subT, atI, ixN, oNe, ne0, isL, qRow, sAsg, gN, oDiv, oI2c, divOk, h0, consAr, noAr, o1, oMod, modOk, sNx, opV, addD, mulD, mulE, subN, subI, viewI, gAt, putO, liftP, moPut, moSet, rd, lg256, mulOk_l, mulOk_r, mulOk_mod, hashN]
  omega
/-- the next number below many, and the pot behind -/
def drawV (p : Dk) (many : Int) : Int × Dk :=
  if many < 2 then (0, p) else match p.gs.getLast? with
    | none => (hashN p.m p.t many, ⟨[], by decide, p.m, p.t + 1⟩)
    | some g => (g % many, ⟨if many ≤ g then p.gs.dropLast ++ [g / many] else p.gs.dropLast, by have := p.few; split <;> (simp; omega), p.m, p.t⟩)
def t__law_of (p : Dk) (many : Int) : T (Int × Dk) := ⟨drawV p many, many < 2 ^ 200⟩
theorem draw_ge (p : Dk) {many : Int} (h : 0 < many) : 0 ≤ (drawV p many).1 := by
  unfold drawV
  split
  · exact Int.le_refl 0
  · cases p.gs.getLast? with
    | none => exact Int.emod_nonneg _ (by omega)
    | some g => exact Int.emod_nonneg _ (by omega)
theorem draw_lt (p : Dk) {many : Int} (h : 0 < many) : (drawV p many).1 < many := by
  unfold drawV
  split
  · exact h
  · cases p.gs.getLast? with
    | none => exact Int.emod_lt_of_pos _ h
    | some g => exact Int.emod_lt_of_pos _ h
theorem sp__law_of (p : Dk) (many : Int) (hg : (t__law_of p many).g) : Sp F__law_of [(9, Dk.d p), (0, eI many)] 9 (eI (t__law_of p many).v.1) [(0, 9, Dk.d (t__law_of p many).v.2)] := ⟨fun xs hx => by
  cases hx with | cons h1 hx => cases hx with | cons h2 hx => cases hx with | nil =>
  rename_i k1 k2
  obtain ⟨k, rfl⟩ : ∃ k, k1 = k + 9 := ⟨k1 - 9, by omega⟩
  obtain ⟨gs, few, m, t⟩ := p
  have hlog : many.natAbs.log2 < 9000 ∨ many < 2 := by
    by_cases h : many < 2
    · exact .inr h
    · have : many < 2 ^ 200 := hg
      exact .inl (Nat.lt_trans (log2_lt (k := 200) (by omega) (by decide)) (by decide))
  by_cases h : many < 2
  · have q : drawV ⟨gs, few, m, t⟩ many = (0, ⟨gs, few, m, t⟩) := by simp [drawV, h]
    show ∃ k' ρ, _ = R.ok (k', D.int (drawV ⟨gs, few, m, t⟩ many).1) ρ ∧ 9 ≤ k' ∧ IoAt [(0, 9, Dk.d (drawV ⟨gs, few, m, t⟩ many).2)] ρ
    rw [q]
    refine ⟨9, _, draw_small gs m t many (k + 9) k2 h, Nat.le_refl _, fun q hq => ?_⟩
    rcases List.mem_cons.mp hq with rfl | hq
    · exact ⟨k + 9, rfl, by simp⟩
    · cases hq
  · have hlog' := hlog.resolve_right h
    rcases List.eq_nil_or_concat gs with rfl | ⟨gs', g, e⟩
    · obtain ⟨_, _, e, rfl, k', c2, c3, rfl, hk⟩ := (draw_hash m t many k k2 h).get
      have q : drawV ⟨[], few, m, t⟩ many = (hashN m t many, ⟨[], by decide, m, t + 1⟩) := by simp [drawV, h]
      show ∃ k' ρ, _ = R.ok (k', D.int (drawV ⟨[], few, m, t⟩ many).1) ρ ∧ 9 ≤ k' ∧ IoAt [(0, 9, Dk.d (drawV ⟨[], few, m, t⟩ many).2)] ρ
      rw [q]
      refine ⟨9, _, e, Nat.le_refl _, fun q hq => ?_⟩
      rcases List.mem_cons.mp hq with rfl | hq
      · exact ⟨k', rfl, hk⟩
      · cases hq
    · rw [List.concat_eq_append] at e
      subst e
      have few' : gs'.length < 999 := by simp at few; omega
      obtain ⟨_, _, e, rfl, k', c2, c3, rfl, hk⟩ := (draw_great gs' g m t many k k2 h hlog' few').get
      have few2 : (if many ≤ g then gs' ++ [g / many] else gs').length < 1000 := by
        split
        · simp; omega
        · omega
      have q : drawV ⟨gs' ++ [g], few, m, t⟩ many = (g % many, ⟨if many ≤ g then gs' ++ [g / many] else gs', few2, m, t⟩) := by simp [drawV, h]
      show ∃ k' ρ, _ = R.ok (k', D.int (drawV ⟨gs' ++ [g], few, m, t⟩ many).1) ρ ∧ 9 ≤ k' ∧ IoAt [(0, 9, Dk.d (drawV ⟨gs' ++ [g], few, m, t⟩ many).2)] ρ
      rw [q]
      refine ⟨9, _, e, Nat.le_refl _, fun q hq => ?_⟩
      rcases List.mem_cons.mp hq with rfl | hq
      · exact ⟨k', rfl, hk⟩
      · cases hq⟩
def potMk (gs : List Int) (m t : Int) : Dk := if h : gs.length < 1000 then ⟨gs, h, m, t⟩ else default
theorem cv_pot {gs : List Int} {m t : Int} (h : gs.length < 1000) : D.lst [eL eI gs, .int m, .int t] = Dk.d (potMk gs m t) := by simp [potMk, h, Dk.d, eL]
end Lk63
set_option Elab.async false
set_option linter.all false
set_option maxRecDepth 100000
set_option maxHeartbeats 4000000
namespace Lk63
open PySem PySem.Spec PyProof.Rows L2 Vs Ts
def t__law_pot (script_ : (List Int)) : T (Dk) :=
  T.lt ((List.length (cutL script_ none (some (63 : Int))) ≤ lineN)) ((List.map (fun (x1 : Int) => (((2 : Int) * (absI x1)) + (bI (decide (x1 < (0 : Int)))))) (cutL script_ none (some (63 : Int)))), ((19591 : Int) + ((71 : Int) * (List.length script_ : Int)))) fun (q2 : ((List Int) × Int)) =>
  T.lt (True) q2.1 fun (r6 : List Int) => T.bnd (T.fold (fun (s4 : Int) (x3 : Int) => T.lt (True) ((((s4 * (69069 : Int)) + x3) + (11 : Int)) % (4294967291 : Int)) fun (mixed_5 : Int) =>
  T.rt True mixed_5) r6 q2.2) fun (mixed_7 : Int) =>
  T.rt ((List.length q2.1 ≤ lineN) ∧ (List.length (List.map (fun (x8 : Int) => x8) (List.filter (fun (x8 : Int) => decide (x8 > ((10 : Int) ^ Int.toNat (12 : Int)))) q2.1)) < 1000)) (potMk (List.map (fun (x8 : Int) => x8) (List.filter (fun (x8 : Int) => decide (x8 > ((10 : Int) ^ Int.toNat (12 : Int)))) q2.1)) mixed_7 (0 : Int))
theorem sp__law_pot (script_ : (List Int)) (hg : (t__law_pot script_).g) : Sp F__law_pot [(0, (eR eI) script_)] 9 (Dk.d (t__law_pot script_).v) [] := by
  refine sp_of (t := t__law_pot script_) (en := (fun v => Dk.d v)) (io := (fun v => [])) (m := m__law_pot) hg ?_
  show Bt m__law_pot [.v 0 ((eR eI) script_), .u, .u, .u] _ _
  unfold m__law_pot t__law_pot
  exact (bt_step (fun (q2 : ((List Int) × Int)) => [.v 0 ((eR eI) script_), .v 9 ((eL eI) q2.1), .v 9 (eI q2.2), .u]) (fun h => (es_forget (es_par (e_comp (en := eI) (en' := eI) [.v 0 ((eR eI) script_), .u, .u, .u] (fun (x1 : Int) => (((2 : Int) * (absI x1)) + (bI (decide (x1 < (0 : Int)))))) (fun (x1 : Int) => True) (ei_L (e_slc (e_rdN rfl) ep_no (ep_as e_kc) sl_R)) h rfl (.v (Nat.le_refl _) (.u (.u (.u .nil)))) (fun _ _ => True.intro) (fun x1 => (eg_n rfl)) (fun x1 h => (e_opV (e_opV e_kc (e_sop (eas_cons (ea_vw rfl) eas_nil) rfl o_abs) (os_eI (mulOk_l (by decide)))) (e_sop (eas_cons (ea_of (e_sop (eas_two (ea_vw rfl) (ea_of e_kc)) rfl o_lt)) eas_nil) rfl o_intB) os_addI)) (fun x1 h => (.v (Nat.le_refl _) (.u (.u (.u .nil)))))) (e_opV e_kc (e_opV e_kc (e_sop (eas_cons (ea_vw rfl) eas_nil) rfl (o_lenR (e := eI) (xs := script_))) (os_eI (mulOk_l (by decide)))) os_addI) rfl))) (fun h => (.v (Nat.le_refl _) (.v (Nat.le_refl _) (.v (Nat.le_refl _) (.u .nil))))) (fun q2 =>
  (bt_for (en := eI) (fun (st_ : Int) => [.v 0 ((eR eI) script_), .v 0 ((eL eI) q2.1), .v 9 (eI st_), .f]) (fun h => (ei_L (e_rdN rfl))) (fun _ => (.v (Nat.le_refl _) (.v (Nat.le_refl _) (.v (Nat.le_refl _) (.fu .nil))))) (fun s4 x3 => (eg_n rfl)) (fun s4 x3 =>
  (bt_last (bt_step (fun (mixed_5 : Int) => [.v 0 ((eR eI) script_), .v 0 ((eL eI) q2.1), .v 9 (eI mixed_5), .v 0 (eI x3)]) (fun h => (es_asg (e_sop (eas_two (ea_of (e_opV (e_opV (e_opV (e_rdS rfl rfl) e_kc (os_eI (mulOk_r (by decide)))) (e_rdS rfl rfl) os_addI) e_kc os_addI)) (ea_of e_kc)) rfl (o_mod (by decide +kernel))) rfl)) (fun h => (.v (Nat.le_refl _) (.v (Nat.le_refl _) (.v (Nat.le_refl _) (.v (Nat.le_refl _) .nil))))) (fun mixed_5 =>
  (bt_endL (fun _ => (.v (Nat.le_refl _) (.v (Nat.le_refl _) (.v (Nat.le_refl _) (.fv rfl .nil)))))))))) (fun mixed_7 =>
  (bt_forget (bt_ret (f := fun v => v) (v := (potMk (List.map (fun (x8 : Int) => x8) (List.filter (fun (x8 : Int) => decide (x8 > ((10 : Int) ^ Int.toNat (12 : Int)))) q2.1)) mixed_7 (0 : Int))) ro_ret (fun h => (e_as (e_lst (evs_cons (e_compF (en := eI) (en' := eI) [.v 0 ((eR eI) script_), .v 0 ((eL eI) q2.1), .v 9 (eI mixed_7), .u] (fun (x8 : Int) => decide (x8 > ((10 : Int) ^ Int.toNat (12 : Int)))) (fun (x8 : Int) => x8) (fun (x8 : Int) => True) (ei_L (e_rdN rfl)) h.1 rfl (.v (Nat.le_refl _) (.v (Nat.le_refl _) (.v (Nat.le_refl _) (.u .nil)))) (fun _ _ => True.intro) (fun x8 => (eg_n rfl)) (fun x8 h => (et_asB (e_sop (eas_two (ea_vw rfl) (ea_of (e_sop (eas_two (ea_of e_kc) (ea_of e_kc)) rfl (o_pow (by decide +kernel))))) rfl o_gt))) (fun x8 h hc => (e_rdS rfl rfl)) (fun x8 h hc => (.v (Nat.le_refl _) (.v (Nat.le_refl _) (.v (Nat.le_refl _) (.u .nil))))) (fun x8 h => (.v (Nat.le_refl _) (.v (Nat.le_refl _) (.v (Nat.le_refl _) (.u .nil)))))) (evs_cons (e_rdS rfl rfl) (evs_cons e_kc evs_nil))) rfl (kk := 9) rfl) (cv_pot h.2))) rfl (fun _ => io_no)))))))
def t__law_one (pot_ : Dk) (items_ : (List Int)) : T (Int × Dk) :=
  T.rt (((t__law_of pot_ (List.length items_ : Int)).g) ∧ (InR (List.length items_) ((t__law_of pot_ (List.length items_ : Int)).v.1))) ((getI items_ ((t__law_of pot_ (List.length items_ : Int)).v.1)), (t__law_of pot_ (List.length items_ : Int)).v.2)
theorem sp__law_one (pot_ : Dk) (items_ : (List Int)) (hg : (t__law_one pot_ items_).g) : Sp F__law_one [(9, Dk.d pot_), (0, (eL eI) items_)] 9 (eI (t__law_one pot_ items_).v.1) [(0, 9, Dk.d (t__law_one pot_ items_).v.2)] := by
  refine sp_of (t := t__law_one pot_ items_) (en := (fun v => eI v.1)) (io := (fun v => [(0, 9, Dk.d v.2)])) (m := m__law_one) hg ?_
  show Bt m__law_one [.v 9 (Dk.d pot_), .v 0 ((eL eI) items_)] _ _
  unfold m__law_one t__law_one
  exact (bt_ret (f := fun v => v) (v := ((getI items_ ((t__law_of pot_ (List.length items_ : Int)).v.1)), (t__law_of pot_ (List.length items_ : Int)).v.2)) ro_ret (fun h => (e_subN rfl (e_callIo (eas_cons (ea_vw rfl) (eas_cons (ea_of (e_sop (eas_cons (ea_vw rfl) eas_nil) rfl (o_lenL (e := eI) (xs := items_)))) eas_nil)) eas_nil rfl rfl rfl rfl (.cons (by decide) (.cons (Nat.zero_le _) .nil)) (sp__law_of pot_ (List.length items_ : Int) h.1)) rfl (ss_LS fl_I h.2))) rfl (fun _ => (io_cons rfl rfl io_no)))
def t__law_place (base_ : Int) (x_ : Int) : T (Int) :=
  T.lt (True) (0 : Int) fun (found_1 : Int) =>
  T.bnd (T.whl (fun (s3 : (Int × Int)) => ⟨decide (s3.1 > (0 : Int)), True⟩) (fun (s3 : (Int × Int)) => T.lt (((0 : Int) < base_) ∧ (DivOk base_)) ((s3.1 / base_), (s3.2 + (s3.1 % base_))) fun (q4 : (Int × Int)) =>
  T.rt True (q4.1, q4.2)) whN (x_, found_1)) fun (q5 : (Int × Int)) =>
  T.rt (((0 : Int) < base_)) (q5.2 % base_)
theorem sp__law_place (base_ : Int) (x_ : Int) (hg : (t__law_place base_ x_).g) : Sp F__law_place [(0, eI base_), (0, eI x_)] 9 (eI (t__law_place base_ x_).v) [] := by
  refine sp_of (t := t__law_place base_ x_) (en := (fun v => eI v)) (io := (fun v => [])) (m := m__law_place) hg ?_
  show Bt m__law_place [.v 0 (eI base_), .v 0 (eI x_), .u] _ _
  unfold m__law_place t__law_place
  exact (bt_step (fun (found_1 : Int) => [.v 0 (eI base_), .v 0 (eI x_), .v 9 (eI found_1)]) (fun h => (es_asg e_kc rfl)) (fun h => (.v (Nat.le_refl _) (.v (Nat.le_refl _) (.v (Nat.le_refl _) .nil)))) (fun found_1 =>
  (bt_while (fun (st_ : (Int × Int)) => [.v 0 (eI base_), .v 0 (eI st_.1), .v 9 (eI st_.2)]) (.v (Nat.le_refl _) (.v (Nat.le_refl _) (.v (Nat.le_refl _) .nil))) (fun s3 h => (et_asB (e_sop (eas_two (ea_vw rfl) (ea_of e_kc)) rfl o_gt))) (fun s3 => (.v (Nat.le_refl _) (.v (Nat.le_refl _) (.v (Nat.le_refl _) .nil)))) (fun s3 =>
  (bt_last (bt_step (fun (q4 : (Int × Int)) => [.v 0 (eI base_), .v 9 (eI q4.1), .v 9 (eI q4.2)]) (fun h => (es_par (e_opV (e_rdS rfl rfl) (e_sop (eas_two (ea_of (e_sop (eas_cons (ea_vw rfl) eas_nil) rfl o_int)) (ea_vw rfl)) rfl (o_mod h.1)) os_addI) (e_sop (eas_two (ea_vw rfl) (ea_vw rfl)) rfl (o_div h.2)) rfl)) (fun h => (.v (Nat.le_refl _) (.v (Nat.le_refl _) (.v (Nat.le_refl _) .nil)))) (fun q4 =>
  (bt_endL (fun _ => (.v (Nat.le_refl _) (.v (Nat.zero_le _) (.v (Nat.le_refl _) .nil))))))))) (fun q5 =>
  (bt_ret (f := fun v => v) (v := (q5.2 % base_)) ro_ret (fun h => (e_sop (eas_two (ea_of (e_sop (eas_cons (ea_vw rfl) eas_nil) rfl o_int)) (ea_vw rfl)) rfl (o_mod h))) rfl (fun _ => io_no))))))
def t_digit_place (base_ : Int) (x_ : Int) : T (Int) :=
  T.lt (True) (0 : Int) fun (total_1 : Int) =>
  T.bnd (T.whl (fun (s3 : (Int × Int)) => ⟨decide (s3.1 > (0 : Int)), True⟩) (fun (s3 : (Int × Int)) => T.lt (((0 : Int) < base_) ∧ (DivOk base_)) ((s3.1 / base_), (s3.2 + (s3.1 % base_))) fun (q4 : (Int × Int)) =>
  T.rt True (q4.1, q4.2)) whN (x_, total_1)) fun (q5 : (Int × Int)) =>
  T.rt (((0 : Int) < base_)) (q5.2 % base_)
theorem sp_digit_place (base_ : Int) (x_ : Int) (hg : (t_digit_place base_ x_).g) : Sp F_digit_place [(0, eI base_), (0, eI x_)] 9 (eI (t_digit_place base_ x_).v) [] := by
  refine sp_of (t := t_digit_place base_ x_) (en := (fun v => eI v)) (io := (fun v => [])) (m := m_digit_place) hg ?_
  show Bt m_digit_place [.v 0 (eI base_), .v 0 (eI x_), .u] _ _
  unfold m_digit_place t_digit_place
  exact (bt_step (fun (total_1 : Int) => [.v 0 (eI base_), .v 0 (eI x_), .v 9 (eI total_1)]) (fun h => (es_asg e_kc rfl)) (fun h => (.v (Nat.le_refl _) (.v (Nat.le_refl _) (.v (Nat.le_refl _) .nil)))) (fun total_1 =>
  (bt_while (fun (st_ : (Int × Int)) => [.v 0 (eI base_), .v 0 (eI st_.1), .v 9 (eI st_.2)]) (.v (Nat.le_refl _) (.v (Nat.le_refl _) (.v (Nat.le_refl _) .nil))) (fun s3 h => (et_asB (e_sop (eas_two (ea_vw rfl) (ea_of e_kc)) rfl o_gt))) (fun s3 => (.v (Nat.le_refl _) (.v (Nat.le_refl _) (.v (Nat.le_refl _) .nil)))) (fun s3 =>
  (bt_last (bt_step (fun (q4 : (Int × Int)) => [.v 0 (eI base_), .v 9 (eI q4.1), .v 9 (eI q4.2)]) (fun h => (es_par (e_opV (e_rdS rfl rfl) (e_sop (eas_two (ea_vw rfl) (ea_vw rfl)) rfl (o_mod h.1)) os_addI) (e_sop (eas_two (ea_vw rfl) (ea_vw rfl)) rfl (o_div h.2)) rfl)) (fun h => (.v (Nat.le_refl _) (.v (Nat.le_refl _) (.v (Nat.le_refl _) .nil)))) (fun q4 =>
  (bt_endL (fun _ => (.v (Nat.le_refl _) (.v (Nat.zero_le _) (.v (Nat.le_refl _) .nil))))))))) (fun q5 =>
  (bt_ret (f := fun v => v) (v := (q5.2 % base_)) ro_ret (fun h => (e_sop (eas_two (ea_vw rfl) (ea_vw rfl)) rfl (o_mod h))) rfl (fun _ => io_no))))))
def t__law_raised (number_ : Int) (often_ : Int) : T (Int) :=
  T.lt (True) (1 : Int) fun (found_1 : Int) =>
  T.lt ((rgOk often_ = true)) (rgI 0 often_) fun (r5 : List Int) => T.bnd (T.fold (fun (s3 : Int) (x2 : Int) => T.lt ((mulOk s3 number_ = true)) (s3 * number_) fun (found_4 : Int) =>
  T.rt True found_4) r5 found_1) fun (found_6 : Int) =>
  T.rt (True) found_6
theorem sp__law_raised (number_ : Int) (often_ : Int) (hg : (t__law_raised number_ often_).g) : Sp F__law_raised [(0, eI number_), (0, eI often_)] 9 (eI (t__law_raised number_ often_).v) [] := by
  refine sp_of (t := t__law_raised number_ often_) (en := (fun v => eI v)) (io := (fun v => [])) (m := m__law_raised) hg ?_
  show Bt m__law_raised [.v 0 (eI number_), .v 0 (eI often_), .u, .u] _ _
  unfold m__law_raised t__law_raised
  exact (bt_step (fun (found_1 : Int) => [.v 0 (eI number_), .v 0 (eI often_), .v 9 (eI found_1), .u]) (fun h => (es_asg e_kc rfl)) (fun h => (.v (Nat.le_refl _) (.v (Nat.le_refl _) (.v (Nat.le_refl _) (.u .nil))))) (fun found_1 =>
  (bt_for (en := eI) (fun (st_ : Int) => [.v 0 (eI number_), .v 0 (eI often_), .v 9 (eI st_), .f]) (fun h => (ei_rng1 (evs_cons (e_rdS rfl rfl) evs_nil) h)) (fun _ => (.v (Nat.le_refl _) (.v (Nat.le_refl _) (.v (Nat.le_refl _) (.fu .nil))))) (fun s3 x2 => (eg_n rfl)) (fun s3 x2 =>
  (bt_last (bt_step (fun (found_4 : Int) => [.v 0 (eI number_), .v 0 (eI often_), .v 9 (eI found_4), .v 0 (eI x2)]) (fun h => (es_asg (e_opV (e_rdS rfl rfl) (e_rdS rfl rfl) (os_eI h)) rfl)) (fun h => (.v (Nat.le_refl _) (.v (Nat.le_refl _) (.v (Nat.le_refl _) (.v (Nat.le_refl _) .nil))))) (fun found_4 =>
  (bt_endL (fun _ => (.v (Nat.le_refl _) (.v (Nat.le_refl _) (.v (Nat.le_refl _) (.fv rfl .nil)))))))))) (fun found_6 =>
  (bt_ret (f := fun v => v) (v := found_6) ro_ret (fun h => (e_mvS rfl rfl)) rfl (fun _ => io_no))))))
def t__law_flat (rows_ : (List (List Int))) : T ((List Int)) :=
  T.lt (True) ([] : (List Int)) fun (found_1 : (List Int)) =>
  T.lt (True) rows_ fun (r5 : List (List Int)) => T.bnd (T.fold (fun (s3 : (List Int)) (x2 : (List Int)) => T.lt ((List.length s3 + List.length x2 ≤ lineN)) (s3 ++ x2) fun (found_4 : (List Int)) =>
  T.rt True found_4) r5 found_1) fun (found_6 : (List Int)) =>
  T.rt (True) found_6
theorem sp__law_flat (rows_ : (List (List Int))) (hg : (t__law_flat rows_).g) : Sp F__law_flat [(0, (eL (eL eI)) rows_)] 1 ((eL eI) (t__law_flat rows_).v) [] := by
  refine sp_of (t := t__law_flat rows_) (en := (fun v => (eL eI) v)) (io := (fun v => [])) (m := m__law_flat) hg ?_
  show Bt m__law_flat [.v 0 ((eL (eL eI)) rows_), .u, .u] _ _
  unfold m__law_flat t__law_flat
  exact (bt_step (fun (found_1 : (List Int)) => [.v 0 ((eL (eL eI)) rows_), .v 9 ((eL eI) found_1), .u]) (fun h => (es_asg (e_as (e_lst evs_nil rfl (kk := 9) rfl) (d := (eL eI) ([] : (List Int))) rfl) rfl)) (fun h => (.v (Nat.le_refl _) (.v (Nat.le_refl _) (.u .nil)))) (fun found_1 =>
  (bt_for (en := (eL eI)) (fun (st_ : (List Int)) => [.v 0 ((eL (eL eI)) rows_), .v 1 ((eL eI) st_), .a]) (fun h => (ei_L (e_rdN rfl))) (fun _ => (.v (Nat.le_refl _) (.v (by decide) (.a .nil)))) (fun s3 x2 => (eg_n rfl)) (fun s3 x2 =>
  (bt_last (bt_step (fun (found_4 : (List Int)) => [.v 0 ((eL (eL eI)) rows_), .v 1 ((eL eI) found_4), .v 0 ((eL eI) x2)]) (fun h => (es_drop (e_mut (z := .non) rfl (evs_cons (e_rdN rfl) evs_nil) rfl (mo_extL (e := eI) (ys := x2) h)))) (fun h => (.v (Nat.le_refl _) (.v (Nat.le_refl _) (.v (Nat.le_refl _) .nil)))) (fun found_4 =>
  (bt_endL (fun _ => (.v (Nat.le_refl _) (.v (Nat.le_refl _) (.a .nil))))))))) (fun found_6 =>
  (bt_ret (f := fun v => v) (v := found_6) ro_ret (fun h => (e_mvN rfl rfl)) rfl (fun _ => io_no))))))
def t_digit_lots (base_ : Int) (k_ : Int) : T (Xn ⊕ (List (List Int))) :=
  T.lt (True) (1 : Int) fun (many_1 : Int) =>
  T.lt ((rgOk (k_ + (1 : Int)) = true)) (rgI 0 (k_ + (1 : Int))) fun (r5 : List Int) => T.bnd (T.fold (fun (s3 : Int) (x2 : Int) => T.lt ((mulOk s3 base_ = true)) (s3 * base_) fun (many_4 : Int) =>
  T.rt True many_4) r5 many_1) fun (many_6 : Int) =>
  T.ite (True) (decide (many_6 > (1024 : Int))) (T.rt (True) (Sum.inl (⟨"TooMany", [("limit", eI (1024 : Int))]⟩ : Xn)))
  (T.lt ((rgOk base_ = true) ∧ (List.length (rgI 0 base_) ≤ lineN)) (List.map (fun (x7 : Int) => ([] : (List Int))) (rgI 0 base_)) fun (found_8 : (List (List Int))) =>
  T.lt ((rgOk many_6 = true)) (rgI 0 many_6) fun (r12 : List Int) => T.bnd (T.fold (fun (s10 : (List (List Int))) (x9 : Int) => T.lt (((t_digit_place base_ x9).g) ∧ (InR (List.length s10) ((t_digit_place base_ x9).v)) ∧ (List.length (getI s10 ((t_digit_place base_ x9).v)) < lineN)) (setI s10 ((t_digit_place base_ x9).v) (getI s10 ((t_digit_place base_ x9).v) ++ [x9])) fun (found_11 : (List (List Int))) =>
  T.rt True found_11) r12 found_8) fun (found_13 : (List (List Int))) =>
  T.rt ((List.length found_13 ≤ lineN)) (Sum.inr (List.map (fun (x14 : (List Int)) => x14) found_13)))
theorem sp_digit_lots (base_ : Int) (k_ : Int) (hg : (t_digit_lots base_ k_).g) : SpX F_digit_lots [(0, eI base_), (0, eI k_)] 0 (eT (eT eI)) (t_digit_lots base_ k_).v := by
  refine spx_of (t := t_digit_lots base_ k_) (en := (eT (eT eI))) (mo := m_digit_lots) hg ?_
  show Bt m_digit_lots [.v 0 (eI base_), .v 0 (eI k_), .u, .u, .u, .u, .u, .u] _ _
  unfold m_digit_lots t_digit_lots
  exact (bt_step (fun (many_1 : Int) => [.v 0 (eI base_), .v 0 (eI k_), .v 9 (eI many_1), .u, .u, .u, .u, .u]) (fun h => (es_asg e_kc rfl)) (fun h => (.v (Nat.le_refl _) (.v (Nat.le_refl _) (.v (Nat.le_refl _) (.u (.u (.u (.u (.u .nil))))))))) (fun many_1 =>
  (bt_for (en := eI) (fun (st_ : Int) => [.v 0 (eI base_), .v 0 (eI k_), .v 9 (eI st_), .f, .u, .u, .u, .u]) (fun h => (ei_rng1 (evs_cons (e_opV (e_rdS rfl rfl) e_kc os_addI) evs_nil) h)) (fun _ => (.v (Nat.le_refl _) (.v (Nat.le_refl _) (.v (Nat.le_refl _) (.fu (.u (.u (.u (.u .nil))))))))) (fun s3 x2 => (eg_n rfl)) (fun s3 x2 =>
  (bt_last (bt_step (fun (many_4 : Int) => [.v 0 (eI base_), .v 0 (eI k_), .v 9 (eI many_4), .v 0 (eI x2), .u, .u, .u, .u]) (fun h => (es_asg (e_opV (e_rdS rfl rfl) (e_rdS rfl rfl) (os_eI h)) rfl)) (fun h => (.v (Nat.le_refl _) (.v (Nat.le_refl _) (.v (Nat.le_refl _) (.v (Nat.le_refl _) (.u (.u (.u (.u .nil))))))))) (fun many_4 =>
  (bt_endL (fun _ => (.v (Nat.le_refl _) (.v (Nat.le_refl _) (.v (Nat.le_refl _) (.fv rfl (.u (.u (.u (.u .nil)))))))))))))) (fun many_6 =>
  (bt_ifE (fun h => (et_asB (e_sop (eas_two (ea_vw rfl) (ea_of e_kc)) rfl o_gt))) (fun hc => (bt_raise1 (f := fun x_ => (Sum.inl x_)) (rx_esc rx_ret) (fun h => e_kc) rfl)) (fun hc =>
  (bt_nx (bt_step (fun (found_8 : (List (List Int))) => [.v 0 (eI base_), .v 0 (eI k_), .v 9 (eI many_6), .f, .v 9 ((eL (eL eI)) found_8), .u, .u, .u]) (fun h => (es_asg (e_comp (en := eI) (en' := (eL eI)) [.v 0 (eI base_), .v 0 (eI k_), .v 9 (eI many_6), .f, .u, .u, .u, .u] (fun (x7 : Int) => ([] : (List Int))) (fun (x7 : Int) => True) (ei_rng1 (evs_cons (e_rdS rfl rfl) evs_nil) h.1) h.2 rfl (.v (Nat.le_refl _) (.v (Nat.le_refl _) (.v (Nat.le_refl _) (.ff (.u (.u (.u (.u .nil)))))))) (fun _ _ => True.intro) (fun x7 => (eg_n rfl)) (fun x7 h => (e_as (e_lst evs_nil rfl (kk := 9) rfl) (d := (eL eI) ([] : (List Int))) rfl)) (fun x7 h => (.v (Nat.le_refl _) (.v (Nat.le_refl _) (.v (Nat.le_refl _) (.ff (.u (.u (.u (.u .nil)))))))))) rfl)) (fun h => (.v (Nat.le_refl _) (.v (Nat.le_refl _) (.v (Nat.le_refl _) (.ff (.v (Nat.le_refl _) (.u (.u (.u .nil))))))))) (fun found_8 =>
  (bt_for (en := eI) (fun (st_ : (List (List Int))) => [.v 0 (eI base_), .v 0 (eI k_), .v 9 (eI many_6), .f, .v 9 ((eL (eL eI)) st_), .f, .u, .u]) (fun h => (ei_rng1 (evs_cons (e_rdS rfl rfl) evs_nil) h)) (fun _ => (.v (Nat.le_refl _) (.v (Nat.le_refl _) (.v (Nat.le_refl _) (.ff (.v (Nat.le_refl _) (.fu (.u (.u .nil))))))))) (fun s10 x9 => (eg_n rfl)) (fun s10 x9 =>
  (bt_last (bt_step (fun (found_11 : (List (List Int))) => [.v 0 (eI base_), .v 0 (eI k_), .v 9 (eI many_6), .f, .v 9 ((eL (eL eI)) found_11), .v 0 (eI x9), .u, .u]) (fun h => (es_drop (e_appV (e := eI) (x := x9) rfl (e_call (eas_cons (ea_of (e_rdS rfl rfl)) (eas_cons (ea_of (e_rdS rfl rfl)) eas_nil)) eas_nil rfl rfl (.cons (Nat.zero_le _) (.cons (Nat.zero_le _) .nil)) (sp_digit_place base_ x9 h.1)) rfl (eq_n rfl rfl) fl_I rfl h.2.1 h.2.2))) (fun h => (.v (Nat.le_refl _) (.v (Nat.le_refl _) (.v (Nat.le_refl _) (.ff (.v (Nat.le_refl _) (.v (Nat.le_refl _) (.u (.u .nil))))))))) (fun found_11 =>
  (bt_endL (fun _ => (.v (Nat.le_refl _) (.v (Nat.le_refl _) (.v (Nat.le_refl _) (.ff (.v (Nat.le_refl _) (.fv rfl (.u (.u .nil)))))))))))))) (fun found_13 =>
  (bt_ret (f := fun v => (Sum.inr v)) (v := (List.map (fun (x14 : (List Int)) => x14) found_13)) ro_retX (fun h => (e_op1 (e_comp (en := (eL eI)) (en' := (eT eI)) [.v 0 (eI base_), .v 0 (eI k_), .v 9 (eI many_6), .f, .v 0 ((eL (eL eI)) found_13), .f, .u, .u] (fun (x14 : (List Int)) => x14) (fun (x14 : (List Int)) => True) (ei_L (e_rdN rfl)) h rfl (.v (Nat.le_refl _) (.v (Nat.le_refl _) (.v (Nat.le_refl _) (.ff (.v (Nat.le_refl _) (.ff (.u (.u .nil)))))))) (fun _ _ => True.intro) (fun x14 => (eg_n rfl)) (fun x14 h => (e_op1 (e_rdN rfl) o1_tupL)) (fun x14 h => (.v (Nat.le_refl _) (.v (Nat.le_refl _) (.v (Nat.le_refl _) (.ff (.v (Nat.le_refl _) (.ff (.u (.u .nil)))))))))) o1_tupL)) rfl (fun _ => io_no)))))))))))))
def t__law_told (base_ : Int) (k_ : Int) (is_named_ : Bool) : T (D) :=
  T.tryX (T.rt ((is_named_ = true → ((t_digit_lots base_ k_).g)) ∧ (is_named_ = false → ((t_digit_lots base_ k_).g))) (Sum.elim (fun x_ => (Sum.inl x_)) (fun v_ => (Sum.inr v_)) (if is_named_ = true then (Sum.map id (fun (v_ : (List (List Int))) => ((eT (eT eI)) v_)) (t_digit_lots base_ k_).v) else (Sum.map id (fun (v_ : (List (List Int))) => ((eT (eT eI)) v_)) (t_digit_lots base_ k_).v)))) (hd1 "TooMany" "limit" "more than" [.bl true]) default
theorem sp__law_told (base_ : Int) (k_ : Int) (is_named_ : Bool) (hg : (t__law_told base_ k_ is_named_).g) : Sp F__law_told [(0, eI base_), (0, eI k_), (0, eB is_named_)] 0 (eD (t__law_told base_ k_ is_named_).v) [] := by
  refine sp_of (t := t__law_told base_ k_ is_named_) (en := (fun v => eD v)) (io := (fun v => [])) (m := m__law_told) hg ?_
  show Bt m__law_told [.v 0 (eI base_), .v 0 (eI k_), .v 0 (eB is_named_), .u] _ _
  unfold m__law_told t__law_told
  exact (bt_try (k := 0) (en := eD) (dflt := default) (bt_retR (f := fun v_ => (Sum.inr v_)) (fx := fun x_ => (Sum.inl x_)) ro_retX rx_ret (fun h => (evr_ite (en := eD) (et_asB (e_rdS rfl rfl)) (fun hc1 => (evr_as (eg := eD) (fun (v_ : (List (List Int))) => ((eT (eT eI)) v_)) (evr_call eas_nil (eas_cons (ea_of (e_rdS rfl rfl)) (eas_cons (ea_of (e_rdS rfl rfl)) eas_nil)) rfl rfl (.cons (Nat.zero_le _) (.cons (Nat.zero_le _) .nil)) rfl (sp_digit_lots base_ k_ (h.1 hc1))) (fun _ => rfl))) (fun hc1 => (evr_as (eg := eD) (fun (v_ : (List (List Int))) => ((eT (eT eI)) v_)) (evr_call (eas_cons (ea_of (e_rdS rfl rfl)) (eas_cons (ea_of (e_rdS rfl rfl)) eas_nil)) eas_nil rfl rfl (.cons (Nat.zero_le _) (.cons (Nat.zero_le _) .nil)) rfl (sp_digit_lots base_ k_ (h.2 hc1))) (fun _ => rfl))))) rfl) hd_D rfl)
def t__law_order (pot_ : Dk) (row_ : (List Int)) : T ((List Int) × Dk) :=
  T.lt (True) (row_, ([] : (List Int))) fun (q1 : ((List Int) × (List Int))) =>
  T.bnd (T.whl (fun (s3 : (Dk × (List Int) × (List Int))) => ⟨(!decide (s3.2.1 = ([] : (List Int)))), True⟩) (fun (s3 : (Dk × (List Int) × (List Int))) => T.lt (((t__law_of s3.1 (List.length s3.2.1 : Int)).g) ∧ (InR (List.length s3.2.1) ((t__law_of s3.1 (List.length s3.2.1 : Int)).v.1) ∧ List.length s3.2.1 ≤ lineN) ∧ (List.length s3.2.2 < lineN)) ((t__law_of s3.1 (List.length s3.2.1 : Int)).v.2, (delI s3.2.1 ((t__law_of s3.1 (List.length s3.2.1 : Int)).v.1)), (s3.2.2 ++ [(getI s3.2.1 ((t__law_of s3.1 (List.length s3.2.1 : Int)).v.1))])) fun (q4 : (Dk × (List Int) × (List Int))) =>
  T.rt True (q4.1, q4.2.1, q4.2.2)) whN (pot_, q1.1, q1.2)) fun (q5 : (Dk × (List Int) × (List Int))) =>
  T.rt (True) (q5.2.2, q5.1)
theorem sp__law_order (pot_ : Dk) (row_ : (List Int)) (hg : (t__law_order pot_ row_).g) : Sp F__law_order [(9, Dk.d pot_), (0, (eL eI) row_)] 1 ((eL eI) (t__law_order pot_ row_).v.1) [(0, 9, Dk.d (t__law_order pot_ row_).v.2)] := by
  refine sp_of (t := t__law_order pot_ row_) (en := (fun v => (eL eI) v.1)) (io := (fun v => [(0, 9, Dk.d v.2)])) (m := m__law_order) hg ?_
  show Bt m__law_order [.v 9 (Dk.d pot_), .v 0 ((eL eI) row_), .u, .u] _ _
  unfold m__law_order t__law_order
  exact (bt_step (fun (q1 : ((List Int) × (List Int))) => [.v 9 (Dk.d pot_), .v 0 ((eL eI) row_), .v 1 ((eL eI) q1.1), .v 9 ((eL eI) q1.2)]) (fun h => (es_par (e_op1 (e_rdN rfl) o1_lstL) (e_as (e_lst evs_nil rfl (kk := 9) rfl) (d := (eL eI) ([] : (List Int))) rfl) rfl)) (fun h => (.v (Nat.le_refl _) (.v (Nat.le_refl _) (.v (Nat.le_refl _) (.v (Nat.le_refl _) .nil))))) (fun q1 =>
  (bt_while (fun (st_ : (Dk × (List Int) × (List Int))) => [.v 9 (Dk.d st_.1), .v 0 ((eL eI) row_), .v 1 ((eL eI) st_.2.1), .v 1 ((eL eI) st_.2.2)]) (.v (Nat.le_refl _) (.v (Nat.le_refl _) (.v (Nat.le_refl _) (.v (by decide) .nil)))) (fun s3 h => (et_asB (e_sop (eas_two (ea_vw rfl) (ea_of (e_as (e_lst evs_nil rfl (kk := 9) rfl) (d := (eL eI) ([] : (List Int))) rfl))) rfl (o_ne (u := s3.2.1) (v := ([] : (List Int))) (eqe_L eqe_I))))) (fun s3 => (.v (Nat.le_refl _) (.v (Nat.le_refl _) (.v (Nat.le_refl _) (.v (Nat.le_refl _) .nil))))) (fun s3 =>
  (bt_last (bt_step (fun (q4 : (Dk × (List Int) × (List Int))) => [.v 9 (Dk.d q4.1), .v 0 ((eL eI) row_), .v 1 ((eL eI) q4.2.1), .v 1 ((eL eI) q4.2.2)]) (fun h => (es_drop (e_mut (z := .non) rfl (evs_cons (e_mut rfl (evs_cons (e_callIo (eas_cons (ea_vw rfl) (eas_cons (ea_of (e_sop (eas_cons (ea_vw rfl) eas_nil) rfl (o_lenL (e := eI) (xs := s3.2.1)))) eas_nil)) eas_nil rfl rfl rfl rfl (.cons (by decide) (.cons (Nat.zero_le _) .nil)) (sp__law_of s3.1 (List.length s3.2.1 : Int) h.1)) evs_nil) rfl (mo_popAt (e := eI) h.2.1)) evs_nil) rfl (mo_app (e := eI) (x := (getI s3.2.1 ((t__law_of s3.1 (List.length s3.2.1 : Int)).v.1))) h.2.2)))) (fun h => (.v (Nat.le_refl _) (.v (Nat.le_refl _) (.v (Nat.le_refl _) (.v (Nat.le_refl _) .nil))))) (fun q4 =>
  (bt_endL (fun _ => (.v (Nat.le_refl _) (.v (Nat.le_refl _) (.v (Nat.le_refl _) (.v (Nat.le_refl _) .nil)))))))))) (fun q5 =>
  (bt_ret (f := fun v => v) (v := (q5.2.2, q5.1)) ro_ret (fun h => (e_mvN rfl rfl)) rfl (fun _ => (io_cons rfl rfl io_no)))))))
def t_agree_to (one_ : (List Int)) (other_ : (List Int)) : T ((Option Int)) :=
  T.ite (True) (!decide ((List.length one_ : Int) = (List.length other_ : Int))) (T.rt (True) (some (-1 : Int)))
  (T.ite (True) (decide (one_ = other_)) (T.rt (True) (none : Option Int))
  (T.lt (True) (one_, other_, (0 : Int)) fun (q1 : ((List Int) × (List Int) × Int)) =>
  T.bnd (T.whl (fun (s3 : ((List Int) × (List Int) × Int)) => ⟨(decide ((List.sum s3.1) = (List.sum s3.2.1))), True⟩) (fun (s3 : ((List Int) × (List Int) × Int)) => T.lt ((List.length (List.zip s3.1 one_) ≤ lineN) ∧ (∀ x4 ∈ (List.zip s3.1 one_), (mulOk x4.1 x4.2 = true))) (List.map (fun (x4 : (Int × Int)) => (x4.1 * x4.2)) (List.zip s3.1 one_)) fun (ours_5 : (List Int)) =>
  T.lt ((List.length (List.zip s3.2.1 other_) ≤ lineN) ∧ (∀ x6 ∈ (List.zip s3.2.1 other_), (mulOk x6.1 x6.2 = true))) (List.map (fun (x6 : (Int × Int)) => (x6.1 * x6.2)) (List.zip s3.2.1 other_)) fun (theirs_7 : (List Int)) =>
  T.lt (True) (s3.2.2 + (1 : Int)) fun (k_8 : Int) =>
  T.rt True (ours_5, theirs_7, k_8)) whN (q1.1, q1.2.1, q1.2.2)) fun (q9 : ((List Int) × (List Int) × Int)) =>
  T.rt (True) (some q9.2.2)))
theorem sp_agree_to (one_ : (List Int)) (other_ : (List Int)) (hg : (t_agree_to one_ other_).g) : Sp F_agree_to [(0, (eT eI) one_), (0, (eT eI) other_)] 9 ((eO eI) (t_agree_to one_ other_).v) [] := by
  refine sp_of (t := t_agree_to one_ other_) (en := (fun v => (eO eI) v)) (io := (fun v => [])) (m := m_agree_to) hg ?_
  show Bt m_agree_to [.v 0 ((eT eI) one_), .v 0 ((eT eI) other_), .u, .u, .u, .u, .u] _ _
  unfold m_agree_to t_agree_to
  exact (bt_ifE (fun h => (et_asB (e_sop (eas_two (ea_of (e_sop (eas_cons (ea_vw rfl) eas_nil) rfl (o_lenT (e := eI) (xs := one_)))) (ea_of (e_sop (eas_cons (ea_vw rfl) eas_nil) rfl (o_lenT (e := eI) (xs := other_))))) rfl (o_ne (u := (List.length one_ : Int)) (v := (List.length other_ : Int)) eqe_I)))) (fun hc => (bt_ret (f := fun v => v) (v := (some (-1 : Int))) (ro_esc ro_ret) (fun h => (e_as (e_un (ea_of e_kc) rfl o_neg) (d := (eO eI) (some (-1 : Int))) rfl)) rfl (fun _ => io_no))) (fun hc =>
  (bt_nx (bt_ifE (fun h => (et_asB (e_sop (eas_two (ea_vw rfl) (ea_vw rfl)) rfl (o_eq (u := one_) (v := other_) (eqe_T eqe_I))))) (fun hc => (bt_ret (f := fun v => v) (v := (none : Option Int)) (ro_esc ro_ret) (fun h => (e_as e_kc (d := (eO eI) (none : Option Int)) rfl)) rfl (fun _ => io_no))) (fun hc =>
  (bt_nx (bt_step (fun (q1 : ((List Int) × (List Int) × Int)) => [.v 0 ((eT eI) one_), .v 0 ((eT eI) other_), .v 1 ((eL eI) q1.1), .v 1 ((eL eI) q1.2.1), .v 9 (eI q1.2.2), .u, .u]) (fun h => (es_par3 (e_op1 (e_rdN rfl) o1_lstT) (e_op1 (e_rdN rfl) o1_lstT) e_kc rfl)) (fun h => (.v (Nat.le_refl _) (.v (Nat.le_refl _) (.v (Nat.le_refl _) (.v (Nat.le_refl _) (.v (Nat.le_refl _) (.u (.u .nil)))))))) (fun q1 =>
  (bt_while (fun (st_ : ((List Int) × (List Int) × Int)) => [.v 0 ((eT eI) one_), .v 0 ((eT eI) other_), .v 1 ((eL eI) st_.1), .v 1 ((eL eI) st_.2.1), .v 9 (eI st_.2.2), .u, .u]) (.v (Nat.le_refl _) (.v (Nat.le_refl _) (.v (Nat.le_refl _) (.v (Nat.le_refl _) (.v (Nat.le_refl _) (.u (.u .nil))))))) (fun s3 h => (et_asB (e_sop (eas_two (ea_of (e_sop (eas_cons (ea_vw rfl) eas_nil) rfl (o_sumL (xs := s3.1)))) (ea_of (e_sop (eas_cons (ea_vw rfl) eas_nil) rfl (o_sumL (xs := s3.2.1))))) rfl (o_eq (u := (List.sum s3.1)) (v := (List.sum s3.2.1)) eqe_I)))) (fun s3 => (.v (Nat.le_refl _) (.v (Nat.le_refl _) (.v (Nat.le_refl _) (.v (Nat.le_refl _) (.v (Nat.le_refl _) (.u (.u .nil)))))))) (fun s3 =>
  (bt_step (fun (ours_5 : (List Int)) => [.v 0 ((eT eI) one_), .v 0 ((eT eI) other_), .v 9 ((eL eI) ours_5), .v 1 ((eL eI) s3.2.1), .v 9 (eI s3.2.2), .u, .u]) (fun h => (es_asg (e_comp (en := (eP eI eI)) (en' := eI) [.v 0 ((eT eI) one_), .v 0 ((eT eI) other_), .v 0 ((eL eI) s3.1), .v 1 ((eL eI) s3.2.1), .v 9 (eI s3.2.2), .u, .u] (fun (x4 : (Int × Int)) => (x4.1 * x4.2)) (fun (x4 : (Int × Int)) => (mulOk x4.1 x4.2 = true)) (ei_zip (evs_cons (e_rdN rfl) (evs_cons (e_rdN rfl) evs_nil)) .l .t) h.1 rfl (.v (Nat.le_refl _) (.v (Nat.le_refl _) (.v (Nat.le_refl _) (.v (Nat.le_refl _) (.v (Nat.le_refl _) (.u (.u .nil))))))) h.2 (fun x4 => (eg_R rfl rfl (egs_cons (eg_n rfl) (egs_cons (eg_n rfl) egs_nil)))) (fun x4 h => (e_opV (e_rdS rfl rfl) (e_rdS rfl rfl) (os_eI h))) (fun x4 h => (.v (Nat.le_refl _) (.v (Nat.le_refl _) (.v (Nat.le_refl _) (.v (Nat.le_refl _) (.v (Nat.le_refl _) (.u (.u .nil))))))))) rfl)) (fun h => (.v (Nat.le_refl _) (.v (Nat.le_refl _) (.v (Nat.le_refl _) (.v (Nat.le_refl _) (.v (Nat.le_refl _) (.u (.u .nil)))))))) (fun ours_5 =>
  (bt_step (fun (theirs_7 : (List Int)) => [.v 0 ((eT eI) one_), .v 0 ((eT eI) other_), .v 9 ((eL eI) ours_5), .v 9 ((eL eI) theirs_7), .v 9 (eI s3.2.2), .u, .u]) (fun h => (es_asg (e_comp (en := (eP eI eI)) (en' := eI) [.v 0 ((eT eI) one_), .v 0 ((eT eI) other_), .v 9 ((eL eI) ours_5), .v 0 ((eL eI) s3.2.1), .v 9 (eI s3.2.2), .u, .u] (fun (x6 : (Int × Int)) => (x6.1 * x6.2)) (fun (x6 : (Int × Int)) => (mulOk x6.1 x6.2 = true)) (ei_zip (evs_cons (e_rdN rfl) (evs_cons (e_rdN rfl) evs_nil)) .l .t) h.1 rfl (.v (Nat.le_refl _) (.v (Nat.le_refl _) (.v (Nat.le_refl _) (.v (Nat.le_refl _) (.v (Nat.le_refl _) (.u (.u .nil))))))) h.2 (fun x6 => (eg_R rfl rfl (egs_cons (eg_n rfl) (egs_cons (eg_n rfl) egs_nil)))) (fun x6 h => (e_opV (e_rdS rfl rfl) (e_rdS rfl rfl) (os_eI h))) (fun x6 h => (.v (Nat.le_refl _) (.v (Nat.le_refl _) (.v (Nat.le_refl _) (.v (Nat.le_refl _) (.v (Nat.le_refl _) (.u (.u .nil))))))))) rfl)) (fun h => (.v (Nat.le_refl _) (.v (Nat.le_refl _) (.v (Nat.le_refl _) (.v (Nat.le_refl _) (.v (Nat.le_refl _) (.u (.u .nil)))))))) (fun theirs_7 =>
  (bt_last (bt_step (fun (k_8 : Int) => [.v 0 ((eT eI) one_), .v 0 ((eT eI) other_), .v 9 ((eL eI) ours_5), .v 9 ((eL eI) theirs_7), .v 9 (eI k_8), .u, .u]) (fun h => (es_asg (e_opV (e_rdS rfl rfl) e_kc os_addI) rfl)) (fun h => (.v (Nat.le_refl _) (.v (Nat.le_refl _) (.v (Nat.le_refl _) (.v (Nat.le_refl _) (.v (Nat.le_refl _) (.u (.u .nil)))))))) (fun k_8 =>
  (bt_endL (fun _ => (.v (Nat.le_refl _) (.v (Nat.le_refl _) (.v (by decide) (.v (by decide) (.v (Nat.le_refl _) (.u (.u .nil))))))))))))))))) (fun q9 =>
  (bt_ret (f := fun v => v) (v := (some q9.2.2)) ro_ret (fun h => (e_as (e_mvS rfl rfl) (d := (eO eI) (some q9.2.2)) rfl)) rfl (fun _ => io_no))))))))))))
def t_law (script_ : (List Int)) : T (Bool) :=
  T.lt (((t__law_pot script_).g)) ((t__law_pot script_).v) fun (pot_1 : Dk) =>
  T.lt (((t__law_of pot_1 (9 : Int)).g)) ((t__law_of pot_1 (9 : Int)).v.2, ((2 : Int) + (t__law_of pot_1 (9 : Int)).v.1)) fun (q2 : (Dk × Int)) =>
  T.lt (True) (rgI 0 (6 : Int)) fun (r7 : List Int) => T.bndS (T.foldR (fun (s4 : Dk) (x3 : Int) => T.lt (((t__law_one s4 ([(20 : Int), (5000 : Int), ((10 : Int) ^ Int.toNat (9 : Int))] : (List Int))).g) ∧ ((t__law_of ((t__law_one s4 ([(20 : Int), (5000 : Int), ((10 : Int) ^ Int.toNat (9 : Int))] : (List Int))).v.2) ((t__law_one s4 ([(20 : Int), (5000 : Int), ((10 : Int) ^ Int.toNat (9 : Int))] : (List Int))).v.1)).g) ∧ ((t__law_one ((t__law_of ((t__law_one s4 ([(20 : Int), (5000 : Int), ((10 : Int) ^ Int.toNat (9 : Int))] : (List Int))).v.2) ((t__law_one s4 ([(20 : Int), (5000 : Int), ((10 : Int) ^ Int.toNat (9 : Int))] : (List Int))).v.1)).v.2) ([(1 : Int), (1 : Int), ((10 : Int) ^ Int.toNat (12 : Int)), ((10 : Int) ^ Int.toNat (21 : Int))] : (List Int))).g) ∧ (mulOk ((t__law_of ((t__law_one s4 ([(20 : Int), (5000 : Int), ((10 : Int) ^ Int.toNat (9 : Int))] : (List Int))).v.2) ((t__law_one s4 ([(20 : Int), (5000 : Int), ((10 : Int) ^ Int.toNat (9 : Int))] : (List Int))).v.1)).v.1) ((t__law_one ((t__law_of ((t__law_one s4 ([(20 : Int), (5000 : Int), ((10 : Int) ^ Int.toNat (9 : Int))] : (List Int))).v.2) ((t__law_one s4 ([(20 : Int), (5000 : Int), ((10 : Int) ^ Int.toNat (9 : Int))] : (List Int))).v.1)).v.2) ([(1 : Int), (1 : Int), ((10 : Int) ^ Int.toNat (12 : Int)), ((10 : Int) ^ Int.toNat (21 : Int))] : (List Int))).v.1) = true)) ((t__law_one ((t__law_of ((t__law_one s4 ([(20 : Int), (5000 : Int), ((10 : Int) ^ Int.toNat (9 : Int))] : (List Int))).v.2) ((t__law_one s4 ([(20 : Int), (5000 : Int), ((10 : Int) ^ Int.toNat (9 : Int))] : (List Int))).v.1)).v.2) ([(1 : Int), (1 : Int), ((10 : Int) ^ Int.toNat (12 : Int)), ((10 : Int) ^ Int.toNat (21 : Int))] : (List Int))).v.2, ((t__law_of ((t__law_one s4 ([(20 : Int), (5000 : Int), ((10 : Int) ^ Int.toNat (9 : Int))] : (List Int))).v.2) ((t__law_one s4 ([(20 : Int), (5000 : Int), ((10 : Int) ^ Int.toNat (9 : Int))] : (List Int))).v.1)).v.1 * (t__law_one ((t__law_of ((t__law_one s4 ([(20 : Int), (5000 : Int), ((10 : Int) ^ Int.toNat (9 : Int))] : (List Int))).v.2) ((t__law_one s4 ([(20 : Int), (5000 : Int), ((10 : Int) ^ Int.toNat (9 : Int))] : (List Int))).v.1)).v.2) ([(1 : Int), (1 : Int), ((10 : Int) ^ Int.toNat (12 : Int)), ((10 : Int) ^ Int.toNat (21 : Int))] : (List Int))).v.1)) fun (q5 : (Dk × Int)) =>
  T.lt (((t__law_place q2.2 q5.2).g)) ((t__law_place q2.2 q5.2).v) fun (due_6 : Int) =>
  T.ite (((t_digit_place q2.2 q5.2).g) ∧ ((t_digit_place q2.2 q5.2).g) ∧ (ReprOk ((eL eI) ([(t_digit_place q2.2 q5.2).v, (t_digit_place q2.2 q5.2).v] : (List Int)))) ∧ (ReprOk ((eL eI) ([due_6, due_6] : (List Int))))) (!decide ((shT ((eL eI) ([(t_digit_place q2.2 q5.2).v, (t_digit_place q2.2 q5.2).v] : (List Int)))) = (shT ((eL eI) ([due_6, due_6] : (List Int)))))) (T.rt (True) (Cf.ret false))
  (T.rt True (Cf.nxt q5.1))) r7 q2.1) fun (pot_8 : Dk) =>
  T.ite (((t_digit_place q2.2 ((10 : Int) ^ Int.toNat (30 : Int))).g) ∧ ((t__law_place q2.2 ((10 : Int) ^ Int.toNat (30 : Int))).g)) (!decide ((t_digit_place q2.2 ((10 : Int) ^ Int.toNat (30 : Int))).v = (t__law_place q2.2 ((10 : Int) ^ Int.toNat (30 : Int))).v)) (T.rt (True) false)
  (T.lt (((t__law_one pot_8 ([(3 : Int), (6 : Int), (11 : Int), (41 : Int)] : (List Int))).g) ∧ ((t__law_of ((t__law_one pot_8 ([(3 : Int), (6 : Int), (11 : Int), (41 : Int)] : (List Int))).v.2) ((t__law_one pot_8 ([(3 : Int), (6 : Int), (11 : Int), (41 : Int)] : (List Int))).v.1)).g)) ((t__law_of ((t__law_one pot_8 ([(3 : Int), (6 : Int), (11 : Int), (41 : Int)] : (List Int))).v.2) ((t__law_one pot_8 ([(3 : Int), (6 : Int), (11 : Int), (41 : Int)] : (List Int))).v.1)).v.2, (t__law_of ((t__law_one pot_8 ([(3 : Int), (6 : Int), (11 : Int), (41 : Int)] : (List Int))).v.2) ((t__law_one pot_8 ([(3 : Int), (6 : Int), (11 : Int), (41 : Int)] : (List Int))).v.1)).v.1) fun (q9 : (Dk × Int)) =>
  T.lt (((t__law_raised q2.2 ((minI q9.2 (11 : Int)) + (1 : Int))).g)) ((t__law_raised q2.2 ((minI q9.2 (11 : Int)) + (1 : Int))).v) fun (size_10 : Int) =>
  T.lt (True) ([(eS ("more than" : Str)), (eI (1024 : Int)), (eB true)] : (List D)) fun (due_11 : (List D)) =>
  T.bnd (T.ite (True) (decide (size_10 ≤ (1024 : Int)) && decide (q9.2 < (11 : Int))) (T.lt ((rgL 0 q2.2 = true)) (rgI 0 q2.2) fun (places_13 : (List Int)) =>
  T.lt ((rgOk q9.2 = true)) (rgI 0 q9.2) fun (r19 : List Int) => T.bnd (T.fold (fun (s15 : (List Int)) (x14 : Int) => T.lt ((List.length s15 ≤ lineN) ∧ (∀ x16 ∈ s15, (rgOk q2.2 = true) ∧ (List.length (rgI 0 q2.2) ≤ lineN) ∧ (∀ x17 ∈ (rgI 0 q2.2), ((0 : Int) < q2.2))) ∧ ((t__law_flat (List.map (fun (x16 : Int) => (List.map (fun (x17 : Int) => ((x16 + x17) % q2.2)) (rgI 0 q2.2))) s15)).g)) ((t__law_flat (List.map (fun (x16 : Int) => (List.map (fun (x17 : Int) => ((x16 + x17) % q2.2)) (rgI 0 q2.2))) s15)).v) fun (places_18 : (List Int)) =>
  T.rt True places_18) r19 places_13) fun (places_20 : (List Int)) =>
  T.lt ((rgOk q2.2 = true) ∧ (List.length (rgI 0 q2.2) ≤ lineN) ∧ (∀ x21 ∈ (rgI 0 q2.2), (List.length (enumI places_20) ≤ lineN))) (List.map (fun (x21 : Int) => (List.map (fun (x22 : (Int × Int)) => x22.1) (List.filter (fun (x22 : (Int × Int)) => (decide (x22.2 = x21))) (enumI places_20)))) (rgI 0 q2.2)) fun (due_23 : (List (List Int))) =>
  T.rt True ((eT (eT eI)) due_23))
  (T.rt True ((eL eD) due_11))) fun (due_24 : D) =>
  T.ite (((t__law_told q2.2 q9.2 false).g) ∧ ((t__law_told q2.2 q9.2 true).g) ∧ (ReprOk ((eL eD) ([(t__law_told q2.2 q9.2 false).v, (t__law_told q2.2 q9.2 true).v] : (List D)))) ∧ (ReprOk ((eL eD) ([due_24, due_24] : (List D))))) (!decide ((shT ((eL eD) ([(t__law_told q2.2 q9.2 false).v, (t__law_told q2.2 q9.2 true).v] : (List D)))) = (shT ((eL eD) ([due_24, due_24] : (List D)))))) (T.rt (True) false)
  (T.ite (((tyD due_24).isSome = true)) (isDb .lst due_24) (T.rt (True) true)
  (T.lt ((rgL 0 q2.2 = true) ∧ ((t__law_order q9.1 (rgI 0 q2.2)).g) ∧ (List.length (cutL ((t__law_order q9.1 (rgI 0 q2.2)).v.1) none (some (2 : Int))) = 2)) ((t__law_order q9.1 (rgI 0 q2.2)).v.2, (List.headD (cutL ((t__law_order q9.1 (rgI 0 q2.2)).v.1) none (some (2 : Int))) default), (List.headD (List.tail (cutL ((t__law_order q9.1 (rgI 0 q2.2)).v.1) none (some (2 : Int)))) default)) fun (q25 : (Dk × Int × Int)) =>
  T.lt ((isTupD due_24 = true) ∧ (InR (List.length (tupOf due_24)) q25.2.1) ∧ (isTupD (getI (tupOf due_24) q25.2.1) = true) ∧ (RepOk (List.length (tupOf (getI (tupOf due_24) q25.2.1)) : Int) ([(1 : Int)] : (List Int))) ∧ (isTupD due_24 = true) ∧ (InR (List.length (tupOf due_24)) q25.2.2) ∧ (isTupD (getI (tupOf due_24) q25.2.2) = true) ∧ (RepOk (List.length (tupOf (getI (tupOf due_24) q25.2.2)) : Int) ([(1 : Int)] : (List Int)))) ([(repI (List.length (tupOf (getI (tupOf due_24) q25.2.1)) : Int) ([(1 : Int)] : (List Int))), (repI (List.length (tupOf (getI (tupOf due_24) q25.2.2)) : Int) ([(1 : Int)] : (List Int)))] : (List (List Int))) fun (rows_26 : (List (List Int))) =>
  T.lt ((rgOk (q9.2 + (1 : Int)) = true)) (rgI 0 (q9.2 + (1 : Int))) fun (r32 : List Int) => T.bndS (T.foldR (fun (s28 : (List (List Int))) (x27 : Int) => T.ite ((InR (List.length s28) (0 : Int)) ∧ (InR (List.length s28) (1 : Int))) (!decide ((List.sum (getI s28 (0 : Int))) = (List.sum (getI s28 (1 : Int))))) (T.rt (True) (Cf.ret false))
  (T.lt ((isTupD due_24 = true) ∧ (InR (List.length (tupOf due_24)) q25.2.1) ∧ (isTupD due_24 = true) ∧ (InR (List.length (tupOf due_24)) q25.2.2) ∧ (List.length (List.zip s28 [(getI (tupOf due_24) q25.2.1), (getI (tupOf due_24) q25.2.2)]) ≤ lineN) ∧ (∀ x29 ∈ (List.zip s28 [(getI (tupOf due_24) q25.2.1), (getI (tupOf due_24) q25.2.2)]), (isTupD x29.2 = true) ∧ (List.length (List.zip x29.1 (tupOf x29.2)) ≤ lineN) ∧ (∀ x30 ∈ (List.zip x29.1 (tupOf x29.2)), (isIntD x30.2 = true) ∧ (mulOk x30.1 (intOf x30.2) = true)))) (List.map (fun (x29 : ((List Int) × D)) => (List.map (fun (x30 : (Int × D)) => (x30.1 * (intOf x30.2))) (List.zip x29.1 (tupOf x29.2)))) (List.zip s28 [(getI (tupOf due_24) q25.2.1), (getI (tupOf due_24) q25.2.2)])) fun (rows_31 : (List (List Int))) =>
  T.rt True (Cf.nxt rows_31))) r32 rows_26) fun (rows_33 : (List (List Int))) =>
  T.ite ((isTupD due_24 = true) ∧ (InR (List.length (tupOf due_24)) (0 : Int)) ∧ (isTupD (getI (tupOf due_24) (0 : Int)) = true)) (decide ((List.length (tupOf (getI (tupOf due_24) (0 : Int))) : Int) > (64 : Int))) (T.rt (True) true)
  (T.lt ((isTupD due_24 = true) ∧ (InR (List.length (tupOf due_24)) q25.2.1) ∧ ((getI (tupOf due_24) q25.2.1) = (eT eI) (List.map (fun y_ => (intOf y_)) (tupOf (getI (tupOf due_24) q25.2.1)))) ∧ (isTupD due_24 = true) ∧ (InR (List.length (tupOf due_24)) q25.2.2) ∧ ((getI (tupOf due_24) q25.2.2) = (eT eI) (List.map (fun y_ => (intOf y_)) (tupOf (getI (tupOf due_24) q25.2.2)))) ∧ ((t_agree_to (List.map (fun y_ => (intOf y_)) (tupOf (getI (tupOf due_24) q25.2.1))) (List.map (fun y_ => (intOf y_)) (tupOf (getI (tupOf due_24) q25.2.2)))).g)) ((t_agree_to (List.map (fun y_ => (intOf y_)) (tupOf (getI (tupOf due_24) q25.2.1))) (List.map (fun y_ => (intOf y_)) (tupOf (getI (tupOf due_24) q25.2.2)))).v) fun (told_34 : (Option Int)) =>
  T.rt ((Option.isSome told_34 = true) ∧ ((decide ((Option.getD told_34 default) ≥ q9.2)) = true → ((decide (q2.2 > (2 : Int))) = false → (Option.isSome told_34 = true) ∧ (Option.isSome (some q9.2) = true) ∧ (EqOk ((eO eI) told_34) ((eO eI) (some q9.2)))))) (decide ((Option.getD told_34 default) ≥ q9.2) && (decide (q2.2 > (2 : Int)) || (dEq ((eO eI) told_34) ((eO eI) (some q9.2)))))))))
theorem sp_law (script_ : (List Int)) (hg : (t_law script_).g) : Sp F_law [(0, (eR eI) script_)] 9 (eB (t_law script_).v) [] := by
  refine sp_of (t := t_law script_) (en := (fun v => eB v)) (io := (fun v => [])) (m := m_law) hg ?_
  show Bt m_law [.v 0 ((eR eI) script_), .u, .u, .u, .u, .u, .u, .u, .u, .u, .u, .u, .u, .u, .u, .u, .u, .u] _ _
  unfold m_law t_law
  exact (bt_step (fun (pot_1 : Dk) => [.v 0 ((eR eI) script_), .v 9 (Dk.d pot_1), .u, .u, .u, .u, .u, .u, .u, .u, .u, .u, .u, .u, .u, .u, .u, .u]) (fun h => (es_asg (e_call (eas_cons (ea_of (e_rdN rfl)) eas_nil) eas_nil rfl rfl (.cons (Nat.zero_le _) .nil) (sp__law_pot script_ h)) rfl)) (fun h => (.v (Nat.le_refl _) (.v (Nat.le_refl _) (.u (.u (.u (.u (.u (.u (.u (.u (.u (.u (.u (.u (.u (.u (.u (.u .nil))))))))))))))))))) (fun pot_1 =>
  (bt_step (fun (q2 : (Dk × Int)) => [.v 0 ((eR eI) script_), .v 9 (Dk.d q2.1), .v 9 (eI q2.2), .u, .u, .u, .u, .u, .u, .u, .u, .u, .u, .u, .u, .u, .u, .u]) (fun h => (es_asg (e_opV e_kc (e_callIo (eas_cons (ea_vw rfl) (eas_cons (ea_of e_kc) eas_nil)) eas_nil rfl rfl rfl rfl (.cons (by decide) (.cons (Nat.zero_le _) .nil)) (sp__law_of pot_1 (9 : Int) h)) os_addI) rfl)) (fun h => (.v (Nat.le_refl _) (.v (Nat.le_refl _) (.v (Nat.le_refl _) (.u (.u (.u (.u (.u (.u (.u (.u (.u (.u (.u (.u (.u (.u (.u .nil))))))))))))))))))) (fun q2 =>
  (bt_forR (en := eI) (fun (st_ : Dk) => [.v 0 ((eR eI) script_), .v 9 (Dk.d st_), .v 9 (eI q2.2), .f, .f, .f, .u, .u, .u, .u, .u, .u, .u, .u, .u, .u, .u, .u]) (fun h => (ei_rng1 (evs_cons e_kc evs_nil) (by decide))) (fun _ => (.v (Nat.le_refl _) (.v (Nat.le_refl _) (.v (Nat.le_refl _) (.fu (.fu (.fu (.u (.u (.u (.u (.u (.u (.u (.u (.u (.u (.u (.u .nil))))))))))))))))))) (fun s4 x3 => (eg_n rfl)) (fun s4 x3 =>
  (bt_step (fun (q5 : (Dk × Int)) => [.v 0 ((eR eI) script_), .v 9 (Dk.d q5.1), .v 9 (eI q2.2), .v 0 (eI x3), .v 9 (eI q5.2), .f, .u, .u, .u, .u, .u, .u, .u, .u, .u, .u, .u, .u]) (fun h => (es_asg (e_opV (e_callIo (eas_cons (ea_vw rfl) (eas_cons (ea_of (e_callIo (eas_cons (ea_vw rfl) (eas_cons (ea_of (e_as (e_lst (evs_cons e_kc (evs_cons e_kc (evs_cons (e_sop (eas_two (ea_of e_kc) (ea_of e_kc)) rfl (o_pow (by decide +kernel))) evs_nil))) rfl (kk := 9) rfl) (d := (eL eI) ([(20 : Int), (5000 : Int), ((10 : Int) ^ Int.toNat (9 : Int))] : (List Int))) rfl)) eas_nil)) eas_nil rfl rfl rfl rfl (.cons (by decide) (.cons (Nat.zero_le _) .nil)) (sp__law_one s4 ([(20 : Int), (5000 : Int), ((10 : Int) ^ Int.toNat (9 : Int))] : (List Int)) h.1))) eas_nil)) eas_nil rfl rfl rfl rfl (.cons (by decide) (.cons (Nat.zero_le _) .nil)) (sp__law_of ((t__law_one s4 ([(20 : Int), (5000 : Int), ((10 : Int) ^ Int.toNat (9 : Int))] : (List Int))).v.2) ((t__law_one s4 ([(20 : Int), (5000 : Int), ((10 : Int) ^ Int.toNat (9 : Int))] : (List Int))).v.1) h.2.1)) (e_callIo (eas_cons (ea_vw rfl) (eas_cons (ea_of (e_as (e_lst (evs_cons e_kc (evs_cons e_kc (evs_cons (e_sop (eas_two (ea_of e_kc) (ea_of e_kc)) rfl (o_pow (by decide +kernel))) (evs_cons (e_sop (eas_two (ea_of e_kc) (ea_of e_kc)) rfl (o_pow (by decide +kernel))) evs_nil)))) rfl (kk := 9) rfl) (d := (eL eI) ([(1 : Int), (1 : Int), ((10 : Int) ^ Int.toNat (12 : Int)), ((10 : Int) ^ Int.toNat (21 : Int))] : (List Int))) rfl)) eas_nil)) eas_nil rfl rfl rfl rfl (.cons (by decide) (.cons (Nat.zero_le _) .nil)) (sp__law_one ((t__law_of ((t__law_one s4 ([(20 : Int), (5000 : Int), ((10 : Int) ^ Int.toNat (9 : Int))] : (List Int))).v.2) ((t__law_one s4 ([(20 : Int), (5000 : Int), ((10 : Int) ^ Int.toNat (9 : Int))] : (List Int))).v.1)).v.2) ([(1 : Int), (1 : Int), ((10 : Int) ^ Int.toNat (12 : Int)), ((10 : Int) ^ Int.toNat (21 : Int))] : (List Int)) h.2.2.1)) (os_eI h.2.2.2)) rfl)) (fun h => (.v (Nat.le_refl _) (.v (Nat.le_refl _) (.v (Nat.le_refl _) (.v (Nat.le_refl _) (.v (Nat.le_refl _) (.ff (.u (.u (.u (.u (.u (.u (.u (.u (.u (.u (.u (.u .nil))))))))))))))))))) (fun q5 =>
  (bt_step (fun (due_6 : Int) => [.v 0 ((eR eI) script_), .v 9 (Dk.d q5.1), .v 9 (eI q2.2), .v 0 (eI x3), .v 9 (eI q5.2), .v 9 (eI due_6), .u, .u, .u, .u, .u, .u, .u, .u, .u, .u, .u, .u]) (fun h => (es_asg (e_call (eas_cons (ea_of (e_rdS rfl rfl)) (eas_cons (ea_of (e_rdS rfl rfl)) eas_nil)) eas_nil rfl rfl (.cons (Nat.zero_le _) (.cons (Nat.zero_le _) .nil)) (sp__law_place q2.2 q5.2 h)) rfl)) (fun h => (.v (Nat.le_refl _) (.v (Nat.le_refl _) (.v (Nat.le_refl _) (.v (Nat.le_refl _) (.v (Nat.le_refl _) (.v (Nat.le_refl _) (.u (.u (.u (.u (.u (.u (.u (.u (.u (.u (.u (.u .nil))))))))))))))))))) (fun due_6 =>
  (bt_last (bt_ifE (fun h => (et_asB (e_sop (eas_two (ea_of (e_sop (eas_cons (ea_of (e_as (e_lst (evs_cons (e_call (eas_cons (ea_of (e_rdS rfl rfl)) (eas_cons (ea_of (e_rdS rfl rfl)) eas_nil)) eas_nil rfl rfl (.cons (Nat.zero_le _) (.cons (Nat.zero_le _) .nil)) (sp_digit_place q2.2 q5.2 h.1)) (evs_cons (e_call eas_nil (eas_cons (ea_of (e_rdS rfl rfl)) (eas_cons (ea_of (e_rdS rfl rfl)) eas_nil)) rfl rfl (.cons (Nat.zero_le _) (.cons (Nat.zero_le _) .nil)) (sp_digit_place q2.2 q5.2 h.2.1)) evs_nil)) rfl (kk := 9) rfl) (d := (eL eI) ([(t_digit_place q2.2 q5.2).v, (t_digit_place q2.2 q5.2).v] : (List Int))) rfl)) eas_nil) rfl (o_repr h.2.2.1))) (ea_of (e_sop (eas_cons (ea_of (e_as (e_lst (evs_cons (e_rdS rfl rfl) (evs_cons (e_rdS rfl rfl) evs_nil)) rfl (kk := 9) rfl) (d := (eL eI) ([due_6, due_6] : (List Int))) rfl)) eas_nil) rfl (o_repr h.2.2.2)))) rfl o_neS))) (fun hc => (bt_ret (f := fun v => (Cf.ret v)) (v := false) (ro_esc (ro_cf ro_ret)) (fun h => e_kc) rfl (fun _ => io_no))) (fun hc =>
  (bt_nx (bt_endC (fun _ => (.v (Nat.le_refl _) (.v (Nat.le_refl _) (.v (Nat.le_refl _) (.fv rfl (.fv rfl (.fv rfl (.u (.u (.u (.u (.u (.u (.u (.u (.u (.u (.u (.u .nil))))))))))))))))))))))))))))) (fun pot_8 =>
  (bt_ifE (fun h => (et_asB (e_sop (eas_two (ea_of (e_call (eas_cons (ea_of (e_rdS rfl rfl)) (eas_cons (ea_of (e_sop (eas_two (ea_of e_kc) (ea_of e_kc)) rfl (o_pow (by decide +kernel)))) eas_nil)) eas_nil rfl rfl (.cons (Nat.zero_le _) (.cons (Nat.zero_le _) .nil)) (sp_digit_place q2.2 ((10 : Int) ^ Int.toNat (30 : Int)) h.1))) (ea_of (e_call (eas_cons (ea_of (e_rdS rfl rfl)) (eas_cons (ea_of (e_sop (eas_two (ea_of e_kc) (ea_of e_kc)) rfl (o_pow (by decide +kernel)))) eas_nil)) eas_nil rfl rfl (.cons (Nat.zero_le _) (.cons (Nat.zero_le _) .nil)) (sp__law_place q2.2 ((10 : Int) ^ Int.toNat (30 : Int)) h.2)))) rfl (o_ne (u := (t_digit_place q2.2 ((10 : Int) ^ Int.toNat (30 : Int))).v) (v := (t__law_place q2.2 ((10 : Int) ^ Int.toNat (30 : Int))).v) eqe_I)))) (fun hc => (bt_ret (f := fun v => v) (v := false) (ro_esc ro_ret) (fun h => e_kc) rfl (fun _ => io_no))) (fun hc =>
  (bt_nx (bt_step (fun (q9 : (Dk × Int)) => [.v 0 ((eR eI) script_), .v 9 (Dk.d q9.1), .v 9 (eI q2.2), .f, .f, .f, .v 9 (eI q9.2), .u, .u, .u, .u, .u, .u, .u, .u, .u, .u, .u]) (fun h => (es_asg (e_callIo (eas_cons (ea_vw rfl) (eas_cons (ea_of (e_callIo (eas_cons (ea_vw rfl) (eas_cons (ea_of (e_as (e_lst (evs_cons e_kc (evs_cons e_kc (evs_cons e_kc (evs_cons e_kc evs_nil)))) rfl (kk := 9) rfl) (d := (eL eI) ([(3 : Int), (6 : Int), (11 : Int), (41 : Int)] : (List Int))) rfl)) eas_nil)) eas_nil rfl rfl rfl rfl (.cons (by decide) (.cons (Nat.zero_le _) .nil)) (sp__law_one pot_8 ([(3 : Int), (6 : Int), (11 : Int), (41 : Int)] : (List Int)) h.1))) eas_nil)) eas_nil rfl rfl rfl rfl (.cons (by decide) (.cons (Nat.zero_le _) .nil)) (sp__law_of ((t__law_one pot_8 ([(3 : Int), (6 : Int), (11 : Int), (41 : Int)] : (List Int))).v.2) ((t__law_one pot_8 ([(3 : Int), (6 : Int), (11 : Int), (41 : Int)] : (List Int))).v.1) h.2)) rfl)) (fun h => (.v (Nat.le_refl _) (.v (Nat.le_refl _) (.v (Nat.le_refl _) (.ff (.ff (.ff (.v (Nat.le_refl _) (.u (.u (.u (.u (.u (.u (.u (.u (.u (.u (.u .nil))))))))))))))))))) (fun q9 =>
  (bt_step (fun (size_10 : Int) => [.v 0 ((eR eI) script_), .v 9 (Dk.d q9.1), .v 9 (eI q2.2), .f, .f, .f, .v 9 (eI q9.2), .v 9 (eI size_10), .u, .u, .u, .u, .u, .u, .u, .u, .u, .u]) (fun h => (es_asg (e_call (eas_cons (ea_of (e_rdS rfl rfl)) (eas_cons (ea_of (e_opV (e_sop (eas_cons (ea_vw rfl) (eas_cons (ea_of e_kc) eas_nil)) rfl o_min2) e_kc os_addI)) eas_nil)) eas_nil rfl rfl (.cons (Nat.zero_le _) (.cons (Nat.zero_le _) .nil)) (sp__law_raised q2.2 ((minI q9.2 (11 : Int)) + (1 : Int)) h)) rfl)) (fun h => (.v (Nat.le_refl _) (.v (Nat.le_refl _) (.v (Nat.le_refl _) (.ff (.ff (.ff (.v (Nat.le_refl _) (.v (Nat.le_refl _) (.u (.u (.u (.u (.u (.u (.u (.u (.u (.u .nil))))))))))))))))))) (fun size_10 =>
  (bt_step (fun (due_11 : (List D)) => [.v 0 ((eR eI) script_), .v 9 (Dk.d q9.1), .v 9 (eI q2.2), .f, .f, .v 9 ((eL eD) due_11), .v 9 (eI q9.2), .v 9 (eI size_10), .u, .u, .u, .u, .u, .u, .u, .u, .u, .u]) (fun h => (es_asg (e_as (e_lst (evs_cons (e_as e_kc (d := eD (eS ("more than" : Str))) rfl) (evs_cons (e_as e_kc (d := eD (eI (1024 : Int))) rfl) (evs_cons (e_as e_kc (d := eD (eB true)) rfl) evs_nil))) rfl (kk := 9) rfl) (d := (eL eD) ([(eS ("more than" : Str)), (eI (1024 : Int)), (eB true)] : (List D))) rfl) rfl)) (fun h => (.v (Nat.le_refl _) (.v (Nat.le_refl _) (.v (Nat.le_refl _) (.ff (.ff (.v (Nat.le_refl _) (.v (Nat.le_refl _) (.v (Nat.le_refl _) (.u (.u (.u (.u (.u (.u (.u (.u (.u (.u .nil))))))))))))))))))) (fun due_11 =>
  (bt_forgetS (bt_if (fun (st_ : D) => [.v 0 ((eR eI) script_), .v 9 (Dk.d q9.1), .v 9 (eI q2.2), .f, .u, .v 8 (eD st_), .v 9 (eI q9.2), .v 9 (eI size_10), .a, .u, .u, .u, .u, .u, .u, .u, .u, .u]) (fun h => (et_and (et_asB (e_sop (eas_two (ea_vw rfl) (ea_of e_kc)) rfl o_le)) (fun hc12 => (et_asB (e_sop (eas_two (ea_vw rfl) (ea_of e_kc)) rfl o_lt))) (fun hc12 => (.v (Nat.le_refl _) (.v (Nat.le_refl _) (.v (Nat.le_refl _) (.ff (.u (.v (Nat.le_refl _) (.v (Nat.le_refl _) (.v (Nat.le_refl _) (.u (.u (.u (.u (.u (.u (.u (.u (.u (.u .nil))))))))))))))))))))) (fun hc => (bt_step (fun (places_13 : (List Int)) => [.v 0 ((eR eI) script_), .v 9 (Dk.d q9.1), .v 9 (eI q2.2), .f, .u, .v 9 ((eL eD) due_11), .v 9 (eI q9.2), .v 9 (eI size_10), .v 9 ((eL eI) places_13), .u, .u, .u, .u, .u, .u, .u, .u, .u]) (fun h => (es_asg (e_rgn1L (e_rdS rfl rfl) h) rfl)) (fun h => (.v (Nat.le_refl _) (.v (Nat.le_refl _) (.v (Nat.le_refl _) (.ff (.u (.v (Nat.le_refl _) (.v (Nat.le_refl _) (.v (Nat.le_refl _) (.v (Nat.le_refl _) (.u (.u (.u (.u (.u (.u (.u (.u (.u .nil))))))))))))))))))) (fun places_13 =>
  (bt_for (en := eI) (fun (st_ : (List Int)) => [.v 0 ((eR eI) script_), .v 9 (Dk.d q9.1), .v 9 (eI q2.2), .f, .u, .v 9 ((eL eD) due_11), .v 9 (eI q9.2), .v 9 (eI size_10), .v 1 ((eL eI) st_), .u, .u, .u, .u, .u, .u, .u, .u, .u]) (fun h => (ei_rng1 (evs_cons (e_rdS rfl rfl) evs_nil) h)) (fun _ => (.v (Nat.le_refl _) (.v (Nat.le_refl _) (.v (Nat.le_refl _) (.ff (.u (.v (Nat.le_refl _) (.v (Nat.le_refl _) (.v (Nat.le_refl _) (.v (by decide) (.u (.u (.u (.u (.u (.u (.u (.u (.u .nil))))))))))))))))))) (fun s15 x14 => (eg_n rfl)) (fun s15 x14 =>
  (bt_last (bt_step (fun (places_18 : (List Int)) => [.v 0 ((eR eI) script_), .v 9 (Dk.d q9.1), .v 9 (eI q2.2), .v 0 (eI x14), .u, .v 9 ((eL eD) due_11), .v 9 (eI q9.2), .v 9 (eI size_10), .v 1 ((eL eI) places_18), .u, .u, .u, .u, .u, .u, .u, .u, .u]) (fun h => (es_forget (es_asg (e_call (eas_cons (ea_of (e_comp (en := eI) (en' := (eL eI)) [.v 0 ((eR eI) script_), .v 9 (Dk.d q9.1), .v 9 (eI q2.2), .v 0 (eI x14), .u, .v 9 ((eL eD) due_11), .v 9 (eI q9.2), .v 9 (eI size_10), .v 0 ((eL eI) s15), .u, .u, .u, .u, .u, .u, .u, .u, .u] (fun (x16 : Int) => (List.map (fun (x17 : Int) => ((x16 + x17) % q2.2)) (rgI 0 q2.2))) (fun (x16 : Int) => (rgOk q2.2 = true) ∧ (List.length (rgI 0 q2.2) ≤ lineN) ∧ (∀ x17 ∈ (rgI 0 q2.2), ((0 : Int) < q2.2))) (ei_L (e_rdN rfl)) h.1 rfl (.v (Nat.le_refl _) (.v (Nat.le_refl _) (.v (Nat.le_refl _) (.v (Nat.le_refl _) (.u (.v (Nat.le_refl _) (.v (Nat.le_refl _) (.v (Nat.le_refl _) (.v (Nat.le_refl _) (.u (.u (.u (.u (.u (.u (.u (.u (.u .nil)))))))))))))))))) h.2.1 (fun x16 => (eg_n rfl)) (fun x16 h => (e_comp (en := eI) (en' := eI) [.v 0 ((eR eI) script_), .v 9 (Dk.d q9.1), .v 9 (eI q2.2), .v 0 (eI x14), .u, .v 9 ((eL eD) due_11), .v 9 (eI q9.2), .v 9 (eI size_10), .v 0 ((eL eI) s15), .u, .u, .u, .u, .u, .v 0 (eI x16), .u, .u, .u] (fun (x17 : Int) => ((x16 + x17) % q2.2)) (fun (x17 : Int) => ((0 : Int) < q2.2)) (ei_rng1 (evs_cons (e_rdS rfl rfl) evs_nil) h.1) h.2.1 rfl (.v (Nat.le_refl _) (.v (Nat.le_refl _) (.v (Nat.le_refl _) (.v (Nat.le_refl _) (.u (.v (Nat.le_refl _) (.v (Nat.le_refl _) (.v (Nat.le_refl _) (.v (Nat.le_refl _) (.u (.u (.u (.u (.u (.v (Nat.le_refl _) (.u (.u (.u .nil)))))))))))))))))) h.2.2 (fun x17 => (eg_n rfl)) (fun x17 h => (e_sop (eas_two (ea_of (e_sop (eas_cons (ea_of (e_opV (e_rdS rfl rfl) (e_rdS rfl rfl) os_addI)) eas_nil) rfl o_int)) (ea_vw rfl)) rfl (o_mod h))) (fun x17 h => (.v (Nat.le_refl _) (.v (Nat.le_refl _) (.v (Nat.le_refl _) (.v (Nat.le_refl _) (.u (.v (Nat.le_refl _) (.v (Nat.le_refl _) (.v (Nat.le_refl _) (.v (Nat.le_refl _) (.u (.u (.u (.u (.u (.v (Nat.le_refl _) (.u (.u (.u .nil))))))))))))))))))))) (fun x16 h => (.v (Nat.le_refl _) (.v (Nat.le_refl _) (.v (Nat.le_refl _) (.v (Nat.le_refl _) (.u (.v (Nat.le_refl _) (.v (Nat.le_refl _) (.v (Nat.le_refl _) (.v (Nat.le_refl _) (.u (.u (.u (.u (.u (.u (.u (.u (.u .nil))))))))))))))))))))) eas_nil) eas_nil rfl rfl (.cons (Nat.zero_le _) .nil) (sp__law_flat (List.map (fun (x16 : Int) => (List.map (fun (x17 : Int) => ((x16 + x17) % q2.2)) (rgI 0 q2.2))) s15) h.2.2)) rfl))) (fun h => (.v (Nat.le_refl _) (.v (Nat.le_refl _) (.v (Nat.le_refl _) (.v (Nat.le_refl _) (.u (.v (Nat.le_refl _) (.v (Nat.le_refl _) (.v (Nat.le_refl _) (.v (Nat.le_refl _) (.u (.u (.u (.u (.u (.u (.u (.u (.u .nil))))))))))))))))))) (fun places_18 =>
  (bt_endL (fun _ => (.v (Nat.le_refl _) (.v (Nat.le_refl _) (.v (Nat.le_refl _) (.fv rfl (.u (.v (Nat.le_refl _) (.v (Nat.le_refl _) (.v (Nat.le_refl _) (.v (Nat.le_refl _) (.u (.u (.u (.u (.u (.u (.u (.u (.u .nil)))))))))))))))))))))))) (fun places_20 =>
  (bt_last (bt_step (fun (due_23 : (List (List Int))) => [.v 0 ((eR eI) script_), .v 9 (Dk.d q9.1), .v 9 (eI q2.2), .f, .u, .v 8 ((eT (eT eI)) due_23), .v 9 (eI q9.2), .v 9 (eI size_10), .v 0 ((eL eI) places_20), .u, .u, .u, .u, .u, .u, .u, .u, .u]) (fun h => (es_forget (es_asg (e_op1 (e_comp (en := eI) (en' := (eT eI)) [.v 0 ((eR eI) script_), .v 9 (Dk.d q9.1), .v 9 (eI q2.2), .f, .u, .v 9 ((eL eD) due_11), .v 9 (eI q9.2), .v 9 (eI size_10), .v 0 ((eL eI) places_20), .u, .u, .u, .u, .u, .u, .u, .u, .u] (fun (x21 : Int) => (List.map (fun (x22 : (Int × Int)) => x22.1) (List.filter (fun (x22 : (Int × Int)) => (decide (x22.2 = x21))) (enumI places_20)))) (fun (x21 : Int) => (List.length (enumI places_20) ≤ lineN)) (ei_rng1 (evs_cons (e_rdS rfl rfl) evs_nil) h.1) h.2.1 rfl (.v (Nat.le_refl _) (.v (Nat.le_refl _) (.v (Nat.le_refl _) (.ff (.u (.v (Nat.le_refl _) (.v (Nat.le_refl _) (.v (Nat.le_refl _) (.v (Nat.zero_le _) (.u (.u (.u (.u (.u (.u (.u (.u (.u .nil)))))))))))))))))) h.2.2 (fun x21 => (eg_n rfl)) (fun x21 h => (e_op1 (e_compF (en := (eP eI eI)) (en' := eI) [.v 0 ((eR eI) script_), .v 9 (Dk.d q9.1), .v 9 (eI q2.2), .f, .u, .v 9 ((eL eD) due_11), .v 9 (eI q9.2), .v 9 (eI size_10), .v 0 ((eL eI) places_20), .v 0 (eI x21), .u, .u, .u, .u, .u, .u, .u, .u] (fun (x22 : (Int × Int)) => (decide (x22.2 = x21))) (fun (x22 : (Int × Int)) => x22.1) (fun (x22 : (Int × Int)) => True) (ei_enum (evs_cons (e_rdN rfl) evs_nil) .l) h rfl (.v (Nat.le_refl _) (.v (Nat.le_refl _) (.v (Nat.le_refl _) (.ff (.u (.v (Nat.le_refl _) (.v (Nat.le_refl _) (.v (Nat.le_refl _) (.v (Nat.le_refl _) (.v (Nat.le_refl _) (.u (.u (.u (.u (.u (.u (.u (.u .nil)))))))))))))))))) (fun _ _ => True.intro) (fun x22 => (eg_R rfl rfl (egs_cons (eg_n rfl) (egs_cons (eg_n rfl) egs_nil)))) (fun x22 h => (et_asB (e_sop (eas_two (ea_vw rfl) (ea_vw rfl)) rfl (o_eq (u := x22.2) (v := x21) eqe_I)))) (fun x22 h hc => (e_rdS rfl rfl)) (fun x22 h hc => (.v (Nat.le_refl _) (.v (Nat.le_refl _) (.v (Nat.le_refl _) (.ff (.u (.v (Nat.le_refl _) (.v (Nat.le_refl _) (.v (Nat.le_refl _) (.v (Nat.le_refl _) (.v (Nat.le_refl _) (.u (.u (.u (.u (.u (.u (.u (.u .nil))))))))))))))))))) (fun x22 h => (.v (Nat.le_refl _) (.v (Nat.le_refl _) (.v (Nat.le_refl _) (.ff (.u (.v (Nat.le_refl _) (.v (Nat.le_refl _) (.v (Nat.le_refl _) (.v (Nat.le_refl _) (.v (Nat.le_refl _) (.u (.u (.u (.u (.u (.u (.u (.u .nil)))))))))))))))))))) o1_tupL)) (fun x21 h => (.v (Nat.le_refl _) (.v (Nat.le_refl _) (.v (Nat.le_refl _) (.ff (.u (.v (Nat.le_refl _) (.v (Nat.le_refl _) (.v (Nat.le_refl _) (.v (Nat.le_refl _) (.u (.u (.u (.u (.u (.u (.u (.u (.u .nil)))))))))))))))))))) o1_tupL) rfl))) (fun h => (.v (Nat.le_refl _) (.v (Nat.le_refl _) (.v (Nat.le_refl _) (.ff (.u (.v (Nat.le_refl _) (.v (Nat.le_refl _) (.v (Nat.le_refl _) (.v (Nat.le_refl _) (.u (.u (.u (.u (.u (.u (.u (.u (.u .nil))))))))))))))))))) (fun due_23 =>
  (bt_end (fun _ => (.v (Nat.le_refl _) (.v (Nat.le_refl _) (.v (Nat.le_refl _) (.ff (.u (.v (Nat.le_refl _) (.v (Nat.le_refl _) (.v (Nat.le_refl _) (.a (.u (.u (.u (.u (.u (.u (.u (.u (.u .nil)))))))))))))))))))))))))))) (fun hc => (bt_end (fun _ => (.v (Nat.le_refl _) (.v (Nat.le_refl _) (.v (Nat.le_refl _) (.ff (.u (.v (by decide) (.v (Nat.le_refl _) (.v (Nat.le_refl _) (.a (.u (.u (.u (.u (.u (.u (.u (.u (.u .nil))))))))))))))))))))) (fun due_24 =>
  (bt_ifE (fun h => (et_asB (e_sop (eas_two (ea_of (e_sop (eas_cons (ea_of (e_as (e_lst (evs_cons (e_call (eas_cons (ea_of (e_rdS rfl rfl)) (eas_cons (ea_of (e_rdS rfl rfl)) (eas_cons (ea_of e_kc) eas_nil))) eas_nil rfl rfl (.cons (Nat.zero_le _) (.cons (Nat.zero_le _) (.cons (Nat.zero_le _) .nil))) (sp__law_told q2.2 q9.2 false h.1)) (evs_cons (e_call (eas_cons (ea_of (e_rdS rfl rfl)) (eas_cons (ea_of (e_rdS rfl rfl)) (eas_cons (ea_of e_kc) eas_nil))) eas_nil rfl rfl (.cons (Nat.zero_le _) (.cons (Nat.zero_le _) (.cons (Nat.zero_le _) .nil))) (sp__law_told q2.2 q9.2 true h.2.1)) evs_nil)) rfl (kk := 1) rfl) (d := (eL eD) ([(t__law_told q2.2 q9.2 false).v, (t__law_told q2.2 q9.2 true).v] : (List D))) rfl)) eas_nil) rfl (o_repr h.2.2.1))) (ea_of (e_sop (eas_cons (ea_of (e_as (e_lst (evs_cons (e_rdN rfl) (evs_cons (e_rdN rfl) evs_nil)) rfl (kk := 1) rfl) (d := (eL eD) ([due_24, due_24] : (List D))) rfl)) eas_nil) rfl (o_repr h.2.2.2)))) rfl o_neS))) (fun hc => (bt_ret (f := fun v => v) (v := false) (ro_esc ro_ret) (fun h => e_kc) rfl (fun _ => io_no))) (fun hc =>
  (bt_nx (bt_ifE (fun h => (et_asB (e_un (ea_vw rfl) rfl (o_isD h)))) (fun hc => (bt_ret (f := fun v => v) (v := true) (ro_esc ro_ret) (fun h => e_kc) rfl (fun _ => io_no))) (fun hc =>
  (bt_nx (bt_step (fun (q25 : (Dk × Int × Int)) => [.v 0 ((eR eI) script_), .v 9 (Dk.d q25.1), .v 9 (eI q2.2), .f, .u, .v 0 (eD due_24), .v 9 (eI q9.2), .v 9 (eI size_10), .a, .v 0 (eI q25.2.1), .v 0 (eI q25.2.2), .u, .u, .u, .u, .u, .u, .u]) (fun h => (es_gen (e_slc (e_callIo (eas_cons (ea_vw rfl) (eas_cons (ea_of (e_rgn1L (e_rdS rfl rfl) h.1)) eas_nil)) eas_nil rfl rfl rfl rfl (.cons (by decide) (.cons (Nat.zero_le _) .nil)) (sp__law_order q9.1 (rgI 0 q2.2) h.2.1)) ep_no (ep_as e_kc) sl_L) (eg_RTL rfl h.2.2 (egs_cons (eg_n rfl) (egs_cons (eg_n rfl) egs_nil))))) (fun h => (.v (Nat.le_refl _) (.v (Nat.le_refl _) (.v (Nat.le_refl _) (.ff (.u (.v (Nat.le_refl _) (.v (Nat.le_refl _) (.v (Nat.le_refl _) (.a (.v (Nat.le_refl _) (.v (Nat.le_refl _) (.u (.u (.u (.u (.u (.u (.u .nil))))))))))))))))))) (fun q25 =>
  (bt_step (fun (rows_26 : (List (List Int))) => [.v 0 ((eR eI) script_), .v 9 (Dk.d q25.1), .v 9 (eI q2.2), .f, .u, .v 0 (eD due_24), .v 9 (eI q9.2), .v 9 (eI size_10), .a, .v 0 (eI q25.2.1), .v 0 (eI q25.2.2), .v 9 ((eL (eL eI)) rows_26), .u, .u, .u, .u, .u, .u]) (fun h => (es_asg (e_as (e_lst (evs_cons (e_opV (e_as (e_lst (evs_cons e_kc evs_nil) rfl (kk := 9) rfl) (d := (eL eI) ([(1 : Int)] : (List Int))) rfl) (e_sop (eas_cons (ea_of (e_subN rfl (e_rdS rfl rfl) rfl (ss_D h.1 h.2.1))) eas_nil) rfl (o_lenTD h.2.2.1)) (os_eL fl_I h.2.2.2.1)) (evs_cons (e_opV (e_as (e_lst (evs_cons e_kc evs_nil) rfl (kk := 9) rfl) (d := (eL eI) ([(1 : Int)] : (List Int))) rfl) (e_sop (eas_cons (ea_of (e_subN rfl (e_rdS rfl rfl) rfl (ss_D h.2.2.2.2.1 h.2.2.2.2.2.1))) eas_nil) rfl (o_lenTD h.2.2.2.2.2.2.1)) (os_eL fl_I h.2.2.2.2.2.2.2)) evs_nil)) rfl (kk := 9) rfl) (d := (eL (eL eI)) ([(repI (List.length (tupOf (getI (tupOf due_24) q25.2.1)) : Int) ([(1 : Int)] : (List Int))), (repI (List.length (tupOf (getI (tupOf due_24) q25.2.2)) : Int) ([(1 : Int)] : (List Int)))] : (List (List Int)))) rfl) rfl)) (fun h => (.v (Nat.le_refl _) (.v (Nat.le_refl _) (.v (Nat.le_refl _) (.ff (.u (.v (Nat.le_refl _) (.v (Nat.le_refl _) (.v (Nat.le_refl _) (.a (.v (Nat.le_refl _) (.v (Nat.le_refl _) (.v (Nat.le_refl _) (.u (.u (.u (.u (.u (.u .nil))))))))))))))))))) (fun rows_26 =>
  (bt_forR (en := eI) (fun (st_ : (List (List Int))) => [.v 0 ((eR eI) script_), .v 9 (Dk.d q25.1), .v 9 (eI q2.2), .f, .u, .v 0 (eD due_24), .v 9 (eI q9.2), .v 9 (eI size_10), .a, .v 0 (eI q25.2.1), .v 0 (eI q25.2.2), .v 9 ((eL (eL eI)) st_), .f, .u, .u, .u, .u, .u]) (fun h => (ei_rng1 (evs_cons (e_opV (e_rdS rfl rfl) e_kc os_addI) evs_nil) h)) (fun _ => (.v (Nat.le_refl _) (.v (Nat.le_refl _) (.v (Nat.le_refl _) (.ff (.u (.v (Nat.le_refl _) (.v (Nat.le_refl _) (.v (Nat.le_refl _) (.a (.v (Nat.le_refl _) (.v (Nat.le_refl _) (.v (Nat.le_refl _) (.fu (.u (.u (.u (.u (.u .nil))))))))))))))))))) (fun s28 x27 => (eg_n rfl)) (fun s28 x27 =>
  (bt_ifE (fun h => (et_asB (e_sop (eas_two (ea_of (e_sop (eas_cons (ea_of (e_subN rfl e_kc rfl (ss_LN h.1))) eas_nil) rfl (o_sumL (xs := (getI s28 (0 : Int)))))) (ea_of (e_sop (eas_cons (ea_of (e_subN rfl e_kc rfl (ss_LN h.2))) eas_nil) rfl (o_sumL (xs := (getI s28 (1 : Int))))))) rfl (o_ne (u := (List.sum (getI s28 (0 : Int)))) (v := (List.sum (getI s28 (1 : Int)))) eqe_I)))) (fun hc => (bt_ret (f := fun v => (Cf.ret v)) (v := false) (ro_esc (ro_cf ro_ret)) (fun h => e_kc) rfl (fun _ => io_no))) (fun hc =>
  (bt_nx (bt_last (bt_step (fun (rows_31 : (List (List Int))) => [.v 0 ((eR eI) script_), .v 9 (Dk.d q25.1), .v 9 (eI q2.2), .f, .u, .v 0 (eD due_24), .v 9 (eI q9.2), .v 9 (eI size_10), .a, .v 0 (eI q25.2.1), .v 0 (eI q25.2.2), .v 9 ((eL (eL eI)) rows_31), .v 0 (eI x27), .u, .u, .u, .u, .u]) (fun h => (es_forget (es_asg (e_comp (en := (eP (eL eI) eD)) (en' := (eL eI)) [.v 0 ((eR eI) script_), .v 9 (Dk.d q25.1), .v 9 (eI q2.2), .f, .u, .v 0 (eD due_24), .v 9 (eI q9.2), .v 9 (eI size_10), .a, .v 0 (eI q25.2.1), .v 0 (eI q25.2.2), .v 0 ((eL (eL eI)) s28), .v 0 (eI x27), .u, .u, .u, .u, .u] (fun (x29 : ((List Int) × D)) => (List.map (fun (x30 : (Int × D)) => (x30.1 * (intOf x30.2))) (List.zip x29.1 (tupOf x29.2)))) (fun (x29 : ((List Int) × D)) => (isTupD x29.2 = true) ∧ (List.length (List.zip x29.1 (tupOf x29.2)) ≤ lineN) ∧ (∀ x30 ∈ (List.zip x29.1 (tupOf x29.2)), (isIntD x30.2 = true) ∧ (mulOk x30.1 (intOf x30.2) = true))) (ei_zip (evs_cons (e_rdN rfl) (evs_cons (e_as (e_as (e_tup (evs_cons (e_subN rfl (e_rdS rfl rfl) rfl (ss_D h.1 h.2.1)) (evs_cons (e_subN rfl (e_rdS rfl rfl) rfl (ss_D h.2.2.1 h.2.2.2.1)) evs_nil)) rfl (kk := 0) rfl) (d := (eP eD eD) ((getI (tupOf due_24) q25.2.1), (getI (tupOf due_24) q25.2.2))) rfl) (d := (eT eD) [(getI (tupOf due_24) q25.2.1), (getI (tupOf due_24) q25.2.2)]) rfl) evs_nil)) .l .t) h.2.2.2.2.1 rfl (.v (Nat.le_refl _) (.v (Nat.le_refl _) (.v (Nat.le_refl _) (.ff (.u (.v (Nat.le_refl _) (.v (Nat.le_refl _) (.v (Nat.le_refl _) (.a (.v (Nat.le_refl _) (.v (Nat.le_refl _) (.v (Nat.le_refl _) (.v (Nat.le_refl _) (.u (.u (.u (.u (.u .nil)))))))))))))))))) h.2.2.2.2.2 (fun x29 => (eg_R rfl rfl (egs_cons (eg_n rfl) (egs_cons (eg_n rfl) egs_nil)))) (fun x29 h => (e_comp (en := (eP eI eD)) (en' := eI) [.v 0 ((eR eI) script_), .v 9 (Dk.d q25.1), .v 9 (eI q2.2), .f, .u, .v 0 (eD due_24), .v 9 (eI q9.2), .v 9 (eI size_10), .a, .v 0 (eI q25.2.1), .v 0 (eI q25.2.2), .v 0 ((eL (eL eI)) s28), .v 0 (eI x27), .u, .u, .v 0 ((eL eI) x29.1), .v 0 (eD x29.2), .u] (fun (x30 : (Int × D)) => (x30.1 * (intOf x30.2))) (fun (x30 : (Int × D)) => (isIntD x30.2 = true) ∧ (mulOk x30.1 (intOf x30.2) = true)) (ei_zip (evs_cons (e_rdN rfl) (evs_cons (e_as (e_rdN rfl) (cv_tup h.1)) evs_nil)) .l .t) h.2.1 rfl (.v (Nat.le_refl _) (.v (Nat.le_refl _) (.v (Nat.le_refl _) (.ff (.u (.v (Nat.le_refl _) (.v (Nat.le_refl _) (.v (Nat.le_refl _) (.a (.v (Nat.le_refl _) (.v (Nat.le_refl _) (.v (Nat.le_refl _) (.v (Nat.le_refl _) (.u (.u (.v (Nat.le_refl _) (.v (Nat.le_refl _) (.u .nil)))))))))))))))))) h.2.2 (fun x30 => (eg_R rfl rfl (egs_cons (eg_n rfl) (egs_cons (eg_n rfl) egs_nil)))) (fun x30 h => (e_opV (e_rdS rfl rfl) (e_as (e_rdN rfl) (cv_int h.1)) (os_eI h.2))) (fun x30 h => (.v (Nat.le_refl _) (.v (Nat.le_refl _) (.v (Nat.le_refl _) (.ff (.u (.v (Nat.le_refl _) (.v (Nat.le_refl _) (.v (Nat.le_refl _) (.a (.v (Nat.le_refl _) (.v (Nat.le_refl _) (.v (Nat.le_refl _) (.v (Nat.le_refl _) (.u (.u (.v (Nat.le_refl _) (.v (Nat.le_refl _) (.u .nil))))))))))))))))))))) (fun x29 h => (.v (Nat.le_refl _) (.v (Nat.le_refl _) (.v (Nat.le_refl _) (.ff (.u (.v (Nat.le_refl _) (.v (Nat.le_refl _) (.v (Nat.le_refl _) (.a (.v (Nat.le_refl _) (.v (Nat.le_refl _) (.v (Nat.le_refl _) (.v (Nat.le_refl _) (.u (.u (.u (.u (.u .nil)))))))))))))))))))) rfl))) (fun h => (.v (Nat.le_refl _) (.v (Nat.le_refl _) (.v (Nat.le_refl _) (.ff (.u (.v (Nat.le_refl _) (.v (Nat.le_refl _) (.v (Nat.le_refl _) (.a (.v (Nat.le_refl _) (.v (Nat.le_refl _) (.v (Nat.le_refl _) (.v (Nat.le_refl _) (.u (.u (.u (.u (.u .nil))))))))))))))))))) (fun rows_31 =>
  (bt_endC (fun _ => (.v (Nat.le_refl _) (.v (Nat.le_refl _) (.v (Nat.le_refl _) (.ff (.u (.v (Nat.le_refl _) (.v (Nat.le_refl _) (.v (Nat.le_refl _) (.a (.v (Nat.le_refl _) (.v (Nat.le_refl _) (.v (Nat.le_refl _) (.fv rfl (.u (.u (.u (.u (.u .nil))))))))))))))))))))))))))) (fun rows_33 =>
  (bt_ifE (fun h => (et_asB (e_sop (eas_two (ea_of (e_sop (eas_cons (ea_of (e_subN rfl e_kc rfl (ss_D h.1 h.2.1))) eas_nil) rfl (o_lenTD h.2.2))) (ea_of e_kc)) rfl o_gt))) (fun hc => (bt_ret (f := fun v => v) (v := true) (ro_esc ro_ret) (fun h => e_kc) rfl (fun _ => io_no))) (fun hc =>
  (bt_nx (bt_step (fun (told_34 : (Option Int)) => [.v 0 ((eR eI) script_), .v 9 (Dk.d q25.1), .v 9 (eI q2.2), .f, .u, .v 0 (eD due_24), .v 9 (eI q9.2), .v 9 (eI size_10), .a, .v 0 (eI q25.2.1), .v 0 (eI q25.2.2), .v 9 ((eL (eL eI)) rows_33), .f, .v 9 ((eO eI) told_34), .u, .u, .u, .u]) (fun h => (es_asg (e_call (eas_cons (ea_of (e_as (e_subN rfl (e_rdS rfl rfl) rfl (ss_D h.1 h.2.1)) h.2.2.1)) (eas_cons (ea_of (e_as (e_subN rfl (e_rdS rfl rfl) rfl (ss_D h.2.2.2.1 h.2.2.2.2.1)) h.2.2.2.2.2.1)) eas_nil)) eas_nil rfl rfl (.cons (Nat.zero_le _) (.cons (Nat.zero_le _) .nil)) (sp_agree_to (List.map (fun y_ => (intOf y_)) (tupOf (getI (tupOf due_24) q25.2.1))) (List.map (fun y_ => (intOf y_)) (tupOf (getI (tupOf due_24) q25.2.2))) h.2.2.2.2.2.2)) rfl)) (fun h => (.v (Nat.le_refl _) (.v (Nat.le_refl _) (.v (Nat.le_refl _) (.ff (.u (.v (Nat.le_refl _) (.v (Nat.le_refl _) (.v (Nat.le_refl _) (.a (.v (Nat.le_refl _) (.v (Nat.le_refl _) (.v (Nat.le_refl _) (.ff (.v (Nat.le_refl _) (.u (.u (.u (.u .nil))))))))))))))))))) (fun told_34 =>
  (bt_ret (f := fun v => v) (v := (decide ((Option.getD told_34 default) ≥ q9.2) && (decide (q2.2 > (2 : Int)) || (dEq ((eO eI) told_34) ((eO eI) (some q9.2)))))) ro_ret (fun h => (e_andV (e_sop (eas_two (ea_vw rfl) (ea_vw rfl)) rfl (o_eL (cv_O h.1) o_ge)) (fun hc35 => (e_orV (e_sop (eas_two (ea_vw rfl) (ea_of e_kc)) rfl o_gt) (fun hc36 => (e_sop (eas_two (ea_vw rfl) (ea_vw rfl)) rfl (o_eqD ((h.2 hc35) hc36).2.2))) (fun hc36 => (.v (Nat.le_refl _) (.v (Nat.le_refl _) (.v (Nat.le_refl _) (.ff (.u (.v (Nat.le_refl _) (.v (Nat.le_refl _) (.v (Nat.le_refl _) (.a (.v (Nat.le_refl _) (.v (Nat.le_refl _) (.v (Nat.le_refl _) (.ff (.v (Nat.le_refl _) (.u (.u (.u (.u .nil))))))))))))))))))))) (fun hc35 => (.v (Nat.le_refl _) (.v (Nat.le_refl _) (.v (Nat.le_refl _) (.ff (.u (.v (Nat.le_refl _) (.v (Nat.le_refl _) (.v (Nat.le_refl _) (.a (.v (Nat.le_refl _) (.v (Nat.le_refl _) (.v (Nat.le_refl _) (.ff (.v (Nat.le_refl _) (.u (.u (.u (.u .nil))))))))))))))))))))) rfl (fun _ => io_no)))))))))))))))))))))))))))))))))))))
end Lk63
set_option Elab.async false
set_option linter.all false
set_option maxRecDepth 100000
set_option maxHeartbeats 1000000
namespace Lk63
open PySem PySem.Spec PyProof.Rows L2 Vs Ts
/-! draws (list pot) -/
theorem og {p : Dk} {many : Int} (h : many ≤ 1000000000000000000000000000000000000000000) : (t__law_of p many).g := by show many < 2 ^ 200; omega
theorem ov0 {p : Dk} {many : Int} (h : 0 < many) : 0 ≤ (t__law_of p many).v.1 := draw_ge p h
theorem ov1 {p : Dk} {many : Int} (h : 0 < many) : (t__law_of p many).v.1 < many := draw_lt p h
theorem pot_ok (ns : List Int) (h : ns.length ≤ 63) : (t__law_pot ns).g := by
  have hc : (cutL ns none (some 63)).length ≤ 63 := Nat.le_trans cut_len h
  have : Tw (t__law_pot ns) fun _ => True := by
    unfold t__law_pot
    refine tw_lt (Nat.le_trans hc (by decide)) (tw_lt True.intro (tw_bnd ((tw_fold (I := fun _ => True) (fun s x _ _ => tw_lt True.intro (tw_rt True.intro True.intro)) True.intro).imp fun v _ => tw_rt ⟨?_, ?_⟩ True.intro)))
    · rw [List.length_map]; exact Nat.le_trans hc (by decide)
    · rw [List.length_map]
      refine Nat.lt_of_le_of_lt (List.length_filter_le _ _) ?_
      show (List.map _ _).length < 1000
      rw [List.length_map]
      omega
  exact this.g
theorem ln_le {n : Nat} (h : n ≤ 1000) : n ≤ lineN := Nat.le_trans h (by decide)
theorem one_ok (p : Dk) {xs : List Int} (h0 : 0 < xs.length) (h1 : xs.length ≤ 1000) : Tw (t__law_one p xs) fun v => v.1 ∈ xs := by
  have hi : InR xs.length ((t__law_of p (xs.length : Int)).v.1) := inR_of (ov0 (by omega)) (ov1 (by omega))
  unfold t__law_one
  exact tw_rt ⟨og (by omega), hi⟩ (getI_mem hi)
theorem er_perm : ∀ (l : List Int) (i : Nat) (h : i < l.length), (l[i] :: l.eraseIdx i).Perm l
  | x :: xs, 0, _ => List.Perm.refl _
  | x :: xs, i + 1, h => by
    have ih := er_perm xs i (by simpa using h)
    exact (List.Perm.swap _ _ _).trans (ih.cons x)
theorem del_perm {xs fs : List Int} {i : Int} (h0 : 0 ≤ i) (h1 : i < xs.length) : (delI xs i ++ (fs ++ [getI xs i])).Perm (xs ++ fs) := by
  have hi : i.toNat < xs.length := by omega
  have p := er_perm xs i.toNat hi
  have e1 : delI xs i = xs.eraseIdx i.toNat := by unfold delI; rw [ixI_nat h0]
  rw [e1, getI_get h0 h1, ← List.append_assoc]
  refine List.perm_append_comm.trans ?_
  show ((xs[i.toNat] :: (xs.eraseIdx i.toNat ++ fs))).Perm _
  exact (p.append_right fs)
theorem order_ok (p : Dk) {row : List Int} (h : row.length ≤ 1000) : Tw (t__law_order p row) fun v => v.1.Perm row := by
  unfold t__law_order
  refine tw_ltP (R := fun (q : List Int × List Int) => q = (row, [])) True.intro rfl fun q eq => ?_
  subst eq
  have hN : row.length < whN := Nat.lt_of_le_of_lt h (by decide)
  generalize whN = N at hN ⊢
  refine tw_bnd (Tw.imp (tw_whl (I := fun (s : Dk × List Int × List Int) => (s.2.1 ++ s.2.2).Perm row) (μ := fun s => s.2.1.length) (fun s i1 => ⟨True.intro, fun hc => ?_⟩) N _ (by simp) hN) fun s ⟨i1, hc⟩ => tw_rt True.intro ?_)
  · have hc : (!decide (s.2.1 = ([] : List Int))) = true := hc
    have hne : s.2.1 ≠ [] := by simpa using hc
    have hl : 0 < s.2.1.length := List.length_pos_iff.mpr hne
    have d0 := ov0 (p := s.1) (many := (s.2.1.length : Int)) (by omega)
    have d1 := ov1 (p := s.1) (many := (s.2.1.length : Int)) (by omega)
    have ll := len_delI (xs := s.2.1) d0 d1
    have le := i1.length_eq
    rw [List.length_append] at le
    refine tw_lt ⟨og (by omega), ⟨inR_of d0 d1, ln_le (by omega)⟩, Nat.lt_of_lt_of_le (by omega : s.2.2.length < 1000) (by decide)⟩ (tw_rt True.intro ⟨(del_perm d0 d1).trans i1, ?_⟩)
    simp only [ll]; omega
  · have hc : (!decide (s.2.1 = ([] : List Int))) = false := hc
    have he : s.2.1 = [] := by simpa using hc
    rw [he, List.nil_append] at i1
    exact i1
/-! sums of figures -/
def dsum : Nat → Int → Int → Int
  | 0, _, _ => 0
  | f + 1, b, x => x % b + dsum f b (x / b)
def P (b x : Int) : Int := dsum 10 b x % b
theorem dsum_0 {b : Int} : ∀ f, dsum f b 0 = 0
  | 0 => rfl
  | f + 1 => by
    show (0 : Int) % b + dsum f b (0 / b) = 0
    rw [Int.zero_emod, Int.zero_ediv, dsum_0 f]
    rfl
theorem divOk {y : Int} (h0 : 0 < y) (h1 : y ≤ 1000000000000) : DivOk y := ⟨h0, Nat.lt_trans (small_log (small_of (by omega) (by omega))) (by decide)⟩
theorem same_place {b x : Int} : t_digit_place b x = t__law_place b x := rfl
theorem place_ok {b x : Int} (b0 : 2 ≤ b) (b1 : b ≤ 10) (x0 : 0 ≤ x) (x1 : x ≤ 1000000000000000000000000000000) : Tw (t_digit_place b x) fun v => 0 ≤ v ∧ v < b := by
  have hN : 101 < whN := by decide
  unfold t_digit_place
  have hx : x.toNat < 2 ^ 100 := by omega
  have hμ : lg x.toNat < whN := Nat.lt_of_le_of_lt (lg_lt hx) (Nat.lt_of_succ_lt hN)
  generalize whN = N at hμ ⊢
  refine tw_lt True.intro (tw_bnd (Tw.imp (tw_whl (I := fun (s : Int × Int) => 0 ≤ s.1 ∧ s.1 ≤ 1000000000000000000000000000000) (μ := fun s => lg s.1.toNat) (fun s ⟨i0, i1⟩ => ⟨True.intro, fun hc => ?_⟩) N _ ⟨x0, x1⟩ hμ) fun s _ => tw_rt (by omega) ⟨Int.emod_nonneg _ (by omega), Int.emod_lt_of_pos _ (by omega)⟩))
  have hc : decide (s.1 > 0) = true := hc
  have h0 := of_decide_eq_true hc
  have e1 : s.1 / b ≤ s.1 / 2 := by
    have h2 : s.1 = b * (s.1 / b) + s.1 % b := (Int.mul_ediv_add_emod s.1 b).symm
    have h3 := Int.emod_nonneg s.1 (show b ≠ 0 by omega)
    have h4 : 0 ≤ s.1 / b := Int.ediv_nonneg i0 (by omega)
    have h5 : 2 * (s.1 / b) ≤ b * (s.1 / b) := Int.mul_le_mul_of_nonneg_right b0 h4
    omega
  have e0 : 0 ≤ s.1 / b := Int.ediv_nonneg i0 (by omega)
  refine tw_lt ⟨by omega, divOk (by omega) (by omega)⟩ (tw_rt True.intro ⟨⟨e0, by omega⟩, ?_⟩)
  exact lg_half (by simp only; omega) (by omega)
theorem whl_ds {b : Int} (b0 : 2 ≤ b) (b1 : b ≤ 10) : ∀ (f m : Nat) (x t : Int), 0 ≤ x → x < 2 ^ f → Tw (T.whl (fun (s3 : (Int × Int)) => ⟨decide (s3.1 > (0 : Int)), True⟩) (fun (s3 : (Int × Int)) => T.lt (((0 : Int) < b) ∧ (DivOk b)) ((s3.1 / b), (s3.2 + (s3.1 % b))) fun (q4 : (Int × Int)) =>
  T.rt True (q4.1, q4.2)) (m + (f + 1)) (x, t)) fun s => s.2 = t + dsum f b x
  | 0, m, x, t, h0, h1 => by
    have : x = 0 := by
      have : (2 : Int) ^ 0 = 1 := rfl
      omega
    subst this
    exact tw_wh0 True.intro rfl (by show t = t + 0; omega)
  | f + 1, m, x, t, h0, h1 => by
    by_cases hx : 0 < x
    · have e1 : x / b ≤ x / 2 := by
        have h2 : x = b * (x / b) + x % b := (Int.mul_ediv_add_emod x b).symm
        have h3 := Int.emod_nonneg x (show b ≠ 0 by omega)
        have h4 : 0 ≤ x / b := Int.ediv_nonneg h0 (by omega)
        have h5 : 2 * (x / b) ≤ b * (x / b) := Int.mul_le_mul_of_nonneg_right b0 h4
        omega
      have e0 : 0 ≤ x / b := Int.ediv_nonneg h0 (by omega)
      have e2 : (2 : Int) ^ (f + 1) = 2 * 2 ^ f := by rw [Int.pow_succ]; omega
      refine tw_wh1 True.intro (decide_eq_true hx) (tw_lt ⟨by omega, divOk (by omega) (by omega)⟩ (tw_rt True.intro ?_))
      refine (whl_ds b0 b1 f m (x / b) (t + x % b) e0 (by omega)).imp fun s hs => ?_
      rw [hs]
      show _ = t + (x % b + dsum f b (x / b))
      omega
    · have : x = 0 := by omega
      subst this
      refine tw_wh0 True.intro rfl ?_
      rw [dsum_0]
      show t = t + 0
      omega
theorem place_val {b x : Int} (b0 : 2 ≤ b) (b1 : b ≤ 10) (x0 : 0 ≤ x) (x1 : x < 1024) : Tw (t_digit_place b x) (· = P b x) := by
  obtain ⟨N, hN⟩ := whN_more 11 (by decide)
  have h2 : x < 2 ^ 10 := x1
  unfold t_digit_place
  rw [hN]
  refine tw_lt True.intro (tw_bnd ((whl_ds b0 b1 10 N x 0 x0 h2).imp fun s hs => tw_rt (by omega) ?_))
  rw [hs, Int.zero_add]
  rfl
theorem P_rg {b x : Int} (b0 : 2 ≤ b) : 0 ≤ P b x ∧ P b x < b := ⟨Int.emod_nonneg _ (by omega), Int.emod_lt_of_pos _ (by omega)⟩
end Lk63
set_option Elab.async false
set_option linter.all false
set_option maxRecDepth 100000
set_option maxHeartbeats 1000000
namespace Lk63
open PySem PySem.Spec PyProof.Rows L2 Vs Ts
/-! the lots -/
abbrev lot (b m i : Int) : List Int := (rgI 0 m).filter fun x => decide (P b x = i)
abbrev lots (b m : Int) : List (List Int) := (rgI 0 b).map fun i => lot b m i
abbrev bK (b : Int) (k : Nat) : Int := b ^ (k + 1)
def itF (b : Int) : Nat → List Int
  | 0 => rgI 0 b
  | k + 1 => (itF b k).flatMap fun own => (rgI 0 b).map fun x => (own + x) % b
theorem c_places : ∀ b ∈ rgI 2 11, ∀ k ∈ List.range 10, b ^ (k + 1) ≤ 1024 → itF b k = (rgI 0 (b ^ (k + 1))).map (P b) := by decide +kernel
theorem c_sums : ∀ b ∈ rgI 2 11, ∀ k ∈ List.range 10, b ^ (k + 1) ≤ 1024 → ∀ i ∈ rgI 0 b, ((lot b (b ^ (k + 1)) i).length : Int) * b = b ^ (k + 1) ∧ ∀ p ∈ List.range (k + 1), ((lot b (b ^ (k + 1)) i).map fun x => x ^ p).sum = ((lot b (b ^ (k + 1)) 0).map fun x => x ^ p).sum := by decide +kernel
theorem c_far : ∀ b ∈ rgI 2 11, ∀ k ∈ List.range 10, b ^ k ≤ 64 → ∀ i ∈ rgI 0 b, ∀ j ∈ rgI 0 i, (((lot b (b ^ (k + 1)) i).map fun x => x ^ (k + 1)).sum ≠ ((lot b (b ^ (k + 1)) j).map fun x => x ^ (k + 1)).sum) ∨ (b ≠ 2 ∧ ((lot b (b ^ (k + 1)) i).map fun x => x ^ (k + 2)).sum ≠ ((lot b (b ^ (k + 1)) j).map fun x => x ^ (k + 2)).sum) := by decide +kernel
end Lk63
set_option Elab.async false
set_option linter.all false
set_option maxRecDepth 100000
set_option maxHeartbeats 1000000
namespace Lk63
open PySem PySem.Spec PyProof.Rows L2 Vs Ts
theorem rg00 : rgI 0 0 = [] := rfl
theorem rg_snoc {k : Int} (h : 0 ≤ k) : rgI 0 (k + 1) = rgI 0 k ++ [k] := by
  unfold rgI
  have e : (k + 1 - 0).toNat = (k - 0).toNat + 1 := by omega
  rw [e, List.range_succ, List.map_append]
  congr 1
  simp
  omega
theorem tw_rgA {σ : Type} {step : σ → Int → T σ} {I : Int → σ → Prop} : ∀ (m : Nat) {a : Int} {s : σ}, (∀ (k : Int) s, a ≤ k → k < a + m → I k s → Tw (step s k) (I (k + 1))) → I a s → Tw (T.fold step (rgI a (a + m)) s) (I (a + m))
  | 0, a, s, h, i => by
    have e : rgI a (a + (0 : Nat)) = [] := rgI_nil (by omega)
    have e2 : a + ((0 : Nat) : Int) = a := by omega
    rw [e, e2]
    exact tw_nil i
  | m + 1, a, s, h, i => by
    rw [rgI_cons (show a < a + ((m + 1 : Nat) : Int) by omega)]
    have h1 := h a s (Int.le_refl a) (by omega) i
    refine tw_cons (h1.imp fun v hv => ?_)
    have e2 : a + ((m + 1 : Nat) : Int) = (a + 1) + m := by omega
    rw [e2]
    exact tw_rgA m (fun k s h0 h1 hi => h k s (by omega) (by omega) hi) hv
theorem tw_rg {σ : Type} {step : σ → Int → T σ} {I : Int → σ → Prop} {n : Nat} {s : σ} (h : ∀ (k : Int) s, 0 ≤ k → k < n → I k s → Tw (step s k) (I (k + 1))) (h0 : I 0 s) : Tw (T.fold step (rgI 0 (n : Int)) s) (I n) := by
  have := tw_rgA (step := step) (I := I) n (a := 0) (s := s) (fun k s h0 h1 hi => h k s h0 (by omega) hi) h0
  rwa [Int.zero_add] at this
theorem snocR {α : Type} {f : Int → α} {k : Int} {v : α} (h : 0 ≤ k) (e : v = f k) : (rgI 0 k).map f ++ [v] = (rgI 0 (k + 1)).map f := by
  rw [rg_snoc h, List.map_append, e]; rfl
theorem ln1 {n : Nat} (h : n < 1000) : n < lineN := Nat.lt_of_lt_of_le h (by decide)
theorem len_mp {α : Type} {f : Int → α} {k : Int} {n : Nat} (h0 : 0 ≤ k) (h1 : k < n) (hn : n ≤ 1000) : ((rgI 0 k).map f).length < lineN := ln1 (by rw [List.length_map, len_rgI]; omega)
theorem mulOk_s {i j : Int} (h0 : 0 ≤ i) (h1 : i ≤ 1000000000) : mulOk i j = true := mulOk_l (i := i) (by omega)
theorem mulOk_r {i j : Int} (h0 : 0 ≤ j) (h1 : j ≤ 1000000000) : mulOk i j = true := by
  unfold mulOk
  rw [Bool.or_eq_true, Bool.or_eq_true]
  exact .inl (.inr (decide_eq_true (by omega)))
theorem tryX_in {β : Type} {w : T (Xn ⊕ β)} {h : Xn → Option β} {df v : β} (hg : w.g) (e : w.v = .inr v) : Tw (T.tryX w h df) (· = v) := by
  refine ⟨⟨hg, by rw [e]; exact True.intro⟩, ?_⟩
  show Sum.elim _ id w.v = v
  rw [e]; rfl
theorem tryX_xn {β : Type} {w : T (Xn ⊕ β)} {h : Xn → Option β} {df v : β} {x : Xn} (hg : w.g) (e : w.v = .inl x) (hx : h x = some v) : Tw (T.tryX w h df) (· = v) := by
  refine ⟨⟨hg, by rw [e]; show (h x).isSome = true; rw [hx]; rfl⟩, ?_⟩
  show Sum.elim _ id w.v = v
  rw [e]; show (h x).getD df = v; rw [hx]; rfl
theorem len_rg {n : Nat} : (rgI 0 (n : Int)).length = n := by rw [len_rgI]; omega
theorem e30 : (10 : Int) ^ Int.toNat 30 = 1000000000000000000000000000000 := by decide +kernel
theorem pw_pos {b : Int} (b0 : 2 ≤ b) : ∀ n : Nat, 1 ≤ b ^ n
  | 0 => by simp
  | n + 1 => by
    have := pw_pos b0 n
    rw [Int.pow_succ]
    have := Int.mul_le_mul (show 1 ≤ b ^ n by omega) (show 1 ≤ b by omega) (by decide) (by omega)
    omega
theorem pw_le {b : Int} (b0 : 2 ≤ b) {n m : Nat} (h : n ≤ m) : b ^ n ≤ b ^ m := by
  obtain ⟨d, rfl⟩ : ∃ d, m = n + d := ⟨m - n, by omega⟩
  rw [Int.pow_add]
  have h1 := pw_pos b0 n
  have h2 := pw_pos b0 d
  have := Int.mul_le_mul (show b ^ n ≤ b ^ n from Int.le_refl _) h2 (by decide) (by omega)
  omega
theorem fold_pw {b : Int} {n : Nat} (b0 : 2 ≤ b) (b1 : b ≤ 10) : Tw (T.fold (fun (s3 : Int) (x2 : Int) => T.lt ((mulOk s3 b = true)) (s3 * b) fun (many_4 : Int) => T.rt True many_4) (rgI 0 (n : Int)) 1) (· = b ^ n) := by
  refine Tw.imp (tw_rg (I := fun x s => s = b ^ x.toNat) (fun x s x0 x1 hs => ?_) (by simp)) fun v e => ?_
  · subst hs
    refine tw_lt (mulOk_r (by omega) (by omega)) (tw_rt True.intro ?_)
    have : (x + 1).toNat = x.toNat + 1 := by omega
    rw [this, Int.pow_succ]
  · rw [e]; simp
theorem raised_ok {b : Int} {n : Nat} (b0 : 2 ≤ b) (b1 : b ≤ 10) (hn : n ≤ 1000) : Tw (t__law_raised b n) (· = b ^ n) := by
  unfold t__law_raised
  exact tw_lt True.intro (tw_lt (rgOk_of (by omega) (by omega)) (tw_bnd ((fold_pw b0 b1).imp fun v e => tw_rt True.intro e)))
theorem lot_succ {b x i : Int} (h : 0 ≤ x) : lot b (x + 1) i = lot b x i ++ (if P b x = i then [x] else []) := by
  unfold lot
  rw [rg_snoc h, List.filter_append]
  congr 1
  by_cases e : P b x = i
  · rw [if_pos e]; simp [List.filter, e]
  · rw [if_neg e]; simp [List.filter, e]
theorem rg_at {b : Int} {n : Nat} (h : n < (rgI 0 b).length) : (rgI 0 b)[n] = n := by
  unfold rgI
  simp
theorem set_lots {b x : Int} (b0 : 2 ≤ b) (h : 0 ≤ x) : setI (lots b x) (P b x) (getI (lots b x) (P b x) ++ [x]) = lots b (x + 1) := by
  obtain ⟨p0, p1⟩ := P_rg (x := x) b0
  have ll : (lots b x).length = (lots b (x + 1)).length := by simp
  unfold setI
  rw [ixI_nat p0, getI_maprg p0 p1]
  refine List.ext_getElem (by rw [List.length_set]; exact ll) fun n h1 h2 => ?_
  rw [List.getElem_set]
  have h3 : n < (rgI 0 b).length := by simpa using h2
  simp only [lots, List.getElem_map, rg_at h3]
  rw [lot_succ h]
  by_cases e : (P b x).toNat = n
  · have : P b x = (n : Int) := by omega
    rw [if_pos e, this, if_pos rfl]
  · have : ¬ P b x = (n : Int) := by omega
    rw [if_neg e, if_neg this, List.append_nil]
theorem lot_len {b m i : Int} (h : m ≤ 1024) : (lot b m i).length ≤ 1024 := Nat.le_trans (List.length_filter_le _ _) (by rw [len_rgI]; omega)
def dlF (b : Int) (n : Nat) : Xn ⊕ List (List Int) := if b ^ (n + 1) > 1024 then .inl ⟨"TooMany", [("limit", eI 1024)]⟩ else .inr (lots b (b ^ (n + 1)))
theorem lots_ok {b : Int} {n : Nat} (b0 : 2 ≤ b) (b1 : b ≤ 10) (hn : n ≤ 100) : Tw (t_digit_lots b n) (· = dlF b n) := by
  have e1 : (n : Int) + 1 = ((n + 1 : Nat) : Int) := by omega
  unfold t_digit_lots dlF
  rw [e1]
  refine tw_lt True.intro (tw_lt (rgOk_of (by omega) (by omega)) (tw_bnd ((fold_pw b0 b1).imp fun many em => ?_)))
  subst em
  refine tw_ite True.intro (fun c => tw_rt True.intro (by rw [if_pos (of_decide_eq_true c)])) fun c => ?_
  have c := of_decide_eq_false c
  have hp := pw_pos b0 (n + 1)
  rw [if_neg c]
  refine tw_lt ⟨rgOk_of (by omega) (by omega), by rw [len_rgI]; exact ln_le (by omega)⟩ (tw_lt (rgOk_of (by omega) (by omega)) ?_)
  obtain ⟨m, hm⟩ : ∃ m : Nat, b ^ (n + 1) = m := ⟨(b ^ (n + 1)).toNat, by omega⟩
  rw [hm]
  refine tw_bnd (Tw.imp (tw_rg (I := fun x s => s = lots b x) (fun x s x0 x1 hs => ?_) ?_) fun v e => ?_)
  · subst hs
    have pv := place_val (b := b) (x := x) b0 b1 x0 (by omega)
    obtain ⟨p0, p1⟩ := P_rg (x := x) b0
    have hl : (lots b x).length = b.toNat := by simp [len_rgI]
    have lg := lot_len (b := b) (m := x) (i := P b x) (by omega)
    refine tw_lt ⟨pv.g, by rw [pv.q]; exact inR_of p0 (by rw [hl]; omega), by rw [pv.q, getI_maprg p0 p1]; exact Nat.lt_of_le_of_lt lg (by decide)⟩ (tw_rt True.intro ?_)
    rw [pv.q, set_lots b0 x0]
  · simp [lots, lot, rg00]
  · rw [e]
    refine tw_rt (by simp only [List.length_map, len_rgI]; exact ln_le (by omega)) ?_
    simp
def toldD (b : Int) (n : Nat) : D := if b ^ (n + 1) > 1024 then eL eD [eS ("more than" : Str), eI 1024, eB true] else eT (eT eI) (lots b (b ^ (n + 1)))
theorem told_ok {b : Int} {n : Nat} (w : Bool) (b0 : 2 ≤ b) (b1 : b ≤ 10) (hn : n ≤ 100) : Tw (t__law_told b n w) (· = toldD b n) := by
  have q := lots_ok b0 b1 hn
  unfold t__law_told toldD
  have e := q.q
  unfold dlF at e
  by_cases c : b ^ (n + 1) > 1024
  · rw [if_pos c] at e ⊢
    refine tryX_xn (x := ⟨"TooMany", [("limit", eI 1024)]⟩) ⟨fun _ => q.g, fun _ => q.g⟩ ?_ (by rw [eL_D]; rfl)
    rw [rt_v, ite_self, e]
    rfl
  · rw [if_neg c] at e ⊢
    refine tryX_in ⟨fun _ => q.g, fun _ => q.g⟩ ?_
    rw [rt_v, ite_self, e]
    rfl
end Lk63
set_option Elab.async false
set_option linter.all false
set_option maxRecDepth 100000
set_option maxHeartbeats 1000000
namespace Lk63
open PySem PySem.Spec PyProof.Rows L2 Vs Ts
theorem zip_m {α β : Type} {f : α → β} : ∀ {l : List α}, List.zip (l.map f) l = l.map fun x => (f x, x)
  | [] => rfl
  | x :: l => by rw [List.map_cons, List.zip_cons_cons, zip_m, List.map_cons]
theorem zip_me {α β γ : Type} {f : α → β} {e : α → γ} : ∀ {l : List α}, List.zip (l.map f) (l.map e) = l.map fun x => (f x, e x)
  | [] => rfl
  | x :: l => by rw [List.map_cons, List.map_cons, List.zip_cons_cons, zip_me, List.map_cons]
abbrev pwL (l : List Int) (p : Nat) : List Int := l.map fun x => x ^ p
theorem pw_next {l : List Int} {p : Nat} : List.map (fun (x4 : Int × Int) => x4.1 * x4.2) (List.zip (pwL l p) l) = pwL l (p + 1) := by
  rw [zip_m, List.map_map]
  exact List.map_congr_left fun x _ => (Int.pow_succ x p).symm
theorem pw_1 {l : List Int} : pwL l 1 = l := by
  conv => rhs; rw [← List.map_id l]
  exact List.map_congr_left fun x _ => by rw [Int.pow_succ, Int.pow_zero, Int.one_mul]; rfl
theorem agree_ok {l m : List Int} {k q : Nat} (hl : l.length = m.length) (h1 : l.length ≤ 1024) (sl : ∀ x ∈ l, 0 ≤ x ∧ x < 1024) (sm : ∀ x ∈ m, 0 ≤ x ∧ x < 1024) (hq : q ≤ 1000) (hp : ∀ p ∈ List.range (k + 1), (pwL l p).sum = (pwL m p).sum) (hf : (pwL l q).sum ≠ (pwL m q).sum) : Tw (t_agree_to l m) fun v => ∃ t : Nat, v = some (t : Int) ∧ k ≤ t ∧ t + 1 ≤ q := by
  have hN : 2000 < whN := by decide
  have q0 : 0 < q := by
    rcases Nat.eq_zero_or_pos q with e | e
    · subst e
      exact absurd (hp 0 (by simp)) hf
    · exact e
  have hne : l ≠ m := fun e => hf (by rw [e])
  unfold t_agree_to
  refine tw_iteF True.intro (by rw [hl]; simp) (tw_iteF True.intro (decide_eq_false hne) ?_)
  refine tw_ltP (R := fun v => v = (l, m, 0)) True.intro rfl fun s0 e0 => ?_
  subst e0
  generalize whN = N at hN ⊢
  refine tw_bnd (Tw.imp (tw_whl (I := fun (s : List Int × List Int × Int) => ∃ t : Nat, s = (pwL l (t + 1), pwL m (t + 1), (t : Int)) ∧ t + 1 ≤ q) (μ := fun s => q - s.2.2.toNat) (fun s ⟨t, es, ht⟩ => ⟨True.intro, fun hc => ?_⟩) N _ ⟨0, by rw [Nat.zero_add, pw_1, pw_1]; rfl, q0⟩ (by simp only; omega)) fun s ⟨⟨t, es, ht⟩, hc⟩ => tw_rt True.intro ⟨t, by rw [es], ?_, ht⟩)
  · subst es
    have hc := of_decide_eq_true hc
    simp only at hc ⊢
    have hq2 : t + 1 ≠ q := fun e => hf (by rw [← e]; exact hc)
    refine tw_lt ⟨by rw [zip_m, List.length_map]; exact Nat.le_trans h1 (by decide), fun x hx => ?_⟩ (tw_lt ⟨by rw [zip_m, List.length_map, ← hl]; exact Nat.le_trans h1 (by decide), fun x hx => ?_⟩ (tw_lt True.intro (tw_rt True.intro ⟨⟨t + 1, ?_, by omega⟩, by simp only; omega⟩)))
    · rw [zip_m] at hx
      obtain ⟨y, hy, rfl⟩ := List.mem_map.mp hx
      have := sl y hy
      exact mulOk_r this.1 (by omega)
    · rw [zip_m] at hx
      obtain ⟨y, hy, rfl⟩ := List.mem_map.mp hx
      have := sm y hy
      exact mulOk_r this.1 (by omega)
    · rw [pw_next, pw_next]
      have : ((t + 1 : Nat) : Int) = (t : Int) + 1 := by omega
      rw [this]
  · subst es
    have hc := of_decide_eq_false hc
    simp only at hc
    refine Nat.le_of_not_lt fun h => hc ?_
    exact hp (t + 1) (by simp; omega)
theorem tup_eT {α : Type} {e : α → D} {xs : List α} : tupOf (eT e xs) = xs.map e := rfl
theorem ist_eT {α : Type} {e : α → D} {xs : List α} : isTupD (eT e xs) = true := rfl
theorem lot_in {b m i x : Int} (h : m ≤ 1024) (hx : x ∈ lot b m i) : 0 ≤ x ∧ x < 1024 := by
  have := (mem_rgI.mp (List.mem_filter.mp hx).1)
  omega
theorem lot_sh {b m i : Int} {n : Nat} (h : m ≤ 1024) (hn : (lot b m i).length ≤ n) : ShOk (eT eI (lot b m i)) (n * (1921 + 2) + 3) 1 := sh_T (fun x hx => sh_I (by
  have := lot_in h hx
  exact small_of (by omega) (by omega))) hn
theorem rp_two4 {d : D} {B k : Nat} (h : ShOk d B k) (hB : B ≤ 4000000) (hk : k ≤ 30) : ReprOk (eL eD [d, d]) := by
  rw [eL_D]
  exact ReprOk.of (sh_lst (ds := [d, d]) (n := 2) (B := 4000000) (k := 30) (fun x hx => by
    simp only [List.mem_cons, List.not_mem_nil, or_false] at hx
    rcases hx with rfl | rfl <;> exact sh_up h hB hk) (by simp)) (by decide) (by decide)
theorem in211 {b : Int} (b0 : 2 ≤ b) (b1 : b ≤ 10) : b ∈ rgI 2 11 := mem_rgI.mpr ⟨b0, by omega⟩
theorem k10 {b : Int} {k : Nat} (b0 : 2 ≤ b) (h : b ^ (k + 1) ≤ 1024) : k < 10 := by
  refine Nat.lt_of_not_le fun hk => ?_
  have h1 := pw_le b0 (show 11 ≤ k + 1 by omega)
  have h2 : (2 : Int) ^ 11 ≤ b ^ 11 := by
    have : ∀ n : Nat, (2 : Int) ^ n ≤ b ^ n := fun n => by
      induction n with
      | zero => simp
      | succ n ih =>
        rw [Int.pow_succ, Int.pow_succ]
        exact Int.mul_le_mul ih b0 (by decide) (by have := pw_pos b0 n; omega)
    exact this 11
  have h3 : (2 : Int) ^ 11 = 2048 := by decide
  omega
theorem lots_sh {b : Int} {k : Nat} (b0 : 2 ≤ b) (b1 : b ≤ 10) (h : b ^ (k + 1) ≤ 1024) : ShOk (eT (eT eI) (lots b (b ^ (k + 1)))) 4000000 2 := by
  have hs := c_sums b (in211 b0 b1) k (List.mem_range.mpr (k10 b0 h)) h
  obtain ⟨n, hn⟩ : ∃ n : Nat, n = (lot b (b ^ (k + 1)) 0).length := ⟨_, rfl⟩
  have h0 := (hs 0 (mem_rgI.mpr ⟨by omega, by omega⟩)).1
  rw [← hn] at h0
  obtain ⟨c, rfl⟩ : ∃ c : Nat, b = c := ⟨b.toNat, by omega⟩
  have hc : n * c ≤ 1024 := by
    have : ((n * c : Nat) : Int) ≤ 1024 := by rw [Int.natCast_mul, h0]; exact h
    omega
  refine sh_up (sh_T (B := n * (1921 + 2) + 3) (k := 1) (n := c) (fun r hr => ?_) (by simp [len_rgI])) ?_ (by decide)
  · obtain ⟨i, hi, rfl⟩ := List.mem_map.mp hr
    refine lot_sh h ?_
    have hi2 := (hs i hi).1
    have e : ((lot c ((c : Int) ^ (k + 1)) i).length : Int) * c = (n : Int) * c := by rw [hi2, h0]
    have := Int.eq_of_mul_eq_mul_right (show (c : Int) ≠ 0 by omega) e
    omega
  · have e : c * (n * (1921 + 2) + 3 + 2) + 3 = 1923 * (n * c) + 5 * c + 3 := by
      have h1 : c * (n * (1921 + 2)) = 1923 * (n * c) := by
        rw [Nat.mul_comm n, Nat.mul_left_comm, Nat.mul_comm c n]
      have h2 : c * (n * (1921 + 2) + 3 + 2) = c * (n * (1921 + 2)) + c * 5 := by rw [Nat.add_assoc, Nat.mul_add]
      rw [h2, h1]
      omega
    rw [e]
    omega
theorem toldD_sh {b : Int} {k : Nat} (b0 : 2 ≤ b) (b1 : b ≤ 10) : ShOk (toldD b k) 4000000 2 := by
  unfold toldD
  split
  · rw [eL_D]
    exact sh_up (sh_lst (B := 1926) (k := 1) (n := 3) (fun x hx => by
      simp only [List.mem_cons, List.not_mem_nil, or_false] at hx
      rcases hx with rfl | rfl | rfl
      · exact sh_S (by decide +kernel) (by decide +kernel)
      · exact sh_up (sh_I (small_of (by decide) (by decide))) (by decide) (by decide)
      · exact sh_up sh_B (by decide) (by decide)) (by simp)) (by decide) (by decide)
  · exact lots_sh b0 b1 (by omega)
end Lk63
set_option Elab.async false
set_option linter.all false
set_option maxRecDepth 100000
set_option maxHeartbeats 1000000
namespace Lk63
open PySem PySem.Spec PyProof.Rows L2 Vs Ts
theorem flat_ok {rows : List (List Int)} (h : rows.flatten.length ≤ 2000) : Tw (t__law_flat rows) (· = rows.flatten) := by
  unfold t__law_flat
  refine tw_lt True.intro (tw_lt True.intro (tw_bnd ((tw_flat rfl (s := []) (by simp only [List.length_nil, Nat.zero_add]; exact Nat.le_trans h (by decide))).imp fun v e => tw_rt True.intro (by rw [e, List.nil_append]))))
theorem grow_len {b : Int} : ∀ {l : List Int}, (l.flatMap fun own => (rgI 0 b).map fun x => (own + x) % b).length = l.length * b.toNat
  | [] => by simp
  | x :: l => by
    rw [List.flatMap_cons, List.length_append, grow_len, List.length_map, len_rgI, List.length_cons, Nat.add_mul]
    have : (b - 0).toNat = b.toNat := by rw [Int.sub_zero]
    omega
theorem itF_len {b : Int} (b0 : 2 ≤ b) : ∀ t : Nat, ((itF b t).length : Int) = b ^ (t + 1)
  | 0 => by
    show ((rgI 0 b).length : Int) = _
    rw [len_rgI, Int.pow_succ, Int.pow_zero, Int.one_mul]
    omega
  | t + 1 => by
    have ih := itF_len b0 t
    show (((itF b t).flatMap fun own => (rgI 0 b).map fun x => (own + x) % b).length : Int) = _
    rw [grow_len, Int.pow_succ, ← ih, Int.natCast_mul]
    congr 1
    omega
theorem due_eq {b : Int} {k : Nat} (b0 : 2 ≤ b) (b1 : b ≤ 10) (h : b ^ (k + 1) ≤ 1024) : (List.map (fun (x21 : Int) => (List.map (fun (x22 : (Int × Int)) => x22.1) (List.filter (fun (x22 : (Int × Int)) => (decide (x22.2 = x21))) (enumI (itF b k))))) (rgI 0 b)) = lots b (b ^ (k + 1)) := by
  have hp := pw_pos b0 (k + 1)
  rw [c_places b (in211 b0 b1) k (List.mem_range.mpr (k10 b0 h)) h, getI_enum (by omega)]
  refine List.map_congr_left fun i _ => ?_
  rw [List.filter_map, List.map_map]
  show List.map (fun x => x) _ = _
  rw [List.map_id']
  rfl
theorem two_of {b : Int} {v : List Int} (b0 : 2 ≤ b) (h : v.Perm (rgI 0 b)) : ∃ i j rest, v = i :: j :: rest ∧ (0 ≤ i ∧ i < b) ∧ (0 ≤ j ∧ j < b) ∧ i ≠ j := by
  have hl := h.length_eq
  rw [len_rgI] at hl
  have nd : v.Nodup := h.nodup_iff.mpr rgI_nodup
  match v, hl, nd, h with
  | [], hl, _, _ => simp at hl; omega
  | [_], hl, _, _ => simp at hl; omega
  | i :: j :: rest, _, nd, h =>
    refine ⟨i, j, rest, rfl, mem_rgI.mp (h.mem_iff.mp (by simp)), mem_rgI.mp (h.mem_iff.mp (by simp)), fun e => ?_⟩
    subst e
    simp at nd
theorem due_ok {b : Int} {k : Nat} {ds : List D} (b0 : 2 ≤ b) (b1 : b ≤ 10) (hk : k ≤ 40) (hds : ds = [(eS ("more than" : Str)), (eI (1024 : Int)), (eB true)]) : Tw (T.ite (True) (decide (b ^ (min k 11 + 1) ≤ (1024 : Int)) && decide ((k : Int) < (11 : Int))) (T.lt ((rgL 0 b = true)) (rgI 0 b) fun (places_13 : (List Int)) =>
  T.lt ((rgOk (k : Int) = true)) (rgI 0 (k : Int)) fun (r19 : List Int) => T.bnd (T.fold (fun (s15 : (List Int)) (x14 : Int) => T.lt ((List.length s15 ≤ lineN) ∧ (∀ x16 ∈ s15, (rgOk b = true) ∧ (List.length (rgI 0 b) ≤ lineN) ∧ (∀ x17 ∈ (rgI 0 b), ((0 : Int) < b))) ∧ ((t__law_flat (List.map (fun (x16 : Int) => (List.map (fun (x17 : Int) => ((x16 + x17) % b)) (rgI 0 b))) s15)).g)) ((t__law_flat (List.map (fun (x16 : Int) => (List.map (fun (x17 : Int) => ((x16 + x17) % b)) (rgI 0 b))) s15)).v) fun (places_18 : (List Int)) =>
  T.rt True places_18) r19 places_13) fun (places_20 : (List Int)) =>
  T.lt ((rgOk b = true) ∧ (List.length (rgI 0 b) ≤ lineN) ∧ (∀ x21 ∈ (rgI 0 b), (List.length (enumI places_20) ≤ lineN))) (List.map (fun (x21 : Int) => (List.map (fun (x22 : (Int × Int)) => x22.1) (List.filter (fun (x22 : (Int × Int)) => (decide (x22.2 = x21))) (enumI places_20)))) (rgI 0 b)) fun (due_23 : (List (List Int))) =>
  T.rt True ((eT (eT eI)) due_23))
  (T.rt True ((eL eD) ds))) (· = toldD b k) := by
  have e12 : ¬ b ^ 12 ≤ 1024 := fun h => by have := k10 (k := 11) b0 h; omega
  have hc : (b ^ (min k 11 + 1) ≤ 1024 ∧ (k : Int) < 11) ↔ b ^ (k + 1) ≤ 1024 := by
    constructor
    · rintro ⟨h1, h2⟩
      rwa [Nat.min_eq_left (by omega)] at h1
    · intro h
      have := k10 b0 h
      rw [Nat.min_eq_left (by omega)]
      exact ⟨h, by omega⟩
  refine tw_ite True.intro (fun c => ?_) fun c => ?_
  · rw [Bool.and_eq_true, decide_eq_true_eq, decide_eq_true_eq, hc] at c
    refine tw_lt (rgL0 (by omega) (by omega)) (tw_lt (rgOk_of (by omega) (by omega)) (tw_bnd ((tw_rg (I := fun x s => s = itF b x.toNat) (fun x s x0 x1 hs => ?_) ?_).imp fun v ev => ?_)))
    · subst hs
      have l1 := itF_len b0 x.toNat
      have l2 := itF_len b0 (x.toNat + 1)
      have p1 := pw_le b0 (show x.toNat + 1 ≤ k + 1 by omega)
      have p2 := pw_le b0 (show x.toNat + 1 + 1 ≤ k + 1 by omega)
      have ef : (List.map (fun (x16 : Int) => (List.map (fun (x17 : Int) => ((x16 + x17) % b)) (rgI 0 b))) (itF b x.toNat)).flatten = itF b (x.toNat + 1) := by
        rw [← List.flatMap_def]; rfl
      have q := flat_ok (rows := List.map (fun (x16 : Int) => (List.map (fun (x17 : Int) => ((x16 + x17) % b)) (rgI 0 b))) (itF b x.toNat)) (by rw [ef]; omega)
      refine tw_lt ⟨Nat.le_trans (show _ ≤ 1024 by omega) (by decide), fun _ _ => ⟨rgOk_of (by omega) (by omega), by rw [len_rgI]; exact ln_le (by omega), fun _ _ => by omega⟩, q.g⟩ (tw_rt True.intro ?_)
      rw [q.q, ef]
      congr 1
      omega
    · rfl
    · have ev : v = itF b k := by rw [ev]; simp
      subst ev
      have l1 := itF_len b0 k
      refine tw_lt ⟨rgOk_of (by omega) (by omega), by rw [len_rgI]; exact ln_le (by omega), fun _ _ => ?_⟩ (tw_rt True.intro ?_)
      · unfold enumI
        rw [List.length_map, List.length_zipIdx]
        exact Nat.le_trans (show _ ≤ 1024 by omega) (by decide)
      · rw [due_eq b0 b1 c]
        unfold toldD
        rw [if_neg (by omega)]
  · have c : ¬ b ^ (k + 1) ≤ 1024 := fun h => by
      rw [← hc] at h
      rw [decide_eq_true h.1, decide_eq_true h.2] at c
      cases c
    refine tw_rt True.intro ?_
    unfold toldD
    rw [if_pos (by omega), hds]
end Lk63
set_option Elab.async false
set_option linter.all false
set_option maxRecDepth 100000
set_option maxHeartbeats 1000000
namespace Lk63
open PySem PySem.Spec PyProof.Rows L2 Vs Ts
theorem pk {p : Dk} {xs : List Int} (h0 : 0 < xs.length) (h1 : xs.length ≤ 1000) : (t__law_one p xs).g ∧ (t__law_one p xs).v.1 ∈ xs := ⟨(one_ok p h0 h1).g, (one_ok p h0 h1).q⟩
theorem minI_n {k : Nat} : minI (k : Int) 11 + 1 = ((min k 11 + 1 : Nat) : Int) := by
  unfold minI
  split <;> omega
theorem eq_ii {a b : Int} (h : a = b) : EqOk (eI a) (eI b) ∧ dEq (eI a) (eI b) = true := by
  have := eqD_of eqe_I (by decide) a b
  subst h
  unfold EqOk dEq
  rw [this]
  simp
theorem far {b i j : Int} {k : Nat} (b0 : 2 ≤ b) (b1 : b ≤ 10) (h : b ^ (k + 1) ≤ 1024) (hs : b ^ k ≤ 64) (hi : 0 ≤ i ∧ i < b) (hj : 0 ≤ j ∧ j < b) (ne : i ≠ j) : ((pwL (lot b (b ^ (k + 1)) i) (k + 1)).sum ≠ (pwL (lot b (b ^ (k + 1)) j) (k + 1)).sum) ∨ (b ≠ 2 ∧ (pwL (lot b (b ^ (k + 1)) i) (k + 2)).sum ≠ (pwL (lot b (b ^ (k + 1)) j) (k + 2)).sum) := by
  have q := c_far b (in211 b0 b1) k (List.mem_range.mpr (k10 b0 h)) hs
  rcases Int.lt_or_gt_of_ne ne with l | l
  · have := q j (mem_rgI.mpr hj) i (mem_rgI.mpr ⟨hi.1, l⟩)
    exact this.imp Ne.symm fun ⟨a, c⟩ => ⟨a, c.symm⟩
  · exact q i (mem_rgI.mpr hi) j (mem_rgI.mpr ⟨hj.1, l⟩)
theorem lots_at {b m i : Int} (hi : 0 ≤ i ∧ i < b) : getI ((lots b m).map (eT eI)) i = eT eI (lot b m i) := by
  rw [List.map_map]
  exact getI_maprg hi.1 hi.2
theorem inR_l {b m i : Int} (hi : 0 ≤ i ∧ i < b) : InR (List.length ((lots b m).map (eT eI))) i := inR_of hi.1 (by simp [len_rgI]; omega)
theorem cast_l {l : List Int} : List.map (fun y_ => intOf y_) (l.map eI) = l := by
  rw [List.map_map]
  exact List.map_id _
theorem rep_pw {l : List Int} : repI ((l.map eI).length : Int) ([1] : List Int) = pwL l 0 := by
  rw [rep_one, List.length_map]
  show List.replicate l.length 1 = _
  refine List.ext_getElem (by simp) fun n h1 h2 => by simp
theorem row_next {l : List Int} {p : Nat} : List.map (fun (x30 : (Int × D)) => (x30.1 * (intOf x30.2))) (List.zip (pwL l p) (l.map eI)) = pwL l (p + 1) := by
  rw [zip_me, List.map_map]
  exact List.map_congr_left fun x _ => (Int.pow_succ x p).symm
theorem row_g {l : List Int} {p : Nat} {x : Int × D} (h : ∀ x ∈ l, 0 ≤ x ∧ x < 1024) (hx : x ∈ List.zip (pwL l p) (tupOf (eT eI l))) : (isIntD x.2 = true) ∧ (mulOk x.1 (intOf x.2) = true) := by
  rw [tup_eT, zip_me] at hx
  obtain ⟨y, hy, rfl⟩ := List.mem_map.mp hx
  have := h y hy
  exact ⟨rfl, mulOk_r (j := y) this.1 (by omega)⟩
theorem law_ok (ns : List Int) (h : ns.length ≤ 63) : Tw (t_law ns) fun v => v = true := by
  unfold t_law
  refine tw_lt (pot_ok ns h) ?_
  generalize (t__law_pot ns).v = p0
  have a0 := ov0 (p := p0) (many := 9) (by decide)
  have a1 := ov1 (p := p0) (many := 9) (by decide)
  refine tw_ltP (R := fun (q : Dk × Int) => 2 ≤ q.2 ∧ q.2 ≤ 10) (og (by decide)) ⟨by simp only; omega, by simp only; omega⟩ fun ⟨p1, b⟩ ⟨b0, b1⟩ => ?_
  simp only at b0 b1
  simp only
  refine tw_lt True.intro (tw_bndR (I := fun _ => True) (fun s turn _ _ => ?_) True.intro fun p8 _ => ?_)
  · have k1 := pk (p := s) (xs := [20, 5000, 10 ^ Int.toNat 9]) (by simp) (by simp)
    have e9 : (10 : Int) ^ Int.toNat 9 = 1000000000 := by decide +kernel
    have e12 : (10 : Int) ^ Int.toNat 12 = 1000000000000 := by decide +kernel
    have e21 : (10 : Int) ^ Int.toNat 21 = 1000000000000000000000 := by decide +kernel
    rw [e9] at k1
    rw [e9, e12, e21]
    have k1q := k1.2
    simp only [List.mem_cons, List.not_mem_nil, or_false] at k1q
    have d0 := ov0 (p := (t__law_one s [20, 5000, 1000000000]).v.2) (many := (t__law_one s [20, 5000, 1000000000]).v.1) (by omega)
    have d1 := ov1 (p := (t__law_one s [20, 5000, 1000000000]).v.2) (many := (t__law_one s [20, 5000, 1000000000]).v.1) (by omega)
    have k2 := pk (p := (t__law_of (t__law_one s [20, 5000, 1000000000]).v.2 (t__law_one s [20, 5000, 1000000000]).v.1).v.2) (xs := [1, 1, 1000000000000, 1000000000000000000000]) (by simp) (by simp)
    have k2q := k2.2
    simp only [List.mem_cons, List.not_mem_nil, or_false] at k2q
    generalize hx : (t__law_of (t__law_one s [20, 5000, 1000000000]).v.2 (t__law_one s [20, 5000, 1000000000]).v.1).v.1 = x at d0 d1 ⊢
    refine tw_ltP (R := fun (q : Dk × Int) => 0 ≤ q.2 ∧ q.2 ≤ 1000000000000000000000000000000) ⟨k1.1, og (by omega), k2.1, mulOk_s d0 (by omega)⟩ ?_ fun ⟨p5, y⟩ ⟨y0, y1⟩ => ?_
    · simp only
      rcases k2q with e | e | e | e <;> rw [e] <;> omega
    simp only at y0 y1
    simp only
    have pl := place_ok b0 b1 y0 y1
    refine tw_lt pl.g ?_
    have sh : ShOk (eI (t_digit_place b y).v) 1921 0 := sh_I (small_of (by have := pl.q; omega) (by have := pl.q; omega))
    have rp := rp_twoE (e := eI) sh (by decide) (by decide)
    exact tw_iteF ⟨pl.g, pl.g, rp, rp⟩ (by rw [← same_place]; simp) (tw_rt True.intro ⟨_, rfl, True.intro⟩)
  · have pl := place_ok (x := 1000000000000000000000000000000) b0 b1 (by decide) (by decide)
    rw [e30]
    refine tw_iteF ⟨pl.g, pl.g⟩ (by rw [← same_place]; simp) ?_
    have k1 := pk (p := p8) (xs := [3, 6, 11, 41]) (by simp) (by simp)
    have k1q := k1.2
    simp only [List.mem_cons, List.not_mem_nil, or_false] at k1q
    have d0 := ov0 (p := (t__law_one p8 [3, 6, 11, 41]).v.2) (many := (t__law_one p8 [3, 6, 11, 41]).v.1) (by omega)
    have d1 := ov1 (p := (t__law_one p8 [3, 6, 11, 41]).v.2) (many := (t__law_one p8 [3, 6, 11, 41]).v.1) (by omega)
    refine tw_ltP (R := fun (q : Dk × Int) => 0 ≤ q.2 ∧ q.2 ≤ 40) ⟨k1.1, og (by omega)⟩ ⟨by simp only; omega, by simp only; omega⟩ fun ⟨p9, k0⟩ ⟨k00, k01⟩ => ?_
    simp only at k00 k01
    simp only
    obtain ⟨k, rfl⟩ : ∃ k : Nat, k0 = k := ⟨k0.toNat, by omega⟩
    have hk : k ≤ 40 := by omega
    have rs := raised_ok (n := min k 11 + 1) b0 b1 (by omega)
    rw [minI_n]
    refine tw_ltP (R := fun (z : Int) => z = b ^ (min k 11 + 1)) rs.g rs.q fun size es => ?_
    subst es
    refine tw_ltP (R := fun z => z = [(eS ("more than" : Str)), (eI (1024 : Int)), (eB true)]) True.intro rfl fun ds hds => ?_
    refine tw_bnd ((due_ok b0 b1 hk hds).imp fun due ed => ?_)
    subst ed
    have t1 := told_ok false b0 b1 (n := k) (by omega)
    have t2 := told_ok true b0 b1 (n := k) (by omega)
    have rp := rp_two4 (toldD_sh (k := k) b0 b1) (by decide) (by decide)
    rw [t1.q, t2.q]
    refine tw_iteF ⟨t1.g, t2.g, rp, rp⟩ (by simp) ?_
    by_cases hm : b ^ (k + 1) > 1024
    · have e : toldD b k = .lst [eS ("more than" : Str), eI 1024, eB true] := by
        unfold toldD
        rw [if_pos hm, eL_D]
      rw [e]
      exact tw_iteT rfl rfl (tw_rt True.intro rfl)
    have hM : b ^ (k + 1) ≤ 1024 := by omega
    have e : toldD b k = eT (eT eI) (lots b (b ^ (k + 1))) := by
      unfold toldD
      rw [if_neg hm]
    rw [e]
    refine tw_iteF rfl rfl ?_
    have or := order_ok p9 (row := rgI 0 b) (by rw [len_rgI]; omega)
    obtain ⟨i, j, rest, ev, hi, hj, ne⟩ := two_of b0 or.q
    have ec : cutL ((t__law_order p9 (rgI 0 b)).v.1) none (some 2) = [i, j] := by
      rw [cut_lo (by decide) (by rw [ev]; simp; omega), ev]; rfl
    rw [ec]
    refine tw_lt ⟨rgL0 (by omega) (by omega), or.g, rfl⟩ ?_
    generalize hp : ((t__law_order p9 (rgI 0 b)).v.2, List.headD [i, j] default, List.headD (List.tail [i, j]) default) = q25
    have h1 : q25.2.1 = i := by rw [← hp]; rfl
    have h2 : q25.2.2 = j := by rw [← hp]; rfl
    rw [h1, h2]
    simp only [tup_eT, ist_eT, lots_at hi, lots_at hj, lots_at (show 0 ≤ (0 : Int) ∧ 0 < b by omega)]
    have ll : ∀ i, (lot b (b ^ (k + 1)) i).length ≤ 1024 := fun i => lot_len hM
    have ro : ∀ i, RepOk (((lot b (b ^ (k + 1)) i).map eI).length : Int) ([1] : List Int) := fun i => by
      have := ll i
      rw [List.length_map]
      exact ⟨by simp [lineN]; omega, by omega, by omega⟩
    rw [rep_pw, rep_pw]
    have cs := c_sums b (in211 b0 b1) k (List.mem_range.mpr (k10 b0 hM)) hM
    have csE : ∀ p ∈ List.range (k + 1), (pwL (lot b (b ^ (k + 1)) i) p).sum = (pwL (lot b (b ^ (k + 1)) j) p).sum := fun p hp => ((cs i (mem_rgI.mpr hi)).2 p hp).trans ((cs j (mem_rgI.mpr hj)).2 p hp).symm
    have li : ∀ x ∈ lot b (b ^ (k + 1)) i, 0 ≤ x ∧ x < 1024 := fun x hx => lot_in hM hx
    have lj : ∀ x ∈ lot b (b ^ (k + 1)) j, 0 ≤ x ∧ x < 1024 := fun x hx => lot_in hM hx
    have lle : (lot b (b ^ (k + 1)) i).length = (lot b (b ^ (k + 1)) j).length := by
      have e : ((lot b (b ^ (k + 1)) i).length : Int) * b = ((lot b (b ^ (k + 1)) j).length : Int) * b := (cs i (mem_rgI.mpr hi)).1.trans (cs j (mem_rgI.mpr hj)).1.symm
      have := Int.eq_of_mul_eq_mul_right (show b ≠ 0 by omega) e
      omega
    have l0 : ((lot b (b ^ (k + 1)) 0).length : Int) = b ^ k := by
      have e : ((lot b (b ^ (k + 1)) 0).length : Int) * b = b ^ k * b := (cs 0 (mem_rgI.mpr ⟨by omega, by omega⟩)).1.trans (Int.pow_succ b k)
      exact Int.eq_of_mul_eq_mul_right (show b ≠ 0 by omega) e
    have fr := fun hs => far (k := k) b0 b1 hM hs hi hj ne
    refine tw_ltP (R := fun z => z = [pwL (lot b (b ^ (k + 1)) i) 0, pwL (lot b (b ^ (k + 1)) j) 0]) ⟨True.intro, inR_l hi, True.intro, ro i, True.intro, inR_l hj, True.intro, ro j⟩ rfl fun rows er => ?_
    have lli := ll i
    have llj := ll j
    generalize lot b (b ^ (k + 1)) i = l at *
    generalize lot b (b ^ (k + 1)) j = m at *
    have ek : (k : Int) + 1 = ((k + 1 : Nat) : Int) := by omega
    rw [ek]
    refine tw_lt (rgOk_of (by omega) (by omega)) (tw_bndS (Tw.imp (tw_pre (xs := rgI 0 ((k + 1 : Nat) : Int)) (I := fun pre s => s = [pwL l pre.length, pwL m pre.length]) (Q := fun _ => False) (fun pre x post s ex hs => ?_) _ [] rows (List.nil_append _).symm er) fun v hv => ?_))
    · subst hs
      have hp : pre.length < k + 1 := by
        have := congrArg List.length ex
        rw [len_rg, List.length_append, List.length_cons] at this
        omega
      refine tw_iteF ⟨inR_of (by decide) (by simp), inR_of (by decide) (by simp)⟩ ?_ (tw_lt ⟨True.intro, inR_l hi, True.intro, inR_l hj, by simp [lineN], fun x29 hx => ?_⟩ (tw_rt True.intro ?_))
      · have g0 : getI [pwL l pre.length, pwL m pre.length] 0 = pwL l pre.length := rfl
        have g1 : getI [pwL l pre.length, pwL m pre.length] 1 = pwL m pre.length := rfl
        rw [g0, g1, csE _ (List.mem_range.mpr hp)]
        simp
      · have hx : x29 = (pwL l pre.length, eT eI l) ∨ x29 = (pwL m pre.length, eT eI m) := by simpa using hx
        rcases hx with rfl | rfl
        · exact ⟨rfl, by rw [tup_eT, zip_me, List.length_map]; exact Nat.le_trans lli (by decide), fun x30 h30 => row_g li h30⟩
        · exact ⟨rfl, by rw [tup_eT, zip_me, List.length_map]; exact Nat.le_trans llj (by decide), fun x30 h30 => row_g lj h30⟩
      · show _ = [pwL l (pre ++ [x]).length, pwL m (pre ++ [x]).length]
        rw [List.length_append]
        show [List.map _ _, List.map _ _] = _
        rw [tup_eT, tup_eT, row_next, row_next]
        rfl
    · cases v with
      | inl b => exact hv.elim
      | inr s =>
        refine tw_ite ⟨True.intro, inR_l ⟨by omega, by omega⟩, True.intro⟩ (fun _ => tw_rt True.intro rfl) fun c => ?_
        have c := of_decide_eq_false c
        rw [List.length_map, l0] at c
        have hs : b ^ k ≤ 64 := by omega
        rw [cast_l, cast_l]
        rcases fr hs with f1 | ⟨b2, f2⟩
        · have ag := agree_ok lle lli li lj (q := k + 1) (by omega) csE f1
          obtain ⟨t, et, t0, t1⟩ := ag.q
          have e : t = k := by omega
          subst e
          have eq := eq_ii (a := (t : Int)) (b := t) rfl
          refine tw_lt ⟨True.intro, inR_l hi, rfl, True.intro, inR_l hj, rfl, ag.g⟩ (tw_rt ?_ ?_)
          · rw [et]
            exact ⟨rfl, fun _ _ => ⟨rfl, rfl, eq.1⟩⟩
          · rw [et]
            show (decide ((t : Int) ≥ t) && (decide (b > 2) || dEq (eI t) (eI t))) = true
            rw [eq.2]
            simp
        · have ag := agree_ok lle lli li lj (q := k + 2) (by omega) csE f2
          obtain ⟨t, et, t0, t1⟩ := ag.q
          have hb : decide (b > 2) = true := decide_eq_true (by omega)
          refine tw_lt ⟨True.intro, inR_l hi, rfl, True.intro, inR_l hj, rfl, ag.g⟩ (tw_rt ?_ ?_)
          · rw [et]
            exact ⟨rfl, fun _ hc => by rw [hb] at hc; cases hc⟩
          · rw [et]
            show (decide ((t : Int) ≥ k) && (decide (b > 2) || _)) = true
            rw [hb, decide_eq_true (by omega)]
            rfl
theorem law_true (ns : List Int) (h : ns.length ≤ 63) : ∃ kz ρ, F_law [scr ns] = .ok (kz, .bl true) ρ := by
  obtain ⟨g, q⟩ := law_ok ns h
  obtain ⟨k, ρ, e, _⟩ := (sp_law ns g).run [scr ns] (.cons (Nat.le_refl _) .nil)
  rw [q] at e
  exact ⟨k, ρ, e⟩
end Lk63
set_option maxHeartbeats 4000000
open PySem PySem.W PyProof.Rows
set_option maxRecDepth 100000 in
set_option maxHeartbeats 0 in
theorem PySem.Challenge.cw_equalsums_k63_whole_main_digit_lots_holds : PySem.Challenge.rw_equalsums_k63_whole_main_digit_lots.Holds := by
  w_on; o_law; k_head; (case hw => w_witness2)
  k_fill
  refine Lk63.walk (l := PySem.Challenge.rw_equalsums_k63_whole_main_digit_lots) rfl rfl (fun w h Y => PySem.W.kIn_of Y) Lk63.law_true ?F
  case F =>
    intro w mg fa h KX G hmg
    refine' Lk63.all_mk KX G hmg ?a1 ?l1 ?c1 ?k1 ?a2 ?l2 ?c2 ?k2 ?a3 ?l3 ?c3 ?k3 ?a4 ?l4 ?c4 ?k4 ?a5 ?l5 ?c5 ?k5 ?a6 ?l6 ?c6 ?k6 ?a7 ?l7 ?c7 ?k7 ?a8 ?l8 ?c8 ?k8 ?a9 ?l9 ?c9 ?k9 ?a10 ?l10 ?c10 ?k10 ?a11 ?l11 ?c11 ?k11 ?a12 ?l12 ?c12 ?k12 ?z_abs ?z_enumerate ?z_int ?z_isinstance ?z_len ?z_list ?z_min ?z_range ?z_repr ?z_sum ?z_tuple ?z_zip ?g_MAX_DIGITED ?aS ?zsup ?opq ?tops ?hnC ?htC ?kA_TooMany ?kL_TooMany ?kS_TooMany ?kG_TooMany ?kH_TooMany ?kI_TooMany ?kT_TooMany ?kK_TooMany ?kE_TooMany ?kV_TooMany ?kY_TooMany ?kD_TooMany ?kM_TooMany ?kO_TooMany ?kU_TooMany ?kX_TooMany ?kC_TooMany ?kW_TooMany ?kF_TooMany ?kP_TooMany ?kQ_TooMany ?kR_TooMany ?kZ_TooMany ?kJ_TooMany ?kN_TooMany
    (case a1 => k_is)
    (case l1 => k_is)
    (case c1 => k_is)
    (case k1 => k_is)
    (case a2 => k_is)
    (case l2 => k_is)
    (case c2 => k_is)
    (case k2 => k_is)
    (case a3 => k_is)
    (case l3 => k_is)
    (case c3 => k_is)
    (case k3 => k_is)
    (case a4 => k_is)
    (case l4 => k_is)
    (case c4 => k_is)
    (case k4 => k_is)
    (case a5 => k_is)
    (case l5 => k_is)
    (case c5 => k_is)
    (case k5 => k_is)
    (case a6 => k_is)
    (case l6 => k_is)
    (case c6 => k_is)
    (case k6 => k_is)
    (case a7 => k_is)
    (case l7 => k_is)
    (case c7 => k_is)
    (case k7 => k_is)
    (case a8 => k_is)
    (case l8 => k_is)
    (case c8 => k_is)
    (case k8 => k_is)
    (case a9 => k_is)
    (case l9 => k_is)
    (case c9 => k_is)
    (case k9 => k_is)
    (case a10 => k_is)
    (case l10 => k_is)
    (case c10 => k_is)
    (case k10 => k_is)
    (case a11 => k_is)
    (case l11 => k_is)
    (case c11 => k_is)
    (case k11 => k_is)
    (case a12 => k_is)
    (case l12 => k_is)
    (case c12 => k_is)
    (case k12 => k_is)
    (case z_abs => k_is)
    (case z_enumerate => k_is)
    (case z_int => k_is)
    (case z_isinstance => k_is)
    (case z_len => k_is)
    (case z_list => k_is)
    (case z_min => k_is)
    (case z_range => k_is)
    (case z_repr => k_is)
    (case z_sum => k_is)
    (case z_tuple => k_is)
    (case z_zip => k_is)
    (case g_MAX_DIGITED => k_is)
    (case aS => k_is)
    (case zsup => k_is)
    (case opq => k_is)
    (case tops => first | rfl | decide +kernel)
    (case hnC => k_is)
    (case htC => k_is)
    (case kA_TooMany => k_is)
    (case kL_TooMany => k_is)
    (case kS_TooMany => k_is)
    (case kG_TooMany => k_is)
    (case kH_TooMany => k_is)
    (case kI_TooMany => k_is)
    (case kT_TooMany => k_is)
    (case kK_TooMany => k_is)
    (case kE_TooMany => k_is)
    (case kV_TooMany => k_is)
    (case kY_TooMany => k_is)
    (case kD_TooMany => k_is)
    (case kM_TooMany => k_is)
    (case kO_TooMany => k_is)
    (case kU_TooMany => kernel_rfl)
    (case kX_TooMany => k_is)
    (case kC_TooMany => k_is)
    (case kW_TooMany => kernel_rfl)
    (case kF_TooMany => k_is)
    (case kP_TooMany => k_is)
    (case kQ_TooMany => k_is)
    (case kR_TooMany => k_is)
    (case kZ_TooMany => rfl)
    (case kJ_TooMany => first | rfl | decide +kernel)
    (case kN_TooMany => k_is)
