import PyProof.Rows.All
import Wide.All
import OpenK.AllK
import Wide.FinOn
import KE.KStateDown
import KE.KExcSuper
import HandS.ForMost
import HandS.ForExc
import HandS.More
import HandS.Defaults
import HandS.ExcField
import HandS.Head0
import HandS.Head1
import HandS.Head2
import HandS.HeadEnd
import HandS.HeadHook1
import HandS.HeadHook2
import HandS.HeadHook3
import HandS.Walk
import HandS.TupAny
import HandS.NoneIn
import HandS.Style
import HandS.Strs
import HandS.IsInst
import HandS.Conv
import HandS.WrittenGet
import HandS.ListItems
import KE.GoesEnum
import PyProof.ReprLen
import HandS.WordsExc
import HandS.WordsList
import HandS.Comp
import HandS.WordsDict
import HandS.Ends
import PySem.Challenge.RW_ownback_k62_whole_a_journal_cut_anywhere
set_option linter.all false
/-! K62Math: the plain law of a journal cut anywhere; core Lean alone. -/
namespace K62
/-- a press -/
inductive Pr where
  | back (h : Int)
  | deed (h d : Int)
  deriving DecidableEq
abbrev Hist := List (Int × Int)
def Pr.enc : Pr → List Int
  | .back h => [0, h]
  | .deed h d => [1, h, d]
def Pr.ok : Pr → Prop
  | .back h => 0 ≤ h ∧ h < 4
  | .deed h d => (0 ≤ h ∧ h < 4) ∧ 0 ≤ d ∧ d < 6
def OkH (b : Hist) : Prop := ∀ q ∈ b, (0 ≤ q.1 ∧ q.1 < 4) ∧ 0 ≤ q.2 ∧ q.2 < 6
def OkP (ps : List Pr) : Prop := ∀ p ∈ ps, p.ok
def encP : List Pr → List Int
  | [] => []
  | p :: r => p.enc ++ encP r
def encL : Hist → List Int
  | [] => []
  | q :: r => q.1 :: q.2 :: encL r
def encB (s : Int) (b : Hist) : List Int := s :: ((b.length : Int) / 256) :: ((b.length : Int) % 256) :: encL b
def bl (b : Hist) : Nat := 3 + 2 * b.length
def enc (s : Int) (b : Hist) (ps : List Pr) : List Int := encB s b ++ encP ps

theorem encP_append : ∀ a b : List Pr, encP (a ++ b) = encP a ++ encP b
  | [], _ => rfl
  | p :: r, b => by
    show p.enc ++ encP (r ++ b) = (p.enc ++ encP r) ++ encP b
    rw [encP_append r b, List.append_assoc]
theorem encL_append : ∀ a b : Hist, encL (a ++ b) = encL a ++ encL b
  | [], _ => rfl
  | q :: r, b => by
    show q.1 :: q.2 :: encL (r ++ b) = (q.1 :: q.2 :: encL r) ++ encL b
    rw [encL_append r b]
    rfl
theorem encL_len : ∀ b : Hist, (encL b).length = 2 * b.length
  | [] => rfl
  | q :: r => by
    have ih := encL_len r
    show ((encL r).length + 1) + 1 = 2 * (r.length + 1)
    omega
theorem encB_len (s : Int) (b : Hist) : (encB s b).length = bl b := by
  have h := encL_len b
  unfold encB bl
  simp only [List.length_cons]
  omega
theorem enc_len_p (p : Pr) : 2 ≤ p.enc.length ∧ p.enc.length ≤ 3 := by
  cases p <;> simp [Pr.enc]
theorem encP_len_le : ∀ ps : List Pr, (encP ps).length ≤ 3 * ps.length
  | [] => Nat.le_refl _
  | p :: r => by
    have ih := encP_len_le r
    have h := (enc_len_p p).2
    show (p.enc ++ encP r).length ≤ 3 * (r.length + 1)
    rw [List.length_append]
    omega
theorem enc_len (s : Int) (b : Hist) (ps : List Pr) : (enc s b ps).length = bl b + (encP ps).length := by
  unfold enc
  rw [List.length_append, encB_len]
theorem take_snoc {α : Type} : ∀ {l : List α} {i : Nat} {x : α}, l[i]? = some x → l.take (i + 1) = l.take i ++ [x]
  | [], i, x, h => by simp at h
  | a :: l, 0, x, h => by
    have e : a = x := Option.some.inj h
    subst e
    rfl
  | a :: l, i + 1, x, h => by
    have ih := take_snoc (l := l) (i := i) (x := x) h
    show a :: l.take (i + 1) = a :: l.take i ++ [x]
    rw [ih]
    rfl
/-- the place behind the first i presses -/
def plc (ps : List Pr) (i : Nat) : Nat := (encP (ps.take i)).length
theorem plc_zero (ps : List Pr) : plc ps 0 = 0 := rfl
theorem plc_succ {ps : List Pr} {i : Nat} {p : Pr} (h : ps[i]? = some p) : plc ps (i + 1) = plc ps i + p.enc.length := by
  unfold plc
  rw [take_snoc h, encP_append, List.length_append]
  show _ + (p.enc ++ []).length = _
  rw [List.append_nil]
theorem plc_all {ps : List Pr} {i : Nat} (h : ps.length ≤ i) : plc ps i = (encP ps).length := by
  unfold plc
  rw [List.take_of_length_le h]
theorem encP_split (ps : List Pr) (i : Nat) : encP ps = encP (ps.take i) ++ encP (ps.drop i) := by
  rw [← encP_append, List.take_append_drop]
theorem plc_le (ps : List Pr) (i : Nat) : plc ps i ≤ (encP ps).length := by
  rw [encP_split ps i, List.length_append]
  exact Nat.le_add_right _ _
theorem encP_take_plc (ps : List Pr) (i : Nat) : (encP ps).take (plc ps i) = encP (ps.take i) := by
  rw [encP_split ps i]
  unfold plc
  rw [List.take_left]
/-- where the i-th press begins its octets stand -/
theorem encP_at {ps : List Pr} {i : Nat} {p : Pr} (h : ps[i]? = some p) {k : Nat} (hk : k < p.enc.length) : (encP ps)[plc ps i + k]? = p.enc[k]? := by
  have hi := (List.getElem?_eq_some_iff.mp h).1
  have e : ps.drop i = p :: ps.drop (i + 1) := by
    rw [List.drop_eq_getElem_cons hi]
    congr 1
    exact (List.getElem?_eq_some_iff.mp h).2
  rw [encP_split ps i]
  unfold plc
  rw [List.getElem?_append_right (Nat.le_add_right _ _), Nat.add_sub_cancel_left, e]
  show (p.enc ++ encP (ps.drop (i + 1)))[k]? = _
  rw [List.getElem?_append_left hk]
/-- how many presses are whole within n octets -/
def whole : List Pr → Nat → Nat
  | [], _ => 0
  | p :: r, n => if n < p.enc.length then 0 else whole r (n - p.enc.length) + 1
theorem whole_le : ∀ (ps : List Pr) (n : Nat), whole ps n ≤ ps.length
  | [], _ => Nat.le_refl _
  | p :: r, n => by
    unfold whole
    split
    · exact Nat.zero_le _
    · exact Nat.succ_le_succ (whole_le r _)
theorem plc_cons (p : Pr) (r : List Pr) (i : Nat) : plc (p :: r) (i + 1) = p.enc.length + plc r i := by
  unfold plc
  show (p.enc ++ encP (r.take i)).length = _
  rw [List.length_append]
theorem plc_whole : ∀ (ps : List Pr) (n : Nat), plc ps (whole ps n) ≤ n
  | [], n => by unfold whole; exact Nat.zero_le _
  | p :: r, n => by
    unfold whole
    split
    · exact Nat.zero_le _
    · have ih := plc_whole r (n - p.enc.length)
      rw [plc_cons]
      omega
theorem whole_next : ∀ (ps : List Pr) (n : Nat) (p : Pr), ps[whole ps n]? = some p → n < plc ps (whole ps n) + p.enc.length
  | [], n, p, h => by simp at h
  | q :: r, n, p, h => by
    unfold whole at h ⊢
    split
    · rename_i c
      rw [if_pos c] at h
      have e : q = p := Option.some.inj h
      rw [← e, plc_zero]
      omega
    · rename_i c
      rw [if_neg c] at h
      have ih := whole_next r (n - q.enc.length) p h
      rw [plc_cons]
      omega
theorem plc_mono {ps : List Pr} {i j : Nat} (h : i ≤ j) : plc ps i ≤ plc ps j := by
  have e : ps.take j = ps.take i ++ (ps.take j).drop i := by
    have h1 : (ps.take j).take i = ps.take i := by rw [List.take_take, Nat.min_eq_left h]
    rw [← h1, List.take_append_drop]
  unfold plc
  rw [e, encP_append, List.length_append]
  exact Nat.le_add_right _ _
/-- what is whole, told from outside -/
theorem whole_eq {ps : List Pr} {n i : Nat} (h1 : i ≤ ps.length) (h2 : plc ps i ≤ n) (h3 : ∀ p, ps[i]? = some p → n < plc ps i + p.enc.length) : whole ps n = i := by
  have a := whole_le ps n
  have b := plc_whole ps n
  rcases Nat.lt_trichotomy (whole ps n) i with c | c | c
  · exfalso
    have hl : whole ps n < ps.length := by omega
    obtain ⟨p, hp⟩ : ∃ p, ps[whole ps n]? = some p := ⟨_, List.getElem?_eq_getElem hl⟩
    have d := whole_next ps n p hp
    rw [← plc_succ hp] at d
    have e := plc_mono (ps := ps) (i := whole ps n + 1) (j := i) c
    omega
  · exact c
  · exfalso
    have hl : i < ps.length := by omega
    obtain ⟨p, hp⟩ : ∃ p, ps[i]? = some p := ⟨_, List.getElem?_eq_getElem hl⟩
    have d := h3 p hp
    rw [← plc_succ hp] at d
    have e := plc_mono (ps := ps) (i := i + 1) (j := whole ps n) c
    omega
theorem whole_all {ps : List Pr} {n : Nat} (h : (encP ps).length ≤ n) : whole ps n = ps.length :=
  whole_eq (Nat.le_refl _) (by rw [plc_all (Nat.le_refl _)]; exact h) (fun p hp => by simp at hp)

/-! ### pages -/
/-- a page's octets: those of a whole page, cut -/
structure Pg where
  s : Int
  b : Hist
  ps : List Pr
  m : Nat
def Pg.l (P : Pg) : List Int := (enc P.s P.b P.ps).take P.m
structure Pg.Ok (P : Pg) : Prop where
  s0 : 0 ≤ P.s
  s3 : P.s < 3
  hb : OkH P.b
  bz : P.b.length < 65536
  hp : OkP P.ps
abbrev Told := Int × Hist × List Pr × Nat
/-- what a page tells -/
def Pg.told (P : Pg) : Option Told :=
  if P.m < bl P.b then none else some (P.s, P.b, P.ps.take (whole P.ps (P.m - bl P.b)), bl P.b + plc P.ps (whole P.ps (P.m - bl P.b)))
/-- which of two pages counts -/
def plainJ (P0 P1 : Pg) : Option (Nat × Told) :=
  match P0.told, P1.told with
  | none, none => none
  | some x, none => some (0, x)
  | none, some y => some (1, y)
  | some x, some y => if x.1 = y.1 then none else if (x.1 + 1) % 3 = y.1 then some (1, y) else some (0, x)
theorem told_none {P : Pg} (h : P.m < bl P.b) : P.told = none := if_pos h
theorem told_some {P : Pg} (h : bl P.b ≤ P.m) : P.told = some (P.s, P.b, P.ps.take (whole P.ps (P.m - bl P.b)), bl P.b + plc P.ps (whole P.ps (P.m - bl P.b))) := if_neg (Nat.not_lt.mpr h)
/-- a whole page -/
def full (s : Int) (b : Hist) (ps : List Pr) : Pg := ⟨s, b, ps, (enc s b ps).length⟩
theorem full_l (s : Int) (b : Hist) (ps : List Pr) : (full s b ps).l = enc s b ps := List.take_length
theorem full_told (s : Int) (b : Hist) (ps : List Pr) : (full s b ps).told = some (s, b, ps, (enc s b ps).length) := by
  have h : bl b ≤ (full s b ps).m := by
    show bl b ≤ (enc s b ps).length
    rw [enc_len]
    exact Nat.le_add_right _ _
  rw [told_some (P := full s b ps) h]
  have e : whole ps ((enc s b ps).length - bl b) = ps.length := whole_all (by rw [enc_len]; omega)
  show some (s, b, ps.take (whole ps ((enc s b ps).length - bl b)), bl b + plc ps (whole ps ((enc s b ps).length - bl b))) = _
  rw [e, List.take_length, plc_all (Nat.le_refl _), enc_len]
/-- what a cut page keeps, its torn end struck, is a whole page -/
theorem strike {s : Int} {b : Hist} {ps : List Pr} {m : Nat} (h : bl b ≤ m) :
    ((enc s b ps).take m).take (bl b + plc ps (whole ps (m - bl b))) = enc s b (ps.take (whole ps (m - bl b))) := by
  have h1 := plc_whole ps (m - bl b)
  rw [List.take_take, Nat.min_eq_left (by omega)]
  unfold enc
  have e : bl b + plc ps (whole ps (m - bl b)) = (encB s b).length + plc ps (whole ps (m - bl b)) := by rw [encB_len]
  rw [e, List.take_length_add_append, encP_take_plc]
theorem enc_take_len {s : Int} {b : Hist} {ps : List Pr} {m : Nat} (h : bl b ≤ m) : (enc s b (ps.take (whole ps (m - bl b)))).length = bl b + plc ps (whole ps (m - bl b)) := by
  rw [enc_len]
  rfl

/-! ### what is due -/
/-- what is due: which page, its sign, its history, its presses, how much is kept, what was told when it was begun -/
structure Due where
  pg : Nat
  s : Int
  b : Hist
  ps : List Pr
  kept : Nat
  el : Option (Hist × List Pr)
def Due.oct (D : Due) : List Int := enc D.s D.b D.ps
/-- the other page -/
structure Oth where
  b : Hist
  ps : List Pr
  m : Nat
  s : Int
def Oth.p (O : Oth) : Pg := ⟨O.s, O.b, O.ps, O.m⟩
def Oth.l (O : Oth) : List Int := O.p.l
/-- the two pages by their places -/
def pair {α : Type} (pg : Nat) (a b : α) : α × α := if pg = 0 then (a, b) else (b, a)
/-- how they stand to one another -/
structure Ok (n : Nat) (D : Due) (O : Oth) : Prop where
  pg : D.pg = 0 ∨ D.pg = 1
  s0 : 0 ≤ D.s
  s3 : D.s < 3
  hb : OkH D.b
  bz : D.b.length ≤ 700
  hp : OkP D.ps
  pz : D.ps.length ≤ n
  kz : D.kept ≤ D.oct.length
  oP : O.p.Ok
  oz : O.b.length ≤ 700
  opz : O.ps.length ≤ n
  os : bl O.b ≤ O.m → (O.s + 1) % 3 = D.s
  st : bl D.b ≤ D.kept ∨ (D.kept = 0 ∧ D.el = some (O.b, O.ps) ∧ O.m = (enc O.s O.b O.ps).length)
  ez : ∀ e, D.el = some e → OkH e.1 ∧ OkP e.2 ∧ e.1.length ≤ 700 ∧ e.2.length ≤ n
/-- behind a cut with so many octets left -/
def behind (D : Due) (left : Nat) : Due :=
  if bl D.b ≤ D.kept + left then
    { D with ps := D.ps.take (whole D.ps (D.kept + left - bl D.b)), kept := bl D.b + plc D.ps (whole D.ps (D.kept + left - bl D.b)) }
  else match D.el with
    | some e => ⟨1 - D.pg, (D.s + 2) % 3, e.1, e.2, bl e.1 + (encP e.2).length, none⟩
    | none => D
/-- the other page behind a cut -/
def othBehind (D : Due) (O : Oth) (left : Nat) : Oth :=
  if bl D.b ≤ D.kept + left then O else ⟨D.b, D.ps, left, D.s⟩
/-- the page that was written to, cut -/
def cutPg (D : Due) (left : Nat) : Pg := ⟨D.s, D.b, D.ps, D.kept + left⟩
theorem mod3 {a b : Int} (h0 : 0 ≤ a) (h3 : a < 3) (h : (a + 1) % 3 = b) : a = (b + 2) % 3 := by omega
theorem sgn_ne {a b : Int} (h0 : 0 ≤ a) (h3 : a < 3) (h : (a + 1) % 3 = b) : ¬ a = b ∧ ¬ (b + 1) % 3 = a := by omega
/-- the page that counts, behind a cut -/
theorem plain_cut {n : Nat} {D : Due} {O : Oth} {left : Nat} (k : Ok n D O) (hl : D.kept + left ≤ D.oct.length) :
    plainJ (pair D.pg (cutPg D left) O.p).1 (pair D.pg (cutPg D left) O.p).2 =
      some ((behind D left).pg, (behind D left).s, (behind D left).b, (behind D left).ps, (behind D left).kept) := by
  by_cases c : bl D.b ≤ D.kept + left
  · -- whole
    have t1 := told_some (P := cutPg D left) c
    have e : behind D left = { D with ps := D.ps.take (whole D.ps (D.kept + left - bl D.b)), kept := bl D.b + plc D.ps (whole D.ps (D.kept + left - bl D.b)) } := if_pos c
    rw [e]
    by_cases c2 : bl O.b ≤ O.m
    · have t2 := told_some (P := O.p) c2
      have h2 := k.os c2
      have ne : ¬ O.s = D.s ∧ ¬ (D.s + 1) % 3 = O.s := sgn_ne k.oP.s0 k.oP.s3 h2
      rcases k.pg with h | h
      · rw [h]
        show plainJ (cutPg D left) O.p = _
        unfold plainJ
        rw [t1, t2]
        show (if D.s = O.s then none else if (D.s + 1) % 3 = O.s then _ else _) = _
        rw [if_neg (fun z => ne.1 z.symm), if_neg ne.2]
        rfl
      · rw [h]
        show plainJ O.p (cutPg D left) = _
        unfold plainJ
        rw [t1, t2]
        show (if O.s = D.s then none else if (O.s + 1) % 3 = D.s then _ else _) = _
        rw [if_neg ne.1, if_pos h2]
        rfl
    · have t2 := told_none (P := O.p) (Nat.lt_of_not_le c2)
      rcases k.pg with h | h
      · rw [h]
        show plainJ (cutPg D left) O.p = _
        unfold plainJ
        rw [t1, t2]
        rfl
      · rw [h]
        show plainJ O.p (cutPg D left) = _
        unfold plainJ
        rw [t1, t2]
        rfl
  · -- torn: the elder page counts
    have t1 := told_none (P := cutPg D left) (Nat.lt_of_not_le c)
    rcases k.st with h0 | ⟨h0, he, hm⟩
    · exact absurd (Nat.le_trans h0 (Nat.le_add_right _ _)) c
    have e : behind D left = ⟨1 - D.pg, (D.s + 2) % 3, O.b, O.ps, bl O.b + (encP O.ps).length, none⟩ := by
      unfold behind
      rw [if_neg c, he]
    rw [e]
    have c2 : bl O.b ≤ O.m := by
      rw [hm, enc_len]
      exact Nat.le_add_right _ _
    have hs := mod3 k.oP.s0 k.oP.s3 (k.os c2)
    have hs' : O.s = (D.s + 2) % 3 := hs
    have eO : O.p = full O.s O.b O.ps := by
      unfold Oth.p full
      rw [hm]
    have t2 : O.p.told = some (O.s, O.b, O.ps, (enc O.s O.b O.ps).length) := by rw [eO]; exact full_told _ _ _
    have el : (enc O.s O.b O.ps).length = bl O.b + (encP O.ps).length := enc_len _ _ _
    rcases k.pg with h | h
    · rw [h]
      show plainJ (cutPg D left) O.p = _
      unfold plainJ
      rw [t1, t2, el, ← hs']
    · rw [h]
      show plainJ O.p (cutPg D left) = _
      unfold plainJ
      rw [t1, t2, el, ← hs']
/-- .. where nothing is cut -/
theorem cut_full (D : Due) (hk : D.kept ≤ D.oct.length) : cutPg D (D.oct.length - D.kept) = full D.s D.b D.ps := by
  unfold cutPg full
  have e : D.kept + (D.oct.length - D.kept) = (enc D.s D.b D.ps).length := by
    show D.kept + (D.oct.length - D.kept) = D.oct.length
    omega
  rw [e]
theorem plain_now {n : Nat} {D : Due} {O : Oth} (k : Ok n D O) :
    plainJ (pair D.pg (full D.s D.b D.ps) O.p).1 (pair D.pg (full D.s D.b D.ps) O.p).2 = some (D.pg, D.s, D.b, D.ps, D.oct.length) := by
  have kz := k.kz
  have h := plain_cut (left := D.oct.length - D.kept) k (by omega)
  rw [cut_full D kz] at h
  rw [h]
  have c : bl D.b ≤ D.kept + (D.oct.length - D.kept) := by
    have e : D.oct.length = bl D.b + (encP D.ps).length := enc_len _ _ _
    omega
  have e : behind D (D.oct.length - D.kept) = { D with ps := D.ps.take (whole D.ps (D.kept + (D.oct.length - D.kept) - bl D.b)), kept := bl D.b + plc D.ps (whole D.ps (D.kept + (D.oct.length - D.kept) - bl D.b)) } := if_pos c
  rw [e]
  have el : D.oct.length = bl D.b + (encP D.ps).length := enc_len _ _ _
  have w : whole D.ps (D.kept + (D.oct.length - D.kept) - bl D.b) = D.ps.length := whole_all (by omega)
  rw [w, List.take_length, plc_all (Nat.le_refl _), ← el]
theorem okP_take {ps : List Pr} (h : OkP ps) (i : Nat) : OkP (ps.take i) := fun p hp => h p (List.mem_of_mem_take hp)
/-- a cut keeps the state -/
theorem Ok.cut {n : Nat} {D : Due} {O : Oth} {left : Nat} (k : Ok n D O) (hl : D.kept + left ≤ D.oct.length) : Ok n (behind D left) (othBehind D O left) := by
  by_cases c : bl D.b ≤ D.kept + left
  · have e : behind D left = { D with ps := D.ps.take (whole D.ps (D.kept + left - bl D.b)), kept := bl D.b + plc D.ps (whole D.ps (D.kept + left - bl D.b)) } := if_pos c
    have e2 : othBehind D O left = O := if_pos c
    rw [e, e2]
    refine ⟨k.pg, k.s0, k.s3, k.hb, k.bz, okP_take k.hp _, ?_, ?_, k.oP, k.oz, k.opz, k.os, .inl (Nat.le_add_right _ _), k.ez⟩
    · show (D.ps.take _).length ≤ n
      rw [List.length_take]
      have := k.pz
      omega
    · show bl D.b + plc D.ps _ ≤ (enc D.s D.b (D.ps.take _)).length
      rw [enc_take_len c]
      exact Nat.le_refl _
  · rcases k.st with h0 | ⟨h0, he, hm⟩
    · exact absurd (Nat.le_trans h0 (Nat.le_add_right _ _)) c
    have e : behind D left = ⟨1 - D.pg, (D.s + 2) % 3, O.b, O.ps, bl O.b + (encP O.ps).length, none⟩ := by
      unfold behind
      rw [if_neg c, he]
    have e2 : othBehind D O left = ⟨D.b, D.ps, left, D.s⟩ := if_neg c
    rw [e, e2]
    have s0 := k.s0
    have s3 := k.s3
    have bz := k.bz
    refine ⟨?_, ?_, ?_, k.oP.hb, k.oz, k.oP.hp, k.opz, ?_, ⟨k.s0, k.s3, k.hb, ?_, k.hp⟩, k.bz, k.pz, ?_, ?_, ?_⟩
    · show 1 - D.pg = 0 ∨ 1 - D.pg = 1
      rcases k.pg with h | h <;> omega
    · show 0 ≤ (D.s + 2) % 3
      omega
    · show (D.s + 2) % 3 < 3
      omega
    · show bl O.b + (encP O.ps).length ≤ (enc ((D.s + 2) % 3) O.b O.ps).length
      rw [enc_len]
      exact Nat.le_refl _
    · show D.b.length < 65536
      omega
    · intro z
      have z' : bl D.b ≤ left := z
      omega
    · exact .inl (Nat.le_add_right _ _)
    · intro e h
      cases h
theorem Ok.mono {n m : Nat} {D : Due} {O : Oth} (k : Ok n D O) (h : n ≤ m) : Ok m D O :=
  ⟨k.pg, k.s0, k.s3, k.hb, k.bz, k.hp, Nat.le_trans k.pz h, k.kz, k.oP, k.oz, Nat.le_trans k.opz h, k.os, k.st, fun e z => let ⟨a, b, c, d⟩ := k.ez e z; ⟨a, b, c, Nat.le_trans d h⟩⟩
def due0 : Due := ⟨0, 0, [], [], 3, none⟩
def oth0 : Oth := ⟨[], [], 0, 0⟩
theorem Ok.start : Ok 0 due0 oth0 := by
  refine ⟨.inl rfl, by decide, by decide, fun _ h => (List.not_mem_nil h).elim, by decide, fun _ h => (List.not_mem_nil h).elim, by decide, by decide, ⟨by decide, by decide, fun _ h => (List.not_mem_nil h).elim, by decide, fun _ h => (List.not_mem_nil h).elim⟩, by decide, by decide, ?_, .inl (by decide), fun e h => by cases h⟩
  intro h
  exact absurd h (by decide)
/-- a press laid -/
def laid (D : Due) (p : Pr) : Due := { D with ps := D.ps ++ [p] }
theorem laid_oct (D : Due) (p : Pr) : (laid D p).oct = D.oct ++ p.enc := by
  show enc D.s D.b (D.ps ++ [p]) = enc D.s D.b D.ps ++ p.enc
  unfold enc
  rw [encP_append, List.append_assoc]
  show _ ++ (_ ++ (p.enc ++ [])) = _
  rw [List.append_nil]
theorem Ok.laid {n : Nat} {D : Due} {O : Oth} {p : Pr} (k : Ok n D O) (hp : p.ok) : Ok (n + 1) (laid D p) O := by
  have k1 := k.mono (Nat.le_succ n)
  refine ⟨k1.pg, k1.s0, k1.s3, k1.hb, k1.bz, ?_, ?_, ?_, k1.oP, k1.oz, k1.opz, k1.os, k1.st, k1.ez⟩
  · intro q hq
    rcases List.mem_append.mp hq with h | h
    · exact k.hp q h
    · rw [List.mem_singleton.mp h]
      exact hp
  · show (D.ps ++ [p]).length ≤ n + 1
    rw [List.length_append]
    have := k.pz
    simp only [List.length_cons, List.length_nil]
    omega
  · rw [laid_oct, List.length_append]
    exact Nat.le_trans k.kz (Nat.le_add_right _ _)
/-- all kept -/
def keptAll (D : Due) : Due := { D with kept := D.oct.length }
theorem Ok.keep {n : Nat} {D : Due} {O : Oth} (k : Ok n D O) : Ok n (keptAll D) O := by
  refine ⟨k.pg, k.s0, k.s3, k.hb, k.bz, k.hp, k.pz, Nat.le_refl _, k.oP, k.oz, k.opz, k.os, .inl ?_, k.ez⟩
  show bl D.b ≤ (enc D.s D.b D.ps).length
  rw [enc_len]
  exact Nat.le_add_right _ _
/-- a page begun -/
def begun (D : Due) (b : Hist) : Due := ⟨1 - D.pg, (D.s + 1) % 3, b, [], 0, some (D.b, D.ps)⟩
def othBegun (D : Due) : Oth := ⟨D.b, D.ps, D.oct.length, D.s⟩
theorem Ok.begun {n : Nat} {D : Due} {O : Oth} {b : Hist} (k : Ok n D O) (hb : OkH b) (bz : b.length ≤ 700) : Ok n (begun D b) (othBegun D) := by
  have s0 := k.s0
  have s3 := k.s3
  have hz := k.bz
  refine ⟨?_, ?_, ?_, hb, bz, fun _ h => (List.not_mem_nil h).elim, Nat.zero_le _, Nat.zero_le _, ⟨k.s0, k.s3, k.hb, ?_, k.hp⟩, k.bz, k.pz, fun _ => rfl, .inr ⟨rfl, rfl, rfl⟩, ?_⟩
  · show 1 - D.pg = 0 ∨ 1 - D.pg = 1
    rcases k.pg with h | h <;> omega
  · show 0 ≤ (D.s + 1) % 3
    omega
  · show (D.s + 1) % 3 < 3
    omega
  · show D.b.length < 65536
    omega
  · intro e h
    have h' : (D.b, D.ps) = e := Option.some.inj h
    rw [← h']
    exact ⟨k.hb, k.hp, k.bz, k.pz⟩
theorem othBegun_l (D : Due) : (othBegun D).l = D.oct := List.take_length
end K62

set_option Elab.async false
set_option linter.all false
set_option maxRecDepth 100000
set_option maxHeartbeats 4000000
/-! K62Top: the text by places; what the top leaves. (printed by gen_top.py) -/
namespace K62
open PySem PySem.Spec PyProof.Rows L2
def top (i : Nat) : Stmt := PySem.Challenge.pw_ownback_k62_whole_a_journal_cut_anywhere.main.body.getD i (.Pass ⟨0, 0, 0, 0⟩)
abbrev s_is_integer : Stmt := top 10
abbrev s_is_number : Stmt := top 11
abbrev s_is_below : Stmt := top 12
abbrev s_is_positive : Stmt := top 13
abbrev s_is_sequence : Stmt := top 14
abbrev s_is_string : Stmt := top 15
abbrev s_is_hands : Stmt := top 16
abbrev s_need_octets : Stmt := top 17
abbrev s_is_press : Stmt := top 23
abbrev s_check_press : Stmt := top 24
abbrev s_number_octets : Stmt := top 25
abbrev s_press_octets : Stmt := top 26
abbrev s_read_presses : Stmt := top 28
abbrev s_need_hands : Stmt := top 30
abbrev s_is_letter : Stmt := top 31
abbrev s_check_row : Stmt := top 32
abbrev s_begun_octets : Stmt := top 37
abbrev s_begun_at : Stmt := top 38
abbrev s_page_told : Stmt := top 39
abbrev s_later_page : Stmt := top 40
abbrev s_plain_journal : Stmt := top 41
abbrev s_open_journal : Stmt := top 43
abbrev s__law_box : Stmt := top 45
abbrev s__law_take : Stmt := top 46
abbrev s__law_pick : Stmt := top 47
abbrev s__law_begun : Stmt := top 48
abbrev s__law_octets : Stmt := top 49
abbrev s__law_whole : Stmt := top 50
abbrev s__law_behind : Stmt := top 51
abbrev s__law_press : Stmt := top 52
abbrev s__law_history : Stmt := top 53
abbrev s__law_is_so : Stmt := top 54
abbrev s__law_opened : Stmt := top 55
abbrev s_law : Stmt := top 56
abbrev s_Reading_init : Stmt := inClass (top 27) 0
abbrev s_Reading_take : Stmt := inClass (top 27) 1
abbrev s_Reading_take_number : Stmt := inClass (top 27) 2
abbrev s_Reading_take_press : Stmt := inClass (top 27) 3
abbrev s_Journal_init : Stmt := inClass (top 42) 0
abbrev s_Journal_written : Stmt := inClass (top 42) 1
abbrev s_Journal_lay : Stmt := inClass (top 42) 2
abbrev s_Journal_keep : Stmt := inClass (top 42) 3
abbrev s_Journal_loose : Stmt := inClass (top 42) 4
abbrev s_Journal_begin : Stmt := inClass (top 42) 5
abbrev s_Journal_cut : Stmt := inClass (top 42) 6
abbrev s_Broken : Stmt := inClass (top 5) 0
/-- a def of the text, where it stands -/
abbrev FnP (K : PySem.W.Frag) (x qual : Str) (st : Stmt) (f : Addr) (fd : FuncData) : Prop := FunD K x qual (defArgs st) (defBody st) (defScope st) [] [] f fd
def d_is_integer : He.DefD := ⟨("is_integer", none), "is_integer", "is_integer", defArgs s_is_integer, defBody s_is_integer, defScope s_is_integer, [], []⟩
def d_is_number : He.DefD := ⟨("is_number", none), "is_number", "is_number", defArgs s_is_number, defBody s_is_number, defScope s_is_number, [], []⟩
def d_is_below : He.DefD := ⟨("is_below", none), "is_below", "is_below", defArgs s_is_below, defBody s_is_below, defScope s_is_below, [], []⟩
def d_is_positive : He.DefD := ⟨("is_positive", none), "is_positive", "is_positive", defArgs s_is_positive, defBody s_is_positive, defScope s_is_positive, [], []⟩
def d_is_sequence : He.DefD := ⟨("is_sequence", none), "is_sequence", "is_sequence", defArgs s_is_sequence, defBody s_is_sequence, defScope s_is_sequence, [], []⟩
def d_is_string : He.DefD := ⟨("is_string", none), "is_string", "is_string", defArgs s_is_string, defBody s_is_string, defScope s_is_string, [], []⟩
def d_is_hands : He.DefD := ⟨("is_hands", none), "is_hands", "is_hands", defArgs s_is_hands, defBody s_is_hands, defScope s_is_hands, [], []⟩
def d_need_octets : He.DefD := ⟨("need_octets", none), "need_octets", "need_octets", defArgs s_need_octets, defBody s_need_octets, defScope s_need_octets, [], []⟩
def d_is_press : He.DefD := ⟨("is_press", none), "is_press", "is_press", defArgs s_is_press, defBody s_is_press, defScope s_is_press, [], []⟩
def d_check_press : He.DefD := ⟨("check_press", none), "check_press", "check_press", defArgs s_check_press, defBody s_check_press, defScope s_check_press, [], []⟩
def d_number_octets : He.DefD := ⟨("number_octets", none), "number_octets", "number_octets", defArgs s_number_octets, defBody s_number_octets, defScope s_number_octets, [], []⟩
def d_press_octets : He.DefD := ⟨("press_octets", none), "press_octets", "press_octets", defArgs s_press_octets, defBody s_press_octets, defScope s_press_octets, [], []⟩
def d_read_presses : He.DefD := ⟨("read_presses", none), "read_presses", "read_presses", defArgs s_read_presses, defBody s_read_presses, defScope s_read_presses, [], []⟩
def d_need_hands : He.DefD := ⟨("need_hands", none), "need_hands", "need_hands", defArgs s_need_hands, defBody s_need_hands, defScope s_need_hands, [], []⟩
def d_is_letter : He.DefD := ⟨("is_letter", none), "is_letter", "is_letter", defArgs s_is_letter, defBody s_is_letter, defScope s_is_letter, [], []⟩
def d_check_row : He.DefD := ⟨("check_row", none), "check_row", "check_row", defArgs s_check_row, defBody s_check_row, defScope s_check_row, [], []⟩
def d_begun_octets : He.DefD := ⟨("begun_octets", none), "begun_octets", "begun_octets", defArgs s_begun_octets, defBody s_begun_octets, defScope s_begun_octets, [], []⟩
def d_begun_at : He.DefD := ⟨("begun_at", none), "begun_at", "begun_at", defArgs s_begun_at, defBody s_begun_at, defScope s_begun_at, [], []⟩
def d_page_told : He.DefD := ⟨("page_told", none), "page_told", "page_told", defArgs s_page_told, defBody s_page_told, defScope s_page_told, [], []⟩
def d_later_page : He.DefD := ⟨("later_page", none), "later_page", "later_page", defArgs s_later_page, defBody s_later_page, defScope s_later_page, [], []⟩
def d_plain_journal : He.DefD := ⟨("plain_journal", none), "plain_journal", "plain_journal", defArgs s_plain_journal, defBody s_plain_journal, defScope s_plain_journal, [], []⟩
def d_open_journal : He.DefD := ⟨("open_journal", none), "open_journal", "open_journal", defArgs s_open_journal, defBody s_open_journal, defScope s_open_journal, [], []⟩
def d__law_box : He.DefD := ⟨("_law_box", none), "_law_box", "_law_box", defArgs s__law_box, defBody s__law_box, defScope s__law_box, [], []⟩
def d__law_take : He.DefD := ⟨("_law_take", none), "_law_take", "_law_take", defArgs s__law_take, defBody s__law_take, defScope s__law_take, [], []⟩
def d__law_pick : He.DefD := ⟨("_law_pick", none), "_law_pick", "_law_pick", defArgs s__law_pick, defBody s__law_pick, defScope s__law_pick, [], []⟩
def d__law_begun : He.DefD := ⟨("_law_begun", none), "_law_begun", "_law_begun", defArgs s__law_begun, defBody s__law_begun, defScope s__law_begun, [], []⟩
def d__law_octets : He.DefD := ⟨("_law_octets", none), "_law_octets", "_law_octets", defArgs s__law_octets, defBody s__law_octets, defScope s__law_octets, [], []⟩
def d__law_whole : He.DefD := ⟨("_law_whole", none), "_law_whole", "_law_whole", defArgs s__law_whole, defBody s__law_whole, defScope s__law_whole, [], []⟩
def d__law_behind : He.DefD := ⟨("_law_behind", none), "_law_behind", "_law_behind", defArgs s__law_behind, defBody s__law_behind, defScope s__law_behind, [], []⟩
def d__law_press : He.DefD := ⟨("_law_press", none), "_law_press", "_law_press", defArgs s__law_press, defBody s__law_press, defScope s__law_press, [], []⟩
def d__law_history : He.DefD := ⟨("_law_history", none), "_law_history", "_law_history", defArgs s__law_history, defBody s__law_history, defScope s__law_history, [], []⟩
def d__law_is_so : He.DefD := ⟨("_law_is_so", none), "_law_is_so", "_law_is_so", defArgs s__law_is_so, defBody s__law_is_so, defScope s__law_is_so, [], []⟩
def d__law_opened : He.DefD := ⟨("_law_opened", none), "_law_opened", "_law_opened", defArgs s__law_opened, defBody s__law_opened, defScope s__law_opened, [], []⟩
def d_law : He.DefD := ⟨("law", none), "law", "law", defArgs s_law, defBody s_law, defScope s_law, [], []⟩
def d_Reading_init : He.DefD := ⟨("Reading", some "__init__"), "__init__", "Reading.__init__", defArgs s_Reading_init, defBody s_Reading_init, defScope s_Reading_init, [], []⟩
def d_Reading_take : He.DefD := ⟨("Reading", some "take"), "take", "Reading.take", defArgs s_Reading_take, defBody s_Reading_take, defScope s_Reading_take, [], []⟩
def d_Reading_take_number : He.DefD := ⟨("Reading", some "take_number"), "take_number", "Reading.take_number", defArgs s_Reading_take_number, defBody s_Reading_take_number, defScope s_Reading_take_number, [], []⟩
def d_Reading_take_press : He.DefD := ⟨("Reading", some "take_press"), "take_press", "Reading.take_press", defArgs s_Reading_take_press, defBody s_Reading_take_press, defScope s_Reading_take_press, [], []⟩
def d_Journal_init : He.DefD := ⟨("Journal", some "__init__"), "__init__", "Journal.__init__", defArgs s_Journal_init, defBody s_Journal_init, defScope s_Journal_init, [], []⟩
def d_Journal_written : He.DefD := ⟨("Journal", some "written"), "written", "Journal.written", defArgs s_Journal_written, defBody s_Journal_written, defScope s_Journal_written, [], []⟩
def d_Journal_lay : He.DefD := ⟨("Journal", some "lay"), "lay", "Journal.lay", defArgs s_Journal_lay, defBody s_Journal_lay, defScope s_Journal_lay, [], []⟩
def d_Journal_keep : He.DefD := ⟨("Journal", some "keep"), "keep", "Journal.keep", defArgs s_Journal_keep, defBody s_Journal_keep, defScope s_Journal_keep, [], []⟩
def d_Journal_loose : He.DefD := ⟨("Journal", some "loose"), "loose", "Journal.loose", defArgs s_Journal_loose, defBody s_Journal_loose, defScope s_Journal_loose, [], []⟩
def d_Journal_begin : He.DefD := ⟨("Journal", some "begin"), "begin", "Journal.begin", defArgs s_Journal_begin, defBody s_Journal_begin, defScope s_Journal_begin, [], []⟩
def d_Journal_cut : He.DefD := ⟨("Journal", some "cut"), "cut", "Journal.cut", defArgs s_Journal_cut, defBody s_Journal_cut, defScope s_Journal_cut, [], []⟩
def fn : List He.DefD := [d_is_integer, d_is_number, d_is_below, d_is_positive, d_is_sequence, d_is_string, d_is_hands, d_need_octets, d_is_press, d_check_press, d_number_octets, d_press_octets, d_read_presses, d_need_hands, d_is_letter, d_check_row, d_begun_octets, d_begun_at, d_page_told, d_later_page, d_plain_journal, d_open_journal, d__law_box, d__law_take, d__law_pick, d__law_begun, d__law_octets, d__law_whole, d__law_behind, d__law_press, d__law_history, d__law_is_so, d__law_opened, d_law, d_Reading_init, d_Reading_take, d_Reading_take_number, d_Reading_take_press, d_Journal_init, d_Journal_written, d_Journal_lay, d_Journal_keep, d_Journal_loose, d_Journal_begin, d_Journal_cut]
def fa0 : List He.Fa := [.glo "is_integer", .glo "is_number", .glo "is_below", .glo "is_positive", .glo "is_sequence", .glo "is_string", .glo "is_hands", .glo "need_octets", .glo "is_press", .glo "check_press", .glo "number_octets", .glo "press_octets", .glo "read_presses", .glo "need_hands", .glo "is_letter", .glo "check_row", .glo "begun_octets", .glo "begun_at", .glo "page_told", .glo "later_page", .glo "plain_journal", .glo "open_journal", .glo "_law_box", .glo "_law_take", .glo "_law_pick", .glo "_law_begun", .glo "_law_octets", .glo "_law_whole", .glo "_law_behind", .glo "_law_press"]
def fa1 : List He.Fa := [.glo "_law_history", .glo "_law_is_so", .glo "_law_opened", .glo "law", .glo "Reading", .cls "Reading", .mkr "Reading", .noat "Reading" "octets", .noat "Reading" "at", .noat "Reading" "heals", .noat "Reading" "extra", .meth "Reading" "take", .meth "Reading" "take_number", .meth "Reading" "take_press", .glo "Journal", .cls "Journal", .mkr "Journal", .noat "Journal" "pages", .noat "Journal" "page", .noat "Journal" "sign", .noat "Journal" "begun", .noat "Journal" "laid", .noat "Journal" "kept", .meth "Journal" "written", .meth "Journal" "lay", .meth "Journal" "keep", .meth "Journal" "loose", .meth "Journal" "begin", .meth "Journal" "cut", .int "MOST_OCTET" 256]
def fa2 : List He.Fa := [.int "MOST_HANDS" 4, .int "MOST_DEEDS" 6, .int "SIGNS" 3, .int "MANY_OCTETS" 2, .int "MOST_BEGUN" 65536, .str "DEED" "deed", .str "BACK" "back", .glo "PARTS", .glo "KINDS", .glo "Broken", .free "isinstance", .free "int", .free "bool", .free "list", .free "tuple", .free "str", .free "len", .free "range", .free "enumerate", .free "abs", .free "repr", .free "super", .exm "Broken" "Broken" true]
def fa : List He.Fa := fa0 ++ fa1 ++ fa2
def ts : List He.Tab := [(fun K => He.ga K "PARTS", ["deed", "back"])]
/-! ### Broken's own __init__ -/
def ccOf (K : PySem.W.Frag) : Addr := match K.lookup (He.ma K (He.ga K "Broken") "__init__") with
  | some ⟨_, _, .func fd, _⟩ => (match fd.closure with
    | [(_, c)] => c
    | _ => 0)
  | _ => 0
def cdOf (K : PySem.W.Frag) : Addr := match K.lookup (He.ma K (He.ga K "Broken") "__init__") with
  | some ⟨_, _, .func fd, _⟩ => (match fd.code with
    | .ref c => c
    | _ => 0)
  | _ => 0
abbrev FnC : Type := Option (Str × Str × Arguments × FuncBody × Scope × Addr × List Str × Value × Addr)
def fnC (K : PySem.W.Frag) : FnC := match K.lookup (He.ma K (He.ga K "Broken") "__init__") with
  | some ⟨_, _, .func fd, _⟩ => some (fd.name, fd.qualname, fd.params, fd.body, fd.scope, fd.globals, fd.closure.map (·.1), fd.defaults, fd.builtins)
  | _ => none
def valC : FnC := some ("__init__", "Broken.__init__", defArgs s_Broken, .stmts (defBody s_Broken), defScope s_Broken, mainGlobals, ["__class__"], .none, builtinsNs)
def eqV (a b : Option Value) : Bool := decide (a = b)
def cellB (K : PySem.W.Frag) : Bool := match K.lookup (ccOf K) with
  | some ⟨_, _, .cell (some (.ref D)), _⟩ => decide (D = He.ga K "Broken")
  | _ => false
def codeB (K : PySem.W.Frag) : Bool := match K.lookup (cdOf K) with
  | some ⟨_, _, .fields vs, _⟩ => (match (vs[2]? : Option Value) with
    | some (Value.str f _) => ((PySem.Challenge.pw_ownback_k62_whole_a_journal_cut_anywhere.main.file : Str) == f)
    | _ => false)
  | _ => false
def clsB (K : PySem.W.Frag) : Bool := (PySem.W.clsIn K (He.ga K "Broken")).any fun cd => PySem.HandSPX.refsVE cd.mro && cd.hasDict
def initB (K : PySem.W.Frag) : Bool := match K.lookup (He.ma K (He.ga K "Broken") "__init__") with
  | some ⟨_, _, .func fd, _⟩ => PySem.W.codeIn K fd.code "Broken.__init__" && (match fd.code with
    | .ref _ => true
    | _ => false)
  | _ => false
/-- what is asked of Broken beside -/
def brkB (K : PySem.W.Frag) : Bool :=
  PySem.W.excInitIn K (He.ga K "Broken") PySem.HandSPX.veTail "ValueError.__new__" && (clsB K && (initB K && (cellB K && (codeB K &&
  (He.eqO (PySem.W.findIn K (.ref (He.ga K "Broken")) "__setattr__") (some (some (.builtin "object.__setattr__"))) &&
  (He.eqO (PySem.W.findIn K (.ref (He.ga K "Broken")) "at") (some none) &&
  (He.eqO (PySem.W.findIn K (.ref (He.ga K "Broken")) "__init__") (some (some (.ref (He.ma K (He.ga K "Broken") "__init__")))) &&
  (eqV (PySem.W.typeIn K (.ref (He.ma K (He.ga K "Broken") "__init__"))) (some (.type "function")) &&
  (PySem.W.keepIn K (.ref (He.ga K "Broken")) &&
  (decide (PySem.W.subIn K (.ref (He.ga K "Broken")) (.type "BaseException") = some true) &&
  (decide (PySem.W.subIn K (.ref (He.ga K "Broken")) (.type "ValueError") = some true) &&
  (eqV (PySem.W.typeIn K (.ref (He.ga K "Broken"))) (some (.type "type")) &&
  (decide (PySem.W.mroIn K (He.ga K "Broken") (.ref (He.ga K "Broken")) = some true) &&
  (He.eqO (PySem.W.ks_superIn K (He.ga K "Broken") (He.ga K "Broken") "__init__") (some (some (.builtin "ValueError.__init__"))) &&
  (He.eqO (PySem.W.nsIn K cStatics "thirdparty.any") (some none) && xfB K (He.ga K "Broken"))))))))))))))))
def ndB (K : PySem.W.Frag) : Bool := match K.lookup (He.ga K "KINDS") with
  | some ⟨.type c, none, _, _⟩ => decide (c = "tuple")
  | _ => false
theorem ndB_ok {K : PySem.W.Frag} (h : ndB K = true) : ∃ o, K.lookup (He.ga K "KINDS") = some o ∧ o.cls = .type "tuple" ∧ o.dict = none := by
  unfold ndB at h
  cases q : K.lookup (He.ga K "KINDS") with
  | none => rw [q] at h; cases h
  | some o =>
    obtain ⟨c, d, dt, sl⟩ := o
    rw [q] at h
    cases c with
    | type c =>
      cases d with
      | none =>
        have e : c = "tuple" := of_decide_eq_true h
        subst e
        exact ⟨_, rfl, rfl, rfl⟩
      | some d => cases h
    | _ => cases h
def exB (K : PySem.W.Frag) : Bool := He.tupB K "KINDS" [.str "back", .str "deed"] && (He.valsB K (He.ga K "PARTS") [("deed", .int 3), ("back", .int 2)] && (ndB K && brkB K))
/-! ### the hook: what is looked at when the top has run -/
def KZ (g : Addr → Option Obj) : PySem.W.Frag := He.frG g (cStatics :: He.asD g 5)
abbrev AlZ : Type := He.AlT × FnC × Bool
def obsZ (g : Addr → Option Obj) : AlZ := (He.obsT fa fn ts (KZ g), fnC (KZ g), exB (KZ g))
def valZ (w : World) : AlZ := (He.valT fn ts w, valC, true)
structure SaysZ (w : World) (K : PySem.W.Frag) : Prop where
  t : He.SaysT fa fn ts w K
  c : fnC K = valC
  x : exB K = true
def hookZ : PySem.W.Hook where
  α := AlZ
  obs := fun s => obsZ s.heap.get?
  val := valZ
  says := fun w h => ∃ K : PySem.W.Frag, K.In h ∧ SaysZ w K
  of := fun _ _ e => ⟨_, He.frG_in, ⟨congrArg (fun z : AlZ => z.1) e, congrArg (fun z : AlZ => z.2.1) e, congrArg (fun z : AlZ => z.2.2) e⟩⟩
  keeps := fun _ _ _ ⟨K, hK, c⟩ k => ⟨K, PySem.W.Frag.In.keeps hK k, c⟩
/-! ### what the defs lean on -/
structure Txt (K : PySem.W.Frag) (mg : Str → Option Value) (w : World) : Prop where
  f_is_integer : ∃ fd, FnP K "is_integer" "is_integer" s_is_integer (He.ga K "is_integer") fd
  f_is_number : ∃ fd, FnP K "is_number" "is_number" s_is_number (He.ga K "is_number") fd
  f_is_below : ∃ fd, FnP K "is_below" "is_below" s_is_below (He.ga K "is_below") fd
  f_is_positive : ∃ fd, FnP K "is_positive" "is_positive" s_is_positive (He.ga K "is_positive") fd
  f_is_sequence : ∃ fd, FnP K "is_sequence" "is_sequence" s_is_sequence (He.ga K "is_sequence") fd
  f_is_string : ∃ fd, FnP K "is_string" "is_string" s_is_string (He.ga K "is_string") fd
  f_is_hands : ∃ fd, FnP K "is_hands" "is_hands" s_is_hands (He.ga K "is_hands") fd
  f_need_octets : ∃ fd, FnP K "need_octets" "need_octets" s_need_octets (He.ga K "need_octets") fd
  f_is_press : ∃ fd, FnP K "is_press" "is_press" s_is_press (He.ga K "is_press") fd
  f_check_press : ∃ fd, FnP K "check_press" "check_press" s_check_press (He.ga K "check_press") fd
  f_number_octets : ∃ fd, FnP K "number_octets" "number_octets" s_number_octets (He.ga K "number_octets") fd
  f_press_octets : ∃ fd, FnP K "press_octets" "press_octets" s_press_octets (He.ga K "press_octets") fd
  f_read_presses : ∃ fd, FnP K "read_presses" "read_presses" s_read_presses (He.ga K "read_presses") fd
  f_need_hands : ∃ fd, FnP K "need_hands" "need_hands" s_need_hands (He.ga K "need_hands") fd
  f_is_letter : ∃ fd, FnP K "is_letter" "is_letter" s_is_letter (He.ga K "is_letter") fd
  f_check_row : ∃ fd, FnP K "check_row" "check_row" s_check_row (He.ga K "check_row") fd
  f_begun_octets : ∃ fd, FnP K "begun_octets" "begun_octets" s_begun_octets (He.ga K "begun_octets") fd
  f_begun_at : ∃ fd, FnP K "begun_at" "begun_at" s_begun_at (He.ga K "begun_at") fd
  f_page_told : ∃ fd, FnP K "page_told" "page_told" s_page_told (He.ga K "page_told") fd
  f_later_page : ∃ fd, FnP K "later_page" "later_page" s_later_page (He.ga K "later_page") fd
  f_plain_journal : ∃ fd, FnP K "plain_journal" "plain_journal" s_plain_journal (He.ga K "plain_journal") fd
  f_open_journal : ∃ fd, FnP K "open_journal" "open_journal" s_open_journal (He.ga K "open_journal") fd
  f__law_box : ∃ fd, FnP K "_law_box" "_law_box" s__law_box (He.ga K "_law_box") fd
  f__law_take : ∃ fd, FnP K "_law_take" "_law_take" s__law_take (He.ga K "_law_take") fd
  f__law_pick : ∃ fd, FnP K "_law_pick" "_law_pick" s__law_pick (He.ga K "_law_pick") fd
  f__law_begun : ∃ fd, FnP K "_law_begun" "_law_begun" s__law_begun (He.ga K "_law_begun") fd
  f__law_octets : ∃ fd, FnP K "_law_octets" "_law_octets" s__law_octets (He.ga K "_law_octets") fd
  f__law_whole : ∃ fd, FnP K "_law_whole" "_law_whole" s__law_whole (He.ga K "_law_whole") fd
  f__law_behind : ∃ fd, FnP K "_law_behind" "_law_behind" s__law_behind (He.ga K "_law_behind") fd
  f__law_press : ∃ fd, FnP K "_law_press" "_law_press" s__law_press (He.ga K "_law_press") fd
  f__law_history : ∃ fd, FnP K "_law_history" "_law_history" s__law_history (He.ga K "_law_history") fd
  f__law_is_so : ∃ fd, FnP K "_law_is_so" "_law_is_so" s__law_is_so (He.ga K "_law_is_so") fd
  f__law_opened : ∃ fd, FnP K "_law_opened" "_law_opened" s__law_opened (He.ga K "_law_opened") fd
  f_law : ∃ fd, FnP K "law" "law" s_law (He.ga K "law") fd
  f_Reading_init : ∃ fd, FnP K "__init__" "Reading.__init__" s_Reading_init (He.ma K (He.ga K "Reading") "__init__") fd
  f_Reading_take : ∃ fd, FnP K "take" "Reading.take" s_Reading_take (He.ma K (He.ga K "Reading") "take") fd
  f_Reading_take_number : ∃ fd, FnP K "take_number" "Reading.take_number" s_Reading_take_number (He.ma K (He.ga K "Reading") "take_number") fd
  f_Reading_take_press : ∃ fd, FnP K "take_press" "Reading.take_press" s_Reading_take_press (He.ma K (He.ga K "Reading") "take_press") fd
  f_Journal_init : ∃ fd, FnP K "__init__" "Journal.__init__" s_Journal_init (He.ma K (He.ga K "Journal") "__init__") fd
  f_Journal_written : ∃ fd, FnP K "written" "Journal.written" s_Journal_written (He.ma K (He.ga K "Journal") "written") fd
  f_Journal_lay : ∃ fd, FnP K "lay" "Journal.lay" s_Journal_lay (He.ma K (He.ga K "Journal") "lay") fd
  f_Journal_keep : ∃ fd, FnP K "keep" "Journal.keep" s_Journal_keep (He.ma K (He.ga K "Journal") "keep") fd
  f_Journal_loose : ∃ fd, FnP K "loose" "Journal.loose" s_Journal_loose (He.ma K (He.ga K "Journal") "loose") fd
  f_Journal_begin : ∃ fd, FnP K "begin" "Journal.begin" s_Journal_begin (He.ma K (He.ga K "Journal") "begin") fd
  f_Journal_cut : ∃ fd, FnP K "cut" "Journal.cut" s_Journal_cut (He.ma K (He.ga K "Journal") "cut") fd
  g_is_integer : mg "is_integer" = some (.ref (He.ga K "is_integer"))
  g_is_number : mg "is_number" = some (.ref (He.ga K "is_number"))
  g_is_below : mg "is_below" = some (.ref (He.ga K "is_below"))
  g_is_positive : mg "is_positive" = some (.ref (He.ga K "is_positive"))
  g_is_sequence : mg "is_sequence" = some (.ref (He.ga K "is_sequence"))
  g_is_string : mg "is_string" = some (.ref (He.ga K "is_string"))
  g_is_hands : mg "is_hands" = some (.ref (He.ga K "is_hands"))
  g_need_octets : mg "need_octets" = some (.ref (He.ga K "need_octets"))
  g_is_press : mg "is_press" = some (.ref (He.ga K "is_press"))
  g_check_press : mg "check_press" = some (.ref (He.ga K "check_press"))
  g_number_octets : mg "number_octets" = some (.ref (He.ga K "number_octets"))
  g_press_octets : mg "press_octets" = some (.ref (He.ga K "press_octets"))
  g_read_presses : mg "read_presses" = some (.ref (He.ga K "read_presses"))
  g_need_hands : mg "need_hands" = some (.ref (He.ga K "need_hands"))
  g_is_letter : mg "is_letter" = some (.ref (He.ga K "is_letter"))
  g_check_row : mg "check_row" = some (.ref (He.ga K "check_row"))
  g_begun_octets : mg "begun_octets" = some (.ref (He.ga K "begun_octets"))
  g_begun_at : mg "begun_at" = some (.ref (He.ga K "begun_at"))
  g_page_told : mg "page_told" = some (.ref (He.ga K "page_told"))
  g_later_page : mg "later_page" = some (.ref (He.ga K "later_page"))
  g_plain_journal : mg "plain_journal" = some (.ref (He.ga K "plain_journal"))
  g_open_journal : mg "open_journal" = some (.ref (He.ga K "open_journal"))
  g__law_box : mg "_law_box" = some (.ref (He.ga K "_law_box"))
  g__law_take : mg "_law_take" = some (.ref (He.ga K "_law_take"))
  g__law_pick : mg "_law_pick" = some (.ref (He.ga K "_law_pick"))
  g__law_begun : mg "_law_begun" = some (.ref (He.ga K "_law_begun"))
  g__law_octets : mg "_law_octets" = some (.ref (He.ga K "_law_octets"))
  g__law_whole : mg "_law_whole" = some (.ref (He.ga K "_law_whole"))
  g__law_behind : mg "_law_behind" = some (.ref (He.ga K "_law_behind"))
  g__law_press : mg "_law_press" = some (.ref (He.ga K "_law_press"))
  g__law_history : mg "_law_history" = some (.ref (He.ga K "_law_history"))
  g__law_is_so : mg "_law_is_so" = some (.ref (He.ga K "_law_is_so"))
  g__law_opened : mg "_law_opened" = some (.ref (He.ga K "_law_opened"))
  g_law : mg "law" = some (.ref (He.ga K "law"))
  g_Reading : mg "Reading" = some (.ref (He.ga K "Reading"))
  c_Reading : Cls K (He.ga K "Reading")
  k_Reading : Mk K (He.ga K "Reading") (He.ma K (He.ga K "Reading") "__init__")
  n_Reading_octets : NoAttr K (He.ga K "Reading") "octets"
  n_Reading_at : NoAttr K (He.ga K "Reading") "at"
  n_Reading_heals : NoAttr K (He.ga K "Reading") "heals"
  n_Reading_extra : NoAttr K (He.ga K "Reading") "extra"
  m_Reading_take : Meth K (He.ga K "Reading") "take" (He.ma K (He.ga K "Reading") "take")
  m_Reading_take_number : Meth K (He.ga K "Reading") "take_number" (He.ma K (He.ga K "Reading") "take_number")
  m_Reading_take_press : Meth K (He.ga K "Reading") "take_press" (He.ma K (He.ga K "Reading") "take_press")
  g_Journal : mg "Journal" = some (.ref (He.ga K "Journal"))
  c_Journal : Cls K (He.ga K "Journal")
  k_Journal : Mk K (He.ga K "Journal") (He.ma K (He.ga K "Journal") "__init__")
  n_Journal_pages : NoAttr K (He.ga K "Journal") "pages"
  n_Journal_page : NoAttr K (He.ga K "Journal") "page"
  n_Journal_sign : NoAttr K (He.ga K "Journal") "sign"
  n_Journal_begun : NoAttr K (He.ga K "Journal") "begun"
  n_Journal_laid : NoAttr K (He.ga K "Journal") "laid"
  n_Journal_kept : NoAttr K (He.ga K "Journal") "kept"
  m_Journal_written : Meth K (He.ga K "Journal") "written" (He.ma K (He.ga K "Journal") "written")
  m_Journal_lay : Meth K (He.ga K "Journal") "lay" (He.ma K (He.ga K "Journal") "lay")
  m_Journal_keep : Meth K (He.ga K "Journal") "keep" (He.ma K (He.ga K "Journal") "keep")
  m_Journal_loose : Meth K (He.ga K "Journal") "loose" (He.ma K (He.ga K "Journal") "loose")
  m_Journal_begin : Meth K (He.ga K "Journal") "begin" (He.ma K (He.ga K "Journal") "begin")
  m_Journal_cut : Meth K (He.ga K "Journal") "cut" (He.ma K (He.ga K "Journal") "cut")
  i_MOST_OCTET : ∃ t, mg "MOST_OCTET" = some (.int 256 t)
  i_MOST_HANDS : ∃ t, mg "MOST_HANDS" = some (.int 4 t)
  i_MOST_DEEDS : ∃ t, mg "MOST_DEEDS" = some (.int 6 t)
  i_SIGNS : ∃ t, mg "SIGNS" = some (.int 3 t)
  i_MANY_OCTETS : ∃ t, mg "MANY_OCTETS" = some (.int 2 t)
  i_MOST_BEGUN : ∃ t, mg "MOST_BEGUN" = some (.int 65536 t)
  t_DEED : ∃ t, mg "DEED" = some (.str "deed" t)
  t_BACK : ∃ t, mg "BACK" = some (.str "back" t)
  g_PARTS : mg "PARTS" = some (.ref (He.ga K "PARTS"))
  g_KINDS : mg "KINDS" = some (.ref (He.ga K "KINDS"))
  g_Broken : mg "Broken" = some (.ref (He.ga K "Broken"))
  b_isinstance : mg "isinstance" = none
  b_int : mg "int" = none
  b_bool : mg "bool" = none
  b_list : mg "list" = none
  b_tuple : mg "tuple" = none
  b_str : mg "str" = none
  b_len : mg "len" = none
  b_range : mg "range" = none
  b_enumerate : mg "enumerate" = none
  b_abs : mg "abs" = none
  b_repr : mg "repr" = none
  b_super : mg "super" = none
  e_Broken : PySem.W.exmOne K (.ref (He.ga K "Broken")) (.ref (He.ga K "Broken")) = some true
  parts : ∃ es n, KDict K w (He.ga K "PARTS") es n
  kinds : ∀ H, SqT K H (He.ga K "KINDS") [.str "back", .str "deed"]
  kindsD : ∃ o, K.lookup (He.ga K "KINDS") = some o ∧ o.cls = .type "tuple" ∧ o.dict = none
  p_deed : ∃ u, PySem.W.nsIn K (He.ga K "PARTS") "deed" = some (some u) ∧ RelV (.int 3) u
  p_back : ∃ u, PySem.W.nsIn K (He.ga K "PARTS") "back" = some (some u) ∧ RelV (.int 2) u
  br_fn : fnC K = valC
  br : brkB K = true
theorem Txt.of {K : PySem.W.Frag} {mg : Str → Option Value} {w : World} {h : Heap} (X : K.In h) (G : h.Ns mainGlobals mg) (c : SaysZ w K) : Txt K mg w := by
  obtain ⟨x1, x2⟩ := He.ba c.x
  obtain ⟨x2, x3⟩ := He.ba x2
  obtain ⟨x4, x3⟩ := He.ba x3
  have cd := c.t.d
  exact {
    f_is_integer := cd.def_ 0 (d := d_is_integer) rfl
    f_is_number := cd.def_ 1 (d := d_is_number) rfl
    f_is_below := cd.def_ 2 (d := d_is_below) rfl
    f_is_positive := cd.def_ 3 (d := d_is_positive) rfl
    f_is_sequence := cd.def_ 4 (d := d_is_sequence) rfl
    f_is_string := cd.def_ 5 (d := d_is_string) rfl
    f_is_hands := cd.def_ 6 (d := d_is_hands) rfl
    f_need_octets := cd.def_ 7 (d := d_need_octets) rfl
    f_is_press := cd.def_ 8 (d := d_is_press) rfl
    f_check_press := cd.def_ 9 (d := d_check_press) rfl
    f_number_octets := cd.def_ 10 (d := d_number_octets) rfl
    f_press_octets := cd.def_ 11 (d := d_press_octets) rfl
    f_read_presses := cd.def_ 12 (d := d_read_presses) rfl
    f_need_hands := cd.def_ 13 (d := d_need_hands) rfl
    f_is_letter := cd.def_ 14 (d := d_is_letter) rfl
    f_check_row := cd.def_ 15 (d := d_check_row) rfl
    f_begun_octets := cd.def_ 16 (d := d_begun_octets) rfl
    f_begun_at := cd.def_ 17 (d := d_begun_at) rfl
    f_page_told := cd.def_ 18 (d := d_page_told) rfl
    f_later_page := cd.def_ 19 (d := d_later_page) rfl
    f_plain_journal := cd.def_ 20 (d := d_plain_journal) rfl
    f_open_journal := cd.def_ 21 (d := d_open_journal) rfl
    f__law_box := cd.def_ 22 (d := d__law_box) rfl
    f__law_take := cd.def_ 23 (d := d__law_take) rfl
    f__law_pick := cd.def_ 24 (d := d__law_pick) rfl
    f__law_begun := cd.def_ 25 (d := d__law_begun) rfl
    f__law_octets := cd.def_ 26 (d := d__law_octets) rfl
    f__law_whole := cd.def_ 27 (d := d__law_whole) rfl
    f__law_behind := cd.def_ 28 (d := d__law_behind) rfl
    f__law_press := cd.def_ 29 (d := d__law_press) rfl
    f__law_history := cd.def_ 30 (d := d__law_history) rfl
    f__law_is_so := cd.def_ 31 (d := d__law_is_so) rfl
    f__law_opened := cd.def_ 32 (d := d__law_opened) rfl
    f_law := cd.def_ 33 (d := d_law) rfl
    f_Reading_init := cd.def_ 34 (d := d_Reading_init) rfl
    f_Reading_take := cd.def_ 35 (d := d_Reading_take) rfl
    f_Reading_take_number := cd.def_ 36 (d := d_Reading_take_number) rfl
    f_Reading_take_press := cd.def_ 37 (d := d_Reading_take_press) rfl
    f_Journal_init := cd.def_ 38 (d := d_Journal_init) rfl
    f_Journal_written := cd.def_ 39 (d := d_Journal_written) rfl
    f_Journal_lay := cd.def_ 40 (d := d_Journal_lay) rfl
    f_Journal_keep := cd.def_ 41 (d := d_Journal_keep) rfl
    f_Journal_loose := cd.def_ 42 (d := d_Journal_loose) rfl
    f_Journal_begin := cd.def_ 43 (d := d_Journal_begin) rfl
    f_Journal_cut := cd.def_ 44 (d := d_Journal_cut) rfl
    g_is_integer := He.glo_ok X G (cd.fact 0 (f := .glo "is_integer") rfl)
    g_is_number := He.glo_ok X G (cd.fact 1 (f := .glo "is_number") rfl)
    g_is_below := He.glo_ok X G (cd.fact 2 (f := .glo "is_below") rfl)
    g_is_positive := He.glo_ok X G (cd.fact 3 (f := .glo "is_positive") rfl)
    g_is_sequence := He.glo_ok X G (cd.fact 4 (f := .glo "is_sequence") rfl)
    g_is_string := He.glo_ok X G (cd.fact 5 (f := .glo "is_string") rfl)
    g_is_hands := He.glo_ok X G (cd.fact 6 (f := .glo "is_hands") rfl)
    g_need_octets := He.glo_ok X G (cd.fact 7 (f := .glo "need_octets") rfl)
    g_is_press := He.glo_ok X G (cd.fact 8 (f := .glo "is_press") rfl)
    g_check_press := He.glo_ok X G (cd.fact 9 (f := .glo "check_press") rfl)
    g_number_octets := He.glo_ok X G (cd.fact 10 (f := .glo "number_octets") rfl)
    g_press_octets := He.glo_ok X G (cd.fact 11 (f := .glo "press_octets") rfl)
    g_read_presses := He.glo_ok X G (cd.fact 12 (f := .glo "read_presses") rfl)
    g_need_hands := He.glo_ok X G (cd.fact 13 (f := .glo "need_hands") rfl)
    g_is_letter := He.glo_ok X G (cd.fact 14 (f := .glo "is_letter") rfl)
    g_check_row := He.glo_ok X G (cd.fact 15 (f := .glo "check_row") rfl)
    g_begun_octets := He.glo_ok X G (cd.fact 16 (f := .glo "begun_octets") rfl)
    g_begun_at := He.glo_ok X G (cd.fact 17 (f := .glo "begun_at") rfl)
    g_page_told := He.glo_ok X G (cd.fact 18 (f := .glo "page_told") rfl)
    g_later_page := He.glo_ok X G (cd.fact 19 (f := .glo "later_page") rfl)
    g_plain_journal := He.glo_ok X G (cd.fact 20 (f := .glo "plain_journal") rfl)
    g_open_journal := He.glo_ok X G (cd.fact 21 (f := .glo "open_journal") rfl)
    g__law_box := He.glo_ok X G (cd.fact 22 (f := .glo "_law_box") rfl)
    g__law_take := He.glo_ok X G (cd.fact 23 (f := .glo "_law_take") rfl)
    g__law_pick := He.glo_ok X G (cd.fact 24 (f := .glo "_law_pick") rfl)
    g__law_begun := He.glo_ok X G (cd.fact 25 (f := .glo "_law_begun") rfl)
    g__law_octets := He.glo_ok X G (cd.fact 26 (f := .glo "_law_octets") rfl)
    g__law_whole := He.glo_ok X G (cd.fact 27 (f := .glo "_law_whole") rfl)
    g__law_behind := He.glo_ok X G (cd.fact 28 (f := .glo "_law_behind") rfl)
    g__law_press := He.glo_ok X G (cd.fact 29 (f := .glo "_law_press") rfl)
    g__law_history := He.glo_ok X G (cd.fact 30 (f := .glo "_law_history") rfl)
    g__law_is_so := He.glo_ok X G (cd.fact 31 (f := .glo "_law_is_so") rfl)
    g__law_opened := He.glo_ok X G (cd.fact 32 (f := .glo "_law_opened") rfl)
    g_law := He.glo_ok X G (cd.fact 33 (f := .glo "law") rfl)
    g_Reading := He.glo_ok X G (cd.fact 34 (f := .glo "Reading") rfl)
    c_Reading := He.cls_ok (cd.fact 35 (f := .cls "Reading") rfl)
    k_Reading := He.mkr_ok (cd.fact 36 (f := .mkr "Reading") rfl)
    n_Reading_octets := He.noat_ok (cd.fact 37 (f := .noat "Reading" "octets") rfl)
    n_Reading_at := He.noat_ok (cd.fact 38 (f := .noat "Reading" "at") rfl)
    n_Reading_heals := He.noat_ok (cd.fact 39 (f := .noat "Reading" "heals") rfl)
    n_Reading_extra := He.noat_ok (cd.fact 40 (f := .noat "Reading" "extra") rfl)
    m_Reading_take := He.meth_ok (cd.fact 41 (f := .meth "Reading" "take") rfl)
    m_Reading_take_number := He.meth_ok (cd.fact 42 (f := .meth "Reading" "take_number") rfl)
    m_Reading_take_press := He.meth_ok (cd.fact 43 (f := .meth "Reading" "take_press") rfl)
    g_Journal := He.glo_ok X G (cd.fact 44 (f := .glo "Journal") rfl)
    c_Journal := He.cls_ok (cd.fact 45 (f := .cls "Journal") rfl)
    k_Journal := He.mkr_ok (cd.fact 46 (f := .mkr "Journal") rfl)
    n_Journal_pages := He.noat_ok (cd.fact 47 (f := .noat "Journal" "pages") rfl)
    n_Journal_page := He.noat_ok (cd.fact 48 (f := .noat "Journal" "page") rfl)
    n_Journal_sign := He.noat_ok (cd.fact 49 (f := .noat "Journal" "sign") rfl)
    n_Journal_begun := He.noat_ok (cd.fact 50 (f := .noat "Journal" "begun") rfl)
    n_Journal_laid := He.noat_ok (cd.fact 51 (f := .noat "Journal" "laid") rfl)
    n_Journal_kept := He.noat_ok (cd.fact 52 (f := .noat "Journal" "kept") rfl)
    m_Journal_written := He.meth_ok (cd.fact 53 (f := .meth "Journal" "written") rfl)
    m_Journal_lay := He.meth_ok (cd.fact 54 (f := .meth "Journal" "lay") rfl)
    m_Journal_keep := He.meth_ok (cd.fact 55 (f := .meth "Journal" "keep") rfl)
    m_Journal_loose := He.meth_ok (cd.fact 56 (f := .meth "Journal" "loose") rfl)
    m_Journal_begin := He.meth_ok (cd.fact 57 (f := .meth "Journal" "begin") rfl)
    m_Journal_cut := He.meth_ok (cd.fact 58 (f := .meth "Journal" "cut") rfl)
    i_MOST_OCTET := He.int_ok X G (cd.fact 59 (f := .int "MOST_OCTET" 256) rfl)
    i_MOST_HANDS := He.int_ok X G (cd.fact 60 (f := .int "MOST_HANDS" 4) rfl)
    i_MOST_DEEDS := He.int_ok X G (cd.fact 61 (f := .int "MOST_DEEDS" 6) rfl)
    i_SIGNS := He.int_ok X G (cd.fact 62 (f := .int "SIGNS" 3) rfl)
    i_MANY_OCTETS := He.int_ok X G (cd.fact 63 (f := .int "MANY_OCTETS" 2) rfl)
    i_MOST_BEGUN := He.int_ok X G (cd.fact 64 (f := .int "MOST_BEGUN" 65536) rfl)
    t_DEED := He.str_ok X G (cd.fact 65 (f := .str "DEED" "deed") rfl)
    t_BACK := He.str_ok X G (cd.fact 66 (f := .str "BACK" "back") rfl)
    g_PARTS := He.glo_ok X G (cd.fact 67 (f := .glo "PARTS") rfl)
    g_KINDS := He.glo_ok X G (cd.fact 68 (f := .glo "KINDS") rfl)
    g_Broken := He.glo_ok X G (cd.fact 69 (f := .glo "Broken") rfl)
    b_isinstance := He.free_ok X G (cd.fact 70 (f := .free "isinstance") rfl)
    b_int := He.free_ok X G (cd.fact 71 (f := .free "int") rfl)
    b_bool := He.free_ok X G (cd.fact 72 (f := .free "bool") rfl)
    b_list := He.free_ok X G (cd.fact 73 (f := .free "list") rfl)
    b_tuple := He.free_ok X G (cd.fact 74 (f := .free "tuple") rfl)
    b_str := He.free_ok X G (cd.fact 75 (f := .free "str") rfl)
    b_len := He.free_ok X G (cd.fact 76 (f := .free "len") rfl)
    b_range := He.free_ok X G (cd.fact 77 (f := .free "range") rfl)
    b_enumerate := He.free_ok X G (cd.fact 78 (f := .free "enumerate") rfl)
    b_abs := He.free_ok X G (cd.fact 79 (f := .free "abs") rfl)
    b_repr := He.free_ok X G (cd.fact 80 (f := .free "repr") rfl)
    b_super := He.free_ok X G (cd.fact 81 (f := .free "super") rfl)
    e_Broken := He.exm_ok (cd.fact 82 (f := .exm "Broken" "Broken" true) rfl)
    parts := c.t.tab 0 rfl
    kinds := fun H => He.tupB_ok x1 H
    kindsD := ndB_ok x4
    p_deed := He.valsB_ok x2 (q := ("deed", .int 3)) (by simp)
    p_back := He.valsB_ok x2 (q := ("back", .int 2)) (by simp)
    br_fn := c.c
    br := x3 }
end K62

set_option Elab.async false
set_option linter.all false
set_option maxRecDepth 100000
set_option maxHeartbeats 0
/-! K62Head: the top run in the kernel. (printed by gen_head.py) -/
namespace K62
open PySem PySem.Spec PyProof.Rows L2
abbrev R : PySem.W.OpenRow := PySem.W.OpenLaw.row PySem.Challenge.rw_ownback_k62_whole_a_journal_cut_anywhere
def ob (s : PySem.W.SharedT) : AlZ := obsZ (HandSHeadRun.getT s)
theorem ob_eq (s : PySem.W.SharedT) : ob s = hookZ.obs s.abs := by
  have e : HandSHeadRun.getT s = s.abs.heap.get? := funext (HandSHeadRun.getT_eq s)
  show obsZ (HandSHeadRun.getT s) = obsZ s.abs.heap.get?
  rw [e]
def loose0 : List Str := ["OwnError", "BadOctets", "BadHistory", "Refused", "Broken", "MOST_OCTET", "MOST_HANDS", "MOST_DEEDS", "is_integer", "is_number", "is_below", "is_positive", "is_sequence", "is_string", "is_hands", "need_octets", "DEED", "BACK", "PARTS", "KINDS", "is_press", "check_press", "number_octets", "press_octets", "Reading", "read_presses", "need_hands", "is_letter", "check_row", "SIGNS"]
def loose1 : List Str := ["MANY_OCTETS", "MOST_BEGUN", "begun_octets", "begun_at", "page_told", "later_page", "plain_journal", "Journal", "open_journal", "_law_box", "_law_take", "_law_pick", "_law_begun", "_law_octets", "_law_whole", "_law_behind", "_law_press", "_law_history", "_law_is_so", "_law_opened"]
def loose : List Str := loose0 ++ loose1
theorem runF (w : World) : HandSHeadRun.RunEq R (PySem.W.view R.prog [56]) hookZ ob 20000 loose (w.withFollow "special-get-raises" false) := by
  intro os
  kernel_rfl
theorem runT (w : World) : HandSHeadRun.RunEq R (PySem.W.view R.prog [56]) hookZ ob 20000 loose (w.withFollow "special-get-raises" true) := by
  intro os
  kernel_rfl
theorem run (w : World) : HandSHeadRun.RunEq R (PySem.W.view R.prog [56]) hookZ ob 20000 loose w :=
  PySem.W.byRow2 "special-get-raises" (P := fun w => HandSHeadRun.RunEq R (PySem.W.view R.prog [56]) hookZ ob 20000 loose w) runF runT w
end K62

set_option Elab.async false
set_option linter.all false
set_option maxRecDepth 100000
set_option maxHeartbeats 4000000
/-! K62Data: heaps, sequences, data as the law sees them. -/
namespace K62
open PySem PySem.Spec PyProof.Rows L2
/-! ### heaps -/
/-- all that was tracked stands, but what is at p -/
def But (p : Addr) (H H' : Hp) : Prop := ∀ b o, b ≠ p → H b = some o → H' b = some o
section
variable {H H1 H2 H' : Hp} {p q a : Addr} {o u : HO}
theorem But.of (s : Same H H') : But p H H' := fun b o _ e => s b o e
theorem But.refl : But p H H := fun _ _ _ e => e
theorem But.trans (a : But p H H1) (b : But p H1 H2) : But p H H2 := fun c o n e => b c o n (a c o n e)
theorem But.upd : But p H (upd H p o) := fun b u n e => by rw [upd_ne n]; exact e
theorem same_upd (hn : H p = none) : Same H (upd H p o) := fun b u e => by rw [upd_ne (ne_of_none e hn)]; exact e
/-- p is new: nothing that stood is touched -/
theorem But.new (b : But p H H') (hn : H p = none) : Same H H' := fun c o e => b c o (ne_of_none e hn) e
theorem But.none_of (b : But p H H') (hq : q ≠ p) (hn : H' q = none) : H q = none := by
  cases e : H q with
  | none => rfl
  | some v => rw [b q v hq e] at hn; cases hn
end

/-! ### a list or a tuple -/
inductive Kd where
  | l | t
def Sq (K : PySem.W.Frag) (H : Hp) : Kd → Addr → List V → Prop
  | .l, a, xs => SqL K H a xs
  | .t, a, xs => SqT K H a xs
section
variable {K : PySem.W.Frag} {H H1 H' : Hp} {p a : Addr} {xs ys : List V} {k : Kd} {o : HO}
theorem sqL_keep (h : SqL K H a xs) (k : ∀ o, H a = some o → H' a = some o) : SqL K H' a xs := by
  rcases h with (h | ⟨o, h⟩) | h
  · exact .inl (.inl (k _ h))
  · exact .inl (.inr ⟨o, k _ h⟩)
  · exact .inr h
theorem sqT_keep (h : SqT K H a xs) (k : ∀ o, H a = some o → H' a = some o) : SqT K H' a xs := by
  rcases h with (h | ⟨o, h⟩) | h
  · exact .inl (.inl (k _ h))
  · exact .inl (.inr ⟨o, k _ h⟩)
  · exact .inr h
theorem Sq.keep (h : Sq K H k a xs) (f : ∀ o, H a = some o → H' a = some o) : Sq K H' k a xs := by
  cases k with
  | l => exact sqL_keep h f
  | t => exact sqT_keep h f
theorem sqT_same (s : Same H H') (h : SqT K H a xs) : SqT K H' a xs := sqT_keep h fun o e => s a o e
theorem sqL_same (s : Same H H') (h : SqL K H a xs) : SqL K H' a xs := sqL_keep h fun o e => s a o e
theorem Sq.same (h : Sq K H k a xs) (s : Same H H') : Sq K H' k a xs := h.keep fun o e => s a o e
theorem Sq.but (h : Sq K H k a xs) (s : But p H H') (n : a ≠ p) : Sq K H' k a xs := h.keep fun o e => s a o n e
/-- an instance, a dict, .. is no sequence: where it alone changes sequences stand -/
def NoSq (o : HO) : Prop := (∀ xs, o ≠ .lst xs) ∧ (∀ xs, o ≠ .tup xs) ∧ ∀ ob u, o ≠ .frz ob u
theorem noSq_ins {C dx : Addr} {fs : List (Str × V)} : NoSq (.ins C dx fs) := ⟨fun _ z => (by cases z), fun _ z => (by cases z), fun _ _ z => (by cases z)⟩
theorem noSq_dK {kvs : List (Key × V)} : NoSq (.dK kvs) := ⟨fun _ z => (by cases z), fun _ z => (by cases z), fun _ _ z => (by cases z)⟩
theorem sqL_but (n : NoSq o) (hp : H p = some o) (s : But p H H') (h : SqL K H a xs) : SqL K H' a xs := by
  rcases h with (h | ⟨ob, h⟩) | h
  · exact .inl (.inl (s _ _ (fun z => n.1 _ (Option.some.inj (hp.symm.trans (z ▸ h)))) h))
  · exact .inl (.inr ⟨ob, s _ _ (fun z => n.2.2 _ _ (Option.some.inj (hp.symm.trans (z ▸ h)))) h⟩)
  · exact .inr h
theorem sqT_but (n : NoSq o) (hp : H p = some o) (s : But p H H') (h : SqT K H a xs) : SqT K H' a xs := by
  rcases h with (h | ⟨ob, h⟩) | h
  · exact .inl (.inl (s _ _ (fun z => n.2.1 _ (Option.some.inj (hp.symm.trans (z ▸ h)))) h))
  · exact .inl (.inr ⟨ob, s _ _ (fun z => n.2.2 _ _ (Option.some.inj (hp.symm.trans (z ▸ h)))) h⟩)
  · exact .inr h
theorem Sq.butN (h : Sq K H k a xs) (n : NoSq o) (hp : H p = some o) (s : But p H H') : Sq K H' k a xs := by
  cases k with
  | l => exact sqL_but n hp s h
  | t => exact sqT_but n hp s h
/-- tuples stand where a list changes -/
theorem sqT_butL (hp : H p = some (.lst ys)) (s : But p H H') (h : SqT K H a xs) : SqT K H' a xs := by
  rcases h with (h | ⟨ob, h⟩) | h
  · exact .inl (.inl (s _ _ (fun z => by rw [z, hp] at h; cases h) h))
  · exact .inl (.inr ⟨ob, s _ _ (fun z => by rw [z, hp] at h; cases h) h⟩)
  · exact .inr h
end

/-! ### data -/
mutual
theorem dp_keep {K : PySem.W.Frag} {H H' : Hp} (hl : ∀ a xs, SqL K H a xs → SqL K H' a xs) (ht : ∀ a xs, SqT K H a xs → SqT K H' a xs) : ∀ (d : PyData) (v : V), Dp K H v d → Dp K H' v d
  | .none, _, h => by cases h; exact .non
  | .bool b, _, h => by cases h; exact .bl b
  | .int i, _, h => by cases h; exact .int i
  | .str x, _, h => by cases h; exact .str x
  | .list ds, _, h => by
    cases h with
    | lst h1 h2 => exact .lst (hl _ _ h1) (dp_keepAll hl ht ds _ h2)
  | .tuple ds, _, h => by
    cases h with
    | tup h1 h2 => exact .tup (ht _ _ h1) (dp_keepAll hl ht ds _ h2)
  | .dict _, _, h => by cases h
theorem dp_keepAll {K : PySem.W.Frag} {H H' : Hp} (hl : ∀ a xs, SqL K H a xs → SqL K H' a xs) (ht : ∀ a xs, SqT K H a xs → SqT K H' a xs) : ∀ (ds : List PyData) (vs : List V), DpAll K H vs ds → DpAll K H' vs ds
  | [], _, h => by cases h; exact .nil
  | d :: ds, _, h => by
    cases h with
    | cons h1 h2 => exact .cons (dp_keep hl ht d _ h1) (dp_keepAll hl ht ds _ h2)
end
/-- no list within -/
def noL : PyData → Bool
  | .list _ => false
  | .tuple ds => noLs ds
  | _ => true
where noLs : List PyData → Bool
  | [] => true
  | d :: ds => noL d && noLs ds
mutual
theorem dp_keepT {K : PySem.W.Frag} {H H' : Hp} (ht : ∀ a xs, SqT K H a xs → SqT K H' a xs) : ∀ (d : PyData) (v : V), noL d = true → Dp K H v d → Dp K H' v d
  | .none, _, _, h => by cases h; exact .non
  | .bool b, _, _, h => by cases h; exact .bl b
  | .int i, _, _, h => by cases h; exact .int i
  | .str x, _, _, h => by cases h; exact .str x
  | .list ds, _, n, h => by cases (show false = true from n)
  | .tuple ds, _, n, h => by
    cases h with
    | tup h1 h2 => exact .tup (ht _ _ h1) (dp_keepTs ht ds _ n h2)
  | .dict _, _, _, h => by cases h
theorem dp_keepTs {K : PySem.W.Frag} {H H' : Hp} (ht : ∀ a xs, SqT K H a xs → SqT K H' a xs) : ∀ (ds : List PyData) (vs : List V), noL.noLs ds = true → DpAll K H vs ds → DpAll K H' vs ds
  | [], _, _, h => by cases h; exact .nil
  | d :: ds, _, n, h => by
    cases h with
    | cons h1 h2 =>
      have n' : (noL d && noL.noLs ds) = true := n
      obtain ⟨n1, n2⟩ := Bool.and_eq_true_iff.mp n'
      exact .cons (dp_keepT ht d _ n1 h1) (dp_keepTs ht ds _ n2 h2)
end
section
variable {K : PySem.W.Frag} {H H' : Hp} {p a : Addr} {v : V} {vs : List V} {d : PyData} {ds : List PyData} {o : HO} {xs ys : List V}
theorem dp_same (s : Same H H') (h : Dp K H v d) : Dp K H' v d := dp_keep (fun _ _ => sqL_same s) (fun _ _ => sqT_same s) d v h
theorem dp_sameAll (s : Same H H') (h : DpAll K H vs ds) : DpAll K H' vs ds := dp_keepAll (fun _ _ => sqL_same s) (fun _ _ => sqT_same s) ds vs h
/-- where an instance changes -/
theorem dp_but (n : NoSq o) (hp : H p = some o) (s : But p H H') (h : Dp K H v d) : Dp K H' v d := dp_keep (fun _ _ => sqL_but n hp s) (fun _ _ => sqT_but n hp s) d v h
/-- where a list changes -/
theorem dp_butL (hp : H p = some (.lst ys)) (s : But p H H') (n : noL d = true) (h : Dp K H v d) : Dp K H' v d := dp_keepT (fun _ _ => sqT_butL hp s) d v n h
theorem dpAll_len : ∀ {vs : List V} {ds : List PyData}, DpAll K H vs ds → vs.length = ds.length
  | _, _, .nil => rfl
  | _, _, .cons _ t => by simp [dpAll_len t]
theorem dpAll_get : ∀ {vs : List V} {ds : List PyData} {i : Nat} {v : V}, DpAll K H vs ds → vs[i]? = some v → ∃ d, ds[i]? = some d ∧ Dp K H v d
  | _, _, _, _, .nil, e => by simp at e
  | _, _, 0, _, .cons h _, e => by
    have e' := Option.some.inj (by simpa using e)
    subst e'
    exact ⟨_, rfl, h⟩
  | _, _, i + 1, v, .cons _ t, e => by
    obtain ⟨d, h1, h2⟩ := dpAll_get (i := i) (v := v) t (by simpa using e)
    exact ⟨d, by simpa using h1, h2⟩
theorem dpAll_snoc : ∀ {vs : List V} {ds : List PyData}, DpAll K H vs ds → Dp K H v d → DpAll K H (vs ++ [v]) (ds ++ [d])
  | _, _, .nil, h => .cons h .nil
  | _, _, .cons h1 t, h => .cons h1 (dpAll_snoc t h)
theorem dpAll_take : ∀ {vs : List V} {ds : List PyData} (n : Nat), DpAll K H vs ds → DpAll K H (vs.take n) (ds.take n)
  | _, _, 0, _ => .nil
  | _, _, _ + 1, .nil => .nil
  | _, _, n + 1, .cons h t => .cons h (dpAll_take n t)
theorem dpAll_ints : ∀ ns : List Int, DpAll K H (ns.map V.int) (ns.map PyData.int)
  | [] => .nil
  | n :: r => .cons (.int n) (dpAll_ints r)
theorem ints_of_dpAll : ∀ {ns : List Int} {vs : List V}, DpAll K H vs (ns.map PyData.int) → vs = ns.map V.int
  | [], _, h => by cases h; rfl
  | n :: r, _, h => by
    cases h with
    | cons h1 h2 =>
      cases h1
      rw [ints_of_dpAll h2]
      rfl
theorem dp_tup (h : Dp K H v (.tuple ds)) : ∃ a xs, v = .ref a ∧ SqT K H a xs ∧ DpAll K H xs ds := by
  cases h with
  | tup h1 h2 => exact ⟨_, _, rfl, h1, h2⟩
theorem dp_int {i : Int} (h : Dp K H v (.int i)) : v = .int i := by cases h; rfl
/-- a tuple of whole numbers -/
abbrev dI (l : List Int) : PyData := .tuple (l.map .int)
theorem dp_dI {l : List Int} (h : SqT K H a (l.map V.int)) : Dp K H (.ref a) (dI l) := .tup h (dpAll_ints l)
theorem of_dI {l : List Int} (h : Dp K H v (dI l)) : ∃ a, v = .ref a ∧ SqT K H a (l.map V.int) := by
  obtain ⟨a, xs, e, h1, h2⟩ := dp_tup h
  rw [ints_of_dpAll h2] at h1
  exact ⟨a, e, h1⟩
end
/-! ### presses, histories -/
def vPr : Pr → List V
  | .back h => [.str "back", .int h]
  | .deed h d => [.str "deed", .int h, .int d]
def dPr : Pr → PyData
  | .back h => .tuple [.str "back", .int h]
  | .deed h d => .tuple [.str "deed", .int h, .int d]
def dPs (ps : List Pr) : PyData := .tuple (ps.map dPr)
def dLt (q : Int × Int) : PyData := .tuple [.int q.1, .int q.2]
def dHs (b : Hist) : PyData := .tuple (b.map dLt)
section
variable {K : PySem.W.Frag} {H H' : Hp} {p a : Addr} {v : V} {vs : List V}
theorem dp_pr {q : Pr} (h : SqT K H a (vPr q)) : Dp K H (.ref a) (dPr q) := by
  cases q with
  | back x => exact .tup h (.cons (.str _) (.cons (.int _) .nil))
  | deed x y => exact .tup h (.cons (.str _) (.cons (.int _) (.cons (.int _) .nil)))
theorem of_pr {q : Pr} (h : Dp K H v (dPr q)) : ∃ a, v = .ref a ∧ SqT K H a (vPr q) := by
  cases q with
  | back x =>
    obtain ⟨a, xs, e, h1, h2⟩ := dp_tup (show Dp K H v (.tuple [.str "back", .int x]) from h)
    cases h2 with
    | cons g1 g2 =>
      cases g1
      cases g2 with
      | cons g3 g4 =>
        cases g3
        cases g4
        exact ⟨a, e, h1⟩
  | deed x y =>
    obtain ⟨a, xs, e, h1, h2⟩ := dp_tup (show Dp K H v (.tuple [.str "deed", .int x, .int y]) from h)
    cases h2 with
    | cons g1 g2 =>
      cases g1
      cases g2 with
      | cons g3 g4 =>
        cases g3
        cases g4 with
        | cons g5 g6 =>
          cases g5
          cases g6
          exact ⟨a, e, h1⟩
theorem dp_lt {q : Int × Int} (h : SqT K H a [.int q.1, .int q.2]) : Dp K H (.ref a) (dLt q) := .tup h (.cons (.int _) (.cons (.int _) .nil))
theorem of_lt {q : Int × Int} (h : Dp K H v (dLt q)) : ∃ a, v = .ref a ∧ SqT K H a [.int q.1, .int q.2] := by
  obtain ⟨a, xs, e, h1, h2⟩ := dp_tup (show Dp K H v (.tuple [.int q.1, .int q.2]) from h)
  cases h2 with
  | cons g1 g2 =>
    cases g1
    cases g2 with
    | cons g3 g4 =>
      cases g3
      cases g4
      exact ⟨a, e, h1⟩
theorem of_ps {ps : List Pr} (h : Dp K H v (dPs ps)) : ∃ a xs, v = .ref a ∧ SqT K H a xs ∧ DpAll K H xs (ps.map dPr) := dp_tup h
theorem of_hs {b : Hist} (h : Dp K H v (dHs b)) : ∃ a xs, v = .ref a ∧ SqT K H a xs ∧ DpAll K H xs (b.map dLt) := dp_tup h
end
theorem noLs_all : ∀ {ds : List PyData}, (∀ d ∈ ds, noL d = true) → noL.noLs ds = true
  | [], _ => rfl
  | d :: ds, h => by
    show (noL d && noL.noLs ds) = true
    rw [h d (List.mem_cons_self ..), noLs_all fun e he => h e (List.mem_cons_of_mem _ he)]
    rfl
theorem noL_tup {ds : List PyData} (h : ∀ d ∈ ds, noL d = true) : noL (.tuple ds) = true := noLs_all h
theorem noL_dI (l : List Int) : noL (dI l) = true := noL_tup fun d hd => by
  obtain ⟨i, _, e⟩ := List.mem_map.mp hd
  rw [← e]
  rfl
theorem noL_pr (p : Pr) : noL (dPr p) = true := by cases p <;> rfl
theorem noL_ps (ps : List Pr) : noL (dPs ps) = true := noL_tup fun d hd => by
  obtain ⟨i, _, e⟩ := List.mem_map.mp hd
  rw [← e]
  exact noL_pr i
theorem noL_hs (b : Hist) : noL (dHs b) = true := noL_tup fun d hd => by
  obtain ⟨i, _, e⟩ := List.mem_map.mp hd
  rw [← e]
  rfl
/-- a history as any sequence of pairs, each any sequence -/
structure HistAt (K : PySem.W.Frag) (H : Hp) (k : Kd) (a : Addr) (b : Hist) : Prop where
  ex : ∃ xs, Sq K H k a xs ∧ xs.length = b.length ∧ ∀ (i : Nat) (q : Int × Int), b[i]? = some q → ∃ c kc, xs[i]? = some (.ref c) ∧ Sq K H kc c [.int q.1, .int q.2]
theorem HistAt.of {K : PySem.W.Frag} {H : Hp} {v : V} {b : Hist} (h : Dp K H v (dHs b)) : ∃ a, v = .ref a ∧ HistAt K H .t a b := by
  obtain ⟨a, xs, e, h1, h2⟩ := of_hs h
  have l := dpAll_len h2
  rw [List.length_map] at l
  refine ⟨a, e, ⟨xs, h1, l, fun i q hq => ?_⟩⟩
  have hi : i < xs.length := by rw [l]; exact (List.getElem?_eq_some_iff.mp hq).1
  obtain ⟨d, e1, e2⟩ := dpAll_get h2 (List.getElem?_eq_getElem hi)
  rw [List.getElem?_map, hq] at e1
  have e3 := Option.some.inj e1
  subst e3
  obtain ⟨c, e4, e5⟩ := of_lt e2
  exact ⟨c, .t, by rw [List.getElem?_eq_getElem hi, e4], e5⟩
theorem HistAt.same {K : PySem.W.Frag} {H H' : Hp} {k : Kd} {a : Addr} {b : Hist} (h : HistAt K H k a b) (s : Same H H') : HistAt K H' k a b := by
  obtain ⟨xs, h1, h2, h3⟩ := h.ex
  exact ⟨xs, h1.same s, h2, fun i q hq => let ⟨c, kc, e1, e2⟩ := h3 i q hq; ⟨c, kc, e1, e2.same s⟩⟩
theorem HistAt.butN {K : PySem.W.Frag} {H H' : Hp} {k : Kd} {a p : Addr} {b : Hist} {o : HO} (h : HistAt K H k a b) (n : NoSq o) (hp : H p = some o) (s : But p H H') : HistAt K H' k a b := by
  obtain ⟨xs, h1, h2, h3⟩ := h.ex
  exact ⟨xs, h1.butN n hp s, h2, fun i q hq => let ⟨c, kc, e1, e2⟩ := h3 i q hq; ⟨c, kc, e1, e2.butN n hp s⟩⟩

/-! ### small data: what repr and == ask -/
structure Nice (k w : Nat) (d : PyData) : Prop where
  lay : d.canLay0 = true
  short : d.leavesShort 13 = true
  shown : d.showable = true
  nd : d.hasDict = false
  dep : d.depth ≤ k
  wt : d.weight ≤ w
theorem Nice.mono {k w k' w' : Nat} {d : PyData} (h : Nice k w d) (hk : k ≤ k') (hw : w ≤ w') : Nice k' w' d := ⟨h.lay, h.short, h.shown, h.nd, Nat.le_trans h.dep hk, Nat.le_trans h.wt hw⟩
theorem nice_none : Nice 0 0 .none := ⟨rfl, rfl, rfl, rfl, Nat.le_refl _, Nat.le_refl _⟩
theorem nice_int {i : Int} (h : i.natAbs < 10 ^ 12) : Nice 0 40 (.int i) := by
  have l : i.natAbs.log2 < 40 := by
    by_cases z : i.natAbs = 0
    · rw [z]; decide
    · exact (Nat.log2_lt z).mpr (Nat.lt_of_lt_of_le h (by decide))
  refine ⟨rfl, ?_, ?_, rfl, Nat.le_refl _, ?_⟩
  · show decide ((PyData.shown (.int i)).length ≤ 13) = true
    exact decide_eq_true (PyData.shown_int_le h)
  · show decide (i.natAbs.log2 < 1920) = true
    exact decide_eq_true (by omega)
  · show (if i == 0 then 0 else i.natAbs.log2 + 1) ≤ 40
    split <;> omega
theorem nice_back : Nice 0 4 (.str "back") := ⟨by decide +kernel, by decide +kernel, rfl, rfl, Nat.le_refl _, by decide +kernel⟩
theorem nice_deed : Nice 0 4 (.str "deed") := ⟨by decide +kernel, by decide +kernel, rfl, rfl, Nat.le_refl _, by decide +kernel⟩
structure NiceAll (k w : Nat) (ds : List PyData) : Prop where
  lay : PyData.canLayAll0 ds = true
  short : PyData.leavesShortAll 13 ds = true
  shown : PyData.showableAll ds = true
  nd : PyData.hasDictAll ds = false
  dep : PyData.depthAll ds ≤ k
  wt : PyData.weightAll ds ≤ w
theorem NiceAll.mono {k w k' w' : Nat} {ds : List PyData} (h : NiceAll k w ds) (hk : k ≤ k') (hw : w ≤ w') : NiceAll k' w' ds := ⟨h.lay, h.short, h.shown, h.nd, Nat.le_trans h.dep hk, Nat.le_trans h.wt hw⟩
theorem niceAll_nil : NiceAll 0 0 [] := ⟨rfl, rfl, rfl, rfl, Nat.le_refl _, Nat.le_refl _⟩
theorem niceAll_cons {k w j v : Nat} {d : PyData} {ds : List PyData} (h : Nice k w d) (t : NiceAll j v ds) : NiceAll (max k j) (w + 1 + v) (d :: ds) := by
  refine ⟨?_, ?_, ?_, ?_, ?_, ?_⟩
  · show (d.canLay0 && PyData.canLayAll0 ds) = true
    rw [h.lay, t.lay]; rfl
  · show (d.leavesShort 13 && PyData.leavesShortAll 13 ds) = true
    rw [h.short, t.short]; rfl
  · show (d.showable && PyData.showableAll ds) = true
    rw [h.shown, t.shown]; rfl
  · show (d.hasDict || PyData.hasDictAll ds) = false
    rw [h.nd, t.nd]; rfl
  · show max d.depth (PyData.depthAll ds) ≤ max k j
    have h1 := h.dep
    have h2 := t.dep
    omega
  · show d.weight + 1 + PyData.weightAll ds ≤ w + 1 + v
    have h1 := h.wt
    have h2 := t.wt
    omega
theorem NiceAll.tuple {k w : Nat} {ds : List PyData} (h : NiceAll k w ds) : Nice (k + 1) w (.tuple ds) := ⟨h.lay, h.short, h.shown, h.nd, Nat.succ_le_succ h.dep, h.wt⟩
theorem NiceAll.list {k w : Nat} {ds : List PyData} (h : NiceAll k w ds) : Nice (k + 1) w (.list ds) := ⟨h.lay, h.short, h.shown, h.nd, Nat.succ_le_succ h.dep, h.wt⟩
theorem niceAll_of {k w : Nat} : ∀ {ds : List PyData}, (∀ d ∈ ds, Nice k w d) → NiceAll k (ds.length * (w + 1)) ds
  | [], _ => niceAll_nil.mono (Nat.zero_le _) (Nat.zero_le _)
  | d :: ds, h => by
    have a := h d (List.mem_cons_self ..)
    have b := niceAll_of (ds := ds) fun e he => h e (List.mem_cons_of_mem _ he)
    refine (niceAll_cons a b).mono (by omega) ?_
    show w + 1 + ds.length * (w + 1) ≤ (ds.length + 1) * (w + 1)
    rw [Nat.add_mul]
    omega
theorem Nice.fits {k w : Nat} {d : PyData} (h : Nice k w d) (hw : w ≤ 2 ^ 20) : d.shown.length ≤ sizeLine :=
  PyData.shown_fits (B := 13) (by decide) (by decide) h.short (Nat.le_trans h.wt hw)
theorem Nice.shaped {k w : Nat} {d : PyData} (h : Nice k w d) (hk : k ≤ 64) : SeqAt.shaped d = true := by
  show (d.canLay0 && decide (d.depth ≤ 64)) = true
  rw [h.lay, decide_eq_true (Nat.le_trans h.dep hk)]
  rfl
theorem Nice.refl {k w : Nat} {d : PyData} (h : Nice k w d) : PyData.eqv d d = true := SeqAt.eqv_refl d h.lay
def small (i : Int) : Prop := 0 ≤ i ∧ i < 10 ^ 6
theorem nice_small {i : Int} (h : small i) : Nice 0 40 (.int i) := nice_int (by have h1 := h.1; have h2 := h.2; omega)
theorem nice_dI {l : List Int} (h : ∀ i ∈ l, small i) : Nice 1 (l.length * 41) (dI l) := by
  have z : NiceAll 0 ((l.map PyData.int).length * 41) (l.map PyData.int) := niceAll_of (w := 40) fun d hd => by
    obtain ⟨i, hi, e⟩ := List.mem_map.mp hd
    rw [← e]
    exact nice_small (h i hi)
  rw [List.length_map] at z
  exact z.tuple
theorem small_of {i n : Int} (h0 : 0 ≤ i) (h1 : i < n) (hn : n ≤ 10 ^ 6) : small i := ⟨h0, Int.lt_of_lt_of_le h1 hn⟩
theorem nice_lt {q : Int × Int} (h1 : small q.1) (h2 : small q.2) : Nice 1 82 (dLt q) := (niceAll_cons (nice_small h1) (niceAll_cons (nice_small h2) niceAll_nil)).tuple
theorem nice_pr {p : Pr} (h : p.ok) : Nice 1 100 (dPr p) := by
  cases p with
  | back x =>
    have h' : 0 ≤ x ∧ x < 4 := h
    exact ((niceAll_cons nice_back (niceAll_cons (nice_small (small_of h'.1 h'.2 (by decide))) niceAll_nil)).tuple).mono (by decide) (by decide)
  | deed x y =>
    have h' : (0 ≤ x ∧ x < 4) ∧ 0 ≤ y ∧ y < 6 := h
    exact ((niceAll_cons nice_deed (niceAll_cons (nice_small (small_of h'.1.1 h'.1.2 (by decide))) (niceAll_cons (nice_small (small_of h'.2.1 h'.2.2 (by decide))) niceAll_nil))).tuple).mono (by decide) (by decide)
theorem nice_ps {ps : List Pr} (h : OkP ps) : Nice 2 (ps.length * 101) (dPs ps) := by
  have z : NiceAll 1 ((ps.map dPr).length * 101) (ps.map dPr) := niceAll_of (w := 100) fun d hd => by
    obtain ⟨i, hi, e⟩ := List.mem_map.mp hd
    rw [← e]
    exact nice_pr (h i hi)
  rw [List.length_map] at z
  exact z.tuple
theorem nice_hs {b : Hist} (h : OkH b) : Nice 2 (b.length * 83) (dHs b) := by
  have z : NiceAll 1 ((b.map dLt).length * 83) (b.map dLt) := niceAll_of (w := 82) fun d hd => by
    obtain ⟨q, hq, e⟩ := List.mem_map.mp hd
    rw [← e]
    obtain ⟨h1, h2⟩ := h q hq
    exact nice_lt (small_of h1.1 h1.2 (by decide)) (small_of h2.1 h2.2 (by decide))
  rw [List.length_map] at z
  exact z.tuple
theorem enc_small : ∀ {b : Hist}, OkH b → ∀ i ∈ encL b, small i
  | [], _, i, h => (List.not_mem_nil h).elim
  | q :: r, hb, i, h => by
    obtain ⟨h1, h2⟩ := hb q (List.mem_cons_self ..)
    have h' : i ∈ q.1 :: q.2 :: encL r := h
    rcases List.mem_cons.mp h' with e | h'
    · rw [e]; exact small_of h1.1 h1.2 (by decide)
    · rcases List.mem_cons.mp h' with e | h'
      · rw [e]; exact small_of h2.1 h2.2 (by decide)
      · exact enc_small (fun z hz => hb z (List.mem_cons_of_mem _ hz)) i h'
end K62

set_option Elab.async false
set_option linter.all false
set_option maxRecDepth 100000
set_option maxHeartbeats 4000000
/-! K62Rules: rules that the layer lacks: repr of data, enumerate over tuples, for over lists and tuples alike, methods that raise, attributes as targets, a call by keywords alone, defs called where the guards are known. -/
namespace K62
open PySem PySem.Spec PyProof.Rows L2
/-! ### repr -/
def rRepr (K : PySem.W.Frag) : List V → Hp → VK → Prop := fun xs H Q => ∃ (a : Addr) (d : PyData) (k w : Nat), xs = [.ref a] ∧ Dp K H (.ref a) d ∧ Nice k w d ∧ k ≤ 30 ∧ w ≤ 2 ^ 20 ∧ Q (.str d.shown) H
theorem call_repr {X : Cx} (hg : X.A.guards = some []) (hu : X.A.units + 64 < cLine) : CallR X (.builtin "repr") (rRepr X.K) := by
  intro pins s σ H xs us Q I r h
  obtain ⟨a, d, k, w, e, hd, n, hk, hw, q⟩ := h
  subst e
  cases r with
  | cons r1 r2 =>
    cases r2
    obtain ⟨as, rd⟩ := Dp.reads I d (.ref a) _ hd r1
    cases r1
    have dp := n.dep
    exact repr_of_reads' rd n.shown (fun z => by rw [n.nd] at z; cases z) hg (by omega) (fun _ _ z => z) (fun h' u tk hk' => ⟨.str _, H, I.kept hk', ⟨_, rfl⟩, q⟩) (n.fits hw)

/-! ### for over a list or a tuple -/
section
variable {X : Cx} {tg e : Expr} {te : TE}
def iSeq (K : PySem.W.Frag) (te : TE) : TI := fun σ H R => te σ H fun x H1 => ∃ (k : Kd) (a : Addr) (xs : List V), x = .ref a ∧ Sq K H1 k a xs ∧ ∀ J, Walk J xs.length (fun H => Sq K H k a xs) (YAt xs) → R J H1
theorem pi_seq (he : PE X e te) : PI X tg e (iSeq X.K te) := by
  refine ⟨fun pins s σ H R I h => ?_⟩
  refine thn (he.run pins s σ H _ I h) fun v s1 ⟨x, H1, I1, r1, k, a, xs, ex, hq, q⟩ => ?_
  subst ex
  cases r1
  have fin : ∀ o : Obj, o.isFreed = false → Inv X pins σ H1 { s1 with heap := s1.heap.push o } ∧ ∀ b ∈ [s1.heap.objs.size], FpOk X pins H1 b := fun o ho => by
    refine ⟨I1.kept (t' := s1.toks) fun b u z => Heap.get?_push_of_some _ z, fun b hb => ?_⟩
    rw [List.mem_singleton.mp hb]
    exact I1.fpOk (Nat.le_refl _) (I1.hok.fresh (Nat.le_refl _))
  cases k with
  | l =>
    obtain ⟨its, rv, p, hz⟩ := I1.list (show SqL X.K H1 a xs from hq)
    have f := fin { cls := .type "list_iterator", data := .fields #[.ref a, .int 0 0] } rfl
    exact wpAny_pyIter_list p.isList ⟨_, [s1.heap.objs.size], _, _, H1, rfl, f.1, turn_list a _, ⟨_, Heap.get?_push_size _ rfl, rfl, rfl⟩, f.2, q _ walk_list⟩
  | t =>
    obtain ⟨its, rv, p, hz⟩ := I1.tuple (show SqT X.K H1 a xs from hq)
    have f := fin { cls := .type "tuple_iterator", data := .fields #[.ref a, .int 0 0] } rfl
    exact wpAny_pyIter_tuple p ⟨_, [s1.heap.objs.size], _, _, H1, rfl, f.1, turn_tuple a _, ⟨_, Heap.get?_push_size _ rfl, rfl, rfl⟩, f.2, q _ walk_tup⟩
end

/-! ### enumerate over a tuple -/
theorem meets_enumT (t : Addr) (items : Array Value) (n : Nat) (dct : Option Addr) (sl : Array (Option Value)) :
    Meets (Builtin.«enumerate.__new__» ⟨[.type "enumerate", .ref t], []⟩) (fun _ R s => s.heap.get? t = some { cls := .type "tuple", dict := dct, data := .seq items n, slots := sl } ∧
      R (.ok (.ret (.ref (s.heap.push { cls := .type "tuple_iterator", data := .fields #[.ref t, .int 0 0] }).objs.size)))
        { s with heap := (s.heap.push { cls := .type "tuple_iterator", data := .fields #[.ref t, .int 0 0] }).push { cls := .type "enumerate", data := .fields #[.none, .bool false, .ref s.heap.objs.size, rawInt 0, .none, .none] } }) :=
  .of_wp fun prog w A R s h => by
    obtain ⟨hp, g, d, tk, os⟩ := s
    obtain ⟨hl, h⟩ := h
    have hsub := sub_enumerate
    have hL : Heap.IsTuple (Shared.heap ⟨hp, g, d, tk, os⟩) t items := ⟨_, hl, rfl, n, rfl⟩
    have it : ∀ {A' : Around} {E : Value → Shared → Prop} {Q : Value → Shared → Prop}, Q (.ref hp.objs.size) ⟨hp.push { cls := .type "tuple_iterator", data := .fields #[.ref t, .int 0 0] }, g, d, tk, os⟩ → wpAny (model prog w) A' (pyIter (.ref t)) Q E ⟨hp, g, d, tk, os⟩ :=
      fun q => wpAny_pyIter_tuple hL q
    wp_walk using it
    refine wpAny_stack_any fun st => wpAny_pure ?_
    split
    · rename_i c _ _ _ _ _
      cases (c == Value.type "enumerate")
      all_goals
        wp_walk using it
        exact ⟨_, rfl, h⟩
    · wp_walk using it
      exact ⟨_, rfl, h⟩
theorem call_enumT {prog : Program} {w : World} {A : Around} {E : Value → Shared → Prop} {s : Shared} {t : Addr} {items : Array Value} {Q : Value → Shared → Prop} (hL : s.heap.IsTuple t items)
    (h : ∀ h', IsEnum h' (s.heap.objs.size + 1) s.heap.objs.size 0 .none → h'.IsTupleIter s.heap.objs.size t 0 → (∀ b o, s.heap.get? b = some o → h'.get? b = some o) → Q (.ref (s.heap.objs.size + 1)) { s with heap := h' }) :
    wpAny (model prog w) A (call (.type "enumerate") [.ref t]) Q E s := by
  obtain ⟨⟨c, dct, dt, sl⟩, hl, hc, n, hd⟩ := hL
  replace hc : c = .type "tuple" := hc
  replace hd : dt = .seq items n := hd
  subst hc hd
  have e1 : (s.heap.push { cls := .type "tuple_iterator", data := .fields #[.ref t, .int 0 0] }).objs.size = s.heap.objs.size + 1 := Heap.size_push ..
  have mk := meets_enumT t items n dct sl
  rw [show s.heap.objs.size + 1 = (s.heap.push { cls := .type "tuple_iterator", data := .fields #[.ref t, .int 0 0] }).objs.size from e1.symm] at h
  refine callType_new F.called_enumerate (by decide) (F.typeCall_enumerate_1 _) (F.newCall_enumerate_1 _) (fun obj => F.args_object_init_2 obj _)
    F.entry_enumerate_new mk ⟨hl, ?_⟩
  have he : IsEnum ((s.heap.push { cls := .type "tuple_iterator", data := .fields #[.ref t, .int 0 0] }).push { cls := .type "enumerate", data := .fields #[.none, .bool false, .ref s.heap.objs.size, rawInt 0, .none, .none] })
      (s.heap.push { cls := .type "tuple_iterator", data := .fields #[.ref t, .int 0 0] }).objs.size s.heap.objs.size 0 .none := Heap.get?_push_size _ rfl
  exact ⟨⟨_, he, rfl⟩, h _ he ⟨_, Heap.get?_push_of_some _ (Heap.get?_push_size _ rfl), rfl, rfl⟩ fun b o x => Heap.get?_push_of_some _ (Heap.get?_push_of_some _ x)⟩
def IteT (K : PySem.W.Frag) (a : Addr) : It :=
  ⟨fun i H => ∃ (xs : List V) (x : V), SqT K H a xs ∧ xs[i]? = some x,
   fun i H v H' => ∃ (T : Addr) (x : V), v = .ref T ∧ H T = none ∧ H' = upd H T (.tup [.int (i : Nat), x]) ∧ ∀ xs, SqT K H a xs → xs[i]? = some x,
   fun i H => ∃ xs : List V, SqT K H a xs ∧ xs.length = i⟩
theorem turn_enumT {P : Program} {w : World} {K : PySem.W.Frag} {elts : List Expr} {kk : Nat} {tpos : Pos} (a e it : Addr) :
    Turn P w K (.Tuple elts kk tpos) (IteT K a) [e, it] e (fun i h => (∃ old, IsEnum h e it ((i : Nat) : Int) old) ∧ h.IsTupleIter it a i ∧ e ≠ it ∧ a ≠ it ∧ a ≠ e) where
  mem := by simp
  obj := fun i h st b hb => by
    obtain ⟨⟨old, he⟩, ⟨o, ho, hc, hd⟩, _⟩ := st
    rcases (show b = e ∨ b = it by simpa using hb) with z | z
    · rw [z]
      exact ⟨_, he, fun v q => nomatch q⟩
    · rw [z]
      exact ⟨o, ho, fun v q => by rw [hd] at q; cases q⟩
  keep := fun i h h' st k => by
    obtain ⟨⟨old, he⟩, ⟨o, ho, r⟩, n⟩ := st
    exact ⟨⟨old, k e (by simp) _ he⟩, ⟨o, k it (by simp) o ho, r⟩, n⟩
  item := by
    intro X hP hw hK hc i pins s σ H E I hf st hg
    subst hP hw hK
    obtain ⟨⟨old, he⟩, hit, hne, n1, n2⟩ := st
    obtain ⟨xs, x, hq, hx⟩ := hg
    obtain ⟨its, rv, p, hz⟩ := I.tuple hq
    obtain ⟨u, hu, ru⟩ := rv.get hx
    have hT : Heap.IsTuple s.heap a its.toArray := p
    have hlt : i < its.toArray.size := by
      rw [List.size_toArray]
      exact (List.getElem?_eq_some_iff.mp hu).1
    have hel : e < s.heap.objs.size := Heap.lt_size he
    have hil : it < s.heap.objs.size := by obtain ⟨_, q, _⟩ := hit; exact Heap.lt_size q
    refine wpAny_pyNext_enum_itemC (Draws.tuple (A := X.A.in1) (I.ok.hd hc) it a n1 its.toArray) he ⟨hit, hT⟩ hlt hne (by simp [hne, Ne.symm n2]) fun y h' tk hy ho st' hnew hsz hk => ?_
    obtain rfl : u = y := by
      have e1 : its.toArray[i]? = some u := by simpa using hu
      exact Option.some.inj (e1.symm.trans hy)
    refine ⟨_, rfl, wpAny_letOwnedTupleGo_enum (s := { s with heap := h', toks := tk + 1 }) ho fun h'' he' sb => ?_⟩
    have g1 : h''.get? s.heap.objs.size = some { cls := .type "tuple", data := .seq #[.int i tk, u] } := (sb.2 _ (Nat.ne_of_gt hel)).trans hnew
    have new : ObjOk X.prog X.w (upd H s.heap.objs.size (.tup [.int (i : Nat), x])) h'' s.heap.objs.size (.tup [.int (i : Nat), x]) :=
      ⟨by show 2 ≤ sizeLine; decide, [.int i tk, u], .cons ⟨_, rfl⟩ (.cons ru .nil), ⟨_, g1, rfl, _, rfl⟩⟩
    have kk' : ∀ b ob, b ∉ [e, it] → s.heap.get? b = some ob → h''.get? b = some ob := fun b ob hb q => by
      have b1 : b ≠ e := fun z => hb (by simp [z])
      have b2 : b ≠ it := fun z => hb (by simp [z])
      exact (sb.2 b b1).trans (hk b ob b1 b2 q)
    have I1 : Inv X pins σ (upd H s.heap.objs.size (.tup [.int (i : Nat), x])) { s with heap := h'', toks := tk + 1 } := I.turnedNew kk' hf (Nat.le_refl _) new
    refine ⟨.ref s.heap.objs.size, _, I1, rfl, ⟨_, x, rfl, I.hok.fresh (Nat.le_refl _), rfl, fun ys hy' => by rw [I.tuple_inj hy' hq]; exact hx⟩, ⟨⟨u, ?_⟩, ?_, hne, n1, n2⟩, fun b hb => ?_⟩
    · have ec : ((i + 1 : Nat) : Int) = (i : Int) + 1 := by omega
      rw [ec]
      exact he'
    · obtain ⟨o, ho', r⟩ := st'.1
      exact ⟨o, (sb.2 it (Ne.symm hne)).trans ho', r⟩
    · have hb' : b ≠ s.heap.objs.size := by
        rcases (show b = e ∨ b = it by simpa using hb) with z | z
        · rw [z]; exact Nat.ne_of_lt hel
        · rw [z]; exact Nat.ne_of_lt hil
      rw [upd_ne hb']
      exact (hf b hb).1
  done := by
    intro X hP hw hK hc i pins s σ H E I hf st hg
    subst hP hw hK
    obtain ⟨⟨old, he⟩, hit, hne, n1, n2⟩ := st
    obtain ⟨xs, hq, hx⟩ := hg
    obtain ⟨its, rv, p, hz⟩ := I.tuple hq
    have hT : Heap.IsTuple s.heap a its.toArray := p
    obtain ⟨f0, f1, f2, f3, f4, f5⟩ := hf it (by simp)
    have ei : its.toArray.size = i := by
      rw [List.size_toArray, ← rv.length]
      exact hx
    subst ei
    exact wpAny_pyNext_enum_endD (Draws.tuple (A := X.A.in1) (I.ok.hd hc) it a n1 its.toArray) he ⟨hit, hT⟩ fun h' eb => ⟨rfl, I.turned (t' := s.toks) (fun b ob hb q => eb b ob hb q) f0 f1 f3 f4 f5⟩
  self := fun A i s Q E st h => let ⟨⟨_, he⟩, _⟩ := st; wpAny_pyIter_enum he h
/-- enumerate over a list or a tuple -/
def iEnumA (K : PySem.W.Frag) (ta : TA) : TI := fun σ H R => ta σ H fun vs H1 => ∃ (k : Kd) (a : Addr) (xs : List V), vs = [.ref a] ∧ Sq K H1 k a xs ∧
  ∀ J, Walk J xs.length (fun H => Sq K H k a xs) (YPair (fun i => some (.int (i : Nat))) (fun i => xs[i]?)) → R J H1
theorem walk_enumT {K : PySem.W.Frag} {a : Addr} {xs : List V} : Walk (IteT K a) xs.length (fun H => SqT K H a xs) (YPair (fun i => some (.int (i : Nat))) (fun i => xs[i]?)) :=
  ⟨fun i _ hi q => ⟨xs, xs[i], q, by simp [hi]⟩, fun _ q => ⟨xs, q, rfl⟩, fun i H v H' _ q y => let ⟨T, x, h1, h2, h3, h4⟩ := y; ⟨T, .int (i : Nat), x, h1, h2, h3, rfl, h4 xs q⟩⟩
theorem pi_enumA {X : Cx} {e : Expr} {ta : TA} {p pos tpos : Pos} {elts : List Expr} {kk : Nat} (hg : Gl X "enumerate") (hm : X.mg "enumerate" = none) (ha : PA X [e] ta) (hs : starEach [e] X.env = [(false, eval e X.env)] := by rfl) :
    PI X (.Tuple elts kk tpos) (.Call (.Name "enumerate" p) [e] [] pos) (iEnumA X.K ta) := by
  refine ⟨fun pins s σ H R I h => ?_⟩
  refine Call_ (ld_blt I hg hm boot_enumerate (PyProof.Rows.callWith_type1 (thn (ha.run pos pins s σ H _ I h) fun us s1 hh => ?_) hs rfl))
  obtain ⟨vs, H1, I1, r1, k, a, xs, ex, hq, q⟩ := hh
  subst ex
  cases r1 with
  | cons r rr =>
    cases rr
    cases r
    have fin : ∀ b ∈ [s1.heap.objs.size + 1, s1.heap.objs.size], FpOk X pins H1 b := fun b hb => by
      have hle : s1.heap.objs.size ≤ b := by
        rcases (show b = s1.heap.objs.size + 1 ∨ b = s1.heap.objs.size by simpa using hb) with z | z
        · rw [z]; exact Nat.le_succ _
        · rw [z]; exact Nat.le_refl _
      exact I1.fpOk hle (I1.hok.fresh hle)
    cases k with
    | l =>
      obtain ⟨its, rv, p', hz⟩ := I1.list (show SqL X.K H1 a xs from hq)
      refine call_enumerate_list p'.isList fun h' he hit hsz hk => wpAny_pyIter_enum he ?_
      exact ⟨s1.heap.objs.size + 1, [s1.heap.objs.size + 1, s1.heap.objs.size], _, _, H1, rfl, I1.kept (t' := s1.toks) hk, turn_enum a (s1.heap.objs.size + 1) s1.heap.objs.size, ⟨⟨.none, he⟩, hit, Nat.succ_ne_self _⟩, fin, q _ walk_enum⟩
    | t =>
      obtain ⟨its, rv, p', hz⟩ := I1.tuple (show SqT X.K H1 a xs from hq)
      have la : a < s1.heap.objs.size := by obtain ⟨o, ho, _⟩ := id p'; exact Heap.lt_size ho
      refine call_enumT p' fun h' he hit hk => wpAny_pyIter_enum he ?_
      exact ⟨s1.heap.objs.size + 1, [s1.heap.objs.size + 1, s1.heap.objs.size], _, _, H1, rfl, I1.kept (t' := s1.toks) hk, turn_enumT a (s1.heap.objs.size + 1) s1.heap.objs.size, ⟨⟨.none, he⟩, hit, Nat.succ_ne_self _, Nat.ne_of_lt la, Nat.ne_of_lt (Nat.lt_succ_of_lt la)⟩, fin, q _ walk_enumT⟩

/-! ### an attribute as a target -/
def gFld (K : PySem.W.Frag) (to : TE) (f : Str) : TG := fun v σ H Q => to σ H fun x H1 => ∃ (a C dx : Addr) (fs : List (Str × V)), x = .ref a ∧ H1 a = some (.ins C dx fs) ∧ Cls K C ∧ NoAttr K C f ∧ fs.length < 1000 ∧ Q σ (upd H1 a (.ins C dx (putF f v fs)))
theorem pg_fld {X : Cx} {o : Expr} {to : TE} {f : Str} {pos : Pos} (ho : PE X o to) : PG X (.Attribute o f pos) (gFld X.K to f) := by
  refine ⟨fun pins s σ H v u Q I r h => ?_⟩
  refine PySem.W.kas_attr (thn (ho.run pins s σ H _ I h) fun ov s2 hh => ?_)
  obtain ⟨x, H2, I2, rx, a, C, dx, fs, ex, ea, c, n, l, q⟩ := hh
  subst ex
  obtain rfl : ov = Value.ref a := rx
  exact setattr_ok I2 ea c n l r fun s3 I3 => ⟨σ, _, I3, q⟩

/-! ### methods that may raise, in a try's body -/
section
variable {X : Cx} {CX : CXT} {k : Nat} {f C : Addr} {fd : FuncData} {ps : List Str} {sp : Sp} {E : L2.St → XK} {x m : Str} {p pos apos : Pos} {e o : Expr} {es : List Expr} {ta : TE} {t : TA}
def tMX (C : Addr) (m : Str) (sp : Sp) (E : L2.St → XK) (ta : TE) (t : TA) : TE := fun σ H Q => ta σ H fun x H1 => ∃ (a dx : Addr) (fs : List (Str × V)), x = .ref a ∧ H1 a = some (.ins C dx fs) ∧ fs.lookup m = none ∧ t σ H1 fun vs H2 => sp (x :: vs) H2 Q (E σ)
theorem pe_mx0 {pl : Sem Bool} (he : PE X o ta) (c : Cls X.K C) (hm : Meth X.K C m f) (F : FnOk X.prog X.w X.K X.mg X.base CX k f fd ps sp) (hr : Room k X.A) (hb : Binds X.K fd ps []) (hx : ∀ σ, PassesAt CX X σ (E σ))
    (ht : eval (.Call (.Attribute o m apos) [] [] pos) X.env = (do
      let ov ← eval o X.env
      standAt apos.atName
      let (f, first) ← holding [ov] (getMethod ov m pl)
      callWith pos f first (backTo pos (starEach [] X.env)) (backToKw pos (keywordEach [] X.env))) := by rfl) : PE X (.Call (.Attribute o m apos) [] [] pos) (tMX C m sp E ta tNil) := by
  refine ⟨fun pins s σ H Q I h => PySem.W.methodCall_KW (pl := pl) (thn (he.run pins s σ H _ I h) fun u s1 hh => ?_) ht⟩
  obtain ⟨x, H1, I1, rx, a, dx, fs, ex, ea, l, q⟩ := hh
  subst ex
  obtain rfl : u = Value.ref a := rx
  exact getmeth_ok I1 ea c hm l (PySem.W.callWith_K0 (first := [.ref a]) I1.kIn hm.kp (run_fnS (us := [.ref a]) (vs := [.ref a]) F hr hb (hx σ) I1 (.cons rfl .nil) q))
end

/-! ### defs by their names -/
/-- the def that the module's name x stands for keeps the promise sp -/
def DefOk (P : Program) (w : World) (K : PySem.W.Frag) (mg : Str → Option Value) (base : Heap) (CX : CXT) (k : Nat) (f : Addr) (ps : List Str) (sp : Sp) : Prop :=
  ∃ fd, FnOk P w K mg base CX k f fd ps sp ∧ Binds K fd ps [] ∧ PySem.W.keepIn K (.ref f) = true
/-- .. where its one parameter k1 is given by name -/
def DefOkK (P : Program) (w : World) (K : PySem.W.Frag) (mg : Str → Option Value) (base : Heap) (CX : CXT) (k : Nat) (f : Addr) (k1 : Str) (sp : Sp) : Prop :=
  ∃ fd, FnOk P w K mg base CX k f fd [k1] sp ∧ (∀ (s : Shared) (u : Value), BindsTo s fd ⟨[], [(k1, u)]⟩ [(k1, u)]) ∧ PySem.W.keepIn K (.ref f) = true
section
variable {X : Cx} {CX : CXT} {k : Nat} {f C : Addr} {ps : List Str} {sp : Sp} {E : XK} {x m : Str} {p pos apos kpos : Pos} {e o : Expr} {es : List Expr} {te ta : TE} {t : TA}
/-- f(e, ..) -/
def tD (sp : Sp) (E : XK) (t : TA) : TE := fun σ H Q => t σ H fun vs H1 => sp vs H1 Q E
theorem pe_d (D : DefOk X.prog X.w X.K X.mg X.base CX k f ps sp) (hr : Room k X.A) (hg : Gl X x) (hm : X.mg x = some (.ref f)) (hx : Passes CX X E) (ha : PA X (e :: es) t) (hdb : (x == ("__debug__" : Str)) = false := by decide)
    (he : starEach (e :: es) X.env = (false, eval e X.env) :: starEach es X.env := by rfl) (hpl : (backTo pos (starEach es X.env)).any (·.1) = false := by rfl) : PE X (.Call (.Name x p) (e :: es) [] pos) (tD sp E t) := by
  obtain ⟨fd, F, b, kp⟩ := D
  have h := pe_call (p := p) (pos := pos) F hr hg hm kp b .nil hx ha hdb he hpl
  refine ⟨fun pins s σ H Q I q => h.run pins s σ H Q I ?_⟩
  have e2 : (fun (vs : List V) (H1 : Hp) => sp (vs ++ []) H1 Q E) = fun vs H1 => sp vs H1 Q E := by
    funext vs H1
    rw [List.append_nil]
  show t σ H fun vs H1 => sp (vs ++ []) H1 Q E
  rw [e2]
  exact q
/-- f(e, ..) in a try's body -/
theorem pe_dS {ES : L2.St → XK} (D : DefOk X.prog X.w X.K X.mg X.base CX k f ps sp) (hr : Room k X.A) (hg : Gl X x) (hm : X.mg x = some (.ref f)) (hx : ∀ σ, PassesAt CX X σ (ES σ)) (ha : PA X (e :: es) t) (hdb : (x == ("__debug__" : Str)) = false := by decide)
    (he : starEach (e :: es) X.env = (false, eval e X.env) :: starEach es X.env := by rfl) (hpl : (backTo pos (starEach es X.env)).any (·.1) = false := by rfl) : PE X (.Call (.Name x p) (e :: es) [] pos) (tCallS sp ES t) := by
  obtain ⟨fd, F, b, kp⟩ := D
  exact pe_callS (p := p) (pos := pos) F hr hg hm kp b hx ha hdb he hpl
/-- f(k = e), one parameter -/
theorem pe_dk {k1 : Str} (D : DefOkK X.prog X.w X.K X.mg X.base CX k f k1 sp) (hr : Room k X.A) (hg : Gl X x) (hm : X.mg x = some (.ref f)) (hx : Passes CX X E) (he : PE X e te) (hdb : (x == ("__debug__" : Str)) = false := by decide) :
    PE X (.Call (.Name x p) [] [⟨some k1, e, kpos⟩] pos) (tD sp E (tCons te tNil)) := by
  obtain ⟨fd, F, hk1, kp⟩ := D
  refine ⟨fun pins s σ H Q I h => ?_⟩
  refine wpAny_Call_Name_kw (ld_glob I hg hm ?_ hdb)
  refine PySem.W.callWith_KW0 (h₀ := X.base) I.ok.mod.kin kp rfl ?_ rfl
  have pk : PK X [⟨some k1, e, kpos⟩] (tCons te tNil) := pk_cons he pk_nil
  refine thn (pk.run pos pins s σ H _ I h) fun ws s2 hh => ?_
  obtain ⟨zs, H2, I2, rz, q2⟩ := hh
  refine ⟨I2.kIn, ?_⟩
  have hl := F.len _ _ _ _ q2
  cases rz with
  | nil => cases hl
  | cons r1 r2 =>
    cases r2 with
    | cons _ _ => simp at hl
    | nil =>
      rename_i z1 w1
      refine wpAny_call (codeAny_mono (F.run X.A X.stack s2 H2 ⟨[], [(k1, w1)]⟩ [w1] [z1] Q E hr I2.env0 (hk1 s2 w1) (.cons r1 .nil) q2) fun r s' hq => ?_)
      cases r with
      | error er => exact hx pins σ H2 s2 er s' I2 hq
      | ok fl =>
        cases fl with
        | ret u => exact I2.after hq
        | next => exact False.elim hq
        | brk => exact False.elim hq
        | cont => exact False.elim hq
end
end K62

set_option Elab.async false
set_option linter.all false
set_option maxRecDepth 100000
set_option maxHeartbeats 4000000
/-! K62Guard: defs that are called where nothing is being shown (the guards around are known to be none): what repr asks; the law's end for such a def. -/
namespace K62
open PySem PySem.Spec PyProof.Rows L2
section
variable {P : Program} {w : World} {K : PySem.W.Frag} {mg : Str → Option Value} {base : Heap}
/-- as FnOk, of a def that lets nothing out, where no repr runs around -/
structure FnG (P : Program) (w : World) (K : PySem.W.Frag) (mg : Str → Option Value) (base : Heap) (k : Nat) (f : Addr) (fd : FuncData) (ps : List Str) (sp : Sp) : Prop where
  len : ∀ vs H Q E, sp vs H Q E → vs.length = ps.length
  go : ∀ (A : Around) (out : List Env) (s : Shared) (H : Hp) (ar : Args) (us : List Value) (vs : List V) (Q : VK), A.guards = some [] → Room k A → Env0 P w K mg base A out s H → BindsTo s fd ar (ps.zip us) → Vals vs us → sp vs H Q E0 →
    codeAny (model P w) A (.call (.ref f) ar) (CR CX0 out P w H s Q E0) s
theorem FunD.okG {x qual : Str} {par : Arguments} {body : List Stmt} {sc : Scope} {dvs : List V} {kws : List (Str × V)} {f : Addr} {fd : FuncData} {N ps : List Str} {k : Nat} {sp : Sp} (F : FunD K x qual par body sc dvs kws f fd) (S : FnScope N ps sc)
    (len : ∀ vs H Q E, sp vs H Q E → vs.length = ps.length)
    (walk : ∀ (cdv : Value) (A : Around) (out : List Env) (s : Shared) (H : Hp) (vs : List V) (Q : VK), A.guards = some [] → Room k (A.deeper (envOfC qual sc s.heap.objs.size f cdv)) → sp vs H Q E0 →
      ∃ t, PSs (cxOf CX0 P w K mg base N qual sc f cdv A out s H E0).nox body t ∧ t { nx := fun _ H' => Q .non H', rt := Q } (start N vs) H) : FnG P w K mg base (k + 1) f fd ps sp := by
  obtain ⟨oc, od, dV, kV, doc, pm, an, cdv, ct, osl, rfl, lk, hcd, _, _⟩ := F.ex
  refine ⟨len, fun A out s H ar us vs Q hg hr e0 hb rv hsp => ?_⟩
  have kept : ∀ b o, base.get? b = some o → s.heap.get? b = some o := fun b o z => (e0.bs b o z).1
  have hK : K.In s.heap := e0.mod.kin.keeps kept
  have hlim : s.heap.NoLimit := e0.mod.nolimit.keeps kept
  have kinds : ∀ y ∈ ps.zip us, sc.names.lookup y.1 = some .local ∨ (sc.names.lookup y.1 = some .cell ∧ ((cellsFrom (s.heap.objs.size + 1) sc.names []).lookup y.1).isSome = true) := by
    rintro ⟨n, v⟩ hy
    rcases S.par n (List.of_mem_zip hy).1 with q | q
    · exact .inl q
    · exact .inr ⟨q, PySem.W.cellsFrom_some _ _ _ (.inl q)⟩
  refine codeAny_call_function hr.depth (hK _ _ lk) rfl
    S.co S.gen rfl (PySem.W.codeRec_of hK hcd) (hb _ _ _ _ (wpAny_newFunctionEnv_cells S.kind kinds fun env he s1 ic => ?_))
  subst he
  refine ⟨hlim.keeps ic.toInCall.keep, codeAny_func ?_⟩
  obtain ⟨t, ht, hq⟩ := walk cdv A out s H vs Q hg (hr.deeper _) hsp
  have I0 : Inv (cxOf CX0 P w K mg base N qual sc f cdv A out s H E0) [] (start N vs) H s1 := inv_start S hr.hd e0 (len _ _ _ _ hsp) rv ic
  have out_of : ∀ {σ' : L2.St} {H' : Hp} {v : V} {u : Value} {s' : Shared}, Inv (cxOf CX0 P w K mg base N qual sc f cdv A out s H E0) [] σ' H' s' → RelV v u → Q v H' → CE out P w H s Q u s' :=
    fun J r q => ⟨_, _, J.os, J.bare, J.base, J.hok, r, q⟩
  refine wpAny_mono (ht.nox.run [] s1 (start N vs) H _ I0 hq) (fun fl s' z => ?_) (fun _ _ z => z)
  cases fl with
  | ret u => exact let ⟨_, _, _, J, r, q⟩ := z; out_of J r q
  | next => exact let ⟨_, _, J, q⟩ := z; out_of (v := V.non) (u := Value.none) J rfl q
  | brk => exact let ⟨_, _, _, q⟩ := z; q.elim
  | cont => exact let ⟨_, _, _, q⟩ := z; q.elim
def DefG (P : Program) (w : World) (K : PySem.W.Frag) (mg : Str → Option Value) (base : Heap) (k : Nat) (f : Addr) (ps : List Str) (sp : Sp) : Prop :=
  ∃ fd, FnG P w K mg base k f fd ps sp ∧ Binds K fd ps [] ∧ PySem.W.keepIn K (.ref f) = true
end
section
variable {X : Cx} {k : Nat} {f : Addr} {ps : List Str} {sp : Sp} {x : Str} {p pos : Pos} {e : Expr} {es : List Expr} {t : TA}
theorem pe_g (D : DefG X.prog X.w X.K X.mg X.base k f ps sp) (hgu : X.A.guards = some []) (hr : Room k X.A) (hg : Gl X x) (hm : X.mg x = some (.ref f)) (ha : PA X (e :: es) t) (hdb : (x == ("__debug__" : Str)) = false := by decide)
    (he : starEach (e :: es) X.env = (false, eval e X.env) :: starEach es X.env := by rfl) (hpl : (backTo pos (starEach es X.env)).any (·.1) = false := by rfl) : PE X (.Call (.Name x p) (e :: es) [] pos) (tD sp E0 t) := by
  obtain ⟨fd, F, hb, kp⟩ := D
  refine ⟨fun pins s σ H Q I h => wpAny_Call_Name_kw (ld_glob I hg hm ?_ hdb)⟩
  refine PySem.W.callWith_K (h₀ := X.base) I.ok.mod.kin kp (thn (ha.run pos pins s σ H _ I h) fun us s1 hh => ?_) he hpl
  obtain ⟨vs, H1, I1, rv, q⟩ := hh
  have hl : us.length = ps.length := by
    rw [← rv.length]
    exact F.len _ _ _ _ q
  have bt := hb s1 us I1.kIn (by rw [List.append_nil]; exact hl)
  rw [List.append_nil] at bt
  refine ⟨I1.kIn, wpAny_call (codeAny_mono (F.go X.A X.stack s1 H1 ⟨us, []⟩ us vs Q hgu hr I1.env0 bt rv q) fun r s' z => ?_)⟩
  cases r with
  | error er => exact z.elim
  | ok fl =>
    cases fl with
    | ret u => exact I1.after z
    | next => exact z.elim
    | brk => exact z.elim
    | cont => exact z.elim
end
/-! ### the law's end -/
theorem law_end {P : Program} {w : World} {K : PySem.W.Frag} {mg mb : Str → Option Value} {k : Nat} {fa a : Addr} {fd : FuncData} {x : Str} {sp : Sp} {s : Shared} {vs : List Value} {ns : List Int}
    (hK : K.In s.heap) (hG : s.heap.Ns mainGlobals mg) (hB : s.heap.Ns builtinsNs mb) (hb : ∀ x : Str, x ≠ "__name__" → mb x = bootBuiltins x) (hlim : s.heap.NoLimit) (hgen : s.gens = #[])
    (ha : s.heap.get? a = some { cls := .type "list", data := .seq vs.toArray }) (hi : IntsAre vs ns) (hl : ns.length ≤ sizeLine) (hr : Room k callerA)
    (F : ∀ base : Heap, K.In base → base.Ns mainGlobals mg → FnG P w K mg base k fa fd [x] sp) (bind : ∀ (s : Shared) (u : Value), BindsTo s fd ⟨[u], []⟩ [(x, u)])
    (hsp : ∀ H : Hp, SqL K H a (ns.map V.int) → sp [.ref a] H (fun v _ => v = .bl true) E0) :
    codeAny (model P w) callerA (.call (.ref fa) ⟨[.ref a], []⟩) (fun r s' => r = .ok (.ret (.bool true)) ∧ OldK s.heap s'.heap ∧ s'.os = s.os ∧ AllBare s'.gens) s := by
  have vi := vals_ints hi
  have ln := hi.length
  -- the script as it is known: the module's own object, or locked
  have known : ∃ H : Hp, SqL K H a (ns.map V.int) ∧ HOk P w H s.heap ∧ (∀ b u, H b = some u → b = a ∧ K.lookup a = none ∧ u = .frz { cls := .type "list", data := .seq vs.toArray } (.lst (ns.map V.int))) := by
    cases lk : K.lookup a with
    | some o =>
      have eo : o = { cls := .type "list", data := .seq vs.toArray } := Option.some.inj ((hK a o lk).symm.trans ha)
      refine ⟨fun _ => none, .inr ⟨o, vs.toArray, 0, lk, ?_⟩, fun b u z => (by cases z), fun b u z => (by cases z)⟩
      subst eo
      exact ⟨rfl, rfl, rfl, by rw [List.size_toArray, ln]; exact hl, vi⟩
    | none =>
      refine ⟨fun b => if b = a then some (.frz { cls := .type "list", data := .seq vs.toArray } (.lst (ns.map V.int))) else none, .inl (.inr ⟨_, if_pos rfl⟩), fun b u z => ?_, fun b u z => ?_⟩
      · by_cases e : b = a
        · subst e
          cases (if_pos rfl).symm.trans z
          exact ⟨ha, by rw [List.length_map]; exact hl, vs, _, vi, ha⟩
        · cases (if_neg e).symm.trans z
      · by_cases e : b = a
        · subst e
          cases (if_pos rfl).symm.trans z
          exact ⟨rfl, rfl, rfl⟩
        · cases (if_neg e).symm.trans z
  obtain ⟨H, hS, hok, hH⟩ := known
  have free : ∀ {b : Addr} {o : Obj}, s.heap.get? b = some o → (∀ n, o.data ≠ .seq vs.toArray n) → H b = none := fun {b o} e d => by
    cases q : H b with
    | none => rfl
    | some u =>
      obtain ⟨rfl, _, _⟩ := hH b u q
      rw [ha] at e
      cases e
      exact absurd rfl (d _)
  have lay : ∀ {b : Addr} {o : Obj}, s.heap.get? b = some o → H b = none → (hidT s.heap H).get? b = some o := fun e n => hidT_get e n
  have nsB : ∀ {b : Addr} {m : Str → Option Value}, s.heap.Ns b m → (hidT s.heap H).Ns b m := by
    rintro b m ⟨o, es, ep, e, d, r⟩
    exact ⟨o, es, ep, lay e (free e fun n z => by rw [d] at z; cases z), d, r⟩
  have kB : K.In (hidT s.heap H) := fun b o e => by
    refine lay (hK b o e) ?_
    cases q : H b with
    | none => rfl
    | some u =>
      obtain ⟨rfl, hk, _⟩ := hH b u q
      rw [hk] at e
      cases e
  have e0 : Env0 P w K mg (hidT s.heap H) callerA [] s H := {
    frames := rfl
    mod := ⟨kB, nsB hG, ⟨mb, nsB hB, hb⟩, let ⟨mc, h1, h2⟩ := hlim; ⟨mc, nsB h1, h2⟩⟩
    bs := fun _ _ z => of_hidT z
    bsz := Nat.le_of_eq (hidT_size _ _)
    funs := trivial
    frf := fun b z => (List.not_mem_nil (show b ∈ ([] : List Addr) from z)).elim
    hok := hok
    bare := .of_eq hgen }
  refine codeAny_mono ((F _ kB (nsB hG)).go callerA [] s H ⟨[.ref a], []⟩ [.ref a] [.ref a] _ rfl hr e0 (bind s _) (.cons rfl .nil) (hsp H hS)) fun r s' z => ?_
  cases r with
  | error er => exact z.elim
  | ok fl =>
    cases fl with
    | next => exact z.elim
    | brk => exact z.elim
    | cont => exact z.elim
    | ret u =>
      obtain ⟨v, H', os, bare, un, hok', rv, q⟩ := z
      have q' : v = .bl true := q
      subst q'
      obtain rfl : u = Value.bool true := rv
      refine ⟨rfl, OldK.of_keep fun b o e => ?_, os, bare⟩
      cases hb' : H b with
      | none => exact un.keep b o e hb' (fun y => (List.not_mem_nil (show b ∈ ([] : List Addr) from y)).elim) (by simp)
      | some u =>
        obtain ⟨_, _, rfl⟩ := hH b u hb'
        have g1 := (hok b _ hb').1
        have g2 := (hok' b _ (un.frzs b _ _ hb')).1
        rw [e] at g1
        cases g1
        exact g2
end K62

set_option Elab.async false
set_option linter.all false
set_option maxRecDepth 100000
set_option maxHeartbeats 4000000
/-! K62Brk: the error Broken: made (super().__init__(..), then its place), raised. -/
namespace K62
open PySem PySem.W PySem.Calls PyProof.Rows PySem.HandSPX
/-- what is asked of the program around -/
structure PrgOk (P : Program) : Prop where
  file : P.main.file = PySem.Challenge.pw_ownback_k62_whole_a_journal_cut_anywhere.main.file
  sup : (P.main.scope.names.lookup ("super" : Str)).isSome = false
/-- what the written part says of Broken, at C, its __init__ at fI -/
structure BrkTxt (K : Frag) (C fI cc cda : Addr) : Prop where
  fn : ∃ oc od osl kV doc pm an ct, K.lookup fI = some ⟨oc, od, .func (fnX "__init__" "Broken.__init__" (L2.defArgs s_Broken) (L2.defBody s_Broken) (L2.defScope s_Broken) [("__class__", cc)] .none kV doc pm an (.ref cda) ct), osl⟩
  code : codeIn K (.ref cda) "Broken.__init__" = true
  file : ∃ oc od vs osl t, K.lookup cda = some ⟨oc, od, .fields vs, osl⟩ ∧ vs[2]? = some (.str PySem.Challenge.pw_ownback_k62_whole_a_journal_cut_anywhere.main.file t)
  cell : ∃ oc od osl, K.lookup cc = some ⟨oc, od, .cell (some (.ref C)), osl⟩
  exi : excInitIn K C veTail "ValueError.__new__" = true
  cls : ∃ cd, clsIn K C = some cd ∧ refsVE cd.mro = true ∧ cd.hasDict = true
  sa : findIn K (.ref C) "__setattr__" = some (some (.builtin "object.__setattr__"))
  na : findIn K (.ref C) "at" = some none
  iC : findIn K (.ref C) "__init__" = some (some (.ref fI))
  tI : typeIn K (.ref fI) = some (.type "function")
  kC : keepIn K (.ref C) = true
  exC : subIn K (.ref C) (.type "BaseException") = some true
  veC : subIn K (.ref C) (.type "ValueError") = some true
  tyC : typeIn K (.ref C) = some (.type "type")
  mC : mroIn K C (.ref C) = some true
  sup : ks_superIn K C C "__init__" = some (some (.builtin "ValueError.__init__"))
  opq : nsIn K cStatics "thirdparty.any" = some none
theorem BrkTxt.of {K : Frag} (h : brkB K = true) (hf : fnC K = valC) : BrkTxt K (He.ga K "Broken") (He.ma K (He.ga K "Broken") "__init__") (ccOf K) (cdOf K) ∧ L2.XfC K (He.ga K "Broken") := by
  obtain ⟨h1, h⟩ := He.ba h
  obtain ⟨h2, h⟩ := He.ba h
  obtain ⟨h3, h⟩ := He.ba h
  obtain ⟨h4, h⟩ := He.ba h
  obtain ⟨h5, h⟩ := He.ba h
  obtain ⟨h6, h⟩ := He.ba h
  obtain ⟨h7, h⟩ := He.ba h
  obtain ⟨h8, h⟩ := He.ba h
  obtain ⟨h9, h⟩ := He.ba h
  obtain ⟨h10, h⟩ := He.ba h
  obtain ⟨h11, h⟩ := He.ba h
  obtain ⟨h12, h⟩ := He.ba h
  obtain ⟨h13, h⟩ := He.ba h
  obtain ⟨h14, h⟩ := He.ba h
  obtain ⟨h15, h⟩ := He.ba h
  obtain ⟨h16, h17⟩ := He.ba h
  -- the def
  have hfn : ∃ oc od osl kV doc pm an ct, K.lookup (He.ma K (He.ga K "Broken") "__init__") = some ⟨oc, od, .func (fnX "__init__" "Broken.__init__" (L2.defArgs s_Broken) (L2.defBody s_Broken) (L2.defScope s_Broken) [("__class__", ccOf K)] .none kV doc pm an (.ref (cdOf K)) ct), osl⟩ ∧ codeIn K (.ref (cdOf K)) "Broken.__init__" = true := by
    unfold initB at h3
    unfold fnC at hf
    unfold ccOf cdOf
    cases q : K.lookup (He.ma K (He.ga K "Broken") "__init__") with
    | none => rw [q] at h3; cases h3
    | some o =>
      obtain ⟨oc, od, dt, osl⟩ := o
      rw [q] at h3 hf
      cases dt with
      | func fd =>
        obtain ⟨n1, n2, n3, n4, n5, n6, n7, n8, n9, n10, n11, n12, n13, n14, n15⟩ := fd
        have e : (some (n1, n2, n3, n4, n5, n6, n7.map (·.1), n8, n15) : FnC) = valC := hf
        unfold valC at e
        have e' := Option.some.inj e
        simp only [Prod.mk.injEq] at e'
        obtain ⟨e1, e2, e3, e4, e5, e6, e7, e8, e9⟩ := e'
        subst e1 e2 e3 e4 e5 e6 e8 e9
        cases n13 with
        | ref c =>
          obtain ⟨c1, _⟩ := He.ba (show (codeIn K (.ref c) "Broken.__init__" && true) = true from h3)
          cases n7 with
          | nil => cases e7
          | cons p r =>
            obtain ⟨nm, ca⟩ := p
            obtain ⟨a1, a2⟩ := List.cons.inj (show nm :: r.map (·.1) = [("__class__" : Str)] from e7)
            have a3 := List.map_eq_nil_iff.mp a2
            subst a1 a3
            exact ⟨oc, od, osl, n9, n10, n11, n12, n14, rfl, c1⟩
        | _ => cases (show false = true from (He.ba h3).2)
      | _ => cases h3
  obtain ⟨oc, od, osl, kV, doc, pm, an, ct, lk, hcode⟩ := hfn
  refine ⟨⟨⟨oc, od, osl, kV, doc, pm, an, ct, lk⟩, hcode, ?_, ?_, h1, ?_, He.eqO_ok h6, He.eqO_ok h7, He.eqO_ok h8, of_decide_eq_true h9, h10, of_decide_eq_true h11, of_decide_eq_true h12, of_decide_eq_true h13, of_decide_eq_true h14, He.eqO_ok h15, He.eqO_ok h16⟩, L2.xfB_ok h17⟩
  · unfold codeB at h5
    cases q : K.lookup (cdOf K) with
    | none => rw [q] at h5; cases h5
    | some o =>
      obtain ⟨oc, od, dt, osl⟩ := o
      rw [q] at h5
      cases dt with
      | fields vs =>
        have h5' : (match (vs[2]? : Option Value) with
          | some (Value.str f _) => ((PySem.Challenge.pw_ownback_k62_whole_a_journal_cut_anywhere.main.file : Str) == f)
          | _ => false) = true := h5
        cases q2 : (vs[2]? : Option Value) with
        | none => rw [q2] at h5'; cases h5'
        | some v =>
          rw [q2] at h5'
          cases v with
          | str f t =>
            have ef : (PySem.Challenge.pw_ownback_k62_whole_a_journal_cut_anywhere.main.file : Str) = f := eq_of_beq h5'
            exact ⟨oc, od, vs, osl, t, rfl, by rw [q2, ← ef]⟩
          | _ => cases h5'
      | _ => cases h5
  · unfold cellB at h4
    cases q : K.lookup (ccOf K) with
    | none => rw [q] at h4; cases h4
    | some o =>
      obtain ⟨oc, od, dt, osl⟩ := o
      rw [q] at h4
      cases dt with
      | cell v =>
        cases v with
        | none => cases h4
        | some v =>
          cases v with
          | ref D =>
            have eD : D = He.ga K "Broken" := of_decide_eq_true h4
            rw [eD]
            exact ⟨oc, od, osl, rfl⟩
          | _ => cases h4
      | _ => cases h4
  · unfold clsB at h2
    cases q : clsIn K (He.ga K "Broken") with
    | none => rw [q] at h2; cases h2
    | some cd =>
      rw [q] at h2
      obtain ⟨g1, g2⟩ := He.ba (show (refsVE cd.mro && cd.hasDict) = true from h2)
      exact ⟨cd, rfl, g1, g2⟩

/-- what __init__ leaves of a fresh error at x -/
structure InitEnd (h h' : Heap) (x C dx : Addr) (v : Value) : Prop where
  keep : ∀ b o, b ≠ x → h.get? b = some o → h'.get? b = some o
  obj : ∃ t1 : Addr, h'.get? x = some { cls := .ref C, dict := some dx, data := .fields #[.ref t1, .none, .none, .none, .bool false, .none] }
  dbig : h.objs.size ≤ dx
  dne : dx ≠ x
  ns : h'.Ns1 dx (fun y => if y = "at" then some v else none)
section
variable {prog : Program} {w : World} {A : Around} {E : Value → Shared → Prop} {R : Result → Shared → Prop} {h : Heap} {g : Array GenState} {d : Drawn} {t : Nat} {os : OsState} {K : Frag} {C fI cc cda : Addr}
/-- the built-in __init__ bound to the fresh error, called -/
theorem call_mw {u x t0 : Addr} {rest : List Value} {Q : Value → Shared → Prop} (X : K.In h) (q : excInitIn K C veTail "ValueError.__new__" = true) (hu : h.get? u = some (kxs_mw "ValueError.__init__" x)) (hx : h.get? x = some (excO C t0)) (hz : rest.length ≤ sizeLine)
    (hq : ∀ h' t1, (∀ b o, b ≠ x → h.get? b = some o → h'.get? b = some o) → h'.get? x = some (excO C t1) → Q .none ⟨h', g, d, t, os⟩) : wpAny (model prog w) A (call (.ref u) rest) Q E ⟨h, g, d, t, os⟩ := by
  obtain ⟨nm, N, qn, bs, bm, hdct, sn, sub, ab, col, dd, k0, k1, k2, k3, k5, hC, hT⟩ := excInit_of X q
  refine wpAny_call (codeAny_of_tree ?_)
  show wpAny _ A.in1 (callAny (.ref u) ⟨rest, []⟩) _ _ _
  unfold callAny
  refine wpAny_bind (wpAny_load hu ?_)
  have c1 : (Value.type "method-wrapper" == Value.type "method" || Value.type "method-wrapper" == Value.type "builtin_function_or_method" || Value.type "method-wrapper" == Value.type "method-wrapper") = true := by decide
  simp only [kxs_mw, c1, if_true]
  refine KFB.if_so (by decide) (wpAny_bind ?_)
  refine check_bound_init F.excBase_ValueError.toExcCallFacts hC hx rfl ?_
  refine wpAny_bind (wpAny_pure (wpAny_pure ⟨plainId_quiet F.excBase_ValueError.init.plain _, codeAny_builtin F.excBase_ValueError.initEntry ?_⟩))
  exact exc_init_tree (cls := .ref C) (t0 := t0) (dv := none) (c2 := .none) (c3 := .none) (b4 := .bool false) hx hz fun h' k e _ => hq h' _ k e
theorem brk_init (hP : PrgOk prog) (T : BrkTxt K C fI cc cda) {x t0 : Addr} {v : Value} {mg mb : Str → Option Value} (X : K.In h) (hlim : h.NoLimit) (hg : h.Ns mainGlobals mg) (hsup : mg "super" = none) (hb : h.Ns builtinsNs mb) (hbb : ∀ x : Str, x ≠ "__name__" → mb x = bootBuiltins x)
    (hx : h.get? x = some (excO C t0)) (hnx : K.lookup x = none) (hroom : A.depth < recursionLimit)
    (hq : ∀ h' tk dx, InitEnd h h' x C dx v → R (.ok (.ret .none)) ⟨h', g, d, tk, os⟩) : codeAny (model prog w) A (.call (.ref fI) ⟨[.ref x, v], []⟩) R ⟨h, g, d, t, os⟩ := by
  obtain ⟨oc, od, osl, kV, doc, pm, an, ct, lk⟩ := T.fn
  obtain ⟨ocl, ocd, vs, ocs, tf, hcda, hvs⟩ := T.file
  obtain ⟨cl, cld, csl, hcell⟩ := T.cell
  obtain ⟨cd, hcd, hmro, hdict⟩ := T.cls
  have noc : ∀ y ∈ (L2.defScope s_Broken).names, y.2 ≠ .cell := by decide +kernel
  have l1 : (L2.defScope s_Broken).names.lookup ("self" : Str) = some .local := by decide +kernel
  have l2 : (L2.defScope s_Broken).names.lookup ("at" : Str) = some .local := by decide +kernel
  have loc : ∀ y ∈ [(("self" : Str), Value.ref x), ("at", v)], (L2.defScope s_Broken).names.lookup y.1 = some .local := fun y hy => by
    rcases List.mem_cons.mp hy with e | hy
    · rw [e]; exact l1
    · rw [List.mem_singleton.mp hy]; exact l2
  refine ks_codeAny_call_defAt (s := ⟨h, g, d, t, os⟩) (fd := fnX "__init__" "Broken.__init__" (L2.defArgs s_Broken) (L2.defBody s_Broken) (L2.defScope s_Broken) [("__class__", cc)] .none kV doc pm an (.ref cda) ct) (body := L2.defBody s_Broken) (binds := [("self", .ref x), ("at", v)])
    hroom (X _ _ lk) rfl hlim (codeRec_of X T.code) rfl (BindsTo.of_eq (by first | rfl | with_unfolding_all rfl)) noc loc (fun h₁ hns k₁ => ?_) rfl rfl rfl
  have X1 : K.In h₁ := X.keeps k₁
  have hx1 : h₁.get? x = some (excO C t0) := k₁ _ _ hx
  have hxL : h.objs.size ≠ x := Nat.ne_of_gt (Heap.lt_size hx)
  obtain ⟨oC, hC1, hC2⟩ : ∃ oC, h₁.get? C = some oC ∧ oC.data = .cls cd := by
    unfold clsIn at hcd
    split at hcd
    · rename_i c dd cd' sl ho
      cases hcd
      exact ⟨_, X1 _ _ ho, rfl⟩
    · cases hcd
  have xC : x ≠ C := fun z => by
    rw [z] at hx1
    rw [hx1] at hC1
    cases hC1
    cases hC2
  -- super().__init__('..')
  refine ks_wpAt_execs_cons (ks_wpAt_Expr_any (ks_wpAt_MethodCall ?_))
  refine ks_wpAt_super_base (f := fI) (of := ⟨oc, od, .func (fnX "__init__" "Broken.__init__" (L2.defArgs s_Broken) (L2.defBody s_Broken) (L2.defScope s_Broken) [("__class__", cc)] .none kV doc pm an (.ref cda) ct), osl⟩) (ar := { arg := "self", annotation := none, pos := ⟨21, 17, 21, 21⟩ }) (cc := cda)
    (by rfl) (by rfl) (by decide) rfl (X1 _ _ lk) rfl (by first | rfl | with_unfolding_all rfl) rfl (X1 _ _ hcda) rfl hvs (by show ((prog.main.file : Str) == _) = true; rw [hP.file]; exact beq_self_eq_true _) hP.sup ?_
  have hz : builtinsNs = builtinsNs := rfl
  refine ks_loadName_global (by rfl) (by rfl) (loadGlobal_builtin (hg.keeps k₁) hsup (hb.keeps k₁) ((hbb _ (by decide +kernel)).trans (by first | boot_by_name | rfl | kernel_rfl)) ⟨rfl, ?_⟩)
  refine wpAny_loadName_free (by rfl) (by rfl) rfl ⟨_, X1 _ _ hcell, rfl⟩ ?_
  refine wpAny_loadName_local (v := .ref x) (by rfl) (by rfl) hns (by first | rfl | with_unfolding_all rfl | kernel_rfl) ?_
  refine ks_wpAny_isType_cls hC1 hC2 ⟨rfl, ?_⟩
  refine ks_wpAny_call_super hC1 hC2 hx1 rfl (fun c z => by cases z) (looks_mroIn X1 T.mC) (fun h₂ hso k₂ => ?_)
  have X2 : K.In h₂ := X1.keeps k₂
  have hx2 := k₂ _ _ hx1
  have I2 : InstAt h₂ x (excO C t0) C none := ⟨hx2, rfl, rfl, trivial⟩
  have hsupr : alongIn K "__init__" ((cd.mro.dropWhile (· != .ref C)).drop 1) = some (some (.builtin "ValueError.__init__")) := by
    have q := T.sup
    unfold ks_superIn at q
    rw [hcd] at q
    exact q
  refine kxs_getMethod kxs_ValueError hso (looks_opaque X2 T.opq) (l₀ := cd.mro) (fun A Q E s k q => wpAny_bind ((looks_clsIn X2 hcd) A _ E s k (wpAny_pure q))) rfl X2 hsupr (I2.type.andThen (looks_subIn X2 T.veC)) xC (by decide) ?_
  have hu : (h₂.push (kxs_mw "ValueError.__init__" x)).get? h₂.objs.size = some (kxs_mw "ValueError.__init__" x) := Heap.get?_push_at rfl rfl
  have k₃ : ∀ b o, h₂.get? b = some o → (h₂.push (kxs_mw "ValueError.__init__" x)).get? b = some o := fun b o e => Heap.get?_push_of_some _ e
  refine kxs_callWith (i := "ValueError.__init__") (x := x) (by rfl) ?_
  refine evalArgs_plain (Calls.spliced_cons (Calls.Constant_str (k := 0) (pos := ⟨22, 25, 22, 56⟩) (Calls.spliced_nil ⟨hu, ?_⟩)))
  refine call_mw (X2.keeps k₃) T.exi hu (k₃ _ _ hx2) (by show 1 ≤ sizeLine; decide) fun h₄ t1 k₄ hx4 => ?_
  have old : ∀ b o, b ≠ x → h.get? b = some o → h₄.get? b = some o := fun b o n e => k₄ b o n (k₃ _ _ (k₂ _ _ (k₁ _ _ e)))
  have X4 : K.In h₄ := fun b o e => by
    have n : b ≠ x := fun z => by
      rw [z, hnx] at e
      cases e
    exact old b o n (X b o e)
  have ns4 : h₄.Ns h.objs.size (fun y => [(("self" : Str), Value.ref x), ("at", v)].reverse.lookup y) := by
    obtain ⟨o, es, ep, e1, r⟩ := hns
    exact ⟨o, es, ep, k₄ _ _ hxL (k₃ _ _ (k₂ _ _ e1)), r⟩
  -- self.at = at
  refine ks_wpAt_execs_cons (ks_wpAt_Assign_Attr ?_)
  refine wpAt_of_wpAny (wpAny_Name (wpAny_loadName_local (v := v) (by rfl) (by rfl) ns4 (by first | rfl | with_unfolding_all rfl | kernel_rfl) ?_) (by decide))
  refine wpAny_Name (wpAny_loadName_local (v := .ref x) (by rfl) (by rfl) ns4 (by first | rfl | with_unfolding_all rfl | kernel_rfl) ?_) (by decide)
  refine set_plain X4 (ox := excO C t1) (od := none) ⟨hx4, rfl, rfl, trivial⟩ T.sa ?_
  refine exc_osa X4 hx4 hcd hmro hdict T.na (fun h₅ tk₅ dx k₅ dn dne hx5 hn5 => ?_)
  refine wpAt_of_wpAny (wpAny_execs_nil (hq h₅ tk₅ dx ⟨fun b o n e => k₅ b o n (old b o n e), ⟨t1, hx5⟩, ?_, dne, hn5⟩))
  have z1 := hns.lt
  have z4 : h.objs.size < h₄.objs.size := by
    obtain ⟨o, es, ep, e1, r⟩ := ns4
    exact Heap.lt_size e1
  exact Nat.le_of_lt (Nat.lt_of_lt_of_le z4 dn)
/-- a made Broken -/
structure OwnMade (h h' : Heap) (e C d : Addr) (v : Value) : Prop where
  keep : ∀ b o, h.get? b = some o → h'.get? b = some o
  new : h.objs.size ≤ e
  obj : ∃ oe vs, h'.get? e = some oe ∧ oe.cls = .ref C ∧ oe.dict = some d ∧ oe.data = .fields vs ∧ vs[1]? = some .none
  dbig : h.objs.size ≤ d
  dne : d ≠ e
  ns : h'.Ns1 d (fun y => if y = "at" then some v else none)
theorem brk_made (hP : PrgOk prog) (T : BrkTxt K C fI cc cda) {v : Value} {mg mb : Str → Option Value} (X : K.In h) (hlim : h.NoLimit) (hg : h.Ns mainGlobals mg) (hsup : mg "super" = none) (hb : h.Ns builtinsNs mb) (hbb : ∀ x : Str, x ≠ "__name__" → mb x = bootBuiltins x)
    (hroom : A.depth + 1 < recursionLimit) (hq : ∀ h' tk e dd, OwnMade h h' e C dd v → R (.ok (.ret (.ref e))) ⟨h', g, d, tk, os⟩) : codeAny (model prog w) A (.call (.ref C) ⟨[v], []⟩) R ⟨h, g, d, t, os⟩ := by
  obtain ⟨nm, N, qn, bs, bm, hdct, sn, sub, ab, col, dd, k0, k1, k2, k3, k5, hC, hT⟩ := excInit_of X T.exi
  have k : ∀ b o, h.get? b = some o → ((h.push (kdv_tup [v])).push (excO C h.objs.size)).get? b = some o := fun b o e => Heap.get?_push_of_some _ (Heap.get?_push_of_some _ e)
  have hget : ((h.push (kdv_tup [v])).push (excO C h.objs.size)).get? (h.objs.size + 1) = some (excO C h.objs.size) := by heap_get
  have hnx : K.lookup (h.objs.size + 1) = none := by
    cases e : K.lookup (h.objs.size + 1) with
    | none => rfl
    | some o => exact absurd (Nat.lt_of_succ_lt (Heap.lt_size (X _ _ e))) (Nat.lt_irrefl _)
  refine call_own F.excBase_ValueError hT hC (looks_findIn X T.iC) (fun self => bind_fn X self T.tI) (by show 1 ≤ sizeLine; decide) ?_
  refine brk_init hP T (X.keeps k) (hlim.keeps k) (hg.keeps k) hsup (hb.keeps k) hbb hget hnx ?_ fun h' tk' dx z => ?_
  · show A.depth + 1 < recursionLimit
    exact hroom
  · have old : ∀ b o, h.get? b = some o → h'.get? b = some o := fun b o e => z.keep b o (Nat.ne_of_lt (Nat.lt_succ_of_lt (Heap.lt_size e))) (k b o e)
    have big : h.objs.size ≤ dx := by
      have q := z.dbig
      rw [Heap.size_push, Heap.size_push] at q
      omega
    obtain ⟨t1, ho⟩ := z.obj
    exact ⟨rfl, hq h' tk' (h.objs.size + 1) dx ⟨old, Nat.le_succ _, ⟨_, _, ho, rfl, rfl, rfl, rfl⟩, big, z.dne, z.ns⟩⟩
end
end K62
namespace K62
open PySem PySem.Spec PyProof.Rows L2
theorem relO_at {v : V} {v' : Value} (r : RelV v v') (f : Str) : RelO (List.lookup f [(("at" : Str), v)]) (if f = "at" then some v' else none) := by
  by_cases hw : f = "at"
  · subst hw
    rw [if_pos rfl]
    have q : List.lookup ("at" : Str) [(("at" : Str), v)] = some v := by simp [List.lookup]
    rw [q]
    exact r
  · rw [if_neg hw]
    have qw : (f == ("at" : Str)) = false := by simpa using hw
    have q2 : List.lookup f [(("at" : Str), v)] = none := by simp [List.lookup, qw]
    rw [q2]
    trivial
section
variable {X : Cx} {C fI cc cda : Addr}
/-- Broken(e) -/
def tMkBrk (C : Addr) (ta : TA) : L2.St → Hp → XK → Prop := fun σ H Q => ta σ H fun vs H1 => ∃ v, vs = [v] ∧ ∀ d, H1 d = none → Q (.ref C) (some d) (upd H1 d (.xd [(("at" : Str), v)]))
theorem pmk_brk {a : Expr} {ta : TA} {p pos : Pos} {k : Nat} (hP : PrgOk X.prog) (T : BrkTxt X.K C fI cc cda) (gC : X.mg "Broken" = some (.ref C)) (gS : X.mg "super" = none) (hr : Room k X.A) (ha : PA X [a] ta) (hg : Gl X "Broken" := by rfl)
    (he : starEach (a :: []) X.env = (false, eval a X.env) :: starEach [] X.env := by rfl) (hpl : (backTo pos (starEach [] X.env)).any (·.1) = false := by rfl) : PMk X (.Call (.Name "Broken" p) [a] [] pos) (tMkBrk C ta) := by
  intro pins s σ H Q I h
  refine wpAny_Call_Name_kw (ld_glob I hg gC ?_)
  refine PySem.W.callWith_K (h₀ := X.base) I.ok.mod.kin T.kC (thn (ha.run pos pins s σ H _ I h) fun us s1 hh => ?_) he hpl
  obtain ⟨vs, H1, I1, r1, v, ev, q1⟩ := hh
  subst ev
  refine ⟨I1.kIn, ?_⟩
  cases r1 with
  | cons rv rn =>
    rename_i v' us'
    cases rn
    show wpAny _ _ (call (.ref C) [v']) _ _ _
    have hlim := I1.nolimit
    obtain ⟨mb, hb1, hb2⟩ := I1.ok.mod.blt
    have hG := I1.ok.mod.glob.keeps I1.bk
    have hB := hb1.keeps I1.bk
    obtain ⟨hp, g, dr, tk, os⟩ := s1
    refine wpAny_call (brk_made hP T I1.kIn hlim hG gS hB hb2 (by have := hr.dp; omega) fun h' tk' e d M => ?_)
    show MkP X pins σ Q (.ref e) ⟨h', g, dr, tk', os⟩
    obtain ⟨oe, fv, hoe, hc, hd, hdat, h1⟩ := M.obj
    have hns := M.ns
    obtain ⟨G', g1, g2⟩ := restrict h' fun b => decide (b ≠ e)
    have gk : ∀ b, b ≠ e → G'.get? b = h'.get? b := fun b hb => g1 b (decide_eq_true hb)
    have ge : G'.get? e = none := g2 e (by simp)
    have old : ∀ b o, hp.get? b = some o → G'.get? b = some o := fun b o q => (gk b (Nat.ne_of_lt (Nat.lt_of_lt_of_le (Heap.lt_size q) M.new))).trans (M.keep b o q)
    have ob : ObjOk X.prog X.w (upd H1 d (.xd [(("at" : Str), v)])) G' d (.xd [(("at" : Str), v)]) := ⟨_, hns.at (fun o q => (gk d M.dne).trans q), fun f => relO_at rv f⟩
    have J : Inv X pins σ (upd H1 d (.xd [(("at" : Str), v)])) ⟨G', g, dr, tk', os⟩ := I1.laid (t' := tk') old M.dbig ob
    refine ⟨e, oe, fv, ⟨G', g, dr, tk', os⟩, _, .ref C, some d, rfl, J, fun b o q => ?_, ge, hoe, ⟨hc, hd⟩, hdat, h1, ?_, rfl, I1.bare, raises_own T.exC T.tyC, q1 d (I1.hok.fresh M.dbig)⟩
    · by_cases hb : b = e
      · have q' : G'.get? b = some o := q
        rw [hb, ge] at q'
        cases q'
      · exact (gk b hb).symm.trans q
    · rw [upd_ne (Ne.symm M.dne)]
      exact I1.hok.fresh M.new
def tRaiseBrk (C : Addr) (W : WX) (ta : TA) : TS := fun _ σ H => tMkBrk C ta σ H fun cls d H' => W cls d σ H'
theorem ps_raiseBrk {a : Expr} {ta : TA} {W : WX} {p pos pos2 : Pos} {k : Nat} (hc : X.calm = true) (hP : PrgOk X.prog) (T : BrkTxt X.K C fI cc cda) (gC : X.mg "Broken" = some (.ref C)) (gS : X.mg "super" = none) (hr : Room k X.A) (tk : Takes X W) (ha : PA X [a] ta) (hg : Gl X "Broken" := by rfl)
    (he : starEach (a :: []) X.env = (false, eval a X.env) :: starEach [] X.env := by rfl) (hpl : (backTo pos (starEach [] X.env)).any (·.1) = false := by rfl) :
    PS X (.Raise (some (.Call (.Name "Broken" p) [a] [] pos)) none pos2) (tRaiseBrk C W ta) := ps_raise hc tk (pmk_brk hP T gC gS hr ha hg he hpl)
end
end K62

set_option Elab.async false
set_option linter.all false
set_option maxRecDepth 100000
set_option maxHeartbeats 4000000
/-! K62W: words.py's defs. -/
namespace K62
open PySem PySem.Spec PyProof.Rows L2
/-! ### sequences and their types -/
def kdT : Kd → String
  | .l => "list"
  | .t => "tuple"
theorem sq_ty {K : PySem.W.Frag} {H : Hp} {k : Kd} {a : Addr} {xs : List V} (h : Sq K H k a xs) : TyX K H (.ref a) (.type (kdT k)) := by
  cases k with
  | l =>
    rcases (show SqL K H a xs from h) with (e | ⟨o, e⟩) | ⟨o, its, n, e, c, _⟩
    · exact .base (.lst e)
    · exact .base (.frz e)
    · exact .kList e c
  | t =>
    rcases (show SqT K H a xs from h) with (e | ⟨o, e⟩) | ⟨o, its, n, e, c, _⟩
    · exact .base (.tup e)
    · exact .fTuple e
    · exact .kTuple e c
/-! ### promises -/
def spIsInt : Sp := fun vs H Q _ => ∃ i : Int, vs = [.int i] ∧ Q (.bl true) H
def spIsNum : Sp := fun vs H Q _ => ∃ i : Int, vs = [.int i] ∧ Q (.bl (decide (0 ≤ i))) H
def spBelow : Sp := fun vs H Q _ => ∃ i m : Int, vs = [.int i, .int m] ∧ Q (.bl (decide (0 ≤ i ∧ i < m))) H
def spIsPos : Sp := fun vs H Q _ => ∃ i : Int, vs = [.int i] ∧ Q (.bl (decide (1 ≤ i))) H
def spIsSeq (K : PySem.W.Frag) : Sp := fun vs H Q _ => ∃ (k : Kd) (a : Addr) (xs : List V), vs = [.ref a] ∧ Sq K H k a xs ∧ ∀ H', Same H H' → Q (.bl true) H'
def spIsStr : Sp := fun vs H Q _ => ∃ z : Str, vs = [.str z] ∧ Q (.bl true) H
def spIsHands : Sp := fun vs H Q _ => ∃ i : Int, vs = [.int i] ∧ Q (.bl (decide (1 ≤ i ∧ i ≤ 4))) H
def spNeedOct (K : PySem.W.Frag) : Sp := fun vs H Q _ => ∃ (k : Kd) (a : Addr) (l : List Int), vs = [.ref a] ∧ Sq K H k a (l.map V.int) ∧ (∀ i ∈ l, 0 ≤ i ∧ i < 256) ∧ ∀ b H', Same H H' → SqT K H' b (l.map V.int) → Q (.ref b) H'
section
variable {P : Program} {w : World} {K : PySem.W.Frag} {mg : Str → Option Value} {base : Heap}
theorem sc_is_integer : FnScope ["value"] ["value"] (defScope s_is_integer) := ⟨rfl, rfl, rfl, by decide +kernel, rfl, by decide +kernel, by decide +kernel⟩
theorem ok_is_integer (T : Txt K mg w) : DefOk P w K mg base CX0 1 (He.ga K "is_integer") ["value"] spIsInt := by
  obtain ⟨fd, F⟩ := T.f_is_integer
  refine ⟨fd, F.ok sc_is_integer (fun vs H Q E h => ?_) (fun cdv A outer s H vs Q E hr h => ?_), F.bindsN fun _ _ _ _ _ _ us hl => match us, hl with | [_], _ => rfl, F.kp⟩
  · obtain ⟨i, rfl, _⟩ := h
    rfl
  · obtain ⟨i, rfl, q⟩ := h
    refine ⟨_, PSs.nox (pss_one (ps_ret (pe_and (pe_callB call_isi (by rfl) T.b_isinstance (by decide +kernel) (pa_cons (pv 0) (pa_cons (pe_bltn (v := .ty "int") (by rfl) T.b_int (by decide +kernel) rfl) pa_nil)))
      (pe_one (pe_not (pe_callB call_isi (by rfl) T.b_isinstance (by decide +kernel) (pa_cons (pv 0) (pa_cons (pe_bltn (v := .ty "bool") (by rfl) T.b_bool (by decide +kernel) rfl) pa_nil)))))))), ?_⟩
    refine ⟨_, rfl, .int i, .ty "int", .type "int", .type "int", true, rfl, .ty _, .base (.int i), kit_ty (by decide +kernel), true, rfl, iteT ?_⟩
    exact ⟨_, rfl, .int i, .ty "bool", .type "int", .type "bool", false, rfl, .ty _, .base (.int i), kit_ty (by decide +kernel), false, rfl, q⟩
theorem sc_is_number : FnScope ["value"] ["value"] (defScope s_is_number) := ⟨rfl, rfl, rfl, by decide +kernel, rfl, by decide +kernel, by decide +kernel⟩
theorem ok_is_number (T : Txt K mg w) : DefOk P w K mg base CX0 2 (He.ga K "is_number") ["value"] spIsNum := by
  obtain ⟨fd, F⟩ := T.f_is_number
  refine ⟨fd, F.ok sc_is_number (fun vs H Q E h => ?_) (fun cdv A outer s H vs Q E hr h => ?_), F.bindsN fun _ _ _ _ _ _ us hl => match us, hl with | [_], _ => rfl, F.kp⟩
  · obtain ⟨i, rfl, _⟩ := h
    rfl
  · obtain ⟨i, rfl, q⟩ := h
    refine ⟨_, PSs.nox (pss_one (ps_ret (pe_and (pe_d (ok_is_integer T) hr (by rfl) T.g_is_integer pass0 (pa_cons (pv 0) pa_nil)) (pe_one (pe_cmpR op_ge (pv 0) pe_int (nomark _)))))), ?_⟩
    exact ⟨_, rfl, i, rfl, true, rfl, iteT ⟨_, rfl, i, 0, rfl, rfl, q⟩⟩
theorem sc_is_below : FnScope ["value", "most"] ["value", "most"] (defScope s_is_below) := ⟨rfl, rfl, rfl, by decide +kernel, rfl, by decide +kernel, by decide +kernel⟩
theorem ok_is_below (T : Txt K mg w) : DefOk P w K mg base CX0 3 (He.ga K "is_below") ["value", "most"] spBelow := by
  obtain ⟨fd, F⟩ := T.f_is_below
  refine ⟨fd, F.ok sc_is_below (fun vs H Q E h => ?_) (fun cdv A outer s H vs Q E hr h => ?_), F.bindsN fun _ _ _ _ _ _ us hl => match us, hl with | [_, _], _ => rfl, F.kp⟩
  · obtain ⟨i, m, rfl, _⟩ := h
    rfl
  · obtain ⟨i, m, rfl, q⟩ := h
    refine ⟨_, PSs.nox (pss_one (ps_ret (pe_and (pe_d (ok_is_number T) hr (by rfl) T.g_is_number pass0 (pa_cons (pv 0) pa_nil)) (pe_one (pe_cmpR op_lt (pv 0) (pv 1) (nomark _)))))), ?_⟩
    refine ⟨_, rfl, i, rfl, _, rfl, ?_⟩
    by_cases c : 0 ≤ i
    · rw [decide_eq_true c]
      refine iteT ⟨_, rfl, _, rfl, i, m, rfl, rfl, ?_⟩
      have e : decide (0 ≤ i ∧ i < m) = decide (i < m) := by simp [c]
      rw [e] at q
      exact q
    · rw [decide_eq_false c]
      have e : decide (0 ≤ i ∧ i < m) = false := by simp [c]
      rw [e] at q
      exact iteF q
theorem sc_is_positive : FnScope ["value"] ["value"] (defScope s_is_positive) := ⟨rfl, rfl, rfl, by decide +kernel, rfl, by decide +kernel, by decide +kernel⟩
theorem ok_is_positive (T : Txt K mg w) : DefOk P w K mg base CX0 2 (He.ga K "is_positive") ["value"] spIsPos := by
  obtain ⟨fd, F⟩ := T.f_is_positive
  refine ⟨fd, F.ok sc_is_positive (fun vs H Q E h => ?_) (fun cdv A outer s H vs Q E hr h => ?_), F.bindsN fun _ _ _ _ _ _ us hl => match us, hl with | [_], _ => rfl, F.kp⟩
  · obtain ⟨i, rfl, _⟩ := h
    rfl
  · obtain ⟨i, rfl, q⟩ := h
    refine ⟨_, PSs.nox (pss_one (ps_ret (pe_and (pe_d (ok_is_integer T) hr (by rfl) T.g_is_integer pass0 (pa_cons (pv 0) pa_nil)) (pe_one (pe_cmpR op_ge (pv 0) pe_int (nomark _)))))), ?_⟩
    exact ⟨_, rfl, i, rfl, true, rfl, iteT ⟨_, rfl, i, 1, rfl, rfl, q⟩⟩
theorem sc_is_sequence : FnScope ["value"] ["value"] (defScope s_is_sequence) := ⟨rfl, rfl, rfl, by decide +kernel, rfl, by decide +kernel, by decide +kernel⟩
theorem kit_seq (k : Kd) : PySem.W.kitAny K (.type (kdT k)) [.type "list", .type "tuple"] = some true := by
  have a1 : PySem.W.kitOne K (.type "list") (.type "list") = some true := kit_ty (by decide +kernel)
  have a2 : PySem.W.kitOne K (.type "tuple") (.type "list") = some false := kit_ty (by decide +kernel)
  have a3 : PySem.W.kitOne K (.type "tuple") (.type "tuple") = some true := kit_ty (by decide +kernel)
  cases k with
  | l => simp [PySem.W.kitAny, kdT, a1]
  | t => simp [PySem.W.kitAny, kdT, a2, a3]
theorem ok_is_sequence (T : Txt K mg w) : DefOk P w K mg base CX0 1 (He.ga K "is_sequence") ["value"] (spIsSeq K) := by
  obtain ⟨fd, F⟩ := T.f_is_sequence
  refine ⟨fd, F.ok sc_is_sequence (fun vs H Q E h => ?_) (fun cdv A outer s H vs Q E hr h => ?_), F.bindsN fun _ _ _ _ _ _ us hl => match us, hl with | [_], _ => rfl, F.kp⟩
  · obtain ⟨k, a, xs, rfl, _⟩ := h
    rfl
  · obtain ⟨k, a, xs, rfl, hs, q⟩ := h
    refine ⟨_, PSs.nox (pss_one (ps_ret (pe_callB call_isiT (by rfl) T.b_isinstance (by decide +kernel) (pa_cons (pv 0) (pa_cons (pe_tup (pa_cons (pe_bltn (v := .ty "list") (by rfl) T.b_list (by decide +kernel) rfl) (pa_cons (pe_bltn (v := .ty "tuple") (by rfl) T.b_tuple (by decide +kernel) rfl) pa_nil))) pa_nil))))), ?_⟩
    refine ⟨_, rfl, by show 2 ≤ sizeLine; decide, fun p hp => ?_⟩
    have s := same_upd (o := .tup [.ty "list", .ty "tuple"]) hp
    exact ⟨.ref a, p, _, .type (kdT k), [.type "list", .type "tuple"], true, rfl, upd_same, .cons (.ty _) (.cons (.ty _) .nil), sq_ty (hs.same s), kit_seq k, q _ s⟩
theorem sc_is_string : FnScope ["value"] ["value"] (defScope s_is_string) := ⟨rfl, rfl, rfl, by decide +kernel, rfl, by decide +kernel, by decide +kernel⟩
theorem ok_is_string (T : Txt K mg w) : DefOk P w K mg base CX0 1 (He.ga K "is_string") ["value"] spIsStr := by
  obtain ⟨fd, F⟩ := T.f_is_string
  refine ⟨fd, F.ok sc_is_string (fun vs H Q E h => ?_) (fun cdv A outer s H vs Q E hr h => ?_), F.bindsN fun _ _ _ _ _ _ us hl => match us, hl with | [_], _ => rfl, F.kp⟩
  · obtain ⟨z, rfl, _⟩ := h
    rfl
  · obtain ⟨z, rfl, q⟩ := h
    refine ⟨_, PSs.nox (pss_one (ps_ret (pe_callB call_isi (by rfl) T.b_isinstance (by decide +kernel) (pa_cons (pv 0) (pa_cons (pe_bltn (v := .ty "str") (by rfl) T.b_str (by decide +kernel) rfl) pa_nil))))), ?_⟩
    exact ⟨_, rfl, .str z, .ty "str", .type "str", .type "str", true, rfl, .ty _, .base (.str z), kit_ty (by decide +kernel), q⟩
theorem sc_is_hands : FnScope ["value"] ["value"] (defScope s_is_hands) := ⟨rfl, rfl, rfl, by decide +kernel, rfl, by decide +kernel, by decide +kernel⟩
theorem ok_is_hands (T : Txt K mg w) : DefOk P w K mg base CX0 3 (He.ga K "is_hands") ["value"] spIsHands := by
  obtain ⟨fd, F⟩ := T.f_is_hands
  obtain ⟨t4, g4⟩ := T.i_MOST_HANDS
  refine ⟨fd, F.ok sc_is_hands (fun vs H Q E h => ?_) (fun cdv A outer s H vs Q E hr h => ?_), F.bindsN fun _ _ _ _ _ _ us hl => match us, hl with | [_], _ => rfl, F.kp⟩
  · obtain ⟨i, rfl, _⟩ := h
    rfl
  · obtain ⟨i, rfl, q⟩ := h
    refine ⟨_, PSs.nox (pss_one (ps_ret (pe_and (pe_d (ok_is_positive T) hr (by rfl) T.g_is_positive pass0 (pa_cons (pv 0) pa_nil)) (pe_one (pe_cmpR op_le (pv 0) (pe_glob (v := .int 4) (by rfl) g4 ⟨_, rfl⟩) (nomark _)))))), ?_⟩
    refine ⟨_, rfl, i, rfl, _, rfl, ?_⟩
    by_cases c : 1 ≤ i
    · rw [decide_eq_true c]
      refine iteT ⟨_, rfl, i, 4, rfl, rfl, ?_⟩
      have e : decide (1 ≤ i ∧ i ≤ 4) = decide (i ≤ 4) := by simp [c]
      rw [e] at q
      exact q
    · rw [decide_eq_false c]
      have e : decide (1 ≤ i ∧ i ≤ 4) = false := by simp [c]
      rw [e] at q
      exact iteF q
theorem sc_need_octets : FnScope ["value", "at", "octet"] ["value"] (defScope s_need_octets) := ⟨rfl, rfl, rfl, by decide +kernel, rfl, by decide +kernel, by decide +kernel⟩
theorem ok_need_octets (T : Txt K mg w) : DefOk P w K mg base CX0 4 (He.ga K "need_octets") ["value"] (spNeedOct K) := by
  obtain ⟨fd, F⟩ := T.f_need_octets
  obtain ⟨t4, g4⟩ := T.i_MOST_OCTET
  refine ⟨fd, F.ok sc_need_octets (fun vs H Q E h => ?_) (fun cdv A outer s H vs Q E hr h => ?_), F.bindsN fun _ _ _ _ _ _ us hl => match us, hl with | [_], _ => rfl, F.kp⟩
  · obtain ⟨k, a, l, rfl, _⟩ := h
    rfl
  · obtain ⟨k, a, l, rfl, hs, hl, q⟩ := h
    refine ⟨_, PSs.nox (pss_cons (ps_if (pt_not (pt_val (pe_d (ok_is_sequence T) (hr.mono (by decide)) (by rfl) T.g_is_sequence pass0 (pa_cons (pv 0) pa_nil)))) (pss_one ps_never) pss_nil)
      (pss_cons (ps_for PassesOwn.never rfl (pi_enumA (by rfl) T.b_enumerate (pa_cons (pv 0) pa_nil)) (pg_tup rfl (pgs_cons (pg_name (i := 1) sc_need_octets.nd rfl (.inl rfl)) (pgs_cons (pg_name (i := 2) sc_need_octets.nd rfl (.inl rfl)) pgs_nil)))
        (pss_one (ps_if (pt_not (pt_val (pe_d (ok_is_below T) hr (by rfl) T.g_is_below pass0 (pa_cons (pv 2) (pa_cons (pe_glob (v := .int 256) (by rfl) g4 ⟨_, rfl⟩) pa_nil))))) (pss_one ps_never) pss_nil)))
      (pss_one (ps_ret (pe_callTy call_tuple_of (by rfl) T.b_tuple (by decide +kernel) (pa_cons (pv 0) pa_nil)))))), ?_⟩
    refine ⟨_, rfl, k, a, _, rfl, hs, fun H1 s1 => ⟨true, rfl, iteF ?_⟩⟩
    refine ⟨_, rfl, k, a, _, rfl, hs.same s1, fun J wk => for_it wk (fun i σ H2 => ∃ v1 v2 : Option V, σ = [some (.ref a), v1, v2] ∧ Same H H2) ⟨_, _, rfl, s1⟩ (fun i σ H2 _ ⟨_, _, _, s2⟩ => hs.same s2) ?_ ?_⟩
    · rintro i x σ H2 H3 hi ⟨v1, v2, rfl, s2⟩ ⟨t, x1, x2, rfl, hn, rfl, e1, e2⟩
      obtain rfl := Option.some.inj e1
      have s3 : Same H (upd H2 t (.tup [.int (i : Nat), x2])) := s2.trans (same_upd hn)
      have e2 : (l.map V.int)[i]? = some x2 := e2
      rw [List.getElem?_map] at e2
      cases e3 : l[i]? with
      | none => rw [e3] at e2; cases e2
      | some n =>
        rw [e3] at e2
        obtain rfl := Option.some.inj e2
        have hn' := hl n (List.mem_of_getElem? e3)
        refine ⟨t, _, rfl, SqT.of upd_same, rfl, _, _, rfl, _, _, rfl, rfl, ?_⟩
        refine ⟨_, rfl, n, 256, rfl, _, rfl, ?_⟩
        rw [decide_eq_true hn']
        exact iteF ⟨_, _, rfl, s3⟩
    · rintro σ H2 ⟨v1, v2, rfl, s2⟩
      refine ⟨_, rfl, a, l.map V.int, rfl, ?_⟩
      cases k with
      | l => exact .inl ⟨hs.same s2, fun p hp => q p _ (s2.trans (same_upd hp)) (SqT.of upd_same)⟩
      | t => exact .inr ⟨hs.same s2, q a H2 s2 (hs.same s2)⟩
end
end K62

set_option Elab.async false
set_option linter.all false
set_option maxRecDepth 100000
set_option maxHeartbeats 4000000
/-! K62F: forms.py's defs without exceptions. (printed by gen_forms.py) -/
namespace K62
open PySem PySem.Spec PyProof.Rows L2
theorem len_sq {K : PySem.W.Frag} {H : Hp} {k : Kd} {a : Addr} {xs : List V} (h : Sq K H k a xs) : LenV K (.ref a) H xs.length := by
  cases k with
  | l => exact .inl ⟨xs, h, rfl⟩
  | t => exact .inr ⟨xs, h, rfl⟩
theorem ix_sq {K : PySem.W.Frag} {H : Hp} {k : Kd} {a : Addr} {xs : List V} {i : Int} {v : V} {Q : VK} (h : Sq K H k a xs) (e : atI xs i = some v) (q : Q v H) : rIx K (.ref a) (.int i) H Q := by
  cases k with
  | l => exact .inl ⟨a, xs, i, v, rfl, rfl, h, e, q⟩
  | t => exact .inr (.inl ⟨a, xs, i, v, rfl, rfl, h, e, q⟩)
theorem ix_t {K : PySem.W.Frag} {H : Hp} {a : Addr} {xs : List V} {i : Int} {v : V} {Q : VK} (h : SqT K H a xs) (e : atI xs i = some v) (q : Q v H) : rIx K (.ref a) (.int i) H Q := .inr (.inl ⟨a, xs, i, v, rfl, rfl, h, e, q⟩)
theorem ix_l {K : PySem.W.Frag} {H : Hp} {a : Addr} {xs : List V} {i : Int} {v : V} {Q : VK} (h : SqL K H a xs) (e : atI xs i = some v) (q : Q v H) : rIx K (.ref a) (.int i) H Q := .inl ⟨a, xs, i, v, rfl, rfl, h, e, q⟩
theorem vint_ne {i j : Int} (h : i ≠ j) : decide (V.int i = V.int j) = false := decide_eq_false fun z => h (V.int.inj z)
theorem vint_eq {i j : Int} (h : i = j) : decide (V.int i = V.int j) = true := decide_eq_true (by rw [h])
theorem dt {c : Prop} [Decidable c] {A B : Prop} (hc : c) (h : A) : if decide c = true then A else B := by
  rw [decide_eq_true hc]
  exact iteT h
theorem df {c : Prop} [Decidable c] {A B : Prop} (hc : ¬ c) (h : B) : if decide c = true then A else B := by
  rw [decide_eq_false hc]
  exact iteF h
/-- i // j, in place -/
theorem ip_fdiv {X : Cx} : PIp X .FloorDiv (fun x y H Q => ∃ i j, x = .int i ∧ y = .int j ∧ CDiv i j ∧ Q (.int (i / j)) H) := by
  intro pins s σ H x y v u Q I r1 r2 h
  obtain ⟨i, j, e1, e2, hc, q⟩ := h
  subst e1; subst e2
  obtain ⟨t, rfl⟩ := r1
  obtain ⟨t', rfl⟩ := r2
  have h1 : (0 : Int) < j := hc.1
  have h2 : j < 1073741824 := hc.2
  exact ifloordiv_int (by omega) (by rw [Int.fdiv_eq_ediv_of_nonneg i (by omega)]; exact ⟨.int _, H, I.tok _, ⟨_, rfl⟩, q⟩) (.inl (PyProof.noPylong_small (by omega)))
theorem sl2 : 2 ≤ sizeLine := by decide
theorem szl {n : Nat} (h : n ≤ 16777216) : n ≤ sizeLine := by rw [sizeLine_eq]; exact h
def spIsPress (K : PySem.W.Frag) : Sp := fun vs H Q _ => ∃ (k : Kd) (a : Addr) (p : Pr), vs = [.ref a] ∧ Sq K H k a (vPr p) ∧ p.ok ∧ ∀ H', Same H H' → Q (.bl true) H'
def spCheckPress (K : PySem.W.Frag) : Sp := fun vs H Q _ => ∃ (k : Kd) (a : Addr) (p : Pr), vs = [.ref a] ∧ Sq K H k a (vPr p) ∧ p.ok ∧ ∀ b H', Same H H' → SqT K H' b (vPr p) → Q (.ref b) H'
def spPressOct (K : PySem.W.Frag) : Sp := fun vs H Q _ => ∃ (k : Kd) (a : Addr) (p : Pr), vs = [.ref a] ∧ Sq K H k a (vPr p) ∧ p.ok ∧ ∀ b H', Same H H' → SqT K H' b (p.enc.map V.int) → Q (.ref b) H'
def spNumOct (K : PySem.W.Frag) : Sp := fun vs H Q _ => ∃ n : Int, vs = [.int n, .int 2] ∧ 0 ≤ n ∧ n < 65536 ∧ ∀ b H', Same H H' → SqT K H' b [.int (n / 256), .int (n % 256)] → Q (.ref b) H'
section
variable {P : Program} {w : World} {K : PySem.W.Frag} {mg : Str → Option Value} {base : Heap}

theorem sc_is_press : FnScope ["value"] ["value"] (defScope s_is_press) := ⟨rfl, rfl, rfl, by decide +kernel, rfl, by decide +kernel, by decide +kernel⟩
theorem ok_is_press (T : Txt K mg w) : DefOk P w K mg base CX0 4 (He.ga K "is_press") ["value"] (spIsPress K) := by
  obtain ⟨fd, F⟩ := T.f_is_press
  obtain ⟨t1, g1⟩ := T.i_MOST_HANDS
  obtain ⟨t2, g2⟩ := T.i_MOST_DEEDS
  obtain ⟨t3, g3⟩ := T.t_BACK
  obtain ⟨es, n, D⟩ := T.parts
  refine ⟨fd, F.ok sc_is_press (fun vs H Q E h => ?_) (fun cdv A outer s H vs Q E hr h => ?_), F.bindsN fun _ _ _ _ _ _ us hl => match us, hl with | [_], _ => rfl, F.kp⟩
  · obtain ⟨k, a, p, rfl, hs, hp, q⟩ := h
    rfl
  · obtain ⟨k, a, p, rfl, hs, hp, q⟩ := h
    refine ⟨_, PSs.nox (pss_cons (ps_if (PW.pt (pw_or (pt_not (pt_val (pe_d (ok_is_sequence T) (hr.mono (by decide)) (by rfl) T.g_is_sequence pass0 (pa_cons (pv 0) pa_nil)))) (pw_or (pt_cmpR op_eq (pe_callB call_len (by rfl) T.b_len (by decide +kernel) (pa_cons (pv 0) pa_nil)) pe_int (nomark _)) (pw_or (pt_not (pt_val (pe_d (ok_is_string T) (hr.mono (by decide)) (by rfl) T.g_is_string pass0 (pa_cons (pe_ix ix_seq (pv 0) pe_int (fun _ _ => rfl)) pa_nil)))) (pw_or1 (pt_cmpR (op_notIn_kd D) (pe_ix ix_seq (pv 0) pe_int (fun _ _ => rfl)) (pe_glob (v := .ref (He.ga K "PARTS")) (by rfl) T.g_PARTS rfl) (by rfl))))))) (pss_one ps_never) pss_nil) (pss_cons (ps_if (PW.pt (pw_or (pt_cmpR op_ne (pe_callB call_len (by rfl) T.b_len (by decide +kernel) (pa_cons (pv 0) pa_nil)) (pe_ix ix_kdict (pe_glob (v := .ref (He.ga K "PARTS")) (by rfl) T.g_PARTS rfl) (pe_ix ix_seq (pv 0) pe_int (fun _ _ => rfl)) (fun _ _ => rfl)) (nomark _)) (pw_or1 (pt_not (pt_val (pe_d (ok_is_below T) (hr.mono (by decide)) (by rfl) T.g_is_below pass0 (pa_cons (pe_ix ix_seq (pv 0) pe_int (fun _ _ => rfl)) (pa_cons (pe_glob (v := .int 4) (by rfl) g1 ⟨_, rfl⟩) pa_nil)))))))) (pss_one ps_never) pss_nil) (pss_one (ps_ret (pe_or (pe_cmpR op_eq (pe_ix ix_seq (pv 0) pe_int (fun _ _ => rfl)) (pe_glob (v := .str "back") (by rfl) g3 ⟨_, rfl⟩) (nomark _)) (pe_one (pe_d (ok_is_below T) (hr.mono (by decide)) (by rfl) T.g_is_below pass0 (pa_cons (pe_ix ix_seq (pv 0) pe_int (fun _ _ => rfl)) (pa_cons (pe_glob (v := .int 6) (by rfl) g2 ⟨_, rfl⟩) pa_nil))))))))), ?_⟩
    cases p with
    | back x =>
      have hp' : 0 ≤ x ∧ x < 4 := hp
      obtain ⟨u, e, r⟩ := T.p_back
      refine ⟨_, rfl, k, a, _, rfl, hs, fun H1 s1 => ⟨true, rfl, iteF ?_⟩⟩
      have hs1 := hs.same s1
      refine ⟨_, rfl, .ref a, 2, rfl, len_sq hs1, rfl, _, rfl, df (fun z => by cases z) ?_⟩
      refine ⟨_, rfl, ix_sq hs1 rfl ⟨_, rfl, true, rfl, iteF ?_⟩⟩
      refine ⟨_, rfl, ix_sq hs1 rfl ⟨_, some u, rfl, rfl, e, _, rfl, iteF ?_⟩⟩
      refine ⟨_, rfl, .ref a, 2, rfl, len_sq hs1, _, rfl, ix_sq hs1 rfl ⟨_, _, _, rfl, rfl, ⟨es, n, u, D.at_, D.lit, e, r⟩, rfl, _, rfl, iteF ?_⟩⟩
      refine ⟨_, rfl, ix_sq hs1 rfl ⟨_, 4, rfl, _, rfl, ?_⟩⟩
      rw [decide_eq_true hp']
      refine iteF ?_
      refine ⟨_, rfl, ix_sq hs1 rfl ⟨rfl, ?_⟩⟩
      exact ⟨_, rfl, iteT (q H1 s1)⟩
    | deed x y =>
      have hp' : (0 ≤ x ∧ x < 4) ∧ 0 ≤ y ∧ y < 6 := hp
      obtain ⟨u, e, r⟩ := T.p_deed
      refine ⟨_, rfl, k, a, _, rfl, hs, fun H1 s1 => ⟨true, rfl, iteF ?_⟩⟩
      have hs1 := hs.same s1
      refine ⟨_, rfl, .ref a, 3, rfl, len_sq hs1, rfl, _, rfl, df (fun z => by cases z) ?_⟩
      refine ⟨_, rfl, ix_sq hs1 rfl ⟨_, rfl, true, rfl, iteF ?_⟩⟩
      refine ⟨_, rfl, ix_sq hs1 rfl ⟨_, some u, rfl, rfl, e, _, rfl, iteF ?_⟩⟩
      refine ⟨_, rfl, .ref a, 3, rfl, len_sq hs1, _, rfl, ix_sq hs1 rfl ⟨_, _, _, rfl, rfl, ⟨es, n, u, D.at_, D.lit, e, r⟩, rfl, _, rfl, iteF ?_⟩⟩
      refine ⟨_, rfl, ix_sq hs1 rfl ⟨_, 4, rfl, _, rfl, ?_⟩⟩
      rw [decide_eq_true hp'.1]
      refine iteF ?_
      refine ⟨_, rfl, ix_sq hs1 rfl ⟨rfl, ?_⟩⟩
      refine ⟨_, rfl, iteF ?_⟩
      refine ⟨_, rfl, ix_sq hs1 rfl ⟨y, 6, rfl, ?_⟩⟩
      rw [decide_eq_true hp'.2]
      exact q H1 s1
theorem sc_check_press : FnScope ["value"] ["value"] (defScope s_check_press) := ⟨rfl, rfl, rfl, by decide +kernel, rfl, by decide +kernel, by decide +kernel⟩
theorem ok_check_press (T : Txt K mg w) : DefOk P w K mg base CX0 5 (He.ga K "check_press") ["value"] (spCheckPress K) := by
  obtain ⟨fd, F⟩ := T.f_check_press
  refine ⟨fd, F.ok sc_check_press (fun vs H Q E h => ?_) (fun cdv A outer s H vs Q E hr h => ?_), F.bindsN fun _ _ _ _ _ _ us hl => match us, hl with | [_], _ => rfl, F.kp⟩
  · obtain ⟨k, a, p, rfl, hs, hp, q⟩ := h
    rfl
  · obtain ⟨k, a, p, rfl, hs, hp, q⟩ := h
    refine ⟨_, PSs.nox (pss_cons (ps_if (pt_not (pt_val (pe_d (ok_is_press T) (hr.mono (by decide)) (by rfl) T.g_is_press pass0 (pa_cons (pv 0) pa_nil)))) (pss_one ps_never) pss_nil) (pss_one (ps_ret (pe_callTy call_tuple_of (by rfl) T.b_tuple (by decide +kernel) (pa_cons (pv 0) pa_nil))))), ?_⟩
    refine ⟨_, rfl, k, a, p, rfl, hs, hp, fun H1 s1 => ⟨true, rfl, iteF ?_⟩⟩
    refine ⟨_, rfl, a, vPr p, rfl, ?_⟩
    cases k with
    | l => exact .inl ⟨hs.same s1, fun b hb => q b _ (s1.trans (same_upd hb)) (SqT.of upd_same)⟩
    | t => exact .inr ⟨hs.same s1, q a H1 s1 (hs.same s1)⟩
theorem sc_press_octets : FnScope ["press", "told"] ["press"] (defScope s_press_octets) := ⟨rfl, rfl, rfl, by decide +kernel, rfl, by decide +kernel, by decide +kernel⟩
theorem ok_press_octets (T : Txt K mg w) : DefOk P w K mg base CX0 6 (He.ga K "press_octets") ["press"] (spPressOct K) := by
  obtain ⟨fd, F⟩ := T.f_press_octets
  refine ⟨fd, F.ok sc_press_octets (fun vs H Q E h => ?_) (fun cdv A outer s H vs Q E hr h => ?_), F.bindsN fun _ _ _ _ _ _ us hl => match us, hl with | [_], _ => rfl, F.kp⟩
  · obtain ⟨k, a, p, rfl, hs, hp, q⟩ := h
    rfl
  · obtain ⟨k, a, p, rfl, hs, hp, q⟩ := h
    refine ⟨_, PSs.nox (pss_cons (ps_set (i := 1) sc_press_octets.nd rfl (.inl rfl) (pe_d (ok_check_press T) (hr.mono (by decide)) (by rfl) T.g_check_press pass0 (pa_cons (pv 0) pa_nil))) (pss_one (ps_ret (pe_op op_catA (pe_tup (pa_cons (pe_bm PySem.F.plainAttrs_tuple PySem.F.slot_tuple_index PySem.F.type_tuple_index mt_tup_index (pe_glob (v := .ref (He.ga K "KINDS")) (by rfl) T.g_KINDS rfl) (pa_cons (pe_ix ix_seq (pv 1) pe_int (fun _ _ => rfl)) pa_nil)) pa_nil)) (pe_slice sl_tupA (pv 1) (po_some pe_int) po_none))))), ?_⟩
    refine ⟨_, rfl, k, a, p, rfl, hs, hp, fun b H1 s1 h1 => ?_⟩
    have sl1 : 1 ≤ sizeLine := szl (by decide)
    cases p with
    | back x =>
      refine ⟨.inr (.inl ⟨rfl, T.kindsD⟩), _, rfl, ix_t h1 rfl ⟨_, ["back", "deed"], "back", 0, rfl, rfl, T.kinds _, rfl, fun m hm => absurd hm (Nat.not_lt_zero _), sl1, fun c hc => ?_⟩⟩
      refine ⟨_, rfl, 1, rfl, ?_⟩
      have s2 := s1.trans (same_upd (o := .tup [.int (0 : Nat)]) hc)
      refine ⟨b, _, rfl, sqT_same (same_upd hc) h1, fun z => absurd z.1 (show ¬ (1 : Nat) = 0 from by decide), fun _ d hd => ?_⟩
      have s3 := s2.trans (same_upd (o := .tup [.int x]) hd)
      exact ⟨c, d, _, _, rfl, rfl, sqT_same (same_upd hd) (SqT.of upd_same), SqT.of upd_same, szl (show 2 ≤ 16777216 by decide), fun z => (by cases z), fun _ z => (by cases z), fun _ _ f hf => q f _ (s3.trans (same_upd hf)) (SqT.of upd_same)⟩
    | deed x y =>
      refine ⟨.inr (.inl ⟨rfl, T.kindsD⟩), _, rfl, ix_t h1 rfl ⟨_, ["back", "deed"], "deed", 1, rfl, rfl, T.kinds _, rfl, fun m hm => by (obtain rfl : m = 0 := by omega); decide, sl1, fun c hc => ?_⟩⟩
      refine ⟨_, rfl, 1, rfl, ?_⟩
      have s2 := s1.trans (same_upd (o := .tup [.int (1 : Nat)]) hc)
      refine ⟨b, _, rfl, sqT_same (same_upd hc) h1, fun z => absurd z.1 (show ¬ (1 : Nat) = 0 from by decide), fun _ d hd => ?_⟩
      have s3 := s2.trans (same_upd (o := .tup [.int x, .int y]) hd)
      exact ⟨c, d, _, _, rfl, rfl, sqT_same (same_upd hd) (SqT.of upd_same), SqT.of upd_same, szl (show 3 ≤ 16777216 by decide), fun z => (by cases z), fun _ z => (by cases z), fun _ _ f hf => q f _ (s3.trans (same_upd hf)) (SqT.of upd_same)⟩

theorem sc_number_octets : FnScope ["number", "many", "found", "turn"] ["number", "many"] (defScope s_number_octets) := ⟨rfl, rfl, rfl, by decide +kernel, rfl, by decide +kernel, by decide +kernel⟩
theorem ok_number_octets (T : Txt K mg w) : DefOk P w K mg base CX0 1 (He.ga K "number_octets") ["number", "many"] (spNumOct K) := by
  obtain ⟨fd, F⟩ := T.f_number_octets
  obtain ⟨t1, g1⟩ := T.i_MOST_OCTET
  refine ⟨fd, F.ok sc_number_octets (fun vs H Q E h => ?_) (fun cdv A outer s H vs Q E hr h => ?_), F.bindsN fun _ _ _ _ _ _ us hl => match us, hl with | [_, _], _ => rfl, F.kp⟩
  · obtain ⟨n, rfl, h0, h1, q⟩ := h
    rfl
  · obtain ⟨n, rfl, h0, h1, q⟩ := h
    refine ⟨_, PSs.nox (pss_cons (ps_set (i := 2) sc_number_octets.nd rfl (.inl rfl) (pe_lst pa_nil)) (pss_cons (ps_for PassesOwn.never rfl (pi_range1 (by rfl) T.b_range (pa_cons (pv 1) pa_nil)) (pg_name (i := 3) sc_number_octets.nd rfl (.inl rfl)) (pss_cons (ps_expr (pe_bm PySem.F.plainAttrs_list PySem.F.slot_list_append PySem.F.type_list_append mt_append (pv 2) (pa_cons (pe_op op_mod (pv 0) (pe_glob (v := .int 256) (by rfl) g1 ⟨_, rfl⟩)) pa_nil))) (pss_one (ps_aug (i := 0) sc_number_octets.nd rfl (.inl rfl) (pe_glob (v := .int 256) (by rfl) g1 ⟨_, rfl⟩) ip_fdiv)))) (pss_one (ps_ret (pe_callTy call_tuple_of (by rfl) T.b_tuple (by decide +kernel) (pa_cons (pe_revL (pv 2)) pa_nil)))))), ?_⟩
    have c256 : ∀ i : Int, CDiv i 256 := fun i => ⟨by decide, by decide⟩
    refine ⟨szl (by decide), fun l hl => ?_⟩
    have s1 : Same H (upd H l (.lst [])) := same_upd hl
    refine ⟨_, rfl, 2, rfl, by decide, by decide, ?_⟩
    refine for_it walk_range (fun i σ H' => But l H H' ∧ ∃ (m : Int) (x : Option V) (xs : List V), σ = [some (.int m), some (.int 2), some (.ref l), x] ∧ H' l = some (.lst xs) ∧
      ((i = 0 ∧ m = n ∧ xs = []) ∨ (i = 1 ∧ m = n / 256 ∧ xs = [.int (n % 256)]) ∨ (i = 2 ∧ m = n / 256 / 256 ∧ xs = [.int (n % 256), .int (n / 256 % 256)]))) ⟨But.upd, n, none, [], rfl, upd_same, .inl ⟨rfl, rfl, rfl⟩⟩ (fun _ _ _ _ _ => trivial) ?_ ?_
    · rintro i x σ H2 H3 hi ⟨b2, m, x0, xs, rfl, hl2, hc⟩ ⟨rfl, rfl⟩
      refine ⟨_, rfl, .inl ⟨rfl, xs, SqL.of hl2⟩, _, rfl, _, _, rfl, rfl, (show (0 : Int) < 256 by decide), ?_⟩
      refine ⟨l, xs, _, rfl, rfl, hl2, ?_, ?_⟩
      · refine Nat.lt_of_le_of_lt (m := 2) ?_ (by decide)
        rcases hc with ⟨_, _, rfl⟩ | ⟨_, _, rfl⟩ | ⟨_, _, rfl⟩ <;> simp
      · refine ⟨_, rfl, _, _, rfl, rfl, c256 _, b2.trans But.upd, _, _, _, rfl, upd_same, ?_⟩
        rcases hc with ⟨e, rfl, rfl⟩ | ⟨e, rfl, rfl⟩ | ⟨e, _, _⟩
        · exact .inr (.inl ⟨by omega, rfl, rfl⟩)
        · exact .inr (.inr ⟨by omega, rfl, rfl⟩)
        · exfalso
          have : i < 2 := hi
          omega
    · rintro σ H2 ⟨b2, m, x0, xs, rfl, hl2, hc⟩
      refine ⟨_, rfl, l, xs, rfl, SqL.of hl2, fun c hc2 => ?_⟩
      have e : xs = [.int (n % 256), .int (n / 256 % 256)] := by
        rcases hc with ⟨e, _⟩ | ⟨e, _⟩ | ⟨_, _, e⟩
        · cases e
        · cases e
        · exact e
      subst e
      refine ⟨c, _, rfl, .inl ⟨SqL.of upd_same, fun d hd => ?_⟩⟩
      have e2 : n / 256 % 256 = n / 256 := by omega
      have k : SqT K (upd (upd H2 c (.lst [.int (n / 256 % 256), .int (n % 256)])) d (.tup [.int (n / 256 % 256), .int (n % 256)])) d [.int (n / 256), .int (n % 256)] := by
        rw [e2]
        exact SqT.of upd_same
      exact q d _ (((b2.new hl).trans (same_upd hc2)).trans (same_upd hd)) k
end
end K62

set_option Elab.async false
set_option linter.all false
set_option maxRecDepth 100000
set_option maxHeartbeats 4000000
/-! K62R: Reading, read_presses. (printed by gen_reading.py) -/
namespace K62
open PySem PySem.Spec PyProof.Rows L2
theorem lk {n m : Nat} (h : Nat.ble n m = true) : n ≤ m := Nat.le_of_ble_eq_true h
def rdFs (o : Addr) (n : Nat) (e : Addr) : List (Str × V) := [("octets", .ref o), ("at", .int (n : Nat)), ("heals", .bl false), ("extra", .ref e)]
/-- a reading at p: of the octets l, at the place n -/
def RdAt (K : PySem.W.Frag) (H : Hp) (p : Addr) (l : List Int) (n : Nat) : Prop := ∃ (o dx e : Addr), H p = some (.ins (He.ga K "Reading") dx (rdFs o n e)) ∧ SqT K H o (l.map V.int)
theorem RdAt.same {K : PySem.W.Frag} {H H' : Hp} {p : Addr} {l : List Int} {n : Nat} (h : RdAt K H p l n) (s : Same H H') : RdAt K H' p l n := by
  obtain ⟨o, dx, e, h1, h2⟩ := h
  exact ⟨o, dx, e, s _ _ h1, sqT_same s h2⟩
/-- an error's own dict -/
def ErrAt (H : Hp) (d : Addr) (v : V) : Prop := H d = some (.xd [(("at" : Str), v)])
def spRdInit (K : PySem.W.Frag) : Sp := fun vs H Q _ => ∃ (p o dx : Addr) (n : Nat), vs = [.ref p, .ref o, .int n, .bl false] ∧ H p = some (.ins (He.ga K "Reading") dx []) ∧
  ∀ e H', But p H H' → H' p = some (.ins (He.ga K "Reading") dx (rdFs o n e)) → Q .non H'
def spTake (K : PySem.W.Frag) : Sp := fun vs H Q E => ∃ (p : Addr) (l : List Int) (n : Nat) (lo hi : Int), vs = [.ref p, .int lo, .int hi] ∧ RdAt K H p l n ∧
  (∀ c, l[n]? = some c → lo ≤ c ∧ c ≤ hi ∧ ∀ H', But p H H' → RdAt K H' p l (n + 1) → Q (.int c) H') ∧
  (l[n]? = none → ∀ d H', Same H H' → ErrAt H' d (.int (l.length : Nat)) → E (.ref (He.ga K "Broken")) (some d) H')
def spTakeNum (K : PySem.W.Frag) : Sp := fun vs H Q E => ∃ (p : Addr) (l : List Int) (n : Nat), vs = [.ref p, .int 2] ∧ RdAt K H p l n ∧
  (∀ c, l[n]? = some c → (0 ≤ c ∧ c ≤ 255) ∧ ∀ c1, l[n + 1]? = some c1 → (0 ≤ c1 ∧ c1 ≤ 255) ∧ ∀ H', But p H H' → RdAt K H' p l (n + 2) → Q (.int (c * 256 + c1)) H') ∧
  ((l[n]? = none ∨ l[n + 1]? = none) → ∀ d H', But p H H' → ErrAt H' d (.int (l.length : Nat)) → E (.ref (He.ga K "Broken")) (some d) H')
def spTakePress (K : PySem.W.Frag) : Sp := fun vs H Q E => ∃ (p : Addr) (l : List Int) (n : Nat) (pr : Pr), vs = [.ref p] ∧ RdAt K H p l n ∧ pr.ok ∧ (∀ k, k < pr.enc.length → ∀ c, l[n + k]? = some c → pr.enc[k]? = some c) ∧
  ((∀ k, k < pr.enc.length → l[n + k]? ≠ none) → ∀ b H', But p H H' → RdAt K H' p l (n + pr.enc.length) → SqT K H' b (vPr pr) → Q (.ref b) H') ∧
  (∀ k, k < pr.enc.length → l[n + k]? = none → ∀ d H', But p H H' → ErrAt H' d (.int (l.length : Nat)) → E (.ref (He.ga K "Broken")) (some d) H')
def spReadPresses (K : PySem.W.Frag) : Sp := fun vs H Q _ => ∃ (a : Addr) (ps : List Pr) (m : Nat), vs = [.ref a] ∧ SqT K H a (((encP ps).take m).map V.int) ∧ OkP ps ∧ ps.length < 1000000 ∧
  ∀ r H', Same H H' → (∃ x, SqT K H' r [x, .int (plc ps (whole ps m) : Nat)] ∧ Dp K H' x (dPs (ps.take (whole ps m)))) → Q (.ref r) H'
theorem enc_octet {pr : Pr} (h : pr.ok) : ∀ i ∈ pr.enc, 0 ≤ i ∧ i < 256 := by
  cases pr with
  | back x =>
    have h' : 0 ≤ x ∧ x < 4 := h
    intro i hi
    have hi' : i ∈ [(0 : Int), x] := hi
    simp at hi'
    omega
  | deed x y =>
    have h' : (0 ≤ x ∧ x < 4) ∧ 0 ≤ y ∧ y < 6 := h
    intro i hi
    have hi' : i ∈ [(1 : Int), x, y] := hi
    simp at hi'
    omega
theorem encP_octet : ∀ {ps : List Pr}, OkP ps → ∀ i ∈ encP ps, 0 ≤ i ∧ i < 256
  | [], _, i, h => (List.not_mem_nil h).elim
  | p :: r, hp, i, h => by
    rcases List.mem_append.mp (show i ∈ p.enc ++ encP r from h) with h | h
    · exact enc_octet (hp p (List.mem_cons_self ..)) i h
    · exact encP_octet (fun z hz => hp z (List.mem_cons_of_mem _ hz)) i h
section
variable {K : PySem.W.Frag} {mg : Str → Option Value} {w : World} {H : Hp} {p o dx e : Addr} {n : Nat} {Q : VK}
theorem fl_octets (T : Txt K mg w) (h : H p = some (.ins (He.ga K "Reading") dx (rdFs o n e))) (q : Q (.ref o) H) : ∃ a C dx fs v, V.ref p = .ref a ∧ H a = some (.ins C dx fs) ∧ Cls K C ∧ NoAttr K C "octets" ∧ fs.lookup ("octets" : Str) = some v ∧ Q v H := ⟨p, _, dx, _, _, rfl, h, T.c_Reading, T.n_Reading_octets, rfl, q⟩
theorem fl_at (T : Txt K mg w) (h : H p = some (.ins (He.ga K "Reading") dx (rdFs o n e))) (q : Q (.int n) H) : ∃ a C dx fs v, V.ref p = .ref a ∧ H a = some (.ins C dx fs) ∧ Cls K C ∧ NoAttr K C "at" ∧ fs.lookup ("at" : Str) = some v ∧ Q v H := ⟨p, _, dx, _, _, rfl, h, T.c_Reading, T.n_Reading_at, rfl, q⟩
theorem fl_heals (T : Txt K mg w) (h : H p = some (.ins (He.ga K "Reading") dx (rdFs o n e))) (q : Q (.bl false) H) : ∃ a C dx fs v, V.ref p = .ref a ∧ H a = some (.ins C dx fs) ∧ Cls K C ∧ NoAttr K C "heals" ∧ fs.lookup ("heals" : Str) = some v ∧ Q v H := ⟨p, _, dx, _, _, rfl, h, T.c_Reading, T.n_Reading_heals, rfl, q⟩
end
section
variable {P : Program} {w : World} {K : PySem.W.Frag} {mg : Str → Option Value} {base : Heap}

theorem sc_Reading_init : FnScope ["self", "octets", "at", "heals"] ["self", "octets", "at", "heals"] (defScope s_Reading_init) := ⟨rfl, rfl, rfl, by decide +kernel, rfl, by decide +kernel, by decide +kernel⟩
theorem ok_Reading_init (hP : PrgOk P) (T : Txt K mg w) : DefOk P w K mg base CX0 1 (He.ma K (He.ga K "Reading") "__init__") ["self", "octets", "at", "heals"] (spRdInit K) := by
  obtain ⟨fd, F⟩ := T.f_Reading_init
  obtain ⟨BT, XF⟩ := BrkTxt.of T.br T.br_fn
  refine ⟨fd, F.ok sc_Reading_init (fun vs H Q E h => ?_) (fun cdv A outer s H vs Q E hr h => ?_), F.bindsN fun _ _ _ _ _ _ us hl => match us, hl with | [_, _, _, _], _ => rfl, F.kp⟩
  · obtain ⟨x, o, dx, n, rfl, hx, q⟩ := h
    rfl
  · obtain ⟨x, o, dx, n, rfl, hx, q⟩ := h
    refine ⟨_, PSs.nox (pss_cons (ps_fld (pv 0) (pv 1) (by rfl)) (pss_cons (ps_fld (pv 0) (pv 2) (by rfl)) (pss_cons (ps_fld (pv 0) (pv 3) (by rfl)) (pss_one (ps_fld (pv 0) (pe_lst pa_nil) (by rfl)))))), ?_⟩
    refine ⟨_, rfl, _, rfl, x, _, dx, _, rfl, hx, T.c_Reading, T.n_Reading_octets, lk rfl, ?_⟩
    refine ⟨_, rfl, _, rfl, x, _, dx, _, rfl, upd_same, T.c_Reading, T.n_Reading_at, lk rfl, ?_⟩
    refine ⟨_, rfl, _, rfl, x, _, dx, _, rfl, upd_same, T.c_Reading, T.n_Reading_heals, lk rfl, ?_⟩
    refine ⟨szl (by decide), fun e he => ?_⟩
    have nx : x ≠ e := ne_of_none (by exact upd_same) he
    refine ⟨_, rfl, x, _, dx, _, rfl, (upd_ne nx).trans upd_same, T.c_Reading, T.n_Reading_extra, lk rfl, ?_⟩
    refine q e _ ?_ upd_same
    exact (((But.upd.trans But.upd).trans But.upd).trans (But.of (same_upd he))).trans But.upd
theorem sc_Reading_take : FnScope ["self", "least", "most", "here"] ["self", "least", "most"] (defScope s_Reading_take) := ⟨rfl, rfl, rfl, by decide +kernel, rfl, by decide +kernel, by decide +kernel⟩
theorem ok_Reading_take (hP : PrgOk P) (T : Txt K mg w) : DefOk P w K mg base (L2.CX P w) 1 (He.ma K (He.ga K "Reading") "take") ["self", "least", "most"] (spTake K) := by
  obtain ⟨fd, F⟩ := T.f_Reading_take
  obtain ⟨BT, XF⟩ := BrkTxt.of T.br T.br_fn
  refine ⟨fd, F.ok sc_Reading_take (fun vs H Q E h => ?_) (fun cdv A outer s H vs Q E hr h => ?_), F.bindsN fun _ _ _ _ _ _ us hl => match us, hl with | [_, _, _], _ => rfl, F.kp⟩
  · obtain ⟨p, l, n, lo, hi, rfl, hr1, q1, q2⟩ := h
    rfl
  · obtain ⟨p, l, n, lo, hi, rfl, hr1, q1, q2⟩ := h
    refine ⟨_, (pss_cons (ps_set (i := 3) sc_Reading_take.nd rfl (.inl rfl) (pe_fld (pv 0) (by rfl))) (pss_cons (ps_if (pt_cmpR op_ge (pv 3) (pe_callB call_len (by rfl) T.b_len (by decide +kernel) (pa_cons (pe_fld (pv 0) (by rfl)) pa_nil)) (nomark _)) (pss_cons (ps_if (pt_not (pt_val (pe_fld (pv 0) (by rfl)))) (pss_one (ps_raiseBrk rfl hP BT T.g_Broken T.b_super hr (takes_of rfl rfl rfl rfl) (pa_cons (pe_callB call_len (by rfl) T.b_len (by decide +kernel) (pa_cons (pe_fld (pv 0) (by rfl)) pa_nil)) pa_nil))) pss_nil) pss_never) pss_nil) (pss_cons (ps_if (pt_not (pt_chain op_le op_le (pv 1) (pe_ix ix_seq (pe_fld (pv 0) (by rfl)) (pv 3) (fun _ _ => rfl)) (pv 2))) (pss_one ps_never) pss_nil) (pss_cons (ps_fldaug (pv 0) pe_int in_add) (pss_one (ps_ret (pe_ix ix_seq (pe_fld (pv 0) (by rfl)) (pv 3) (fun _ _ => rfl)))))))), ?_⟩
    obtain ⟨o, dx, e, hp, ho⟩ := hr1
    refine ⟨_, rfl, p, _, dx, _, _, rfl, hp, T.c_Reading, T.n_Reading_at, rfl, ?_⟩
    refine ⟨_, rfl, _, rfl, p, _, dx, _, _, rfl, hp, T.c_Reading, T.n_Reading_octets, rfl, .ref o, _, rfl, len_sq (k := .t) ho, _, _, rfl, rfl, _, rfl, ?_⟩
    rw [List.length_map]
    cases c : l[n]? with
    | none =>
      have hz : (l.length : Int) ≤ (n : Int) := by
        have := List.getElem?_eq_none_iff.mp c
        omega
      refine dt hz ?_
      refine ⟨_, rfl, p, _, dx, _, _, rfl, hp, T.c_Reading, T.n_Reading_heals, rfl, false, rfl, iteT ?_⟩
      refine ⟨_, rfl, p, _, dx, _, _, rfl, hp, T.c_Reading, T.n_Reading_octets, rfl, .ref o, _, rfl, len_sq (k := .t) ho, _, rfl, fun d hd => ?_⟩
      rw [List.length_map]
      exact q2 c d _ (same_upd hd) upd_same
    | some x =>
      obtain ⟨g1, g2, q⟩ := q1 x c
      have hlt : n < l.length := (List.getElem?_eq_some_iff.mp c).1
      have hz : ¬ (l.length : Int) ≤ (n : Int) := by omega
      have ea : atI (l.map V.int) (n : Int) = some (.int x) := atI_nat (by rw [List.getElem?_map, c]; rfl)
      refine df hz ?_
      refine ⟨_, rfl, _, rfl, p, _, dx, _, _, rfl, hp, T.c_Reading, T.n_Reading_octets, rfl, _, rfl, ix_t ho ea ⟨_, _, rfl, rfl, _, rfl, ?_⟩⟩
      refine dt g1 ?_
      refine ⟨_, rfl, _, _, rfl, rfl, _, rfl, ?_⟩
      rw [decide_eq_true g2]
      refine iteF ?_
      refine ⟨_, rfl, p, _, dx, _, _, rfl, hp, T.c_Reading, T.n_Reading_at, rfl, _, _, rfl, rfl, dx, _, hp, (by show 4 < 1000; decide), ?_⟩
      have b : But p H (upd H p (.ins (He.ga K "Reading") dx (rdFs o (n + 1) e))) := But.upd
      have h1 : upd H p (.ins (He.ga K "Reading") dx (rdFs o (n + 1) e)) p = some (.ins (He.ga K "Reading") dx (rdFs o (n + 1) e)) := upd_same
      have ho1 := sqT_but noSq_ins hp b ho
      exact ⟨_, rfl, p, _, dx, _, _, rfl, h1, T.c_Reading, T.n_Reading_octets, rfl, _, rfl, ix_t ho1 ea (q _ b ⟨o, dx, e, h1, ho1⟩)⟩
theorem sc_Reading_take_number : FnScope ["self", "many", "found", "turn"] ["self", "many"] (defScope s_Reading_take_number) := ⟨rfl, rfl, rfl, by decide +kernel, rfl, by decide +kernel, by decide +kernel⟩
theorem ok_Reading_take_number (hP : PrgOk P) (T : Txt K mg w) : DefOk P w K mg base (L2.CX P w) 2 (He.ma K (He.ga K "Reading") "take_number") ["self", "many"] (spTakeNum K) := by
  obtain ⟨fd, F⟩ := T.f_Reading_take_number
  obtain ⟨BT, XF⟩ := BrkTxt.of T.br T.br_fn
  obtain ⟨fdt, Ft, bt, kt⟩ := ok_Reading_take (P := P) (base := base) hP T
  obtain ⟨t1, g1⟩ := T.i_MOST_OCTET
  refine ⟨fd, F.ok sc_Reading_take_number (fun vs H Q E h => ?_) (fun cdv A outer s H vs Q E hr h => ?_), F.bindsN fun _ _ _ _ _ _ us hl => match us, hl with | [_, _], _ => rfl, F.kp⟩
  · obtain ⟨p, l, n, rfl, hr1, q1, q2⟩ := h
    rfl
  · obtain ⟨p, l, n, rfl, hr1, q1, q2⟩ := h
    refine ⟨_, (pss_cons (ps_set (i := 2) sc_Reading_take_number.nd rfl (.inl rfl) pe_int) (pss_cons (ps_for (passes_of rfl) rfl (pi_range1 (by rfl) T.b_range (pa_cons (pv 1) pa_nil)) (pg_name (i := 3) sc_Reading_take_number.nd rfl (.inl rfl)) (pss_one (ps_set (i := 2) sc_Reading_take_number.nd rfl (.inl rfl) (pe_op op_add (pe_op op_mul (pv 2) (pe_glob (v := .int 256) (by rfl) g1 ⟨_, rfl⟩)) (pe_meth (pv 0) T.c_Reading T.m_Reading_take Ft (hr.mono (by decide)) bt .nil (passes_call (takes_of rfl rfl rfl rfl) fun _ _ _ _ h => h) (pa_cons pe_int (pa_cons (pe_op op_sub (pe_glob (v := .int 256) (by rfl) g1 ⟨_, rfl⟩) pe_int) pa_nil))))))) (pss_one (ps_ret (pv 2))))), ?_⟩
    refine ⟨_, rfl, 2, rfl, by decide, by decide, ?_⟩
    refine for_it walk_range (fun i σ H' => But p H H' ∧ RdAt K H' p l (n + i) ∧ ∃ (m : Int) (x : Option V), σ = [some (.ref p), some (.int 2), some (.int m), x] ∧
      ((i = 0 ∧ m = 0) ∨ (i = 1 ∧ ∃ c, l[n]? = some c ∧ m = c) ∨ (i = 2 ∧ ∃ c c1, l[n]? = some c ∧ l[n + 1]? = some c1 ∧ m = c * 256 + c1))) ⟨But.refl, hr1, 0, none, rfl, .inl ⟨rfl, rfl⟩⟩ (fun _ _ _ _ _ => trivial) ?_ ?_
    · rintro i x σ H2 H3 hi ⟨b2, r2, m, x0, rfl, hc⟩ ⟨rfl, rfl⟩
      have hm : 0 ≤ m ∧ m ≤ 255 := by
        rcases hc with ⟨_, rfl⟩ | ⟨_, c, e, rfl⟩ | ⟨e, _⟩
        · exact ⟨by decide, by decide⟩
        · exact (q1 _ e).1
        · exfalso
          have : i < 2 := hi
          omega
      refine ⟨_, rfl, _, _, rfl, rfl, .inl (by omega), ?_⟩
      obtain ⟨o, dx, e, hp, ho⟩ := id r2
      refine ⟨_, rfl, p, dx, _, rfl, hp, rfl, _, _, rfl, rfl, ?_⟩
      refine ⟨p, l, n + i, 0, 255, rfl, r2, fun c hc2 => ?_, fun hn d H' s' ed => ?_⟩
      · rcases hc with ⟨rfl, rfl⟩ | ⟨rfl, c0, e0, rfl⟩ | ⟨e, _⟩
        · obtain ⟨z1, z2⟩ := q1 c hc2
          refine ⟨z1.1, z1.2, fun H' b' r' => ⟨_, _, rfl, rfl, ?_⟩⟩
          exact ⟨b2.trans b', r', _, _, rfl, .inr (.inl ⟨rfl, c, hc2, by omega⟩)⟩
        · obtain ⟨z1, z2⟩ := q1 m e0
          obtain ⟨z3, _⟩ := z2 c hc2
          refine ⟨z3.1, z3.2, fun H' b' r' => ⟨_, _, rfl, rfl, ?_⟩⟩
          exact ⟨b2.trans b', r', _, _, rfl, .inr (.inr ⟨rfl, m, c, e0, hc2, rfl⟩)⟩
        · exfalso
          have : i < 2 := hi
          omega
      · refine q2 ?_ d H' (b2.trans (But.of s')) ed
        rcases hc with ⟨rfl, _⟩ | ⟨rfl, _⟩ | ⟨e, _⟩
        · exact .inl hn
        · exact .inr hn
        · exfalso
          have : i < 2 := hi
          omega
    · rintro σ H2 ⟨b2, r2, m, x0, rfl, hc⟩
      refine ⟨_, rfl, ?_⟩
      rcases hc with ⟨e, _⟩ | ⟨e, _⟩ | ⟨_, c, c1, e1, e2, rfl⟩
      · cases e
      · cases e
      · exact ((q1 c e1).2 c1 e2).2 H2 b2 r2
theorem sc_Reading_take_press : FnScope ["self", "kind", "hand"] ["self"] (defScope s_Reading_take_press) := ⟨rfl, rfl, rfl, by decide +kernel, rfl, by decide +kernel, by decide +kernel⟩
theorem ok_Reading_take_press (hP : PrgOk P) (T : Txt K mg w) : DefOk P w K mg base (L2.CX P w) 2 (He.ma K (He.ga K "Reading") "take_press") ["self"] (spTakePress K) := by
  obtain ⟨fd, F⟩ := T.f_Reading_take_press
  obtain ⟨BT, XF⟩ := BrkTxt.of T.br T.br_fn
  obtain ⟨fdt, Ft, bt, kt⟩ := ok_Reading_take (P := P) (base := base) hP T
  obtain ⟨t1, g1⟩ := T.i_MOST_HANDS
  obtain ⟨t2, g2⟩ := T.i_MOST_DEEDS
  obtain ⟨t3, g3⟩ := T.t_BACK
  obtain ⟨t4, g4⟩ := T.t_DEED
  refine ⟨fd, F.ok sc_Reading_take_press (fun vs H Q E h => ?_) (fun cdv A outer s H vs Q E hr h => ?_), F.bindsN fun _ _ _ _ _ _ us hl => match us, hl with | [_], _ => rfl, F.kp⟩
  · obtain ⟨p, l, n, pr, rfl, hr1, hok, hat, q1, q2⟩ := h
    rfl
  · obtain ⟨p, l, n, pr, rfl, hr1, hok, hat, q1, q2⟩ := h
    refine ⟨_, (pss_cons (ps_set (i := 1) sc_Reading_take_press.nd rfl (.inl rfl) (pe_ix ix_seq (pe_glob (v := .ref (He.ga K "KINDS")) (by rfl) T.g_KINDS rfl) (pe_meth (pv 0) T.c_Reading T.m_Reading_take Ft (hr.mono (by decide)) bt .nil (passes_call (takes_of rfl rfl rfl rfl) fun _ _ _ _ h => h) (pa_cons pe_int (pa_cons (pe_op op_sub (pe_callB call_len (by rfl) T.b_len (by decide +kernel) (pa_cons (pe_glob (v := .ref (He.ga K "KINDS")) (by rfl) T.g_KINDS rfl) pa_nil)) pe_int) pa_nil))) (fun _ _ => rfl))) (pss_cons (ps_set (i := 2) sc_Reading_take_press.nd rfl (.inl rfl) (pe_meth (pv 0) T.c_Reading T.m_Reading_take Ft (hr.mono (by decide)) bt .nil (passes_call (takes_of rfl rfl rfl rfl) fun _ _ _ _ h => h) (pa_cons pe_int (pa_cons (pe_op op_sub (pe_glob (v := .int 4) (by rfl) g1 ⟨_, rfl⟩) pe_int) pa_nil)))) (pss_cons (ps_if (pt_cmpR op_eq (pv 1) (pe_glob (v := .str "back") (by rfl) g3 ⟨_, rfl⟩) (nomark _)) (pss_one (ps_ret (pe_tup (pa_cons (pe_glob (v := .str "back") (by rfl) g3 ⟨_, rfl⟩) (pa_cons (pv 2) pa_nil))))) pss_nil) (pss_one (ps_ret (pe_tup (pa_cons (pe_glob (v := .str "deed") (by rfl) g4 ⟨_, rfl⟩) (pa_cons (pv 2) (pa_cons (pe_meth (pv 0) T.c_Reading T.m_Reading_take Ft (hr.mono (by decide)) bt .nil (passes_call (takes_of rfl rfl rfl rfl) fun _ _ _ _ h => h) (pa_cons pe_int (pa_cons (pe_op op_sub (pe_glob (v := .int 6) (by rfl) g2 ⟨_, rfl⟩) pe_int) pa_nil))) pa_nil))))))))), ?_⟩
    obtain ⟨o, dx, e, hp, ho⟩ := id hr1
    refine ⟨_, rfl, p, dx, _, rfl, hp, rfl, .ref (He.ga K "KINDS"), 2, rfl, .inr ⟨_, T.kinds _, rfl⟩, _, _, rfl, rfl, ?_⟩
    cases pr with
    | back x =>
      have hok' : 0 ≤ x ∧ x < 4 := hok
      have a0 : ∀ c, l[n]? = some c → c = 0 := fun c h => (Option.some.inj (hat 0 (lk rfl) c h)).symm
      have a1 : ∀ c, l[n + 1]? = some c → c = x := fun c h => (Option.some.inj (hat 1 (lk rfl) c h)).symm
      refine ⟨p, l, n, 0, 1, rfl, hr1, fun c hc => ?_, fun hn d H' s' ed => q2 0 (lk rfl) hn d H' (But.of s') ed⟩
      have e0 := a0 c hc
      subst e0
      refine ⟨by decide, by decide, fun H1 b1 r1 => ?_⟩
      refine ix_t (T.kinds _) rfl ?_
      obtain ⟨o1, dx1, e1, hp1, ho1⟩ := id r1
      refine ⟨_, rfl, p, dx1, _, rfl, hp1, rfl, _, _, rfl, rfl, ?_⟩
      refine ⟨p, l, n + 1, 0, 3, rfl, r1, fun c1 hc1 => ?_, fun hn d H' s' ed => q2 1 (lk rfl) hn d H' (b1.trans (But.of s')) ed⟩
      have e1' := a1 c1 hc1
      subst e1'
      refine ⟨by omega, by omega, fun H2 b2 r2 => ?_⟩
      refine ⟨_, rfl, rfl, _, rfl, iteT ?_⟩
      refine ⟨_, rfl, szl (lk rfl), fun b hb => ?_⟩
      refine q1 (fun k hk => ?_) b _ ((b1.trans b2).trans (But.of (same_upd hb))) (r2.same (same_upd hb)) (SqT.of upd_same)
      have hk' : k < 2 := hk
      match k, hk' with
      | 0, _ => rw [Nat.add_zero, hc]; intro z; cases z
      | 1, _ => rw [hc1]; intro z; cases z
    | deed x y =>
      have hok' : (0 ≤ x ∧ x < 4) ∧ 0 ≤ y ∧ y < 6 := hok
      have a0 : ∀ c, l[n]? = some c → c = 1 := fun c h => (Option.some.inj (hat 0 (lk rfl) c h)).symm
      have a1 : ∀ c, l[n + 1]? = some c → c = x := fun c h => (Option.some.inj (hat 1 (lk rfl) c h)).symm
      have a2 : ∀ c, l[n + 2]? = some c → c = y := fun c h => (Option.some.inj (hat 2 (lk rfl) c h)).symm
      refine ⟨p, l, n, 0, 1, rfl, hr1, fun c hc => ?_, fun hn d H' s' ed => q2 0 (lk rfl) hn d H' (But.of s') ed⟩
      have e0 := a0 c hc
      subst e0
      refine ⟨by decide, by decide, fun H1 b1 r1 => ?_⟩
      refine ix_t (T.kinds _) rfl ?_
      obtain ⟨o1, dx1, e1, hp1, ho1⟩ := id r1
      refine ⟨_, rfl, p, dx1, _, rfl, hp1, rfl, _, _, rfl, rfl, ?_⟩
      refine ⟨p, l, n + 1, 0, 3, rfl, r1, fun c1 hc1 => ?_, fun hn d H' s' ed => q2 1 (lk rfl) hn d H' (b1.trans (But.of s')) ed⟩
      have e1' := a1 c1 hc1
      subst e1'
      refine ⟨by omega, by omega, fun H2 b2 r2 => ?_⟩
      refine ⟨_, rfl, rfl, _, rfl, iteF ?_⟩
      obtain ⟨o2, dx2, e2, hp2, ho2⟩ := id r2
      refine ⟨_, rfl, _, rfl, p, dx2, _, rfl, hp2, rfl, _, _, rfl, rfl, ?_⟩
      refine ⟨p, l, n + 1 + 1, 0, 5, rfl, r2, fun c2 hc2 => ?_, fun hn d H' s' ed => q2 2 (lk rfl) hn d H' ((b1.trans b2).trans (But.of s')) ed⟩
      have e2' := a2 c2 hc2
      subst e2'
      refine ⟨by omega, by omega, fun H3 b3 r3 => ⟨szl (lk rfl), fun b hb => ?_⟩⟩
      refine q1 (fun k hk => ?_) b _ (((b1.trans b2).trans b3).trans (But.of (same_upd hb))) (r3.same (same_upd hb)) (SqT.of upd_same)
      have hk' : k < 3 := hk
      match k, hk' with
      | 0, _ => rw [Nat.add_zero, hc]; intro z; cases z
      | 1, _ => rw [hc1]; intro z; cases z
      | 2, _ => rw [hc2]; intro z; cases z
end
end K62

set_option Elab.async false
set_option linter.all false
set_option maxRecDepth 100000
set_option maxHeartbeats 4000000
/-! K62P: read_presses. (printed by gen_rp.py) -/
namespace K62
open PySem PySem.Spec PyProof.Rows L2
theorem noLs_prs (ps : List Pr) : noL.noLs (ps.map dPr) = true := noLs_all fun d hd => by
  obtain ⟨i, _, e⟩ := List.mem_map.mp hd
  rw [← e]
  exact noL_pr i
theorem dpAll_butL {K : PySem.W.Frag} {H H' : Hp} {p : Addr} {vs ys : List V} {ds : List PyData} (hp : H p = some (.lst ys)) (s : But p H H') (n : noL.noLs ds = true) (h : DpAll K H vs ds) : DpAll K H' vs ds := dp_keepTs (fun _ _ => sqT_butL hp s) ds vs n h
def rLen (K : PySem.W.Frag) : List V → Hp → VK → Prop := fun xs H Q => ∃ x n, xs = [x] ∧ LenV K x H n ∧ Q (.int (n : Nat)) H
theorem call_lenK {X : Cx} {K : PySem.W.Frag} (h : X.K = K) : CallR X (.builtin "len") (rLen K) := by
  subst h
  exact call_len
/-- what stands at a turn of read_presses -/
def RpInv (K : PySem.W.Frag) (H1 : Hp) (a b f : Addr) (ps : List Pr) (m j : Nat) (σ : L2.St) (H' : Hp) : Prop := ∃ (i : Nat) (x4 x5 x6 : Option V) (xs : List V), j = ps.length - i ∧
  σ = [some (.ref a), some (.ref b), some (.ref f), some (.int (plc ps i : Nat)), x4, x5, x6] ∧ But f H1 H' ∧ H' f = some (.lst xs) ∧ DpAll K H' xs ((ps.take i).map dPr) ∧ i ≤ ps.length ∧ plc ps i ≤ m
section
variable {P : Program} {w : World} {K : PySem.W.Frag} {mg : Str → Option Value} {base : Heap}

theorem sc_read_presses : FnScope ["octets", "told", "found", "behind", "reading", "press", "fault"] ["octets"] (defScope s_read_presses) := ⟨rfl, rfl, rfl, by decide +kernel, rfl, by decide +kernel, by decide +kernel⟩
theorem ok_read_presses (hP : PrgOk P) (T : Txt K mg w) : DefOk P w K mg base CX0 5 (He.ga K "read_presses") ["octets"] (spReadPresses K) := by
  obtain ⟨fd, F⟩ := T.f_read_presses
  obtain ⟨BT, XF⟩ := BrkTxt.of T.br T.br_fn
  obtain ⟨fdi, Fi, bi, ki⟩ := ok_Reading_init (P := P) (base := base) hP T
  obtain ⟨fdt, Ft, bt, kt⟩ := ok_Reading_take_press (P := P) (base := base) hP T
  refine ⟨fd, F.ok sc_read_presses (fun vs H Q E h => ?_) (fun cdv A outer s H vs Q E hr h => ?_), F.bindsN fun _ _ _ _ _ _ us hl => match us, hl with | [_], _ => rfl, F.kp⟩
  · obtain ⟨a, ps, m, rfl, ha, hps, hbig, q⟩ := h
    rfl
  · obtain ⟨a, ps, m, rfl, ha, hps, hbig, q⟩ := h
    refine ⟨_, PSs.nox (pss_cons (ps_set (i := 1) sc_read_presses.nd rfl (.inl rfl) (pe_d (ok_need_octets T) (hr.mono (by decide)) (by rfl) T.g_need_octets pass0 (pa_cons (pv 0) pa_nil))) (pss_cons (ps_par (i := 2) (j := 3) rfl sc_read_presses.nd rfl rfl (by decide) rfl rfl (pa_cons (pe_lst pa_nil) (pa_cons pe_int pa_nil)) (by rfl)) (pss_cons (ps_while PassesOwn.never (pt_cmpR op_lt (pv 3) (pe_callB call_len (by rfl) T.b_len (by decide +kernel) (pa_cons (pv 1) pa_nil)) (nomark _))
      (pss_cons (ps_set (i := 4) sc_read_presses.nd rfl (.inl rfl) (pe_make T.k_Reading Fi (hr.mono (by decide)) (by rfl) T.g_Reading bi .nil pass0 (pa_cons (pv 1) (pa_cons (pv 3) (pa_cons pe_bl pa_nil))))) (pss_cons (ps_try_as (i := 6) rfl rfl sc_read_presses.nd rfl rfl ⟨by rfl, by decide, .inl T.g_Broken⟩ takes0
      (fun W pn xe tk _ => (pss_one (ps_set (i := 5) sc_read_presses.nd rfl (.inl rfl) (pe_mx0 (pv 4) T.c_Reading T.m_Reading_take_press Ft (hr.mono (by decide)) bt (passAt tk)))))
      (fun e oe cls d pn hz hf => (pss_cons (ps_if (pt_cmpR op_lt (pe_xf XF BT.na hz hf (pv 6)) (pe_callB (call_lenK (K := K) rfl) (by rfl) T.b_len (by decide +kernel) (pa_cons (pv 1) pa_nil)) (nomark _)) (pss_one ps_never) pss_nil) (pss_one ps_break)))) (pss_cons (ps_expr (pe_bm PySem.F.plainAttrs_list PySem.F.slot_list_append PySem.F.type_list_append mt_append (pv 2) (pa_cons (pv 5) pa_nil))) (pss_one (ps_set (i := 3) sc_read_presses.nd rfl (.inl rfl) (pe_fld (pv 4) (by rfl)))))))) (pss_one (ps_ret (pe_tup (pa_cons (pe_callTy call_tuple_of (by rfl) T.b_tuple (by decide +kernel) (pa_cons (pv 2) pa_nil)) (pa_cons (pv 3) pa_nil)))))))), ?_⟩
    refine ⟨_, rfl, .t, a, (encP ps).take m, rfl, ha, fun i hi => encP_octet hps i (List.mem_of_mem_take hi), fun b H1 s1 h1 => ?_⟩
    refine ⟨szl (by decide), fun f hf => ⟨_, _, rfl, ?_⟩⟩
    have lL : ((encP ps).take m).length = min m (encP ps).length := List.length_take
    have ll : (((encP ps).take m).map V.int).length = min m (encP ps).length := by rw [List.length_map]; exact lL
    have fin : ∀ (i : Nat) (xs : List V) (H' : Hp), But f H1 H' → H' f = some (.lst xs) → DpAll K H' xs ((ps.take i).map dPr) → whole ps m = i → ∀ t, H' t = none → ∀ r, upd H' t (.tup xs) r = none →
        Q (.ref r) (upd (upd H' t (.tup xs)) r (.tup [.ref t, .int (plc ps i : Nat)])) := by
      rintro i xs H' b2 hl hd rfl t ht r hr'
      have s2 : Same H' (upd (upd H' t (.tup xs)) r (.tup [.ref t, .int (plc ps (whole ps m) : Nat)])) := (same_upd ht).trans (same_upd hr')
      refine q r _ ((s1.trans (b2.new hf)).trans s2) ⟨.ref t, SqT.of upd_same, .tup (sqT_same (same_upd hr') (SqT.of upd_same)) ?_⟩
      exact dp_sameAll s2 hd
    refine ⟨RpInv K H1 a b f ps m, ⟨_, 0, none, none, none, [], rfl, rfl, But.upd, upd_same, .nil, Nat.zero_le _, Nat.zero_le _⟩, ?_⟩
    rintro j σ H2 ⟨i, x4, x5, x6, xs, rfl, rfl, b2, hl, hd, hi, hm⟩
    have hb2 : SqT K H2 b (((encP ps).take m).map V.int) := sqT_same (b2.new hf) h1
    refine ⟨_, rfl, _, rfl, .ref b, _, rfl, len_sq (k := .t) hb2, _, _, rfl, rfl, _, rfl, ?_⟩
    rw [ll]
    have hple := plc_le ps i
    by_cases c : plc ps i < min m (encP ps).length
    · have c' : (plc ps i : Int) < ((min m (encP ps).length : Nat) : Int) := Int.ofNat_lt.mpr c
      refine dt c' ?_
      have hlt : i < ps.length := by
        refine Nat.lt_of_not_le fun z => ?_
        rw [plc_all z] at c
        omega
      obtain ⟨pr, hpr⟩ : ∃ pr, ps[i]? = some pr := ⟨_, List.getElem?_eq_getElem hlt⟩
      have hok : pr.ok := hps pr (List.mem_of_getElem? hpr)
      have hsu := plc_succ hpr
      have hsl := plc_le ps (i + 1)
      have at_ : ∀ k, k < pr.enc.length → ((encP ps).take m)[plc ps i + k]? = if plc ps i + k < m then pr.enc[k]? else none := fun k hk => by
        rw [List.getElem?_take, encP_at hpr hk]
      refine ⟨RpInv K H1 a b f ps m (ps.length - (i + 1)), fun σ' H' h => ⟨_, by omega, h⟩, ?_⟩
      refine ⟨_, rfl, _, rfl, fun x dx hx hdx ne => ⟨x, b, dx, plc ps i, rfl, upd_same, fun e H3 b3 hx3 => ⟨rfl, ?_⟩⟩⟩
      have s3 : Same H2 H3 := Same.made hx hdx fun c o e n => b3 c o n e
      have r3 : RdAt K H3 x ((encP ps).take m) (plc ps i) := ⟨b, dx, e, hx3, sqT_same s3 hb2⟩
      refine ⟨_, rfl, x, dx, _, rfl, hx3, rfl, ?_⟩
      refine ⟨x, (encP ps).take m, plc ps i, pr, rfl, r3, hok, fun k hk c hc => ?_, fun good pb H4 b4 r4 h4 => ?_, fun k hk hn d H4 b4 ed => ?_⟩
      · rw [at_ k hk] at hc
        split at hc
        · exact hc
        · cases hc
      · have s4 : Same H2 H4 := fun c o e => b4 c o (ne_of_none e hx) (s3 c o e)
        have hf4 : H4 f = some (.lst xs) := s4 f _ hl
        obtain ⟨o4, dx4, e4, hx4, ho4⟩ := id r4
        have hxf : x ≠ f := fun z => by rw [z, hf4] at hx4; cases hx4
        have xl := dpAll_len hd
        rw [List.length_map, List.length_take] at xl
        refine ⟨_, rfl, .inl ⟨rfl, xs, SqL.of hf4⟩, _, rfl, f, xs, _, rfl, rfl, hf4, ?_, ?_⟩
        · have : sizeLine = 16777216 := sizeLine_eq
          omega
        · have h5 : upd H4 f (.lst (xs ++ [.ref pb])) x = some (.ins (He.ga K "Reading") dx4 (rdFs o4 (plc ps i + pr.enc.length) e4)) := (upd_ne hxf).trans hx4
          refine ⟨_, rfl, x, _, dx4, _, _, rfl, h5, T.c_Reading, T.n_Reading_at, rfl, ?_⟩
          refine ⟨i + 1, some (.ref x), some (.ref pb), x6, xs ++ [.ref pb], rfl, ?_, (b2.trans (But.of s4)).trans But.upd, upd_same, ?_, hlt, ?_⟩
          · rw [hsu]
            rfl
          · have e : (ps.take (i + 1)).map dPr = (ps.take i).map dPr ++ [dPr pr] := by
              rw [take_snoc hpr, List.map_append]
              rfl
            rw [e]
            refine dpAll_snoc (dpAll_butL hf4 But.upd (noLs_prs _) (dp_sameAll s4 hd)) ?_
            exact dp_pr (sqT_butL hf4 But.upd h4)
          · have hz := enc_len_p pr
            have g := good (pr.enc.length - 1) (by omega)
            rw [at_ _ (by omega)] at g
            split at g
            · omega
            · exact absurd rfl g
      · have s4 : Same H2 H4 := fun c o e => b4 c o (ne_of_none e hx) (s3 c o e)
        have hf4 : H4 f = some (.lst xs) := s4 f _ hl
        refine ⟨true, T.e_Broken, fun _ g hg => ?_, fun z => by cases z⟩
        have hb4 := sqT_same s4 hb2
        refine ⟨_, rfl, rfl, rfl, d, _, _, rfl, ed, rfl, ?_⟩
        refine ⟨_, rfl, .ref b, _, rfl, len_sq (k := .t) hb4, _, _, rfl, rfl, _, rfl, ?_⟩
        rw [List.length_map]
        refine df (Int.lt_irrefl _) ?_
        have hw : whole ps m = i := whole_eq hi hm fun p' hp' => by
          rw [hpr] at hp'
          obtain rfl := Option.some.inj hp'
          rw [at_ k hk] at hn
          split at hn
          · have := List.getElem?_eq_none_iff.mp hn
            omega
          · omega
        exact ⟨_, rfl, f, xs, rfl, .inl ⟨SqL.of hf4, fun t ht => ⟨_, rfl, szl (lk rfl), fun r hr' => fin i xs H4 (b2.trans (But.of s4)) hf4 (dp_sameAll s4 hd) hw t ht r hr'⟩⟩⟩
    · have c' : ¬ (plc ps i : Int) < ((min m (encP ps).length : Nat) : Int) := fun z => c (Int.ofNat_lt.mp z)
      refine df c' ?_
      have hw : whole ps m = i := whole_eq hi hm fun p' hp' => by
        have h1 := plc_succ hp'
        have h2 := plc_le ps (i + 1)
        have h3 := enc_len_p p'
        omega
      exact ⟨_, rfl, f, xs, rfl, .inl ⟨SqL.of hl, fun t ht => ⟨_, rfl, szl (lk rfl), fun r hr' => fin i xs H2 b2 hl hd hw t ht r hr'⟩⟩⟩
end
end K62

set_option Elab.async false
set_option linter.all false
set_option maxRecDepth 100000
set_option maxHeartbeats 4000000
/-! K62H: histories, begun_octets, begun_at. (printed by gen_hist.py) -/
namespace K62
open PySem PySem.Spec PyProof.Rows L2
structure rTupOf (K : PySem.W.Frag) (xs : List V) (H : Hp) (Q : VK) : Prop where
  out : ∃ p ys, xs = [.ref p] ∧ ((SqL K H p ys ∧ ∀ l, H l = none → Q (.ref l) (upd H l (.tup ys))) ∨ (SqT K H p ys ∧ Q (.ref p) H))
theorem call_tupK {X : Cx} {K : PySem.W.Frag} (h : X.K = K) : CallR X (.type "tuple") (rTupOf K) := by
  subst h
  exact fun pins s σ H xs us Q I r h => call_tuple_of pins s σ H xs us Q I r h.out
structure rListOf (K : PySem.W.Frag) (xs : List V) (H : Hp) (Q : VK) : Prop where
  out : ∃ p ys, xs = [.ref p] ∧ (SqL K H p ys ∨ SqT K H p ys) ∧ ∀ l, H l = none → Q (.ref l) (upd H l (.lst ys))
theorem call_listK {X : Cx} {K : PySem.W.Frag} (h : X.K = K) : CallR X (.type "list") (rListOf K) := by
  subst h
  exact fun pins s σ H xs us Q I r h => call_list_of pins s σ H xs us Q I r h.out
theorem But.updF {p f : Addr} {H H' : Hp} {o : HO} (b : But p H H') (hf : H f = none) : But p H (L2.upd H' f o) := fun c o' n e => by
  rw [upd_ne (ne_of_none e hf)]
  exact b c o' n e
def spNeedHands : Sp := fun vs H Q _ => ∃ i : Int, vs = [.int i] ∧ 1 ≤ i ∧ i ≤ 4 ∧ Q (.int i) H
def spIsLetter (K : PySem.W.Frag) : Sp := fun vs H Q _ => ∃ (k : Kd) (a : Addr) (x y h d : Int), vs = [.ref a, .int h, .int d] ∧ Sq K H k a [.int x, .int y] ∧ (0 ≤ x ∧ x < h) ∧ (0 ≤ y ∧ y < d) ∧ ∀ H', Same H H' → Q (.bl true) H'
def spCheckRow (K : PySem.W.Frag) : Sp := fun vs H Q _ => ∃ (k : Kd) (a : Addr) (b : Hist), vs = [.int 4, .int 6, .ref a] ∧ HistAt K H k a b ∧ OkH b ∧ b.length ≤ 700 ∧ ∀ r H', Same H H' → Dp K H' (.ref r) (dHs b) → Q (.ref r) H'
def spBegunOct (K : PySem.W.Frag) : Sp := fun vs H Q _ => ∃ (k : Kd) (a : Addr) (s : Int) (b : Hist), vs = [.int s, .ref a] ∧ HistAt K H k a b ∧ OkH b ∧ b.length ≤ 700 ∧ (0 ≤ s ∧ s < 3) ∧ ∀ r H', Same H H' → SqT K H' r ((encB s b).map V.int) → Q (.ref r) H'
def spBegunAt (K : PySem.W.Frag) : Sp := fun vs H Q E => ∃ (p : Addr) (l : List Int) (s : Int) (b : Hist) (ps : List Pr) (m : Nat), vs = [.ref p] ∧ RdAt K H p l 0 ∧ l = (enc s b ps).take m ∧ (0 ≤ s ∧ s < 3) ∧ OkH b ∧ b.length < 65536 ∧
  (bl b ≤ m → ∀ r x H', But p H H' → RdAt K H' p l (bl b) → SqT K H' r [.int s, x] → Dp K H' x (dHs b) → Q (.ref r) H') ∧
  (m < bl b → ∀ d H', But p H H' → ErrAt H' d (.int (l.length : Nat)) → E (.ref (He.ga K "Broken")) (some d) H')
/-- histories in the making: the list at D holds the first i letters as tuples -/
def LtPv (K : PySem.W.Frag) (H1 : Hp) (D : Addr) (b : Hist) (i : Nat) (H' : Hp) : Prop := But D H1 H' ∧ ∃ acc, H' D = some (.lst acc) ∧ DpAll K H' acc ((b.take i).map dLt)
theorem noLs_lts (b : Hist) : noL.noLs (b.map dLt) = true := noLs_all fun d hd => by
  obtain ⟨i, _, e⟩ := List.mem_map.mp hd
  rw [← e]
  rfl
section
variable {K : PySem.W.Frag} {H H1 H' H'' : Hp} {D c : Addr} {b : Hist} {i : Nat} {q : Int × Int}
theorem LtPv.start : LtPv K H1 D b 0 (upd H1 D (.lst [])) := ⟨But.upd, [], upd_same, .nil⟩
theorem lts_len {acc : List V} (h : DpAll K H' acc ((b.take i).map dLt)) : acc.length ≤ i := by
  have l := dpAll_len h
  rw [List.length_map, List.length_take] at l
  omega
theorem LtPv.step (h : LtPv K H1 D b i H') (hz : b.length ≤ 65536) (hq : b[i]? = some q) (s : Same H' H'') (hc : SqT K H'' c [.int q.1, .int q.2]) :
    ∃ acc, H'' D = some (.lst acc) ∧ acc.length < sizeLine ∧ LtPv K H1 D b (i + 1) (upd H'' D (.lst (acc ++ [.ref c]))) := by
  obtain ⟨b1, acc, hD, hd⟩ := h
  have hD' := s _ _ hD
  refine ⟨acc, hD', ?_, ((b1.trans (But.of s)).trans But.upd), _, upd_same, ?_⟩
  · have l := lts_len hd
    have hi := (List.getElem?_eq_some_iff.mp hq).1
    rw [sizeLine_eq]
    omega
  · have e : (b.take (i + 1)).map dLt = (b.take i).map dLt ++ [dLt q] := by
      rw [take_snoc hq, List.map_append]
      rfl
    rw [e]
    exact dpAll_snoc (dpAll_butL hD' But.upd (noLs_lts _) (dp_sameAll s hd)) (dp_lt (sqT_butL hD' But.upd hc))
theorem LtPv.all (h : LtPv K H1 D b b.length H') (hD : H1 D = none) {t : Addr} (acc : List V) (ha : H' D = some (.lst acc)) (ht : H' t = none) : Same H1 (upd H' t (.tup acc)) ∧ Dp K (upd H' t (.tup acc)) (.ref t) (dHs b) := by
  obtain ⟨b1, acc', hD', hd⟩ := h
  have e : acc' = acc := by
    rw [ha] at hD'
    cases hD'
    rfl
  subst e
  rw [List.take_length] at hd
  exact ⟨(b1.new hD).trans (same_upd ht), .tup (SqT.of upd_same) (dp_sameAll (same_upd ht) hd)⟩
end
theorem encL_at0 : ∀ {b : Hist} {i : Nat} {q : Int × Int}, b[i]? = some q → (encL b)[2 * i]? = some q.1
  | [], i, q, h => by simp at h
  | x :: r, 0, q, h => by
    have e := Option.some.inj (show some x = some q from h)
    rw [← e]
    rfl
  | x :: r, i + 1, q, h => by
    have ih := encL_at0 (b := r) (i := i) (q := q) h
    show (x.1 :: x.2 :: encL r)[2 * i + 2]? = some q.1
    exact ih
theorem encL_at1 : ∀ {b : Hist} {i : Nat} {q : Int × Int}, b[i]? = some q → (encL b)[2 * i + 1]? = some q.2
  | [], i, q, h => by simp at h
  | x :: r, 0, q, h => by
    have e := Option.some.inj (show some x = some q from h)
    rw [← e]
    rfl
  | x :: r, i + 1, q, h => by
    have ih := encL_at1 (b := r) (i := i) (q := q) h
    show (x.1 :: x.2 :: encL r)[2 * i + 1 + 2]? = some q.2
    exact ih
theorem enc_at {s : Int} {b : Hist} {ps : List Pr} {m j : Nat} (h : j < bl b) : ((enc s b ps).take m)[j]? = if j < m then (encB s b)[j]? else none := by
  rw [List.getElem?_take]
  unfold enc
  rw [List.getElem?_append_left (by rw [encB_len]; exact h)]
theorem encL_snoc {b : Hist} {i : Nat} {q : Int × Int} (h : b[i]? = some q) : encL (b.take (i + 1)) = encL (b.take i) ++ [q.1, q.2] := by
  rw [take_snoc h, encL_append]
  rfl
section
variable {P : Program} {w : World} {K : PySem.W.Frag} {mg : Str → Option Value} {base : Heap}

theorem sc_need_hands : FnScope ["value"] ["value"] (defScope s_need_hands) := ⟨rfl, rfl, rfl, by decide +kernel, rfl, by decide +kernel, by decide +kernel⟩
theorem ok_need_hands (T : Txt K mg w) : DefOk P w K mg base CX0 4 (He.ga K "need_hands") ["value"] spNeedHands := by
  obtain ⟨fd, F⟩ := T.f_need_hands
  refine ⟨fd, F.ok sc_need_hands (fun vs H Q E h => ?_) (fun cdv A outer s H vs Q E hr h => ?_), F.bindsN fun _ _ _ _ _ _ us hl => match us, hl with | [_], _ => rfl, F.kp⟩
  · obtain ⟨i, rfl, h1, h2, q⟩ := h
    rfl
  · obtain ⟨i, rfl, h1, h2, q⟩ := h
    refine ⟨_, PSs.nox (pss_cons (ps_if (pt_not (pt_val (pe_d (ok_is_hands T) (hr.mono (by decide)) (by rfl) T.g_is_hands pass0 (pa_cons (pv 0) pa_nil)))) (pss_one ps_never) pss_nil) (pss_one (ps_ret (pv 0)))), ?_⟩
    refine ⟨_, rfl, i, rfl, _, rfl, ?_⟩
    have e : decide (1 ≤ i ∧ i ≤ 4) = true := decide_eq_true ⟨h1, h2⟩
    rw [e]
    exact iteF ⟨_, rfl, q⟩
theorem sc_is_letter : FnScope ["value", "hands", "deeds"] ["value", "hands", "deeds"] (defScope s_is_letter) := ⟨rfl, rfl, rfl, by decide +kernel, rfl, by decide +kernel, by decide +kernel⟩
theorem ok_is_letter (T : Txt K mg w) : DefOk P w K mg base CX0 4 (He.ga K "is_letter") ["value", "hands", "deeds"] (spIsLetter K) := by
  obtain ⟨fd, F⟩ := T.f_is_letter
  refine ⟨fd, F.ok sc_is_letter (fun vs H Q E h => ?_) (fun cdv A outer s H vs Q E hr h => ?_), F.bindsN fun _ _ _ _ _ _ us hl => match us, hl with | [_, _, _], _ => rfl, F.kp⟩
  · obtain ⟨k, a, x, y, h, d, rfl, hs, hx, hy, q⟩ := h
    rfl
  · obtain ⟨k, a, x, y, h, d, rfl, hs, hx, hy, q⟩ := h
    refine ⟨_, PSs.nox (pss_one (ps_ret (pe_and (pe_d (ok_is_sequence T) (hr.mono (by decide)) (by rfl) T.g_is_sequence pass0 (pa_cons (pv 0) pa_nil)) (pe_and (pe_cmpR op_eq (pe_callB call_len (by rfl) T.b_len (by decide +kernel) (pa_cons (pv 0) pa_nil)) pe_int (nomark _)) (pe_and (pe_d (ok_is_below T) (hr.mono (by decide)) (by rfl) T.g_is_below pass0 (pa_cons (pe_ix ix_seq (pv 0) pe_int (fun _ _ => rfl)) (pa_cons (pv 1) pa_nil))) (pe_one (pe_d (ok_is_below T) (hr.mono (by decide)) (by rfl) T.g_is_below pass0 (pa_cons (pe_ix ix_seq (pv 0) pe_int (fun _ _ => rfl)) (pa_cons (pv 2) pa_nil))))))))), ?_⟩
    refine ⟨_, rfl, k, a, _, rfl, hs, fun H1 s1 => ⟨true, rfl, iteT ?_⟩⟩
    have hs1 := hs.same s1
    refine ⟨_, rfl, .ref a, 2, rfl, len_sq hs1, rfl, true, rfl, iteT ?_⟩
    refine ⟨_, rfl, ix_sq hs1 rfl ⟨_, rfl, x, h, rfl, _, rfl, ?_⟩⟩
    rw [decide_eq_true hx]
    refine iteT ?_
    refine ⟨_, rfl, ix_sq hs1 rfl ⟨_, rfl, y, d, rfl, ?_⟩⟩
    rw [decide_eq_true hy]
    exact q H1 s1
theorem sc_check_row : FnScope ["hands", "deeds", "value", "at", "letter"] ["hands", "deeds", "value"] (defScope s_check_row) := ⟨rfl, rfl, rfl, by decide +kernel, rfl, by decide +kernel, by decide +kernel⟩
theorem ok_check_row (T : Txt K mg w) : DefOk P w K mg base CX0 5 (He.ga K "check_row") ["hands", "deeds", "value"] (spCheckRow K) := by
  obtain ⟨fd, F⟩ := T.f_check_row
  refine ⟨fd, F.ok sc_check_row (fun vs H Q E h => ?_) (fun cdv A outer s H vs Q E hr h => ?_), F.bindsN fun _ _ _ _ _ _ us hl => match us, hl with | [_, _, _], _ => rfl, F.kp⟩
  · obtain ⟨k, a, b, rfl, hb, hok, hz, q⟩ := h
    rfl
  · obtain ⟨k, a, b, rfl, hb, hok, hz, q⟩ := h
    refine ⟨_, PSs.nox (pss_cons (ps_expr (pe_d (ok_need_hands T) (hr.mono (by decide)) (by rfl) T.g_need_hands pass0 (pa_cons (pv 0) pa_nil))) (pss_cons (ps_if (pt_not (pt_val (pe_d (ok_is_sequence T) (hr.mono (by decide)) (by rfl) T.g_is_sequence pass0 (pa_cons (pv 2) pa_nil)))) (pss_one ps_never) pss_nil) (pss_cons (ps_for PassesOwn.never rfl (pi_enumA (by rfl) T.b_enumerate (pa_cons (pv 2) pa_nil)) (pg_tup rfl (pgs_cons (pg_name (i := 3) sc_check_row.nd rfl (.inl rfl)) (pgs_cons (pg_name (i := 4) sc_check_row.nd rfl (.inl rfl)) pgs_nil))) (pss_one (ps_if (pt_not (pt_val (pe_d (ok_is_letter T) (hr.mono (by decide)) (by rfl) T.g_is_letter pass0 (pa_cons (pv 4) (pa_cons (pv 0) (pa_cons (pv 1) pa_nil)))))) (pss_one ps_never) pss_nil))) (pss_one (ps_ret (pe_callTy call_tuple_of (by rfl) T.b_tuple (by decide +kernel) (pa_cons (pe_lc (own := [("letter", 4)]) (g := gName 4) (tt := tYes) rfl sc_check_row.nd (pi_seq (pv 2)) (blkOk_by (N := ["hands", "deeds", "value", "at", "letter"]) (sc := defScope s_check_row) (own := [("letter", 4)]) (by decide +kernel)) (fun _ _ _ _ _ => pg_name (i := 4) sc_check_row.nd rfl (.inl rfl)) (fun _ _ _ _ _ => pts_nil) (fun _ _ _ _ _ => (pe_callTy (call_tupK (K := K) rfl) (by rfl) T.b_tuple (by decide +kernel) (pa_cons (pv 4) pa_nil)))) pa_nil))))))), ?_⟩
    obtain ⟨xs, hs, hl, hat⟩ := hb.ex
    refine ⟨_, rfl, 4, rfl, by decide, by decide, ?_⟩
    refine ⟨_, rfl, k, a, _, rfl, hs, fun H1 s1 => ⟨true, rfl, iteF ?_⟩⟩
    refine ⟨_, rfl, k, a, xs, rfl, hs.same s1, fun J wk => for_it wk (fun i σ H2 => ∃ v1 v2 : Option V, σ = [some (.int 4), some (.int 6), some (.ref a), v1, v2] ∧ Same H H2) ⟨_, _, rfl, s1⟩ (fun i σ H2 _ ⟨_, _, _, s2⟩ => hs.same s2) ?_ ?_⟩
    · rintro i x σ H2 H3 hi ⟨v1, v2, rfl, s2⟩ ⟨t, x1, x2, rfl, hn, rfl, e1, e2⟩
      obtain rfl := Option.some.inj e1
      have s3 : Same H (upd H2 t (.tup [.int (i : Nat), x2])) := s2.trans (same_upd hn)
      obtain ⟨q1, hq1⟩ : ∃ q1, b[i]? = some q1 := ⟨_, List.getElem?_eq_getElem (hl ▸ hi)⟩
      obtain ⟨c, kc, e3, e4⟩ := hat i q1 hq1
      have e2' : xs[i]? = some x2 := e2
      rw [e2'] at e3
      obtain rfl := Option.some.inj e3
      obtain ⟨g1, g2⟩ := hok q1 (List.mem_of_getElem? hq1)
      refine ⟨t, _, rfl, SqT.of upd_same, rfl, _, _, rfl, _, _, rfl, rfl, ?_⟩
      refine ⟨_, rfl, _, rfl, _, rfl, kc, c, q1.1, q1.2, 4, 6, rfl, e4.same s3, g1, g2, fun H4 s4 => ⟨true, rfl, iteF ?_⟩⟩
      exact ⟨_, _, rfl, s3.trans s4⟩
    · rintro σ H2 ⟨v1, v2, rfl, s2⟩
      refine ⟨_, rfl, k, a, xs, rfl, hs.same s2, fun J wk D hD => lc_it wk (LtPv K H2 D b) LtPv.start (fun i H' _ h => hs.same (s2.trans <| h.1.new hD)) ?_ ?_⟩
      · rintro i x H3 H4 hi pv3 ⟨rfl, hx⟩
        obtain ⟨q1, hq1⟩ : ∃ q1, b[i]? = some q1 := ⟨_, List.getElem?_eq_getElem (hl ▸ hi)⟩
        obtain ⟨c, kc, e1, e2⟩ := hat i q1 hq1
        rw [hx] at e1
        obtain rfl := Option.some.inj e1
        have e3 := e2.same (s2.trans <| pv3.1.new hD)
        refine ⟨rfl, _, rfl, c, [.int q1.1, .int q1.2], rfl, ?_⟩
        cases kc with
        | l => exact .inl ⟨e3, fun t ht => pv3.step (by omega) hq1 (same_upd ht) (SqT.of upd_same)⟩
        | t => exact .inr ⟨e3, pv3.step (by omega) hq1 (Same.refl _) e3⟩
      · rintro H3 pv3
        rw [hl] at pv3
        obtain ⟨b1, acc, hD', hd⟩ := id pv3
        refine ⟨_, acc, rfl, .inl ⟨SqL.of hD', fun t ht => ?_⟩⟩
        obtain ⟨s4, d4⟩ := pv3.all hD acc hD' ht
        exact q t _ (s2.trans s4) d4
theorem sc_begun_octets : FnScope ["sign", "history", "told", "found", "letter"] ["sign", "history"] (defScope s_begun_octets) := ⟨rfl, rfl, rfl, by decide +kernel, rfl, by decide +kernel, by decide +kernel⟩
theorem ok_begun_octets (T : Txt K mg w) : DefOk P w K mg base CX0 6 (He.ga K "begun_octets") ["sign", "history"] (spBegunOct K) := by
  obtain ⟨fd, F⟩ := T.f_begun_octets
  obtain ⟨t1, g1⟩ := T.i_SIGNS
  obtain ⟨t2, g2⟩ := T.i_MOST_HANDS
  obtain ⟨t3, g3⟩ := T.i_MOST_DEEDS
  obtain ⟨t4, g4⟩ := T.i_MOST_BEGUN
  obtain ⟨t5, g5⟩ := T.i_MANY_OCTETS
  refine ⟨fd, F.ok sc_begun_octets (fun vs H Q E h => ?_) (fun cdv A outer s H vs Q E hr h => ?_), F.bindsN fun _ _ _ _ _ _ us hl => match us, hl with | [_, _], _ => rfl, F.kp⟩
  · obtain ⟨k, a, s, b, rfl, hb, hok, hz, hs3, q⟩ := h
    rfl
  · obtain ⟨k, a, s, b, rfl, hb, hok, hz, hs3, q⟩ := h
    refine ⟨_, PSs.nox (pss_cons (ps_if (pt_not (pt_val (pe_d (ok_is_below T) (hr.mono (by decide)) (by rfl) T.g_is_below pass0 (pa_cons (pv 0) (pa_cons (pe_glob (v := .int 3) (by rfl) g1 ⟨_, rfl⟩) pa_nil))))) (pss_one ps_never) pss_nil) (pss_cons (ps_set (i := 2) sc_begun_octets.nd rfl (.inl rfl) (pe_d (ok_check_row T) (hr.mono (by decide)) (by rfl) T.g_check_row pass0 (pa_cons (pe_glob (v := .int 4) (by rfl) g2 ⟨_, rfl⟩) (pa_cons (pe_glob (v := .int 6) (by rfl) g3 ⟨_, rfl⟩) (pa_cons (pv 1) pa_nil))))) (pss_cons (ps_if (pt_cmpR op_ge (pe_callB call_len (by rfl) T.b_len (by decide +kernel) (pa_cons (pv 2) pa_nil)) (pe_glob (v := .int 65536) (by rfl) g4 ⟨_, rfl⟩) (nomark _)) (pss_one ps_never) pss_nil) (pss_cons (ps_set (i := 3) sc_begun_octets.nd rfl (.inl rfl) (pe_op op_catA (pe_tup (pa_cons (pv 0) pa_nil)) (pe_d (ok_number_octets T) (hr.mono (by decide)) (by rfl) T.g_number_octets pass0 (pa_cons (pe_callB call_len (by rfl) T.b_len (by decide +kernel) (pa_cons (pv 2) pa_nil)) (pa_cons (pe_glob (v := .int 2) (by rfl) g5 ⟨_, rfl⟩) pa_nil))))) (pss_cons (ps_for PassesOwn.never rfl (pi_seq (pv 2)) (pg_name (i := 4) sc_begun_octets.nd rfl (.inl rfl)) (pss_one (ps_set (i := 3) sc_begun_octets.nd rfl (.inl rfl) (pe_op op_catA (pv 3) (pv 4))))) (pss_one (ps_ret (pv 3)))))))), ?_⟩
    refine ⟨_, rfl, s, 3, rfl, _, rfl, ?_⟩
    rw [decide_eq_true hs3]
    refine iteF ?_
    refine ⟨_, rfl, k, a, b, rfl, hb, hok, hz, fun t H1 s1 d1 => ?_⟩
    obtain ⟨t', xs, et, ht, hd⟩ := of_hs d1
    cases et
    have hl := dpAll_len hd
    rw [List.length_map] at hl
    refine ⟨_, rfl, .ref t, _, rfl, len_sq (k := .t) ht, _, _, rfl, rfl, _, rfl, df (by omega) ?_⟩
    refine ⟨_, rfl, szl (lk rfl), fun u hu => ?_⟩
    have h2 : SqT K (upd H1 u (.tup [.int s])) t xs := sqT_same (same_upd hu) ht
    refine ⟨_, rfl, .ref t, _, rfl, len_sq (k := .t) h2, (xs.length : Int), rfl, by omega, by omega, fun n2 H2 s2 hn2 => ?_⟩
    refine ⟨u, n2, [.int s], _, rfl, rfl, SqT.of (s2 _ _ upd_same), hn2, szl (lk rfl), fun z => (by cases z), fun _ z => (by cases z), fun _ _ f hf => ?_⟩
    rw [hl]
    have s3 : Same H1 (upd H2 f (.tup ([.int s] ++ [.int ((b.length : Int) / 256), .int ((b.length : Int) % 256)]))) := ((same_upd hu).trans s2).trans (same_upd hf)
    have h3 : SqT K (upd H2 f (.tup ([.int s] ++ [.int ((b.length : Int) / 256), .int ((b.length : Int) % 256)]))) f ((s :: ((b.length : Int) / 256) :: ((b.length : Int) % 256) :: encL (b.take 0)).map V.int) := SqT.of upd_same
    refine ⟨_, rfl, .t, t, xs, rfl, sqT_same s3 ht, fun J wk => for_it wk (fun i σ H2 => ∃ (g : Addr) (x4 : Option V), σ = [some (.int s), some (.ref a), some (.ref t), some (.ref g), x4] ∧ Same H1 H2 ∧
      SqT K H2 g ((s :: ((b.length : Int) / 256) :: ((b.length : Int) % 256) :: encL (b.take i)).map V.int)) ⟨f, none, rfl, s3, h3⟩ (fun i σ H2 _ ⟨_, _, _, s2, _⟩ => sqT_same s2 ht) ?_ ?_⟩
    · rintro i x σ H4 H5 hi ⟨g, x4, rfl, s4, h4⟩ ⟨rfl, hx⟩
      have hi' : i < b.length := by rw [← hl]; exact hi
      obtain ⟨q1, hq1⟩ : ∃ q1, b[i]? = some q1 := ⟨_, List.getElem?_eq_getElem hi'⟩
      obtain ⟨d, e1, e2⟩ := dpAll_get (dp_sameAll s4 hd) hx
      rw [List.getElem?_map, hq1] at e1
      obtain rfl := Option.some.inj e1
      obtain ⟨c, rfl, hc⟩ := of_lt e2
      have ll := encL_len (b.take i)
      rw [List.length_take] at ll
      refine ⟨_, rfl, _, rfl, g, c, _, _, rfl, rfl, h4, hc, ?_, fun z => (by cases z), fun _ z => (by cases z), fun _ _ f2 hf2 => ⟨f2, _, rfl, s4.trans (same_upd hf2), ?_⟩⟩
      · rw [List.length_map]
        simp only [List.length_cons, List.length_nil, ll, sizeLine_eq]
        omega
      · rw [encL_snoc hq1]
        have e : ((s :: ((b.length : Int) / 256) :: ((b.length : Int) % 256) :: (encL (b.take i) ++ [q1.1, q1.2])).map V.int) = (s :: ((b.length : Int) / 256) :: ((b.length : Int) % 256) :: encL (b.take i)).map V.int ++ [.int q1.1, .int q1.2] := by simp
        rw [e]
        exact SqT.of upd_same
    · rintro σ H4 ⟨g, x4, rfl, s4, h4⟩
      rw [hl, List.take_length] at h4
      exact ⟨_, rfl, q g H4 (s1.trans s4) h4⟩
theorem sc_begun_at : FnScope ["reading", "sign", "many", "found", "turn"] ["reading"] (defScope s_begun_at) := ⟨rfl, rfl, rfl, by decide +kernel, rfl, by decide +kernel, by decide +kernel⟩
theorem ok_begun_at (hP : PrgOk P) (T : Txt K mg w) : DefOk P w K mg base (L2.CX P w) 3 (He.ga K "begun_at") ["reading"] (spBegunAt K) := by
  obtain ⟨fd, F⟩ := T.f_begun_at
  obtain ⟨fdt, Ft, bt, kt⟩ := ok_Reading_take (P := P) (base := base) hP T
  obtain ⟨fdn, Fn, bn, kn⟩ := ok_Reading_take_number (P := P) (base := base) hP T
  obtain ⟨t1, g1⟩ := T.i_SIGNS
  obtain ⟨t2, g2⟩ := T.i_MOST_HANDS
  obtain ⟨t3, g3⟩ := T.i_MOST_DEEDS
  obtain ⟨t5, g5⟩ := T.i_MANY_OCTETS
  refine ⟨fd, F.ok sc_begun_at (fun vs H Q E h => ?_) (fun cdv A outer s H vs Q E hr h => ?_), F.bindsN fun _ _ _ _ _ _ us hl => match us, hl with | [_], _ => rfl, F.kp⟩
  · obtain ⟨p, l, s, b, ps, m, rfl, hr1, el, hs3, hok, hz, q1, q2⟩ := h
    rfl
  · obtain ⟨p, l, s, b, ps, m, rfl, hr1, el, hs3, hok, hz, q1, q2⟩ := h
    refine ⟨_, (pss_cons (ps_par (i := 1) (j := 2) rfl sc_begun_at.nd rfl rfl (by decide) rfl rfl (pa_cons (pe_meth (pv 0) T.c_Reading T.m_Reading_take Ft (hr.mono (by decide)) bt .nil (passes_call (takes_of rfl rfl rfl rfl) fun _ _ _ _ h => h) (pa_cons pe_int (pa_cons (pe_op op_sub (pe_glob (v := .int 3) (by rfl) g1 ⟨_, rfl⟩) pe_int) pa_nil))) (pa_cons (pe_meth (pv 0) T.c_Reading T.m_Reading_take_number Fn (hr.mono (by decide)) bn .nil (passes_call (takes_of rfl rfl rfl rfl) fun _ _ _ _ h => h) (pa_cons (pe_glob (v := .int 2) (by rfl) g5 ⟨_, rfl⟩) pa_nil)) pa_nil)) (by rfl)) (pss_cons (ps_set (i := 3) sc_begun_at.nd rfl (.inl rfl) (pe_lst pa_nil)) (pss_cons (ps_for (passes_of rfl) rfl (pi_range1 (by rfl) T.b_range (pa_cons (pv 2) pa_nil)) (pg_name (i := 4) sc_begun_at.nd rfl (.inl rfl)) (pss_one (ps_expr (pe_bm PySem.F.plainAttrs_list PySem.F.slot_list_append PySem.F.type_list_append mt_append (pv 3) (pa_cons (pe_tup (pa_cons (pe_meth (pv 0) T.c_Reading T.m_Reading_take Ft (hr.mono (by decide)) bt .nil (passes_call (takes_of rfl rfl rfl rfl) fun _ _ _ _ h => h) (pa_cons pe_int (pa_cons (pe_op op_sub (pe_glob (v := .int 4) (by rfl) g2 ⟨_, rfl⟩) pe_int) pa_nil))) (pa_cons (pe_meth (pv 0) T.c_Reading T.m_Reading_take Ft (hr.mono (by decide)) bt .nil (passes_call (takes_of rfl rfl rfl rfl) fun _ _ _ _ h => h) (pa_cons pe_int (pa_cons (pe_op op_sub (pe_glob (v := .int 6) (by rfl) g3 ⟨_, rfl⟩) pe_int) pa_nil))) pa_nil))) pa_nil))))) (pss_one (ps_ret (pe_tup (pa_cons (pv 1) (pa_cons (pe_callTy call_tuple_of (by rfl) T.b_tuple (by decide +kernel) (pa_cons (pv 3) pa_nil)) pa_nil)))))))), ?_⟩
    have at_ : ∀ j, j < bl b → l[j]? = if j < m then (encB s b)[j]? else none := fun j hj => by
      rw [el]
      exact enc_at hj
    have b3 : 3 ≤ bl b := Nat.le_add_right _ _
    have low : ∀ j, j < bl b → l[j]? = none → m < bl b := fun j hj hn => by
      rw [at_ j hj] at hn
      split at hn
      · have := List.getElem?_eq_none_iff.mp hn
        rw [encB_len] at this
        omega
      · omega
    have hit : ∀ j c c', j < bl b → l[j]? = some c → (encB s b)[j]? = some c' → c = c' := fun j c c' hj hc he => by
      rw [at_ j hj] at hc
      split at hc
      · rw [he] at hc
        exact (Option.some.inj hc).symm
      · cases hc
    have lt : ∀ j c, j < bl b → l[j]? = some c → j < m := fun j c hj hc => by
      rw [at_ j hj] at hc
      split at hc
      · assumption
      · cases hc
    obtain ⟨o, dx, e, hp, ho⟩ := id hr1
    refine ⟨_, rfl, p, dx, _, rfl, hp, rfl, _, _, rfl, rfl, ?_⟩
    refine ⟨p, l, 0, 0, 2, rfl, hr1, fun c hc => ?_, fun hn d H' s' ed => q2 (low 0 (by omega) hn) d H' (But.of s') ed⟩
    obtain rfl := hit 0 c s (by omega) hc rfl
    refine ⟨hs3.1, by omega, fun H1 b1 r1 => ?_⟩
    obtain ⟨o1, dx1, e1, hp1, ho1⟩ := id r1
    refine ⟨_, rfl, p, dx1, _, rfl, hp1, rfl, ?_⟩
    refine ⟨p, l, 1, rfl, r1, fun c1 hc1 => ?_, fun hn d H' b' ed => q2 (hn.elim (low 1 (by omega)) (low 2 (by omega))) d H' (b1.trans b') ed⟩
    have e1 := hit 1 c1 ((b.length : Int) / 256) (by omega) hc1 rfl
    refine ⟨by omega, fun c2 hc2 => ?_⟩
    have e2 := hit 2 c2 ((b.length : Int) % 256) (by omega) hc2 rfl
    refine ⟨by omega, fun H2 b2 r2 => ⟨_, _, rfl, ?_⟩⟩
    have em : c1 * 256 + c2 = (b.length : Int) := by omega
    rw [em]
    refine ⟨szl (lk rfl), fun f hf => ?_⟩
    have b12 := b1.trans b2
    have fp : f ≠ p := fun z => by
      obtain ⟨o2, dx2, e2, hp2, ho2⟩ := r2
      rw [z, hp2] at hf
      cases hf
    have hf0 : H f = none := b12.none_of fp hf
    refine ⟨_, rfl, (b.length : Int), rfl, by omega, by omega, ?_⟩
    rw [Int.toNat_natCast]
    refine for_it walk_range (fun i σ H' => ∃ (x4 : Option V) (acc : List V), σ = [some (.ref p), some (.int c), some (.int (b.length : Int)), some (.ref f), x4] ∧ But p H H' ∧ RdAt K H' p l (3 + 2 * i) ∧ H' f = some (.lst acc) ∧ 3 + 2 * i ≤ m ∧ DpAll K H' acc ((b.take i).map dLt))
      ⟨none, [], rfl, b12.trans (But.of (same_upd hf)), r2.same (same_upd hf), upd_same, lt 2 c2 (by omega) hc2, .nil⟩ (fun _ _ _ _ _ => trivial) ?_ ?_
    · rintro i x σ H3 H4 hi ⟨x4, acc, rfl, b3', r3, hf3, hm3, hd3⟩ ⟨rfl, rfl⟩
      obtain ⟨q0, hq0⟩ : ∃ q0, b[i]? = some q0 := ⟨_, List.getElem?_eq_getElem hi⟩
      obtain ⟨g1', g2'⟩ := hok q0 (List.mem_of_getElem? hq0)
      have ib : bl b = 3 + 2 * b.length := rfl
      have hi' : i < b.length := hi
      have a0 : (encB c b)[3 + 2 * i]? = some q0.1 := by
        rw [Nat.add_comm]
        exact encL_at0 hq0
      have a1 : (encB c b)[3 + 2 * i + 1]? = some q0.2 := by
        rw [show 3 + 2 * i + 1 = (2 * i + 1) + 3 by omega]
        exact encL_at1 hq0
      obtain ⟨o3, dx3, e3, hp3, ho3⟩ := id r3
      refine ⟨_, rfl, .inl ⟨rfl, acc, SqL.of hf3⟩, _, rfl, p, dx3, _, rfl, hp3, rfl, _, _, rfl, rfl, ?_⟩
      refine ⟨p, l, 3 + 2 * i, 0, 3, rfl, r3, fun c3 hc3 => ?_, fun hn d H' s' ed => q2 (low _ (by omega) hn) d H' (b3'.trans (But.of s')) ed⟩
      obtain rfl := hit _ c3 _ (by omega) hc3 a0
      refine ⟨by omega, by omega, fun H5 b5 r5 => ?_⟩
      obtain ⟨o5, dx5, e5, hp5, ho5⟩ := id r5
      refine ⟨_, rfl, p, dx5, _, rfl, hp5, rfl, _, _, rfl, rfl, ?_⟩
      refine ⟨p, l, 3 + 2 * i + 1, 0, 5, rfl, r5, fun c4 hc4 => ?_, fun hn d H' s' ed => q2 (low _ (by omega) hn) d H' ((b3'.trans b5).trans (But.of s')) ed⟩
      obtain rfl := hit _ c4 _ (by omega) hc4 a1
      refine ⟨by omega, by omega, fun H6 b6 r6 => ⟨szl (lk rfl), fun t ht => ?_⟩⟩
      have b56 := b5.trans b6
      have hf6 : H6 f = some (.lst acc) := b56 f _ fp hf3
      have hf7 : upd H6 t (.tup [.int q0.1, .int q0.2]) f = some (.lst acc) := same_upd ht f _ hf6
      have ll := lts_len hd3
      have hd6 : DpAll K H6 acc ((b.take i).map dLt) := dp_keepAll (fun _ _ => sqL_but noSq_ins hp3 b56) (fun _ _ => sqT_but noSq_ins hp3 b56) _ _ hd3
      refine ⟨f, acc, _, rfl, rfl, hf7, by rw [sizeLine_eq]; omega, ?_⟩
      obtain ⟨o6, dx6, e6, hp6, ho6⟩ := r6.same (same_upd (o := .tup [.int q0.1, .int q0.2]) ht)
      refine ⟨_, _, rfl, ((b3'.trans b56).trans (But.of (same_upd ht))).updF hf0, ⟨o6, dx6, e6, (upd_ne (Ne.symm fp)).trans hp6, sqT_butL hf7 But.upd ho6⟩, upd_same, ?_, ?_⟩
      · have := lt _ _ (by omega) hc4
        omega
      · have e : (b.take (i + 1)).map dLt = (b.take i).map dLt ++ [dLt q0] := by
          rw [take_snoc hq0, List.map_append]
          rfl
        rw [e]
        exact dpAll_snoc (dpAll_butL hf7 But.upd (noLs_lts _) (dp_sameAll (same_upd ht) hd6)) (dp_lt (sqT_butL hf7 But.upd (SqT.of upd_same)))
    · rintro σ H3 ⟨x4, acc, rfl, b3', r3, hf3, hm3, hd3⟩
      rw [List.take_length] at hd3
      have hbm : bl b ≤ m := hm3
      refine ⟨_, rfl, _, rfl, f, acc, rfl, .inl ⟨SqL.of hf3, fun t ht => ⟨szl (lk rfl), fun r hr' => ?_⟩⟩⟩
      have s4 : Same H3 (upd H3 t (.tup acc)) := same_upd ht
      have s5 : Same (upd H3 t (.tup acc)) (upd (upd H3 t (.tup acc)) r (.tup [.int c, .ref t])) := same_upd hr'
      exact q1 hbm r (.ref t) _ (b3'.trans (But.of (s4.trans s5))) (r3.same (s4.trans s5)) (SqT.of upd_same) (dp_same s5 (.tup (SqT.of upd_same) (dp_sameAll s4 hd3)))
end
end K62

set_option Elab.async false
set_option linter.all false
set_option maxRecDepth 100000
set_option maxHeartbeats 4000000
/-! K62J: page_told, later_page, plain_journal. (printed by gen_plain.py) -/
namespace K62
open PySem PySem.Spec PyProof.Rows L2
theorem pg_tupK {X : Cx} {K : PySem.W.Frag} {es : List Expr} {k : Nat} {t : TGs} {n : Nat} {pos : Pos} (hK : X.K = K) (hc : X.calm = true) (h : PGs X es t)
    (hn : (assignEach es X.env).length = n := by rfl) (hst : (assignEach es X.env).findIdx? (·.1) = none := by rfl) : PG X (.Tuple es k pos) (gTup K n t) := by
  subst hK
  exact pg_tup hc h hn hst
def ToldV (K : PySem.W.Frag) (H : Hp) (v : V) (t : Told) : Prop := ∃ (r : Addr) (x y : V), v = .ref r ∧ SqT K H r [.int t.1, x, y, .int (t.2.2.2 : Nat)] ∧ Dp K H x (dHs t.2.1) ∧ Dp K H y (dPs t.2.2.1)
def ToldO (K : PySem.W.Frag) (H : Hp) (v : V) : Option Told → Prop
  | none => v = .non
  | some t => ToldV K H v t
def spPageTold (K : PySem.W.Frag) : Sp := fun vs H Q _ => ∃ (k : Kd) (a : Addr) (P : Pg), vs = [.ref a] ∧ Sq K H k a (P.l.map V.int) ∧ P.Ok ∧ P.ps.length < 1000000 ∧ ∀ v H', Same H H' → ToldO K H' v P.told → Q v H'
def spLater (K : PySem.W.Frag) : Sp := fun vs H Q _ => ∃ (a : Addr) (x y : Int), vs = [.ref a] ∧ SqT K H a [.int x, .int y] ∧ x ≠ y ∧ Q (.int (if (x + 1) % 3 = y then 1 else 0)) H
def dTold (pg : Nat) (t : Told) : PyData := .tuple [.int (pg : Nat), .int t.1, dHs t.2.1, dPs t.2.2.1, .int (t.2.2.2 : Nat)]
def spPlain (K : PySem.W.Frag) : Sp := fun vs H Q _ => ∃ (k k0 k1 : Kd) (a a0 a1 : Addr) (P0 P1 : Pg) (pg : Nat) (t : Told), vs = [.ref a] ∧ Sq K H k a [.ref a0, .ref a1] ∧ Sq K H k0 a0 (P0.l.map V.int) ∧ Sq K H k1 a1 (P1.l.map V.int) ∧
  P0.Ok ∧ P1.Ok ∧ P0.ps.length < 1000000 ∧ P1.ps.length < 1000000 ∧ plainJ P0 P1 = some (pg, t) ∧ ∀ r x y H', Same H H' → SqT K H' r [.int (pg : Nat), .int t.1, x, y, .int (t.2.2.2 : Nat)] → Dp K H' x (dHs t.2.1) → Dp K H' y (dPs t.2.2.1) → Q (.ref r) H'
theorem ToldV.same {K : PySem.W.Frag} {H H' : Hp} {v : V} {t : Told} (h : ToldV K H v t) (s : Same H H') : ToldV K H' v t := by
  obtain ⟨r, x, y, e, h1, h2, h3⟩ := h
  exact ⟨r, x, y, e, sqT_same s h1, dp_same s h2, dp_same s h3⟩
theorem ToldV.butN {K : PySem.W.Frag} {H H' : Hp} {v : V} {t : Told} {p : Addr} {o : HO} (h : ToldV K H v t) (n : NoSq o) (hp : H p = some o) (s : But p H H') : ToldV K H' v t := by
  obtain ⟨r, x, y, e, h1, h2, h3⟩ := h
  exact ⟨r, x, y, e, sqT_but n hp s h1, dp_but n hp s h2, dp_but n hp s h3⟩
theorem encL_octet : ∀ {b : Hist}, OkH b → ∀ i ∈ encL b, 0 ≤ i ∧ i < 256
  | [], _, i, h => (List.not_mem_nil h).elim
  | q :: r, hb, i, h => by
    obtain ⟨h1, h2⟩ := hb q (List.mem_cons_self ..)
    have h' : i ∈ q.1 :: q.2 :: encL r := h
    rcases List.mem_cons.mp h' with e | h'
    · omega
    · rcases List.mem_cons.mp h' with e | h'
      · omega
      · exact encL_octet (fun z hz => hb z (List.mem_cons_of_mem _ hz)) i h'
theorem encB_octet {s : Int} {b : Hist} (s0 : 0 ≤ s) (s3 : s < 3) (hb : OkH b) (hz : b.length < 65536) : ∀ i ∈ encB s b, 0 ≤ i ∧ i < 256 := by
  intro i h
  have h' : i ∈ s :: ((b.length : Int) / 256) :: ((b.length : Int) % 256) :: encL b := h
  rcases List.mem_cons.mp h' with e | h'
  · omega
  · rcases List.mem_cons.mp h' with e | h'
    · omega
    · rcases List.mem_cons.mp h' with e | h'
      · omega
      · exact encL_octet hb i h'
theorem Pg.octet {P : Pg} (h : P.Ok) : ∀ i ∈ P.l, 0 ≤ i ∧ i < 256 := by
  intro i hi
  have hi' : i ∈ encB P.s P.b ++ encP P.ps := List.mem_of_mem_take hi
  rcases List.mem_append.mp hi' with z | z
  · exact encB_octet h.s0 h.s3 h.hb h.bz i z
  · exact encP_octet h.hp i z
theorem cutV_from {xs : List V} {k : Nat} (h : k ≤ xs.length) : cutV xs (some (k : Int)) none = xs.drop k := by
  unfold cutV
  rw [HT.sIx_nat, HT.sIx_none, Nat.min_eq_left h, ← List.length_drop, List.take_length]
theorem cutV_to {xs : List V} {k : Nat} (h : k ≤ xs.length) : cutV xs none (some (k : Int)) = xs.take k := by
  unfold cutV
  rw [HT.sIx_nat, HT.sIx_none, Nat.min_eq_left h]
  rfl
theorem Pg.rest {s : Int} {b : Hist} {ps : List Pr} {m : Nat} : ((enc s b ps).take m).drop (bl b) = (encP ps).take (m - bl b) := by
  rw [List.drop_take]
  unfold enc
  rw [← encB_len s b, List.drop_left]
/-- what plain_journal gathers -/
def teS (P : Nat → Pg) : Nat → List (Int × Told)
  | 0 => []
  | i + 1 => match (P i).told with
    | some t => teS P i ++ [((i : Int), t)]
    | none => teS P i
theorem teS_lt (P : Nat → Pg) : ∀ (i : Nat) (x : Int × Told), x ∈ teS P i → x.1 < (i : Int)
  | 0, x, h => (List.not_mem_nil h).elim
  | i + 1, x, h => by
    unfold teS at h
    split at h
    · rcases List.mem_append.mp h with h | h
      · have := teS_lt P i x h
        omega
      · rw [List.mem_singleton.mp h]
        show (i : Int) < ((i + 1 : Nat) : Int)
        omega
    · have := teS_lt P i x h
      omega
def KvOk (K : PySem.W.Frag) (H : Hp) : List (Key × V) → List (Int × Told) → Prop
  | [], [] => True
  | kv :: r, it :: s => kv.1 = .inl it.1 ∧ ToldV K H kv.2 it.2 ∧ KvOk K H r s
  | _, _ => False
theorem KvOk.imp {K : PySem.W.Frag} {H H' : Hp} (f : ∀ v t, ToldV K H v t → ToldV K H' v t) : ∀ {kvs : List (Key × V)} {l : List (Int × Told)}, KvOk K H kvs l → KvOk K H' kvs l
  | [], [], _ => trivial
  | _ :: _, _ :: _, h => ⟨h.1, f _ _ h.2.1, KvOk.imp f h.2.2⟩
theorem KvOk.snoc {K : PySem.W.Frag} {H : Hp} {i : Int} {v : V} {t : Told} (hv : ToldV K H v t) : ∀ {kvs : List (Key × V)} {l : List (Int × Told)}, KvOk K H kvs l → KvOk K H (kvs ++ [(.inl i, v)]) (l ++ [(i, t)])
  | [], [], _ => ⟨rfl, hv, trivial⟩
  | _ :: _, _ :: _, h => ⟨h.1, h.2.1, KvOk.snoc hv h.2.2⟩
theorem KvOk.put {K : PySem.W.Frag} {H : Hp} {i : Int} {v : V} : ∀ {kvs : List (Key × V)} {l : List (Int × Told)}, KvOk K H kvs l → (∀ x ∈ l, x.1 < i) → putK kvs (.inl i) v = kvs ++ [(.inl i, v)] := by
  intro kvs l h hl
  have e : (kvs.any fun kv => decide (kv.1 = .inl i)) = false := by
    induction kvs generalizing l with
    | nil => rfl
    | cons kv r ih =>
      cases l with
      | nil => exact h.elim
      | cons it s =>
        obtain ⟨h1, _, h3⟩ := h
        rw [List.any_cons, ih h3 fun x hx => hl x (List.mem_cons_of_mem _ hx), h1]
        have := hl it (List.mem_cons_self ..)
        have ne : ¬ (Sum.inl it.1 : Key) = .inl i := fun z => by
          have := Sum.inl.inj z
          omega
        rw [decide_eq_false ne]
        rfl
  unfold putK
  rw [e]
  rfl
theorem KvOk.one {K : PySem.W.Frag} {H : Hp} {i : Int} {t : Told} : ∀ {kvs : List (Key × V)}, KvOk K H kvs [(i, t)] → ∃ v, kvs = [(.inl i, v)] ∧ ToldV K H v t
  | [], h => h.elim
  | [kv], h => ⟨kv.2, by rw [← h.1], h.2.1⟩
  | _ :: _ :: _, h => h.2.2.elim
theorem KvOk.pair {K : PySem.W.Frag} {H : Hp} {i j : Int} {t u : Told} : ∀ {kvs : List (Key × V)}, KvOk K H kvs [(i, t), (j, u)] → ∃ v x, kvs = [(.inl i, v), (.inl j, x)] ∧ ToldV K H v t ∧ ToldV K H x u
  | [], h => h.elim
  | [_], h => h.2.2.elim
  | [kv, kw], h => ⟨kv.2, kw.2, by rw [← h.1, ← h.2.2.1], h.2.1, h.2.2.2.1⟩
  | _ :: _ :: _ :: _, h => h.2.2.2.2.elim
def two {α : Type} (a b : α) (i : Nat) : α := if i = 0 then a else b
theorem teS_2 {P0 P1 : Pg} : teS (two P0 P1) 2 = (match P1.told with | some t => (match P0.told with | some t => [(((0 : Nat) : Int), t)] | none => []) ++ [(((1 : Nat) : Int), t)] | none => (match P0.told with | some t => [(((0 : Nat) : Int), t)] | none => [])) := by
  show (match (two P0 P1 1).told with | some t => teS (two P0 P1) 1 ++ [(((1 : Nat) : Int), t)] | none => teS (two P0 P1) 1) = _
  have e : teS (two P0 P1) 1 = (match P0.told with | some t => [(((0 : Nat) : Int), t)] | none => []) := by
    show (match (two P0 P1 0).told with | some t => [] ++ [(((0 : Nat) : Int), t)] | none => []) = _
    rfl
  rw [e]
  rfl
theorem KvOk.len {K : PySem.W.Frag} {H : Hp} : ∀ {kvs : List (Key × V)} {l : List (Int × Told)}, KvOk K H kvs l → kvs.length = l.length
  | [], [], _ => rfl
  | _ :: _, _ :: _, h => by rw [List.length_cons, List.length_cons, KvOk.len h.2.2]
theorem teS_len (P : Nat → Pg) : ∀ i, (teS P i).length ≤ i
  | 0 => Nat.le_refl _
  | i + 1 => by
    have := teS_len P i
    unfold teS
    split
    · rw [List.length_append, List.length_singleton]
      omega
    · omega
section
variable {P : Program} {w : World} {K : PySem.W.Frag} {mg : Str → Option Value} {base : Heap}

theorem sc_page_told : FnScope ["octets", "told", "reading", "sign", "history", "fault", "presses", "behind"] ["octets"] (defScope s_page_told) := ⟨rfl, rfl, rfl, by decide +kernel, rfl, by decide +kernel, by decide +kernel⟩
theorem ok_page_told (hP : PrgOk P) (T : Txt K mg w) : DefOk P w K mg base CX0 6 (He.ga K "page_told") ["octets"] (spPageTold K) := by
  obtain ⟨fd, F⟩ := T.f_page_told
  obtain ⟨BT, XF⟩ := BrkTxt.of T.br T.br_fn
  obtain ⟨fdi, Fi, bi, ki⟩ := ok_Reading_init (P := P) (base := base) hP T
  refine ⟨fd, F.ok sc_page_told (fun vs H Q E h => ?_) (fun cdv A outer s H vs Q E hr h => ?_), F.bindsN fun _ _ _ _ _ _ us hl => match us, hl with | [_], _ => rfl, F.kp⟩
  · obtain ⟨k, a, Pq, rfl, ha, hok, hbig, q⟩ := h
    rfl
  · obtain ⟨k, a, Pq, rfl, ha, hok, hbig, q⟩ := h
    refine ⟨_, PSs.nox (pss_cons (ps_set (i := 1) sc_page_told.nd rfl (.inl rfl) (pe_d (ok_need_octets T) (hr.mono (by decide)) (by rfl) T.g_need_octets pass0 (pa_cons (pv 0) pa_nil))) (pss_cons (ps_set (i := 2) sc_page_told.nd rfl (.inl rfl) (pe_make T.k_Reading Fi (hr.mono (by decide)) (by rfl) T.g_Reading bi .nil pass0 (pa_cons (pv 1) (pa_cons pe_int (pa_cons pe_bl pa_nil))))) (pss_cons (ps_try_as (i := 5) rfl rfl sc_page_told.nd rfl rfl ⟨by rfl, by decide, .inl T.g_Broken⟩ takes0
      (fun W pn xe tk _ => (pss_one (ps_asg (pe_dS (ok_begun_at hP T) (hr.mono (by decide)) (by rfl) T.g_begun_at (passAt tk) (pa_cons (pv 2) pa_nil)) (pg_tupK (K := K) (n := 2) rfl rfl (pgs_cons (pg_name (i := 3) sc_page_told.nd rfl (.inl rfl)) (pgs_cons (pg_name (i := 4) sc_page_told.nd rfl (.inl rfl)) pgs_nil))))))
      (fun e oe cls d pn hz hf => (pss_cons (ps_if (pt_cmpR op_lt (pe_xf XF BT.na hz hf (pv 5)) (pe_callB (call_lenK (K := K) rfl) (by rfl) T.b_len (by decide +kernel) (pa_cons (pv 1) pa_nil)) (nomark _)) (pss_one ps_never) pss_nil) (pss_one (ps_ret pe_non))))) (pss_cons (ps_try_thru0 (pss_one (ps_asg (pe_d (ok_read_presses hP T) (hr.mono (by decide)) (by rfl) T.g_read_presses pass0 (pa_cons (pe_slice sl_tupA (pv 1) (po_some (pe_fld (pv 2) (by rfl))) po_none) pa_nil)) (pg_tup rfl (pgs_cons (pg_name (i := 6) sc_page_told.nd rfl (.inl rfl)) (pgs_cons (pg_name (i := 7) sc_page_told.nd rfl (.inl rfl)) pgs_nil)))))) (pss_one (ps_ret (pe_tup (pa_cons (pv 3) (pa_cons (pv 4) (pa_cons (pv 6) (pa_cons (pe_op op_add (pv 7) (pe_fld (pv 2) (by rfl))) pa_nil))))))))))), ?_⟩
    obtain ⟨ps, pb, pps, m⟩ := Pq
    refine ⟨_, rfl, k, a, _, rfl, ha, Pg.octet hok, fun b H1 s1 h1 => ?_⟩
    refine ⟨_, rfl, fun x dx hx hdx ne => ⟨x, b, dx, 0, rfl, upd_same, fun e H3 b3 hx3 => ⟨rfl, ?_⟩⟩⟩
    have s3 : Same H1 H3 := Same.made hx hdx fun c o e n => b3 c o n e
    have h3 := sqT_same s3 h1
    have r3 : RdAt K H3 x ((enc ps pb pps).take m) 0 := ⟨b, dx, e, hx3, h3⟩
    have l1 : ((enc ps pb pps).take m).length = min m (enc ps pb pps).length := List.length_take
    have l2 := enc_len ps pb pps
    have l3 : bl pb = 3 + 2 * pb.length := rfl
    refine ⟨_, rfl, x, (enc ps pb pps).take m, ps, pb, pps, m, rfl, r3, rfl, ⟨hok.s0, hok.s3⟩, hok.hb, hok.bz, fun hm r y H4 b4 r4 h4 d4 => ?_, fun hm d H4 b4 ed => ?_⟩
    · have s4 : Same H1 H4 := fun c o e => b4 c o (ne_of_none e hx) (s3 c o e)
      obtain ⟨o4, dx4, e4, hx4, ho4⟩ := id r4
      refine ⟨r, _, rfl, h4, rfl, _, _, rfl, _, _, rfl, rfl, ?_⟩
      have h4b := sqT_same s4 h1
      have ll : (((enc ps pb pps).take m).map V.int).length = min m (enc ps pb pps).length := by rw [List.length_map, l1]
      have lk2 : bl pb ≤ (((enc ps pb pps).take m).map V.int).length := by rw [ll]; omega
      refine ⟨_, rfl, _, rfl, x, _, dx4, _, _, rfl, hx4, T.c_Reading, T.n_Reading_at, rfl, _, rfl, b, _, rfl, h4b, fun z => ?_, fun _ c hc => ?_⟩
      · exfalso
        have z1 : min (bl pb) (((enc ps pb pps).take m).map V.int).length = 0 := (HT.sIx_nat _ 0 (bl pb)).symm.trans z.1
        omega
      · have e : cutV (((enc ps pb pps).take m).map V.int) (some ((bl pb : Nat) : Int)) none = ((encP pps).take (m - bl pb)).map V.int := by
          rw [cutV_from lk2, ← List.map_drop, Pg.rest]
        have s5 : Same H4 (upd H4 c (.tup (cutV (((enc ps pb pps).take m).map V.int) (some ((bl pb : Nat) : Int)) none))) := same_upd hc
        refine ⟨c, pps, m - bl pb, rfl, (by rw [← e]; exact SqT.of upd_same), hok.hp, hbig, fun r2 H6 s6 ⟨x2, h6, d6⟩ => ?_⟩
        have s46 := s5.trans s6
        refine ⟨r2, _, rfl, h6, rfl, _, _, rfl, _, _, rfl, rfl, ?_⟩
        refine ⟨_, rfl, _, rfl, _, rfl, _, rfl, _, rfl, x, _, dx4, _, _, rfl, s46 _ _ hx4, T.c_Reading, T.n_Reading_at, rfl, _, _, rfl, rfl, szl (lk rfl), fun t ht => ?_⟩
        have s7 := s46.trans (same_upd (o := .tup [.int ps, y, x2, .int ((plc pps (whole pps (m - bl pb)) : Nat) + (bl pb : Nat))]) ht)
        refine q _ _ ((s1.trans s4).trans s7) ?_
        have e2 : Pg.told ⟨ps, pb, pps, m⟩ = some (ps, pb, pps.take (whole pps (m - bl pb)), bl pb + plc pps (whole pps (m - bl pb))) := told_some hm
        rw [e2]
        refine ⟨t, y, x2, rfl, ?_, dp_same s7 d4, dp_same (same_upd ht) d6⟩
        have e3 : ((bl pb + plc pps (whole pps (m - bl pb)) : Nat) : Int) = ((plc pps (whole pps (m - bl pb)) : Nat) : Int) + ((bl pb : Nat) : Int) := by omega
        show SqT K _ t [.int ps, y, x2, .int ((bl pb + plc pps (whole pps (m - bl pb)) : Nat) : Int)]
        rw [e3]
        exact SqT.of upd_same
    · have s4 : Same H1 H4 := fun c o e => b4 c o (ne_of_none e hx) (s3 c o e)
      refine ⟨true, T.e_Broken, fun _ g hg => ?_, fun z => by cases z⟩
      have hb4 := sqT_same s4 h1
      refine ⟨_, rfl, rfl, rfl, d, _, _, rfl, ed, rfl, ?_⟩
      refine ⟨_, rfl, .ref b, _, rfl, len_sq (k := .t) hb4, _, _, rfl, rfl, _, rfl, ?_⟩
      rw [List.length_map]
      refine df (Int.lt_irrefl _) ?_
      refine q _ H4 (s1.trans s4) ?_
      have e : Pg.told ⟨ps, pb, pps, m⟩ = none := told_none hm
      rw [e]
      exact rfl
theorem sc_later_page : FnScope ["signs"] ["signs"] (defScope s_later_page) := ⟨rfl, rfl, rfl, by decide +kernel, rfl, by decide +kernel, by decide +kernel⟩
theorem ok_later_page (T : Txt K mg w) : DefOk P w K mg base CX0 1 (He.ga K "later_page") ["signs"] (spLater K) := by
  obtain ⟨fd, F⟩ := T.f_later_page
  obtain ⟨t1, g1⟩ := T.i_SIGNS
  refine ⟨fd, F.ok sc_later_page (fun vs H Q E h => ?_) (fun cdv A outer s H vs Q E hr h => ?_), F.bindsN fun _ _ _ _ _ _ us hl => match us, hl with | [_], _ => rfl, F.kp⟩
  · obtain ⟨a, x, y, rfl, ha, hne, q⟩ := h
    rfl
  · obtain ⟨a, x, y, rfl, ha, hne, q⟩ := h
    refine ⟨_, PSs.nox (pss_cons (ps_if (pt_cmpR op_eq (pe_ix ix_seq (pv 0) pe_int (fun _ _ => rfl)) (pe_ix ix_seq (pv 0) pe_int (fun _ _ => rfl)) (nomark _)) (pss_one ps_never) pss_nil) (pss_one (ps_ret (pe_ifExp (pt_cmpR op_eq (pe_op op_mod (pe_op op_add (pe_ix ix_seq (pv 0) pe_int (fun _ _ => rfl)) pe_int) (pe_glob (v := .int 3) (by rfl) g1 ⟨_, rfl⟩)) (pe_ix ix_seq (pv 0) pe_int (fun _ _ => rfl)) (nomark _)) pe_int pe_int)))), ?_⟩
    refine ⟨_, rfl, ix_t ha rfl ⟨_, rfl, ix_t ha rfl ⟨rfl, _, rfl, ?_⟩⟩⟩
    rw [vint_ne hne]
    refine iteF ?_
    refine ⟨_, rfl, ix_t ha rfl ⟨_, _, rfl, rfl, _, _, rfl, rfl, (show (0 : Int) < 3 by decide), _, rfl, ix_t ha rfl ⟨rfl, _, rfl, ?_⟩⟩⟩
    by_cases c : (x + 1) % 3 = y
    · rw [vint_eq c]
      refine iteT ?_
      rw [if_pos c] at q
      exact q
    · rw [vint_ne c]
      refine iteF ?_
      rw [if_neg c] at q
      exact q
end
end K62

set_option Elab.async false
set_option linter.all false
set_option maxRecDepth 100000
set_option maxHeartbeats 4000000
/-! K62L: plain_journal. (printed by gen_plain.py) -/
namespace K62
open PySem PySem.Spec PyProof.Rows L2
section
variable {P : Program} {w : World} {K : PySem.W.Frag} {mg : Str → Option Value} {base : Heap}

theorem sc_plain_journal : FnScope ["pages", "some", "page", "octets", "told", "fault"] ["pages"] (defScope s_plain_journal) := ⟨rfl, rfl, rfl, by decide +kernel, rfl, by decide +kernel, by decide +kernel⟩
theorem ok_plain_journal (hP : PrgOk P) (T : Txt K mg w) : DefOk P w K mg base CX0 7 (He.ga K "plain_journal") ["pages"] (spPlain K) := by
  obtain ⟨fd, F⟩ := T.f_plain_journal
  refine ⟨fd, F.ok sc_plain_journal (fun vs H Q E h => ?_) (fun cdv A outer s H vs Q E hr h => ?_), F.bindsN fun _ _ _ _ _ _ us hl => match us, hl with | [_], _ => rfl, F.kp⟩
  · obtain ⟨k, k0, k1, a, a0, a1, P0, P1, pg, t, rfl, ha, h0, h1, o0, o1, z0, z1, hj, q⟩ := h
    rfl
  · obtain ⟨k, k0, k1, a, a0, a1, P0, P1, pg, t, rfl, ha, h0, h1, o0, o1, z0, z1, hj, q⟩ := h
    refine ⟨_, PSs.nox
      (pss_cons (ps_if (PW.pt (pw_or (pt_not (pt_val (pe_d (ok_is_sequence T) (hr.mono (by decide)) (by rfl) T.g_is_sequence pass0 (pa_cons (pv 0) pa_nil)))) (pw_or1 (pt_cmpR op_ne (pe_callB call_len (by rfl) T.b_len (by decide +kernel) (pa_cons (pv 0) pa_nil)) pe_int (nomark _))))) (pss_one ps_never) pss_nil) (pss_cons (ps_set (i := 1) sc_plain_journal.nd rfl (.inl rfl) pe_dnewK) (pss_cons (ps_for PassesOwn.never rfl (pi_enumA (by rfl) T.b_enumerate (pa_cons (pv 0) pa_nil)) (pg_tup rfl (pgs_cons (pg_name (i := 2) sc_plain_journal.nd rfl (.inl rfl)) (pgs_cons (pg_name (i := 3) sc_plain_journal.nd rfl (.inl rfl)) pgs_nil))) (pss_cons (ps_try_thru0 (pss_one (ps_set (i := 4) sc_plain_journal.nd rfl (.inl rfl) (pe_d (ok_page_told hP T) (hr.mono (by decide)) (by rfl) T.g_page_told pass0 (pa_cons (pv 3) pa_nil))))) (pss_one (ps_if (pt_cmpR op_notN (pv 4) pe_non (nomark _)) (pss_one (ps_dput (hu_of hr) (pv 1) (pv 2) (pv 4) (by rfl))) pss_nil)))) (pss_cons (ps_if (pt_cmpR op_eq (pe_callB call_lenD (by rfl) T.b_len (by decide +kernel) (pa_cons (pv 1) pa_nil)) pe_int (nomark _)) (pss_one ps_never) pss_nil) (pss_cons (ps_set (i := 2) sc_plain_journal.nd rfl (.inl rfl) (pe_ifExp (pt_cmpR op_eq (pe_callB call_lenD (by rfl) T.b_len (by decide +kernel) (pa_cons (pv 1) pa_nil)) pe_int (nomark _)) (pe_d (ok_later_page T) (hr.mono (by decide)) (by rfl) T.g_later_page pass0 (pa_cons (pe_tup (pa_cons (pe_ix ix_seq (pe_dget (hu_of hr) (pv 1) pe_int (fun _ _ => rfl)) pe_int (fun _ _ => rfl)) (pa_cons (pe_ix ix_seq (pe_dget (hu_of hr) (pv 1) pe_int (fun _ _ => rfl)) pe_int (fun _ _ => rfl)) pa_nil))) pa_nil)) (pe_ix ix_seq (pe_callTy (call_list_dK rfl) (by rfl) T.b_list (by decide +kernel) (pa_cons (pv 1) pa_nil)) pe_int (fun _ _ => rfl)))) (pss_one (ps_ret (pe_op op_catA (pe_tup (pa_cons (pv 2) pa_nil)) (pe_dget (hu_of hr) (pv 1) (pv 2) (fun _ _ => rfl)))))))))), ?_⟩
    refine ⟨_, rfl, k, a, _, rfl, ha, fun H1 s1 => ⟨true, rfl, iteF ?_⟩⟩
    have ha1 := ha.same s1
    refine ⟨_, rfl, .ref a, 2, rfl, len_sq ha1, rfl, _, rfl, iteF ?_⟩
    intro d hd
    have s2 : Same H1 (upd H1 d (.dK [])) := same_upd hd
    have hdH : H d = none := s1.free hd
    refine ⟨_, rfl, k, a, _, rfl, ha1.same s2, fun J wk => for_it wk (fun i σ H' => ∃ (v2 v3 v4 v5 : Option V) (kvs : List (Key × V)), σ = [some (.ref a), some (.ref d), v2, v3, v4, v5] ∧ But d H H' ∧ H' d = some (.dK kvs) ∧ KvOk K H' kvs (teS (two P0 P1) i))
      ⟨none, none, none, none, [], rfl, (But.of s1).trans But.upd, upd_same, trivial⟩ (fun i σ H' _ ⟨_, _, _, _, _, _, b, _⟩ => ha.same (b.new hdH)) ?_ ?_⟩
    · rintro i x σ H2 H3 hi ⟨v2, v3, v4, v5, kvs, rfl, b2, hk2, ok2⟩ ⟨u, x1, x2, rfl, hn, rfl, e1, e2⟩
      obtain rfl := Option.some.inj e1
      have e2' : [V.ref a0, V.ref a1][i]? = some x2 := e2
      have hi' : i < 2 := hi
      obtain ⟨kq, aq, rfl, hq, oq, zq⟩ : ∃ (kq : Kd) (aq : Addr), x2 = .ref aq ∧ Sq K H kq aq ((two P0 P1 i).l.map V.int) ∧ (two P0 P1 i).Ok ∧ (two P0 P1 i).ps.length < 1000000 := by
        match i, hi' with
        | 0, _ => exact ⟨k0, a0, (Option.some.inj e2').symm, h0, o0, z0⟩
        | 1, _ => exact ⟨k1, a1, (Option.some.inj e2').symm, h1, o1, z1⟩
      refine ⟨u, _, rfl, SqT.of upd_same, rfl, _, _, rfl, _, _, rfl, rfl, ?_⟩
      have s3 : Same H2 (upd H2 u (.tup [.int (i : Nat), .ref aq])) := same_upd hn
      refine ⟨_, rfl, kq, aq, two P0 P1 i, rfl, hq.same ((b2.new hdH).trans s3), oq, zq, fun v H4 s4 tv => ?_⟩
      have s24 := s3.trans s4
      have hk4 : H4 d = some (.dK kvs) := s24 _ _ hk2
      have b4 := b2.trans (But.of s24)
      cases ct : (two P0 P1 i).told with
      | none =>
        rw [ct] at tv
        obtain rfl : v = .non := tv
        refine ⟨_, rfl, rfl, _, rfl, iteF ?_⟩
        have e : teS (two P0 P1) (i + 1) = teS (two P0 P1) i := by
          show (match (two P0 P1 i).told with | some t => teS (two P0 P1) i ++ [((i : Int), t)] | none => teS (two P0 P1) i) = _
          rw [ct]
        refine ⟨_, _, _, _, kvs, rfl, b4, hk4, ?_⟩
        rw [e]
        exact ok2.imp fun v t h => h.same s24
      | some t =>
        rw [ct] at tv
        have tv' : ToldV K H4 v t := tv
        have nv : v ≠ .non := fun z => by
          obtain ⟨_, _, _, e, _⟩ := tv'
          rw [z] at e
          cases e
        refine ⟨_, rfl, rfl, _, rfl, ?_⟩
        rw [decide_eq_false nv]
        refine iteT ?_
        have ok4 := ok2.imp (K := K) (H' := H4) fun v t h => h.same s24
        have ln := ok2.len
        have l2 := teS_len (two P0 P1) i
        refine ⟨_, rfl, _, rfl, _, rfl, d, _, rfl, DPut.k (k := .inl (i : Int)) hk4 (by rw [sizeLine_eq]; omega), ?_⟩
        rw [ok4.put (fun x hx => teS_lt _ _ x hx)]
        have e : teS (two P0 P1) (i + 1) = teS (two P0 P1) i ++ [((i : Int), t)] := by
          show (match (two P0 P1 i).told with | some t => teS (two P0 P1) i ++ [((i : Int), t)] | none => teS (two P0 P1) i) = _
          rw [ct]
        refine ⟨_, _, _, _, _, rfl, b4.trans But.upd, upd_same, ?_⟩
        rw [e]
        exact (KvOk.snoc tv' ok4).imp fun v t h => h.butN noSq_dK hk4 But.upd
    · rintro σ H2 ⟨v2, v3, v4, v5, kvs, rfl, b2, hk2, ok2⟩
      have sH := b2.new hdH
      -- the return
      have fin : ∀ (pg : Nat) (t : Told) (r x y : V) (bb : Addr) (H3 : Hp) (f : Addr), Same H2 H3 → SqT K H2 bb [.int t.1, x, y, .int (t.2.2.2 : Nat)] → Dp K H2 x (dHs t.2.1) → Dp K H2 y (dPs t.2.2.1) → plainJ P0 P1 = some (pg, t) → H3 f = none →
          Q (.ref f) (upd H3 f (.tup ([.int (pg : Nat)] ++ [.int t.1, x, y, .int (t.2.2.2 : Nat)]))) := by
        intro pg' t' r x y bb H3 f s3 hb hx hy e hf
        rw [hj] at e
        obtain ⟨rfl, rfl⟩ := Prod.mk.inj (Option.some.inj e)
        have s4 := s3.trans (same_upd (o := .tup ([.int (pg : Nat)] ++ [.int t.1, x, y, .int (t.2.2.2 : Nat)])) hf)
        exact q f x y _ (sH.trans s4) (SqT.of upd_same) (dp_same s4 hx) (dp_same s4 hy)
      have tail : ∀ (pg : Nat) (t : Told) (v : V) (H3 : Hp) (u : Addr), Same H2 H3 → ToldV K H2 v t → plainJ P0 P1 = some (pg, t) → H3 u = none → 
          ∃ a b xs ys, V.ref u = .ref a ∧ v = .ref b ∧ SqT K (upd H3 u (.tup [.int (pg : Nat)])) a xs ∧ SqT K (upd H3 u (.tup [.int (pg : Nat)])) b ys ∧ xs.length + ys.length ≤ sizeLine ∧ (xs = [] → Q (.ref b) (upd H3 u (.tup [.int (pg : Nat)]))) ∧
            (xs ≠ [] → ys = [] → Q (.ref a) (upd H3 u (.tup [.int (pg : Nat)]))) ∧ (xs ≠ [] → ys ≠ [] → ∀ p, (upd H3 u (.tup [.int (pg : Nat)])) p = none → Q (.ref p) (upd (upd H3 u (.tup [.int (pg : Nat)])) p (.tup (xs ++ ys)))) := by
        intro pg' t' v H3 u s3 hv e hu
        obtain ⟨bb, x, y, rfl, hb, hx, hy⟩ := hv
        have su := s3.trans (same_upd (o := .tup [.int (pg' : Nat)]) hu)
        exact ⟨u, bb, [.int (pg' : Nat)], [.int t'.1, x, y, .int (t'.2.2.2 : Nat)], rfl, rfl, SqT.of upd_same, sqT_same su hb, szl (lk rfl), fun z => (by cases z), fun _ z => (by cases z), fun _ _ f hf => fin pg' t' .non x y bb _ f su hb hx hy e hf⟩
      have kvs0 : P0.told = none → P1.told = none → False := fun e0 e1 => by
        unfold plainJ at hj
        rw [e0, e1] at hj
        cases hj
      have ok2' : KvOk K H2 kvs (teS (two P0 P1) 2) := ok2
      rw [teS_2] at ok2'
      cases c0 : P0.told with
      | none =>
        cases c1 : P1.told with
        | none => exact (kvs0 c0 c1).elim
        | some y =>
          rw [c0, c1] at ok2'
          have hj' : plainJ P0 P1 = some (1, y) := by
            unfold plainJ
            rw [c0, c1]
          obtain ⟨vv, rfl, g2⟩ := KvOk.one ok2'
          refine ⟨_, rfl, d, _, rfl, hk2, rfl, _, rfl, iteF ?_⟩
          refine ⟨_, rfl, d, _, rfl, hk2, rfl, _, rfl, iteF ?_⟩
          refine ⟨_, rfl, d, _, rfl, hk2, fun l hl => ?_⟩
          refine ix_l (SqL.of upd_same) (v := .int ((1 : Nat) : Int)) rfl ?_
          refine ⟨_, rfl, szl (lk rfl), fun u hu => ?_⟩
          have sl : Same H2 (upd H2 l (.lst [.int ((1 : Nat) : Int)])) := same_upd hl
          refine ⟨_, rfl, _, rfl, d, vv, rfl, ?_, tail 1 y vv _ u sl g2 hj' hu⟩
          exact DGet.k (k := .inl ((1 : Nat) : Int)) (same_upd hu _ _ (sl _ _ hk2))
      | some x =>
        cases c1 : P1.told with
        | none =>
          rw [c0, c1] at ok2'
          have hj' : plainJ P0 P1 = some (0, x) := by
            unfold plainJ
            rw [c0, c1]
          obtain ⟨vv, rfl, g2⟩ := KvOk.one ok2'
          refine ⟨_, rfl, d, _, rfl, hk2, rfl, _, rfl, iteF ?_⟩
          refine ⟨_, rfl, d, _, rfl, hk2, rfl, _, rfl, iteF ?_⟩
          refine ⟨_, rfl, d, _, rfl, hk2, fun l hl => ?_⟩
          refine ix_l (SqL.of upd_same) (v := .int ((0 : Nat) : Int)) rfl ?_
          refine ⟨_, rfl, szl (lk rfl), fun u hu => ?_⟩
          have sl : Same H2 (upd H2 l (.lst [.int ((0 : Nat) : Int)])) := same_upd hl
          refine ⟨_, rfl, _, rfl, d, vv, rfl, ?_, tail 0 x vv _ u sl g2 hj' hu⟩
          exact DGet.k (k := .inl ((0 : Nat) : Int)) (same_upd hu _ _ (sl _ _ hk2))
        | some y =>
          rw [c0, c1] at ok2'
          have ne : ¬ x.1 = y.1 := fun z => by
            unfold plainJ at hj
            rw [c0, c1] at hj
            have hj2 : (if x.1 = y.1 then none else if (x.1 + 1) % 3 = y.1 then some (1, y) else some (0, x)) = some (pg, t) := hj
            rw [if_pos z] at hj2
            cases hj2
          obtain ⟨vv, vv2, rfl, g2, g4⟩ := KvOk.pair ok2'
          refine ⟨_, rfl, d, _, rfl, hk2, rfl, _, rfl, iteF ?_⟩
          refine ⟨_, rfl, d, _, rfl, hk2, rfl, _, rfl, iteT ?_⟩
          obtain ⟨r0, x0, y0, rfl, hb0, hx0, hy0⟩ := id g2
          obtain ⟨r1, x1, y1, rfl, hb1, hx1, hy1⟩ := id g4
          refine ⟨_, rfl, d, _, rfl, DGet.k (k := .inl ((0 : Nat) : Int)) hk2, ix_t hb0 rfl ?_⟩
          refine ⟨_, rfl, d, _, rfl, DGet.k (k := .inl ((1 : Nat) : Int)) hk2, ix_t hb1 rfl ⟨szl (lk rfl), fun l hl => ?_⟩⟩
          have sl : Same H2 (upd H2 l (.tup [.int x.1, .int y.1])) := same_upd hl
          refine ⟨l, x.1, y.1, rfl, SqT.of upd_same, ne, ?_⟩
          by_cases cc : (x.1 + 1) % 3 = y.1
          · have hj' : plainJ P0 P1 = some (1, y) := by
              unfold plainJ
              rw [c0, c1]
              show (if x.1 = y.1 then none else if (x.1 + 1) % 3 = y.1 then some (1, y) else some (0, x)) = _
              rw [if_neg ne, if_pos cc]
            rw [if_pos cc]
            refine ⟨_, rfl, szl (lk rfl), fun u hu => ?_⟩
            refine ⟨_, rfl, _, rfl, d, _, rfl, ?_, tail 1 y _ _ u sl g4 hj' hu⟩
            exact DGet.k (k := .inl ((1 : Nat) : Int)) (same_upd hu _ _ (sl _ _ hk2))
          · have hj' : plainJ P0 P1 = some (0, x) := by
              unfold plainJ
              rw [c0, c1]
              show (if x.1 = y.1 then none else if (x.1 + 1) % 3 = y.1 then some (1, y) else some (0, x)) = _
              rw [if_neg ne, if_neg cc]
            rw [if_neg cc]
            refine ⟨_, rfl, szl (lk rfl), fun u hu => ?_⟩
            refine ⟨_, rfl, _, rfl, d, _, rfl, ?_, tail 0 x _ _ u sl g2 hj' hu⟩
            exact DGet.k (k := .inl ((0 : Nat) : Int)) (same_upd hu _ _ (sl _ _ hk2))
end
end K62

set_option Elab.async false
set_option linter.all false
set_option maxRecDepth 100000
set_option maxHeartbeats 4000000
/-! K62S: Journal: written, keep, loose, lay. (printed by gen_journal.py) -/
namespace K62
open PySem PySem.Spec PyProof.Rows L2
abbrev gJ (K : PySem.W.Frag) : Addr := He.ga K "Journal"
def jFs (pr : Addr) (pg : Nat) (s : Int) (b l : V) (kept : Int) : List (Str × V) := [("pages", .ref pr), ("page", .int (pg : Nat)), ("sign", .int s), ("begun", b), ("laid", l), ("kept", .int kept)]
/-- the pages by which of them counts -/
def pl (pg : Nat) (c o : Addr) : List V := if pg = 0 then [.ref c, .ref o] else [.ref o, .ref c]
/-- a journal at j -/
def JAt (K : PySem.W.Frag) (H : Hp) (j : Addr) (D : Due) (O : Oth) : Prop := ∃ (dx pr : Addr) (b l : V) (c o : Addr), H j = some (.ins (gJ K) dx (jFs pr D.pg D.s b l (D.kept : Nat))) ∧ SqT K H pr (pl D.pg c o) ∧
  SqT K H c (D.oct.map V.int) ∧ SqT K H o (O.l.map V.int) ∧ Dp K H b (dHs D.b) ∧ Dp K H l (dPs D.ps)
theorem JAt.same {K : PySem.W.Frag} {H H' : Hp} {j : Addr} {D : Due} {O : Oth} (h : JAt K H j D O) (s : Same H H') : JAt K H' j D O := by
  obtain ⟨dx, pr, b, l, c, o, h1, h2, h3, h4, h5, h6⟩ := h
  exact ⟨dx, pr, b, l, c, o, s _ _ h1, sqT_same s h2, sqT_same s h3, sqT_same s h4, dp_same s h5, dp_same s h6⟩
theorem at_pl {pg : Nat} {c o : Addr} (h : pg = 0 ∨ pg = 1) : atI (pl pg c o) ((pg : Nat) : Int) = some (.ref c) := by
  rcases h with rfl | rfl
  · rfl
  · rfl
theorem pl_swap {pg : Nat} {c o : Addr} (h : pg = 0 ∨ pg = 1) : pl pg c o = pl (1 - pg) o c := by
  rcases h with rfl | rfl
  · rfl
  · rfl
section
variable {K : PySem.W.Frag} {σ : L2.St} {H : Hp} {C j dx a u p : Addr} {fs : List (Str × V)} {f m : Str} {v : V} {Q : VK} {i : Nat} {sp : Sp} {dvs : List V} {E : XK} {t : TA} {k : Kd} {xs : List V}
theorem fldJ (hσ : σ[i]? = some (some (.ref j))) (hj : H j = some (.ins C dx fs)) (c : Cls K C) (n : NoAttr K C f) (l : fs.lookup f = some v) (q : Q v H) : tFld K (tVar i) f σ H Q := ⟨_, hσ, j, C, dx, fs, v, rfl, hj, c, n, l, q⟩
theorem methJ (hσ : σ[i]? = some (some (.ref j))) (hj : H j = some (.ins C dx fs)) (l : fs.lookup m = none) (q : t σ H fun vs H2 => sp (.ref j :: (vs ++ dvs)) H2 Q E) : tMeth C m sp dvs E (tVar i) t σ H Q := ⟨_, hσ, j, dx, fs, rfl, hj, l, q⟩
theorem tup_of (h : Sq K H k a xs) (q : ∀ t H', Same H H' → SqT K H' t xs → Q (.ref t) H') : rTupOf K [.ref a] H Q := by
  cases k with
  | l => exact ⟨a, xs, rfl, .inl ⟨h, fun t ht => q t _ (same_upd ht) (SqT.of upd_same)⟩⟩
  | t => exact ⟨a, xs, rfl, .inr ⟨h, q a H (Same.refl _) h⟩⟩
theorem list_of (h : Sq K H k a xs) (q : ∀ t, H t = none → Q (.ref t) (upd H t (.lst xs))) : rListOf K [.ref a] H Q := by
  cases k with
  | l => exact ⟨a, xs, rfl, .inl h, q⟩
  | t => exact ⟨a, xs, rfl, .inr h, q⟩
/-- t[:n] -/
theorem sl_to {L : List V} {n : Nat} (h : SqT K H a L) (hn : n ≤ L.length) (q : ∀ r H', Same H H' → SqT K H' r (L.take n) → Q (.ref r) H') : rSlA K (.ref a) none (some (n : Int)) H Q := by
  refine ⟨a, L, rfl, h, fun z => ?_, fun _ p hp => ?_⟩
  · have z2 : min n L.length = L.length := (HT.sIx_nat _ _ n).symm.trans z.2
    have e : L.take n = L := List.take_of_length_le (by omega)
    exact q a H (Same.refl _) (by rw [e]; exact h)
  · have e := cutV_to hn
    refine q p _ (same_upd hp) ?_
    rw [← e]
    exact SqT.of upd_same
/-- t + u of whole numbers -/
theorem cat_ints {x y : List Int} {b : Addr} (ha : SqT K H a (x.map V.int)) (hb : SqT K H b (y.map V.int)) (hz : x.length + y.length ≤ 16777216) (q : ∀ r H', Same H H' → SqT K H' r ((x ++ y).map V.int) → Q (.ref r) H') : rCatA K (.ref a) (.ref b) H Q := by
  refine ⟨a, b, _, _, rfl, rfl, ha, hb, by rw [List.length_map, List.length_map]; exact szl hz, fun z => ?_, fun _ z => ?_, fun _ _ p hp => ?_⟩
  · have e : x = [] := List.map_eq_nil_iff.mp z
    subst e
    exact q b H (Same.refl _) hb
  · have e : y = [] := List.map_eq_nil_iff.mp z
    subst e
    refine q a H (Same.refl _) ?_
    rw [List.append_nil]
    exact ha
  · refine q p _ (same_upd hp) ?_
    rw [List.map_append]
    exact SqT.of upd_same
/-- presses and one more -/
theorem cat_prs {l : V} {ps : List Pr} {pr : Pr} (hl : Dp K H l (dPs ps)) (hu : SqT K H u [.ref p]) (hp : SqT K H p (vPr pr)) (hz : ps.length + 1 ≤ 16777216) (q : ∀ l' H', Same H H' → Dp K H' l' (dPs (ps ++ [pr])) → Q l' H') : rCatA K l (.ref u) H Q := by
  obtain ⟨a, xs, el, ha, hd⟩ := of_ps hl
  subst el
  have ln := dpAll_len hd
  rw [List.length_map] at ln
  have e : (ps ++ [pr]).map dPr = ps.map dPr ++ [dPr pr] := by rw [List.map_append]; rfl
  refine ⟨a, u, xs, _, rfl, rfl, ha, hu, by rw [ln]; exact szl hz, fun z => ?_, fun _ z => (by cases z), fun _ _ f hf => ?_⟩
  · subst z
    have e0 : ps = [] := List.length_eq_zero_iff.mp ln.symm
    subst e0
    exact q _ H (Same.refl _) (.tup hu (.cons (dp_pr hp) .nil))
  · have s := same_upd (o := .tup (xs ++ [.ref p])) hf
    refine q _ _ s (.tup (SqT.of upd_same) ?_)
    rw [e]
    exact dpAll_snoc (dp_sameAll s hd) (dp_pr (sqT_same s hp))
end
def spWritten (K : PySem.W.Frag) : Sp := fun vs H Q _ => ∃ (j x dx pr c o : Addr) (pg : Nat) (s : Int) (b l : V) (kept : Int), vs = [.ref j, .ref x] ∧ H j = some (.ins (gJ K) dx (jFs pr pg s b l kept)) ∧ SqT K H pr (pl pg c o) ∧ (pg = 0 ∨ pg = 1) ∧
  ∀ pr' H', But j H H' → H' j = some (.ins (gJ K) dx (jFs pr' pg s b l kept)) → SqT K H' pr' (pl pg x o) → Q .non H'
def spKeep (K : PySem.W.Frag) : Sp := fun vs H Q _ => ∃ (j dx pr c o : Addr) (pg : Nat) (s : Int) (b l : V) (kept : Int) (xs : List V), vs = [.ref j] ∧ H j = some (.ins (gJ K) dx (jFs pr pg s b l kept)) ∧ SqT K H pr (pl pg c o) ∧ (pg = 0 ∨ pg = 1) ∧ SqT K H c xs ∧
  ∀ H', But j H H' → H' j = some (.ins (gJ K) dx (jFs pr pg s b l (xs.length : Nat))) → Q .non H'
def spLoose (K : PySem.W.Frag) : Sp := fun vs H Q _ => ∃ (j dx pr c o : Addr) (pg : Nat) (s : Int) (b l : V) (kept : Int) (xs : List V), vs = [.ref j] ∧ H j = some (.ins (gJ K) dx (jFs pr pg s b l kept)) ∧ SqT K H pr (pl pg c o) ∧ (pg = 0 ∨ pg = 1) ∧ SqT K H c xs ∧
  Q (.int ((xs.length : Nat) - kept)) H
def spLay (K : PySem.W.Frag) : Sp := fun vs H Q _ => ∃ (k : Kd) (j a : Addr) (D : Due) (O : Oth) (p : Pr), vs = [.ref j, .ref a] ∧ JAt K H j D O ∧ (D.pg = 0 ∨ D.pg = 1) ∧ D.oct.length ≤ 100000 ∧ D.ps.length ≤ 100000 ∧ Sq K H k a (vPr p) ∧ p.ok ∧
  ∀ H', But j H H' → JAt K H' j (laid D p) O → Q .non H'
section
variable {P : Program} {w : World} {K : PySem.W.Frag} {mg : Str → Option Value} {base : Heap}

theorem sc_Journal_written : FnScope ["self", "octets"] ["self", "octets"] (defScope s_Journal_written) := ⟨rfl, rfl, rfl, by decide +kernel, rfl, by decide +kernel, by decide +kernel⟩
theorem ok_Journal_written (T : Txt K mg w) : DefOk P w K mg base CX0 1 (He.ma K (He.ga K "Journal") "written") ["self", "octets"] (spWritten K) := by
  obtain ⟨fd, F⟩ := T.f_Journal_written
  refine ⟨fd, F.ok sc_Journal_written (fun vs H Q E h => ?_) (fun cdv A outer s H vs Q E hr h => ?_), F.bindsN fun _ _ _ _ _ _ us hl => match us, hl with | [_, _], _ => rfl, F.kp⟩
  · obtain ⟨j, x, dx, pr, c, o, pg, s, b, l, kept, rfl, hj, hpr, hpg, q⟩ := h
    rfl
  · obtain ⟨j, x, dx, pr, c, o, pg, s, b, l, kept, rfl, hj, hpr, hpg, q⟩ := h
    refine ⟨_, PSs.nox (pss_one (ps_fld (pv 0) (pe_ifExp (pt_cmpR op_eq (pe_fld (pv 0) (by rfl)) pe_int (nomark _)) (pe_tup (pa_cons (pv 1) (pa_cons (pe_ix ix_seq (pe_fld (pv 0) (by rfl)) pe_int (fun _ _ => rfl)) pa_nil))) (pe_tup (pa_cons (pe_ix ix_seq (pe_fld (pv 0) (by rfl)) pe_int (fun _ _ => rfl)) (pa_cons (pv 1) pa_nil)))) (by rfl))), ?_⟩
    refine ⟨_, rfl, j, _, dx, _, _, rfl, hj, T.c_Journal, T.n_Journal_page, rfl, rfl, _, rfl, ?_⟩
    have fin : ∀ t (xs : List V), xs = pl pg x o → H t = none → ∃ a C dx fs, V.ref j = .ref a ∧ upd H t (.tup xs) a = some (.ins C dx fs) ∧ Cls K C ∧ NoAttr K C "pages" ∧ fs.length < 1000 ∧ Q .non (upd (upd H t (.tup xs)) a (.ins C dx (putF "pages" (.ref t) fs))) := by
      rintro t xs rfl ht
      have hj2 := same_upd (o := .tup (pl pg x o)) ht _ _ hj
      refine ⟨j, _, dx, _, rfl, hj2, T.c_Journal, T.n_Journal_pages, lk rfl, ?_⟩
      exact q t _ ((But.of (same_upd ht)).trans But.upd) upd_same (sqT_but noSq_ins hj2 But.upd (SqT.of upd_same))
    rcases hpg with rfl | rfl
    · rw [vint_eq (show ((0 : Nat) : Int) = 0 from rfl)]
      refine iteT ?_
      refine ⟨_, rfl, ?_⟩
      refine ⟨_, rfl, j, _, dx, _, _, rfl, hj, T.c_Journal, T.n_Journal_pages, rfl, (ix_t hpr rfl ⟨szl (lk rfl), fun t ht => ⟨_, rfl, ?_⟩⟩)⟩
      exact fin t _ rfl ht
    · rw [vint_ne (show ((1 : Nat) : Int) ≠ 0 by decide)]
      refine iteF ?_
      refine ⟨_, rfl, j, _, dx, _, _, rfl, hj, T.c_Journal, T.n_Journal_pages, rfl, (ix_t hpr rfl ⟨_, rfl, szl (lk rfl), fun t ht => ⟨_, rfl, ?_⟩⟩)⟩
      exact fin t _ rfl ht
theorem sc_Journal_keep : FnScope ["self"] ["self"] (defScope s_Journal_keep) := ⟨rfl, rfl, rfl, by decide +kernel, rfl, by decide +kernel, by decide +kernel⟩
theorem ok_Journal_keep (T : Txt K mg w) : DefOk P w K mg base CX0 1 (He.ma K (He.ga K "Journal") "keep") ["self"] (spKeep K) := by
  obtain ⟨fd, F⟩ := T.f_Journal_keep
  refine ⟨fd, F.ok sc_Journal_keep (fun vs H Q E h => ?_) (fun cdv A outer s H vs Q E hr h => ?_), F.bindsN fun _ _ _ _ _ _ us hl => match us, hl with | [_], _ => rfl, F.kp⟩
  · obtain ⟨j, dx, pr, c, o, pg, s, b, l, kept, xs, rfl, hj, hpr, hpg, hc, q⟩ := h
    rfl
  · obtain ⟨j, dx, pr, c, o, pg, s, b, l, kept, xs, rfl, hj, hpr, hpg, hc, q⟩ := h
    refine ⟨_, PSs.nox (pss_one (ps_fld (pv 0) (pe_callB call_len (by rfl) T.b_len (by decide +kernel) (pa_cons (pe_ix ix_seq (pe_fld (pv 0) (by rfl)) (pe_fld (pv 0) (by rfl)) (fun _ _ => rfl)) pa_nil)) (by rfl))), ?_⟩
    refine ⟨_, rfl, j, _, dx, _, _, rfl, hj, T.c_Journal, T.n_Journal_pages, rfl, _, rfl, j, _, dx, _, _, rfl, hj, T.c_Journal, T.n_Journal_page, rfl, (ix_t hpr (at_pl hpg) ⟨.ref c, _, rfl, len_sq (k := .t) hc, _, rfl, ?_⟩)⟩
    exact ⟨j, _, dx, _, rfl, hj, T.c_Journal, T.n_Journal_kept, lk rfl, q _ But.upd upd_same⟩
theorem sc_Journal_loose : FnScope ["self"] ["self"] (defScope s_Journal_loose) := ⟨rfl, rfl, rfl, by decide +kernel, rfl, by decide +kernel, by decide +kernel⟩
theorem ok_Journal_loose (T : Txt K mg w) : DefOk P w K mg base CX0 1 (He.ma K (He.ga K "Journal") "loose") ["self"] (spLoose K) := by
  obtain ⟨fd, F⟩ := T.f_Journal_loose
  refine ⟨fd, F.ok sc_Journal_loose (fun vs H Q E h => ?_) (fun cdv A outer s H vs Q E hr h => ?_), F.bindsN fun _ _ _ _ _ _ us hl => match us, hl with | [_], _ => rfl, F.kp⟩
  · obtain ⟨j, dx, pr, c, o, pg, s, b, l, kept, xs, rfl, hj, hpr, hpg, hc, q⟩ := h
    rfl
  · obtain ⟨j, dx, pr, c, o, pg, s, b, l, kept, xs, rfl, hj, hpr, hpg, hc, q⟩ := h
    refine ⟨_, PSs.nox (pss_one (ps_ret (pe_op op_sub (pe_callB call_len (by rfl) T.b_len (by decide +kernel) (pa_cons (pe_ix ix_seq (pe_fld (pv 0) (by rfl)) (pe_fld (pv 0) (by rfl)) (fun _ _ => rfl)) pa_nil)) (pe_fld (pv 0) (by rfl))))), ?_⟩
    refine ⟨_, rfl, j, _, dx, _, _, rfl, hj, T.c_Journal, T.n_Journal_pages, rfl, _, rfl, j, _, dx, _, _, rfl, hj, T.c_Journal, T.n_Journal_page, rfl, (ix_t hpr (at_pl hpg) ⟨.ref c, _, rfl, len_sq (k := .t) hc, ?_⟩)⟩
    exact ⟨_, rfl, j, _, dx, _, _, rfl, hj, T.c_Journal, T.n_Journal_kept, rfl, _, _, rfl, rfl, q⟩
theorem sc_Journal_lay : FnScope ["self", "press", "octets"] ["self", "press"] (defScope s_Journal_lay) := ⟨rfl, rfl, rfl, by decide +kernel, rfl, by decide +kernel, by decide +kernel⟩
theorem ok_Journal_lay (T : Txt K mg w) : DefOk P w K mg base CX0 7 (He.ma K (He.ga K "Journal") "lay") ["self", "press"] (spLay K) := by
  obtain ⟨fd, F⟩ := T.f_Journal_lay
  obtain ⟨fdw, Fw, bw, kw⟩ := ok_Journal_written (P := P) (base := base) T
  refine ⟨fd, F.ok sc_Journal_lay (fun vs H Q E h => ?_) (fun cdv A outer s H vs Q E hr h => ?_), F.bindsN fun _ _ _ _ _ _ us hl => match us, hl with | [_, _], _ => rfl, F.kp⟩
  · obtain ⟨k, j, a, D, O, pr, rfl, hJ, hpg, hz, hz2, ha, hok, q⟩ := h
    rfl
  · obtain ⟨k, j, a, D, O, pr, rfl, hJ, hpg, hz, hz2, ha, hok, q⟩ := h
    refine ⟨_, PSs.nox (pss_cons (ps_set (i := 2) sc_Journal_lay.nd rfl (.inl rfl) (pe_d (ok_press_octets T) (hr.mono (by decide)) (by rfl) T.g_press_octets pass0 (pa_cons (pv 1) pa_nil))) (pss_cons (ps_expr (pe_meth (pv 0) T.c_Journal T.m_Journal_written Fw (hr.mono (by decide)) bw .nil pass0 (pa_cons (pe_op op_catA (pe_ix ix_seq (pe_fld (pv 0) (by rfl)) (pe_fld (pv 0) (by rfl)) (fun _ _ => rfl)) (pv 2)) pa_nil))) (pss_one (ps_fld (pv 0) (pe_op op_catA (pe_fld (pv 0) (by rfl)) (pe_tup (pa_cons (pe_callTy (call_tupK (K := K) rfl) (by rfl) T.b_tuple (by decide +kernel) (pa_cons (pv 1) pa_nil)) pa_nil))) (by rfl))))), ?_⟩
    refine ⟨_, rfl, k, a, pr, rfl, ha, hok, fun x H1 s1 hx => ?_⟩
    obtain ⟨dx, pg, b, l, c, o, hj, hpr, hc, ho, hb, hl⟩ := hJ
    have hj1 := s1 _ _ hj
    refine ⟨_, rfl, j, dx, _, rfl, hj1, rfl, ?_⟩
    have zp := enc_len_p pr
    refine ⟨_, rfl, j, _, dx, _, _, rfl, hj1, T.c_Journal, T.n_Journal_pages, rfl, _, rfl, j, _, dx, _, _, rfl, hj1, T.c_Journal, T.n_Journal_page, rfl, (ix_t (sqT_same s1 hpr) (at_pl hpg) ⟨_, rfl, ?_⟩)⟩
    refine cat_ints (sqT_same s1 hc) hx (by omega) fun y H2 s2 hy => ?_
    have s12 := s1.trans s2
    refine ⟨j, y, dx, pg, c, o, D.pg, D.s, b, l, _, rfl, s12 _ _ hj, sqT_same s12 hpr, hpg, fun pr2 H3 b3 hj3 hpr3 => ?_⟩
    have hj2 := s12 _ _ hj
    have ha3 := (ha.same s12).butN noSq_ins hj2 b3
    refine ⟨_, rfl, j, _, dx, _, _, rfl, hj3, T.c_Journal, T.n_Journal_laid, rfl, _, rfl, tup_of ha3 fun t H4 s4 ht => ⟨szl (lk rfl), fun u hu => ?_⟩⟩
    have s5 := s4.trans (same_upd (o := .tup [.ref t]) hu)
    have hl5 : Dp K (upd H4 u (.tup [.ref t])) l (dPs D.ps) := dp_same s5 (dp_but noSq_ins hj2 b3 (dp_same s12 hl))
    refine cat_prs hl5 (SqT.of upd_same) (sqT_same (same_upd hu) ht) (by omega) fun l' H6 s6 hl6 => ?_
    have s36 := s5.trans s6
    have hj6 := s36 _ _ hj3
    refine ⟨_, rfl, j, _, dx, _, rfl, hj6, T.c_Journal, T.n_Journal_laid, lk rfl, ?_⟩
    have b7 : But j H (upd H6 j (.ins (gJ K) dx (jFs pr2 D.pg D.s b l' (D.kept : Nat)))) := (((But.of s12).trans b3).trans (But.of s36)).trans But.upd
    refine q _ b7 ⟨dx, pr2, b, l', y, o, upd_same, sqT_but noSq_ins hj6 But.upd (sqT_same s36 hpr3), ?_, sqT_but noSq_ins hj b7 ho, dp_but noSq_ins hj b7 hb, dp_but noSq_ins hj6 But.upd hl6⟩
    rw [laid_oct]
    exact sqT_but noSq_ins hj6 But.upd (sqT_same s36 (sqT_but noSq_ins hj2 b3 hy))
end
end K62

set_option Elab.async false
set_option linter.all false
set_option maxRecDepth 100000
set_option maxHeartbeats 4000000
/-! K62T: Journal: __init__, begin, cut; open_journal. (printed by gen_journal2.py) -/
namespace K62
open PySem PySem.Spec PyProof.Rows L2
theorem plain_in {K : PySem.W.Frag} {H : Hp} {k kc ko : Kd} {pr c o : Addr} {pg : Nat} {C O : Pg} (hpg : pg = 0 ∨ pg = 1) (hpr : Sq K H k pr (pl pg c o)) (hc : Sq K H kc c (C.l.map V.int)) (ho : Sq K H ko o (O.l.map V.int)) :
    ∃ (k0 k1 : Kd) (a0 a1 : Addr), Sq K H k pr [.ref a0, .ref a1] ∧ Sq K H k0 a0 ((pair pg C O).1.l.map V.int) ∧ Sq K H k1 a1 ((pair pg C O).2.l.map V.int) := by
  rcases hpg with rfl | rfl
  · exact ⟨kc, ko, c, o, hpr, hc, ho⟩
  · exact ⟨ko, kc, o, c, hpr, ho, hc⟩
theorem pair_all {pg : Nat} {C O : Pg} {F : Pg → Prop} (h : F C) (h' : F O) : F (pair pg C O).1 ∧ F (pair pg C O).2 := by
  unfold pair
  split
  · exact ⟨h, h'⟩
  · exact ⟨h', h⟩
theorem Ok.cutOk {n : Nat} {D : Due} {O : Oth} {left : Nat} (k : Ok n D O) : (cutPg D left).Ok := ⟨k.s0, k.s3, k.hb, by have h := k.bz; show D.b.length < 65536; omega, k.hp⟩
/-- where the counting page lies behind a cut, and what it keeps -/
theorem cut_sel {n : Nat} {D : Due} {O : Oth} {left : Nat} (k : Ok n D O) (hl : D.kept + left ≤ D.oct.length) {K : PySem.W.Frag} {H : Hp} {x y : Addr} (hx : SqT K H x ((cutPg D left).l.map V.int)) (hy : SqT K H y (O.l.map V.int)) :
    ∃ (c o : Addr) (L : List Int), pl D.pg x y = pl (behind D left).pg c o ∧ ((behind D left).pg = 0 ∨ (behind D left).pg = 1) ∧ SqT K H c (L.map V.int) ∧ L.take (behind D left).kept = (behind D left).oct ∧ (behind D left).kept ≤ L.length ∧ SqT K H o ((othBehind D O left).l.map V.int) := by
  have kb := (k.cut hl).pg
  by_cases c : bl D.b ≤ D.kept + left
  · have e : behind D left = { D with ps := D.ps.take (whole D.ps (D.kept + left - bl D.b)), kept := bl D.b + plc D.ps (whole D.ps (D.kept + left - bl D.b)) } := if_pos c
    have e2 : othBehind D O left = O := if_pos c
    refine ⟨x, y, (cutPg D left).l, ?_, kb, hx, ?_, ?_, ?_⟩
    · rw [e]
    · rw [e]
      exact strike c
    · rw [e]
      show bl D.b + plc D.ps (whole D.ps (D.kept + left - bl D.b)) ≤ (D.oct.take (D.kept + left)).length
      rw [List.length_take]
      have h1 := plc_whole D.ps (D.kept + left - bl D.b)
      omega
    · rw [e2]
      exact hy
  · rcases k.st with h0 | ⟨h0, he, hm⟩
    · exact absurd (Nat.le_trans h0 (Nat.le_add_right _ _)) c
    have e : behind D left = ⟨1 - D.pg, (D.s + 2) % 3, O.b, O.ps, bl O.b + (encP O.ps).length, none⟩ := by
      unfold behind
      rw [if_neg c, he]
    have e2 : othBehind D O left = ⟨D.b, D.ps, left, D.s⟩ := if_neg c
    have c2 : bl O.b ≤ O.m := by
      rw [hm, enc_len]
      exact Nat.le_add_right _ _
    have hs : O.s = (D.s + 2) % 3 := mod3 k.oP.s0 k.oP.s3 (k.os c2)
    have eO : O.l = enc O.s O.b O.ps := by
      show (enc O.s O.b O.ps).take O.m = _
      rw [hm, List.take_length]
    have el := enc_len O.s O.b O.ps
    refine ⟨y, x, O.l, ?_, kb, hy, ?_, ?_, ?_⟩
    · rw [e]
      exact pl_swap k.pg
    · rw [e, eO]
      show (enc O.s O.b O.ps).take (bl O.b + (encP O.ps).length) = enc ((D.s + 2) % 3) O.b O.ps
      rw [← el, List.take_length, hs]
    · rw [e, eO]
      show bl O.b + (encP O.ps).length ≤ _
      omega
    · rw [e2]
      have e3 : (cutPg D left).l = (Oth.l ⟨D.b, D.ps, left, D.s⟩) := by
        show D.oct.take (D.kept + left) = D.oct.take left
        rw [h0, Nat.zero_add]
      rw [← e3]
      exact hx
theorem Ok.oct_le {n : Nat} {D : Due} {O : Oth} (k : Ok n D O) : D.oct.length ≤ 1403 + 3 * n := by
  have h1 : D.oct.length = bl D.b + (encP D.ps).length := enc_len _ _ _
  have h2 := encP_len_le D.ps
  have h3 := k.pz
  have h4 := k.bz
  have h5 : bl D.b = 3 + 2 * D.b.length := rfl
  omega
def spJInit (K : PySem.W.Frag) : Sp := fun vs H Q _ => ∃ (j dx : Addr), vs = [.ref j] ∧ H j = some (.ins (gJ K) dx []) ∧ ∀ H', But j H H' → JAt K H' j due0 oth0 → Q .non H'
def spBegin (K : PySem.W.Frag) : Sp := fun vs H Q _ => ∃ (k : Kd) (j a : Addr) (D : Due) (O : Oth) (b : Hist), vs = [.ref j, .ref a] ∧ JAt K H j D O ∧ (D.pg = 0 ∨ D.pg = 1) ∧ HistAt K H k a b ∧ OkH b ∧ b.length ≤ 700 ∧
  ∀ H', But j H H' → JAt K H' j (begun D b) (othBegun D) → Q .non H'
def spCut (K : PySem.W.Frag) : Sp := fun vs H Q _ => ∃ (j : Addr) (D : Due) (O : Oth) (left n : Nat), vs = [.ref j, .int (left : Nat)] ∧ JAt K H j D O ∧ Ok n D O ∧ n ≤ 1000 ∧ D.kept + left ≤ D.oct.length ∧
  ∀ H', But j H H' → JAt K H' j (behind D left) (othBehind D O left) → Q .non H'
def spOpen (K : PySem.W.Frag) : Sp := fun vs H Q _ => ∃ (k kc ko : Kd) (a c o : Addr) (D : Due) (O : Oth) (left n : Nat), vs = [.ref a] ∧ Sq K H k a (pl D.pg c o) ∧ Sq K H kc c ((cutPg D left).l.map V.int) ∧ Sq K H ko o (O.l.map V.int) ∧ Ok n D O ∧ n ≤ 1000 ∧ D.kept + left ≤ D.oct.length ∧
  ∀ r H', Same H H' → JAt K H' r (behind D left) (othBehind D O left) → Q (.ref r) H'
section
variable {P : Program} {w : World} {K : PySem.W.Frag} {mg : Str → Option Value} {base : Heap}

theorem sc_Journal_init : FnScope ["self"] ["self"] (defScope s_Journal_init) := ⟨rfl, rfl, rfl, by decide +kernel, rfl, by decide +kernel, by decide +kernel⟩
theorem ok_Journal_init (hP : PrgOk P) (T : Txt K mg w) : DefOk P w K mg base CX0 7 (He.ma K (He.ga K "Journal") "__init__") ["self"] (spJInit K) := by
  obtain ⟨fd, F⟩ := T.f_Journal_init
  refine ⟨fd, F.ok sc_Journal_init (fun vs H Q E h => ?_) (fun cdv A outer s H vs Q E hr h => ?_), F.bindsN fun _ _ _ _ _ _ us hl => match us, hl with | [_], _ => rfl, F.kp⟩
  · obtain ⟨j, dx, rfl, hj, q⟩ := h
    rfl
  · obtain ⟨j, dx, rfl, hj, q⟩ := h
    refine ⟨_, PSs.nox (pss_cons (ps_fld (pv 0) (pe_tup (pa_cons (pe_d (ok_begun_octets T) (hr.mono (by decide)) (by rfl) T.g_begun_octets pass0 (pa_cons pe_int (pa_cons (pe_tup pa_nil) pa_nil))) (pa_cons (pe_tup pa_nil) pa_nil))) (by rfl)) (pss_cons (ps_fld (pv 0) pe_int (by rfl)) (pss_cons (ps_fld (pv 0) pe_int (by rfl)) (pss_cons (ps_fld (pv 0) (pe_tup pa_nil) (by rfl)) (pss_cons (ps_fld (pv 0) (pe_tup pa_nil) (by rfl)) (pss_one (ps_fld (pv 0) (pe_callB call_len (by rfl) T.b_len (by decide +kernel) (pa_cons (pe_ix ix_seq (pe_fld (pv 0) (by rfl)) pe_int (fun _ _ => rfl)) pa_nil)) (by rfl)))))))), ?_⟩
    refine ⟨szl (lk rfl), fun e0 he0 => ?_⟩
    have s0 := same_upd (o := .tup []) he0
    refine ⟨.t, e0, 0, [], rfl, ⟨[], SqT.of upd_same, rfl, fun i q h => by simp at h⟩, fun _ h => (List.not_mem_nil h).elim, by decide, by decide, fun x H1 s1 hx => ⟨szl (lk rfl), fun e1 he1 => ⟨szl (lk rfl), fun pr hpr => ?_⟩⟩⟩
    have t1 := same_upd (o := .tup []) he1
    have t2 := same_upd (o := .tup [.ref x, .ref e1]) hpr
    have sA := (s0.trans s1).trans (t1.trans t2)
    have hjA := sA _ _ hj
    refine ⟨_, rfl, j, _, dx, _, rfl, hjA, T.c_Journal, T.n_Journal_pages, lk rfl, _, rfl, j, _, dx, _, rfl, upd_same, T.c_Journal, T.n_Journal_page, lk rfl, _, rfl, j, _, dx, _, rfl, upd_same, T.c_Journal, T.n_Journal_sign, lk rfl, szl (lk rfl), fun e2 he2 => ?_⟩
    have hjB : upd (upd (upd (upd (upd H1 e1 (.tup [])) pr (.tup [.ref x, .ref e1])) j (.ins (gJ K) dx [("pages", .ref pr)])) j (.ins (gJ K) dx [("pages", .ref pr), ("page", .int 0)])) j (.ins (gJ K) dx [("pages", .ref pr), ("page", .int 0), ("sign", .int 0)]) j = some (.ins (gJ K) dx [("pages", .ref pr), ("page", .int 0), ("sign", .int 0)]) := upd_same
    have bB : But j (upd (upd H1 e1 (.tup [])) pr (.tup [.ref x, .ref e1])) (upd (upd (upd (upd (upd H1 e1 (.tup [])) pr (.tup [.ref x, .ref e1])) j (.ins (gJ K) dx [("pages", .ref pr)])) j (.ins (gJ K) dx [("pages", .ref pr), ("page", .int 0)])) j (.ins (gJ K) dx [("pages", .ref pr), ("page", .int 0), ("sign", .int 0)])) := (But.upd.trans But.upd).trans But.upd
    have u2 := same_upd (o := .tup []) he2
    have hjC := u2 _ _ hjB
    refine ⟨_, rfl, j, _, dx, _, rfl, hjC, T.c_Journal, T.n_Journal_begun, lk rfl, szl (lk rfl), fun e3 he3 => ?_⟩
    have u3 := same_upd (o := .tup []) he3
    have bC := (bB.trans (But.of u2)).trans ((But.upd (o := .ins (gJ K) dx [("pages", .ref pr), ("page", .int 0), ("sign", .int 0), ("begun", .ref e2)])).trans (But.of u3))
    have hjD := u3 _ _ (upd_same (a := j) (o := .ins (gJ K) dx [("pages", .ref pr), ("page", .int 0), ("sign", .int 0), ("begun", .ref e2)]))
    refine ⟨_, rfl, j, _, dx, _, rfl, hjD, T.c_Journal, T.n_Journal_laid, lk rfl, ?_⟩
    have bD := bC.trans (But.upd (o := .ins (gJ K) dx [("pages", .ref pr), ("page", .int 0), ("sign", .int 0), ("begun", .ref e2), ("laid", .ref e3)]))
    have hx1 : SqT K (upd (upd H1 e1 (.tup [])) pr (.tup [.ref x, .ref e1])) x ((encB 0 []).map V.int) := sqT_same (t1.trans t2) hx
    have hpr1 : SqT K (upd (upd H1 e1 (.tup [])) pr (.tup [.ref x, .ref e1])) pr [.ref x, .ref e1] := SqT.of upd_same
    have he11 : SqT K (upd (upd H1 e1 (.tup [])) pr (.tup [.ref x, .ref e1])) e1 [] := sqT_same t2 (SqT.of upd_same)
    have hxD := sqT_but noSq_ins hjA bD hx1
    have hprD := sqT_but noSq_ins hjA bD hpr1
    refine ⟨_, rfl, j, _, dx, _, _, rfl, upd_same, T.c_Journal, T.n_Journal_pages, rfl, (ix_t hprD rfl ⟨.ref x, _, rfl, len_sq (k := .t) hxD, _, rfl, j, _, dx, _, rfl, upd_same, T.c_Journal, T.n_Journal_kept, lk rfl, ?_⟩)⟩
    have bE := bD.trans (But.upd (o := .ins (gJ K) dx (jFs pr 0 0 (.ref e2) (.ref e3) (3 : Nat))))
    refine q _ (((But.of sA).trans bD).trans But.upd) ⟨dx, pr, .ref e2, .ref e3, x, e1, upd_same, sqT_but noSq_ins hjA bE hpr1, sqT_but noSq_ins hjA bE hx1, sqT_but noSq_ins hjA bE he11, .tup ?_ .nil, .tup ?_ .nil⟩
    · refine sqT_but noSq_ins hjC ?_ (SqT.of upd_same)
      exact ((But.upd.trans (But.of u3)).trans But.upd).trans But.upd
    · refine sqT_but noSq_ins hjD ?_ (SqT.of upd_same)
      exact But.upd.trans But.upd
end
end K62

set_option Elab.async false
set_option linter.all false
set_option maxRecDepth 100000
set_option maxHeartbeats 4000000
/-! K62U: Journal.begin, cut; open_journal. (printed by gen_journal2.py) -/
namespace K62
open PySem PySem.Spec PyProof.Rows L2
theorem op_subE {X : Cx} : OpR X (binaryOp .Sub) (fun x y H Q => ∃ i j k : Int, x = .int i ∧ y = .int j ∧ i - j = k ∧ Q (.int k) H) := fun pins s σ H x y v u Q I rx ry h => op_sub pins s σ H x y v u Q I rx ry (by
  obtain ⟨i, j, k, e1, e2, e3, q⟩ := h
  subst e3
  exact ⟨i, j, e1, e2, q⟩)
theorem op_addE {X : Cx} : OpR X (binaryOp .Add) (fun x y H Q => ∃ i j k : Int, x = .int i ∧ y = .int j ∧ i + j = k ∧ Q (.int k) H) := fun pins s σ H x y v u Q I rx ry h => op_add pins s σ H x y v u Q I rx ry (by
  obtain ⟨i, j, k, e1, e2, e3, q⟩ := h
  subst e3
  exact ⟨i, j, e1, e2, q⟩)
section
variable {P : Program} {w : World} {K : PySem.W.Frag} {mg : Str → Option Value} {base : Heap}

theorem sc_Journal_begin : FnScope ["self", "history", "octets", "letter"] ["self", "history"] (defScope s_Journal_begin) := ⟨rfl, rfl, rfl, by decide +kernel, rfl, by decide +kernel, by decide +kernel⟩
theorem ok_Journal_begin (hP : PrgOk P) (T : Txt K mg w) : DefOk P w K mg base CX0 8 (He.ma K (He.ga K "Journal") "begin") ["self", "history"] (spBegin K) := by
  obtain ⟨fd, F⟩ := T.f_Journal_begin
  obtain ⟨fdw, Fw, bw, kw⟩ := ok_Journal_written (P := P) (base := base) T
  obtain ⟨fdk, Fk, bk, kk⟩ := ok_Journal_keep (P := P) (base := base) T
  obtain ⟨t1, g1⟩ := T.i_SIGNS
  refine ⟨fd, F.ok sc_Journal_begin (fun vs H Q E h => ?_) (fun cdv A outer s H vs Q E hr h => ?_), F.bindsN fun _ _ _ _ _ _ us hl => match us, hl with | [_, _], _ => rfl, F.kp⟩
  · obtain ⟨k, j, a, D, O, b, rfl, hJ, hpg, hh, hok, hz, q⟩ := h
    rfl
  · obtain ⟨k, j, a, D, O, b, rfl, hJ, hpg, hh, hok, hz, q⟩ := h
    refine ⟨_, PSs.nox (pss_cons (ps_set (i := 2) sc_Journal_begin.nd rfl (.inl rfl) (pe_d (ok_begun_octets T) (hr.mono (by decide)) (by rfl) T.g_begun_octets pass0 (pa_cons (pe_op op_mod (pe_op op_add (pe_fld (pv 0) (by rfl)) pe_int) (pe_glob (v := .int 3) (by rfl) g1 ⟨_, rfl⟩)) (pa_cons (pv 1) pa_nil)))) (pss_cons (ps_expr (pe_meth0 (pv 0) T.c_Journal T.m_Journal_keep Fk (hr.mono (by decide)) bk .nil pass0)) (pss_cons (ps_fld (pv 0) (pe_op op_subE pe_int (pe_fld (pv 0) (by rfl))) (by rfl)) (pss_cons (ps_fld (pv 0) (pe_ix ix_seq (pv 2) pe_int (fun _ _ => rfl)) (by rfl)) (pss_cons (ps_fld (pv 0) (pe_callTy (call_tupK (K := K) rfl) (by rfl) T.b_tuple (by decide +kernel) (pa_cons (pe_lc (own := [("letter", 3)]) (g := gName 3) (tt := tYes) rfl sc_Journal_begin.nd (pi_seq (pv 1)) (blkOk_by (N := ["self", "history", "octets", "letter"]) (sc := defScope s_Journal_begin) (own := [("letter", 3)]) (by decide +kernel)) (fun _ _ _ _ _ => pg_name (i := 3) sc_Journal_begin.nd rfl (.inl rfl)) (fun _ _ _ _ _ => pts_nil) (fun _ _ _ _ _ => (pe_callTy (call_tupK (K := K) rfl) (by rfl) T.b_tuple (by decide +kernel) (pa_cons (pv 3) pa_nil)))) pa_nil)) (by rfl)) (pss_cons (ps_fld (pv 0) (pe_tup pa_nil) (by rfl)) (pss_cons (ps_expr (pe_meth (pv 0) T.c_Journal T.m_Journal_written Fw (hr.mono (by decide)) bw .nil pass0 (pa_cons (pv 2) pa_nil))) (pss_one (ps_fld (pv 0) pe_int (by rfl)))))))))), ?_⟩
    obtain ⟨dx, pr, bv, lv, c, o, hj, hpr, hc, ho, hb, hl⟩ := hJ
    refine ⟨_, rfl, j, _, dx, _, _, rfl, hj, T.c_Journal, T.n_Journal_sign, rfl, _, _, rfl, rfl, _, _, rfl, rfl, (show (0 : Int) < 3 by decide), _, rfl, k, a, (D.s + 1) % 3, b, rfl, hh, hok, hz, ⟨by omega, by omega⟩, fun x H1 s1 hx => ?_⟩
    have hj1 := s1 _ _ hj
    refine ⟨_, rfl, j, dx, _, rfl, hj1, rfl, j, dx, pr, c, o, D.pg, D.s, bv, lv, _, _, rfl, hj1, sqT_same s1 hpr, hpg, sqT_same s1 hc, fun H2 b2 hj2 => ?_⟩
    have e : (1 : Int) - ((D.pg : Nat) : Int) = ((1 - D.pg : Nat) : Int) := by rcases hpg with h | h <;> rw [h] <;> rfl
    refine ⟨_, rfl, j, _, dx, _, _, rfl, hj2, T.c_Journal, T.n_Journal_page, rfl, _, _, _, rfl, rfl, e, _, rfl, j, _, dx, _, rfl, hj2, T.c_Journal, T.n_Journal_page, lk rfl, ?_⟩
    have b3 : But j H1 (upd H2 j (.ins (gJ K) dx (jFs pr (1 - D.pg) D.s bv lv ((D.oct.map V.int).length : Nat)))) := b2.trans But.upd
    have hj3 : upd H2 j (.ins (gJ K) dx (jFs pr (1 - D.pg) D.s bv lv ((D.oct.map V.int).length : Nat))) j = some (.ins (gJ K) dx (jFs pr (1 - D.pg) D.s bv lv ((D.oct.map V.int).length : Nat))) := upd_same
    have hx3 := sqT_but noSq_ins hj1 b3 hx
    refine ⟨_, rfl, ix_t hx3 (v := .int ((D.s + 1) % 3)) (atI_nat (j := 0) rfl) ⟨_, rfl, j, _, dx, _, rfl, hj3, T.c_Journal, T.n_Journal_sign, lk rfl, ?_⟩⟩
    have b4 := b3.trans (But.upd (o := .ins (gJ K) dx (jFs pr (1 - D.pg) ((D.s + 1) % 3) bv lv ((D.oct.map V.int).length : Nat))))
    have hj4 := upd_same (H := upd H2 j (.ins (gJ K) dx (jFs pr (1 - D.pg) D.s bv lv ((D.oct.map V.int).length : Nat)))) (a := j) (o := .ins (gJ K) dx (jFs pr (1 - D.pg) ((D.s + 1) % 3) bv lv ((D.oct.map V.int).length : Nat)))
    obtain ⟨xs, hs, hl2, hat⟩ := ((hh.same s1).butN noSq_ins hj1 b4).ex
    refine ⟨_, rfl, k, a, xs, rfl, hs, fun J wk Da hD => lc_it wk (LtPv K _ Da b) LtPv.start (fun i H' _ h => hs.same (h.1.new hD)) ?_ ?_⟩
    · rintro i x H3 H4 hi pv3 ⟨rfl, hx⟩
      obtain ⟨q1, hq1⟩ : ∃ q1, b[i]? = some q1 := ⟨_, List.getElem?_eq_getElem (hl2 ▸ hi)⟩
      obtain ⟨c, kc, e1, e2⟩ := hat i q1 hq1
      rw [hx] at e1
      obtain rfl := Option.some.inj e1
      have e3 := e2.same (pv3.1.new hD)
      refine ⟨rfl, _, rfl, tup_of e3 fun t H5 s5 ht => ?_⟩
      exact pv3.step (by omega) hq1 s5 ht
    · rintro H5 pv5
      rw [hl2] at pv5
      obtain ⟨b5, acc, hD', hd⟩ := id pv5
      refine ⟨Da, acc, rfl, .inl ⟨SqL.of hD', fun t ht => ?_⟩⟩
      obtain ⟨s6, d6⟩ := pv5.all hD acc hD' ht
      have hj6 := s6 _ _ hj4
      refine ⟨_, rfl, j, _, dx, _, rfl, hj6, T.c_Journal, T.n_Journal_begun, lk rfl, szl (lk rfl), fun u hu => ?_⟩
      have b7 := (b4.trans (But.of s6)).trans (But.upd (o := .ins (gJ K) dx (jFs pr (1 - D.pg) ((D.s + 1) % 3) (.ref t) lv ((D.oct.map V.int).length : Nat))))
      have hj7 := upd_same (H := upd H5 t (.tup acc)) (a := j) (o := .ins (gJ K) dx (jFs pr (1 - D.pg) ((D.s + 1) % 3) (.ref t) lv ((D.oct.map V.int).length : Nat)))
      have d7 := dp_but noSq_ins hj6 (But.upd (o := .ins (gJ K) dx (jFs pr (1 - D.pg) ((D.s + 1) % 3) (.ref t) lv ((D.oct.map V.int).length : Nat)))) d6
      have u8 := same_upd (o := .tup []) hu
      have hj8 := u8 _ _ hj7
      refine ⟨_, rfl, j, _, dx, _, rfl, hj8, T.c_Journal, T.n_Journal_laid, lk rfl, ?_⟩
      have b9 := (b7.trans (But.of u8)).trans (But.upd (o := .ins (gJ K) dx (jFs pr (1 - D.pg) ((D.s + 1) % 3) (.ref t) (.ref u) ((D.oct.map V.int).length : Nat))))
      have b89 := But.upd (H := upd (upd (upd H5 t (.tup acc)) j (.ins (gJ K) dx (jFs pr (1 - D.pg) ((D.s + 1) % 3) (.ref t) lv ((D.oct.map V.int).length : Nat)))) u (.tup [])) (p := j) (o := .ins (gJ K) dx (jFs pr (1 - D.pg) ((D.s + 1) % 3) (.ref t) (.ref u) ((D.oct.map V.int).length : Nat)))
      have hj9 := upd_same (H := upd (upd (upd H5 t (.tup acc)) j (.ins (gJ K) dx (jFs pr (1 - D.pg) ((D.s + 1) % 3) (.ref t) lv ((D.oct.map V.int).length : Nat)))) u (.tup [])) (a := j) (o := .ins (gJ K) dx (jFs pr (1 - D.pg) ((D.s + 1) % 3) (.ref t) (.ref u) ((D.oct.map V.int).length : Nat)))
      have d9 := dp_but noSq_ins hj8 b89 (dp_same u8 d7)
      have u9 := sqT_but noSq_ins hj8 b89 (SqT.of (K := K) (upd_same (H := upd (upd H5 t (.tup acc)) j (.ins (gJ K) dx (jFs pr (1 - D.pg) ((D.s + 1) % 3) (.ref t) lv ((D.oct.map V.int).length : Nat)))) (a := u) (o := .tup [])))
      have hpr9 := sqT_but noSq_ins hj1 b9 (sqT_same s1 hpr)
      rw [pl_swap hpg] at hpr9
      have hpg' : 1 - D.pg = 0 ∨ 1 - D.pg = 1 := by omega
      refine ⟨_, rfl, j, dx, _, rfl, hj9, rfl, _, rfl, j, x, dx, pr, o, c, 1 - D.pg, (D.s + 1) % 3, .ref t, .ref u, _, rfl, hj9, hpr9, hpg', fun pr2 H10 b10 hj10 hpr10 => ?_⟩
      refine ⟨_, rfl, j, _, dx, _, rfl, hj10, T.c_Journal, T.n_Journal_kept, lk rfl, ?_⟩
      have bA := b10.trans (But.upd (o := .ins (gJ K) dx (jFs pr2 (1 - D.pg) ((D.s + 1) % 3) (.ref t) (.ref u) (0 : Nat))))
      have bF := b9.trans bA
      have eo : (begun D b).oct = encB ((D.s + 1) % 3) b := by
        show encB ((D.s + 1) % 3) b ++ [] = _
        rw [List.append_nil]
      refine q _ ((But.of s1).trans bF) ⟨dx, pr2, .ref t, .ref u, x, c, upd_same, sqT_but noSq_ins hj10 But.upd hpr10, ?_, ?_, dp_but noSq_ins hj9 bA d9, .tup (sqT_but noSq_ins hj9 bA u9) .nil⟩
      · rw [eo]
        exact sqT_but noSq_ins hj1 bF hx
      · rw [othBegun_l]
        exact sqT_but noSq_ins hj1 bF (sqT_same s1 hc)
end
end K62

set_option Elab.async false
set_option linter.all false
set_option maxRecDepth 100000
set_option maxHeartbeats 4000000
/-! K62V: Journal.cut; open_journal. (printed by gen_cut.py) -/
namespace K62
open PySem PySem.Spec PyProof.Rows L2
theorem plain_out {K : PySem.W.Frag} {H : Hp} {t0 t1 : Addr} {pg : Nat} {C O : Pg} (hpg : pg = 0 ∨ pg = 1) (h0 : SqT K H t0 ((pair pg C O).1.l.map V.int)) (h1 : SqT K H t1 ((pair pg C O).2.l.map V.int)) :
    ∃ c o : Addr, [V.ref t0, V.ref t1] = pl pg c o ∧ SqT K H c (C.l.map V.int) ∧ SqT K H o (O.l.map V.int) := by
  rcases hpg with rfl | rfl
  · exact ⟨t0, t1, rfl, h0, h1⟩
  · exact ⟨t1, t0, rfl, h1, h0⟩
section
variable {P : Program} {w : World} {K : PySem.W.Frag} {mg : Str → Option Value} {base : Heap}

theorem sc_Journal_cut : FnScope ["self", "left", "behind"] ["self", "left"] (defScope s_Journal_cut) := ⟨rfl, rfl, rfl, by decide +kernel, rfl, by decide +kernel, by decide +kernel⟩
theorem ok_Journal_cut (hP : PrgOk P) (T : Txt K mg w) : DefOk P w K mg base CX0 8 (He.ma K (He.ga K "Journal") "cut") ["self", "left"] (spCut K) := by
  obtain ⟨fd, F⟩ := T.f_Journal_cut
  obtain ⟨fdw, Fw, bw, kw⟩ := ok_Journal_written (P := P) (base := base) T
  obtain ⟨fdl, Fl, bl2, kl⟩ := ok_Journal_loose (P := P) (base := base) T
  refine ⟨fd, F.ok sc_Journal_cut (fun vs H Q E h => ?_) (fun cdv A outer s H vs Q E hr h => ?_), F.bindsN fun _ _ _ _ _ _ us hl => match us, hl with | [_, _], _ => rfl, F.kp⟩
  · obtain ⟨j, D, O, left, n, rfl, hJ, hok, hn, hle, q⟩ := h
    rfl
  · obtain ⟨j, D, O, left, n, rfl, hJ, hok, hn, hle, q⟩ := h
    refine ⟨_, PSs.nox (pss_cons (ps_if (pt_not (pt_val (pe_d (ok_is_below T) (hr.mono (by decide)) (by rfl) T.g_is_below pass0 (pa_cons (pv 1) (pa_cons (pe_op op_add (pe_meth0 (pv 0) T.c_Journal T.m_Journal_loose Fl (hr.mono (by decide)) bl2 .nil pass0) pe_int) pa_nil))))) (pss_one ps_never) pss_nil) (pss_cons (ps_expr (pe_meth (pv 0) T.c_Journal T.m_Journal_written Fw (hr.mono (by decide)) bw .nil pass0 (pa_cons (pe_slice sl_tupA (pe_ix ix_seq (pe_fld (pv 0) (by rfl)) (pe_fld (pv 0) (by rfl)) (fun _ _ => rfl)) po_none (po_some (pe_op op_addE (pe_fld (pv 0) (by rfl)) (pv 1)))) pa_nil))) (pss_cons (ps_asg (pe_d (ok_plain_journal hP T) (hr.mono (by decide)) (by rfl) T.g_plain_journal pass0 (pa_cons (pe_fld (pv 0) (by rfl)) pa_nil)) (pg_tup rfl (pgs_cons (pg_fld (pv 0)) (pgs_cons (pg_fld (pv 0)) (pgs_cons (pg_fld (pv 0)) (pgs_cons (pg_fld (pv 0)) (pgs_cons (pg_name (i := 2) sc_Journal_cut.nd rfl (.inl rfl)) pgs_nil))))))) (pss_cons (ps_expr (pe_meth (pv 0) T.c_Journal T.m_Journal_written Fw (hr.mono (by decide)) bw .nil pass0 (pa_cons (pe_slice sl_tupA (pe_ix ix_seq (pe_fld (pv 0) (by rfl)) (pe_fld (pv 0) (by rfl)) (fun _ _ => rfl)) po_none (po_some (pv 2))) pa_nil))) (pss_one (ps_fld (pv 0) (pv 2) (by rfl))))))), ?_⟩
    obtain ⟨dx, pr, bv, lv, c, o, hj, hpr, hc, ho, hb, hl⟩ := hJ
    have hpg := hok.pg
    have zz := hok.oct_le
    have pj := plain_cut hok hle
    have zp : D.ps.length < 1000000 := by have := hok.pz; omega
    have zo : O.p.ps.length < 1000000 := by have h : O.ps.length ≤ n := hok.opz; show O.ps.length < 1000000; omega
    obtain ⟨o0, o1⟩ := pair_all (pg := D.pg) (F := Pg.Ok) (hok.cutOk (left := left)) hok.oP
    obtain ⟨z0, z1⟩ := pair_all (pg := D.pg) (C := cutPg D left) (O := O.p) (F := fun P => P.ps.length < 1000000) zp zo
    refine ⟨_, rfl, ⟨_, rfl, j, dx, _, rfl, hj, rfl, j, dx, pr, c, o, D.pg, D.s, bv, lv, _, _, rfl, hj, hpr, hpg, hc, _, _, rfl, rfl, _, _, rfl, _, rfl, ?_⟩⟩
    refine iteNS ?_ ?_
    · rw [List.length_map]
      omega
    have e1 : ((D.kept : Nat) : Int) + ((left : Nat) : Int) = ((D.kept + left : Nat) : Int) := by omega
    refine ⟨_, rfl, j, dx, _, rfl, hj, rfl, _, rfl, j, _, dx, _, _, rfl, hj, T.c_Journal, T.n_Journal_pages, rfl, _, rfl, j, _, dx, _, _, rfl, hj, T.c_Journal, T.n_Journal_page, rfl, (ix_t hpr (at_pl hpg) ⟨_, rfl, j, _, dx, _, _, rfl, hj, T.c_Journal, T.n_Journal_kept, rfl, _, rfl, _, _, _, rfl, rfl, e1, _, rfl, sl_to hc (by rw [List.length_map]; exact hle) fun x H1 s1 hx => ?_⟩)⟩
    have hx1 : SqT K H1 x ((cutPg D left).l.map V.int) := by
      have e : (cutPg D left).l.map V.int = (D.oct.map V.int).take (D.kept + left) := List.map_take
      rw [e]
      exact hx
    have hj1 := s1 _ _ hj
    refine ⟨j, x, dx, pr, c, o, D.pg, D.s, bv, lv, _, rfl, hj1, sqT_same s1 hpr, hpg, fun pr2 H2 b2 hj2 hpr2 => ?_⟩
    have hx2' := sqT_but noSq_ins hj1 b2 hx1
    have ho2 := sqT_but noSq_ins hj1 b2 (sqT_same s1 ho)
    obtain ⟨k0, k1, a0, a1, g1, g2, g3⟩ := plain_in (k := .t) (kc := .t) (ko := .t) (C := cutPg D left) (O := O.p) hpg hpr2 hx2' ho2
    refine ⟨_, rfl, j, _, dx, _, _, rfl, hj2, T.c_Journal, T.n_Journal_pages, rfl, .t, k0, k1, pr2, a0, a1, _, _, _, _, rfl, g1, g2, g3, o0, o1, z0, z1, pj, fun r x2 y2 H3 s3 hr3 hx2 hy2 => ?_⟩
    have hj3 := s3 _ _ hj2
    refine ⟨r, _, rfl, hr3, rfl, _, _, rfl, _, rfl, j, _, dx, _, rfl, hj3, T.c_Journal, T.n_Journal_page, lk rfl, _, _, rfl, _, rfl, j, _, dx, _, rfl, upd_same, T.c_Journal, T.n_Journal_sign, lk rfl, _, _, rfl, _, rfl, j, _, dx, _, rfl, upd_same, T.c_Journal, T.n_Journal_begun, lk rfl, _, _, rfl, _, rfl, j, _, dx, _, rfl, upd_same, T.c_Journal, T.n_Journal_laid, lk rfl, _, _, rfl, rfl, ?_⟩
    obtain ⟨s0, es0⟩ : ∃ s0, s0 = D.s := ⟨_, rfl⟩
    obtain ⟨kp, ekp⟩ : ∃ kp : Int, kp = (D.kept : Nat) := ⟨_, rfl⟩
    rw [← es0, ← ekp] at hj3
    have b4 : But j H3 (upd (upd (upd (upd H3 j (.ins (gJ K) dx (jFs pr2 (behind D left).pg s0 bv lv kp))) j (.ins (gJ K) dx (jFs pr2 (behind D left).pg (behind D left).s bv lv kp))) j (.ins (gJ K) dx (jFs pr2 (behind D left).pg (behind D left).s x2 lv kp))) j (.ins (gJ K) dx (jFs pr2 (behind D left).pg (behind D left).s x2 y2 kp))) := ((But.upd.trans But.upd).trans But.upd).trans But.upd
    have hj4 : (upd (upd (upd (upd H3 j (.ins (gJ K) dx (jFs pr2 (behind D left).pg s0 bv lv kp))) j (.ins (gJ K) dx (jFs pr2 (behind D left).pg (behind D left).s bv lv kp))) j (.ins (gJ K) dx (jFs pr2 (behind D left).pg (behind D left).s x2 lv kp))) j (.ins (gJ K) dx (jFs pr2 (behind D left).pg (behind D left).s x2 y2 kp))) j = some (.ins (gJ K) dx (jFs pr2 (behind D left).pg (behind D left).s x2 y2 kp)) := upd_same
    have hpr4 := sqT_but noSq_ins hj3 b4 (sqT_same s3 hpr2)
    have hxp4 := sqT_but noSq_ins hj3 b4 (sqT_same s3 hx2')
    have hop4 := sqT_but noSq_ins hj3 b4 (sqT_same s3 ho2)
    have dx4 := dp_but noSq_ins hj3 b4 hx2
    have dy4 := dp_but noSq_ins hj3 b4 hy2
    obtain ⟨c4, o4, L, epl, hbpg, hc4, eL, hL, ho4⟩ := cut_sel hok hle hxp4 hop4
    rw [epl] at hpr4
    subst es0 ekp
    refine ⟨_, rfl, j, dx, _, rfl, hj4, rfl, _, rfl, j, _, dx, _, _, rfl, hj4, T.c_Journal, T.n_Journal_pages, rfl, _, rfl, j, _, dx, _, _, rfl, hj4, T.c_Journal, T.n_Journal_page, rfl, (ix_t hpr4 (at_pl hbpg) ⟨_, rfl, _, rfl, sl_to hc4 (by rw [List.length_map]; exact hL) fun z H5 s5 hz => ?_⟩)⟩
    have hj5 := s5 _ _ hj4
    refine ⟨j, z, dx, pr2, c4, o4, (behind D left).pg, (behind D left).s, x2, y2, _, rfl, hj5, sqT_same s5 hpr4, hbpg, fun pr3 H6 b6 hj6 hpr6 => ?_⟩
    refine ⟨_, rfl, _, rfl, j, _, dx, _, rfl, hj6, T.c_Journal, T.n_Journal_kept, lk rfl, ?_⟩
    have b7 := b6.trans (But.upd (o := .ins (gJ K) dx (jFs pr3 (behind D left).pg (behind D left).s x2 y2 ((behind D left).kept : Nat))))
    have hz' : SqT K H5 z ((behind D left).oct.map V.int) := by
      rw [← eL, List.map_take]
      exact hz
    refine q _ ?_ ⟨dx, pr3, x2, y2, z, o4, upd_same, sqT_but noSq_ins hj6 But.upd hpr6, sqT_but noSq_ins hj5 b7 hz', sqT_but noSq_ins hj5 b7 (sqT_same s5 ho4), dp_but noSq_ins hj5 b7 (dp_same s5 dx4), dp_but noSq_ins hj5 b7 (dp_same s5 dy4)⟩
    exact ((((But.of s1).trans b2).trans (But.of s3)).trans b4).trans ((But.of s5).trans b7)
theorem sc_open_journal : FnScope ["pages", "found", "behind"] ["pages"] (defScope s_open_journal) := ⟨rfl, rfl, rfl, by decide +kernel, rfl, by decide +kernel, by decide +kernel⟩
theorem fn_open_journal (hP : PrgOk P) (T : Txt K mg w) : ∃ fd, FnP K "open_journal" "open_journal" s_open_journal (He.ga K "open_journal") fd ∧ FnOk P w K mg base CX0 9 (He.ga K "open_journal") fd ["pages"] (spOpen K) := by
  obtain ⟨fd, F⟩ := T.f_open_journal
  obtain ⟨fdw, Fw, bw, kw⟩ := ok_Journal_written (P := P) (base := base) T
  obtain ⟨fdi, Fi, bi, ki⟩ := ok_Journal_init (P := P) (base := base) hP T
  refine ⟨fd, F, F.ok sc_open_journal (fun vs H Q E h => ?_) (fun cdv A outer s H vs Q E hr h => ?_)⟩
  · obtain ⟨k, kc, ko, a, c, o, D, O, left, n, rfl, _⟩ := h
    rfl
  · obtain ⟨k, kc, ko, a, c, o, D, O, left, n, rfl, ha, hc, ho, hok, hn, hle, q⟩ := h
    refine ⟨_, PSs.nox (pss_cons (ps_set (i := 1) sc_open_journal.nd rfl (.inl rfl) (pe_make0 T.k_Journal Fi (hr.mono (by decide)) (by rfl) T.g_Journal bi .nil pass0)) (pss_cons (ps_asg (pe_d (ok_plain_journal hP T) (hr.mono (by decide)) (by rfl) T.g_plain_journal pass0 (pa_cons (pv 0) pa_nil)) (pg_tup rfl (pgs_cons (pg_fld (pv 1)) (pgs_cons (pg_fld (pv 1)) (pgs_cons (pg_fld (pv 1)) (pgs_cons (pg_fld (pv 1)) (pgs_cons (pg_name (i := 2) sc_open_journal.nd rfl (.inl rfl)) pgs_nil))))))) (pss_cons (ps_fld (pv 1) (pe_tup (pa_cons (pe_callTy (call_tupK (K := K) rfl) (by rfl) T.b_tuple (by decide +kernel) (pa_cons (pe_ix ix_seq (pv 0) pe_int (fun _ _ => rfl)) pa_nil)) (pa_cons (pe_callTy (call_tupK (K := K) rfl) (by rfl) T.b_tuple (by decide +kernel) (pa_cons (pe_ix ix_seq (pv 0) pe_int (fun _ _ => rfl)) pa_nil)) pa_nil))) (by rfl)) (pss_cons (ps_expr (pe_meth (pv 1) T.c_Journal T.m_Journal_written Fw (hr.mono (by decide)) bw .nil pass0 (pa_cons (pe_slice sl_tupA (pe_ix ix_seq (pe_fld (pv 1) (by rfl)) (pe_fld (pv 1) (by rfl)) (fun _ _ => rfl)) po_none (po_some (pv 2))) pa_nil))) (pss_cons (ps_fld (pv 1) (pv 2) (by rfl)) (pss_one (ps_ret (pv 1)))))))), ?_⟩
    have hpg := hok.pg
    have zz := hok.oct_le
    have pj := plain_cut hok hle
    have zp : D.ps.length < 1000000 := by have := hok.pz; omega
    have zo : O.p.ps.length < 1000000 := by have h : O.ps.length ≤ n := hok.opz; show O.ps.length < 1000000; omega
    obtain ⟨o0, o1⟩ := pair_all (pg := D.pg) (F := Pg.Ok) (hok.cutOk (left := left)) hok.oP
    obtain ⟨z0, z1⟩ := pair_all (pg := D.pg) (C := cutPg D left) (O := O.p) (F := fun P => P.ps.length < 1000000) zp zo
    refine fun j dj hx hdx ne => ⟨j, dj, rfl, upd_same, fun H2 b2 hJ2 => ⟨rfl, ?_⟩⟩
    have s2 : Same H H2 := Same.made hx hdx fun c o e n => b2 c o n e
    obtain ⟨dx, pr2, bv, lv, c0, oo0, hj2, _⟩ := hJ2
    obtain ⟨k0, k1, a0, a1, g1, g2, g3⟩ := plain_in (C := cutPg D left) (O := O.p) hpg (ha.same s2) (hc.same s2) (ho.same s2)
    refine ⟨_, rfl, k, k0, k1, a, a0, a1, _, _, _, _, rfl, g1, g2, g3, o0, o1, z0, z1, pj, fun r x2 y2 H3 s3 hr3 hx2 hy2 => ?_⟩
    have hj3 := s3 _ _ hj2
    refine ⟨r, _, rfl, hr3, rfl, _, _, rfl, _, rfl, j, _, dx, _, rfl, hj3, T.c_Journal, T.n_Journal_page, lk rfl, _, _, rfl, _, rfl, j, _, dx, _, rfl, upd_same, T.c_Journal, T.n_Journal_sign, lk rfl, _, _, rfl, _, rfl, j, _, dx, _, rfl, upd_same, T.c_Journal, T.n_Journal_begun, lk rfl, _, _, rfl, _, rfl, j, _, dx, _, rfl, upd_same, T.c_Journal, T.n_Journal_laid, lk rfl, _, _, rfl, rfl, ?_⟩
    obtain ⟨s0, es0⟩ : ∃ s0, s0 = due0.s := ⟨_, rfl⟩
    obtain ⟨kp, ekp⟩ : ∃ kp : Int, kp = (due0.kept : Nat) := ⟨_, rfl⟩
    rw [← es0, ← ekp] at hj3
    have b4 : But j H3 (upd (upd (upd (upd H3 j (.ins (gJ K) dx (jFs pr2 (behind D left).pg s0 bv lv kp))) j (.ins (gJ K) dx (jFs pr2 (behind D left).pg (behind D left).s bv lv kp))) j (.ins (gJ K) dx (jFs pr2 (behind D left).pg (behind D left).s x2 lv kp))) j (.ins (gJ K) dx (jFs pr2 (behind D left).pg (behind D left).s x2 y2 kp))) := ((But.upd.trans But.upd).trans But.upd).trans But.upd
    have hj4 : (upd (upd (upd (upd H3 j (.ins (gJ K) dx (jFs pr2 (behind D left).pg s0 bv lv kp))) j (.ins (gJ K) dx (jFs pr2 (behind D left).pg (behind D left).s bv lv kp))) j (.ins (gJ K) dx (jFs pr2 (behind D left).pg (behind D left).s x2 lv kp))) j (.ins (gJ K) dx (jFs pr2 (behind D left).pg (behind D left).s x2 y2 kp))) j = some (.ins (gJ K) dx (jFs pr2 (behind D left).pg (behind D left).s x2 y2 kp)) := upd_same
    have ga := (g1.same s3).butN noSq_ins hj3 b4
    have g2' := (g2.same s3).butN noSq_ins hj3 b4
    have g3' := (g3.same s3).butN noSq_ins hj3 b4
    have dx4 := dp_but noSq_ins hj3 b4 hx2
    have dy4 := dp_but noSq_ins hj3 b4 hy2
    subst es0 ekp
    refine ⟨_, rfl, ix_sq ga rfl (tup_of g2' fun t0 H5 s5 ht0 => ⟨_, rfl, ix_sq (ga.same s5) rfl (tup_of (g3'.same s5) fun t1 H6 s6 ht1 => ⟨szl (lk rfl), fun u hu => ?_⟩)⟩)⟩
    have s7 := (s5.trans s6).trans (same_upd (o := .tup [.ref t0, .ref t1]) hu)
    have hj7 := s7 _ _ hj4
    refine ⟨_, rfl, j, _, dx, _, rfl, hj7, T.c_Journal, T.n_Journal_pages, lk rfl, ?_⟩
    have s67 := s6.trans (same_upd (o := .tup [.ref t0, .ref t1]) hu)
    obtain ⟨c8, o8, e8, hc8, ho8⟩ := plain_out hpg (sqT_same s67 ht0) (sqT_same (same_upd (o := .tup [.ref t0, .ref t1]) hu) ht1)
    have hu8 : SqT K (upd H6 u (.tup [.ref t0, .ref t1])) u (pl D.pg c8 o8) := by
      rw [← e8]
      exact SqT.of upd_same
    have b9 : But j (upd H6 u (.tup [.ref t0, .ref t1])) (upd (upd H6 u (.tup [.ref t0, .ref t1])) j (.ins (gJ K) dx (jFs u (behind D left).pg (behind D left).s x2 y2 (due0.kept : Nat)))) := But.upd
    have hj9 : (upd (upd H6 u (.tup [.ref t0, .ref t1])) j (.ins (gJ K) dx (jFs u (behind D left).pg (behind D left).s x2 y2 (due0.kept : Nat)))) j = some (.ins (gJ K) dx (jFs u (behind D left).pg (behind D left).s x2 y2 (due0.kept : Nat))) := upd_same
    have hu9 := sqT_but noSq_ins hj7 b9 hu8
    obtain ⟨c4, o4, L, epl, hbpg, hc4, eL, hL, ho4⟩ := cut_sel hok hle (sqT_but noSq_ins hj7 b9 hc8) (sqT_but noSq_ins hj7 b9 ho8)
    rw [epl] at hu9
    refine ⟨_, rfl, j, dx, _, rfl, hj9, rfl, _, rfl, j, _, dx, _, _, rfl, hj9, T.c_Journal, T.n_Journal_pages, rfl, _, rfl, j, _, dx, _, _, rfl, hj9, T.c_Journal, T.n_Journal_page, rfl, (ix_t hu9 (at_pl hbpg) ⟨_, rfl, _, rfl, sl_to hc4 (by rw [List.length_map]; exact hL) fun z HA sA hz => ?_⟩)⟩
    have hjA := sA _ _ hj9
    refine ⟨j, z, dx, u, c4, o4, (behind D left).pg, (behind D left).s, x2, y2, _, rfl, hjA, sqT_same sA hu9, hbpg, fun pr3 HB bB hjB hprB => ?_⟩
    refine ⟨_, rfl, _, rfl, j, _, dx, _, rfl, hjB, T.c_Journal, T.n_Journal_kept, lk rfl, ?_⟩
    have bC := bB.trans (But.upd (o := .ins (gJ K) dx (jFs pr3 (behind D left).pg (behind D left).s x2 y2 ((behind D left).kept : Nat))))
    have hz' : SqT K HA z ((behind D left).oct.map V.int) := by
      rw [← eL, List.map_take]
      exact hz
    have b9C := (b9.trans (But.of sA)).trans bC
    refine ⟨_, rfl, q j _ ?_ ⟨dx, pr3, x2, y2, z, o4, upd_same, sqT_but noSq_ins hjB But.upd hprB, sqT_but noSq_ins hjA bC hz', sqT_but noSq_ins hjA bC (sqT_same sA ho4), dp_but noSq_ins hj7 b9C (dp_same s7 dx4), dp_but noSq_ins hj7 b9C (dp_same s7 dy4)⟩⟩
    have bb : But j H _ := (((But.of s2).trans (But.of s3)).trans b4).trans ((But.of s7).trans b9C)
    exact bb.new hx
theorem ok_open_journal (hP : PrgOk P) (T : Txt K mg w) : DefOk P w K mg base CX0 9 (He.ga K "open_journal") ["pages"] (spOpen K) := by
  obtain ⟨fd, F, G⟩ := fn_open_journal (P := P) (base := base) hP T
  exact ⟨fd, G, F.bindsN fun _ _ _ _ _ _ us hl => match us, hl with | [_], _ => rfl, F.kp⟩
theorem ok_open_journalK (hP : PrgOk P) (T : Txt K mg w) : DefOkK P w K mg base CX0 9 (He.ga K "open_journal") "pages" (spOpen K) := by
  obtain ⟨fd, F, G⟩ := fn_open_journal (P := P) (base := base) hP T
  refine ⟨fd, G, fun s u => ?_, F.kp⟩
  obtain ⟨oc, od, dV, kV, doc, pm, an, cdv, ct, osl, rfl, lk, hcd, hd, hk⟩ := F.ex
  rcases hd with ⟨_, rfl⟩ | ⟨e, _⟩
  · exact .of_eq rfl
  · exact absurd rfl e
end
end K62

set_option Elab.async false
set_option linter.all false
set_option maxRecDepth 100000
set_option maxHeartbeats 4000000
/-! K62A: the law's draws: _law_box, _law_take, _law_pick, _law_press, _law_history. (printed by gen_box.py) -/
namespace K62
open PySem PySem.Spec PyProof.Rows L2
theorem op_modE {X : Cx} : OpR X (binaryOp .Mod) (fun x y H Q => ∃ i j k : Int, x = .int i ∧ y = .int j ∧ 0 < j ∧ i % j = k ∧ Q (.int k) H) := fun pins s σ H x y v u Q I rx ry h => op_mod pins s σ H x y v u Q I rx ry (by
  obtain ⟨i, j, k, e1, e2, e0, e3, q⟩ := h
  subst e3
  exact ⟨i, j, e1, e2, e0, q⟩)
/-- a box of draws at r -/
def BoxAt (H : Hp) (r : Addr) : Prop := ∃ g h : Int, H r = some (.lst [.int g, .int h]) ∧ 0 ≤ g ∧ 0 ≤ h ∧ h < 4294967296
theorem BoxAt.same {H H' : Hp} {r : Addr} (b : BoxAt H r) (s : Same H H') : BoxAt H' r := by
  obtain ⟨g, h, e, q⟩ := b
  exact ⟨g, h, s _ _ e, q⟩
theorem BoxAt.but {H H' : Hp} {r p : Addr} (b : BoxAt H r) (s : But p H H') (n : r ≠ p) : BoxAt H' r := by
  obtain ⟨g, h, e, q⟩ := b
  exact ⟨g, h, s _ _ n e, q⟩
def spLBox (K : PySem.W.Frag) : Sp := fun vs H Q _ => ∃ (a : Addr) (k : Int) (ns : List Int), vs = [.ref a, .int k] ∧ SqL K H a (ns.map V.int) ∧ 0 ≤ k ∧ k < 12 ∧ ns.length ≤ 16777216 ∧ ∀ r H', H r = none → Same H H' → BoxAt H' r → Q (.ref r) H'
def spLTake : Sp := fun vs H Q _ => ∃ (r : Addr) (m : Int), vs = [.ref r, .int m] ∧ BoxAt H r ∧ 1 ≤ m ∧ m < 1000000 ∧ ∀ v H', 0 ≤ v → v < m → But r H H' → BoxAt H' r → Q (.int v) H'
def spLPick : Sp := fun vs H Q _ => ∃ (r s : Addr) (xs : List V), vs = [.ref r, .ref s] ∧ BoxAt H r ∧ s ≠ r ∧ H s = some (.lst xs) ∧ 1 ≤ xs.length ∧ xs.length < 1000000 ∧ ∀ (i : Nat) v H', xs[i]? = some v → But r H H' → BoxAt H' r → Q v H'
def spLPress (K : PySem.W.Frag) : Sp := fun vs H Q _ => ∃ r : Addr, vs = [.ref r] ∧ BoxAt H r ∧ ∀ (p : Pr) t H', p.ok → But r H H' → BoxAt H' r → SqT K H' t (vPr p) → Q (.ref t) H'
def spLHist (K : PySem.W.Frag) : Sp := fun vs H Q _ => ∃ r : Addr, vs = [.ref r] ∧ BoxAt H r ∧ ∀ (b : Hist) t H', OkH b → b.length ≤ 700 → But r H H' → BoxAt H' r → Dp K H' (.ref t) (dHs b) → Q (.ref t) H'
/-- histories drawn: the list at D holds i letters -/
def DrPv (K : PySem.W.Frag) (H1 : Hp) (r D : Addr) (i : Nat) (H' : Hp) : Prop := But r H1 H' ∧ BoxAt H' r ∧ ∃ (b : Hist) (acc : List V), OkH b ∧ b.length = i ∧ H' D = some (.lst acc) ∧ DpAll K H' acc (b.map dLt)
theorem okH_snoc {b : Hist} {x y : Int} (h : OkH b) (hx : 0 ≤ x ∧ x < 4) (hy : 0 ≤ y ∧ y < 6) : OkH (b ++ [(x, y)]) := fun q hq => by
  rcases List.mem_append.mp hq with h1 | h1
  · exact h q h1
  · rw [List.mem_singleton.mp h1]
    exact ⟨hx, hy⟩
theorem dpAll_append {K : PySem.W.Frag} {H : Hp} : ∀ {vs us : List V} {ds es : List PyData}, DpAll K H vs ds → DpAll K H us es → DpAll K H (vs ++ us) (ds ++ es)
  | _, _, _, _, .nil, h => h
  | _, _, _, _, .cons h1 t, h => .cons h1 (dpAll_append t h)
theorem dpAll_rep {K : PySem.W.Frag} {H : Hp} {vs : List V} {ds : List PyData} (h : DpAll K H vs ds) : ∀ n : Nat, DpAll K H (List.replicate n vs).flatten (List.replicate n ds).flatten
  | 0 => .nil
  | n + 1 => by
    rw [List.replicate_succ, List.replicate_succ, List.flatten_cons, List.flatten_cons]
    exact dpAll_append h (dpAll_rep h n)
theorem map_rep {α β : Type} (f : α → β) (l : List α) : ∀ n : Nat, (List.replicate n l).flatten.map f = (List.replicate n (l.map f)).flatten
  | 0 => rfl
  | n + 1 => by rw [List.replicate_succ, List.replicate_succ, List.flatten_cons, List.flatten_cons, List.map_append, map_rep f l n]
theorem len_rep {α : Type} (l : List α) : ∀ n : Nat, (List.replicate n l).flatten.length = n * l.length
  | 0 => by simp
  | n + 1 => by rw [List.replicate_succ, List.flatten_cons, List.length_append, len_rep l n, Nat.succ_mul]; omega
theorem okH_rep {b : Hist} (h : OkH b) : ∀ n : Nat, OkH (List.replicate n b).flatten
  | 0 => fun _ z => (List.not_mem_nil z).elim
  | n + 1 => fun q hq => by
    rw [List.replicate_succ, List.flatten_cons] at hq
    rcases List.mem_append.mp hq with h1 | h1
    · exact h q h1
    · exact okH_rep h n q h1
section
variable {P : Program} {w : World} {K : PySem.W.Frag} {mg : Str → Option Value} {base : Heap}

theorem sc__law_box : FnScope ["_law_script", "_law_k", "_law_cell", "_law_great"] ["_law_script", "_law_k"] (defScope s__law_box) := ⟨rfl, rfl, rfl, by decide +kernel, rfl, by decide +kernel, by decide +kernel⟩
theorem ok__law_box (T : Txt K mg w) : DefOk P w K mg base CX0 1 (He.ga K "_law_box") ["_law_script", "_law_k"] (spLBox K) := by
  obtain ⟨fd, F⟩ := T.f__law_box
  refine ⟨fd, F.ok sc__law_box (fun vs H Q E h => ?_) (fun cdv A outer s H vs Q E hr h => ?_), F.bindsN fun _ _ _ _ _ _ us hl => match us, hl with | [_, _], _ => rfl, F.kp⟩
  · obtain ⟨a, k, ns, rfl, ha, h0, h12, hz, q⟩ := h
    rfl
  · obtain ⟨a, k, ns, rfl, ha, h0, h12, hz, q⟩ := h
    refine ⟨_, PSs.nox (pss_cons (ps_set (i := 2) sc__law_box.nd rfl (.inl rfl) (pe_op op_add (pe_op op_mul pe_int (pv 1)) pe_int)) (pss_cons (ps_if (pt_cmpR op_lt (pv 1) (pe_callB call_len (by rfl) T.b_len (by decide +kernel) (pa_cons (pv 0) pa_nil)) (nomark _)) (pss_one (ps_set (i := 2) sc__law_box.nd rfl (.inl rfl) (pe_callB call_abs (by rfl) T.b_abs (by decide +kernel) (pa_cons (pe_callTy call_int1 (by rfl) T.b_int (by decide +kernel) (pa_cons (pe_ix ix_seq (pv 0) (pv 1) (fun _ _ => rfl)) pa_nil)) pa_nil)))) (pss_one (ps_if (pt_cmpR op_gt (pe_callB call_len (by rfl) T.b_len (by decide +kernel) (pa_cons (pv 0) pa_nil)) pe_int (nomark _)) (pss_one (ps_set (i := 2) sc__law_box.nd rfl (.inl rfl) (pe_op op_add (pv 2) (pe_op op_mul (pe_op op_mod (pe_callTy call_int1 (by rfl) T.b_int (by decide +kernel) (pa_cons (pe_callB call_abs (by rfl) T.b_abs (by decide +kernel) (pa_cons (pe_callTy call_int1 (by rfl) T.b_int (by decide +kernel) (pa_cons (pe_ix ix_seq (pv 0) (pe_op op_modE (pe_callTy call_int1 (by rfl) T.b_int (by decide +kernel) (pa_cons (pv 1) pa_nil)) (pe_callB call_len (by rfl) T.b_len (by decide +kernel) (pa_cons (pv 0) pa_nil))) (fun _ _ => rfl)) pa_nil)) pa_nil)) pa_nil)) pe_int) pe_int)))) pss_nil))) (pss_cons (ps_set (i := 3) sc__law_box.nd rfl (.inl rfl) (pe_ifExp (pt_cmpR op_ge (pv 2) (pe_op op_pow pe_int pe_int) (nomark _)) (pv 2) pe_int)) (pss_one (ps_ret (pe_lst (pa_cons (pv 3) (pa_cons (pe_op op_add (pe_op op_mod (pe_callTy call_int1 (by rfl) T.b_int (by decide +kernel) (pa_cons (pe_op op_add (pe_op op_mul (pe_op op_mod (pe_callTy call_int1 (by rfl) T.b_int (by decide +kernel) (pa_cons (pv 2) pa_nil)) pe_int) pe_int) (pe_op op_mul pe_int (pv 1))) pa_nil)) pe_int) pe_int) pa_nil)))))))), ?_⟩
    refine ⟨_, rfl, _, _, rfl, rfl, .inl ⟨by decide, by decide⟩, _, _, rfl, rfl, ?_⟩
    have hL : LenV K (.ref a) H (ns.map V.int).length := len_sq (k := .l) ha
    rw [List.length_map] at hL
    refine ⟨_, rfl, _, rfl, .ref a, _, rfl, hL, _, _, rfl, rfl, _, rfl, ?_⟩
    by_cases c1 : k < (ns.length : Int)
    · refine dt c1 ?_
      obtain ⟨kn, rfl⟩ := Int.eq_ofNat_of_zero_le h0
      have hk : kn < ns.length := by omega
      refine ⟨_, rfl, _, rfl, ix_l ha (v := .int ns[kn]) (atI_nat (by rw [List.getElem?_map, List.getElem?_eq_getElem hk]; rfl)) (.inl ⟨_, rfl, _, rfl, ?_⟩)⟩
      have hc : 0 ≤ (if ns[kn] < 0 then -ns[kn] else ns[kn]) := by split <;> omega
      generalize (if ns[kn] < 0 then -ns[kn] else ns[kn]) = c at hc ⊢
      refine ⟨_, rfl, _, _, rfl, rfl, ⟨by decide, by decide, by decide⟩, _, _, rfl, rfl, _, rfl, ?_⟩
      have cm : ∀ i : Int, CMul (i % 2147483587) 40014 := fun i => .inr ⟨by decide, by decide⟩
      have ck : CMul 1867 (kn : Int) := .inl ⟨by decide, by decide⟩
      have pm : (0 : Int) < 2147483587 := by decide
      have fin : ∀ c g : Int, 0 ≤ g → ∀ r, H r = none → Q (.ref r) (upd H r (.lst [.int g, .int ((c % 2147483587 * 40014 + 1867 * (kn : Int)) % 2147483587 + 1)])) := fun c g hg r hr =>
        q r _ hr (same_upd hr) ⟨g, _, upd_same, hg, by omega, by omega⟩
      by_cases c9 : (10 : Int) ^ (18 : Int).toNat ≤ c
      · refine dt c9 ⟨_, rfl, _, rfl, _, rfl, .inl ⟨_, rfl, _, _, rfl, rfl, pm, _, _, rfl, rfl, cm _, _, rfl, _, _, rfl, rfl, ck, _, _, rfl, rfl, .inl ⟨_, rfl, _, _, rfl, rfl, pm, _, _, rfl, rfl, szl (lk rfl), fun r hr => fin _ _ hc r hr⟩⟩⟩
      · refine df c9 ⟨_, rfl, _, rfl, .inl ⟨_, rfl, _, _, rfl, rfl, pm, _, _, rfl, rfl, cm _, _, rfl, _, _, rfl, rfl, ck, _, _, rfl, rfl, .inl ⟨_, rfl, _, _, rfl, rfl, pm, _, _, rfl, rfl, szl (lk rfl), fun r hr => fin _ 0 (by decide) r hr⟩⟩⟩
    · refine df c1 ?_
      refine ⟨_, rfl, .ref a, _, rfl, hL, _, _, rfl, rfl, _, rfl, ?_⟩
      by_cases c2 : (0 : Int) < (ns.length : Int)
      · refine dt c2 ?_
        have hi0 := Int.emod_nonneg k (show (ns.length : Int) ≠ 0 by omega)
        have hi1 := Int.emod_lt_of_pos k c2
        obtain ⟨kn, ekn⟩ := Int.eq_ofNat_of_zero_le hi0
        have hk : kn < ns.length := by omega
        refine ⟨_, rfl, _, rfl, _, rfl, .inl ⟨_, rfl, _, rfl, .ref a, _, rfl, hL, _, _, _, rfl, rfl, c2, ekn, ?_⟩⟩
        refine ix_l ha (v := .int ns[kn]) (atI_nat (by rw [List.getElem?_map, List.getElem?_eq_getElem hk]; rfl)) (.inl ⟨_, rfl, _, rfl, .inl ⟨_, rfl, _, _, rfl, rfl, (show (0 : Int) < 2147483587 by decide), _, _, rfl, rfl, .inr ⟨by decide, by decide⟩, _, _, rfl, rfl, ?_⟩⟩)
        have hc : 0 ≤ 7727 * k + 1867 + (if ns[kn] < 0 then -ns[kn] else ns[kn]) % 2147483587 * 52631 := by omega
        refine ⟨_, rfl, _, _, rfl, rfl, ⟨by decide, by decide, by decide⟩, _, _, rfl, rfl, _, rfl, ?_⟩
        have cm : ∀ i : Int, CMul (i % 2147483587) 40014 := fun i => .inr ⟨by decide, by decide⟩
        have ck : CMul 1867 k := .inl ⟨by decide, by decide⟩
        have pm : (0 : Int) < 2147483587 := by decide
        have fin : ∀ c g : Int, 0 ≤ g → ∀ r, H r = none → Q (.ref r) (upd H r (.lst [.int g, .int ((c % 2147483587 * 40014 + 1867 * k) % 2147483587 + 1)])) := fun c g hg r hr =>
          q r _ hr (same_upd hr) ⟨g, _, upd_same, hg, by omega, by omega⟩
        by_cases c9 : (10 : Int) ^ (18 : Int).toNat ≤ (7727 * k + 1867 + (if ns[kn] < 0 then -ns[kn] else ns[kn]) % 2147483587 * 52631)
        · refine dt c9 ⟨_, rfl, _, rfl, _, rfl, .inl ⟨_, rfl, _, _, rfl, rfl, pm, _, _, rfl, rfl, cm _, _, rfl, _, _, rfl, rfl, ck, _, _, rfl, rfl, .inl ⟨_, rfl, _, _, rfl, rfl, pm, _, _, rfl, rfl, szl (lk rfl), fun r hr => fin _ _ hc r hr⟩⟩⟩
        · refine df c9 ⟨_, rfl, _, rfl, .inl ⟨_, rfl, _, _, rfl, rfl, pm, _, _, rfl, rfl, cm _, _, rfl, _, _, rfl, rfl, ck, _, _, rfl, rfl, .inl ⟨_, rfl, _, _, rfl, rfl, pm, _, _, rfl, rfl, szl (lk rfl), fun r hr => fin _ 0 (by decide) r hr⟩⟩⟩
      · refine df c2 ?_
        have hc : 0 ≤ 7727 * k + 1867 := by omega
        refine ⟨_, rfl, _, _, rfl, rfl, ⟨by decide, by decide, by decide⟩, _, _, rfl, rfl, _, rfl, ?_⟩
        have cm : ∀ i : Int, CMul (i % 2147483587) 40014 := fun i => .inr ⟨by decide, by decide⟩
        have ck : CMul 1867 k := .inl ⟨by decide, by decide⟩
        have pm : (0 : Int) < 2147483587 := by decide
        have fin : ∀ c g : Int, 0 ≤ g → ∀ r, H r = none → Q (.ref r) (upd H r (.lst [.int g, .int ((c % 2147483587 * 40014 + 1867 * k) % 2147483587 + 1)])) := fun c g hg r hr =>
          q r _ hr (same_upd hr) ⟨g, _, upd_same, hg, by omega, by omega⟩
        by_cases c9 : (10 : Int) ^ (18 : Int).toNat ≤ (7727 * k + 1867)
        · refine dt c9 ⟨_, rfl, _, rfl, _, rfl, .inl ⟨_, rfl, _, _, rfl, rfl, pm, _, _, rfl, rfl, cm _, _, rfl, _, _, rfl, rfl, ck, _, _, rfl, rfl, .inl ⟨_, rfl, _, _, rfl, rfl, pm, _, _, rfl, rfl, szl (lk rfl), fun r hr => fin _ _ hc r hr⟩⟩⟩
        · refine df c9 ⟨_, rfl, _, rfl, .inl ⟨_, rfl, _, _, rfl, rfl, pm, _, _, rfl, rfl, cm _, _, rfl, _, _, rfl, rfl, ck, _, _, rfl, rfl, .inl ⟨_, rfl, _, _, rfl, rfl, pm, _, _, rfl, rfl, szl (lk rfl), fun r hr => fin _ 0 (by decide) r hr⟩⟩⟩
end
end K62

set_option Elab.async false
set_option linter.all false
set_option maxRecDepth 100000
set_option maxHeartbeats 4000000
/-! K62C: _law_take, _law_pick, _law_press, _law_history. (printed by gen_draw.py) -/
namespace K62
open PySem PySem.Spec PyProof.Rows L2
theorem pick8 {t : Int} (h0 : 0 ≤ t) (h1 : t < 445) : ∀ (i : Nat) (v : V), [V.int 0, .int 1, .int 2, .int 3, .int 1, .int 2, .int 3, .int (256 + t)][i]? = some v → ∃ m : Nat, v = .int (m : Nat) ∧ m ≤ 700
  | 0, v, h => ⟨0, (Option.some.inj h).symm, by decide⟩
  | 1, v, h => ⟨1, (Option.some.inj h).symm, by decide⟩
  | 2, v, h => ⟨2, (Option.some.inj h).symm, by decide⟩
  | 3, v, h => ⟨3, (Option.some.inj h).symm, by decide⟩
  | 4, v, h => ⟨1, (Option.some.inj h).symm, by decide⟩
  | 5, v, h => ⟨2, (Option.some.inj h).symm, by decide⟩
  | 6, v, h => ⟨3, (Option.some.inj h).symm, by decide⟩
  | 7, v, h => by
    refine ⟨(256 + t).toNat, ?_, by omega⟩
    have e : V.int (256 + t) = v := Option.some.inj h
    rw [← e]
    congr 1
    omega
  | i + 8, v, h => by
    have h' : ([] : List V)[i]? = some v := h
    simp at h'
section
variable {K : PySem.W.Frag} {H1 H3 H6 : Hp} {r D t : Addr} {i : Nat} {x y : Int} {acc : List V}
theorem DrPv.start (hB : BoxAt H1 r) (hD : H1 D = none) : DrPv K H1 r D 0 (upd H1 D (.lst [])) := by
  have n : r ≠ D := fun z => by
    obtain ⟨g, h, e, _⟩ := hB
    rw [z, hD] at e
    cases e
  exact ⟨But.of (same_upd hD), hB.same (same_upd hD), [], [], fun _ z => (List.not_mem_nil z).elim, rfl, upd_same, .nil⟩
theorem DrPv.step (h : DrPv K H1 r D i H3) (hB : BoxAt H1 r) (hD : H1 D = none) (hi : i < 10000000) (b : But r H3 H6) (B : BoxAt H6 r) (ht : H6 t = none) (hx : 0 ≤ x ∧ x < 4) (hy : 0 ≤ y ∧ y < 6) :
    ∃ acc, upd H6 t (.tup [.int x, .int y]) D = some (.lst acc) ∧ acc.length < sizeLine ∧ DrPv K H1 r D (i + 1) (upd (upd H6 t (.tup [.int x, .int y])) D (.lst (acc ++ [.ref t]))) := by
  obtain ⟨b1, B1, bs, acc, hok, hl, ha, hd⟩ := h
  have n : D ≠ r := fun z => by
    obtain ⟨g, h, e, _⟩ := hB
    rw [← z, hD] at e
    cases e
  obtain ⟨g0, h0, e0, _⟩ := id B1
  have s := same_upd (o := .tup [.int x, .int y]) ht
  have hD6 := s _ _ (b _ _ n ha)
  have ln := dpAll_len hd
  rw [List.length_map] at ln
  refine ⟨acc, hD6, by rw [sizeLine_eq]; omega, ((b1.trans b).trans (But.of s)).updF hD, (B.same s).but But.upd (Ne.symm n), bs ++ [(x, y)], _, okH_snoc hok hx hy, by rw [List.length_append, hl]; rfl, upd_same, ?_⟩
  have e : (bs ++ [(x, y)]).map dLt = bs.map dLt ++ [dLt (x, y)] := by rw [List.map_append]; rfl
  rw [e]
  exact dpAll_snoc (dpAll_butL hD6 But.upd (noLs_lts _) (dp_sameAll s (dpAll_butL e0 b (noLs_lts _) hd))) (dp_lt (q := (x, y)) (sqT_butL hD6 But.upd (SqT.of upd_same)))
end
section
variable {P : Program} {w : World} {K : PySem.W.Frag} {mg : Str → Option Value} {base : Heap}

theorem sc__law_take : FnScope ["_law_box_here", "_law_many", "_law_digit", "_law_raw"] ["_law_box_here", "_law_many"] (defScope s__law_take) := ⟨rfl, rfl, rfl, by decide +kernel, rfl, by decide +kernel, by decide +kernel⟩
theorem ok__law_take (T : Txt K mg w) : DefOk P w K mg base CX0 1 (He.ga K "_law_take") ["_law_box_here", "_law_many"] spLTake := by
  obtain ⟨fd, F⟩ := T.f__law_take
  refine ⟨fd, F.ok sc__law_take (fun vs H Q E h => ?_) (fun cdv A outer s H vs Q E hr h => ?_), F.bindsN fun _ _ _ _ _ _ us hl => match us, hl with | [_, _], _ => rfl, F.kp⟩
  · obtain ⟨r, m, rfl, hB, h1, h2, q⟩ := h
    rfl
  · obtain ⟨r, m, rfl, hB, h1, h2, q⟩ := h
    refine ⟨_, PSs.nox (pss_cons (ps_if (pt_cmpR op_gt (pe_ix ix_seq (pv 0) pe_int (fun _ _ => rfl)) pe_int (nomark _)) (pss_cons (ps_set (i := 2) sc__law_take.nd rfl (.inl rfl) (pe_op op_mod (pe_callTy call_int1 (by rfl) T.b_int (by decide +kernel) (pa_cons (pe_ix ix_seq (pv 0) pe_int (fun _ _ => rfl)) pa_nil)) (pv 1))) (pss_cons (ps_asg (pe_op op_fdiv (pe_ix ix_seq (pv 0) pe_int (fun _ _ => rfl)) (pv 1)) (pg_sub (pv 0) pe_int set_list)) (pss_one (ps_ret (pv 2))))) pss_nil) (pss_cons (ps_set (i := 3) sc__law_take.nd rfl (.inl rfl) (pe_op op_mod (pe_callTy call_int1 (by rfl) T.b_int (by decide +kernel) (pa_cons (pe_op op_add (pe_op op_mul (pe_ix ix_seq (pv 0) pe_int (fun _ _ => rfl)) pe_int) pe_int) pa_nil)) pe_int)) (pss_cons (ps_asg (pe_op op_add (pe_op op_mod (pe_callTy call_int1 (by rfl) T.b_int (by decide +kernel) (pa_cons (pe_op op_add (pe_op op_mul (pv 3) pe_int) pe_int) pa_nil)) pe_int) pe_int) (pg_sub (pv 0) pe_int set_list)) (pss_one (ps_ret (pe_op op_mod (pe_callTy call_int1 (by rfl) T.b_int (by decide +kernel) (pa_cons (pe_op op_fdiv (pe_op op_add (pe_op op_mul (pv 3) pe_int) (pe_ix ix_seq (pv 0) pe_int (fun _ _ => rfl))) pe_int) pa_nil)) (pv 1))))))), ?_⟩
    obtain ⟨g, h, hb, g0, h0, h3⟩ := hB
    have m0 : (0 : Int) < m := by omega
    refine ⟨_, rfl, ix_l (SqL.of hb) rfl ⟨_, _, rfl, rfl, _, rfl, ?_⟩⟩
    by_cases c : 0 < g
    · refine dt c ?_
      refine ⟨_, rfl, ix_l (SqL.of hb) rfl (.inl ⟨_, rfl, _, rfl, _, _, rfl, rfl, m0, ?_⟩)⟩
      refine ⟨_, rfl, ix_l (SqL.of hb) rfl ⟨_, rfl, _, _, rfl, rfl, ⟨m0, by omega⟩, _, rfl, r, _, _, 0, rfl, rfl, hb, rfl, _, rfl, ?_⟩⟩
      exact q (g % m) _ (Int.emod_nonneg g (by omega)) (Int.emod_lt_of_pos g m0) But.upd ⟨g / m, h, upd_same, Int.ediv_nonneg g0 (by omega), h0, h3⟩
    · refine df c ?_
      have p1 : (0 : Int) < 2147483399 := by decide
      have p2 : (0 : Int) < 2147483587 := by decide
      refine ⟨_, rfl, ix_l (SqL.of hb) rfl ⟨_, _, rfl, rfl, .inr ⟨by decide, by decide⟩, _, _, rfl, rfl, .inl ⟨_, rfl, _, _, rfl, rfl, p1, ?_⟩⟩⟩
      refine ⟨_, rfl, _, _, rfl, rfl, .inr ⟨by decide, by decide⟩, _, _, rfl, rfl, .inl ⟨_, rfl, _, _, rfl, rfl, p2, _, _, rfl, rfl, _, rfl, r, _, _, 1, rfl, rfl, hb, rfl, ?_⟩⟩
      refine ⟨_, rfl, _, _, rfl, rfl, .inr ⟨by decide, by decide⟩, _, rfl, ix_l (SqL.of upd_same) rfl ⟨_, _, rfl, rfl, _, _, rfl, rfl, ⟨by decide, by decide⟩, .inl ⟨_, rfl, _, rfl, _, _, rfl, rfl, m0, ?_⟩⟩⟩
      exact q _ _ (Int.emod_nonneg _ (by omega)) (Int.emod_lt_of_pos _ m0) But.upd ⟨g, (((h * 39373 + 53) % 2147483399 * 40692 + 29) % 2147483587 + 1), upd_same, g0, by omega, by omega⟩
theorem sc__law_pick : FnScope ["_law_box_here", "_law_some"] ["_law_box_here", "_law_some"] (defScope s__law_pick) := ⟨rfl, rfl, rfl, by decide +kernel, rfl, by decide +kernel, by decide +kernel⟩
theorem ok__law_pick (T : Txt K mg w) : DefOk P w K mg base CX0 2 (He.ga K "_law_pick") ["_law_box_here", "_law_some"] spLPick := by
  obtain ⟨fd, F⟩ := T.f__law_pick
  refine ⟨fd, F.ok sc__law_pick (fun vs H Q E h => ?_) (fun cdv A outer s H vs Q E hr h => ?_), F.bindsN fun _ _ _ _ _ _ us hl => match us, hl with | [_, _], _ => rfl, F.kp⟩
  · obtain ⟨r, s, xs, rfl, hB, ne, hs, hx, hz, q⟩ := h
    rfl
  · obtain ⟨r, s, xs, rfl, hB, ne, hs, hx, hz, q⟩ := h
    refine ⟨_, PSs.nox (pss_one (ps_ret (pe_ix ix_seq (pv 1) (pe_d (ok__law_take T) (hr.mono (by decide)) (by rfl) T.g__law_take pass0 (pa_cons (pv 0) (pa_cons (pe_callB call_len (by rfl) T.b_len (by decide +kernel) (pa_cons (pv 1) pa_nil)) pa_nil))) (fun _ _ => rfl)))), ?_⟩
    refine ⟨_, rfl, _, rfl, _, rfl, .ref s, _, rfl, .inl ⟨xs, SqL.of hs, rfl⟩, r, _, rfl, hB, by omega, by omega, fun v H' v0 v1 b B => ?_⟩
    obtain ⟨i, rfl⟩ := Int.eq_ofNat_of_zero_le v0
    have hi : i < xs.length := by omega
    have e := List.getElem?_eq_getElem hi
    exact ix_l (SqL.of (b _ _ ne hs)) (atI_nat e) (q i _ H' e b B)
theorem sc__law_press : FnScope ["_law_box_here"] ["_law_box_here"] (defScope s__law_press) := ⟨rfl, rfl, rfl, by decide +kernel, rfl, by decide +kernel, by decide +kernel⟩
theorem ok__law_press (T : Txt K mg w) : DefOk P w K mg base CX0 2 (He.ga K "_law_press") ["_law_box_here"] (spLPress K) := by
  obtain ⟨fd, F⟩ := T.f__law_press
  refine ⟨fd, F.ok sc__law_press (fun vs H Q E h => ?_) (fun cdv A outer s H vs Q E hr h => ?_), F.bindsN fun _ _ _ _ _ _ us hl => match us, hl with | [_], _ => rfl, F.kp⟩
  · obtain ⟨r, rfl, hB, q⟩ := h
    rfl
  · obtain ⟨r, rfl, hB, q⟩ := h
    refine ⟨_, PSs.nox (pss_cons (ps_if (pt_cmpR op_eq (pe_d (ok__law_take T) (hr.mono (by decide)) (by rfl) T.g__law_take pass0 (pa_cons (pv 0) (pa_cons pe_int pa_nil))) pe_int (nomark _)) (pss_one (ps_ret (pe_tup (pa_cons pe_str (pa_cons (pe_d (ok__law_take T) (hr.mono (by decide)) (by rfl) T.g__law_take pass0 (pa_cons (pv 0) (pa_cons pe_int pa_nil))) pa_nil))))) pss_nil) (pss_one (ps_ret (pe_tup (pa_cons pe_str (pa_cons (pe_d (ok__law_take T) (hr.mono (by decide)) (by rfl) T.g__law_take pass0 (pa_cons (pv 0) (pa_cons pe_int pa_nil))) (pa_cons (pe_d (ok__law_take T) (hr.mono (by decide)) (by rfl) T.g__law_take pass0 (pa_cons (pv 0) (pa_cons pe_int pa_nil))) pa_nil))))))), ?_⟩
    refine ⟨_, rfl, r, 3, rfl, hB, by decide, by decide, fun v H1 a0 a1 b1 B1 => ⟨rfl, _, rfl, ?_⟩⟩
    by_cases c : v = 0
    · rw [vint_eq c]
      refine iteT ⟨_, rfl, r, 4, rfl, B1, by decide, by decide, fun x H2 x0 x1 b2 B2 => ⟨szl (lk rfl), fun t ht => ?_⟩⟩
      exact q (.back x) t _ ⟨x0, x1⟩ ((b1.trans b2).trans (But.of (same_upd ht))) (B2.same (same_upd ht)) (SqT.of upd_same)
    · rw [vint_ne c]
      refine iteF ⟨_, rfl, r, 4, rfl, B1, by decide, by decide, fun x H2 x0 x1 b2 B2 => ⟨_, rfl, r, 6, rfl, B2, by decide, by decide, fun y H3 y0 y1 b3 B3 => ⟨szl (lk rfl), fun t ht => ?_⟩⟩⟩
      exact q (.deed x y) t _ ⟨⟨x0, x1⟩, y0, y1⟩ (((b1.trans b2).trans b3).trans (But.of (same_upd ht))) (B3.same (same_upd ht)) (SqT.of upd_same)
theorem sc__law_history : FnScope ["_law_box_here", "_law_many", "_law_two", "_law_turn"] ["_law_box_here"] (defScope s__law_history) := ⟨rfl, rfl, rfl, by decide +kernel, rfl, by decide +kernel, by decide +kernel⟩
theorem ok__law_history (T : Txt K mg w) : DefOk P w K mg base CX0 3 (He.ga K "_law_history") ["_law_box_here"] (spLHist K) := by
  obtain ⟨fd, F⟩ := T.f__law_history
  refine ⟨fd, F.ok sc__law_history (fun vs H Q E h => ?_) (fun cdv A outer s H vs Q E hr h => ?_), F.bindsN fun _ _ _ _ _ _ us hl => match us, hl with | [_], _ => rfl, F.kp⟩
  · obtain ⟨r, rfl, hB, q⟩ := h
    rfl
  · obtain ⟨r, rfl, hB, q⟩ := h
    refine ⟨_, PSs.nox
      (pss_cons (ps_set (i := 1) sc__law_history.nd rfl (.inl rfl) (pe_d (ok__law_pick T) (hr.mono (by decide)) (by rfl) T.g__law_pick pass0 (pa_cons (pv 0) (pa_cons (pe_lst (pa_cons pe_int (pa_cons pe_int (pa_cons pe_int (pa_cons pe_int (pa_cons pe_int (pa_cons pe_int (pa_cons pe_int (pa_cons (pe_op op_add pe_int (pe_d (ok__law_take T) (hr.mono (by decide)) (by rfl) T.g__law_take pass0 (pa_cons (pv 0) (pa_cons pe_int pa_nil)))) pa_nil))))))))) pa_nil)))) (pss_cons (ps_if (pt_cmpR op_gt (pv 1) pe_int (nomark _)) (pss_cons (ps_setLc (i := 2) (own := [("_law_turn", 3)]) (g := gName 3) (tt := tYes) rfl sc__law_history.nd rfl rfl (sw_true rfl rfl rfl (by decide +kernel)) (pi_range1 (by rfl) T.b_range (pa_cons pe_int pa_nil)) (blkOk_by (N := ["_law_box_here", "_law_many", "_law_two", "_law_turn"]) (sc := defScope s__law_history) (own := [("_law_turn", 3)]) (by decide +kernel)) (fun _ _ _ _ _ => pg_name (i := 3) sc__law_history.nd rfl (.inl rfl)) (fun _ _ _ _ _ => pts_nil) (fun _ _ _ _ _ => (pe_tup (pa_cons (pe_d (ok__law_take T) (hr.mono (by decide)) (by rfl) T.g__law_take pass0 (pa_cons (pv 0) (pa_cons pe_int pa_nil))) (pa_cons (pe_d (ok__law_take T) (hr.mono (by decide)) (by rfl) T.g__law_take pass0 (pa_cons (pv 0) (pa_cons pe_int pa_nil))) pa_nil))))) (pss_one (ps_ret (pe_callTy (call_tupK (K := K) rfl) (by rfl) T.b_tuple (by decide +kernel) (pa_cons (pe_slice sl_list (pe_op op_rep (pv 2) (pv 1)) po_none (po_some (pv 1))) pa_nil))))) pss_nil) (pss_one (ps_ret (pe_callTy (call_tupK (K := K) rfl) (by rfl) T.b_tuple (by decide +kernel) (pa_cons (pe_lc (own := [("_law_turn", 3)]) (g := gName 3) (tt := tYes) rfl sc__law_history.nd (pi_range1 (by rfl) T.b_range (pa_cons (pv 1) pa_nil)) (blkOk_by (N := ["_law_box_here", "_law_many", "_law_two", "_law_turn"]) (sc := defScope s__law_history) (own := [("_law_turn", 3)]) (by decide +kernel)) (fun _ _ _ _ _ => pg_name (i := 3) sc__law_history.nd rfl (.inl rfl)) (fun _ _ _ _ _ => pts_nil) (fun _ _ _ _ _ => (pe_tup (pa_cons (pe_d (ok__law_take T) (hr.mono (by decide)) (by rfl) T.g__law_take pass0 (pa_cons (pv 0) (pa_cons pe_int pa_nil))) (pa_cons (pe_d (ok__law_take T) (hr.mono (by decide)) (by rfl) T.g__law_take pass0 (pa_cons (pv 0) (pa_cons pe_int pa_nil))) pa_nil))))) pa_nil)))))), ?_⟩
    refine ⟨_, rfl, _, rfl, r, 445, rfl, hB, by decide, by decide, fun t H1 t0 t1 b1 B1 => ⟨_, _, rfl, rfl, szl (lk rfl), fun l hl => ?_⟩⟩
    have nl : l ≠ r := fun z => by
      obtain ⟨g, h, e, _⟩ := B1
      rw [z, e] at hl
      cases hl
    refine ⟨r, l, _, rfl, B1.same (same_upd hl), nl, upd_same, lk rfl, lk rfl, fun i v H2 hv b2 B2 => ?_⟩
    obtain ⟨m, rfl, hm⟩ := pick8 t0 t1 i v hv
    have b02 := (b1.trans (But.of (same_upd hl))).trans b2
    refine ⟨_, rfl, _, _, rfl, rfl, _, rfl, ?_⟩
    by_cases c : (3 : Int) < (m : Int)
    · refine dt c ?_
      refine ⟨2, rfl, by decide, by decide, fun Da hD => lc_it walk_range (DrPv K H2 r Da) (DrPv.start B2 hD) (fun _ _ _ _ => trivial) ?_ ?_⟩
      · rintro i x H3 H4 hi pv ⟨rfl, rfl⟩
        obtain ⟨b3, B3, _⟩ := id pv
        refine ⟨rfl, _, rfl, r, 4, rfl, B3, by decide, by decide, fun x H5 x0 x1 b5 B5 => ⟨_, rfl, r, 6, rfl, B5, by decide, by decide, fun y H6 y0 y1 b6 B6 => ⟨szl (lk rfl), fun t ht => ?_⟩⟩⟩
        exact pv.step B2 hD (by omega) (b5.trans b6) B6 ht ⟨x0, x1⟩ ⟨y0, y1⟩
      · rintro H3 ⟨b3, B3, bs, acc, hok, hlen, hacc, hd⟩
        have l2 : bs.length = 2 := hlen
        have la := dpAll_len hd
        rw [List.length_map, l2] at la
        have lr := len_rep acc m
        rw [la] at lr
        refine ⟨_, rfl, _, rfl, Da, (m : Int), acc, rfl, rfl, hacc, by omega, by omega, by rw [Int.toNat_natCast, la]; exact szl (by omega), fun u hu => ?_⟩
        refine ⟨_, rfl, _, rfl, u, _, rfl, SqL.of upd_same, fun u2 hu2 => ?_⟩
        refine tup_of (k := .l) (SqL.of upd_same) fun w H6 s6 hw => ?_
        rw [Int.toNat_natCast] at s6 hw
        rw [cutV_to (by omega)] at s6 hw
        have s46 : Same H3 H6 := ((same_upd hu).trans (same_upd hu2)).trans s6
        refine q ((List.replicate m bs).flatten.take m) w H6 ?_ ?_ ((b02.trans b3).trans (But.of s46)) (B3.same s46) (.tup hw ?_)
        · exact fun z hz => okH_rep hok m z (List.mem_of_mem_take hz)
        · rw [List.length_take]
          omega
        · rw [List.map_take, map_rep]
          exact dpAll_take m (dpAll_rep (dp_sameAll s46 hd) m)
    · refine df c ?_
      refine ⟨_, rfl, (m : Int), rfl, by omega, by omega, fun Da hD => ?_⟩
      rw [Int.toNat_natCast]
      refine lc_it walk_range (DrPv K H2 r Da) (DrPv.start B2 hD) (fun _ _ _ _ => trivial) ?_ ?_
      · rintro i x H3 H4 hi pv ⟨rfl, rfl⟩
        obtain ⟨b3, B3, _⟩ := id pv
        refine ⟨rfl, _, rfl, r, 4, rfl, B3, by decide, by decide, fun x H5 x0 x1 b5 B5 => ⟨_, rfl, r, 6, rfl, B5, by decide, by decide, fun y H6 y0 y1 b6 B6 => ⟨szl (lk rfl), fun t ht => ?_⟩⟩⟩
        exact pv.step B2 hD (by omega) (b5.trans b6) B6 ht ⟨x0, x1⟩ ⟨y0, y1⟩
      · rintro H3 ⟨b3, B3, bs, acc, hok, hlen, hacc, hd⟩
        refine tup_of (k := .l) (SqL.of hacc) fun w H6 s6 hw => ?_
        exact q bs w H6 hok (by omega) ((b02.trans b3).trans (But.of s6)) (B3.same s6) (.tup hw (dp_sameAll s6 hd))
end
end K62

set_option Elab.async false
set_option linter.all false
set_option maxRecDepth 100000
set_option maxHeartbeats 4000000
/-! K62D: _law_begun, _law_octets, _law_whole, _law_behind. (printed by gen_due.py) -/
namespace K62
open PySem PySem.Spec PyProof.Rows L2
def dEl : Option (Hist × List Pr) → PyData
  | none => .none
  | some e => .tuple [dHs e.1, dPs e.2]
/-- what is due, as the law holds it at u -/
def DueAt (K : PySem.W.Frag) (H : Hp) (u : Addr) (D : Due) : Prop := ∃ b l e : V, SqL K H u [.int (D.pg : Nat), .int D.s, b, l, .int (D.kept : Nat), e] ∧ Dp K H b (dHs D.b) ∧ Dp K H l (dPs D.ps) ∧ Dp K H e (dEl D.el)
theorem noL_el : ∀ e : Option (Hist × List Pr), noL (dEl e) = true
  | none => rfl
  | some e => noL_tup fun d hd => by
    have h : d ∈ [dHs e.1, dPs e.2] := hd
    rcases List.mem_cons.mp h with z | z
    · rw [z]; exact noL_hs _
    · rw [List.mem_singleton.mp z]; exact noL_ps _
theorem DueAt.same {K : PySem.W.Frag} {H H' : Hp} {u : Addr} {D : Due} (h : DueAt K H u D) (s : Same H H') : DueAt K H' u D := by
  obtain ⟨b, l, e, h1, h2, h3, h4⟩ := h
  exact ⟨b, l, e, sqL_same s h1, dp_same s h2, dp_same s h3, dp_same s h4⟩
theorem DueAt.butN {K : PySem.W.Frag} {H H' : Hp} {u p : Addr} {D : Due} {o : HO} (h : DueAt K H u D) (n : NoSq o) (hp : H p = some o) (s : But p H H') : DueAt K H' u D := by
  obtain ⟨b, l, e, h1, h2, h3, h4⟩ := h
  exact ⟨b, l, e, sqL_but n hp s h1, dp_but n hp s h2, dp_but n hp s h3, dp_but n hp s h4⟩
theorem DueAt.butL {K : PySem.W.Frag} {H H' : Hp} {u p : Addr} {D : Due} {ys : List V} (h : DueAt K H u D) (hp : H p = some (.lst ys)) (s : But p H H') (n : u ≠ p) : DueAt K H' u D := by
  obtain ⟨b, l, e, h1, h2, h3, h4⟩ := h
  exact ⟨b, l, e, sqL_keep h1 fun o z => s u o n z, dp_butL hp s (noL_hs _) h2, dp_butL hp s (noL_ps _) h3, dp_butL hp s (noL_el _) h4⟩
def spLBegun (K : PySem.W.Frag) : Sp := fun vs H Q _ => ∃ (s : Int) (h : V) (b : Hist), vs = [.int s, h] ∧ Dp K H h (dHs b) ∧ b.length ≤ 700 ∧ ∀ r H', Same H H' → SqT K H' r ((encB s b).map V.int) → Q (.ref r) H'
def spLOct (K : PySem.W.Frag) : Sp := fun vs H Q _ => ∃ (h : V) (ps : List Pr), vs = [h] ∧ Dp K H h (dPs ps) ∧ ps.length ≤ 100000 ∧ ∀ r H', Same H H' → SqT K H' r ((encP ps).map V.int) → Q (.ref r) H'
def spLWhole (K : PySem.W.Frag) : Sp := fun vs H Q _ => ∃ (h : V) (ps : List Pr) (left : Nat), vs = [h, .int (left : Nat)] ∧ Dp K H h (dPs ps) ∧ Q (.int (whole ps left : Nat)) H
def spLBehind (K : PySem.W.Frag) : Sp := fun vs H Q _ => ∃ (u : Addr) (D : Due) (O : Oth) (left n : Nat), vs = [.ref u, .int (left : Nat)] ∧ DueAt K H u D ∧ Ok n D O ∧ n ≤ 1000 ∧ D.kept + left ≤ D.oct.length ∧ ∀ r H', Same H H' → (H r = none ∧ ∃ ys, H' r = some (.lst ys)) → DueAt K H' r (behind D left) → Q (.ref r) H'
theorem vPr_len (p : Pr) : (vPr p).length = p.enc.length := by cases p <;> rfl
theorem encP_snoc {ps : List Pr} {i : Nat} {p : Pr} (h : ps[i]? = some p) : encP (ps.take (i + 1)) = encP (ps.take i) ++ p.enc := by
  rw [take_snoc h, encP_append]
  show _ ++ (p.enc ++ []) = _
  rw [List.append_nil]
section
variable {P : Program} {w : World} {K : PySem.W.Frag} {mg : Str → Option Value} {base : Heap}

theorem sc__law_begun : FnScope ["_law_sign", "_law_history_here", "_law_found", "_law_hand", "_law_deed"] ["_law_sign", "_law_history_here"] (defScope s__law_begun) := ⟨rfl, rfl, rfl, by decide +kernel, rfl, by decide +kernel, by decide +kernel⟩
theorem ok__law_begun (T : Txt K mg w) : DefOk P w K mg base CX0 1 (He.ga K "_law_begun") ["_law_sign", "_law_history_here"] (spLBegun K) := by
  obtain ⟨fd, F⟩ := T.f__law_begun
  refine ⟨fd, F.ok sc__law_begun (fun vs H Q E h => ?_) (fun cdv A outer s H vs Q E hr h => ?_), F.bindsN fun _ _ _ _ _ _ us hl => match us, hl with | [_, _], _ => rfl, F.kp⟩
  · obtain ⟨s, hv, b, rfl, hd, hz, q⟩ := h
    rfl
  · obtain ⟨s, hv, b, rfl, hd, hz, q⟩ := h
    refine ⟨_, PSs.nox (pss_cons (ps_set (i := 2) sc__law_begun.nd rfl (.inl rfl) (pe_lst (pa_cons (pv 0) (pa_cons (pe_op op_fdiv (pe_callB call_len (by rfl) T.b_len (by decide +kernel) (pa_cons (pv 1) pa_nil)) pe_int) (pa_cons (pe_op op_mod (pe_callTy call_int1 (by rfl) T.b_int (by decide +kernel) (pa_cons (pe_callB call_len (by rfl) T.b_len (by decide +kernel) (pa_cons (pv 1) pa_nil)) pa_nil)) pe_int) pa_nil))))) (pss_cons (ps_for PassesOwn.never rfl (pi_seq (pv 1)) (pg_tup rfl (pgs_cons (pg_name (i := 3) sc__law_begun.nd rfl (.inl rfl)) (pgs_cons (pg_name (i := 4) sc__law_begun.nd rfl (.inl rfl)) pgs_nil))) (pss_one (ps_set (i := 2) sc__law_begun.nd rfl (.inl rfl) (pe_op op_cat (pv 2) (pe_lst (pa_cons (pv 3) (pa_cons (pv 4) pa_nil))))))) (pss_one (ps_ret (pe_callTy (call_tupK (K := K) rfl) (by rfl) T.b_tuple (by decide +kernel) (pa_cons (pv 2) pa_nil)))))), ?_⟩
    obtain ⟨t, xs, rfl, ht, hx⟩ := of_hs hd
    have hl := dpAll_len hx
    rw [List.length_map] at hl
    refine ⟨_, rfl, _, rfl, .ref t, _, rfl, len_sq (k := .t) ht, _, _, rfl, rfl, ⟨by decide, by decide⟩, _, rfl, .ref t, _, rfl, len_sq (k := .t) ht, .inl ⟨_, rfl, _, _, rfl, rfl, (show (0 : Int) < 256 by decide), szl (lk rfl), fun f hf => ?_⟩⟩
    rw [hl]
    have s1 := same_upd (o := .lst [.int s, .int ((b.length : Int) / 256), .int ((b.length : Int) % 256)]) hf
    refine ⟨_, rfl, .t, t, xs, rfl, sqT_same s1 ht, fun J wk => for_it wk (fun i σ H2 => ∃ (g : Addr) (x3 x4 : Option V), σ = [some (.int s), some (.ref t), some (.ref g), x3, x4] ∧ Same H H2 ∧
      H2 g = some (.lst ((s :: ((b.length : Int) / 256) :: ((b.length : Int) % 256) :: encL (b.take i)).map V.int))) ⟨f, none, none, rfl, s1, upd_same⟩ (fun i σ H2 _ ⟨_, _, _, _, s2, _⟩ => sqT_same s2 ht) ?_ ?_⟩
    · rintro i x σ H4 H5 hi ⟨g, x3, x4, rfl, s4, h4⟩ ⟨rfl, hx2⟩
      have hi' : i < b.length := by rw [← hl]; exact hi
      obtain ⟨q1, hq1⟩ : ∃ q1, b[i]? = some q1 := ⟨_, List.getElem?_eq_getElem hi'⟩
      obtain ⟨d, e1, e2⟩ := dpAll_get (dp_sameAll s4 hx) hx2
      rw [List.getElem?_map, hq1] at e1
      obtain rfl := Option.some.inj e1
      obtain ⟨c, rfl, hc⟩ := of_lt e2
      have ll := encL_len (b.take i)
      rw [List.length_take] at ll
      refine ⟨c, _, rfl, hc, rfl, _, _, rfl, _, _, rfl, rfl, ?_⟩
      refine ⟨_, rfl, _, rfl, _, rfl, szl (lk rfl), fun m hm => ?_⟩
      have s5 := s4.trans (same_upd (o := .lst [.int q1.1, .int q1.2]) hm)
      refine ⟨g, m, _, _, rfl, rfl, same_upd hm _ _ h4, upd_same, ?_, fun m2 hm2 => ⟨m2, _, _, rfl, s5.trans (same_upd hm2), ?_⟩⟩
      · rw [List.length_map]
        simp only [List.length_cons, List.length_nil, ll, sizeLine_eq]
        omega
      · rw [encL_snoc hq1]
        have e : ((s :: ((b.length : Int) / 256) :: ((b.length : Int) % 256) :: (encL (b.take i) ++ [q1.1, q1.2])).map V.int) = (s :: ((b.length : Int) / 256) :: ((b.length : Int) % 256) :: encL (b.take i)).map V.int ++ [.int q1.1, .int q1.2] := by simp
        rw [e]
        exact upd_same
    · rintro σ H4 ⟨g, x3, x4, rfl, s4, h4⟩
      rw [hl, List.take_length] at h4
      refine ⟨_, rfl, tup_of (k := .l) (SqL.of h4) fun w H6 s6 hw => ?_⟩
      exact q w H6 (s4.trans s6) hw
theorem sc__law_octets : FnScope ["_law_presses", "_law_found", "_law_press_here"] ["_law_presses"] (defScope s__law_octets) := ⟨rfl, rfl, rfl, by decide +kernel, rfl, by decide +kernel, by decide +kernel⟩
theorem ok__law_octets (T : Txt K mg w) : DefOk P w K mg base CX0 1 (He.ga K "_law_octets") ["_law_presses"] (spLOct K) := by
  obtain ⟨fd, F⟩ := T.f__law_octets
  refine ⟨fd, F.ok sc__law_octets (fun vs H Q E h => ?_) (fun cdv A outer s H vs Q E hr h => ?_), F.bindsN fun _ _ _ _ _ _ us hl => match us, hl with | [_], _ => rfl, F.kp⟩
  · obtain ⟨hv, ps, rfl, hd, hz, q⟩ := h
    rfl
  · obtain ⟨hv, ps, rfl, hd, hz, q⟩ := h
    refine ⟨_, PSs.nox (pss_cons (ps_set (i := 1) sc__law_octets.nd rfl (.inl rfl) (pe_lst pa_nil)) (pss_cons (ps_for PassesOwn.never rfl (pi_seq (pv 0)) (pg_name (i := 2) sc__law_octets.nd rfl (.inl rfl)) (pss_one (ps_set (i := 1) sc__law_octets.nd rfl (.inl rfl) (pe_op op_cat (pv 1) (pe_ifExp (pt_cmpR op_eq (pe_ix ix_seq (pv 2) pe_int (fun _ _ => rfl)) pe_str (nomark _)) (pe_lst (pa_cons pe_int (pa_cons (pe_ix ix_seq (pv 2) pe_int (fun _ _ => rfl)) (pa_cons (pe_ix ix_seq (pv 2) pe_int (fun _ _ => rfl)) pa_nil)))) (pe_lst (pa_cons pe_int (pa_cons (pe_ix ix_seq (pv 2) pe_int (fun _ _ => rfl)) pa_nil)))))))) (pss_one (ps_ret (pe_callTy (call_tupK (K := K) rfl) (by rfl) T.b_tuple (by decide +kernel) (pa_cons (pv 1) pa_nil)))))), ?_⟩
    obtain ⟨t, xs, rfl, ht, hx⟩ := of_ps hd
    have hl := dpAll_len hx
    rw [List.length_map] at hl
    refine ⟨szl (lk rfl), fun f hf => ?_⟩
    have s1 := same_upd (o := .lst []) hf
    refine ⟨_, rfl, .t, t, xs, rfl, sqT_same s1 ht, fun J wk => for_it wk (fun i σ H2 => ∃ (g : Addr) (x2 : Option V), σ = [some (.ref t), some (.ref g), x2] ∧ Same H H2 ∧
      H2 g = some (.lst ((encP (ps.take i)).map V.int))) ⟨f, none, rfl, s1, upd_same⟩ (fun i σ H2 _ ⟨_, _, _, s2, _⟩ => sqT_same s2 ht) ?_ ?_⟩
    · rintro i x σ H4 H5 hi ⟨g, x2, rfl, s4, h4⟩ ⟨rfl, hx2⟩
      have hi' : i < ps.length := by rw [← hl]; exact hi
      obtain ⟨q1, hq1⟩ : ∃ q1, ps[i]? = some q1 := ⟨_, List.getElem?_eq_getElem hi'⟩
      obtain ⟨d, e1, e2⟩ := dpAll_get (dp_sameAll s4 hx) hx2
      rw [List.getElem?_map, hq1] at e1
      obtain rfl := Option.some.inj e1
      obtain ⟨c, rfl, hc⟩ := of_pr e2
      have le := encP_len_le (ps.take i)
      rw [List.length_take] at le
      cases q1 with
      | back x =>
        refine ⟨_, rfl, _, rfl, ix_t hc rfl ⟨rfl, _, rfl, ?_⟩⟩
        refine iteF ?_
        refine ⟨_, rfl, ix_t hc rfl ⟨szl (lk rfl), fun m hm => ?_⟩⟩
        have s5 := s4.trans (same_upd (o := .lst [.int 0, .int x]) hm)
        refine ⟨g, m, _, _, rfl, rfl, same_upd hm _ _ h4, upd_same, ?_, fun m2 hm2 => ⟨m2, _, rfl, s5.trans (same_upd hm2), ?_⟩⟩
        · rw [List.length_map]
          simp only [List.length_cons, List.length_nil, sizeLine_eq]
          omega
        · rw [encP_snoc hq1, List.map_append]
          exact upd_same
      | deed x y =>
        refine ⟨_, rfl, _, rfl, ix_t hc rfl ⟨rfl, _, rfl, ?_⟩⟩
        refine iteT ?_
        refine ⟨_, rfl, ix_t hc rfl ⟨_, rfl, ix_t hc rfl ⟨szl (lk rfl), fun m hm => ?_⟩⟩⟩
        have s5 := s4.trans (same_upd (o := .lst [.int 1, .int x, .int y]) hm)
        refine ⟨g, m, _, _, rfl, rfl, same_upd hm _ _ h4, upd_same, ?_, fun m2 hm2 => ⟨m2, _, rfl, s5.trans (same_upd hm2), ?_⟩⟩
        · rw [List.length_map]
          simp only [List.length_cons, List.length_nil, sizeLine_eq]
          omega
        · rw [encP_snoc hq1, List.map_append]
          exact upd_same
    · rintro σ H4 ⟨g, x2, rfl, s4, h4⟩
      rw [hl, List.take_length] at h4
      refine ⟨_, rfl, tup_of (k := .l) (SqL.of h4) fun w H6 s6 hw => ?_⟩
      exact q w H6 (s4.trans s6) hw
theorem sc__law_whole : FnScope ["_law_presses", "_law_left", "_law_found", "_law_press_here"] ["_law_presses", "_law_left"] (defScope s__law_whole) := ⟨rfl, rfl, rfl, by decide +kernel, rfl, by decide +kernel, by decide +kernel⟩
theorem ok__law_whole (T : Txt K mg w) : DefOk P w K mg base CX0 1 (He.ga K "_law_whole") ["_law_presses", "_law_left"] (spLWhole K) := by
  obtain ⟨fd, F⟩ := T.f__law_whole
  refine ⟨fd, F.ok sc__law_whole (fun vs H Q E h => ?_) (fun cdv A outer s H vs Q E hr h => ?_), F.bindsN fun _ _ _ _ _ _ us hl => match us, hl with | [_, _], _ => rfl, F.kp⟩
  · obtain ⟨hv, ps, left, rfl, hd, q⟩ := h
    rfl
  · obtain ⟨hv, ps, left, rfl, hd, q⟩ := h
    refine ⟨_, PSs.nox (pss_cons (ps_set (i := 2) sc__law_whole.nd rfl (.inl rfl) pe_int) (pss_cons (ps_for PassesOwn.never rfl (pi_seq (pv 0)) (pg_name (i := 3) sc__law_whole.nd rfl (.inl rfl)) (pss_cons (ps_set (i := 1) sc__law_whole.nd rfl (.inl rfl) (pe_op op_sub (pv 1) (pe_callB call_len (by rfl) T.b_len (by decide +kernel) (pa_cons (pv 3) pa_nil)))) (pss_cons (ps_if (pt_cmpR op_lt (pv 1) pe_int (nomark _)) (pss_one ps_break) pss_nil) (pss_one (ps_set (i := 2) sc__law_whole.nd rfl (.inl rfl) (pe_op op_add (pv 2) pe_int)))))) (pss_one (ps_ret (pv 2))))), ?_⟩
    obtain ⟨t, xs, rfl, ht, hx⟩ := of_ps hd
    have hl := dpAll_len hx
    rw [List.length_map] at hl
    refine ⟨_, rfl, .t, t, xs, rfl, ht, fun J wk => for_it wk (fun i σ H2 => H2 = H ∧ ∃ (le fo : Int) (x3 : Option V), σ = [some (.ref t), some (.int le), some (.int fo), x3] ∧ le = (left : Int) - (plc ps i : Nat) ∧ fo = (i : Nat) ∧ plc ps i ≤ left)
      ⟨rfl, left, 0, none, rfl, by rw [plc_zero]; omega, rfl, Nat.zero_le _⟩ (fun i σ H2 _ ⟨e, _⟩ => by rw [e]; exact ht) ?_ ?_⟩
    · rintro i x σ H4 H5 hi ⟨rfl, le, fo, x3, rfl, rfl, rfl, hp⟩ ⟨rfl, hx2⟩
      have hi' : i < ps.length := by rw [← hl]; exact hi
      obtain ⟨q1, hq1⟩ : ∃ q1, ps[i]? = some q1 := ⟨_, List.getElem?_eq_getElem hi'⟩
      obtain ⟨d, e1, e2⟩ := dpAll_get hx hx2
      rw [List.getElem?_map, hq1] at e1
      obtain rfl := Option.some.inj e1
      obtain ⟨c, rfl, hc⟩ := of_pr e2
      have hsu := plc_succ hq1
      refine ⟨_, rfl, _, rfl, .ref c, _, rfl, len_sq (k := .t) hc, _, _, rfl, rfl, ?_⟩
      rw [vPr_len]
      refine ⟨_, rfl, _, _, rfl, rfl, _, rfl, ?_⟩
      by_cases c1 : (left : Int) - (plc ps i : Nat) - (q1.enc.length : Nat) < 0
      · refine dt c1 ?_
        have hw : whole ps left = i := whole_eq (Nat.le_of_lt hi') hp fun p' hp' => by
          rw [hq1] at hp'
          obtain rfl := Option.some.inj hp'
          omega
        rw [hw] at q
        exact ⟨_, rfl, q⟩
      · refine df c1 ?_
        refine ⟨_, rfl, _, _, rfl, rfl, rfl, _, _, _, rfl, ?_, ?_, ?_⟩
        · omega
        · omega
        · omega
    · rintro σ H4 ⟨rfl, le, fo, x3, rfl, rfl, rfl, hp⟩
      have hw : whole ps left = xs.length := by
        rw [hl] at hp ⊢
        refine whole_all ?_
        rw [← plc_all (Nat.le_refl ps.length)]
        exact hp
      rw [hw] at q
      exact ⟨_, rfl, q⟩
theorem sc__law_behind : FnScope ["_law_due", "_law_left", "_law_page", "_law_sign", "_law_begun_here", "_law_laid", "_law_kept", "_law_elder", "_law_octets_here", "_law_many"] ["_law_due", "_law_left"] (defScope s__law_behind) := ⟨rfl, rfl, rfl, by decide +kernel, rfl, by decide +kernel, by decide +kernel⟩
theorem ok__law_behind (T : Txt K mg w) : DefOk P w K mg base CX0 2 (He.ga K "_law_behind") ["_law_due", "_law_left"] (spLBehind K) := by
  obtain ⟨fd, F⟩ := T.f__law_behind
  refine ⟨fd, F.ok sc__law_behind (fun vs H Q E h => ?_) (fun cdv A outer s H vs Q E hr h => ?_), F.bindsN fun _ _ _ _ _ _ us hl => match us, hl with | [_, _], _ => rfl, F.kp⟩
  · obtain ⟨u, D, O, left, n, rfl, hu, hok, hn, hle, q⟩ := h
    rfl
  · obtain ⟨u, D, O, left, n, rfl, hu, hok, hn, hle, q⟩ := h
    refine ⟨_, PSs.nox
      (pss_cons (ps_asg (pv 0) (pg_unl rfl (pgs_cons (pg_name (i := 2) sc__law_behind.nd rfl (.inl rfl)) (pgs_cons (pg_name (i := 3) sc__law_behind.nd rfl (.inl rfl)) (pgs_cons (pg_name (i := 4) sc__law_behind.nd rfl (.inl rfl)) (pgs_cons (pg_name (i := 5) sc__law_behind.nd rfl (.inl rfl)) (pgs_cons (pg_name (i := 6) sc__law_behind.nd rfl (.inl rfl)) (pgs_cons (pg_name (i := 7) sc__law_behind.nd rfl (.inl rfl)) pgs_nil)))))))) (pss_cons (ps_set (i := 8) sc__law_behind.nd rfl (.inl rfl) (pe_d (ok__law_begun T) (hr.mono (by decide)) (by rfl) T.g__law_begun pass0 (pa_cons (pv 3) (pa_cons (pv 4) pa_nil)))) (pss_cons (ps_if (pt_cmpR op_ge (pe_op op_add (pv 6) (pv 1)) (pe_callB call_len (by rfl) T.b_len (by decide +kernel) (pa_cons (pv 8) pa_nil)) (nomark _)) (pss_cons (ps_set (i := 9) sc__law_behind.nd rfl (.inl rfl) (pe_d (ok__law_whole T) (hr.mono (by decide)) (by rfl) T.g__law_whole pass0 (pa_cons (pv 5) (pa_cons (pe_op op_subE (pe_op op_add (pv 6) (pv 1)) (pe_callB call_len (by rfl) T.b_len (by decide +kernel) (pa_cons (pv 8) pa_nil))) pa_nil)))) (pss_one (ps_ret (pe_lst (pa_cons (pv 2) (pa_cons (pv 3) (pa_cons (pv 4) (pa_cons (pe_slice sl_tupA (pv 5) po_none (po_some (pv 9))) (pa_cons (pe_op op_addE (pe_callB call_len (by rfl) T.b_len (by decide +kernel) (pa_cons (pv 8) pa_nil)) (pe_callB call_len (by rfl) T.b_len (by decide +kernel) (pa_cons (pe_d (ok__law_octets T) (hr.mono (by decide)) (by rfl) T.g__law_octets pass0 (pa_cons (pe_slice sl_tupA (pv 5) po_none (po_some (pv 9))) pa_nil)) pa_nil))) (pa_cons (pv 7) pa_nil)))))))))) pss_nil) (pss_cons (ps_set (i := 9) sc__law_behind.nd rfl (.inl rfl) (pe_op op_addE (pe_callB call_len (by rfl) T.b_len (by decide +kernel) (pa_cons (pe_d (ok__law_begun T) (hr.mono (by decide)) (by rfl) T.g__law_begun pass0 (pa_cons pe_int (pa_cons (pe_ix ix_seq (pv 7) pe_int (fun _ _ => rfl)) pa_nil))) pa_nil)) (pe_callB call_len (by rfl) T.b_len (by decide +kernel) (pa_cons (pe_d (ok__law_octets T) (hr.mono (by decide)) (by rfl) T.g__law_octets pass0 (pa_cons (pe_ix ix_seq (pv 7) pe_int (fun _ _ => rfl)) pa_nil)) pa_nil)))) (pss_one (ps_ret (pe_lst (pa_cons (pe_op op_subE pe_int (pv 2)) (pa_cons (pe_op op_mod (pe_callTy call_int1 (by rfl) T.b_int (by decide +kernel) (pa_cons (pe_op op_add (pv 3) pe_int) pa_nil)) pe_int) (pa_cons (pe_ix ix_seq (pv 7) pe_int (fun _ _ => rfl)) (pa_cons (pe_ix ix_seq (pv 7) pe_int (fun _ _ => rfl)) (pa_cons (pv 9) (pa_cons pe_non pa_nil))))))))))))), ?_⟩
    obtain ⟨b, l, e, h1, h2, h3, h4⟩ := hu
    have pz := hok.pz
    refine ⟨_, rfl, u, _, rfl, h1, rfl, _, _, rfl, _, _, rfl, _, _, rfl, _, _, rfl, _, _, rfl, _, _, rfl, rfl, ?_⟩
    refine ⟨_, rfl, _, rfl, D.s, b, D.b, rfl, h2, hok.bz, fun t H1 s1 ht => ?_⟩
    have lt : ((encB D.s D.b).map V.int).length = bl D.b := by rw [List.length_map, encB_len]
    refine ⟨_, rfl, _, rfl, _, _, rfl, rfl, _, rfl, .ref t, _, rfl, len_sq (k := .t) ht, _, _, rfl, rfl, _, rfl, ?_⟩
    rw [lt]
    by_cases c : bl D.b ≤ D.kept + left
    · have c' : ((bl D.b : Nat) : Int) ≤ (D.kept : Int) + (left : Int) := by omega
      refine dt c' ?_
      have e0 : behind D left = { D with ps := D.ps.take (whole D.ps (D.kept + left - bl D.b)), kept := bl D.b + plc D.ps (whole D.ps (D.kept + left - bl D.b)) } := if_pos c
      obtain ⟨tl, xs, rfl, htl, hxs⟩ := of_ps h3
      have hl := dpAll_len hxs
      rw [List.length_map] at hl
      have hw := whole_le D.ps (D.kept + left - bl D.b)
      have es : (D.kept : Int) + (left : Int) - (((encB D.s D.b).map V.int).length : Nat) = ((D.kept + left - bl D.b : Nat) : Int) := by rw [lt]; omega
      refine ⟨_, rfl, _, rfl, _, rfl, _, _, rfl, rfl, _, rfl, .ref t, _, rfl, len_sq (k := .t) ht, _, _, _, rfl, rfl, es, .ref tl, D.ps, _, rfl, dp_same s1 h3, ?_⟩
      generalize whole D.ps (D.kept + left - bl D.b) = w at hw e0 ⊢
      refine ⟨_, rfl, _, rfl, _, rfl, _, rfl, _, rfl, _, rfl, sl_to (sqT_same s1 htl) (by omega) fun t2 H2 s2 ht2 => ?_⟩
      have s12 := s1.trans s2
      have d2 : Dp K H2 (.ref t2) (dPs (D.ps.take w)) := by
        refine .tup ht2 ?_
        have z := dpAll_take w (dp_sameAll s12 hxs)
        rw [← List.map_take] at z
        exact z
      refine ⟨_, rfl, .ref t, _, rfl, len_sq (k := .t) (sqT_same s2 ht), _, rfl, _, rfl, _, rfl, sl_to (sqT_same s12 htl) (by omega) fun t3 H3 s3 ht3 => ?_⟩
      have s13 := s12.trans s3
      have d3 : Dp K H3 (.ref t3) (dPs (D.ps.take w)) := by
        refine .tup ht3 ?_
        have z := dpAll_take w (dp_sameAll s13 hxs)
        rw [← List.map_take] at z
        exact z
      refine ⟨.ref t3, D.ps.take w, rfl, d3, by rw [List.length_take]; omega, fun t4 H4 s4 ht4 => ?_⟩
      have s14 := s13.trans s4
      have ek : (((encB D.s D.b).map V.int).length : Int) + (((encP (D.ps.take w)).map V.int).length : Nat) = ((bl D.b + plc D.ps w : Nat) : Int) := by
        rw [lt, List.length_map]
        show _ + ((plc D.ps w : Nat) : Int) = _
        omega
      refine ⟨.ref t4, _, rfl, len_sq (k := .t) ht4, _, _, _, rfl, rfl, ek, _, rfl, szl (lk rfl), fun r hr => ?_⟩
      have s5 := same_upd (o := .lst [.int (D.pg : Nat), .int D.s, b, .ref t2, .int ((bl D.b + plc D.ps w : Nat) : Int), e]) hr
      have s15 := s14.trans s5
      refine q r _ s15 ⟨s14.free hr, _, upd_same⟩ ?_
      rw [e0]
      exact ⟨b, .ref t2, e, SqL.of upd_same, dp_same s15 h2, dp_same ((s3.trans s4).trans s5) d2, dp_same s15 h4⟩
    · have c' : ¬ ((bl D.b : Nat) : Int) ≤ (D.kept : Int) + (left : Int) := by omega
      refine df c' ?_
      rcases hok.st with h0 | ⟨h0, he, hm⟩
      · exact absurd (Nat.le_trans h0 (Nat.le_add_right _ _)) c
      have e0 : behind D left = ⟨1 - D.pg, (D.s + 2) % 3, O.b, O.ps, bl O.b + (encP O.ps).length, none⟩ := by
        unfold behind
        rw [if_neg c, he]
      rw [he] at h4
      obtain ⟨te, xe, rfl, hte, hxe⟩ := dp_tup (show Dp K H e (.tuple [dHs O.b, dPs O.ps]) from h4)
      cases hxe with
      | cons g1 g2 =>
        cases g2 with
        | cons g2 g3 =>
          cases g3
          rename_i x1 x2
          have opz := hok.opz
          have te1 := sqT_same s1 hte
          refine ⟨_, rfl, ix_t te1 rfl ⟨0, x1, O.b, rfl, dp_same s1 g1, hok.oz, fun t2 H2 s2 ht2 => ⟨.ref t2, _, rfl, len_sq (k := .t) ht2, ?_⟩⟩⟩
          have s12 := s1.trans s2
          refine ⟨_, rfl, ix_t (sqT_same s12 hte) rfl ⟨x2, O.ps, rfl, dp_same s12 g2, by omega, fun t3 H3 s3 ht3 => ?_⟩⟩
          have s13 := s12.trans s3
          have ek : (((encB 0 O.b).map V.int).length : Int) + (((encP O.ps).map V.int).length : Nat) = ((bl O.b + (encP O.ps).length : Nat) : Int) := by
            rw [List.length_map, List.length_map, encB_len]
            omega
          refine ⟨.ref t3, _, rfl, len_sq (k := .t) ht3, _, _, _, rfl, rfl, ek, ?_⟩
          have hpg := hok.pg
          have ep : (1 : Int) - ((D.pg : Nat) : Int) = ((1 - D.pg : Nat) : Int) := by omega
          refine ⟨_, rfl, _, _, _, rfl, rfl, ep, _, rfl, _, _, rfl, rfl, .inl ⟨_, rfl, _, _, rfl, rfl, (show (0 : Int) < 3 by decide), ?_⟩⟩
          refine ⟨_, rfl, ix_t (sqT_same s13 hte) rfl ⟨_, rfl, ix_t (sqT_same s13 hte) rfl ⟨_, rfl, szl (lk rfl), fun r hr => ?_⟩⟩⟩
          have s5 := same_upd (o := .lst [.int ((1 - D.pg : Nat) : Int), .int ((D.s + 2) % 3), x1, x2, .int ((bl O.b + (encP O.ps).length : Nat) : Int), .non]) hr
          have s15 := s13.trans s5
          refine q r _ s15 ⟨s13.free hr, _, upd_same⟩ ?_
          rw [e0]
          exact ⟨x1, x2, .non, SqL.of upd_same, dp_same s15 g1, dp_same s15 g2, .non⟩
end
end K62

set_option Elab.async false
set_option linter.all false
set_option maxRecDepth 100000
set_option maxHeartbeats 4000000
/-! K62E: _law_is_so, _law_opened. (printed by gen_so.py) -/
namespace K62
open PySem PySem.Spec PyProof.Rows L2
abbrev dL (l : List Int) : PyData := .list (l.map .int)
def dPl (pg : Nat) (A B : PyData) : List PyData := if pg = 0 then [A, B] else [B, A]
theorem dpAll_pl {K : PySem.W.Frag} {H : Hp} {pg : Nat} {c o : Addr} {A B : PyData} (hc : Dp K H (.ref c) A) (ho : Dp K H (.ref o) B) : DpAll K H (pl pg c o) (dPl pg A B) := by
  unfold pl dPl
  split
  · exact .cons hc (.cons ho .nil)
  · exact .cons ho (.cons hc .nil)
theorem niceAll_pl {k w : Nat} {pg : Nat} {A B : PyData} (hA : Nice k w A) (hB : Nice k w B) : NiceAll k (2 * (w + 1)) (dPl pg A B) := by
  unfold dPl
  split
  · exact (niceAll_cons hA (niceAll_cons hB niceAll_nil)).mono (by omega) (by omega)
  · exact (niceAll_cons hB (niceAll_cons hA niceAll_nil)).mono (by omega) (by omega)
theorem nice_dL {l : List Int} (h : ∀ i ∈ l, small i) : Nice 1 (l.length * 41) (dL l) := by
  have z : NiceAll 0 ((l.map PyData.int).length * 41) (l.map PyData.int) := niceAll_of (w := 40) fun d hd => by
    obtain ⟨i, hi, e⟩ := List.mem_map.mp hd
    rw [← e]
    exact nice_small (h i hi)
  rw [List.length_map] at z
  exact z.list
theorem dp_dL {K : PySem.W.Frag} {H : Hp} {a : Addr} {l : List Int} (h : SqL K H a (l.map V.int)) : Dp K H (.ref a) (dL l) := .lst h (dpAll_ints l)
theorem small_octet {l : List Int} (h : ∀ i ∈ l, 0 ≤ i ∧ i < 256) : ∀ i ∈ l, small i := fun i hi => small_of (h i hi).1 (h i hi).2 (by decide)
theorem Ok.oct_small {n : Nat} {D : Due} {O : Oth} (k : Ok n D O) : ∀ i ∈ D.oct, small i := by
  have h : Pg.Ok (full D.s D.b D.ps) := ⟨k.s0, k.s3, k.hb, by have h := k.bz; show D.b.length < 65536; omega, k.hp⟩
  have e := full_l D.s D.b D.ps
  have z := Pg.octet h
  rw [e] at z
  exact small_octet z
theorem Ok.oth_small {n : Nat} {D : Due} {O : Oth} (k : Ok n D O) : ∀ i ∈ O.l, small i := small_octet (Pg.octet k.oP)
theorem Ok.oth_le {n : Nat} {D : Due} {O : Oth} (k : Ok n D O) : O.l.length ≤ 1403 + 3 * n := by
  have h1 : (enc O.s O.b O.ps).length = bl O.b + (encP O.ps).length := enc_len _ _ _
  have h2 := encP_len_le O.ps
  have h3 := k.opz
  have h4 := k.oz
  have h5 : bl O.b = 3 + 2 * O.b.length := rfl
  have h6 : O.l.length = min O.m (enc O.s O.b O.ps).length := List.length_take
  omega
/-- what a journal says of itself -/
def dSelf (D : Due) (n : Nat) : List PyData := [.int (D.pg : Nat), .int D.s, dHs D.b, dPs D.ps, .int (n : Nat)]
theorem Ok.nice_self {n m : Nat} {D : Due} {O : Oth} (k : Ok n D O) (hn : n ≤ 1000) (hm : m ≤ 100000) : NiceAll 2 400000 (dSelf D m) := by
  have hpg := k.pg
  have s0 := k.s0
  have s3 := k.s3
  have bz := k.bz
  have pz := k.pz
  have a1 : Nice 0 40 (.int ((D.pg : Nat) : Int)) := nice_small ⟨by omega, by omega⟩
  have a2 : Nice 0 40 (.int D.s) := nice_small ⟨by omega, by omega⟩
  have a3 := nice_hs k.hb
  have a4 := nice_ps k.hp
  have a5 : Nice 0 40 (.int ((m : Nat) : Int)) := nice_small ⟨by omega, by omega⟩
  exact (niceAll_cons a1 (niceAll_cons a2 (niceAll_cons a3 (niceAll_cons a4 (niceAll_cons a5 niceAll_nil))))).mono (by decide) (by omega)
theorem JAt.butL {K : PySem.W.Frag} {H H' : Hp} {j r : Addr} {D : Due} {O : Oth} {ys : List V} (h : JAt K H j D O) (hr : H r = some (.lst ys)) (s : But r H H') : JAt K H' j D O := by
  obtain ⟨dx, pr, b, l, c, o, h1, h2, h3, h4, h5, h6⟩ := h
  have n : j ≠ r := fun z => by
    rw [z, hr] at h1
    cases h1
  exact ⟨dx, pr, b, l, c, o, s _ _ n h1, sqT_butL hr s h2, sqT_butL hr s h3, sqT_butL hr s h4, dp_butL hr s (noL_hs _) h5, dp_butL hr s (noL_ps _) h6⟩
theorem behind_kept {n : Nat} {D : Due} {O : Oth} {left : Nat} (k : Ok n D O) : (behind D left).kept = (behind D left).oct.length ∨ (bl D.b ≤ D.kept + left → False) ∧ D.el = none := by
  by_cases c : bl D.b ≤ D.kept + left
  · left
    have e : behind D left = { D with ps := D.ps.take (whole D.ps (D.kept + left - bl D.b)), kept := bl D.b + plc D.ps (whole D.ps (D.kept + left - bl D.b)) } := if_pos c
    rw [e]
    exact (enc_take_len c).symm
  · rcases k.st with h0 | ⟨h0, he, hm⟩
    · exact absurd (Nat.le_trans h0 (Nat.le_add_right _ _)) c
    left
    have e : behind D left = ⟨1 - D.pg, (D.s + 2) % 3, O.b, O.ps, bl O.b + (encP O.ps).length, none⟩ := by
      unfold behind
      rw [if_neg c, he]
    rw [e]
    exact (enc_len _ _ _).symm
theorem behind_full {n : Nat} {D : Due} {O : Oth} {left : Nat} (k : Ok n D O) : (behind D left).kept = (behind D left).oct.length := by
  rcases behind_kept (left := left) k with h | ⟨h, he⟩
  · exact h
  · rcases k.st with h0 | ⟨_, h2, _⟩
    · exact (h (Nat.le_trans h0 (Nat.le_add_right _ _))).elim
    · rw [he] at h2
      cases h2
/-- a whole page read again is as it was -/
theorem again {B : Due} {O : Oth} (hk : B.kept = B.oct.length) : behind B 0 = B ∧ othBehind B O 0 = O ∧ (cutPg B 0).l = B.oct := by
  have el : B.oct.length = bl B.b + (encP B.ps).length := enc_len _ _ _
  have c : bl B.b ≤ B.kept + 0 := by omega
  have w : whole B.ps (B.kept + 0 - bl B.b) = B.ps.length := whole_all (by omega)
  refine ⟨?_, if_pos c, ?_⟩
  · have e : behind B 0 = { B with ps := B.ps.take (whole B.ps (B.kept + 0 - bl B.b)), kept := bl B.b + plc B.ps (whole B.ps (B.kept + 0 - bl B.b)) } := if_pos c
    rw [e, w, List.take_length, plc_all (Nat.le_refl _), ← el, ← hk]
  · show B.oct.take (B.kept + 0) = B.oct
    rw [hk, Nat.add_zero, List.take_length]
/-- the other page behind a cut -/
theorem still_eq {n : Nat} {D : Due} {O : Oth} {left : Nat} (k : Ok n D O) : ((behind D left).pg = D.pg → (othBehind D O left).l = O.l) ∧ ((behind D left).pg ≠ D.pg → (othBehind D O left).l = D.oct.take (D.kept + left) ∧ D.kept = 0) := by
  by_cases c : bl D.b ≤ D.kept + left
  · have e : behind D left = { D with ps := D.ps.take (whole D.ps (D.kept + left - bl D.b)), kept := bl D.b + plc D.ps (whole D.ps (D.kept + left - bl D.b)) } := if_pos c
    have e2 : othBehind D O left = O := if_pos c
    rw [e, e2]
    exact ⟨fun _ => rfl, fun z => absurd rfl z⟩
  · rcases k.st with h0 | ⟨h0, he, hm⟩
    · exact absurd (Nat.le_trans h0 (Nat.le_add_right _ _)) c
    have e : behind D left = ⟨1 - D.pg, (D.s + 2) % 3, O.b, O.ps, bl O.b + (encP O.ps).length, none⟩ := by
      unfold behind
      rw [if_neg c, he]
    have e2 : othBehind D O left = ⟨D.b, D.ps, left, D.s⟩ := if_neg c
    rw [e, e2]
    have hpg := k.pg
    refine ⟨fun z => ?_, fun _ => ⟨?_, h0⟩⟩
    · have z' : 1 - D.pg = D.pg := z
      omega
    · show D.oct.take left = D.oct.take (D.kept + left)
      rw [h0, Nat.zero_add]
/-- the two lists that a comprehension makes of two sequences -/
def TwPv (K : PySem.W.Frag) (H1 : Hp) (D : Addr) (x0 x1 : List V) (i : Nat) (H' : Hp) : Prop := But D H1 H' ∧ ∃ acc, H' D = some (.lst acc) ∧
  ((i = 0 ∧ acc = []) ∨ (i = 1 ∧ ∃ l0, l0 ≠ D ∧ acc = [.ref l0] ∧ H' l0 = some (.lst x0)) ∨ (i = 2 ∧ ∃ l0 l1, l0 ≠ D ∧ l1 ≠ D ∧ acc = [.ref l0, .ref l1] ∧ H' l0 = some (.lst x0) ∧ H' l1 = some (.lst x1)))
theorem TwPv.step {K : PySem.W.Frag} {H1 H3 : Hp} {D t : Addr} {x0 x1 xs : List V} {i : Nat} (h : TwPv K H1 D x0 x1 i H3) (hi : i < 2) (he : [x0, x1][i]? = some xs) (ht : H3 t = none) :
    ∃ acc, upd H3 t (.lst xs) D = some (.lst acc) ∧ acc.length < sizeLine ∧ TwPv K H1 D x0 x1 (i + 1) (upd (upd H3 t (.lst xs)) D (.lst (acc ++ [.ref t]))) := by
  obtain ⟨b, acc, ha, hc⟩ := h
  have nt : t ≠ D := fun z => by rw [z, ha] at ht; cases ht
  have s := same_upd (o := .lst xs) ht
  have b' : But D H1 (upd (upd H3 t (.lst xs)) D (.lst (acc ++ [.ref t]))) := (b.trans (But.of s)).trans But.upd
  have at' : upd (upd H3 t (.lst xs)) D (.lst (acc ++ [.ref t])) t = some (.lst xs) := (upd_ne nt).trans upd_same
  rcases hc with ⟨rfl, rfl⟩ | ⟨rfl, l0, n0, rfl, h0⟩ | ⟨rfl, _⟩
  · obtain rfl := Option.some.inj he
    exact ⟨[], s _ _ ha, by decide, b', _, upd_same, .inr (.inl ⟨rfl, t, nt, rfl, at'⟩)⟩
  · obtain rfl := Option.some.inj he
    exact ⟨[.ref l0], s _ _ ha, (by show 1 < sizeLine; decide), b', _, upd_same, .inr (.inr ⟨rfl, l0, t, n0, nt, rfl, (upd_ne n0).trans (s _ _ h0), at'⟩)⟩
  · omega
theorem ite_of {b : Bool} {A B : Prop} (hb : b = true) (h : A) : if b = true then A else B := by
  rw [if_pos hb]
  exact h
theorem dp_self {K : PySem.W.Frag} {H : Hp} {q : Addr} {D : Due} {v w : V} {n m : Nat} (hq : H q = none) (e : m = n) (hv : Dp K H v (dHs D.b)) (hw : Dp K H w (dPs D.ps)) :
    Dp K (upd H q (.tup [.int (D.pg : Nat), .int D.s, v, w, .int (m : Nat)])) (.ref q) (.tuple (dSelf D n)) := by
  subst e
  exact .tup (SqT.of upd_same) (.cons (.int _) (.cons (.int _) (.cons (dp_same (same_upd hq) hv) (.cons (dp_same (same_upd hq) hw) (.cons (.int _) .nil)))))
theorem if_pl {σ : L2.St} {H : Hp} {Q : VK} {i k : Nat} {pg : Nat} {c o : Addr} (hpg : pg = 0 ∨ pg = 1) (hi : σ[i]? = some (some (.ref c))) (hk : σ[k]? = some (some (.ref o))) (q : ∀ p, H p = none → Q (.ref p) (upd H p (.tup (pl pg c o)))) :
    if decide (V.int ((pg : Nat) : Int) = V.int 0) = true then tTup (tCons (tVar i) (tCons (tVar k) tNil)) σ H Q else tTup (tCons (tVar k) (tCons (tVar i) tNil)) σ H Q := by
  rcases hpg with rfl | rfl
  · rw [vint_eq (show ((0 : Nat) : Int) = 0 from rfl)]
    exact iteT ⟨_, hi, _, hk, szl (lk rfl), q⟩
  · rw [vint_ne (show ((1 : Nat) : Int) ≠ 0 by decide)]
    exact iteF ⟨_, hk, _, hi, szl (lk rfl), q⟩
theorem two_lists {K : PySem.W.Frag} {σ : L2.St} {H : Hp} {Q : VK} {i k : Nat} {c o : Addr} {xs ys : List V} (hi : σ[i]? = some (some (.ref c))) (hk : σ[k]? = some (some (.ref o))) (hc : SqT K H c xs) (ho : SqT K H o ys)
    (q : ∀ l m p H', Same H H' → H' l = some (.lst xs) → H' m = some (.lst ys) → H' p = some (.lst [.ref l, .ref m]) → Q (.ref p) H') :
    tLst (tCons (tCB (rListOf K) (tCons (tVar i) tNil)) (tCons (tCB (rListOf K) (tCons (tVar k) tNil)) tNil)) σ H Q := by
  refine ⟨_, hi, list_of (k := .t) hc fun l hl => ⟨_, hk, list_of (k := .t) (sqT_same (same_upd hl) ho) fun m hm => ⟨szl (lk rfl), fun p hp => ?_⟩⟩⟩
  have s1 := same_upd (o := .lst xs) hl
  have s2 := same_upd (o := .lst ys) hm
  have s3 := same_upd (o := .lst [.ref l, .ref m]) hp
  exact q l m p _ ((s1.trans s2).trans s3) (s3 _ _ (s2 _ _ upd_same)) (s3 _ _ upd_same) upd_same
theorem if_pll {K : PySem.W.Frag} {σ : L2.St} {H : Hp} {Q : VK} {i k : Nat} {pg : Nat} {c o : Addr} {xs ys : List V} (hpg : pg = 0 ∨ pg = 1) (hi : σ[i]? = some (some (.ref c))) (hk : σ[k]? = some (some (.ref o))) (hc : SqT K H c xs) (ho : SqT K H o ys)
    (q : ∀ l m p H', Same H H' → H' l = some (.lst xs) → H' m = some (.lst ys) → H' p = some (.lst (pl pg l m)) → Q (.ref p) H') :
    if decide (V.int ((pg : Nat) : Int) = V.int 0) = true then tLst (tCons (tCB (rListOf K) (tCons (tVar i) tNil)) (tCons (tCB (rListOf K) (tCons (tVar k) tNil)) tNil)) σ H Q
    else tLst (tCons (tCB (rListOf K) (tCons (tVar k) tNil)) (tCons (tCB (rListOf K) (tCons (tVar i) tNil)) tNil)) σ H Q := by
  rcases hpg with rfl | rfl
  · rw [vint_eq (show ((0 : Nat) : Int) = 0 from rfl)]
    exact iteT (two_lists hi hk hc ho q)
  · rw [vint_ne (show ((1 : Nat) : Int) ≠ 0 by decide)]
    exact iteF (two_lists hk hi ho hc fun l m p H' s h1 h2 h3 => q m l p H' s h2 h1 h3)
def spLIsSo (K : PySem.W.Frag) : Sp := fun vs H Q _ => ∃ (j u x : Addr) (D : Due) (O : Oth) (n : Nat), vs = [.ref j, .ref u, .ref x] ∧ JAt K H j D O ∧ DueAt K H u D ∧ SqT K H x (O.l.map V.int) ∧ Ok n D O ∧ n ≤ 1000 ∧ ∀ H', Same H H' → Q (.bl true) H'
def spLOpened (K : PySem.W.Frag) : Sp := fun vs H Q _ => ∃ (r u x : Addr) (D : Due) (O : Oth) (n : Nat), vs = [.ref r, .ref u, .ref x] ∧ BoxAt H r ∧ u ≠ r ∧ DueAt K H u D ∧ SqT K H x (O.l.map V.int) ∧ Ok n D O ∧ n ≤ 1000 ∧
  ∀ H', But r H H' → BoxAt H' r → Q (.bl true) H'
section
variable {P : Program} {w : World} {K : PySem.W.Frag} {mg : Str → Option Value} {base : Heap}

theorem sc__law_is_so : FnScope ["_law_journal", "_law_due", "_law_other", "_law_page", "_law_sign", "_law_begun_here", "_law_laid", "_law_kept", "_law_elder", "_law_octets_here", "_law_pages", "_law_told", "_law_one"] ["_law_journal", "_law_due", "_law_other"] (defScope s__law_is_so) := ⟨rfl, rfl, rfl, by decide +kernel, rfl, by decide +kernel, by decide +kernel⟩
theorem ok__law_is_so (hP : PrgOk P) (T : Txt K mg w) : DefG P w K mg base 8 (He.ga K "_law_is_so") ["_law_journal", "_law_due", "_law_other"] (spLIsSo K) := by
  obtain ⟨fd, F⟩ := T.f__law_is_so
  obtain ⟨fdl, Fl, bl2, kl⟩ := ok_Journal_loose (P := P) (base := base) T
  refine ⟨fd, FunD.okG F sc__law_is_so (fun vs H Q E h => ?_) (fun cdv A out s H vs Q hgu hr h => ?_), F.bindsN fun _ _ _ _ _ _ us hl => match us, hl with | [_, _, _], _ => rfl, F.kp⟩
  · obtain ⟨j, u, x, D, O, n, rfl, hJ, hu, hx, hok, hn, q⟩ := h
    rfl
  · obtain ⟨j, u, x, D, O, n, rfl, hJ, hu, hx, hok, hn, q⟩ := h
    refine ⟨_, PSs.nox
      (pss_cons (ps_asg (pv 1) (pg_unl rfl (pgs_cons (pg_name (i := 3) sc__law_is_so.nd rfl (.inl rfl)) (pgs_cons (pg_name (i := 4) sc__law_is_so.nd rfl (.inl rfl)) (pgs_cons (pg_name (i := 5) sc__law_is_so.nd rfl (.inl rfl)) (pgs_cons (pg_name (i := 6) sc__law_is_so.nd rfl (.inl rfl)) (pgs_cons (pg_name (i := 7) sc__law_is_so.nd rfl (.inl rfl)) (pgs_cons (pg_name (i := 8) sc__law_is_so.nd rfl (.inl rfl)) pgs_nil)))))))) (pss_cons (ps_set (i := 9) sc__law_is_so.nd rfl (.inl rfl) (pe_op op_catA (pe_d (ok__law_begun T) (hr.mono (by decide)) (by rfl) T.g__law_begun pass0 (pa_cons (pv 4) (pa_cons (pv 5) pa_nil))) (pe_d (ok__law_octets T) (hr.mono (by decide)) (by rfl) T.g__law_octets pass0 (pa_cons (pv 6) pa_nil)))) (pss_cons (ps_set (i := 10) sc__law_is_so.nd rfl (.inl rfl) (pe_ifExp (pt_cmpR op_eq (pv 3) pe_int (nomark _)) (pe_tup (pa_cons (pv 9) (pa_cons (pv 2) pa_nil))) (pe_tup (pa_cons (pv 2) (pa_cons (pv 9) pa_nil))))) (pss_cons (ps_if (PW.pt (pw_or (pt_cmpR op_ne (pe_callB (call_repr hgu hr.units) (by rfl) T.b_repr (by decide +kernel) (pa_cons (pe_fld (pv 0) (by rfl)) pa_nil)) (pe_callB (call_repr hgu hr.units) (by rfl) T.b_repr (by decide +kernel) (pa_cons (pv 10) pa_nil)) (nomark _)) (pw_or1 (pt_cmpR op_ne (pe_meth0 (pv 0) T.c_Journal T.m_Journal_loose Fl (hr.mono (by decide)) bl2 .nil pass0) (pe_op op_sub (pe_callB call_len (by rfl) T.b_len (by decide +kernel) (pa_cons (pv 9) pa_nil)) (pv 7)) (nomark _))))) (pss_one ps_never) pss_nil) (pss_cons (ps_if (pt_cmpR op_ne (pe_callB (call_repr hgu hr.units) (by rfl) T.b_repr (by decide +kernel) (pa_cons (pe_lst (pa_cons (pe_fld (pv 0) (by rfl)) (pa_cons (pe_fld (pv 0) (by rfl)) (pa_cons (pe_fld (pv 0) (by rfl)) (pa_cons (pe_fld (pv 0) (by rfl)) (pa_cons (pe_fld (pv 0) (by rfl)) pa_nil)))))) pa_nil)) (pe_callB (call_repr hgu hr.units) (by rfl) T.b_repr (by decide +kernel) (pa_cons (pe_lst (pa_cons (pv 3) (pa_cons (pv 4) (pa_cons (pv 5) (pa_cons (pv 6) (pa_cons (pv 7) pa_nil)))))) pa_nil)) (nomark _)) (pss_one ps_never) pss_nil) (pss_cons (ps_set (i := 11) sc__law_is_so.nd rfl (.inl rfl) (pe_d (ok_plain_journal hP T) (hr.mono (by decide)) (by rfl) T.g_plain_journal pass0 (pa_cons (pv 10) pa_nil))) (pss_one (ps_ret (pe_and (pe_cmpR op_eq (pe_callB (call_repr hgu hr.units) (by rfl) T.b_repr (by decide +kernel) (pa_cons (pv 11) pa_nil)) (pe_callB (call_repr hgu hr.units) (by rfl) T.b_repr (by decide +kernel) (pa_cons (pe_tup (pa_cons (pv 3) (pa_cons (pv 4) (pa_cons (pv 5) (pa_cons (pv 6) (pa_cons (pe_callB call_len (by rfl) T.b_len (by decide +kernel) (pa_cons (pv 9) pa_nil)) pa_nil)))))) pa_nil)) (nomark _)) (pe_one (pe_cmpR (op_eqD hr.units) (pe_d (ok_plain_journal hP T) (hr.mono (by decide)) (by rfl) T.g_plain_journal pass0 (pa_cons (pe_lc (own := [("_law_one", 12)]) (g := gName 12) (tt := tYes) rfl sc__law_is_so.nd (pi_seq (pv 10)) (blkOk_by (N := ["_law_journal", "_law_due", "_law_other", "_law_page", "_law_sign", "_law_begun_here", "_law_laid", "_law_kept", "_law_elder", "_law_octets_here", "_law_pages", "_law_told", "_law_one"]) (sc := defScope s__law_is_so) (own := [("_law_one", 12)]) (by decide +kernel)) (fun _ _ _ _ _ => pg_name (i := 12) sc__law_is_so.nd rfl (.inl rfl)) (fun _ _ _ _ _ => pts_nil) (fun _ _ _ _ _ => (pe_callTy (call_listK (K := K) rfl) (by rfl) T.b_list (by decide +kernel) (pa_cons (pv 12) pa_nil)))) pa_nil)) (pv 11) (nomark _)))))))))))), ?_⟩
    obtain ⟨b, l, e, h1, h2, h3, h4⟩ := hu
    have pz := hok.pz
    have hpg := hok.pg
    have ol := hok.oct_le
    have ol2 := hok.oth_le
    have kz := hok.kz
    refine ⟨_, rfl, u, _, rfl, h1, rfl, _, _, rfl, _, _, rfl, _, _, rfl, _, _, rfl, _, _, rfl, _, _, rfl, rfl, ?_⟩
    refine ⟨_, rfl, _, rfl, D.s, b, D.b, rfl, h2, hok.bz, fun t1 H1 s1 ht1 => ⟨_, rfl, l, D.ps, rfl, dp_same s1 h3, by omega, fun t2 H2 s2 ht2 => ?_⟩⟩
    have ez : (encB D.s D.b).length + (encP D.ps).length = D.oct.length := (List.length_append ..).symm
    refine cat_ints (sqT_same s2 ht1) ht2 (by omega) fun oc H3 s3 hoc => ?_
    have s03 := (s1.trans s2).trans s3
    have hoc' : SqT K H3 oc (D.oct.map V.int) := hoc
    have hx3 := sqT_same s03 hx
    -- the pages
    have nO : Nice 1 (D.oct.length * 41) (dI D.oct) := nice_dI hok.oct_small
    have nX : Nice 1 (O.l.length * 41) (dI O.l) := nice_dI hok.oth_small
    have nP : Nice 2 400000 (.tuple (dPl D.pg (dI D.oct) (dI O.l))) := ((niceAll_pl (w := 190000) (nO.mono (Nat.le_refl _) (by omega)) (nX.mono (Nat.le_refl _) (by omega))).tuple).mono (by decide) (by decide)
    obtain ⟨dx, pr, jb, jl, c, oo, hj, hpr, hc, ho, hjb, hjl⟩ := hJ.same s03
    have nS := hok.nice_self (m := D.kept) hn (by omega)
    have nT := hok.nice_self (m := D.oct.length) hn (by omega)
    have pj := plain_now hok
    have zo : O.p.ps.length < 1000000 := by have h : O.ps.length ≤ n := hok.opz; show O.ps.length < 1000000; omega
    have fOk : Pg.Ok (full D.s D.b D.ps) := ⟨hok.s0, hok.s3, hok.hb, by have h := hok.bz; show D.b.length < 65536; omega, hok.hp⟩
    obtain ⟨o0, o1⟩ := pair_all (pg := D.pg) (F := Pg.Ok) fOk hok.oP
    obtain ⟨z0, z1⟩ := pair_all (pg := D.pg) (C := full D.s D.b D.ps) (O := O.p) (F := fun P => P.ps.length < 1000000) (show D.ps.length < 1000000 by omega) zo
    have fl : (full D.s D.b D.ps).l = D.oct := full_l _ _ _
    refine ⟨_, rfl, rfl, _, rfl, ?_⟩
    refine if_pl hpg rfl rfl fun pp hpp => ?_
    have s4 := same_upd (o := .tup (pl D.pg oc x)) hpp
    have hp4 : SqT K (upd H3 pp (.tup (pl D.pg oc x))) pp (pl D.pg oc x) := SqT.of upd_same
    have hoc4 := sqT_same s4 hoc'
    have hx4 := sqT_same s4 hx3
    have hj4 := s4 _ _ hj
    have hpr4 := sqT_same s4 hpr
    have hc4 := sqT_same s4 hc
    have ho4 := sqT_same s4 ho
    have hjb4 := dp_same s4 hjb
    have hjl4 := dp_same s4 hjl
    have hb4 := dp_same (s03.trans s4) h2
    have hl4 := dp_same (s03.trans s4) h3
    have dpp : Dp K (upd H3 pp (.tup (pl D.pg oc x))) (.ref pp) (.tuple (dPl D.pg (dI D.oct) (dI O.l))) := .tup hp4 (dpAll_pl (dp_dI hoc4) (dp_dI hx4))
    have dpr : Dp K (upd H3 pp (.tup (pl D.pg oc x))) (.ref pr) (.tuple (dPl D.pg (dI D.oct) (dI O.l))) := .tup hpr4 (dpAll_pl (dp_dI hc4) (dp_dI ho4))
    have sH4 := s03.trans s4
    generalize upd H3 pp (.tup (pl D.pg oc x)) = H4 at *
    obtain ⟨k0, k1, a0, a1, g1, g2, g3⟩ := plain_in (k := .t) (kc := .t) (ko := .t) (C := full D.s D.b D.ps) (O := O.p) hpg hp4 (by rw [fl]; exact hoc4) hx4
    have el : (D.oct.map V.int).length = D.oct.length := List.length_map ..
    have k30 : 3 ≤ 30 := by decide
    have k32 : 2 ≤ 30 := by decide
    have w20 : 400000 ≤ 2 ^ 20 := by decide
    refine ⟨_, rfl, j, _, dx, _, _, rfl, hj4, T.c_Journal, T.n_Journal_pages, rfl, pr, _, _, _, rfl, dpr, nP, k32, w20, _, rfl, pp, _, _, _, rfl, dpp, nP, k32, w20, rfl, _, rfl, iteNS rfl ?_⟩
    refine ⟨_, rfl, j, dx, _, rfl, hj4, rfl, j, dx, pr, c, oo, D.pg, D.s, jb, jl, _, _, rfl, hj4, hpr4, hpg, hc4, _, rfl, .ref oc, _, rfl, len_sq (k := .t) hoc4, _, rfl, _, _, rfl, rfl, rfl, _, rfl, iteNS rfl ?_⟩
    have self : ∀ (H' : Hp) (q1 : Addr) (v w : V), Same H4 H' → H' q1 = none → Dp K H' v (dHs D.b) → Dp K H' w (dPs D.ps) → Dp K (upd H' q1 (.lst [.int (D.pg : Nat), .int D.s, v, w, .int (D.kept : Nat)])) (.ref q1) (.list (dSelf D D.kept)) := fun H' q1 v w _ hq hv hw =>
      .lst (SqL.of upd_same) (.cons (.int _) (.cons (.int _) (.cons (dp_same (same_upd hq) hv) (.cons (dp_same (same_upd hq) hw) (.cons (.int _) .nil)))))
    refine ⟨_, rfl, j, _, dx, _, _, rfl, hj4, T.c_Journal, T.n_Journal_page, rfl, _, rfl, j, _, dx, _, _, rfl, hj4, T.c_Journal, T.n_Journal_sign, rfl, _, rfl, j, _, dx, _, _, rfl, hj4, T.c_Journal, T.n_Journal_begun, rfl, _, rfl, j, _, dx, _, _, rfl, hj4, T.c_Journal, T.n_Journal_laid, rfl, _, rfl, j, _, dx, _, _, rfl, hj4, T.c_Journal, T.n_Journal_kept, rfl, szl (lk rfl), fun q1 hq1 => ⟨q1, _, _, _, rfl, self H4 q1 jb jl (Same.refl _) hq1 hjb4 hjl4, nS.list, k30, w20, ?_⟩⟩
    have s5 := same_upd (o := .lst [.int (D.pg : Nat), .int D.s, jb, jl, .int (D.kept : Nat)]) hq1
    refine ⟨_, rfl, _, rfl, _, rfl, _, rfl, _, rfl, szl (lk rfl), fun q2 hq2 => ⟨q2, _, _, _, rfl, self _ q2 b l s5 hq2 (dp_same s5 hb4) (dp_same s5 hl4), nS.list, k30, w20, rfl, _, rfl, iteNS rfl ?_⟩⟩
    have s6 := s5.trans (same_upd (o := .lst [.int (D.pg : Nat), .int D.s, b, l, .int (D.kept : Nat)]) hq2)
    refine ⟨_, rfl, .t, k0, k1, pp, a0, a1, _, _, _, _, rfl, g1.same s6, g2.same s6, g3.same s6, o0, o1, z0, z1, pj, fun r x2 y2 H7 s7 hr7 hx7 hy7 => ?_⟩
    have s47 := s6.trans s7
    have dr : Dp K H7 (.ref r) (.tuple (dSelf D D.oct.length)) := .tup hr7 (.cons (.int _) (.cons (.int _) (.cons hx7 (.cons hy7 (.cons (.int _) .nil)))))
    refine ⟨_, rfl, r, _, _, _, rfl, dr, nT.tuple, k30, w20, _, rfl, _, rfl, _, rfl, _, rfl, _, rfl, .ref oc, _, rfl, len_sq (k := .t) (sqT_same s47 hoc4), szl (lk rfl), fun q3 hq3 => ⟨q3, .tuple (dSelf D D.oct.length), _, _, rfl, ?_, nT.tuple, k30, w20, rfl, _, rfl, ?_⟩⟩
    · exact dp_self hq3 el (dp_same s47 hb4) (dp_same s47 hl4)
    · rw [decide_eq_true (Eq.refl (V.str (PyData.tuple (dSelf D D.oct.length)).shown)), if_pos rfl]
      have s8 := same_upd (o := .tup [.int (D.pg : Nat), .int D.s, b, l, .int ((D.oct.map V.int).length : Nat)]) hq3
      have s48 := s47.trans s8
      refine ⟨_, rfl, .t, pp, [.ref a0, .ref a1], rfl, g1.same s48, fun J wk Da hD => lc_it wk (TwPv K _ Da ((pair D.pg (full D.s D.b D.ps) O.p).1.l.map V.int) ((pair D.pg (full D.s D.b D.ps) O.p).2.l.map V.int)) ⟨But.of (same_upd hD), [], upd_same, .inl ⟨rfl, rfl⟩⟩ (fun i H' _ h => g1.same (s48.trans (h.1.new hD))) ?_ ?_⟩
      · rintro i v H9 H10 hi pv ⟨rfl, hv⟩
        have hi' : i < 2 := hi
        have sP := s48.trans (pv.1.new hD)
        obtain ⟨ki, ai, xi, rfl, hsq, hxi⟩ : ∃ (ki : Kd) (ai : Addr) (xi : List V), v = .ref ai ∧ Sq K H10 ki ai xi ∧ [((pair D.pg (full D.s D.b D.ps) O.p).1.l.map V.int), ((pair D.pg (full D.s D.b D.ps) O.p).2.l.map V.int)][i]? = some xi := by
          match i, hi' with
          | 0, _ => exact ⟨k0, a0, _, (Option.some.inj hv).symm, g2.same sP, rfl⟩
          | 1, _ => exact ⟨k1, a1, _, (Option.some.inj hv).symm, g3.same sP, rfl⟩
        refine ⟨rfl, _, rfl, list_of hsq fun t ht => ?_⟩
        exact pv.step hi' hxi ht
      · rintro H9 ⟨b9, acc, ha9, hc9⟩
        rcases hc9 with ⟨z, _⟩ | ⟨z, _⟩ | ⟨_, l0, l1, n0, n1, rfl, hl0, hl1⟩
        · exact absurd (show (2 : Nat) = 0 from z) (by decide)
        · exact absurd (show (2 : Nat) = 1 from z) (by decide)
        · have s9 := b9.new hD
          refine ⟨.l, .l, .l, Da, l0, l1, _, _, _, _, rfl, SqL.of ha9, SqL.of hl0, SqL.of hl1, o0, o1, z0, z1, pj, fun r2 x3 y3 HA sA hrA hxA hyA => ?_⟩
          have dr2 : Dp K HA (.ref r2) (.tuple (dSelf D D.oct.length)) := .tup hrA (.cons (.int _) (.cons (.int _) (.cons hxA (.cons hyA (.cons (.int _) .nil)))))
          have sh := nT.tuple.shaped (by decide)
          refine ⟨_, rfl, _, _, dr2, dp_same ((s8.trans s9).trans sA) dr, sh, sh, ?_⟩
          rw [nT.tuple.refl]
          exact q HA (sH4.trans ((s48.trans s9).trans sA))
end
end K62

set_option Elab.async false
set_option linter.all false
set_option maxRecDepth 100000
set_option maxHeartbeats 4000000
/-! K62G: _law_opened. (printed by gen_opened.py) -/
namespace K62
open PySem PySem.Spec PyProof.Rows L2
theorem if_still {σ : L2.St} {H : Hp} {Q : VK} {i k : Nat} {p q : Nat} {re x st : Addr} (h : (p ≠ q ∧ st = re) ∨ (p = q ∧ st = x)) (hi : σ[i]? = some (some (.ref re))) (hk : σ[k]? = some (some (.ref x))) (z : Q (.ref st) H) :
    if (!decide (V.int ((p : Nat) : Int) = V.int ((q : Nat) : Int))) = true then tVar i σ H Q else tVar k σ H Q := by
  rcases h with ⟨c, rfl⟩ | ⟨c, rfl⟩
  · rw [vint_ne (show ((p : Nat) : Int) ≠ ((q : Nat) : Int) by omega)]
    exact iteT ⟨_, hi, z⟩
  · rw [vint_eq (show ((p : Nat) : Int) = ((q : Nat) : Int) by omega)]
    exact iteF ⟨_, hk, z⟩
theorem dpAll_plL {K : PySem.W.Frag} {H : Hp} {pg : Nat} {l m : Addr} {a b : List Int} (hl : H l = some (.lst (a.map V.int))) (hm : H m = some (.lst (b.map V.int))) : DpAll K H (pl pg l m) (dPl pg (dL a) (dL b)) := dpAll_pl (dp_dL (SqL.of hl)) (dp_dL (SqL.of hm))
section
variable {P : Program} {w : World} {K : PySem.W.Frag} {mg : Str → Option Value} {base : Heap}

theorem sc__law_opened : FnScope ["_law_box_here", "_law_due", "_law_other", "_law_page", "_law_sign", "_law_begun_here", "_law_laid", "_law_kept", "_law_elder", "_law_octets_here", "_law_loose", "_law_left", "_law_rest", "_law_later", "_law_still", "_law_handed", "_law_copies", "_law_journal"] ["_law_box_here", "_law_due", "_law_other"] (defScope s__law_opened) := ⟨rfl, rfl, rfl, by decide +kernel, rfl, by decide +kernel, by decide +kernel⟩
theorem ok__law_opened (hP : PrgOk P) (T : Txt K mg w) : DefG P w K mg base 10 (He.ga K "_law_opened") ["_law_box_here", "_law_due", "_law_other"] (spLOpened K) := by
  obtain ⟨fd, F⟩ := T.f__law_opened
  refine ⟨fd, FunD.okG F sc__law_opened (fun vs H Q E h => ?_) (fun cdv A out s H vs Q hgu hr h => ?_), F.bindsN fun _ _ _ _ _ _ us hl => match us, hl with | [_, _, _], _ => rfl, F.kp⟩
  · obtain ⟨r, u, x, D, O, n, rfl, hB, nu, hu, hx, hok, hn, q⟩ := h
    rfl
  · obtain ⟨r, u, x, D, O, n, rfl, hB, nu, hu, hx, hok, hn, q⟩ := h
    have pz := hok.pz
    have hpg := hok.pg
    have ol := hok.oct_le
    have ol2 := hok.oth_le
    have kz := hok.kz
    have k32 : 2 ≤ 30 := by decide
    have w20 : 400000 ≤ 2 ^ 20 := by decide
    obtain ⟨U2, p2, r2⟩ : ∃ U : TS, PSs (cxOf CX0 P w K mg base ["_law_box_here", "_law_due", "_law_other", "_law_page", "_law_sign", "_law_begun_here", "_law_laid", "_law_kept", "_law_elder", "_law_octets_here", "_law_loose", "_law_left", "_law_rest", "_law_later", "_law_still", "_law_handed", "_law_copies", "_law_journal"] "_law_opened" (defScope s__law_opened) (He.ga K "_law_opened") cdv A out s H E0).nox ((defBody s__law_opened).drop 9) U ∧ ∀ (a3 a4 a5 a6 a7 a8 a9 a10 a11 a12 : Option V) (Bd : Due) (Ob : Oth) (RL : List Int) (left : Nat) (la st hd lr lx : Addr) (d : PyData) (H7 : Hp), D.kept + left ≤ D.oct.length →
        Bd = behind D left → Ob = othBehind D O left → RL = (cutPg D left).l → DueAt K H7 la Bd → SqT K H7 st (Ob.l.map V.int) → H7 hd = some (.lst (pl D.pg lr lx)) → H7 lr = some (.lst (RL.map V.int)) → H7 lx = some (.lst (O.l.map V.int)) →
        Dp K H7 (.ref hd) d → Nice 2 400000 d → (∀ H8, Same H7 H8 → Q (.bl true) H8) →
        U { nx := fun _ H' => Q .non H', rt := Q } [some (.ref r), some (.ref u), some (.ref x), a3, a4, a5, a6, a7, a8, a9, a10, a11, a12, some (.ref la), some (.ref st), some (.ref hd), some (.str d.shown), none] H7 := by
      refine ⟨_, (pss_cons (ps_set (i := 17) sc__law_opened.nd rfl (.inl rfl) (pe_dk (ok_open_journalK hP T) (hr.mono (by decide)) (by rfl) T.g_open_journal pass0 (pv 15))) (pss_cons (ps_if (PW.pt (pw_or (pt_not (pt_val (pe_g (ok__law_is_so hP T) hgu (hr.mono (by decide)) (by rfl) T.g__law_is_so (pa_cons (pv 17) (pa_cons (pv 13) (pa_cons (pv 14) pa_nil)))))) (pw_or1 (pt_cmpR op_ne (pe_callB (call_repr hgu hr.units) (by rfl) T.b_repr (by decide +kernel) (pa_cons (pv 15) pa_nil)) (pv 16) (nomark _))))) (pss_one ps_never) pss_nil) (pss_one (ps_ret (pe_g (ok__law_is_so hP T) hgu (hr.mono (by decide)) (by rfl) T.g__law_is_so (pa_cons (pe_d (ok_open_journal hP T) (hr.mono (by decide)) (by rfl) T.g_open_journal pass0 (pa_cons (pe_fld (pv 17) (by rfl)) pa_nil)) (pa_cons (pv 13) (pa_cons (pv 14) pa_nil)))))))), ?_⟩
      intro a3 a4 a5 a6 a7 a8 a9 a10 a11 a12 Bd Ob RL left la st hd lr lx d H7 hle eB eO eR hla hst2 hhd hlr hlx dh nL q
      have hokB : Ok n Bd Ob := by rw [eB, eO]; exact hok.cut hle
      have hk : Bd.kept = Bd.oct.length := by rw [eB]; exact behind_full hok
      obtain ⟨a1, a2, a3'⟩ := again (O := Ob) hk
      refine ⟨_, rfl, .l, .l, .l, hd, lr, lx, D, O, left, n, rfl, SqL.of hhd, (by rw [← eR]; exact SqL.of hlr), SqL.of hlx, hok, hn, hle, fun jn H8 s8 hJ8 => ?_⟩
      rw [← eB, ← eO] at hJ8
      refine ⟨_, rfl, _, rfl, _, rfl, jn, la, st, Bd, Ob, n, rfl, hJ8, hla.same s8, sqT_same s8 hst2, hokB, hn, fun H9 s9 => ⟨true, rfl, iteF ?_⟩⟩
      have s79 := s8.trans s9
      refine ⟨_, rfl, hd, d, _, _, rfl, dp_same s79 dh, nL, k32, w20, _, rfl, rfl, _, rfl, iteNS (Eq.refl (V.str d.shown)) ?_⟩
      obtain ⟨dx, pr, bv, lv, c, oo, hj, hpr, hc, ho, hjb, hjl⟩ := hJ8.same s9
      have hc' : SqT K H9 c ((cutPg Bd 0).l.map V.int) := by rw [a3']; exact hc
      refine ⟨_, rfl, jn, _, dx, _, _, rfl, hj, T.c_Journal, T.n_Journal_pages, rfl, .t, .t, .t, pr, c, oo, Bd, Ob, 0, n, rfl, hpr, hc', ho, hokB, hn, by omega, fun jm HA sA hJA => ?_⟩
      rw [a1, a2] at hJA
      have s7A := s79.trans sA
      refine ⟨_, rfl, _, rfl, jm, la, st, Bd, Ob, n, rfl, hJA, hla.same s7A, sqT_same s7A hst2, hokB, hn, fun HB sB' => ?_⟩
      exact q HB (s7A.trans sB')
    obtain ⟨U1, p1, r1⟩ : ∃ U : TS, PSs (cxOf CX0 P w K mg base ["_law_box_here", "_law_due", "_law_other", "_law_page", "_law_sign", "_law_begun_here", "_law_laid", "_law_kept", "_law_elder", "_law_octets_here", "_law_loose", "_law_left", "_law_rest", "_law_later", "_law_still", "_law_handed", "_law_copies", "_law_journal"] "_law_opened" (defScope s__law_opened) (He.ga K "_law_opened") cdv A out s H E0).nox ((defBody s__law_opened).drop 6) U ∧ ∀ (a4 a5 a6 a7 a8 a9 a10 a11 : Option V) (Bd : Due) (Ob : Oth) (RL : List Int) (left : Nat) (la re : Addr) (H6 : Hp), D.kept + left ≤ D.oct.length →
        Bd = behind D left → Ob = othBehind D O left → RL = (cutPg D left).l → DueAt K H6 la Bd → SqT K H6 re (RL.map V.int) → SqT K H6 x (O.l.map V.int) → (∀ H8, Same H6 H8 → Q (.bl true) H8) →
        U { nx := fun _ H' => Q .non H', rt := Q } [some (.ref r), some (.ref u), some (.ref x), some (.int (D.pg : Nat)), a4, a5, a6, a7, a8, a9, a10, a11, some (.ref re), some (.ref la), none, none, none, none] H6 := by
      refine ⟨_, (pss_cons (ps_set (i := 14) sc__law_opened.nd rfl (.inl rfl) (pe_ifExp (pt_cmpR op_ne (pe_ix ix_seq (pv 13) pe_int (fun _ _ => rfl)) (pv 3) (nomark _)) (pv 12) (pv 2))) (pss_cons (ps_set (i := 15) sc__law_opened.nd rfl (.inl rfl) (pe_ifExp (pt_cmpR op_eq (pv 3) pe_int (nomark _)) (pe_lst (pa_cons (pe_callTy (call_listK (K := K) rfl) (by rfl) T.b_list (by decide +kernel) (pa_cons (pv 12) pa_nil)) (pa_cons (pe_callTy (call_listK (K := K) rfl) (by rfl) T.b_list (by decide +kernel) (pa_cons (pv 2) pa_nil)) pa_nil))) (pe_lst (pa_cons (pe_callTy (call_listK (K := K) rfl) (by rfl) T.b_list (by decide +kernel) (pa_cons (pv 2) pa_nil)) (pa_cons (pe_callTy (call_listK (K := K) rfl) (by rfl) T.b_list (by decide +kernel) (pa_cons (pv 12) pa_nil)) pa_nil))))) (pss_cons (ps_set (i := 16) sc__law_opened.nd rfl (.inl rfl) (pe_callB (call_repr hgu hr.units) (by rfl) T.b_repr (by decide +kernel) (pa_cons (pv 15) pa_nil))) p2))), ?_⟩
      intro a4 a5 a6 a7 a8 a9 a10 a11 Bd Ob RL left la re H6 hle eB eO eR hla hre6 hx6 q
      have sB := still_eq (left := left) hok
      rw [← eB, ← eO] at sB
      obtain ⟨lb, ll, le, g1', g2', g3', g4'⟩ := id hla
      have hst : ∃ st, ((Bd.pg ≠ D.pg ∧ st = re) ∨ (Bd.pg = D.pg ∧ st = x)) ∧ SqT K H6 st (Ob.l.map V.int) := by
        by_cases c : Bd.pg = D.pg
        · exact ⟨x, .inr ⟨c, rfl⟩, by rw [sB.1 c]; exact hx6⟩
        · refine ⟨re, .inl ⟨c, rfl⟩, ?_⟩
          have e : RL = D.oct.take (D.kept + left) := eR
          rw [(sB.2 c).1, ← e]
          exact hre6
      obtain ⟨st, hst1, hst2⟩ := hst
      have nL : Nice 2 400000 (.list (dPl D.pg (dL RL) (dL O.l))) := by
        have z1 : Nice 1 (RL.length * 41) (dL RL) := nice_dL (by rw [eR]; exact small_octet (Pg.octet hok.cutOk))
        have z2 : Nice 1 (O.l.length * 41) (dL O.l) := nice_dL hok.oth_small
        have z3 : RL.length ≤ D.oct.length := by
          rw [eR]
          show (D.oct.take (D.kept + left)).length ≤ _
          rw [List.length_take]
          omega
        exact ((niceAll_pl (w := 190000) (z1.mono (Nat.le_refl _) (by omega)) (z2.mono (Nat.le_refl _) (by omega))).list).mono (by decide) (by decide)
      refine ⟨_, rfl, ix_l g1' (v := .int (Bd.pg : Nat)) rfl ⟨_, rfl, rfl, _, rfl, ?_⟩⟩
      refine if_still hst1 rfl rfl ?_
      refine ⟨_, rfl, rfl, _, rfl, ?_⟩
      refine if_pll hpg rfl rfl hre6 hx6 fun lr lx hd H7 s7 hlr hlx hhd => ?_
      have dh : Dp K H7 (.ref hd) (.list (dPl D.pg (dL RL) (dL O.l))) := .lst (SqL.of hhd) (dpAll_plL hlr hlx)
      refine ⟨_, rfl, hd, _, _, _, rfl, dh, nL, k32, w20, ?_⟩
      exact r2 _ _ _ _ _ _ _ _ _ _ Bd Ob RL left la st hd lr lx _ H7 hle eB eO eR (hla.same s7) (sqT_same s7 hst2) hhd hlr hlx dh nL fun H8 s8 => q H8 (s7.trans s8)
    refine ⟨_, PSs.nox (pss_cons (ps_asg (pv 1) (pg_unl rfl (pgs_cons (pg_name (i := 3) sc__law_opened.nd rfl (.inl rfl)) (pgs_cons (pg_name (i := 4) sc__law_opened.nd rfl (.inl rfl)) (pgs_cons (pg_name (i := 5) sc__law_opened.nd rfl (.inl rfl)) (pgs_cons (pg_name (i := 6) sc__law_opened.nd rfl (.inl rfl)) (pgs_cons (pg_name (i := 7) sc__law_opened.nd rfl (.inl rfl)) (pgs_cons (pg_name (i := 8) sc__law_opened.nd rfl (.inl rfl)) pgs_nil)))))))) (pss_cons (ps_set (i := 9) sc__law_opened.nd rfl (.inl rfl) (pe_op op_catA (pe_d (ok__law_begun T) (hr.mono (by decide)) (by rfl) T.g__law_begun pass0 (pa_cons (pv 4) (pa_cons (pv 5) pa_nil))) (pe_d (ok__law_octets T) (hr.mono (by decide)) (by rfl) T.g__law_octets pass0 (pa_cons (pv 6) pa_nil)))) (pss_cons (ps_set (i := 10) sc__law_opened.nd rfl (.inl rfl) (pe_op op_subE (pe_callB call_len (by rfl) T.b_len (by decide +kernel) (pa_cons (pv 9) pa_nil)) (pv 7))) (pss_cons (ps_set (i := 11) sc__law_opened.nd rfl (.inl rfl) (pe_d (ok__law_take T) (hr.mono (by decide)) (by rfl) T.g__law_take pass0 (pa_cons (pv 0) (pa_cons (pe_op op_add (pv 10) pe_int) pa_nil)))) (pss_cons (ps_set (i := 12) sc__law_opened.nd rfl (.inl rfl) (pe_slice sl_tupA (pv 9) po_none (po_some (pe_op op_addE (pv 7) (pv 11))))) (pss_cons (ps_set (i := 13) sc__law_opened.nd rfl (.inl rfl) (pe_d (ok__law_behind T) (hr.mono (by decide)) (by rfl) T.g__law_behind pass0 (pa_cons (pv 1) (pa_cons (pv 11) pa_nil)))) p1)))))), ?_⟩
    obtain ⟨b, l, e, h1, h2, h3, h4⟩ := id hu
    refine ⟨_, rfl, u, _, rfl, h1, rfl, _, _, rfl, _, _, rfl, _, _, rfl, _, _, rfl, _, _, rfl, _, _, rfl, rfl, ?_⟩
    refine ⟨_, rfl, _, rfl, D.s, b, D.b, rfl, h2, hok.bz, fun t1 H1 s1 ht1 => ⟨_, rfl, l, D.ps, rfl, dp_same s1 h3, by omega, fun t2 H2 s2 ht2 => ?_⟩⟩
    have ez : (encB D.s D.b).length + (encP D.ps).length = D.oct.length := (List.length_append ..).symm
    refine cat_ints (sqT_same s2 ht1) ht2 (by omega) fun oc H3 s3 hoc => ?_
    have s03 := (s1.trans s2).trans s3
    have hoc' : SqT K H3 oc (D.oct.map V.int) := hoc
    have el : (D.oct.map V.int).length = D.oct.length := List.length_map ..
    have elo : (((D.oct.map V.int).length : Nat) : Int) - ((D.kept : Nat) : Int) = ((D.oct.length - D.kept : Nat) : Int) := by rw [el]; omega
    refine ⟨_, rfl, .ref oc, _, rfl, len_sq (k := .t) hoc', _, rfl, _, _, _, rfl, rfl, elo, ?_⟩
    have B3 := hB.same s03
    obtain ⟨g0, g1, hr3, _⟩ := id B3
    refine ⟨_, rfl, _, rfl, _, _, rfl, rfl, r, _, rfl, B3, by omega, by omega, fun v H4 v0 v1 b4 B4 => ?_⟩
    obtain ⟨left, rfl⟩ := Int.eq_ofNat_of_zero_le v0
    have hle : D.kept + left ≤ D.oct.length := by omega
    have hoc4 := sqT_butL hr3 b4 hoc'
    have hx4 := sqT_butL hr3 b4 (sqT_same s03 hx)
    have hu4 := (hu.same s03).butL hr3 b4 nu
    have eke : ((D.kept : Nat) : Int) + ((left : Nat) : Int) = ((D.kept + left : Nat) : Int) := by omega
    refine ⟨_, rfl, _, rfl, _, rfl, _, _, _, rfl, rfl, eke, _, rfl, sl_to hoc4 (by rw [el]; exact hle) fun re H5 s5 hre => ?_⟩
    have hre' : SqT K H5 re ((cutPg D left).l.map V.int) := by
      have e : (cutPg D left).l.map V.int = (D.oct.map V.int).take (D.kept + left) := List.map_take
      rw [e]
      exact hre
    refine ⟨_, rfl, _, rfl, u, D, O, left, n, rfl, hu4.same s5, hok, hn, hle, fun la H6 s6 hn6 hla => ?_⟩
    have s56 := s5.trans s6
    refine r1 _ _ _ _ _ _ _ _ _ _ _ left la re H6 hle rfl rfl rfl hla (sqT_same s6 hre') (sqT_same s56 hx4) fun H8 s8 => ?_
    exact q H8 (((But.of s03).trans b4).trans (But.of (s56.trans s8))) (B4.same (s56.trans s8))
end
end K62

set_option Elab.async false
set_option linter.all false
set_option maxRecDepth 100000
set_option maxHeartbeats 4000000
/-! K62M: law's branches. (printed by gen_law.py) -/
namespace K62
open PySem PySem.Spec PyProof.Rows L2
/-- what stands within a turn of law -/
structure Tn (K : PySem.W.Frag) (ns : List Int) (i : Nat) (a j u x r oc : Addr) (D : Due) (O : Oth) (b l e : V) (H : Hp) : Prop where
  hs : SqL K H a (ns.map V.int)
  sf : a ≠ r ∨ ∀ H, SqL K H a (ns.map V.int)
  hJ : JAt K H j D O
  hu : DueAt K H u D
  hb : Dp K H b (dHs D.b)
  hl : Dp K H l (dPs D.ps)
  he : Dp K H e (dEl D.el)
  hx : SqT K H x (O.l.map V.int)
  oc : SqT K H oc (D.oct.map V.int)
  ok : Ok i D O
  hi : i < 12
  B : BoxAt H r
  nu : u ≠ r
/-- .. behind a branch -/
structure Ts (K : PySem.W.Frag) (ns : List Int) (i : Nat) (a j r u x : Addr) (D : Due) (O : Oth) (H : Hp) : Prop where
  hs : SqL K H a (ns.map V.int)
  sf : a ≠ r ∨ ∀ H, SqL K H a (ns.map V.int)
  hJ : JAt K H j D O
  hu : DueAt K H u D
  hx : SqT K H x (O.l.map V.int)
  ok : Ok i D O
  B : BoxAt H r
  nu : u ≠ r
  tk : ∃ ys, H u = some (.lst ys)
def LSt (K : PySem.W.Frag) (ns : List Int) (i : Nat) (a j r : Addr) (σ : L2.St) (H : Hp) : Prop := ∃ (u x : Addr) (D : Due) (O : Oth) (v4 v6 v7 v8 v9 v10 v11 v12 v13 v14 v15 v16 v17 v18 v19 : Option V),
  σ = [some (.ref a), some (.ref j), some (.ref u), some (.ref x), v4, some (.ref r), v6, v7, v8, v9, v10, v11, v12, v13, v14, v15, v16, v17, v18, v19] ∧ Ts K ns i a j r u x D O H
section
variable {K : PySem.W.Frag} {ns : List Int} {i : Nat} {a j u x r oc : Addr} {D : Due} {O : Oth} {b l e : V} {H H' : Hp}
theorem Tn.same (t : Tn K ns i a j u x r oc D O b l e H) (s : Same H H') : Tn K ns i a j u x r oc D O b l e H' :=
  ⟨sqL_same s t.hs, t.sf, t.hJ.same s, t.hu.same s, dp_same s t.hb, dp_same s t.hl, dp_same s t.he, sqT_same s t.hx, sqT_same s t.oc, t.ok, t.hi, t.B.same s, t.nu⟩
theorem keepR {xs : List V} (h : SqL K H a xs) (sf : a ≠ r ∨ ∀ H, SqL K H a xs) (s : But r H H') : SqL K H' a xs := by
  rcases sf with n | f
  · exact sqL_keep h fun o z => s a o n z
  · exact f H'
theorem Tn.butR (t : Tn K ns i a j u x r oc D O b l e H) (s : But r H H') (B : BoxAt H' r) : Tn K ns i a j u x r oc D O b l e H' := by
  obtain ⟨g, h, er, _⟩ := t.B
  exact ⟨keepR t.hs t.sf s, t.sf, t.hJ.butL er s, t.hu.butL er s t.nu, dp_butL er s (noL_hs _) t.hb, dp_butL er s (noL_ps _) t.hl, dp_butL er s (noL_el _) t.he, sqT_butL er s t.hx, sqT_butL er s t.oc, t.ok, t.hi, B, t.nu⟩
theorem safeOf {xs : List V} (h : SqL K H a xs) (hr : H r = none) : a ≠ r ∨ ∀ H, SqL K H a xs := by
  rcases h with (h | ⟨o, h⟩) | h
  · exact .inl fun z => by rw [z, hr] at h; cases h
  · exact .inl fun z => by rw [z, hr] at h; cases h
  · exact .inr fun _ => .inr h
theorem box_ne {o : HO} (B : BoxAt H r) (hj : H j = some o) (n : ∀ xs, o ≠ .lst xs) : r ≠ j := fun z => by
  obtain ⟨g, h, e, _⟩ := B
  rw [z, hj] at e
  exact n _ (Option.some.inj e)
theorem if_press {σ : L2.St} {Q : VK} {k : Nat} {t : Addr} {xs : List V} {d : Int} (hi : σ[k]? = some (some (.ref t))) (ht : SqT K H t xs) (q : ∀ (kd : Kd) (pa : Addr) (H2 : Hp), Same H H2 → Sq K H2 kd pa xs → Q (.ref pa) H2) :
    if decide (V.int d = V.int 0) = true then tCB (rListOf K) (tCons (tVar k) tNil) σ H Q else tVar k σ H Q := by
  by_cases c : d = 0
  · rw [vint_eq c]
    exact iteT ⟨_, hi, list_of (k := .t) ht fun m hm => q .l m _ (same_upd hm) (SqL.of upd_same)⟩
  · rw [vint_ne c]
    exact iteF ⟨_, hi, q .t t H (Same.refl _) ht⟩
end

def bodyFor (s : Stmt) : List Stmt := match s with
  | .For _ _ body _ _ => body
  | _ => []
def ifThen (s : Stmt) : List Stmt := match s with
  | .If _ a _ _ => a
  | _ => []
def ifElse (s : Stmt) : List Stmt := match s with
  | .If _ _ b _ => b
  | _ => []
def lawBody : List Stmt := bodyFor ((defBody s_law).getD 2 (.Pass ⟨0, 0, 0, 0⟩))
def lawIf : Stmt := lawBody.getD 4 (.Pass ⟨0, 0, 0, 0⟩)
def lawIf2 : Stmt := (ifElse lawIf).getD 0 (.Pass ⟨0, 0, 0, 0⟩)
def lawIf3 : Stmt := (ifElse lawIf2).getD 0 (.Pass ⟨0, 0, 0, 0⟩)
theorem sc_law : FnScope ["_law_script", "_law_journal", "_law_due", "_law_other", "_law_k", "_law_box_here", "_law_deed", "_law_page", "_law_sign", "_law_begun_here", "_law_laid", "_law_kept", "_law_elder", "_law_octets_here", "_law_press_here", "_law_history_here", "_law_handed", "_law_left", "_law_later", "_law_letter"] ["_law_script"] (defScope s_law) := ⟨rfl, rfl, rfl, by decide +kernel, rfl, by decide +kernel, by decide +kernel⟩
/-- the slots of law within a turn -/
abbrev slots (a j u x r oc : Addr) (D : Due) (b l e : V) (kk de : Int) (v14 v15 v16 v17 v18 v19 : Option V) : L2.St := [some (.ref a), some (.ref j), some (.ref u), some (.ref x), some (.int kk), some (.ref r), some (.int de), some (.int (D.pg : Nat)), some (.int D.s), some b, some l, some (.int (D.kept : Nat)), some e, some (.ref oc), v14, v15, v16, v17, v18, v19]
/-- a branch of law: from what stands within a turn to what stands behind it -/
def BrOk (X : Cx) (K : PySem.W.Frag) (sts : List Stmt) : Prop := ∃ U : TS, PSs X sts U ∧ ∀ (N : Ends) (ns : List Int) (i : Nat) (a j u x r oc : Addr) (D : Due) (O : Oth) (b l e : V) (kk de : Int) (v14 v15 v16 v17 v18 v19 : Option V) (H : Hp), Tn K ns i a j u x r oc D O b l e H →
  (∀ σ' H', LSt K ns (i + 1) a j r σ' H' → N.nx σ' H') → U N (slots a j u x r oc D b l e kk de v14 v15 v16 v17 v18 v19) H
section
variable {P : Program} {w : World} {K : PySem.W.Frag} {mg : Str → Option Value} {base : Heap}
variable {cdv : Value} {A : Around} {out : List Env} {s : Shared} {H0 : Hp}
theorem br_lay (hP : PrgOk P) (T : Txt K mg w) (hr : Room 10 (A.deeper (envOfC "law" (defScope s_law) s.heap.objs.size (He.ga K "law") cdv))) : BrOk (cxOf CX0 P w K mg base ["_law_script", "_law_journal", "_law_due", "_law_other", "_law_k", "_law_box_here", "_law_deed", "_law_page", "_law_sign", "_law_begun_here", "_law_laid", "_law_kept", "_law_elder", "_law_octets_here", "_law_press_here", "_law_history_here", "_law_handed", "_law_left", "_law_later", "_law_letter"] "law" (defScope s_law) (He.ga K "law") cdv A out s H0 E0).nox K (ifThen lawIf) := by
  obtain ⟨fdy, Fy, by2, ky⟩ := ok_Journal_lay (P := P) (base := base) T
  refine ⟨_, (pss_cons (ps_set (i := 14) sc_law.nd rfl (.inl rfl) (pe_d (ok__law_press T) (hr.mono (by decide)) (by rfl) T.g__law_press pass0 (pa_cons (pv 5) pa_nil))) (pss_cons (ps_expr (pe_meth (pv 1) T.c_Journal T.m_Journal_lay Fy (hr.mono (by decide)) by2 .nil pass0 (pa_cons (pe_ifExp (pt_cmpR op_eq (pv 6) pe_int (nomark _)) (pe_callTy (call_listK (K := K) rfl) (by rfl) T.b_list (by decide +kernel) (pa_cons (pv 14) pa_nil)) (pv 14)) pa_nil))) (pss_one (ps_set (i := 2) sc_law.nd rfl (.inl rfl) (pe_lst (pa_cons (pv 7) (pa_cons (pv 8) (pa_cons (pv 9) (pa_cons (pe_op op_catA (pv 10) (pe_tup (pa_cons (pv 14) pa_nil))) (pa_cons (pv 11) (pa_cons (pv 12) pa_nil))))))))))), ?_⟩
  intro N ns i a j u x r oc D O b l e kk de v14 v15 v16 v17 v18 v19 H tn post
  have hpg := tn.ok.pg
  have ol := tn.ok.oct_le
  have pz := tn.ok.pz
  have hi := tn.hi
  have kz := tn.ok.kz
  have bz := tn.ok.bz
  refine ⟨_, rfl, r, rfl, tn.B, fun pr t H1 hp b1 B1 ht => ?_⟩
  have t1 := tn.butR b1 B1
  obtain ⟨dx, pg, jb, jl, c, oo, hj, _⟩ := id t1.hJ
  refine ⟨_, rfl, j, dx, _, rfl, hj, rfl, _, rfl, rfl, _, rfl, ?_⟩
  refine if_press rfl ht fun kd pa H2 s2 hpa => ?_
  have t2 := t1.same s2
  have hj2 := s2 _ _ hj
  refine ⟨kd, j, pa, D, O, pr, rfl, t2.hJ, hpg, by omega, by omega, hpa, hp, fun H3 b3 hJ3 => ?_⟩
  have ht3 := sqT_but noSq_ins hj2 b3 (sqT_same s2 ht)
  have B3 : BoxAt H3 r := t2.B.but b3 (box_ne t2.B hj2 fun _ z => by cases z)
  obtain ⟨_, _, er3, _⟩ := id B3
  refine ⟨_, rfl, _, rfl, _, rfl, _, rfl, _, rfl, szl (lk rfl), fun w hw => ?_⟩
  have s4 := same_upd (o := .tup [.ref t]) hw
  refine cat_prs (dp_same s4 (dp_but noSq_ins hj2 b3 t2.hl)) (SqT.of upd_same) (sqT_same s4 ht3) (by omega) fun l' H5 s5 hl5 => ?_
  have s35 := s4.trans s5
  refine ⟨_, rfl, _, rfl, szl (lk rfl), fun u' hu' => ?_⟩
  have s6 := same_upd (o := .lst [.int (D.pg : Nat), .int D.s, b, l', .int (D.kept : Nat), e]) hu'
  have s36 := s35.trans s6
  have nu' : u' ≠ r := fun z => by
    rw [z, s35 _ _ er3] at hu'
    cases hu'
  refine post _ _ ⟨u', x, laid D pr, O, _, _, _, _, _, _, _, _, _, _, _, _, _, _, _, rfl, ⟨sqL_same s36 (sqL_but noSq_ins hj2 b3 t2.hs), tn.sf, hJ3.same s36, ⟨b, l', e, SqL.of upd_same, dp_same s36 (dp_but noSq_ins hj2 b3 t2.hb), dp_same s6 hl5, dp_same s36 (dp_but noSq_ins hj2 b3 t2.he)⟩, sqT_same s36 (sqT_but noSq_ins hj2 b3 t2.hx), tn.ok.laid hp, B3.same s36, nu', _, upd_same⟩⟩
theorem br_keep (hP : PrgOk P) (T : Txt K mg w) (hr : Room 10 (A.deeper (envOfC "law" (defScope s_law) s.heap.objs.size (He.ga K "law") cdv))) : BrOk (cxOf CX0 P w K mg base ["_law_script", "_law_journal", "_law_due", "_law_other", "_law_k", "_law_box_here", "_law_deed", "_law_page", "_law_sign", "_law_begun_here", "_law_laid", "_law_kept", "_law_elder", "_law_octets_here", "_law_press_here", "_law_history_here", "_law_handed", "_law_left", "_law_later", "_law_letter"] "law" (defScope s_law) (He.ga K "law") cdv A out s H0 E0).nox K (ifThen lawIf2) := by
  obtain ⟨fdk, Fk, bk, kk2⟩ := ok_Journal_keep (P := P) (base := base) T
  refine ⟨_, (pss_cons (ps_expr (pe_meth0 (pv 1) T.c_Journal T.m_Journal_keep Fk (hr.mono (by decide)) bk .nil pass0)) (pss_one (ps_set (i := 2) sc_law.nd rfl (.inl rfl) (pe_lst (pa_cons (pv 7) (pa_cons (pv 8) (pa_cons (pv 9) (pa_cons (pv 10) (pa_cons (pe_callB call_len (by rfl) T.b_len (by decide +kernel) (pa_cons (pv 13) pa_nil)) (pa_cons (pv 12) pa_nil)))))))))), ?_⟩
  intro N ns i a j u x r oc D O b l e kk de v14 v15 v16 v17 v18 v19 H tn post
  have hpg := tn.ok.pg
  have ol := tn.ok.oct_le
  have pz := tn.ok.pz
  have hi := tn.hi
  have kz := tn.ok.kz
  have bz := tn.ok.bz
  obtain ⟨dx, pg, jb, jl, c, oo, hj, hpr, hc, ho, hjb, hjl⟩ := id tn.hJ
  have el : (D.oct.map V.int).length = D.oct.length := List.length_map ..
  refine ⟨_, rfl, j, dx, _, rfl, hj, rfl, j, dx, pg, c, oo, D.pg, D.s, jb, jl, _, _, rfl, hj, hpr, hpg, hc, fun H2 b2 hj2 => ?_⟩
  rw [el] at hj2
  have B2 : BoxAt H2 r := tn.B.but b2 (box_ne tn.B hj fun _ z => by cases z)
  obtain ⟨_, _, er2, _⟩ := id B2
  refine ⟨_, rfl, _, rfl, _, rfl, _, rfl, _, rfl, .ref oc, _, rfl, len_sq (k := .t) (sqT_but noSq_ins hj b2 tn.oc), _, rfl, szl (lk rfl), fun u' hu' => ?_⟩
  have s6 := same_upd (o := .lst [.int (D.pg : Nat), .int D.s, b, l, .int ((D.oct.map V.int).length : Nat), e]) hu'
  have nu' : u' ≠ r := fun z => by
    rw [z, er2] at hu'
    cases hu'
  have hJ2 : JAt K H2 j (keptAll D) O := ⟨dx, pg, jb, jl, c, oo, hj2, sqT_but noSq_ins hj b2 hpr, sqT_but noSq_ins hj b2 hc, sqT_but noSq_ins hj b2 ho, dp_but noSq_ins hj b2 hjb, dp_but noSq_ins hj b2 hjl⟩
  have hd : DueAt K (upd H2 u' (.lst [.int (D.pg : Nat), .int D.s, b, l, .int ((D.oct.map V.int).length : Nat), e])) u' (keptAll D) := by
    refine ⟨b, l, e, ?_, dp_same s6 (dp_but noSq_ins hj b2 tn.hb), dp_same s6 (dp_but noSq_ins hj b2 tn.hl), dp_same s6 (dp_but noSq_ins hj b2 tn.he)⟩
    show SqL K _ u' [.int (D.pg : Nat), .int D.s, b, l, .int ((D.oct.length : Nat) : Int), e]
    rw [← el]
    exact SqL.of upd_same
  refine post _ _ ⟨u', x, keptAll D, O, _, _, _, _, _, _, _, _, _, _, _, _, _, _, _, rfl, ⟨sqL_same s6 (sqL_but noSq_ins hj b2 tn.hs), tn.sf, hJ2.same s6, hd, sqT_same s6 (sqT_but noSq_ins hj b2 tn.hx), (tn.ok.mono (Nat.le_succ i)).keep, B2.same s6, nu', _, upd_same⟩⟩
theorem br_cut (hP : PrgOk P) (T : Txt K mg w) (hr : Room 10 (A.deeper (envOfC "law" (defScope s_law) s.heap.objs.size (He.ga K "law") cdv))) : BrOk (cxOf CX0 P w K mg base ["_law_script", "_law_journal", "_law_due", "_law_other", "_law_k", "_law_box_here", "_law_deed", "_law_page", "_law_sign", "_law_begun_here", "_law_laid", "_law_kept", "_law_elder", "_law_octets_here", "_law_press_here", "_law_history_here", "_law_handed", "_law_left", "_law_later", "_law_letter"] "law" (defScope s_law) (He.ga K "law") cdv A out s H0 E0).nox K (ifElse lawIf3) := by
  obtain ⟨fdc, Fc, bc, kc⟩ := ok_Journal_cut (P := P) (base := base) hP T
  refine ⟨_, (pss_cons (ps_set (i := 17) sc_law.nd rfl (.inl rfl) (pe_d (ok__law_take T) (hr.mono (by decide)) (by rfl) T.g__law_take pass0 (pa_cons (pv 5) (pa_cons (pe_op op_add (pe_op op_subE (pe_callB call_len (by rfl) T.b_len (by decide +kernel) (pa_cons (pv 13) pa_nil)) (pv 11)) pe_int) pa_nil)))) (pss_cons (ps_expr (pe_meth (pv 1) T.c_Journal T.m_Journal_cut Fc (hr.mono (by decide)) bc .nil pass0 (pa_cons (pv 17) pa_nil))) (pss_cons (ps_set (i := 18) sc_law.nd rfl (.inl rfl) (pe_d (ok__law_behind T) (hr.mono (by decide)) (by rfl) T.g__law_behind pass0 (pa_cons (pv 2) (pa_cons (pv 17) pa_nil)))) (pss_cons (ps_if (pt_cmpR op_ne (pe_ix ix_seq (pv 18) pe_int (fun _ _ => rfl)) (pv 7) (nomark _)) (pss_one (ps_set (i := 3) sc_law.nd rfl (.inl rfl) (pe_slice sl_tupA (pv 13) po_none (po_some (pv 17))))) pss_nil) (pss_one (ps_set (i := 2) sc_law.nd rfl (.inl rfl) (pv 18))))))), ?_⟩
  intro N ns i a j u x r oc D O b l e kk de v14 v15 v16 v17 v18 v19 H tn post
  have hpg := tn.ok.pg
  have ol := tn.ok.oct_le
  have pz := tn.ok.pz
  have hi := tn.hi
  have kz := tn.ok.kz
  have bz := tn.ok.bz
  have el : (D.oct.map V.int).length = D.oct.length := List.length_map ..
  have elo : (((D.oct.map V.int).length : Nat) : Int) - ((D.kept : Nat) : Int) = ((D.oct.length - D.kept : Nat) : Int) := by rw [el]; omega
  refine ⟨_, rfl, _, rfl, .ref oc, _, rfl, len_sq (k := .t) tn.oc, _, rfl, _, _, _, rfl, rfl, elo, _, _, rfl, rfl, r, _, rfl, tn.B, by omega, by omega, fun v H1 v0 v1 b1 B1 => ?_⟩
  obtain ⟨left, rfl⟩ := Int.eq_ofNat_of_zero_le v0
  have hle : D.kept + left ≤ D.oct.length := by omega
  have t1 := tn.butR b1 B1
  obtain ⟨dx, pg, jb, jl, c, oo, hj, _⟩ := id t1.hJ
  refine ⟨_, rfl, j, dx, _, rfl, hj, rfl, _, rfl, j, D, O, left, i, rfl, t1.hJ, tn.ok, by omega, hle, fun H2 b2 hJ2 => ?_⟩
  have B2 : BoxAt H2 r := t1.B.but b2 (box_ne t1.B hj fun _ z => by cases z)
  obtain ⟨_, _, er2, _⟩ := id B2
  have hu2 := t1.hu.butN noSq_ins hj b2
  have hx2 := sqT_but noSq_ins hj b2 t1.hx
  have oc2 := sqT_but noSq_ins hj b2 t1.oc
  have hs2 := sqL_but noSq_ins hj b2 t1.hs
  refine ⟨_, rfl, _, rfl, u, D, O, left, i, rfl, hu2, tn.ok, by omega, hle, fun la H3 s3 hn3 hla => ?_⟩
  have sB := still_eq (left := left) tn.ok
  have okB := (tn.ok.cut hle).mono (Nat.le_succ i)
  have nla : la ≠ r := fun z => by
    have h := hn3.1
    rw [z, er2] at h
    cases h
  generalize behind D left = Bd at *
  generalize othBehind D O left = Ob at *
  obtain ⟨lb, ll, le, g1, g2, g3, g4⟩ := id hla
  refine ⟨_, rfl, ix_l g1 (v := .int (Bd.pg : Nat)) rfl ⟨_, rfl, rfl, _, rfl, ?_⟩⟩
  by_cases cc : Bd.pg = D.pg
  · rw [vint_eq (show ((Bd.pg : Nat) : Int) = ((D.pg : Nat) : Int) by omega)]
    refine iteF ⟨_, rfl, post _ _ ⟨la, x, Bd, Ob, _, _, _, _, _, _, _, _, _, _, _, _, _, _, _, rfl, ⟨sqL_same s3 hs2, tn.sf, hJ2.same s3, hla, ?_, okB, B2.same s3, nla, hn3.2⟩⟩⟩
    rw [sB.1 cc]
    exact sqT_same s3 hx2
  · rw [vint_ne (show ((Bd.pg : Nat) : Int) ≠ ((D.pg : Nat) : Int) by omega)]
    obtain ⟨e1, e2⟩ := sB.2 cc
    refine iteT ⟨_, rfl, _, rfl, _, rfl, sl_to (sqT_same s3 oc2) (by rw [el]; omega) fun y H4 s4 hy => ?_⟩
    have s34 := s3.trans s4
    refine ⟨_, rfl, post _ _ ⟨la, y, Bd, Ob, _, _, _, _, _, _, _, _, _, _, _, _, _, _, _, rfl, ⟨sqL_same s34 hs2, tn.sf, hJ2.same s34, hla.same s4, ?_, okB, B2.same s34, nla, hn3.2.imp fun _ z => s4 _ _ z⟩⟩⟩
    rw [e1, e2, Nat.zero_add, List.map_take]
    exact hy
end
end K62

set_option Elab.async false
set_option linter.all false
set_option maxRecDepth 100000
set_option maxHeartbeats 4000000
/-! K62N: law's branch that begins a page. (printed by gen_law.py) -/
namespace K62
open PySem PySem.Spec PyProof.Rows L2
def dLl (q : Int × Int) : PyData := .list [.int q.1, .int q.2]
def dHl (b : Hist) : PyData := .list (b.map dLl)
def LlPv (K : PySem.W.Frag) (H1 : Hp) (D : Addr) (b : Hist) (i : Nat) (H' : Hp) : Prop := But D H1 H' ∧ ∃ acc, H' D = some (.lst acc) ∧ acc.length = i ∧ ∀ (m : Nat) (q : Int × Int), m < i → b[m]? = some q → ∃ c, acc[m]? = some (.ref c) ∧ c ≠ D ∧ H' c = some (.lst [.int q.1, .int q.2])
theorem dpAll_of {K : PySem.W.Frag} {H : Hp} : ∀ {vs : List V} {ds : List PyData}, vs.length = ds.length → (∀ (m : Nat) (d : PyData), ds[m]? = some d → ∃ v, vs[m]? = some v ∧ Dp K H v d) → DpAll K H vs ds
  | [], [], _, _ => .nil
  | [], _ :: _, h, _ => by simp at h
  | _ :: _, [], h, _ => by simp at h
  | v :: vs, d :: ds, h, f => by
    refine .cons ?_ (dpAll_of (by simpa using h) fun m e he => f (m + 1) e he)
    obtain ⟨w, e1, e2⟩ := f 0 d rfl
    rw [Option.some.inj e1]
    exact e2
section
variable {K : PySem.W.Frag} {H1 H3 H' : Hp} {D t : Addr} {b : Hist} {i : Nat} {q : Int × Int}
theorem LlPv.start (hD : H1 D = none) : LlPv K H1 D b 0 (upd H1 D (.lst [])) := ⟨But.upd, [], upd_same, rfl, fun m q h => absurd h (Nat.not_lt_zero _)⟩
theorem LlPv.step (h : LlPv K H1 D b i H3) (hz : b.length ≤ 700) (hq : b[i]? = some q) (ht : H3 t = none) :
    ∃ acc, upd H3 t (.lst [.int q.1, .int q.2]) D = some (.lst acc) ∧ acc.length < sizeLine ∧ LlPv K H1 D b (i + 1) (upd (upd H3 t (.lst [.int q.1, .int q.2])) D (.lst (acc ++ [.ref t]))) := by
  obtain ⟨b1, acc, ha, hl, hc⟩ := h
  have s := same_upd (o := .lst [.int q.1, .int q.2]) ht
  have nt : t ≠ D := fun z => by rw [z, ha] at ht; cases ht
  have hi := (List.getElem?_eq_some_iff.mp hq).1
  refine ⟨acc, s _ _ ha, by rw [sizeLine_eq]; omega, (b1.trans (But.of s)).trans But.upd, _, upd_same, by rw [List.length_append, hl]; rfl, fun m q' hm hq' => ?_⟩
  by_cases c : m < i
  · obtain ⟨c, e1, e2, e3⟩ := hc m q' c hq'
    exact ⟨c, by rw [List.getElem?_append_left (by omega)]; exact e1, e2, (upd_ne e2).trans (s _ _ e3)⟩
  · have e : m = acc.length := by omega
    subst e
    rw [hl] at hq'
    rw [hq] at hq'
    obtain rfl := Option.some.inj hq'
    exact ⟨t, by simp, nt, (upd_ne nt).trans upd_same⟩
theorem LlPv.all (h : LlPv K H1 D b b.length H') : Dp K H' (.ref D) (dHl b) ∧ HistAt K H' .l D b := by
  obtain ⟨b1, acc, ha, hl, hc⟩ := h
  refine ⟨.lst (SqL.of ha) (dpAll_of (by rw [hl, List.length_map]) fun m d hd => ?_), ⟨acc, SqL.of ha, hl, fun m q hq => ?_⟩⟩
  · rw [List.getElem?_map] at hd
    cases hq : b[m]? with
    | none => rw [hq] at hd; cases hd
    | some q =>
      rw [hq] at hd
      obtain rfl := Option.some.inj hd
      obtain ⟨c, e1, _, e3⟩ := hc m q (List.getElem?_eq_some_iff.mp hq).1 hq
      exact ⟨_, e1, .lst (SqL.of e3) (.cons (.int _) (.cons (.int _) .nil))⟩
  · obtain ⟨c, e1, _, e3⟩ := hc m q (List.getElem?_eq_some_iff.mp hq).1 hq
    exact ⟨c, .l, e1, SqL.of e3⟩
end
theorem nice_hl {b : Hist} (h : OkH b) : Nice 2 (b.length * 83) (dHl b) := by
  have z : NiceAll 1 ((b.map dLl).length * 83) (b.map dLl) := niceAll_of (w := 82) fun d hd => by
    obtain ⟨q, hq, e⟩ := List.mem_map.mp hd
    rw [← e]
    obtain ⟨h1, h2⟩ := h q hq
    exact (niceAll_cons (nice_small (small_of h1.1 h1.2 (by decide))) (niceAll_cons (nice_small (small_of h2.1 h2.2 (by decide))) niceAll_nil)).list
  rw [List.length_map] at z
  exact z.list
theorem small_begun {s : Int} {b : Hist} (s0 : 0 ≤ s) (s3 : s < 3) (hb : OkH b) (hz : b.length ≤ 700) : ∀ i ∈ encB s b, small i := small_octet (encB_octet s0 s3 hb (by omega))

section
variable {P : Program} {w : World} {K : PySem.W.Frag} {mg : Str → Option Value} {base : Heap}
variable {cdv : Value} {A : Around} {out : List Env} {s : Shared} {H0 : Hp}
theorem br_begin (hP : PrgOk P) (T : Txt K mg w) (hr : Room 10 (A.deeper (envOfC "law" (defScope s_law) s.heap.objs.size (He.ga K "law") cdv))) : BrOk (cxOf CX0 P w K mg base ["_law_script", "_law_journal", "_law_due", "_law_other", "_law_k", "_law_box_here", "_law_deed", "_law_page", "_law_sign", "_law_begun_here", "_law_laid", "_law_kept", "_law_elder", "_law_octets_here", "_law_press_here", "_law_history_here", "_law_handed", "_law_left", "_law_later", "_law_letter"] "law" (defScope s_law) (He.ga K "law") cdv A out s H0 E0).nox K (ifThen lawIf3) := by
  obtain ⟨fdb, Fb, bb, kb⟩ := ok_Journal_begin (P := P) (base := base) hP T
  refine ⟨_, (pss_cons (ps_set (i := 15) sc_law.nd rfl (.inl rfl) (pe_d (ok__law_history T) (hr.mono (by decide)) (by rfl) T.g__law_history pass0 (pa_cons (pv 5) pa_nil))) (pss_cons (ps_if (pt_cmpR (op_neD hr.units) (pe_d (ok_begun_octets T) (hr.mono (by decide)) (by rfl) T.g_begun_octets pass0 (pa_cons (pv 8) (pa_cons (pv 15) pa_nil))) (pe_d (ok__law_begun T) (hr.mono (by decide)) (by rfl) T.g__law_begun pass0 (pa_cons (pv 8) (pa_cons (pv 15) pa_nil))) (nomark _)) (pss_one ps_never) pss_nil) (pss_cons (ps_setLc (i := 16) (own := [("_law_letter", 19)]) (g := gName 19) (tt := tYes) rfl sc_law.nd rfl rfl (sw_true rfl rfl rfl (by decide +kernel)) (pi_seq (pv 15)) (blkOk_by (N := ["_law_script", "_law_journal", "_law_due", "_law_other", "_law_k", "_law_box_here", "_law_deed", "_law_page", "_law_sign", "_law_begun_here", "_law_laid", "_law_kept", "_law_elder", "_law_octets_here", "_law_press_here", "_law_history_here", "_law_handed", "_law_left", "_law_later", "_law_letter"]) (sc := defScope s_law) (own := [("_law_letter", 19)]) (by decide +kernel)) (fun _ _ _ _ _ => pg_name (i := 19) sc_law.nd rfl (.inl rfl)) (fun _ _ _ _ _ => pts_nil) (fun _ _ _ _ _ => (pe_callTy (call_listK (K := K) rfl) (by rfl) T.b_list (by decide +kernel) (pa_cons (pv 19) pa_nil)))) (pss_cons (ps_expr (pe_meth (pv 1) T.c_Journal T.m_Journal_begin Fb (hr.mono (by decide)) bb .nil pass0 (pa_cons (pv 16) pa_nil))) (pss_cons (ps_if (pt_cmpR (op_neD hr.units) (pv 16) (pe_lc (own := [("_law_letter", 19)]) (g := gName 19) (tt := tYes) rfl sc_law.nd (pi_seq (pv 15)) (blkOk_by (N := ["_law_script", "_law_journal", "_law_due", "_law_other", "_law_k", "_law_box_here", "_law_deed", "_law_page", "_law_sign", "_law_begun_here", "_law_laid", "_law_kept", "_law_elder", "_law_octets_here", "_law_press_here", "_law_history_here", "_law_handed", "_law_left", "_law_later", "_law_letter"]) (sc := defScope s_law) (own := [("_law_letter", 19)]) (by decide +kernel)) (fun _ _ _ _ _ => pg_name (i := 19) sc_law.nd rfl (.inl rfl)) (fun _ _ _ _ _ => pts_nil) (fun _ _ _ _ _ => (pe_callTy (call_listK (K := K) rfl) (by rfl) T.b_list (by decide +kernel) (pa_cons (pv 19) pa_nil)))) (nomark _)) (pss_one ps_never) pss_nil) (pss_one (ps_par (i := 2) (j := 3) rfl sc_law.nd rfl rfl (by decide) rfl rfl (pa_cons (pe_lst (pa_cons (pe_op op_subE pe_int (pv 7)) (pa_cons (pe_op op_mod (pe_callTy call_int1 (by rfl) T.b_int (by decide +kernel) (pa_cons (pe_op op_add (pv 8) pe_int) pa_nil)) pe_int) (pa_cons (pv 15) (pa_cons (pe_tup pa_nil) (pa_cons pe_int (pa_cons (pe_tup (pa_cons (pv 9) (pa_cons (pv 10) pa_nil))) pa_nil))))))) (pa_cons (pv 13) pa_nil)) (by rfl)))))))), ?_⟩
  intro N ns i a j u x r oc D O b l e kk de v14 v15 v16 v17 v18 v19 H tn post
  have hpg := tn.ok.pg
  have ol := tn.ok.oct_le
  have pz := tn.ok.pz
  have hi := tn.hi
  have kz := tn.ok.kz
  have bz := tn.ok.bz
  refine ⟨_, rfl, r, rfl, tn.B, fun hb th H1 hokb hzb b1 B1 hd1 => ?_⟩
  have t1 := tn.butR b1 B1
  have s0 := tn.ok.s0
  have s3' := tn.ok.s3
  obtain ⟨th', eth, hat1⟩ := HistAt.of hd1
  cases eth
  have nb := nice_dI (small_begun s0 s3' hokb hzb)
  refine ⟨_, rfl, _, rfl, .t, th, D.s, hb, rfl, hat1, hokb, hzb, ⟨s0, s3'⟩, fun y1 H2 s2 hy1 => ⟨_, rfl, _, rfl, D.s, .ref th, hb, rfl, dp_same s2 hd1, hzb, fun y2 H3 s3 hy2 => ⟨dI (encB D.s hb), dI (encB D.s hb), dp_dI (sqT_same s3 hy1), dp_dI hy2, nb.shaped (by decide), nb.shaped (by decide), _, rfl, ?_⟩⟩⟩
  rw [nb.refl]
  refine iteF ?_
  have s13 := s2.trans s3
  have t3 := t1.same s13
  have hd3 := dp_same s13 hd1
  obtain ⟨xs5, hs5, hl5, hat5⟩ := (hat1.same s13).ex
  refine ⟨_, rfl, .t, th, xs5, rfl, hs5, fun J wk Da hD => lc_it wk (LlPv K _ Da hb) (LlPv.start hD) (fun i' H' _ h => hs5.same (h.1.new hD)) ?_ ?_⟩
  · rintro i' v H8 H9 hi' pv ⟨rfl, hv⟩
    have hi2 : i' < hb.length := by rw [← hl5]; exact hi'
    obtain ⟨q1, hq1⟩ : ∃ q1, hb[i']? = some q1 := ⟨_, List.getElem?_eq_getElem hi2⟩
    obtain ⟨c1, kc1, e1, e2⟩ := hat5 i' q1 hq1
    rw [hv] at e1
    obtain rfl := Option.some.inj e1
    have e3 := e2.same (pv.1.new hD)
    refine ⟨rfl, _, rfl, list_of e3 fun tt htt => ?_⟩
    exact pv.step hzb hq1 htt
  rintro H5 pv5
  rw [hl5] at pv5
  obtain ⟨dh5, ha5⟩ := pv5.all
  have s35 := pv5.1.new hD
  have t5 := t3.same s35
  have hd5 := dp_same s35 hd3
  obtain ⟨dx, pg, jb, jl, c, oo, hj, _⟩ := id t5.hJ
  refine ⟨_, rfl, j, dx, _, rfl, hj, rfl, _, rfl, .l, j, Da, D, O, hb, rfl, t5.hJ, hpg, ha5, hokb, hzb, fun H6 b6 hJ6 => ?_⟩
  have B6 : BoxAt H6 r := t5.B.but b6 (box_ne t5.B hj fun _ z => by cases z)
  have hd6 := dp_but noSq_ins hj b6 hd5
  have dh6 := dp_but noSq_ins hj b6 dh5
  have hb6 := dp_but noSq_ins hj b6 t5.hb
  have hl6 := dp_but noSq_ins hj b6 t5.hl
  have oc6 := sqT_but noSq_ins hj b6 t5.oc
  have hs6 := sqL_but noSq_ins hj b6 t5.hs
  have nh := nice_hl hokb
  obtain ⟨th6, eth6, hat6⟩ := HistAt.of hd6
  cases eth6
  clear hs5 hl5 hat5 wk
  obtain ⟨xs5, hs5, hl5, hat5⟩ := hat6.ex
  clear hD pv5 dh5 ha5
  rename_i Dh
  refine ⟨_, rfl, _, rfl, .t, th, xs5, rfl, hs5, fun J wk Da hD => lc_it wk (LlPv K _ Da hb) (LlPv.start hD) (fun i' H' _ h => hs5.same (h.1.new hD)) ?_ ?_⟩
  · rintro i' v H8 H9 hi' pv ⟨rfl, hv⟩
    have hi2 : i' < hb.length := by rw [← hl5]; exact hi'
    obtain ⟨q1, hq1⟩ : ∃ q1, hb[i']? = some q1 := ⟨_, List.getElem?_eq_getElem hi2⟩
    obtain ⟨c1, kc1, e1, e2⟩ := hat5 i' q1 hq1
    rw [hv] at e1
    obtain rfl := Option.some.inj e1
    have e3 := e2.same (pv.1.new hD)
    refine ⟨rfl, _, rfl, list_of e3 fun tt htt => ?_⟩
    exact pv.step hzb hq1 htt
  rintro H7 pv7
  rw [hl5] at pv7
  obtain ⟨dh7, ha7⟩ := pv7.all
  have s67 := pv7.1.new hD
  refine ⟨dHl hb, dHl hb, dp_same s67 dh6, dh7, nh.shaped (by decide), nh.shaped (by decide), _, rfl, ?_⟩
  rw [nh.refl]
  refine iteF ?_
  have ep : (1 : Int) - ((D.pg : Nat) : Int) = ((1 - D.pg : Nat) : Int) := by omega
  obtain ⟨_, _, er7, _⟩ := B6.same s67
  refine ⟨_, rfl, _, _, _, rfl, rfl, ep, _, rfl, _, _, rfl, rfl, .inl ⟨_, rfl, _, _, rfl, rfl, (show (0 : Int) < 3 by decide), _, rfl, szl (lk rfl), fun e0 he0 => ⟨_, rfl, _, rfl, szl (lk rfl), fun tp htp => ⟨szl (lk rfl), fun u' hu' => ⟨_, rfl, _, _, rfl, ?_⟩⟩⟩⟩⟩
  have z1 := same_upd (o := .tup []) he0
  have z2 := same_upd (o := .tup [b, l]) htp
  have z3 := same_upd (o := .lst [.int ((1 - D.pg : Nat) : Int), .int ((D.s + 1) % 3), .ref th, .ref e0, .int 0, .ref tp]) hu'
  have nu' : u' ≠ r := fun z => by
    rw [z, z2 _ _ (z1 _ _ er7)] at hu'
    cases hu'
  have z4 := ((s67.trans z1).trans z2).trans z3
  refine post _ _ ⟨u', oc, begun D hb, othBegun D, _, _, _, _, _, _, _, _, _, _, _, _, _, _, _, rfl, ⟨sqL_same z4 hs6, tn.sf, hJ6.same z4, ⟨.ref th, .ref e0, .ref tp, SqL.of upd_same, dp_same z4 hd6, .tup (sqT_same (z2.trans z3) (SqT.of upd_same)) .nil, .tup (sqT_same z3 (SqT.of upd_same)) (.cons (dp_same z4 hb6) (.cons (dp_same z4 hl6) .nil))⟩, ?_, (tn.ok.mono (Nat.le_succ i)).begun hokb hzb, B6.same z4, nu', _, upd_same⟩⟩
  rw [othBegun_l]
  exact sqT_same z4 oc6
end
end K62

set_option Elab.async false
set_option linter.all false
set_option maxRecDepth 100000
set_option maxHeartbeats 4000000
/-! K62O: law. (printed by gen_main.py) -/
namespace K62
open PySem PySem.Spec PyProof.Rows L2
structure Tl (K : PySem.W.Frag) (ns : List Int) (i : Nat) (a j u x : Addr) (D : Due) (O : Oth) (H : Hp) : Prop where
  hs : SqL K H a (ns.map V.int)
  hJ : JAt K H j D O
  hu : DueAt K H u D
  hx : SqT K H x (O.l.map V.int)
  ok : Ok i D O
  tk : ∃ ys, H u = some (.lst ys)
def LPv (K : PySem.W.Frag) (ns : List Int) (i : Nat) (a j : Addr) (σ : L2.St) (H : Hp) : Prop := ∃ (u x : Addr) (D : Due) (O : Oth) (v4 v5 v6 v7 v8 v9 v10 v11 v12 v13 v14 v15 v16 v17 v18 v19 : Option V),
  σ = [some (.ref a), some (.ref j), some (.ref u), some (.ref x), v4, v5, v6, v7, v8, v9, v10, v11, v12, v13, v14, v15, v16, v17, v18, v19] ∧ Tl K ns i a j u x D O H
def spLaw (K : PySem.W.Frag) : Sp := fun vs H Q _ => ∃ (a : Addr) (ns : List Int), vs = [.ref a] ∧ SqL K H a (ns.map V.int) ∧ ns.length ≤ 16777216 ∧ ∀ H', Q (.bl true) H'
section
variable {P : Program} {w : World} {K : PySem.W.Frag} {mg : Str → Option Value} {base : Heap}

theorem law_bind {fd : FuncData} (F : FnP K "law" "law" s_law (He.ga K "law") fd) : ∀ (s : Shared) (u : Value), BindsTo s fd ⟨[u], []⟩ [("_law_script", u)] :=
  fun s u => FunD.bindsA (ps := ["_law_script"]) F (fun _ _ _ _ _ _ us hl => match us, hl with | [_], _ => rfl) s [u] rfl
theorem ok_law (hP : PrgOk P) (T : Txt K mg w) {fd : FuncData} (F : FnP K "law" "law" s_law (He.ga K "law") fd) : FnG P w K mg base 11 (He.ga K "law") fd ["_law_script"] (spLaw K) := by
  obtain ⟨fdi, Fi, bi, ki⟩ := ok_Journal_init (P := P) (base := base) hP T
  refine FunD.okG F sc_law (fun vs H Q E h => ?_) (fun cdv A out s H vs Q hgu hr h => ?_)
  · obtain ⟨a, ns, rfl, _⟩ := h
    rfl
  · obtain ⟨a, ns, rfl, hs, hz, q⟩ := h
    obtain ⟨U1, p1, r1⟩ := br_lay (P := P) (w := w) (K := K) (mg := mg) (base := base) (cdv := cdv) (A := A) (out := out) (s := s) (H0 := H) hP T hr
    obtain ⟨U2, p2, r2⟩ := br_keep (P := P) (w := w) (K := K) (mg := mg) (base := base) (cdv := cdv) (A := A) (out := out) (s := s) (H0 := H) hP T hr
    obtain ⟨U3, p3, r3⟩ := br_begin (P := P) (w := w) (K := K) (mg := mg) (base := base) (cdv := cdv) (A := A) (out := out) (s := s) (H0 := H) hP T hr
    obtain ⟨U4, p4, r4⟩ := br_cut (P := P) (w := w) (K := K) (mg := mg) (base := base) (cdv := cdv) (A := A) (out := out) (s := s) (H0 := H) hP T hr
    obtain ⟨U5, p5, r5⟩ : ∃ U : TS, PSs (cxOf CX0 P w K mg base ["_law_script", "_law_journal", "_law_due", "_law_other", "_law_k", "_law_box_here", "_law_deed", "_law_page", "_law_sign", "_law_begun_here", "_law_laid", "_law_kept", "_law_elder", "_law_octets_here", "_law_press_here", "_law_history_here", "_law_handed", "_law_left", "_law_later", "_law_letter"] "law" (defScope s_law) (He.ga K "law") cdv A out s H E0).nox (lawBody.drop 5) U ∧ ∀ (N : Ends) (i : Nat) (j r : Addr) (σ : L2.St) (H' : Hp), LSt K ns (i + 1) a j r σ H' → i < 12 → (∀ σ2 H2, LPv K ns (i + 1) a j σ2 H2 → N.nx σ2 H2) → U N σ H' := by
      refine ⟨_, (pss_one (ps_if (PW.pt (pw_or (pt_not (pt_val (pe_g (ok__law_is_so hP T) hgu (hr.mono (by decide)) (by rfl) T.g__law_is_so (pa_cons (pv 1) (pa_cons (pv 2) (pa_cons (pv 3) pa_nil)))))) (pw_or1 (pt_not (pt_val (pe_g (ok__law_opened hP T) hgu (hr.mono (by decide)) (by rfl) T.g__law_opened (pa_cons (pv 5) (pa_cons (pv 2) (pa_cons (pv 3) pa_nil))))))))) (pss_one ps_never) pss_nil)), ?_⟩
      rintro N i j r σ H1 ⟨u, x, D, O, v4, v6, v7, v8, v9, v10, v11, v12, v13, v14, v15, v16, v17, v18, v19, rfl, t⟩ hi post
      refine ⟨_, rfl, _, rfl, _, rfl, j, u, x, D, O, i + 1, rfl, t.hJ, t.hu, t.hx, t.ok, by omega, fun H5 s5 => ⟨true, rfl, iteF ?_⟩⟩
      have B5 := t.B.same s5
      refine ⟨_, rfl, _, rfl, _, rfl, r, u, x, D, O, i + 1, rfl, B5, t.nu, t.hu.same s5, sqT_same s5 t.hx, t.ok, by omega, fun H6 b6 B6 => ⟨true, rfl, iteF ?_⟩⟩
      obtain ⟨_, _, er, _⟩ := B5
      exact post _ _ ⟨u, x, D, O, _, _, _, _, _, _, _, _, _, _, _, _, _, _, _, _, rfl, ⟨keepR (sqL_same s5 t.hs) t.sf b6, (t.hJ.same s5).butL er b6, (t.hu.same s5).butL er b6 t.nu, sqT_butL er b6 (sqT_same s5 t.hx), t.ok, t.tk.imp fun _ z => b6 _ _ t.nu (s5 _ _ z)⟩⟩
    refine ⟨_, PSs.nox
      (pss_cons (ps_par3 (i := 1) (j := 2) (l := 3) rfl sc_law.nd rfl rfl rfl (by decide) (by decide) (by decide) rfl rfl rfl (pa_cons (pe_make0 T.k_Journal Fi (hr.mono (by decide)) (by rfl) T.g_Journal bi .nil pass0) (pa_cons (pe_lst (pa_cons pe_int (pa_cons pe_int (pa_cons (pe_tup pa_nil) (pa_cons (pe_tup pa_nil) (pa_cons pe_int (pa_cons pe_non pa_nil))))))) (pa_cons (pe_tup pa_nil) pa_nil))) (by rfl)) (pss_cons (ps_if (pt_not (pt_val (pe_g (ok__law_is_so hP T) hgu (hr.mono (by decide)) (by rfl) T.g__law_is_so (pa_cons (pv 1) (pa_cons (pv 2) (pa_cons (pv 3) pa_nil)))))) (pss_one ps_never) pss_nil) (pss_cons (ps_for PassesOwn.never rfl (pi_range1 (by rfl) T.b_range (pa_cons pe_int pa_nil)) (pg_name (i := 4) sc_law.nd rfl (.inl rfl)) (pss_cons (ps_set (i := 5) sc_law.nd rfl (.inl rfl) (pe_d (ok__law_box T) (hr.mono (by decide)) (by rfl) T.g__law_box pass0 (pa_cons (pv 0) (pa_cons (pv 4) pa_nil)))) (pss_cons (ps_set (i := 6) sc_law.nd rfl (.inl rfl) (pe_d (ok__law_take T) (hr.mono (by decide)) (by rfl) T.g__law_take pass0 (pa_cons (pv 5) (pa_cons pe_int pa_nil)))) (pss_cons (ps_asg (pv 2) (pg_unl rfl (pgs_cons (pg_name (i := 7) sc_law.nd rfl (.inl rfl)) (pgs_cons (pg_name (i := 8) sc_law.nd rfl (.inl rfl)) (pgs_cons (pg_name (i := 9) sc_law.nd rfl (.inl rfl)) (pgs_cons (pg_name (i := 10) sc_law.nd rfl (.inl rfl)) (pgs_cons (pg_name (i := 11) sc_law.nd rfl (.inl rfl)) (pgs_cons (pg_name (i := 12) sc_law.nd rfl (.inl rfl)) pgs_nil)))))))) (pss_cons (ps_set (i := 13) sc_law.nd rfl (.inl rfl) (pe_op op_catA (pe_d (ok__law_begun T) (hr.mono (by decide)) (by rfl) T.g__law_begun pass0 (pa_cons (pv 8) (pa_cons (pv 9) pa_nil))) (pe_d (ok__law_octets T) (hr.mono (by decide)) (by rfl) T.g__law_octets pass0 (pa_cons (pv 10) pa_nil)))) (pss_cons (ps_if (pt_cmpR op_lt (pv 6) pe_int (nomark _)) p1 (pss_one (ps_if (pt_cmpR op_eq (pv 6) pe_int (nomark _)) p2 (pss_one (ps_if (pt_cmpR op_lt (pv 6) pe_int (nomark _)) p3 p4))))) p5)))))) (pss_one (ps_ret pe_bl))))), ?_⟩
    refine fun j dj hj hdj ne => ⟨j, dj, rfl, upd_same, fun H2 b2 hJ2 => ⟨rfl, ?_⟩⟩
    have s2 : Same H H2 := Same.made hj hdj fun c o e n => b2 c o n e
    refine ⟨szl (lk rfl), fun e0 he0 => ⟨szl (lk rfl), fun e1 he1 => ⟨szl (lk rfl), fun u hu => ⟨szl (lk rfl), fun x hx => ⟨_, _, _, rfl, ?_⟩⟩⟩⟩⟩
    have z1 := same_upd (o := .tup []) he0
    have z2 := same_upd (o := .tup []) he1
    have z3 := same_upd (o := .lst [.int 0, .int 0, .ref e0, .ref e1, .int 3, .non]) hu
    have z4 := same_upd (o := .tup []) hx
    have hJ3 : JAt K _ j due0 oth0 := hJ2.same (((z1.trans z2).trans z3).trans z4)
    have hu3 : DueAt K _ u due0 := ⟨.ref e0, .ref e1, .non, sqL_same z4 (SqL.of upd_same), .tup (sqT_same ((z2.trans z3).trans z4) (SqT.of upd_same)) .nil, .tup (sqT_same (z3.trans z4) (SqT.of upd_same)) .nil, .non⟩
    have hx3 : SqT K (upd (upd (upd (upd H2 e0 (.tup [])) e1 (.tup [])) u (.lst [.int 0, .int 0, .ref e0, .ref e1, .int 3, .non])) x (.tup [])) x (oth0.l.map V.int) := SqT.of upd_same
    have hs3 := sqL_same (s2.trans (((z1.trans z2).trans z3).trans z4)) hs
    refine ⟨_, rfl, _, rfl, _, rfl, j, u, x, due0, oth0, 0, rfl, hJ3, hu3, hx3, Ok.start, by decide, fun H5 s5 => ⟨true, rfl, iteF ?_⟩⟩
    refine ⟨12, rfl, by decide, by decide, ?_⟩
    refine for_it walk_range (fun i σ H' => LPv K ns i a j σ H') ⟨u, x, due0, oth0, _, _, _, _, _, _, _, _, _, _, _, _, _, _, _, _, rfl, ⟨sqL_same s5 hs3, hJ3.same s5, hu3.same s5, sqT_same s5 hx3, Ok.start, _, s5 _ _ (z4 _ _ upd_same)⟩⟩ (fun _ _ _ _ _ => trivial) ?_ ?_
    · rintro i y σ H6 H7 hi ⟨u, x, D, O, v4, v5, v6, v7, v8, v9, v10, v11, v12, v13, v14, v15, v16, v17, v18, v19, rfl, t⟩ ⟨rfl, rfl⟩
      have hi' : i < 12 := hi
      have bz := t.ok.bz
      have pz := t.ok.pz
      refine ⟨_, rfl, _, rfl, a, _, ns, rfl, t.hs, by omega, by omega, hz, fun r H8 hr0 s8 B8 => ?_⟩
      refine ⟨_, rfl, r, 8, rfl, B8, by decide, by decide, fun de H9 d0 d1 b9 B9 => ?_⟩
      have s9 : Same _ H9 := ((But.of s8).trans b9).new hr0
      obtain ⟨b, l, e, h1, h2, h3, h4⟩ := t.hu.same s9
      refine ⟨_, rfl, u, _, rfl, h1, rfl, _, _, rfl, _, _, rfl, _, _, rfl, _, _, rfl, _, _, rfl, _, _, rfl, rfl, ?_⟩
      refine ⟨_, rfl, _, rfl, D.s, b, D.b, rfl, h2, bz, fun t1 HA sA ht1 => ⟨_, rfl, l, D.ps, rfl, dp_same sA h3, by omega, fun t2 HB sB ht2 => ?_⟩⟩
      have ez : (encB D.s D.b).length + (encP D.ps).length = D.oct.length := (List.length_append ..).symm
      have ol := t.ok.oct_le
      refine cat_ints (sqT_same sB ht1) ht2 (by omega) fun oc HC sC hoc => ?_
      have s9C := (sA.trans sB).trans sC
      have sAll := s9.trans s9C
      have nu : u ≠ r := fun z => by
        obtain ⟨ys, hy⟩ := t.tk
        rw [z, hr0] at hy
        cases hy
      have tn : Tn K ns i a j u x r oc D O b l e HC := ⟨sqL_same sAll t.hs, safeOf t.hs hr0, t.hJ.same sAll, t.hu.same sAll, dp_same s9C h2, dp_same s9C h3, dp_same s9C h4, sqT_same sAll t.hx, hoc, t.ok, hi', B9.same s9C, nu⟩
      refine ⟨_, rfl, _, _, rfl, rfl, _, rfl, ?_⟩
      by_cases c1 : de < 4
      · refine dt c1 ?_
        exact r1 _ ns i a j u x r oc D O b l e _ de v14 v15 v16 v17 v18 v19 HC tn fun σ' H' h => r5 _ i j r σ' H' h hi' fun _ _ z => z
      · refine df c1 ⟨_, rfl, rfl, _, rfl, ?_⟩
        by_cases c2 : de = 4
        · rw [vint_eq c2]
          refine iteT ?_
          exact r2 _ ns i a j u x r oc D O b l e _ de v14 v15 v16 v17 v18 v19 HC tn fun σ' H' h => r5 _ i j r σ' H' h hi' fun _ _ z => z
        · rw [vint_ne c2]
          refine iteF ⟨_, rfl, _, _, rfl, rfl, _, rfl, ?_⟩
          by_cases c3 : de < 7
          · refine dt c3 ?_
            exact r3 _ ns i a j u x r oc D O b l e _ de v14 v15 v16 v17 v18 v19 HC tn fun σ' H' h => r5 _ i j r σ' H' h hi' fun _ _ z => z
          · refine df c3 ?_
            exact r4 _ ns i a j u x r oc D O b l e _ de v14 v15 v16 v17 v18 v19 HC tn fun σ' H' h => r5 _ i j r σ' H' h hi' fun _ _ z => z
    · rintro σ H6 ⟨u, x, D, O, v4, v5, v6, v7, v8, v9, v10, v11, v12, v13, v14, v15, v16, v17, v18, v19, rfl, t⟩
      exact q H6
end
end K62

set_option Elab.async false
set_option linter.all false
set_option maxRecDepth 100000
set_option maxHeartbeats 0
/-! K62End: the law holds. -/
namespace K62
open PySem PySem.Spec PyProof.Rows L2
theorem prgOk : PrgOk (PySem.Challenge.rw_ownback_k62_whole_a_journal_cut_anywhere).prog := ⟨by kernel_rfl, by kernel_rfl⟩
end K62
open PySem PySem.W PySem.Calls PyProof.Rows
theorem PySem.Challenge.cw_ownback_k62_whole_a_journal_cut_anywhere_holds : PySem.Challenge.rw_ownback_k62_whole_a_journal_cut_anywhere.Holds := by
  w_on; o_law
  refine HandSHeadRun.head_any (r := OpenLaw.row PySem.Challenge.rw_ownback_k62_whole_a_journal_cut_anywhere) (q := view (OpenLaw.row PySem.Challenge.rw_ownback_k62_whole_a_journal_cut_anywhere).prog [56]) (H := K62.hookZ) (ob := K62.ob) (M := 20000) (loose := K62.loose)
    (d := HandSHeadRun.topDef (OpenLaw.row PySem.Challenge.rw_ownback_k62_whole_a_journal_cut_anywhere).prog 56) (kwd := []) K62.ob_eq
    (by kernel_rfl) (fun s => by kernel_rfl) K62.run (by kernel_rfl) (by kernel_rfl) (by kernel_rfl) (by rfl) (by first | assumption | decide +kernel) (by decide +kernel) ⟨rfl, rfl, rfl, rfl, rfl, by decide +kernel⟩ ?hw ?hc
  case hw => w_witness2
  case hc =>
    refine Att.attach_call (l := PySem.Challenge.rw_ownback_k62_whole_a_journal_cut_anywhere) (n := 63) rfl (by kernel_rfl) fun w s₀ s₁ mg mb fa o pm cd doc a vs ns G Y ho hd hcd hmg0 hobj hints hlen hg => ?_
    obtain ⟨K, KX, c⟩ := Y
    have hmg : mg ("law" : PySem.Str) = some (.ref fa) := by
      have e : (HandSHeadRun.topDef (OpenLaw.row PySem.Challenge.rw_ownback_k62_whole_a_journal_cut_anywhere).prog 56).name = ("law" : PySem.Str) := by kernel_rfl
      rw [← e]
      exact hmg0
    have T : K62.Txt K mg w := K62.Txt.of KX G.T.g c
    have efa : fa = He.ga K "law" := by
      have z := hmg.symm.trans T.g_law
      cases z
      rfl
    subst efa
    obtain ⟨fd, F⟩ := T.f_law
    have hz : ns.length ≤ 16777216 := Nat.le_trans hlen (by decide)
    refine K62.law_end KX G.T.g G.T.b G.T.builtins G.T.nolimit hg hobj hints (Nat.le_trans hlen (by decide)) (k := 11) ⟨rfl, by decide, by decide⟩ (fun base _ _ => K62.ok_law K62.prgOk T F) (K62.law_bind F) fun H hS => ⟨a, ns, rfl, hS, hz, fun _ => rfl⟩
