import PyProof.Rows.All
import Wide.All
import OpenK.AllK
import Wide.FinOn
import HandS.ForMost
import HandS.Exc
import HandS.ExcOwn
import HandS.WordsExc
import HandS.Defaults
import HandS.Lambda
import HandS.Style
import HandS.Zip
import HandS.Walk
import HandS.Wide
import HandS.IsInst
import HandS.TupAny
import HandS.SortInts
import HandS.Small
import HandS.Deep
import HandS.TupMul
import HandS.SetFor
import PyProof.ReprReads
import KE.KTupSum
import KE.DataMinMax
import KE.SortData
import HandS.RaiseMore
import HandS.Conv
import KE.GoesEnum
import KE.KExcIs
import HandS.ExcField
import HandS.ExcIs
import HandS.ExcInit
import HandS.ClsMeth
import HandS.HeadWalk
import HandS.EndTab
import HandS.Head0
import HandS.Head1
import HandS.Head2
import HandS.HeadEnd
import HandS.HeadHook1
import HandS.HeadHook2
import HandS.HeadHook3
import HandS.HeadHook4
import PySem.Challenge.RW_steprounds_k05_whole_repeated_to_10_30
section
set_option Elab.async false
set_option linter.all false
set_option maxRecDepth 100000
set_option maxHeartbeats 2000000
namespace Ev
open PySem PySem.Spec PyProof.Rows L2

/-- plain data -/
inductive D where
  | non | bl (b : Bool) | int (i : Int) | str (x : Str)
  | tup (ds : List D) | lst (ds : List D)
  | dic (ks : List Key) (ds : List D)
  | rng (lo hi : Int) | fn (f : Nat) | cell (c : Nat) | scr (ns : List Int)
  deriving Inhabited

abbrev Mu := List (List D)

/-- what is fixed through a law: the written part, where the text's functions stand, the tables of code objects -/
structure Gx where
  K : PySem.W.Frag
  fad : Nat → Addr
  T : List (Addr × Str)
  /-- the field of an error's class -/
  ef : Nat → Str
  /-- in a handler: where the error stands, its class, its dict -/
  xa : Addr
  xc : Nat
  xd : Option Addr

def NTb (o : HO) : Prop := ∀ ps, o ≠ .tbl ps

mutual
def Rep (G : Gx) (cs : List Addr) (H : Hp) : D → V → Prop
  | .non, v => v = .non
  | .bl b, v => v = .bl b
  | .int i, v => v = .int i
  | .str x, v => v = .str x
  | .tup ds, v => ∃ a vs, v = .ref a ∧ SqT G.K H a vs ∧ Reps G cs H ds vs
  | .lst ds, v => ∃ a vs, v = .ref a ∧ H a = some (.lst vs) ∧ Reps G cs H ds vs
  | .dic ks ds, v => ∃ a vs, v = .ref a ∧ H a = some (.dK (ks.zip vs)) ∧ ks.length = vs.length ∧ Reps G cs H ds vs
  | .rng lo hi, v => ∃ a, v = .ref a ∧ H a = some (.rng lo hi)
  | .fn f, v => v = .ref (G.fad f)
  | .cell c, v => ∃ a, cs[c]? = some a ∧ v = .ref a
  | .scr ns, v => ∃ a, v = .ref a ∧ SqL G.K H a (ns.map V.int)
def Reps (G : Gx) (cs : List Addr) (H : Hp) : List D → List V → Prop
  | [], vs => vs = []
  | d :: ds, vs => ∃ v r, vs = v :: r ∧ Rep G cs H d v ∧ Reps G cs H ds r
end

section
variable {G : Gx} {cs cs' : List Addr} {H H' : Hp}
theorem Rep.sqT {a : Addr} {vs : List V} (e : ∀ a o, H a = some o → H' a = some o) (h : SqT G.K H a vs) : SqT G.K H' a vs := by
  rcases h with (h | ⟨o, h⟩) | h
  · exact .inl (.inl (e _ _ h))
  · exact .inl (.inr ⟨o, e _ _ h⟩)
  · exact .inr h
mutual
theorem Rep.mono (e : ∀ a o, H a = some o → H' a = some o) (hc : ∀ (c : Nat) (a : Addr), cs[c]? = some a → cs'[c]? = some a) : ∀ (d : D) (v : V), Rep G cs H d v → Rep G cs' H' d v
  | .non, v, h => by simpa only [Rep] using h
  | .bl b, v, h => by simpa only [Rep] using h
  | .int i, v, h => by simpa only [Rep] using h
  | .str x, v, h => by simpa only [Rep] using h
  | .tup ds, v, h => by
    unfold Rep at h ⊢
    obtain ⟨a, vs, e1, h1, h2⟩ := h
    exact ⟨a, vs, e1, Rep.sqT e h1, Reps.mono e hc ds vs h2⟩
  | .lst ds, v, h => by
    unfold Rep at h ⊢
    obtain ⟨a, vs, e1, h1, h2⟩ := h
    exact ⟨a, vs, e1, e _ _ h1, Reps.mono e hc ds vs h2⟩
  | .dic ks ds, v, h => by
    unfold Rep at h ⊢
    obtain ⟨a, vs, e1, h1, h3, h2⟩ := h
    exact ⟨a, vs, e1, e _ _ h1, h3, Reps.mono e hc ds vs h2⟩
  | .rng lo hi, v, h => by
    unfold Rep at h ⊢
    obtain ⟨a, e1, h1⟩ := h
    exact ⟨a, e1, e _ _ h1⟩
  | .fn f, v, h => by simpa only [Rep] using h
  | .cell c, v, h => by
    unfold Rep at h ⊢
    obtain ⟨a, h1, e1⟩ := h
    exact ⟨a, hc _ _ h1, e1⟩
  | .scr ns, v, h => by
    unfold Rep at h ⊢
    obtain ⟨a, e1, h1⟩ := h
    exact ⟨a, e1, Same.seq e h1⟩
theorem Reps.mono (e : ∀ a o, H a = some o → H' a = some o) (hc : ∀ (c : Nat) (a : Addr), cs[c]? = some a → cs'[c]? = some a) : ∀ (ds : List D) (vs : List V), Reps G cs H ds vs → Reps G cs' H' ds vs
  | [], vs, h => by simpa only [Reps] using h
  | d :: ds, vs, h => by
    unfold Reps at h ⊢
    obtain ⟨v, r, e1, h1, h2⟩ := h
    exact ⟨v, r, e1, Rep.mono e hc d v h1, Reps.mono e hc ds r h2⟩
end
theorem Reps.nil_iff {vs : List V} : Reps G cs H [] vs ↔ vs = [] := by unfold Reps; exact Iff.rfl
theorem Reps.nil : Reps G cs H [] [] := Reps.nil_iff.mpr rfl
theorem Reps.cons_iff {d : D} {ds : List D} {vs : List V} : Reps G cs H (d :: ds) vs ↔ ∃ v r, vs = v :: r ∧ Rep G cs H d v ∧ Reps G cs H ds r := by
  constructor <;> intro h
  · unfold Reps at h; exact h
  · unfold Reps; exact h
theorem Reps.cons {d : D} {ds : List D} {v : V} {vs : List V} (h : Rep G cs H d v) (hs : Reps G cs H ds vs) : Reps G cs H (d :: ds) (v :: vs) :=
  Reps.cons_iff.mpr ⟨v, vs, rfl, h, hs⟩
theorem Reps.len : ∀ {ds : List D} {vs : List V}, Reps G cs H ds vs → ds.length = vs.length
  | [], vs, h => by rw [Reps.nil_iff.mp h]; rfl
  | d :: ds, vs, h => by
    obtain ⟨v, r, e1, h1, h2⟩ := Reps.cons_iff.mp h
    rw [e1, List.length_cons, List.length_cons, Reps.len h2]
theorem Reps.get : ∀ {ds : List D} {vs : List V} {i : Nat} {d : D}, Reps G cs H ds vs → ds[i]? = some d → ∃ v, vs[i]? = some v ∧ Rep G cs H d v
  | [], vs, i, d, h, e => by simp at e
  | d :: ds, vs, 0, d', h, e => by
    obtain ⟨v, r, e1, h1, h2⟩ := Reps.cons_iff.mp h
    simp at e
    subst e
    exact ⟨v, by rw [e1]; rfl, h1⟩
  | d :: ds, vs, i + 1, d', h, e => by
    obtain ⟨v, r, e1, h1, h2⟩ := Reps.cons_iff.mp h
    simp at e
    obtain ⟨w, q1, q2⟩ := Reps.get h2 e
    exact ⟨w, by rw [e1]; simpa using q1, q2⟩
theorem Reps.append : ∀ {ds es : List D} {vs ws : List V}, Reps G cs H ds vs → Reps G cs H es ws → Reps G cs H (ds ++ es) (vs ++ ws)
  | [], es, vs, ws, h, g => by rw [Reps.nil_iff.mp h]; exact g
  | d :: ds, es, vs, ws, h, g => by
    obtain ⟨v, r, e1, h1, h2⟩ := Reps.cons_iff.mp h
    rw [e1]
    exact Reps.cons h1 (Reps.append h2 g)
theorem Reps.take : ∀ {ds : List D} {vs : List V} (n : Nat), Reps G cs H ds vs → Reps G cs H (ds.take n) (vs.take n)
  | ds, vs, 0, h => by simpa using Reps.nil
  | [], vs, n + 1, h => by rw [Reps.nil_iff.mp h]; exact Reps.nil
  | d :: ds, vs, n + 1, h => by
    obtain ⟨v, r, e1, h1, h2⟩ := Reps.cons_iff.mp h
    rw [e1]
    exact Reps.cons h1 (Reps.take n h2)
theorem Reps.drop : ∀ {ds : List D} {vs : List V} (n : Nat), Reps G cs H ds vs → Reps G cs H (ds.drop n) (vs.drop n)
  | ds, vs, 0, h => by simpa using h
  | [], vs, n + 1, h => by rw [Reps.nil_iff.mp h]; exact Reps.nil
  | d :: ds, vs, n + 1, h => by
    obtain ⟨v, r, e1, h1, h2⟩ := Reps.cons_iff.mp h
    rw [e1]
    exact Reps.drop n h2
theorem Reps.set {d : D} {v : V} (hd : Rep G cs H d v) : ∀ {ds : List D} {vs : List V} (n : Nat), Reps G cs H ds vs → Reps G cs H (ds.set n d) (vs.set n v)
  | [], vs, n, h => by rw [Reps.nil_iff.mp h]; exact Reps.nil
  | e :: ds, vs, 0, h => by
    obtain ⟨w, r, e1, h1, h2⟩ := Reps.cons_iff.mp h
    rw [e1]
    exact Reps.cons hd h2
  | e :: ds, vs, n + 1, h => by
    obtain ⟨w, r, e1, h1, h2⟩ := Reps.cons_iff.mp h
    rw [e1]
    exact Reps.cons h1 (Reps.set hd n h2)
theorem Reps.reverse : ∀ {ds : List D} {vs : List V}, Reps G cs H ds vs → Reps G cs H ds.reverse vs.reverse
  | [], vs, h => by rw [Reps.nil_iff.mp h]; exact Reps.nil
  | d :: ds, vs, h => by
    obtain ⟨v, r, e1, h1, h2⟩ := Reps.cons_iff.mp h
    rw [e1, List.reverse_cons, List.reverse_cons]
    exact Reps.append (Reps.reverse h2) (Reps.cons h1 Reps.nil)
theorem Reps.map {α : Type} {f : α → D} {g : α → V} (h : ∀ a, Rep G cs H (f a) (g a)) : ∀ l : List α, Reps G cs H (l.map f) (l.map g)
  | [] => Reps.nil
  | a :: l => Reps.cons (h a) (Reps.map h l)
theorem Rep.int_iff {i : Int} {v : V} : Rep G cs H (.int i) v ↔ v = .int i := by constructor <;> (intro h; simpa only [Rep] using h)
theorem Rep.bl_iff {i : Bool} {v : V} : Rep G cs H (.bl i) v ↔ v = .bl i := by constructor <;> (intro h; simpa only [Rep] using h)
theorem Rep.str_iff {i : Str} {v : V} : Rep G cs H (.str i) v ↔ v = .str i := by constructor <;> (intro h; simpa only [Rep] using h)
theorem Rep.non_iff {v : V} : Rep G cs H .non v ↔ v = .non := by constructor <;> (intro h; simpa only [Rep] using h)
theorem Rep.fn_iff {i : Nat} {v : V} : Rep G cs H (.fn i) v ↔ v = .ref (G.fad i) := by constructor <;> (intro h; simpa only [Rep] using h)
theorem Rep.tup_iff {ds : List D} {v : V} : Rep G cs H (.tup ds) v ↔ ∃ a vs, v = .ref a ∧ SqT G.K H a vs ∧ Reps G cs H ds vs := by
  constructor <;> intro h
  · unfold Rep at h; exact h
  · unfold Rep; exact h
theorem Rep.lst_iff {ds : List D} {v : V} : Rep G cs H (.lst ds) v ↔ ∃ a vs, v = .ref a ∧ H a = some (.lst vs) ∧ Reps G cs H ds vs := by
  constructor <;> intro h
  · unfold Rep at h; exact h
  · unfold Rep; exact h
theorem Rep.cell_iff {c : Nat} {v : V} : Rep G cs H (.cell c) v ↔ ∃ a, cs[c]? = some a ∧ v = .ref a := by
  constructor <;> intro h
  · unfold Rep at h; exact h
  · unfold Rep; exact h
theorem Rep.rng_iff {lo hi : Int} {v : V} : Rep G cs H (.rng lo hi) v ↔ ∃ a, v = .ref a ∧ H a = some (.rng lo hi) := by
  constructor <;> intro h
  · unfold Rep at h; exact h
  · unfold Rep; exact h
theorem Rep.scr_iff {ns : List Int} {v : V} : Rep G cs H (.scr ns) v ↔ ∃ a, v = .ref a ∧ SqL G.K H a (ns.map V.int) := by
  constructor <;> intro h
  · unfold Rep at h; exact h
  · unfold Rep; exact h
theorem Rep.dic_iff {ks : List Key} {ds : List D} {v : V} : Rep G cs H (.dic ks ds) v ↔ ∃ a vs, v = .ref a ∧ H a = some (.dK (ks.zip vs)) ∧ ks.length = vs.length ∧ Reps G cs H ds vs := by
  constructor <;> intro h
  · unfold Rep at h; exact h
  · unfold Rep; exact h
/-- ints all -/
theorem Reps.ints : ∀ {ns : List Int} {vs : List V}, Reps G cs H (ns.map .int) vs → vs = ns.map .int
  | [], vs, h => Reps.nil_iff.mp h
  | n :: ns, vs, h => by
    obtain ⟨v, r, e1, h1, h2⟩ := Reps.cons_iff.mp (show Reps G cs H (.int n :: ns.map .int) vs from h)
    rw [e1, Rep.int_iff.mp h1, Reps.ints h2]
    rfl
theorem Reps.bls : ∀ {ns : List Bool} {vs : List V}, Reps G cs H (ns.map .bl) vs → vs = ns.map .bl
  | [], vs, h => Reps.nil_iff.mp h
  | n :: ns, vs, h => by
    obtain ⟨v, r, e1, h1, h2⟩ := Reps.cons_iff.mp (show Reps G cs H (.bl n :: ns.map .bl) vs from h)
    rw [e1, Rep.bl_iff.mp h1, Reps.bls h2]
    rfl
end

/-- the cells (lists that many hold): what stands in each -/
structure Cells (G : Gx) (cs : List Addr) (H Hf : Hp) (μ : Mu) : Prop where
  len : cs.length = μ.length
  nd : cs.Nodup
  at_ : ∀ (c : Nat) (ds : List D) (a : Addr), μ[c]? = some ds → cs[c]? = some a → ∃ vs, H a = some (.lst vs) ∧ Hf a = none ∧ Reps G cs Hf ds vs

/-- nothing stands at a but perhaps a table -/
def Fre (H : Hp) (a : Addr) : Prop := ∀ o, H a = some o → ¬ NTb o
theorem Fre.of {H : Hp} {a : Addr} (n : H a = none) : Fre H a := fun o e => by rw [n] at e; cases e
theorem Fre.no {H : Hp} {a : Addr} {o : HO} (f : Fre H a) (e : H a = some o) (q : NTb o) : False := f o e q
theorem ntb_lst {vs : List V} : NTb (.lst vs) := fun ps h => nomatch h
theorem ntb_tup {vs : List V} : NTb (.tup vs) := fun ps h => nomatch h
theorem ntb_dK {vs} : NTb (.dK vs) := fun ps h => nomatch h
theorem ntb_rng {a b} : NTb (.rng a b) := fun ps h => nomatch h
/-- from a state (H, Hf, cs) to a state (H', Hf', cs') with cells μ' -/
structure Step (G : Gx) (cs : List Addr) (H Hf : Hp) (cs' : List Addr) (H' Hf' : Hp) (μ' : Mu) : Prop where
  pre : ∃ more, cs' = cs ++ more ∧ ∀ a ∈ more, Fre H a
  keep : ∀ a o, H a = some o → a ∉ cs → NTb o → H' a = some o
  fre : ∀ a, Fre H' a → Fre H a
  sub : ∀ a o, Hf' a = some o → H' a = some o
  notb : ∀ a o, Hf' a = some o → NTb o
  ext : ∀ a o, Hf a = some o → Hf' a = some o
  new : ∀ a o, Hf' a = some o → Hf a = some o ∨ Fre H a
  cells : Cells G cs' H' Hf' μ'
  tabs : LamX.Tabs G.T H'

section
variable {G : Gx} {cs cs' cs1 cs2 : List Addr} {H Hf H' Hf' H1 Hf1 H2 Hf2 : Hp} {μ μ' μ1 μ2 : Mu}
theorem Step.pix (s : Step G cs H Hf cs' H' Hf' μ') : ∀ (c : Nat) (a : Addr), cs[c]? = some a → cs'[c]? = some a := fun c a e => by
  obtain ⟨more, e1, _⟩ := s.pre
  rw [e1]
  have hl : c < cs.length := by
    rcases Nat.lt_or_ge c cs.length with h | h
    · exact h
    · rw [List.getElem?_eq_none h] at e; cases e
  rw [List.getElem?_append_left hl]
  exact e
theorem Step.rep (s : Step G cs H Hf cs' H' Hf' μ') {d : D} {v : V} (h : Rep G cs Hf d v) : Rep G cs' Hf' d v := Rep.mono s.ext s.pix d v h
theorem Step.reps (s : Step G cs H Hf cs' H' Hf' μ') {d : List D} {v : List V} (h : Reps G cs Hf d v) : Reps G cs' Hf' d v := Reps.mono s.ext s.pix d v h
theorem Step.repH (s : Step G cs H Hf cs' H' Hf' μ') {d : D} {v : V} (h : Rep G cs' Hf' d v) : Rep G cs' H' d v := Rep.mono s.sub (fun _ _ e => e) d v h
theorem Step.repsH (s : Step G cs H Hf cs' H' Hf' μ') {d : List D} {v : List V} (h : Reps G cs' Hf' d v) : Reps G cs' H' d v := Reps.mono s.sub (fun _ _ e => e) d v h
theorem Step.memc (s : Step G cs H Hf cs' H' Hf' μ') {a : Addr} (h : a ∈ cs') (n : ¬ Fre H a) : a ∈ cs := by
  obtain ⟨more, e1, e2⟩ := s.pre
  rw [e1] at h
  rcases List.mem_append.mp h with h | h
  · exact h
  · exact absurd (e2 a h) n
theorem Step.trans (s : Step G cs H Hf cs1 H1 Hf1 μ1) (t : Step G cs1 H1 Hf1 cs2 H2 Hf2 μ2) : Step G cs H Hf cs2 H2 Hf2 μ2 := by
  refine ⟨?_, fun a o e n q => ?_, fun a n => s.fre a (t.fre a n), t.sub, t.notb, fun a o e => t.ext a o (s.ext a o e), fun a o e => ?_, t.cells, t.tabs⟩
  · obtain ⟨m1, e1, n1⟩ := s.pre
    obtain ⟨m2, e2, n2⟩ := t.pre
    refine ⟨m1 ++ m2, by rw [e2, e1, List.append_assoc], fun a h => ?_⟩
    rcases List.mem_append.mp h with h | h
    · exact n1 a h
    · exact s.fre a (n2 a h)
  · exact t.keep a o (s.keep a o e n q) (fun z => n (s.memc z (fun f => f.no e q))) q
  · rcases t.new a o e with h | h
    · exact s.new a o h
    · exact .inr (s.fre a h)
/-- a state is well -/
abbrev Well (G : Gx) (cs : List Addr) (H Hf : Hp) (μ : Mu) : Prop := Step G cs H Hf cs H Hf μ
theorem Step.well (s : Step G cs H Hf cs' H' Hf' μ') : Well G cs' H' Hf' μ' :=
  ⟨⟨[], by simp, fun a h => absurd h (by simp)⟩, fun a o e _ _ => e, fun a n => n, s.sub, s.notb, fun _ _ e => e, fun _ _ e => .inl e, s.cells, s.tabs⟩
theorem Well.hf_none (s : Well G cs H Hf μ) {a : Addr} (n : Fre H a) : Hf a = none := by
  cases q : Hf a with
  | none => rfl
  | some o => exact (n.no (s.sub a o q) (s.notb a o q)).elim
theorem Well.cell_ne (s : Well G cs H Hf μ) {a : Addr} (n : Fre H a) : a ∉ cs := fun h => by
  obtain ⟨c, hc, e⟩ := List.getElem_of_mem h
  have hl : c < μ.length := by rw [← s.cells.len]; exact hc
  obtain ⟨vs, q, _⟩ := s.cells.at_ c μ[c] a (by simp [hl]) (by simp [hc, e])
  exact n.no q ntb_lst
/-- a new object is laid, frozen at once -/
theorem Well.laid (s : Well G cs H Hf μ) {p : Addr} {o : HO} (n : H p = none) (ho : NTb o) : Step G cs H Hf cs (upd H p o) (upd Hf p o) μ := by
  have ne : ∀ a u, H a = some u → a ≠ p := fun a u e => ne_of_none e n
  have nef : ∀ a u, Hf a = some u → a ≠ p := fun a u e => ne a u (s.sub a u e)
  have ext : ∀ a u, Hf a = some u → upd Hf p o a = some u := fun a u e => by rw [upd_ne (nef a u e)]; exact e
  refine ⟨⟨[], by simp, fun a h => absurd h (by simp)⟩, fun a u e _ _ => by rw [upd_ne (ne a u e)]; exact e, fun a h => ?_, fun a u e => ?_, fun a u e => ?_, ext, fun a u e => ?_, ⟨s.cells.len, s.cells.nd, fun c ds a e1 e2 => ?_⟩, s.tabs.ext fun b u e => by rw [upd_ne (ne b u e)]; exact e⟩
  · by_cases hh : a = p
    · rw [hh]; exact Fre.of n
    · exact fun u e => h u (by rw [upd_ne hh]; exact e)
  · by_cases h : a = p
    · subst h; rw [upd_same] at e ⊢; exact e
    · rw [upd_ne h] at e ⊢; exact s.sub a u e
  · by_cases h : a = p
    · subst h; rw [upd_same] at e; cases e; exact ho
    · rw [upd_ne h] at e; exact s.notb a u e
  · by_cases h : a = p
    · subst h; exact .inr (Fre.of n)
    · rw [upd_ne h] at e; exact .inl e
  · obtain ⟨vs, q1, q2, q3⟩ := s.cells.at_ c ds a e1 e2
    have hne : a ≠ p := ne a _ q1
    exact ⟨vs, by rw [upd_ne hne]; exact q1, by rw [upd_ne hne]; exact q2, Reps.mono ext (fun _ _ e => e) ds vs q3⟩
/-- a new object is laid, loose -/
theorem Well.loose (s : Well G cs H Hf μ) {p : Addr} {o : HO} (n : H p = none) : Step G cs H Hf cs (upd H p o) Hf μ := by
  have ne : ∀ a u, H a = some u → a ≠ p := fun a u e => ne_of_none e n
  have nef : ∀ a u, Hf a = some u → a ≠ p := fun a u e => ne a u (s.sub a u e)
  refine ⟨⟨[], by simp, fun a h => absurd h (by simp)⟩, fun a u e _ _ => by rw [upd_ne (ne a u e)]; exact e, fun a h => ?_, fun a u e => ?_, s.notb, fun _ _ e => e, fun a u e => .inl e, ⟨s.cells.len, s.cells.nd, fun c ds a e1 e2 => ?_⟩, s.tabs.ext fun b u e => by rw [upd_ne (ne b u e)]; exact e⟩
  · by_cases hh : a = p
    · rw [hh]; exact Fre.of n
    · exact fun u e => h u (by rw [upd_ne hh]; exact e)
  · rw [upd_ne (nef a u e)]; exact s.sub a u e
  · obtain ⟨vs, q1, q2, q3⟩ := s.cells.at_ c ds a e1 e2
    exact ⟨vs, by rw [upd_ne (ne a _ q1)]; exact q1, q2, q3⟩
/-- a loose new list is frozen -/
theorem Step.freeze (s : Step G cs H Hf cs' H' Hf' μ') {a : Addr} {o : HO} (n : Fre H a) (h : H' a = some o) (hf : Hf' a = none) (hc : a ∉ cs') (ho : NTb o) : Step G cs H Hf cs' H' (upd Hf' a o) μ' := by
  have ext : ∀ b u, Hf' b = some u → upd Hf' a o b = some u := fun b u e => by rw [upd_ne (fun z => by rw [z, hf] at e; cases e)]; exact e
  refine ⟨s.pre, s.keep, s.fre, fun b u e => ?_, fun b u e => ?_, fun b u e => ext b u (s.ext b u e), fun b u e => ?_, ⟨s.cells.len, s.cells.nd, fun c ds b e1 e2 => ?_⟩, s.tabs⟩
  · by_cases hb : b = a
    · subst hb; rw [upd_same] at e; cases e; exact h
    · rw [upd_ne hb] at e; exact s.sub b u e
  · by_cases hb : b = a
    · subst hb; rw [upd_same] at e; cases e; exact ho
    · rw [upd_ne hb] at e; exact s.notb b u e
  · by_cases hb : b = a
    · subst hb; exact .inr n
    · rw [upd_ne hb] at e; exact s.new b u e
  · obtain ⟨vs, q1, q2, q3⟩ := s.cells.at_ c ds b e1 e2
    have hne : b ≠ a := fun z => hc (z ▸ List.mem_of_getElem? e2)
    exact ⟨vs, q1, by rw [upd_ne hne]; exact q2, Reps.mono ext (fun _ _ e => e) ds vs q3⟩
end
end Ev
end

section
set_option Elab.async false
set_option linter.all false
set_option maxRecDepth 100000
set_option maxHeartbeats 2000000
namespace Ev
open PySem PySem.Spec PyProof.Rows L2

inductive BOp where | add | sub | mul | fdiv | mod | pow
  deriving DecidableEq
inductive COp where | eq | ne | lt | le | gt | ge | mem | nmem | is_ | isn
  deriving DecidableEq
/-- built-in functions -/
inductive Bi where | abs | all | any | int | len | list | max | min | repr | sorted | sum | tuple | str
  deriving DecidableEq
inductive Ty where | int | bool | str | list | tuple | dict
  deriving DecidableEq
/-- pure methods -/
inductive Mt where | count | index
  deriving DecidableEq
/-- targets -/
inductive Tg where | name (i : Nat) | tup (t : Tg) | nil | cons (h t : Tg)

/-- expressions; lists of them by nil and cons -/
inductive E where
  | var (i : Nat) | pk (i : Nat)
  | int (i : Int) | bl (b : Bool) | non | str (x : Str)
  | gc (x : Nat)
  | nil | cons (h t : E)
  | tup (es : E) | lst (es : E) | dic (ks : List Key) (es : E)
  | bin (op : BOp) (a b : E) | neg (a : E)
  | cmp (op : COp) (a b : E) | chn (o1 o2 : COp) (a b c : E)
  | and1 (a : E) | and (a r : E) | or1 (a : E) | or (a r : E) | not (a : E)
  | ite (c a b : E)
  | idx (a i : E) | sl (a lo hi : E) | rev (a : E)
  | call (f : Nat) (es : E) | clv (i : Nat) (fs : List Nat) (es : E) | lam (f : Nat) (e : E) | act
  | fnv (f : Nat)
  | bi (b : Bi) (es : E) | isi (a : E) (t : Ty) | mt (m : Mt) (a e : E)
  | rng (es : E) | zip (es : E) | enm (a : E)
  | comp (t : Tg) (it : E) (elt : E) (cond : E)
  | isx (i : Nat) (c : Nat) | fld (i c : Nat)
  | lrg (tp : Bool) (a b : E)

structure Exn where
  cls : Nat
  arg : Option D
inductive R (α : Type) where
  | ok (a : α) (μ : Mu) | ex (x : Exn) (μ : Mu) | bad
def R.bind {α β : Type} (r : R α) (f : α → Mu → R β) : R β := match r with
  | .ok a μ => f a μ
  | .ex x μ => .ex x μ
  | .bad => .bad
def R.of {α : Type} (o : Option α) (μ : Mu) : R α := match o with
  | some a => .ok a μ
  | none => .bad
@[simp] theorem R.bind_ok {α β : Type} (a : α) (μ : Mu) (f : α → Mu → R β) : (R.ok a μ).bind f = f a μ := rfl
@[simp] theorem R.bind_ex {α β : Type} (x : Exn) (μ : Mu) (f : α → Mu → R β) : (R.ex x μ).bind f = R.ex x μ := rfl
@[simp] theorem R.bind_bad {α β : Type} (f : α → Mu → R β) : (R.bad : R α).bind f = R.bad := rfl
@[simp] theorem R.of_some {α : Type} (a : α) (μ : Mu) : R.of (some a) μ = .ok a μ := rfl
@[simp] theorem R.of_none {α : Type} (μ : Mu) : R.of (none : Option α) μ = .bad := rfl

inductive Slot where
  | un | sh (d : D) | own (ds : List D) | lent (ds : List D) | exc (x : Exn)
  deriving Inhabited
abbrev Env := List Slot

mutual
def toPy : D → Option PyData
  | .non => some .none
  | .bl b => some (.bool b)
  | .int i => some (.int i)
  | .str x => some (.str x)
  | .tup ds => (toPys ds).map .tuple
  | .lst ds => (toPys ds).map .list
  | _ => none
def toPys : List D → Option (List PyData)
  | [] => some []
  | d :: ds => match toPy d, toPys ds with
    | some p, some ps => some (p :: ps)
    | _, _ => none
end
def eqD (x y : D) : Option Bool := match toPy x, toPy y with
  | some p, some q => if SeqAt.shaped p && SeqAt.shaped q then some (PyData.eqv p q) else none
  | _, _ => none
def mulOk (i j : Int) : Bool := decide (i.natAbs < 2 ^ 64) || decide (j.natAbs < 2 ^ 64) || decide (i.natAbs.log2 + j.natAbs.log2 < 1000000)
def rep {α : Type} (k : Int) (xs : List α) : List α := (List.replicate k.toNat xs).flatten
def binD : BOp → D → D → Option D
  | .add, .int i, .int j => some (.int (i + j))
  | .add, .lst xs, .lst ys => if xs.length + ys.length ≤ sizeLine then some (.lst (xs ++ ys)) else none
  | .add, .tup xs, .tup ys => if xs.length + ys.length ≤ sizeLine then some (.tup (xs ++ ys)) else none
  | .add, .str x, .str y => if x.length + y.length ≤ sizeLine then some (.str (x ++ y)) else none
  | .sub, .int i, .int j => some (.int (i - j))
  | .mul, .int i, .int j => if mulOk i j then some (.int (i * j)) else none
  | .mul, .tup xs, .int k => if 1 ≤ k ∧ k < 2 ^ 63 ∧ xs.length * k.toNat ≤ sizeLine then some (.tup (rep k xs)) else none
  | .mul, .lst xs, .int k => if -(2 ^ 63) ≤ k ∧ k < 2 ^ 63 ∧ xs.length * k.toNat ≤ sizeLine then some (.lst (rep k xs)) else none
  | .fdiv, .int i, .int j => if 0 < j ∧ j.natAbs.log2 < 9000 then some (.int (i / j)) else none
  | .mod, .int i, .int j => if 0 < j then some (.int (i % j)) else none
  | .pow, .int i, .int j => if 0 ≤ j ∧ j ≤ 1000000 ∧ i.natAbs < 2 ^ 64 then some (.int (i ^ j.toNat)) else none
  | _, _, _ => none
def flat : D → Bool
  | .non => true
  | .bl _ => true
  | .int _ => true
  | .str _ => true
  | _ => false
def eqF : D → D → Bool
  | .non, .non => true
  | .bl a, .bl b => a == b
  | .bl a, .int b => (if a then 1 else 0) == b
  | .int a, .bl b => a == (if b then 1 else 0)
  | .int a, .int b => a == b
  | .str a, .str b => a == b
  | _, _ => false
/-- .. of data of any depth -/
def memP (x : D) (ys : List D) : Option Bool := match toPy x, toPys ys with
  | some p, some ps => if SeqAt.shaped p && SeqAt.shaped (.list ps) then some (ps.any fun z => PyData.eqv z p) else none
  | _, _ => none
def memD (x : D) (ys : List D) : Option Bool := if flat x && ys.all flat then some (ys.any fun y => eqF y x) else memP x ys
def asInts : List D → Option (List Int)
  | [] => some []
  | .int i :: r => (asInts r).map (i :: ·)
  | _ :: _ => none
def asBls : List D → Option (List Bool)
  | [] => some []
  | .bl i :: r => (asBls r).map (i :: ·)
  | _ :: _ => none
def cmpD : COp → D → D → Option Bool
  | .eq, x, y => eqD x y
  | .ne, x, y => (eqD x y).map (!·)
  | .lt, .int i, .int j => some (decide (i < j))
  | .le, .int i, .int j => some (decide (i ≤ j))
  | .gt, .int i, .int j => some (decide (j < i))
  | .ge, .int i, .int j => some (decide (j ≤ i))
  | .lt, .tup xs, .tup ys => match asInts xs, asInts ys with
    | some ns, some ms => some (HT.lexLt ns ms)
    | _, _ => none
  | .mem, x, .lst ys => memD x ys
  | .mem, x, .tup ys => memD x ys
  | .nmem, x, .lst ys => (memD x ys).map (!·)
  | .nmem, x, .tup ys => (memD x ys).map (!·)
  | .is_, .non, .non => some true
  | .is_, .bl _, .non => some false
  | .is_, .int _, .non => some false
  | .is_, .str _, .non => some false
  | .is_, .tup _, .non => some false
  | .is_, .lst _, .non => some false
  | .is_, .dic _ _, .non => some false
  | .is_, .bl a, .bl b => some (decide (a = b))
  | .isn, .non, .non => some false
  | .isn, .bl _, .non => some true
  | .isn, .int _, .non => some true
  | .isn, .str _, .non => some true
  | .isn, .tup _, .non => some true
  | .isn, .lst _, .non => some true
  | .isn, .dic _ _, .non => some true
  | .isn, .bl a, .bl b => some (!decide (a = b))
  | _, _, _ => none
def negD : D → Option D
  | .int i => some (.int (-i))
  | _ => none
def ixD : D → D → Option D
  | .lst xs, .int i => atI xs i
  | .tup xs, .int i => atI xs i
  | .str x, .int i => if x.length ≤ sizeLine then (atI x.cps.toList i).map fun c => .str ⟨#[c]⟩ else none
  | _, _ => none
/-- .. of a cell -/
def ixM (μ : Mu) (x y : D) : Option D := match x with
  | .cell c => match μ[c]? with
    | some ds => ixD (.lst ds) y
    | none => none
  | x => ixD x y
def cut {α : Type} (xs : List α) (lo hi : Option Int) : List α := (xs.drop (HT.sIx xs.length 0 lo)).take (HT.sIx xs.length xs.length hi - HT.sIx xs.length 0 lo)
def partE : E → D → Option (Option Int)
  | .nil, _ => some none
  | _, .int i => some (some i)
  | _, _ => none
def slD (x : D) (lo hi : Option Int) : Option D := match x with
  | .lst xs => some (.lst (cut xs lo hi))
  | .tup xs => some (.tup (cut xs lo hi))
  | .scr ns => some (.lst ((cut ns lo hi).map .int))
  | _ => none
def isort (x : Int) : List Int → List Int
  | [] => [x]
  | y :: r => if x ≤ y then x :: y :: r else y :: isort x r
def sortI : List Int → List Int
  | [] => []
  | x :: r => isort x (sortI r)
def mxI : Int → List Int → Int
  | m, [] => m
  | m, x :: r => mxI (if x > m then x else m) r
def mnI : Int → List Int → Int
  | m, [] => m
  | m, x :: r => mnI (if x < m then x else m) r
/-- pairs of ints -/
def asPrs : List D → Option (List (Int × Int))
  | [] => some []
  | .tup [.int a, .int b] :: r => (asPrs r).map ((a, b) :: ·)
  | _ :: _ => none
def prLt (x y : Int × Int) : Bool := decide (x.1 < y.1 ∨ (x.1 = y.1 ∧ x.2 < y.2))
def mxP : Int × Int → List (Int × Int) → Int × Int
  | m, [] => m
  | m, x :: r => mxP (if prLt m x = true then x else m) r
def mnP : Int × Int → List (Int × Int) → Int × Int
  | m, [] => m
  | m, x :: r => mnP (if prLt x m = true then x else m) r
def prD (x : Int × Int) : D := .tup [.int x.1, .int x.2]
def rngL (lo hi : Int) : List D := (List.range (hi - lo).toNat).map fun i => .int (lo + (i : Nat))
def itemsD : D → Option (List D)
  | .lst xs => some xs
  | .tup xs => some xs
  | .str x => some (x.cps.toList.map fun c => .str ⟨#[c]⟩)
  | _ => none
/-- the things of what is walked -/
def itemsE : E → D → Option (List D)
  | .rng _, .rng lo hi => some (rngL lo hi)
  | _, d => itemsD d
def lenD : D → Option Nat
  | .lst xs => some xs.length
  | .tup xs => some xs.length
  | .str x => if x.length ≤ sizeLine then some x.length else none
  | _ => none
def reprE : D → Option Str
  | .dic [] [] => some (PyData.shown (.dict []))
  | _ => none
def reprD (d : D) : Option Str := match toPy d with
  | some p => if p.showable && (SeqAt.shaped p && decide (p.shown.length ≤ sizeLine)) then some p.shown else none
  | none => reprE d
def biD : Bi → List D → Option D
  | .abs, [.int i] => some (.int (if i < 0 then -i else i))
  | .all, [.lst xs] => (asBls xs).map fun bs => .bl (bs.all id)
  | .any, [.lst xs] => (asBls xs).map fun bs => .bl (bs.any id)
  | .int, [.int i] => some (.int i)
  | .int, [.bl b] => some (.int (if b then 1 else 0))
  | .len, [x] => (lenD x).map fun n => .int (n : Nat)
  | .list, [.lst xs] => some (.lst xs)
  | .list, [.tup xs] => some (.lst xs)
  | .tuple, [.lst xs] => some (.tup xs)
  | .tuple, [.tup xs] => some (.tup xs)
  | .max, [.int i, .int j] => some (.int (if j > i then j else i))
  | .min, [.int i, .int j] => some (.int (if j < i then j else i))
  | .max, [.lst xs] => match asInts xs with
    | some (m :: r) => some (.int (mxI m r))
    | _ => match asPrs xs with
      | some (m :: r) => some (prD (mxP m r))
      | _ => none
  | .min, [.lst xs] => match asInts xs with
    | some (m :: r) => some (.int (mnI m r))
    | _ => match asPrs xs with
      | some (m :: r) => some (prD (mnP m r))
      | _ => none
  | .sum, [.lst xs] => (asInts xs).map fun ns => .int ns.sum
  | .sum, [.tup xs] => (asInts xs).map fun ns => .int ns.sum
  | .max, [.tup xs] => match asInts xs with
    | some (m :: r) => some (.int (mxI m r))
    | _ => none
  | .min, [.tup xs] => match asInts xs with
    | some (m :: r) => some (.int (mnI m r))
    | _ => none
  | .sorted, [.lst xs] => (asInts xs).map fun ns => .lst ((sortI ns).map .int)
  | .repr, [x] => (reprD x).map .str
  | _, _ => none
def isTy : Ty → D → Option Bool
  | t, .non => some false
  | t, .bl _ => some (t == .int || t == .bool)
  | t, .int _ => some (t == .int)
  | t, .str _ => some (t == .str)
  | t, .tup _ => some (t == .tuple)
  | t, .lst _ => some (t == .list)
  | t, .dic _ _ => some (t == .dict)
  | _, _ => none
def findF (x : D) : List D → Nat → Option Nat
  | [], _ => none
  | y :: r, n => if eqF y x then some n else findF x r (n + 1)
def mtD : Mt → D → D → Option D
  | .count, .lst xs, y => if flat y && xs.all flat then some (.int ((xs.countP fun x => eqF x y : Nat))) else none
  | .index, .lst xs, y => if flat y && xs.all flat then (findF y xs 0).map fun n => .int (n : Nat) else none
  | _, _, _ => none
def zip2 : List D → List D → List D
  | x :: xs, y :: ys => .tup [x, y] :: zip2 xs ys
  | _, _ => []
def enum2 : List D → Int → List D
  | [], _ => []
  | x :: xs, n => .tup [.int n, x] :: enum2 xs (n + 1)

/-- list(range(x, y)), tuple(range(x, y)) -/
def lrgD (tp : Bool) : D → D → Option D
  | .int lo, .int hi => if -(2 ^ 62) ≤ lo ∧ lo < 2 ^ 62 ∧ -(2 ^ 62) ≤ hi ∧ hi < 2 ^ 62 ∧ (hi - lo).toNat ≤ 2 ^ 24 then some (if tp = true then .tup (rngL lo hi) else .lst (rngL lo hi)) else none
  | _, _ => none
def setTg : Tg → D → Env → Option Env
  | .name i, d, ρ => some (ρ.set i (.sh d))
  | .tup t, .tup ds, ρ => setTg t (.tup ds) ρ
  | .tup t, .lst ds, ρ => setTg t (.tup ds) ρ
  | .nil, .tup [], ρ => some ρ
  | .cons h t, .tup (d :: ds), ρ => (setTg h d ρ).bind fun ρ' => setTg t (.tup ds) ρ'
  | _, _, _ => none
def Tg.slots : Tg → List Nat
  | .name i => [i]
  | .tup t => t.slots
  | .nil => []
  | .cons h t => h.slots ++ t.slots

/-- the functions of the text, the constants, the classes of errors with the one that all come from -/
structure Fns where
  call : Nat → List D → Mu → R D
  con : Nat → D
  /-- f(lambda: e): what f makes of what e is worth -/
  cat : Nat → (Mu → R D) → Mu → R D
  /-- in a def that is handed a lambda: what the lambda makes -/
  act : Mu → R D
/-- a turn of a list comprehension -/
def compL (f : D → Mu → R (Option D)) : List D → List D → Mu → R (List D)
  | [], acc, μ => .ok acc μ
  | d :: ds, acc, μ => match f d μ with
    | .ok (some y) μ' => if acc.length < sizeLine then compL f ds (acc ++ [y]) μ' else .bad
    | .ok none μ' => compL f ds acc μ'
    | _ => .bad
def wipeE (ρ : Env) : List Nat → Env
  | [] => ρ
  | i :: r => (wipeE ρ r).set i .un

def evE (C : Fns) : E → Env → Mu → R D
  | .var i, ρ, μ => match ρ[i]? with
    | some (.sh d) => .ok d μ
    | _ => .bad
  | .pk i, ρ, μ => match ρ[i]? with
    | some (.sh d) => .ok d μ
    | some (.own ds) => .ok (.lst ds) μ
    | some (.lent ds) => .ok (.lst ds) μ
    | _ => .bad
  | .int i, _, μ => .ok (.int i) μ
  | .bl b, _, μ => .ok (.bl b) μ
  | .non, _, μ => .ok .non μ
  | .str x, _, μ => .ok (.str x) μ
  | .gc x, _, μ => .ok (C.con x) μ
  | .fnv f, _, μ => .ok (.fn f) μ
  | .nil, _, μ => .ok (.tup []) μ
  | .cons h t, ρ, μ => (evE C h ρ μ).bind fun d μ => (evE C t ρ μ).bind fun r μ => match r with
    | .tup ds => .ok (.tup (d :: ds)) μ
    | _ => .bad
  | .tup es, ρ, μ => evE C es ρ μ
  | .lst es, ρ, μ => (evE C es ρ μ).bind fun r μ => match r with
    | .tup ds => .ok (.lst ds) μ
    | _ => .bad
  | .dic ks es, ρ, μ => (evE C es ρ μ).bind fun r μ => match r with
    | .tup ds => if ks.length = ds.length then .ok (.dic ks ds) μ else .bad
    | _ => .bad
  | .bin op a b, ρ, μ => (evE C a ρ μ).bind fun x μ => (evE C b ρ μ).bind fun y μ => R.of (binD op x y) μ
  | .neg a, ρ, μ => (evE C a ρ μ).bind fun x μ => R.of (negD x) μ
  | .cmp op a b, ρ, μ => (evE C a ρ μ).bind fun x μ => (evE C b ρ μ).bind fun y μ => R.of ((cmpD op x y).map .bl) μ
  | .chn o1 o2 a b c, ρ, μ => (evE C a ρ μ).bind fun x μ => (evE C b ρ μ).bind fun y μ => (R.of (cmpD o1 x y) μ).bind fun k μ =>
    if k = true then (evE C c ρ μ).bind fun z μ => R.of ((cmpD o2 y z).map .bl) μ else .ok (.bl false) μ
  | .and1 a, ρ, μ => evE C a ρ μ
  | .and a r, ρ, μ => (evE C a ρ μ).bind fun x μ => match x with
    | .bl k => if k = true then evE C r ρ μ else .ok (.bl false) μ
    | _ => .bad
  | .or1 a, ρ, μ => evE C a ρ μ
  | .or a r, ρ, μ => (evE C a ρ μ).bind fun x μ => match x with
    | .bl k => if k = true then .ok (.bl true) μ else evE C r ρ μ
    | _ => .bad
  | .not a, ρ, μ => (evE C a ρ μ).bind fun x μ => match x with
    | .bl k => .ok (.bl (!k)) μ
    | _ => .bad
  | .ite c a b, ρ, μ => (evE C c ρ μ).bind fun x μ => match x with
    | .bl k => if k = true then evE C a ρ μ else evE C b ρ μ
    | _ => .bad
  | .idx a i, ρ, μ => (evE C a ρ μ).bind fun x μ => (evE C i ρ μ).bind fun y μ => R.of (ixM μ x y) μ
  | .sl a lo hi, ρ, μ => (evE C a ρ μ).bind fun x μ => (evE C lo ρ μ).bind fun l μ => (R.of (partE lo l) μ).bind fun l μ => (evE C hi ρ μ).bind fun h μ => (R.of (partE hi h) μ).bind fun h μ => R.of (slD x l h) μ
  | .rev a, ρ, μ => (evE C a ρ μ).bind fun x μ => match x with
    | .lst xs => .ok (.lst xs.reverse) μ
    | .tup xs => .ok (.tup xs.reverse) μ
    | _ => .bad
  | .call f es, ρ, μ => (evE C es ρ μ).bind fun r μ => match r with
    | .tup ds => C.call f ds μ
    | _ => .bad
  | .clv i fs es, ρ, μ => match ρ[i]? with
    | some (.sh (.fn f)) => if fs.contains f = true then (evE C es ρ μ).bind fun r μ => match r with
      | .tup ds => C.call f ds μ
      | _ => .bad
      else .bad
    | _ => .bad
  | .lrg tp a b, ρ, μ => (evE C a ρ μ).bind fun x μ => (evE C b ρ μ).bind fun y μ => R.of (lrgD tp x y) μ
  | .lam f e, ρ, μ => C.cat f (fun μ => evE C e ρ μ) μ
  | .act, _, μ => C.act μ
  | .bi b es, ρ, μ => (evE C es ρ μ).bind fun r μ => match r with
    | .tup ds => R.of (biD b ds) μ
    | _ => .bad
  | .isi a t, ρ, μ => (evE C a ρ μ).bind fun x μ => R.of ((isTy t x).map .bl) μ
  | .mt m a e, ρ, μ => (evE C a ρ μ).bind fun x μ => match x with
    | .lst xs => (evE C e ρ μ).bind fun y μ => R.of (mtD m (.lst xs) y) μ
    | _ => .bad
  | .rng es, ρ, μ => (evE C es ρ μ).bind fun r μ => match r with
    | .tup [.int hi] => if -(2 ^ 62) ≤ hi ∧ hi < 2 ^ 62 then .ok (.rng 0 hi) μ else .bad
    | .tup [.int lo, .int hi] => if -(2 ^ 62) ≤ lo ∧ lo < 2 ^ 62 ∧ -(2 ^ 62) ≤ hi ∧ hi < 2 ^ 62 then .ok (.rng lo hi) μ else .bad
    | _ => .bad
  | .zip es, ρ, μ => (evE C es ρ μ).bind fun r μ => match r with
    | .tup [.lst xs, .lst ys] => .ok (.lst (zip2 xs ys)) μ
    | .tup [.tup xs, .tup ys] => .ok (.lst (zip2 xs ys)) μ
    | .tup [.lst xs, .tup ys] => .ok (.lst (zip2 xs ys)) μ
    | .tup [.tup xs, .lst ys] => .ok (.lst (zip2 xs ys)) μ
    | _ => .bad
  | .enm a, ρ, μ => (evE C a ρ μ).bind fun x μ => match x with
    | .lst xs => .ok (.lst (enum2 xs 0)) μ
    | .tup xs => .ok (.lst (enum2 xs 0)) μ
    | _ => .bad
  | .comp t it elt cond, ρ, μ => (evE C it ρ μ).bind fun x μ => match itemsE it x with
    | some ds => (compL (fun d μ => match setTg t d (wipeE ρ t.slots) with
      | some ρ' => match cond with
        | .nil => (evE C elt ρ' μ).bind fun y μ => .ok (some y) μ
        | _ => (evE C cond ρ' μ).bind fun k μ => match k with
          | .bl b => if b = true then (evE C elt ρ' μ).bind fun y μ => .ok (some y) μ else .ok none μ
          | _ => .bad
      | none => .bad) ds [] μ).bind fun ys μ => .ok (.lst ys) μ
    | none => .bad
  | .isx i c, ρ, μ => match ρ[i]? with
    | some (.exc x) => .ok (.bl (c == 0 || c == 1 || x.cls == c)) μ
    | _ => .bad
  | .fld i c, ρ, μ => match ρ[i]? with
    | some (.exc x) => if x.cls = c then R.of x.arg μ else .bad
    | _ => .bad

inductive S where
  | skip | seq (s r : S)
  | frz (i : Nat) (r : S)
  | asg (own : Bool) (t : Tg) (e : E)
  | par (is : List Nat) (es : E)
  | sub (o i e : E)
  | aug (op : BOp) (i : Nat) (e : E)
  | cond (c : E) (a b : S)
  | whl (c : E) (b : S)
  | for_ (t : Tg) (it : E) (b : S)
  | ret (e : E) | retO (i : Nat) | retN
  | exp (e : E)
  | app (i : Nat) (e : E) | ext (i : Nat) (e : E)
  | rse (c : Nat) (es : E)
  | brk | cont | pass
  | box (i : Nat) (e : E)
  | try_ (b : S) (i : Nat) (c : Nat) (h : S)
  | xas (os : List Bool) (is : List Nat) (es : E)

/-- what a statement ends in -/
inductive Fl where | nx (ρ : Env) | rt (d : D) | bk (ρ : Env) | ct (ρ : Env)

/-- is what the term tells, where it is a list, a new one? -/
def E.fr (ff : Nat → Bool) : E → Bool
  | .lst _ => true
  | .bin _ _ _ => true
  | .sl _ _ _ => true
  | .rev _ => true
  | .comp _ _ _ _ => true
  | .bi _ _ => true
  | .call f _ => ff f
  | .int _ => true
  | .bl _ => true
  | .non => true
  | .str _ => true
  | .tup _ => true
  | .cmp _ _ _ => true
  | .chn _ _ _ _ _ => true
  | .not _ => true
  | .neg _ => true
  | .isi _ _ => true
  | .mt _ _ _ => true
  | .lrg _ _ _ => true
  | .ite _ a b => a.fr ff && b.fr ff
  | _ => false
def newSlot (fr : Bool) (d : D) : Slot := match fr, d with
  | true, .lst ds => .own ds
  | _, d => .sh d
def setPar : List Nat → List D → Env → Option Env
  | [], [], ρ => some ρ
  | i :: is, d :: ds, ρ => setPar is ds (ρ.set i (.sh d))
  | _, _, _ => none
def setX : List Bool → List Nat → List D → Env → Option Env
  | [], [], [], ρ => some ρ
  | o :: os, i :: is, d :: ds, ρ => setX os is ds (ρ.set i (newSlot o d))
  | _, _, _, _ => none
def forL (f : D → Env → Mu → R Fl) : List D → Env → Mu → R Fl
  | [], ρ, μ => .ok (.nx ρ) μ
  | d :: ds, ρ, μ => match f d ρ μ with
    | .ok (.nx ρ') μ' => forL f ds ρ' μ'
    | .ok (.ct ρ') μ' => forL f ds ρ' μ'
    | .ok (.bk ρ') μ' => .ok (.nx ρ') μ'
    | .ok (.rt v) μ' => .ok (.rt v) μ'
    | .ex x μ' => .ex x μ'
    | .bad => .bad
def whlL (c : Env → Mu → R D) (b : Env → Mu → R Fl) : Nat → Env → Mu → R Fl
  | 0, _, _ => .bad
  | n + 1, ρ, μ => match c ρ μ with
    | .ok (.bl true) μ' => match b ρ μ' with
      | .ok (.nx ρ') μ'' => whlL c b n ρ' μ''
      | .ok (.ct ρ') μ'' => whlL c b n ρ' μ''
      | .ok (.bk ρ') μ'' => .ok (.nx ρ') μ''
      | .ok (.rt v) μ'' => .ok (.rt v) μ''
      | .ex x μ'' => .ex x μ''
      | .bad => .bad
    | .ok (.bl false) μ' => .ok (.nx ρ) μ'
    | .ok _ _ => .bad
    | .ex x μ' => .ex x μ'
    | .bad => .bad
def R.thn (r : R Fl) (f : Env → Mu → R Fl) : R Fl := match r with
  | .ok (.nx ρ) μ => f ρ μ
  | r => r
@[simp] theorem R.thn_nx (ρ : Env) (μ : Mu) (f : Env → Mu → R Fl) : (R.ok (.nx ρ) μ).thn f = f ρ μ := rfl
@[simp] theorem R.thn_rt (d : D) (μ : Mu) (f : Env → Mu → R Fl) : (R.ok (.rt d) μ).thn f = .ok (.rt d) μ := rfl
@[simp] theorem R.thn_bk (ρ : Env) (μ : Mu) (f : Env → Mu → R Fl) : (R.ok (.bk ρ) μ).thn f = .ok (.bk ρ) μ := rfl
@[simp] theorem R.thn_ct (ρ : Env) (μ : Mu) (f : Env → Mu → R Fl) : (R.ok (.ct ρ) μ).thn f = .ok (.ct ρ) μ := rfl
@[simp] theorem R.thn_ex (x : Exn) (μ : Mu) (f : Env → Mu → R Fl) : (R.ex x μ).thn f = .ex x μ := rfl
@[simp] theorem R.thn_bad (f : Env → Mu → R Fl) : (R.bad : R Fl).thn f = .bad := rfl
def setD (o i v : D) (μ : Mu) : Option Mu := match o, i with
  | .cell c, .int k => match μ[c]? with
    | some ds => (ixN ds.length k).map fun j => μ.set c (ds.set j v)
    | none => none
  | _, _ => none
/-- how often a while may turn -/
def whileMost : Nat := 1000000000000
def augD : BOp → D → D → Option D
  | .add, .int i, .int j => some (.int (i + j))
  | .sub, .int i, .int j => some (.int (i - j))
  | _, _, _ => none
def evS (C : Fns) : S → Env → Mu → R Fl
  | .skip, ρ, μ => .ok (.nx ρ) μ
  | .seq s r, ρ, μ => (evS C s ρ μ).thn fun ρ μ => evS C r ρ μ
  | .frz i r, ρ, μ => match ρ[i]? with
    | some (.own ds) => evS C r (ρ.set i (.sh (.lst ds))) μ
    | _ => evS C r ρ μ
  | .asg own t e, ρ, μ => (evE C e ρ μ).bind fun d μ => match t with
    | .name i => .ok (.nx (ρ.set i (newSlot own d))) μ
    | t => (R.of (setTg t d ρ) μ).bind fun ρ μ => .ok (.nx ρ) μ
  | .par is es, ρ, μ => (evE C es ρ μ).bind fun r μ => match r with
    | .tup ds => (R.of (setPar is ds ρ) μ).bind fun ρ μ => .ok (.nx ρ) μ
    | _ => .bad
  | .sub o i e, ρ, μ => (evE C e ρ μ).bind fun v μ => match o with
    | .pk n => match ρ[n]? with
      | some (.own ds) => (evE C i ρ μ).bind fun k μ => match k with
        | .int k => match ixN ds.length k with
          | some j => .ok (.nx (ρ.set n (.own (ds.set j v)))) μ
          | none => .bad
        | _ => .bad
      | _ => .bad
    | o => (evE C o ρ μ).bind fun x μ => (evE C i ρ μ).bind fun k μ => (R.of (setD x k v μ) μ).bind fun μ' _ => .ok (.nx ρ) μ'
  | .aug op i e, ρ, μ => match ρ[i]? with
    | some (.sh x) => (evE C e ρ μ).bind fun y μ => (R.of (augD op x y) μ).bind fun z μ => .ok (.nx (ρ.set i (.sh z))) μ
    | _ => .bad
  | .cond c a b, ρ, μ => (evE C c ρ μ).bind fun x μ => match x with
    | .bl k => if k = true then evS C a ρ μ else evS C b ρ μ
    | _ => .bad
  | .whl c b, ρ, μ => whlL (evE C c) (evS C b) whileMost ρ μ
  | .for_ t it b, ρ, μ => (evE C it ρ μ).bind fun x μ => match itemsE it x with
    | some ds => forL (fun d ρ μ => (R.of (setTg t d ρ) μ).bind fun ρ μ => evS C b ρ μ) ds ρ μ
    | none => .bad
  | .ret e, ρ, μ => (evE C e ρ μ).bind fun d μ => .ok (.rt d) μ
  | .retO i, ρ, μ => match ρ[i]? with
    | some (.own ds) => .ok (.rt (.lst ds)) μ
    | _ => .bad
  | .retN, ρ, μ => .ok (.rt .non) μ
  | .exp e, ρ, μ => (evE C e ρ μ).bind fun _ μ => .ok (.nx ρ) μ
  | .app i e, ρ, μ => match ρ[i]? with
    | some (.own ds) => (evE C e ρ μ).bind fun d μ => if ds.length < sizeLine then .ok (.nx (ρ.set i (.own (ds ++ [d])))) μ else .bad
    | _ => .bad
  | .ext i e, ρ, μ => match ρ[i]? with
    | some (.own ds) => (evE C e ρ μ).bind fun d μ => match d with
      | .lst es => if ds.length + es.length ≤ sizeLine then .ok (.nx (ρ.set i (.own (ds ++ es)))) μ else .bad
      | _ => .bad
    | _ => .bad
  | .rse c es, ρ, μ => (evE C es ρ μ).bind fun r μ => match r with
    | .tup [] => .ex ⟨c, none⟩ μ
    | .tup [d] => .ex ⟨c, some d⟩ μ
    | _ => .bad
  | .brk, ρ, μ => .ok (.bk ρ) μ
  | .cont, ρ, μ => .ok (.ct ρ) μ
  | .pass, ρ, μ => .ok (.nx ρ) μ
  | .box i e, ρ, μ => (evE C e ρ μ).bind fun d μ => match d with
    | .lst ds => .ok (.nx (ρ.set i (.sh (.cell μ.length)))) (μ ++ [ds])
    | _ => .bad
  | .xas os is es, ρ, μ => (evE C es ρ μ).bind fun r μ => match r with
    | .tup ds => (R.of (setX os is ds ρ) μ).bind fun ρ μ => .ok (.nx ρ) μ
    | _ => .bad
  | .try_ b i c h, ρ, μ => match evS C b ρ μ with
    | .ex x μ' => (evS C h (ρ.set i (.exc x)) μ').thn fun ρ μ => .ok (.nx (ρ.set i .un)) μ
    | r => r
end Ev
end

section
set_option Elab.async false
set_option linter.all false
set_option maxRecDepth 100000
set_option maxHeartbeats 2000000
namespace Ev
open PySem PySem.Spec PyProof.Rows L2

/-- the field of an error that is caught -/
def ArgOk (G : Gx) (cs : List Addr) (Hf : Hp) (x : Exn) : Prop := (x.arg = none → G.xd = none) ∧ ∀ d, x.arg = some d → ∃ dd v, G.xd = some dd ∧ Hf dd = some (.xd [(G.ef x.cls, v)]) ∧ Rep G cs Hf d v
theorem ArgOk.mono {G : Gx} {cs cs' : List Addr} {Hf Hf' : Hp} {x : Exn} (h : ArgOk G cs Hf x) (e : ∀ a o, Hf a = some o → Hf' a = some o) (hc : ∀ (c : Nat) (a : Addr), cs[c]? = some a → cs'[c]? = some a) : ArgOk G cs' Hf' x :=
  ⟨h.1, fun d q => let ⟨dd, v, h1, h2, h3⟩ := h.2 d q; ⟨dd, v, h1, e _ _ h2, Rep.mono e hc d v h3⟩⟩
/-- what a slot says -/
def SlotOk (G : Gx) (cs : List Addr) (H0 H Hf : Hp) (s : Slot) (o : Option (Option V)) : Prop := match s with
  | .un => True
  | .sh d => ∃ v, o = some (some v) ∧ Rep G cs Hf d v
  | .own ds => ∃ a vs, o = some (some (.ref a)) ∧ H a = some (.lst vs) ∧ Hf a = none ∧ a ∉ cs ∧ Fre H0 a ∧ Reps G cs Hf ds vs
  | .lent ds => ∃ a vs, o = some (some (.ref a)) ∧ H a = some (.lst vs) ∧ Hf a = none ∧ a ∉ cs ∧ Fre H0 a ∧ Reps G cs Hf ds vs
  | .exc x => o = some (some (.ref G.xa)) ∧ x.cls = G.xc ∧ ArgOk G cs Hf x
def isOwn : Slot → Bool
  | .own _ => true
  | .lent _ => true
  | _ => false

/-- a frame's slots over plain data; (cs0, H0, Hf0): the entry -/
structure Rel (G : Gx) (cs0 : List Addr) (H0 Hf0 : Hp) (ρ : Env) (μ : Mu) (cs : List Addr) (σ : L2.St) (H Hf : Hp) : Prop where
  st : Step G cs0 H0 Hf0 cs H Hf μ
  len : ρ.length = σ.length
  slot : ∀ (i : Nat) (s : Slot), ρ[i]? = some s → SlotOk G cs H0 H Hf s (σ[i]?)
  apart : ∀ (i j : Nat) (s t : Slot) (a : Addr), ρ[i]? = some s → ρ[j]? = some t → isOwn s = true → isOwn t = true → σ[i]? = some (some (.ref a)) → σ[j]? = some (some (.ref a)) → i = j

section
variable {G : Gx} {cs0 cs cs' : List Addr} {H0 Hf0 H Hf H' Hf' : Hp} {ρ : Env} {μ μ' : Mu} {σ : L2.St}
theorem Rel.well (r : Rel G cs0 H0 Hf0 ρ μ cs σ H Hf) : Well G cs H Hf μ := r.st.well
theorem ne_none {α : Type} {o : Option α} {x : α} (h : o = some x) : o ≠ none := by rw [h]; exact fun z => nomatch z
theorem none_back {cs cs' : List Addr} {H Hf H' Hf' : Hp} {μ' : Mu} (t : Step G cs H Hf cs' H' Hf' μ') {a : Addr} (n : Fre H' a) : Fre H a := t.fre a n
theorem SlotOk.step {s : Slot} {o : Option (Option V)} (h : SlotOk G cs H0 H Hf s o) (t : Step G cs H Hf cs' H' Hf' μ') : SlotOk G cs' H0 H' Hf' s o := by
  have own : ∀ ds, (∃ a vs, o = some (some (.ref a)) ∧ H a = some (.lst vs) ∧ Hf a = none ∧ a ∉ cs ∧ Fre H0 a ∧ Reps G cs Hf ds vs) →
      ∃ a vs, o = some (some (.ref a)) ∧ H' a = some (.lst vs) ∧ Hf' a = none ∧ a ∉ cs' ∧ Fre H0 a ∧ Reps G cs' Hf' ds vs := fun ds ⟨a, vs, e, h1, h2, h3, h5, h4⟩ => by
    refine ⟨a, vs, e, t.keep a _ h1 h3 ntb_lst, ?_, fun z => h3 (t.memc z (fun f => f.no h1 ntb_lst)), h5, t.reps h4⟩
    cases q : Hf' a with
    | none => rfl
    | some o =>
      rcases t.new a o q with z | z
      · rw [h2] at z; cases z
      · exact (z.no h1 ntb_lst).elim
  cases s with
  | un => trivial
  | sh d => obtain ⟨v, e, r⟩ := h; exact ⟨v, e, t.rep r⟩
  | own ds => exact own ds h
  | lent ds => exact own ds h
  | exc x => exact ⟨h.1, h.2.1, h.2.2.mono t.ext t.pix⟩
theorem Rel.step (r : Rel G cs0 H0 Hf0 ρ μ cs σ H Hf) (t : Step G cs H Hf cs' H' Hf' μ') : Rel G cs0 H0 Hf0 ρ μ' cs' σ H' Hf' :=
  ⟨r.st.trans t, r.len, fun i s e => (r.slot i s e).step t, r.apart⟩
/-- a slot's plain value is known -/
theorem Rel.sh (r : Rel G cs0 H0 Hf0 ρ μ cs σ H Hf) {i : Nat} {d : D} (e : ρ[i]? = some (.sh d)) : ∃ v, σ[i]? = some (some v) ∧ Rep G cs Hf d v := r.slot i _ e
theorem Rel.own (r : Rel G cs0 H0 Hf0 ρ μ cs σ H Hf) {i : Nat} {ds : List D} (e : ρ[i]? = some (.own ds) ∨ ρ[i]? = some (.lent ds)) :
    ∃ a vs, σ[i]? = some (some (.ref a)) ∧ H a = some (.lst vs) ∧ Hf a = none ∧ a ∉ cs ∧ Fre H0 a ∧ Reps G cs Hf ds vs := by
  rcases e with e | e
  · exact r.slot i _ e
  · exact r.slot i _ e
end

/-- an error: its class, its own dict -/
def ExOk (G : Gx) (ec : Nat → Addr) (cs : List Addr) (Hf : Hp) (x : Exn) (cls : Value) (dx : Option Addr) : Prop := cls = .ref (ec x.cls) ∧ match x.arg with
  | none => dx = none
  | some d => ∃ a v, dx = some a ∧ Hf a = some (.xd [(G.ef x.cls, v)]) ∧ Rep G cs Hf d v
abbrev RX := List Addr → Hp → Hp → Hp → D → V → Prop
/-- held by frozen things alone -/
def Pst (G : Gx) : RX := fun cs' _ _ Hf' d v => Rep G cs' Hf' d v
/-- a list is a new one that nothing else holds -/
def Pfr (G : Gx) : RX := fun cs' H H' Hf' d v => match d with
  | .lst ds => ∃ a vs, v = .ref a ∧ Fre H a ∧ H' a = some (.lst vs) ∧ Hf' a = none ∧ a ∉ cs' ∧ Reps G cs' Hf' ds vs
  | d => Rep G cs' Hf' d v
/-- a list may be one that a name owns -/
def Pwk (G : Gx) : RX := fun cs' _ H' Hf' d v => Rep G cs' Hf' d v ∨ ∃ ds a vs, d = .lst ds ∧ v = .ref a ∧ H' a = some (.lst vs) ∧ a ∉ cs' ∧ Reps G cs' Hf' ds vs
/-- the walk's end at a result -/
def Post (G : Gx) (ec : Nat → Addr) (W : WX) (σ : L2.St) (r : R D) (cs : List Addr) (H Hf : Hp) (Q : VK) (P : RX) : Prop := match r with
  | .ok d μ' => ∀ v cs' H' Hf', Step G cs H Hf cs' H' Hf' μ' → P cs' H H' Hf' d v → Q v H'
  | .ex x μ' => ∀ cls dx cs' H' Hf', Step G cs H Hf cs' H' Hf' μ' → ExOk G ec cs' Hf' x cls dx → W cls dx σ H'
  | .bad => False
def tE (G : Gx) (ec : Nat → Addr) (W : WX) (ev : Env → Mu → R D) (P : RX) : TE := fun σ H Q => ∃ cs0 H0 Hf0 ρ μ cs Hf, Rel G cs0 H0 Hf0 ρ μ cs σ H Hf ∧ Post G ec W σ (ev ρ μ) cs H Hf Q P
def PostB (G : Gx) (ec : Nat → Addr) (W : WX) (σ : L2.St) (r : R D) (cs : List Addr) (H Hf : Hp) (Q : Bool → Hp → Prop) : Prop := match r with
  | .ok (.bl b) μ' => ∀ cs' H' Hf', Step G cs H Hf cs' H' Hf' μ' → Q b H'
  | .ex x μ' => ∀ cls dx cs' H' Hf', Step G cs H Hf cs' H' Hf' μ' → ExOk G ec cs' Hf' x cls dx → W cls dx σ H'
  | _ => False
def tT (G : Gx) (ec : Nat → Addr) (W : WX) (ev : Env → Mu → R D) : TT := fun σ H Q => ∃ cs0 H0 Hf0 ρ μ cs Hf, Rel G cs0 H0 Hf0 ρ μ cs σ H Hf ∧ PostB G ec W σ (ev ρ μ) cs H Hf Q
def PostA (G : Gx) (ec : Nat → Addr) (W : WX) (σ : L2.St) (r : R D) (cs : List Addr) (H Hf : Hp) (Q : List V → Hp → Prop) : Prop := match r with
  | .ok (.tup ds) μ' => ∀ vs cs' H' Hf', Step G cs H Hf cs' H' Hf' μ' → Reps G cs' Hf' ds vs → Q vs H'
  | .ex x μ' => ∀ cls dx cs' H' Hf', Step G cs H Hf cs' H' Hf' μ' → ExOk G ec cs' Hf' x cls dx → W cls dx σ H'
  | _ => False
def tA (G : Gx) (ec : Nat → Addr) (W : WX) (ev : Env → Mu → R D) : TA := fun σ H Q => ∃ cs0 H0 Hf0 ρ μ cs Hf, Rel G cs0 H0 Hf0 ρ μ cs σ H Hf ∧ PostA G ec W σ (ev ρ μ) cs H Hf Q

section
variable {G : Gx} {ec : Nat → Addr} {W : WX} {σ : L2.St} {cs cs1 : List Addr} {H Hf H1 Hf1 : Hp} {Q : VK} {P P' : RX} {μ μ1 : Mu}
/-- results that may be told from an earlier state -/
def Back (G : Gx) (P : RX) : Prop := ∀ cs H Hf cs1 H1 Hf1 μ1, Step G cs H Hf cs1 H1 Hf1 μ1 → ∀ cs' H' Hf' d v, P cs' H1 H' Hf' d v → P cs' H H' Hf' d v
theorem back_st : Back G (Pst G) := fun _ _ _ _ _ _ _ _ _ _ _ _ _ h => h
theorem back_wk : Back G (Pwk G) := fun _ _ _ _ _ _ _ _ _ _ _ _ _ h => h
theorem back_fr : Back G (Pfr G) := fun cs H Hf cs1 H1 Hf1 μ1 s cs' H' Hf' d v h => by
  cases d with
  | lst ds =>
    obtain ⟨a, vs, e, n, r⟩ := h
    exact ⟨a, vs, e, none_back s n, r⟩
  | _ => exact h
theorem Post.step (b : Back G P) (s : Step G cs H Hf cs1 H1 Hf1 μ1) {r : R D} (h : Post G ec W σ r cs H Hf Q P) : Post G ec W σ r cs1 H1 Hf1 Q P := by
  cases r with
  | ok d μ' => exact fun v cs' H' Hf' t p => h v cs' H' Hf' (s.trans t) (b _ _ _ _ _ _ _ s _ _ _ _ _ p)
  | ex x μ' => exact fun cls dx cs' H' Hf' t p => h cls dx cs' H' Hf' (s.trans t) p
  | bad => exact h
theorem PostB.step (s : Step G cs H Hf cs1 H1 Hf1 μ1) {r : R D} {Q : Bool → Hp → Prop} (h : PostB G ec W σ r cs H Hf Q) : PostB G ec W σ r cs1 H1 Hf1 Q := by
  cases r with
  | ok d μ' =>
    cases d with
    | bl b => exact fun cs' H' Hf' t => h cs' H' Hf' (s.trans t)
    | _ => exact h
  | ex x μ' => exact fun cls dx cs' H' Hf' t p => h cls dx cs' H' Hf' (s.trans t) p
  | bad => exact h
theorem PostA.step (s : Step G cs H Hf cs1 H1 Hf1 μ1) {r : R D} {Q : List V → Hp → Prop} (h : PostA G ec W σ r cs H Hf Q) : PostA G ec W σ r cs1 H1 Hf1 Q := by
  cases r with
  | ok d μ' =>
    cases d with
    | tup ds => exact fun vs cs' H' Hf' t p => h vs cs' H' Hf' (s.trans t) p
    | _ => exact h
  | ex x μ' => exact fun cls dx cs' H' Hf' t p => h cls dx cs' H' Hf' (s.trans t) p
  | bad => exact h
/-- first r, then f -/
theorem Post.bind (b : Back G P') {r : R D} {f : D → Mu → R D} {Q1 : VK} (h : Post G ec W σ (r.bind f) cs H Hf Q P')
    (k : ∀ d μ1 v cs1 H1 Hf1, Step G cs H Hf cs1 H1 Hf1 μ1 → P cs1 H H1 Hf1 d v → Post G ec W σ (f d μ1) cs1 H1 Hf1 Q P' → Q1 v H1) : Post G ec W σ r cs H Hf Q1 P := by
  cases r with
  | ok d μ' => exact fun v cs' H' Hf' s p => k d μ' v cs' H' Hf' s p (Post.step b s h)
  | ex x μ' => exact h
  | bad => exact h
theorem Post.bindB {r : R D} {f : D → Mu → R D} {Q1 : VK} {Q : Bool → Hp → Prop} (h : PostB G ec W σ (r.bind f) cs H Hf Q)
    (k : ∀ d μ1 v cs1 H1 Hf1, Step G cs H Hf cs1 H1 Hf1 μ1 → P cs1 H H1 Hf1 d v → PostB G ec W σ (f d μ1) cs1 H1 Hf1 Q → Q1 v H1) : Post G ec W σ r cs H Hf Q1 P := by
  cases r with
  | ok d μ' => exact fun v cs' H' Hf' s p => k d μ' v cs' H' Hf' s p (PostB.step s h)
  | ex x μ' => exact h
  | bad => exact h
theorem Post.bindA {r : R D} {f : D → Mu → R D} {Q1 : VK} {Q : List V → Hp → Prop} (h : PostA G ec W σ (r.bind f) cs H Hf Q)
    (k : ∀ d μ1 v cs1 H1 Hf1, Step G cs H Hf cs1 H1 Hf1 μ1 → P cs1 H H1 Hf1 d v → PostA G ec W σ (f d μ1) cs1 H1 Hf1 Q → Q1 v H1) : Post G ec W σ r cs H Hf Q1 P := by
  cases r with
  | ok d μ' => exact fun v cs' H' Hf' s p => k d μ' v cs' H' Hf' s p (PostA.step s h)
  | ex x μ' => exact h
  | bad => exact h
/-- first the arguments r, then f -/
theorem PostA.bind (b : Back G P) {r : R D} {f : D → Mu → R D} {Q1 : List V → Hp → Prop} (h : Post G ec W σ (r.bind f) cs H Hf Q P)
    (hf : ∀ d μ1, (∀ ds, d ≠ .tup ds) → f d μ1 = .bad)
    (k : ∀ ds μ1 vs cs1 H1 Hf1, Step G cs H Hf cs1 H1 Hf1 μ1 → Reps G cs1 Hf1 ds vs → Post G ec W σ (f (.tup ds) μ1) cs1 H1 Hf1 Q P → Q1 vs H1) : PostA G ec W σ r cs H Hf Q1 := by
  cases r with
  | ok d μ' =>
    cases d with
    | tup ds => exact fun vs cs' H' Hf' s p => k ds μ' vs cs' H' Hf' s p (Post.step b s h)
    | _ => exact (show False by have h : Post G ec W σ (f _ μ') cs H Hf Q P := h; rw [hf _ _ (by intro _ z; cases z)] at h; exact h)
  | ex x μ' => exact h
  | bad => exact h
/-- first a test r, then f -/
theorem PostB.bind (b : Back G P) {r : R D} {f : D → Mu → R D} {Q1 : Bool → Hp → Prop} (h : Post G ec W σ (r.bind f) cs H Hf Q P)
    (hf : ∀ d μ1, (∀ k, d ≠ .bl k) → f d μ1 = .bad)
    (k : ∀ c μ1 cs1 H1 Hf1, Step G cs H Hf cs1 H1 Hf1 μ1 → Post G ec W σ (f (.bl c) μ1) cs1 H1 Hf1 Q P → Q1 c H1) : PostB G ec W σ r cs H Hf Q1 := by
  cases r with
  | ok d μ' =>
    cases d with
    | bl c => exact fun cs' H' Hf' s => k c μ' cs' H' Hf' s (Post.step b s h)
    | _ => exact (show False by have h : Post G ec W σ (f _ μ') cs H Hf Q P := h; rw [hf _ _ (by intro _ z; cases z)] at h; exact h)
  | ex x μ' => exact h
  | bad => exact h
theorem PostB.bindB {r : R D} {f : D → Mu → R D} {Q Q1 : Bool → Hp → Prop} (h : PostB G ec W σ (r.bind f) cs H Hf Q)
    (hf : ∀ d μ1, (∀ k, d ≠ .bl k) → f d μ1 = .bad)
    (k : ∀ c μ1 cs1 H1 Hf1, Step G cs H Hf cs1 H1 Hf1 μ1 → PostB G ec W σ (f (.bl c) μ1) cs1 H1 Hf1 Q → Q1 c H1) : PostB G ec W σ r cs H Hf Q1 := by
  cases r with
  | ok d μ' =>
    cases d with
    | bl c => exact fun cs' H' Hf' s => k c μ' cs' H' Hf' s (PostB.step s h)
    | _ => exact (show False by have h : PostB G ec W σ (f _ μ') cs H Hf Q := h; rw [hf _ _ (by intro _ z; cases z)] at h; exact h)
  | ex x μ' => exact h
  | bad => exact h
/-- what is wished of strong results holds of new lists too: they are frozen -/
theorem Post.fresh {r : R D} (h : Post G ec W σ r cs H Hf Q (Pst G)) : Post G ec W σ r cs H Hf Q (Pfr G) := by
  cases r with
  | ok d μ' =>
    intro v cs' H' Hf' s p
    cases d with
    | lst ds =>
      obtain ⟨a, vs, e, n, h1, h2, h3, h4⟩ := p
      have t := s.freeze n h1 h2 h3 ntb_lst
      refine h v cs' H' _ t (Rep.lst_iff.mpr ⟨a, vs, e, upd_same, ?_⟩)
      exact Reps.mono (fun b u q => by rw [upd_ne (fun z => by rw [z, h2] at q; cases q)]; exact q) (fun _ _ q => q) _ _ h4
    | _ => exact h v cs' H' Hf' s p
  | ex x μ' => exact h
  | bad => exact h
theorem Post.weak_st {r : R D} (h : Post G ec W σ r cs H Hf Q (Pwk G)) : Post G ec W σ r cs H Hf Q (Pst G) := by
  cases r with
  | ok d μ' => exact fun v cs' H' Hf' s p => h v cs' H' Hf' s (.inl p)
  | ex x μ' => exact h
  | bad => exact h
theorem Post.weak_fr {r : R D} (h : Post G ec W σ r cs H Hf Q (Pwk G)) : Post G ec W σ r cs H Hf Q (Pfr G) := by
  cases r with
  | ok d μ' =>
    intro v cs' H' Hf' s p
    cases d with
    | lst ds =>
      obtain ⟨a, vs, e, n, h1, h2, h3, h4⟩ := p
      exact h v cs' H' Hf' s (.inr ⟨ds, a, vs, rfl, e, h1, h3, h4⟩)
    | _ => exact h v cs' H' Hf' s (.inl p)
  | ex x μ' => exact h
  | bad => exact h
/-- a fresh-list wish where no list is told -/
theorem Pfr.of {cs' : List Addr} {H' Hf' : Hp} {d : D} {v : V} (hd : ∀ ds, d ≠ .lst ds) (h : Rep G cs' Hf' d v) : Pfr G cs' H H' Hf' d v := by
  cases d with
  | lst ds => exact absurd rfl (hd ds)
  | _ => exact h
end
section
variable {X : Cx} {e : Expr} {t t' : TE}
theorem _root_.L2.PE.imp (h : PE X e t) (k : ∀ σ H Q, t' σ H Q → t σ H Q) : PE X e t' := ⟨fun pins s σ H Q I q => h.run pins s σ H Q I (k σ H Q q)⟩
theorem _root_.L2.PT.imp {t t' : TT} (h : PT X e t) (k : ∀ σ H Q, t' σ H Q → t σ H Q) : PT X e t' := ⟨fun pins s σ H Q I q => h.run pins s σ H Q I (k σ H Q q)⟩
theorem _root_.L2.PW.imp {t t' : TT} (h : PW X e t) (k : ∀ σ H Q, t' σ H Q → t σ H Q) : PW X e t' := ⟨fun wh pins s σ H Q I q => h.run wh pins s σ H Q I (k σ H Q q)⟩
theorem _root_.L2.PA.imp {es : List Expr} {t t' : TA} (h : PA X es t) (k : ∀ σ H Q, t' σ H Q → t σ H Q) : PA X es t' := ⟨fun pos pins s σ H Q I q => h.run pos pins s σ H Q I (k σ H Q q)⟩
theorem _root_.L2.PI.imp {tg : Expr} {t t' : TI} (h : PI X tg e t) (k : ∀ σ H Q, t' σ H Q → t σ H Q) : PI X tg e t' := ⟨fun pins s σ H Q I q => h.run pins s σ H Q I (k σ H Q q)⟩
theorem _root_.L2.PI.or {tg : Expr} {t t' : TI} (h : PI X tg e t) (h' : PI X tg e t') : PI X tg e (fun σ H Q => t σ H Q ∨ t' σ H Q) := ⟨fun pins s σ H Q I q => q.elim (h.run pins s σ H Q I) (h'.run pins s σ H Q I)⟩
theorem _root_.L2.PE.or (h : PE X e t) (h' : PE X e t') : PE X e (fun σ H Q => t σ H Q ∨ t' σ H Q) := ⟨fun pins s σ H Q I q => q.elim (h.run pins s σ H Q I) (h'.run pins s σ H Q I)⟩
theorem _root_.L2.PG.imp {g g' : TG} (h : PG X e g) (k : ∀ v σ H Q, g' v σ H Q → g v σ H Q) : PG X e g' := ⟨fun pins s σ H v u Q I r q => h.run pins s σ H v u Q I r (k v σ H Q q)⟩
theorem _root_.L2.PG.or {g g' : TG} (h : PG X e g) (h' : PG X e g') : PG X e (fun v σ H Q => g v σ H Q ∨ g' v σ H Q) := ⟨fun pins s σ H v u Q I r q => q.elim (h.run pins s σ H v u Q I r) (h'.run pins s σ H v u Q I r)⟩
theorem _root_.L2.PS.imp {st : Stmt} {t t' : TS} (h : PS X st t) (k : ∀ D σ H, t' D σ H → t D σ H) : PS X st t' := ⟨fun pins s σ H D I q => h.run pins s σ H D I (k D σ H q)⟩
theorem _root_.L2.PSs.imp {st : List Stmt} {t t' : TS} (h : PSs X st t) (k : ∀ D σ H, t' D σ H → t D σ H) : PSs X st t' := ⟨fun pins s σ H D I q => h.run pins s σ H D I (k D σ H q)⟩
end
end Ev
end

section
set_option Elab.async false
set_option linter.all false
set_option maxRecDepth 100000
set_option maxHeartbeats 2000000
namespace Ev
open PySem PySem.Spec PyProof.Rows L2
/-- data at a value, perhaps a list that a name owns -/
def Rw (G : Gx) (cs : List Addr) (H Hf : Hp) (d : D) (v : V) : Prop := Rep G cs Hf d v ∨ ∃ ds a vs, d = .lst ds ∧ v = .ref a ∧ H a = some (.lst vs) ∧ a ∉ cs ∧ Reps G cs Hf ds vs
section
variable {G : Gx} {cs : List Addr} {H Hf : Hp} {μ : Mu}
theorem Rw.lst (w : Well G cs H Hf μ) {ds : List D} {v : V} (h : Rw G cs H Hf (.lst ds) v) : ∃ a vs, v = .ref a ∧ H a = some (.lst vs) ∧ Reps G cs Hf ds vs := by
  rcases h with h | ⟨es, a, vs, e, h1, h2, _, h3⟩
  · obtain ⟨a, vs, e, h1, h2⟩ := Rep.lst_iff.mp h
    exact ⟨a, vs, e, w.sub a _ h1, h2⟩
  · cases e
    exact ⟨a, vs, h1, h2, h3⟩
theorem Rw.st {d : D} {v : V} (h : Rw G cs H Hf d v) (n : ∀ ds, d ≠ .lst ds) : Rep G cs Hf d v := by
  rcases h with h | ⟨es, a, vs, e, _⟩
  · exact h
  · exact absurd e (n es)
theorem Rw.tup (w : Well G cs H Hf μ) {ds : List D} {v : V} (h : Rw G cs H Hf (.tup ds) v) : ∃ a vs, v = .ref a ∧ SqT G.K H a vs ∧ SqT G.K Hf a vs ∧ Reps G cs Hf ds vs := by
  obtain ⟨a, vs, e, h1, h2⟩ := Rep.tup_iff.mp (h.st fun _ z => nomatch z)
  exact ⟨a, vs, e, Rep.sqT w.sub h1, h1, h2⟩
theorem Rw.int {i : Int} {v : V} (h : Rw G cs H Hf (.int i) v) : v = .int i := Rep.int_iff.mp (h.st fun _ z => nomatch z)
theorem Rw.bl {i : Bool} {v : V} (h : Rw G cs H Hf (.bl i) v) : v = .bl i := Rep.bl_iff.mp (h.st fun _ z => nomatch z)
theorem Rw.str {i : Str} {v : V} (h : Rw G cs H Hf (.str i) v) : v = .str i := Rep.str_iff.mp (h.st fun _ z => nomatch z)
theorem Rw.non {v : V} (h : Rw G cs H Hf .non v) : v = .non := Rep.non_iff.mp (h.st fun _ z => nomatch z)
theorem Rw.of_wk {H0 : Hp} {d : D} {v : V} (h : Pwk G cs H0 H Hf d v) : Rw G cs H Hf d v := h
theorem Rw.step {cs' : List Addr} {H' Hf' : Hp} {μ' : Mu} (s : Step G cs H Hf cs' H' Hf' μ') {d : D} {v : V} (h : Rw G cs H Hf d v) : Rw G cs' H' Hf' d v := by
  rcases h with h | ⟨ds, a, vs, e, e1, h2, hc, h3⟩
  · exact .inl (s.rep h)
  · exact .inr ⟨ds, a, vs, e, e1, s.keep a _ h2 hc ntb_lst, fun z => hc (s.memc z (fun f => f.no h2 ntb_lst)), s.reps h3⟩
/-- as the library's data -/
theorem Rep.dpAux (w : Well G cs H Hf μ) : (∀ (d : D) (v : V) (p : PyData), Rep G cs Hf d v → toPy d = some p → Dp G.K H v p) ∧ (∀ (ds : List D) (vs : List V) (ps : List PyData), Reps G cs Hf ds vs → toPys ds = some ps → DpAll G.K H vs ps) := by
  suffices hh : ∀ n, (∀ (d : D), sizeOf d < n → ∀ (v : V) (p : PyData), Rep G cs Hf d v → toPy d = some p → Dp G.K H v p) ∧ (∀ (ds : List D), sizeOf ds < n → ∀ (vs : List V) (ps : List PyData), Reps G cs Hf ds vs → toPys ds = some ps → DpAll G.K H vs ps) from
    ⟨fun d => (hh (sizeOf d + 1)).1 d (Nat.lt_succ_self _), fun ds => (hh (sizeOf ds + 1)).2 ds (Nat.lt_succ_self _)⟩
  intro n
  induction n with
  | zero => exact ⟨fun d h => absurd h (Nat.not_lt_zero _), fun d h => absurd h (Nat.not_lt_zero _)⟩
  | succ n ih =>
    refine ⟨fun d hd v p h e => ?_, fun ds hd vs ps h e => ?_⟩
    · cases d with
      | non => rw [Rep.non_iff.mp h]; simp only [toPy] at e; cases e; exact .non
      | bl b => rw [Rep.bl_iff.mp h]; simp only [toPy] at e; cases e; exact .bl b
      | int b => rw [Rep.int_iff.mp h]; simp only [toPy] at e; cases e; exact .int b
      | str b => rw [Rep.str_iff.mp h]; simp only [toPy] at e; cases e; exact .str b
      | tup ds =>
        obtain ⟨a, vs, e1, h1, h2⟩ := Rep.tup_iff.mp h
        simp only [toPy] at e
        cases q : toPys ds with
        | none => rw [q] at e; cases e
        | some ps =>
          rw [q] at e
          cases e
          rw [e1]
          exact .tup (Rep.sqT w.sub h1) (ih.2 ds (by simp only [D.tup.sizeOf_spec] at hd; omega) vs ps h2 q)
      | lst ds =>
        obtain ⟨a, vs, e1, h1, h2⟩ := Rep.lst_iff.mp h
        simp only [toPy] at e
        cases q : toPys ds with
        | none => rw [q] at e; cases e
        | some ps =>
          rw [q] at e
          cases e
          rw [e1]
          exact .lst (.inl (.inl (w.sub a _ h1))) (ih.2 ds (by simp only [D.lst.sizeOf_spec] at hd; omega) vs ps h2 q)
      | _ => simp only [toPy] at e; cases e
    · cases ds with
      | nil => rw [Reps.nil_iff.mp h]; simp only [toPys] at e; cases e; exact .nil
      | cons d ds =>
        obtain ⟨v, r, e1, h1, h2⟩ := Reps.cons_iff.mp h
        simp only [toPys] at e
        cases q1 : toPy d with
        | none => rw [q1] at e; cases e
        | some p =>
          cases q2 : toPys ds with
          | none => rw [q1, q2] at e; cases e
          | some ps2 =>
            rw [q1, q2] at e
            cases e
            rw [e1]
            simp only [List.cons.sizeOf_spec] at hd
            exact .cons (ih.1 d (by omega) v p h1 q1) (ih.2 ds (by omega) r ps2 h2 q2)
theorem Rw.dp (w : Well G cs H Hf μ) {d : D} {v : V} {p : PyData} (h : Rw G cs H Hf d v) (e : toPy d = some p) : Dp G.K H v p := by
  rcases h with h | ⟨ds, a, vs, rfl, rfl, h1, _, h2⟩
  · exact (Rep.dpAux w).1 d v p h e
  · simp only [toPy] at e
    cases q : toPys ds with
    | none => rw [q] at e; cases e
    | some ps =>
      rw [q] at e
      cases e
      exact .lst (.inl (.inl h1)) ((Rep.dpAux w).2 ds vs ps h2 q)
end

section
variable {G : Gx} {ec : Nat → Addr} {W : WX} {σ : L2.St} {cs : List Addr} {H Hf : Hp} {Q : VK} {μ : Mu}
/-- a plain result, no object made -/
theorem Post.flat (w : Well G cs H Hf μ) {d : D} {v : V} (h : Post G ec W σ (.ok d μ) cs H Hf Q (Pfr G)) (r : Rep G cs Hf d v) (n : ∀ ds, d ≠ .lst ds) : Q v H :=
  h v cs H Hf w (Pfr.of n r)
/-- a new list -/
theorem Post.newL (w : Well G cs H Hf μ) {ds : List D} {vs : List V} (h : Post G ec W σ (.ok (.lst ds) μ) cs H Hf Q (Pfr G)) (r : Reps G cs Hf ds vs) : ∀ p, H p = none → Q (.ref p) (upd H p (.lst vs)) := fun p n =>
  h (.ref p) cs _ Hf (w.loose n) ⟨p, vs, rfl, Fre.of n, upd_same, w.hf_none (Fre.of n), w.cell_ne (Fre.of n), r⟩
/-- a new tuple -/
theorem Post.newT (w : Well G cs H Hf μ) {ds : List D} {vs : List V} (h : Post G ec W σ (.ok (.tup ds) μ) cs H Hf Q (Pfr G)) (r : Reps G cs Hf ds vs) : ∀ p, H p = none → Q (.ref p) (upd H p (.tup vs)) := fun p n => by
  have s := w.laid n (ntb_tup (vs := vs))
  exact h (.ref p) cs _ _ s (Rep.tup_iff.mpr ⟨p, vs, rfl, .inl (.inl upd_same), s.reps r⟩)
end

section
variable {X : Cx} {G : Gx} {ec : Nat → Addr} {W : WX}
/-- the wish of an operation of one, two data -/
def rD2 (G : Gx) (ec : Nat → Addr) (W : WX) (f : D → D → Option D) : R2 := fun v w H Q => ∃ σ cs Hf μ x y, Well G cs H Hf μ ∧ Rw G cs H Hf x v ∧ Rw G cs H Hf y w ∧ Post G ec W σ (R.of (f x y) μ) cs H Hf Q (Pfr G)
def rD1 (G : Gx) (ec : Nat → Addr) (W : WX) (f : D → Option D) : V → Hp → VK → Prop := fun v H Q => ∃ σ cs Hf μ x, Well G cs H Hf μ ∧ Rw G cs H Hf x v ∧ Post G ec W σ (R.of (f x) μ) cs H Hf Q (Pfr G)

def bopP : BOp → Operator
  | .add => .Add | .sub => .Sub | .mul => .Mult | .fdiv => .FloorDiv | .mod => .Mod | .pow => .Pow
theorem natAbs_lt64 {i : Int} (h : i.natAbs < 2 ^ 64) : -(2 ^ 64) < i ∧ i < 2 ^ 64 := by
  have e : (2 : Nat) ^ 64 = 18446744073709551616 := by decide
  have e2 : (2 : Int) ^ 64 = 18446744073709551616 := by decide
  rw [e] at h
  rw [e2]
  omega
theorem mulOk_iff {i j : Int} (h : mulOk i j = true) : CMul i j ∨ CMulW i j := by
  unfold mulOk at h
  simp only [Bool.or_eq_true, decide_eq_true_eq] at h
  rcases h with (h | h) | h
  · exact .inl (.inl (natAbs_lt64 h))
  · exact .inl (.inr (natAbs_lt64 h))
  · exact .inr h
theorem rep_reps {cs : List Addr} {Hf : Hp} {ds : List D} {vs : List V} (r : Reps G cs Hf ds vs) : ∀ k : Nat, Reps G cs Hf (List.replicate k ds).flatten (List.replicate k vs).flatten
  | 0 => by simpa using Reps.nil
  | k + 1 => by
    rw [List.replicate_succ, List.replicate_succ, List.flatten_cons, List.flatten_cons]
    exact r.append (rep_reps r k)
/-- t * 1, () * n: the tuple itself -/
theorem tuple_mul_same (l : Addr) (items : Array Value) (n : Nat) (dd : Option Addr) (sl : Array (Option Value)) (x : Int) (u : Tok) (c0 : (decide (x < -(2 ^ 63)) || decide (x ≥ 2 ^ 63)) = false) (c1 : (items.isEmpty || x == 1) = true) :
    Meets (Builtin.«tuple.__mul__» ⟨[.ref l, .int x u], []⟩) (fun _ R s => s.heap.get? l = some { cls := .type "tuple", dict := dd, data := .seq items n, slots := sl } ∧ R (.ok (.ret (Value.ref l))) s) :=
  .of_wp fun prog w A R s h => by
    obtain ⟨hp, g, d, tk, os⟩ := s
    obtain ⟨hl, h⟩ := h
    have f1 := AutoSeq1.idx_int
    wp_walk using wpAny_loadPart' hl
    repeat (first
      | (refine wpAny_ite_false (decide_eq_false (by rw [c0]; exact Bool.false_ne_true)) ?_; wp_walk using wpAny_loadPart' hl)
      | (refine wpAny_ite_true (decide_eq_true (by rw [c1])) ?_; wp_walk using wpAny_loadPart' hl))
    exact ⟨_, rfl, h⟩
/-- tuple * int, of any length -/
theorem op_repAny : OpR X (binaryOp .Mult) (fun x y H Q => ∃ l k xs, x = .ref l ∧ y = .int k ∧ SqT X.K H l xs ∧ 1 ≤ k ∧ k < 2 ^ 63 ∧ xs.length * k.toNat ≤ sizeLine ∧ ((k = 1 ∨ xs = []) → Q (.ref l) H) ∧ ∀ p, H p = none → Q (.ref p) (upd H p (.tup (List.replicate k.toNat xs).flatten))) := by
  intro pins s σ H x y v u Q I rx ry h
  obtain ⟨l, k, xs, rfl, rfl, hT, h1, h2, hz, q1, q2⟩ := h
  cases rx
  obtain ⟨t, rfl⟩ := ry
  obtain ⟨its, r, ⟨⟨cls, dd, data, sl⟩, ho, hc, n, hd⟩, hs⟩ := I.tuple hT
  simp only at hc hd
  subst hc hd
  have hle : its.length = xs.length := r.length.symm
  have c0 : (decide (k < -(2 ^ 63)) || decide (k ≥ 2 ^ 63)) = false := by
    rw [decide_eq_false (by omega), decide_eq_false (by omega)]
    rfl
  by_cases hsame : k = 1 ∨ xs = []
  · have c1 : (its.toArray.isEmpty || k == 1) = true := by
      rcases hsame with e | e
      · rw [e]; simp
      · have : its = [] := List.length_eq_zero_iff.mp (by rw [hle, e]; rfl)
        rw [this]; rfl
    exact wpAny_binaryOp_repeat_ref (T := "tuple") (U := "int") (by decide) ⟨_, ho, rfl⟩ (fun s' => typeIs_int s' k t) noFill_tuple_mul PySem.F.fills_int_mul PySem.F.slot_int_rmul repeat_tuple PySem.F.slot_int_index.lookup
      (call_meets PySem.F.slot_int_rmul (typeIs_int s k t) PySem.F.entry_int_rmul (PySem.F.args_int_rmul_2 _ _) (int_rmul_tuple k t l its.toArray n dd sl)
        ⟨ho, rfl, ⟨_, ho, rfl⟩, call_meets PySem.F.slot_tuple_mul ⟨_, ho, rfl⟩ PySem.F.entry_tuple_mul (PySem.F.args_tuple_mul_2 _ _) (tuple_mul_same l its.toArray n dd sl k t c0 c1) ⟨ho, .ref l, H, I, rfl, q1 hsame⟩⟩)
  · have hne : its ≠ [] := fun e => hsame (.inr (List.length_eq_zero_iff.mp (by rw [← hle, e]; rfl)))
    have hk1 : k ≠ 1 := fun e => hsame (.inl e)
    have hi : its.toArray.isEmpty = false := by
      cases its with
      | nil => exact absurd rfl hne
      | cons a b => rfl
    have hsz : its.toArray.size = xs.length := by rw [List.size_toArray, hle]
    have c1 : (its.toArray.isEmpty || k == 1) = false := by
      rw [hi, Bool.false_or]
      exact beq_eq_false_iff_ne.mpr hk1
    have c2 : (decide (k ≤ 0) || its.toArray.isEmpty) = false := by
      rw [hi, Bool.or_false]
      exact decide_eq_false (by omega)
    have hprod : ((its.toArray.size : Nat) : Int) * k = ((xs.length * k.toNat : Nat) : Int) := by
      rw [hsz, Int.natCast_mul, Int.toNat_of_nonneg (by omega)]
    have hline : (xs.length * k.toNat : Nat) ≤ 16777216 := by
      have := hz
      rw [sizeLine_eq] at this
      omega
    have c3 : ¬ ((its.toArray.size : Nat) : Int) * k > (2 ^ 63 - 1) / 8 := by
      rw [hprod]
      omega
    have c4 : Builtin.Tuple.tupleTooMany (((its.toArray.size : Nat) : Int) * k) = false := by
      unfold Builtin.Tuple.tupleTooMany
      rw [hprod]
      exact decide_eq_false (by omega)
    have flen : (List.replicate k.toNat its).flatten.length ≤ sizeLine := by
      rw [PyProof.Rows.lm_len_rep_flat, hle, Nat.mul_comm]
      exact hz
    refine wpAny_binaryOp_repeat_ref (T := "tuple") (U := "int") (by decide) ⟨_, ho, rfl⟩ (fun s' => typeIs_int s' k t) noFill_tuple_mul PySem.F.fills_int_mul PySem.F.slot_int_rmul repeat_tuple PySem.F.slot_int_index.lookup
      (call_meets PySem.F.slot_int_rmul (typeIs_int s k t) PySem.F.entry_int_rmul (PySem.F.args_int_rmul_2 _ _) (int_rmul_tuple k t l its.toArray n dd sl)
        ⟨ho, rfl, ⟨_, ho, rfl⟩, call_meets PySem.F.slot_tuple_mul ⟨_, ho, rfl⟩ PySem.F.entry_tuple_mul (PySem.F.args_tuple_mul_2 _ _) (tuple_mulW l its.toArray n dd sl k t c0 c1 c2 c3 c4 (by rw [size_rep, List.size_toArray]; exact flen)) ⟨ho, ?_⟩⟩)
    rw [size_rep]
    refine ⟨.ref s.heap.objs.size, _, I.laid (t' := s.toks) (o := .tup (List.replicate k.toNat xs).flatten) (fun b ob q => Heap.get?_push_of_some _ q) (Nat.le_refl _) ?_, rfl, q2 _ (I.hok.fresh (Nat.le_refl _))⟩
    exact ⟨by rw [PyProof.Rows.lm_len_rep_flat, Nat.mul_comm]; exact hz, _, r.rep k.toNat, IsTup.new _ _⟩
theorem op_bin (hK : X.K = G.K) (op : BOp) : OpR X (binaryOp (bopP op)) (rD2 G ec W (binD op)) := by
  intro pins s σ' H v w u1 u2 Q I r1 r2 h
  obtain ⟨σ, cs, Hf, μ, x, y, wl, hx, hy, h⟩ := h
  cases op with
  | add =>
    cases x with
    | int i =>
      cases y with
      | int j => exact op_add pins s σ' H v w u1 u2 Q I r1 r2 ⟨i, j, hx.int, hy.int, h.flat wl (Rep.int_iff.mpr rfl) fun _ z => nomatch z⟩
      | _ => exact h.elim
    | lst xs =>
      cases y with
      | lst ys =>
        obtain ⟨a, vs, e1, h1, q1⟩ := hx.lst wl
        obtain ⟨b, ws, e2, h2, q2⟩ := hy.lst wl
        by_cases hz : xs.length + ys.length ≤ sizeLine
        · simp only [binD, if_pos hz, R.of_some] at h
          exact op_cat pins s σ' H v w u1 u2 Q I r1 r2 ⟨a, b, vs, ws, e1, e2, h1, h2, by rw [← q1.len, ← q2.len]; exact hz, h.newL wl (q1.append q2)⟩
        · simp only [binD, if_neg hz, R.of_none] at h
          exact h.elim
      | _ => exact h.elim
    | tup xs =>
      cases y with
      | tup ys =>
        obtain ⟨a, vs, e1, h1, g1, q1⟩ := hx.tup wl
        obtain ⟨b, ws, e2, h2, g2, q2⟩ := hy.tup wl
        by_cases hz : xs.length + ys.length ≤ sizeLine
        · simp only [binD, if_pos hz, R.of_some] at h
          refine op_catA pins s σ' H v w u1 u2 Q I r1 r2 ⟨a, b, vs, ws, e1, e2, hK ▸ h1, hK ▸ h2, by rw [← q1.len, ← q2.len]; exact hz, fun e => ?_, fun _ e => ?_, fun _ _ => h.newT wl (q1.append q2)⟩
          · have e' : xs = [] := List.length_eq_zero_iff.mp (by rw [q1.len, e]; rfl)
            subst e'
            exact h.flat wl (Rep.tup_iff.mpr ⟨b, ws, rfl, g2, by simpa using q2⟩) fun _ z => nomatch z
          · have e' : ys = [] := List.length_eq_zero_iff.mp (by rw [q2.len, e]; rfl)
            subst e'
            exact h.flat wl (Rep.tup_iff.mpr ⟨a, vs, rfl, g1, by simpa using q1⟩) fun _ z => nomatch z
        · simp only [binD, if_neg hz, R.of_none] at h
          exact h.elim
      | _ => exact h.elim
    | str i =>
      cases y with
      | str j =>
        by_cases hz : i.length + j.length ≤ sizeLine
        · simp only [binD, if_pos hz, R.of_some] at h
          exact op_add_str pins s σ' H v w u1 u2 Q I r1 r2 ⟨i, j, hx.str, hy.str, hz, h.flat wl (Rep.str_iff.mpr rfl) fun _ z => nomatch z⟩
        · simp only [binD, if_neg hz, R.of_none] at h
          exact h.elim
      | _ => exact h.elim
    | _ => exact h.elim
  | sub =>
    cases x with
    | int i =>
      cases y with
      | int j => exact op_sub pins s σ' H v w u1 u2 Q I r1 r2 ⟨i, j, hx.int, hy.int, h.flat wl (Rep.int_iff.mpr rfl) fun _ z => nomatch z⟩
      | _ => exact h.elim
    | _ => exact h.elim
  | mul =>
    cases x with
    | int i =>
      cases y with
      | int j =>
        by_cases hz : mulOk i j = true
        · simp only [binD, if_pos hz, R.of_some] at h
          have q := h.flat wl (Rep.int_iff.mpr rfl) fun _ z => nomatch z
          rcases mulOk_iff hz with hm | hm
          · exact op_mul pins s σ' H v w u1 u2 Q I r1 r2 ⟨i, j, hx.int, hy.int, hm, q⟩
          · exact op_mulW pins s σ' H v w u1 u2 Q I r1 r2 ⟨i, j, hx.int, hy.int, hm, q⟩
        · simp only [binD, if_neg hz, R.of_none] at h
          exact h.elim
      | _ => exact h.elim
    | tup xs =>
      cases y with
      | int k =>
        obtain ⟨a, vs, e1, h1, g1, q1⟩ := hx.tup wl
        by_cases hz : 1 ≤ k ∧ k < 2 ^ 63 ∧ xs.length * k.toNat ≤ sizeLine
        · simp only [binD, if_pos hz, R.of_some] at h
          refine op_repAny pins s σ' H v w u1 u2 Q I r1 r2 ⟨a, k, vs, e1, hy.int, hK ▸ h1, hz.1, hz.2.1, by rw [← q1.len]; exact hz.2.2, fun hs => ?_, h.newT wl (rep_reps q1 k.toNat)⟩
          have e : rep k xs = xs := by
            unfold rep
            rcases hs with e | e
            · rw [e]; simp
            · have : xs = [] := List.length_eq_zero_iff.mp (by rw [q1.len, e]; rfl)
              rw [this]; simp
          rw [e] at h
          exact h.flat wl (Rep.tup_iff.mpr ⟨a, vs, rfl, g1, q1⟩) fun _ z => nomatch z
        · simp only [binD, if_neg hz, R.of_none] at h
          exact h.elim
      | _ => exact h.elim
    | lst xs =>
      cases y with
      | int k =>
        obtain ⟨a, vs, e1, h1, q1⟩ := hx.lst wl
        by_cases hz : -(2 ^ 63) ≤ k ∧ k < 2 ^ 63 ∧ xs.length * k.toNat ≤ sizeLine
        · simp only [binD, if_pos hz, R.of_some] at h
          exact op_rep pins s σ' H v w u1 u2 Q I r1 r2 ⟨a, k, vs, e1, hy.int, h1, hz.1, hz.2.1, by rw [← q1.len]; exact hz.2.2, h.newL wl (rep_reps q1 _)⟩
        · simp only [binD, if_neg hz, R.of_none] at h
          exact h.elim
      | _ => exact h.elim
    | _ => exact h.elim
  | fdiv =>
    cases x with
    | int i =>
      cases y with
      | int j =>
        by_cases hz : 0 < j ∧ j.natAbs.log2 < 9000
        · simp only [binD, if_pos hz, R.of_some] at h
          exact op_fdivW pins s σ' H v w u1 u2 Q I r1 r2 ⟨i, j, hx.int, hy.int, hz, h.flat wl (Rep.int_iff.mpr rfl) fun _ z => nomatch z⟩
        · simp only [binD, if_neg hz, R.of_none] at h
          exact h.elim
      | _ => exact h.elim
    | _ => exact h.elim
  | mod =>
    cases x with
    | int i =>
      cases y with
      | int j =>
        by_cases hz : 0 < j
        · simp only [binD, if_pos hz, R.of_some] at h
          exact op_mod pins s σ' H v w u1 u2 Q I r1 r2 ⟨i, j, hx.int, hy.int, hz, h.flat wl (Rep.int_iff.mpr rfl) fun _ z => nomatch z⟩
        · simp only [binD, if_neg hz, R.of_none] at h
          exact h.elim
      | _ => exact h.elim
    | _ => exact h.elim
  | pow =>
    cases x with
    | int i =>
      cases y with
      | int j =>
        by_cases hz : 0 ≤ j ∧ j ≤ 1000000 ∧ i.natAbs < 2 ^ 64
        · simp only [binD, if_pos hz, R.of_some] at h
          exact op_pow pins s σ' H v w u1 u2 Q I r1 r2 ⟨i, j, hx.int, hy.int, hz, h.flat wl (Rep.int_iff.mpr rfl) fun _ z => nomatch z⟩
        · simp only [binD, if_neg hz, R.of_none] at h
          exact h.elim
      | _ => exact h.elim
    | _ => exact h.elim
def copP : COp → CmpOp
  | .eq => .Eq | .ne => .NotEq | .lt => .Lt | .le => .LtE | .gt => .Gt | .ge => .GtE | .mem => .In | .nmem => .NotIn | .is_ => .Is | .isn => .IsNot
theorem flatV_of {cs : List Addr} {H Hf : Hp} {d : D} {v : V} (h : Rep G cs Hf d v) (f : flat d = true) : flatV v = true := by
  cases d with
  | non => rw [Rep.non_iff.mp h]; rfl
  | bl b => rw [Rep.bl_iff.mp h]; rfl
  | int b => rw [Rep.int_iff.mp h]; rfl
  | str b => rw [Rep.str_iff.mp h]; rfl
  | _ => cases f
theorem eqV_of {cs : List Addr} {H Hf : Hp} {d e : D} {v w : V} (h : Rep G cs Hf d v) (f : flat d = true) (h' : Rep G cs Hf e w) (f' : flat e = true) : eqV v w = eqF d e := by
  cases d with
  | non => rw [Rep.non_iff.mp h]; cases e with
    | non => rw [Rep.non_iff.mp h']; rfl
    | bl b => rw [Rep.bl_iff.mp h']; rfl
    | int b => rw [Rep.int_iff.mp h']; rfl
    | str b => rw [Rep.str_iff.mp h']; rfl
    | _ => cases f'
  | bl b => rw [Rep.bl_iff.mp h]; cases e with
    | non => rw [Rep.non_iff.mp h']; rfl
    | bl b => rw [Rep.bl_iff.mp h']; rfl
    | int b => rw [Rep.int_iff.mp h']; rfl
    | str b => rw [Rep.str_iff.mp h']; rfl
    | _ => cases f'
  | int b => rw [Rep.int_iff.mp h]; cases e with
    | non => rw [Rep.non_iff.mp h']; rfl
    | bl b => rw [Rep.bl_iff.mp h']; rfl
    | int b => rw [Rep.int_iff.mp h']; rfl
    | str b => rw [Rep.str_iff.mp h']; rfl
    | _ => cases f'
  | str b => rw [Rep.str_iff.mp h]; cases e with
    | non => rw [Rep.non_iff.mp h']; rfl
    | bl b => rw [Rep.bl_iff.mp h']; rfl
    | int b => rw [Rep.int_iff.mp h']; rfl
    | str b => rw [Rep.str_iff.mp h']; rfl
    | _ => cases f'
  | _ => cases f
theorem flats_of {cs : List Addr} {Hf : Hp} : ∀ {ds : List D} {vs : List V}, Reps G cs Hf ds vs → ds.all flat = true → vs.all flatV = true
  | [], vs, h, _ => by rw [Reps.nil_iff.mp h]; rfl
  | d :: ds, vs, h, f => by
    obtain ⟨v, r, e, h1, h2⟩ := Reps.cons_iff.mp h
    rw [List.all_cons, Bool.and_eq_true] at f
    rw [e, List.all_cons, flatV_of (H := Hf) h1 f.1, flats_of h2 f.2]
    rfl
theorem anyV_of {cs : List Addr} {Hf : Hp} {x : D} {v : V} (hx : Rep G cs Hf x v) (fx : flat x = true) : ∀ {ds : List D} {vs : List V}, Reps G cs Hf ds vs → ds.all flat = true → inV v vs = ds.any fun y => eqF y x
  | [], vs, h, _ => by rw [Reps.nil_iff.mp h]; rfl
  | d :: ds, vs, h, f => by
    obtain ⟨w, r, e, h1, h2⟩ := Reps.cons_iff.mp h
    rw [List.all_cons, Bool.and_eq_true] at f
    have ih := anyV_of hx fx h2 f.2
    unfold inV at ih ⊢
    rw [e, List.any_cons, List.any_cons, eqV_of (H := Hf) h1 f.1 hx fx, ih]
theorem countV_of {cs : List Addr} {Hf : Hp} {x : D} {v : V} (hx : Rep G cs Hf x v) (fx : flat x = true) : ∀ {ds : List D} {vs : List V}, Reps G cs Hf ds vs → ds.all flat = true → vs.countP (fun y => eqV y v) = ds.countP fun y => eqF y x
  | [], vs, h, _ => by rw [Reps.nil_iff.mp h]; rfl
  | d :: ds, vs, h, f => by
    obtain ⟨w, r, e, h1, h2⟩ := Reps.cons_iff.mp h
    rw [List.all_cons, Bool.and_eq_true] at f
    rw [e, List.countP_cons, List.countP_cons, eqV_of (H := Hf) h1 f.1 hx fx, countV_of hx fx h2 f.2]
theorem asInts_map : ∀ {ds : List D} {ns : List Int}, asInts ds = some ns → ds = ns.map .int
  | [], ns, h => by cases h; rfl
  | d :: ds, ns, h => by
    cases d with
    | int i =>
      simp only [asInts] at h
      cases q : asInts ds with
      | none => rw [q] at h; cases h
      | some ms =>
        rw [q] at h
        cases h
        rw [asInts_map q]
        rfl
    | _ => cases h
theorem asBls_map : ∀ {ds : List D} {ns : List Bool}, asBls ds = some ns → ds = ns.map .bl
  | [], ns, h => by cases h; rfl
  | d :: ds, ns, h => by
    cases d with
    | bl i =>
      simp only [asBls] at h
      cases q : asBls ds with
      | none => rw [q] at h; cases h
      | some ms =>
        rw [q] at h
        cases h
        rw [asBls_map q]
        rfl
    | _ => cases h
theorem asInts_of (ns : List Int) : asInts (ns.map .int) = some ns := by
  induction ns with
  | nil => rfl
  | cons n r ih => simp only [List.map_cons, asInts, ih, Option.map_some]
theorem asBls_of (ns : List Bool) : asBls (ns.map .bl) = some ns := by
  induction ns with
  | nil => rfl
  | cons n r ih => simp only [List.map_cons, asBls, ih, Option.map_some]
/-- the wish of a comparison -/
def rC (G : Gx) (f : D → D → Option Bool) : R2 := fun v w H Q => ∃ cs Hf μ x y k, Well G cs H Hf μ ∧ Rw G cs H Hf x v ∧ Rw G cs H Hf y w ∧ f x y = some k ∧ Q (.bl k) H
theorem eqD_some {x y : D} {k : Bool} (h : eqD x y = some k) : ∃ p q, toPy x = some p ∧ toPy y = some q ∧ SeqAt.shaped p = true ∧ SeqAt.shaped q = true ∧ k = PyData.eqv p q := by
  unfold eqD at h
  cases e1 : toPy x with
  | none => rw [e1] at h; cases h
  | some p =>
    cases e2 : toPy y with
    | none => rw [e1, e2] at h; cases h
    | some q =>
      rw [e1, e2] at h
      have h : (if (SeqAt.shaped p && SeqAt.shaped q) = true then some (PyData.eqv p q) else none) = some k := h
      by_cases hz : (SeqAt.shaped p && SeqAt.shaped q) = true
      · rw [if_pos hz] at h
        obtain ⟨z1, z2⟩ := Bool.and_eq_true_iff.mp hz
        exact ⟨p, q, rfl, rfl, z1, z2, (Option.some.inj h).symm⟩
      · rw [if_neg hz] at h
        cases h
theorem memD_some {x : D} {ys : List D} {k : Bool} (h : memD x ys = some k) : (flat x = true ∧ ys.all flat = true ∧ k = ys.any fun y => eqF y x) ∨ memP x ys = some k := by
  unfold memD at h
  by_cases hz : (flat x && ys.all flat) = true
  · rw [if_pos hz] at h
    obtain ⟨z1, z2⟩ := Bool.and_eq_true_iff.mp hz
    exact .inl ⟨z1, z2, (Option.some.inj h).symm⟩
  · rw [if_neg hz] at h
    exact .inr h
theorem memP_some {x : D} {ys : List D} {k : Bool} (h : memP x ys = some k) : ∃ p ps, toPy x = some p ∧ toPys ys = some ps ∧ SeqAt.shaped p = true ∧ SeqAt.shaped (.list ps) = true ∧ k = ps.any fun z => PyData.eqv z p := by
  unfold memP at h
  cases e1 : toPy x with
  | none => rw [e1] at h; cases h
  | some p =>
    cases e2 : toPys ys with
    | none => rw [e1, e2] at h; cases h
    | some ps =>
      rw [e1, e2] at h
      have h : (if (SeqAt.shaped p && SeqAt.shaped (.list ps)) = true then some (ps.any fun z => PyData.eqv z p) else none) = some k := h
      by_cases hz : (SeqAt.shaped p && SeqAt.shaped (.list ps)) = true
      · rw [if_pos hz] at h
        obtain ⟨z1, z2⟩ := Bool.and_eq_true_iff.mp hz
        exact ⟨p, ps, rfl, rfl, z1, z2, (Option.some.inj h).symm⟩
      · rw [if_neg hz] at h
        cases h
def rInT (K : PySem.W.Frag) : R2 := fun x y H Q => ∃ d ds, Dp K H x d ∧ Dp K H y (.tuple ds) ∧ SeqAt.shaped d = true ∧ SeqAt.shaped (.list ds) = true ∧ Q (.bl (ds.any fun z => PyData.eqv z d)) H
def rNotInT (K : PySem.W.Frag) : R2 := fun x y H Q => ∃ d ds, Dp K H x d ∧ Dp K H y (.tuple ds) ∧ SeqAt.shaped d = true ∧ SeqAt.shaped (.list ds) = true ∧ Q (.bl (!ds.any fun z => PyData.eqv z d)) H
theorem op_inT {X : Cx} (hu : X.A.units + 65 < cLine) : OpR X (compareOp .In) (rInT X.K) := by
  intro pins s σ H x y v u Q I rx ry h
  obtain ⟨d, ds, hd, he, sd, se, q⟩ := h
  obtain ⟨as, r1⟩ := Dp.reads I d x v hd rx
  obtain ⟨bs, r2⟩ := Dp.reads I (.tuple ds) y u he ry
  exact SeqAt.in_tuple_reads r2 r1 (SeqAt.canLay_of_shaped se) (SeqAt.canLay_of_shaped sd) (room_in_shaped sd hu) ⟨.bl _, H, I, rfl, q⟩
theorem op_notInT {X : Cx} (hu : X.A.units + 65 < cLine) : OpR X (compareOp .NotIn) (rNotInT X.K) := by
  intro pins s σ H x y v u Q I rx ry h
  obtain ⟨d, ds, hd, he, sd, se, q⟩ := h
  obtain ⟨as, r1⟩ := Dp.reads I d x v hd rx
  obtain ⟨bs, r2⟩ := Dp.reads I (.tuple ds) y u he ry
  exact SeqAt.notIn_tuple_reads r2 r1 (SeqAt.canLay_of_shaped se) (SeqAt.canLay_of_shaped sd) (room_in_shaped sd hu) ⟨.bl _, H, I, rfl, q⟩
theorem notRef_non {a : Addr} : V.ref a ≠ V.non := fun z => nomatch z
/-- None or not -/
theorem isN_of {cs : List Addr} {H Hf : Hp} {μ : Mu} (wl : Well G cs H Hf μ) {x : D} {v : V} (hx : Rw G cs H Hf x v) {k : Bool} (h : cmpD .is_ x .non = some k) : decide (v = .non) = k := by
  cases x with
  | non => rw [hx.non]; cases h; rfl
  | bl b => rw [hx.bl]; cases h; rfl
  | int b => rw [hx.int]; cases h; rfl
  | str b => rw [hx.str]; cases h; rfl
  | tup ds =>
    obtain ⟨a, vs, e, _⟩ := hx.tup wl
    rw [e]; cases h; rfl
  | lst ds =>
    obtain ⟨a, vs, e, _⟩ := hx.lst wl
    rw [e]; cases h; rfl
  | dic ks ds =>
    obtain ⟨a, vs, e, _⟩ := Rep.dic_iff.mp (hx.st fun _ z => nomatch z)
    rw [e]; cases h; rfl
  | _ => cases h
theorem isn_is {x : D} {k : Bool} (h : cmpD .isn x .non = some k) : cmpD .is_ x .non = some (!k) := by
  cases x <;> first | (cases h; rfl) | cases h
theorem op_cmp (hK : X.K = G.K) (hu : X.A.units + 70 < cLine) (op : COp) : OpR X (compareOp (copP op)) (rC G (cmpD op)) := by
  intro pins s σ' H v w u1 u2 Q I r1 r2 h
  obtain ⟨cs, Hf, μ, x, y, k, wl, hx, hy, hk, q⟩ := h
  have h64 : X.A.units + 64 < cLine := by omega
  have h65 : X.A.units + 65 < cLine := by omega
  cases op with
  | eq =>
    obtain ⟨p, p2, e1, e2, s1, s2, e⟩ := eqD_some hk
    exact op_eqD h64 pins s σ' H v w u1 u2 Q I r1 r2 ⟨p, p2, hK ▸ hx.dp wl e1, hK ▸ hy.dp wl e2, s1, s2, by rw [← e]; exact q⟩
  | ne =>
    have hk : (eqD x y).map (!·) = some k := hk
    cases hq : eqD x y with
    | none => rw [hq] at hk; cases hk
    | some k' =>
      rw [hq] at hk
      obtain ⟨p, p2, e1, e2, s1, s2, e⟩ := eqD_some hq
      refine op_neD h64 pins s σ' H v w u1 u2 Q I r1 r2 ⟨p, p2, hK ▸ hx.dp wl e1, hK ▸ hy.dp wl e2, s1, s2, ?_⟩
      rw [← e]
      have hk : (!k') = k := Option.some.inj hk
      rw [hk]; exact q
  | lt =>
    cases x with
    | int i =>
      cases y with
      | int j =>
        have hk : decide (i < j) = k := Option.some.inj hk
        exact op_lt pins s σ' H v w u1 u2 Q I r1 r2 ⟨i, j, hx.int, hy.int, by dsimp only; rw [hk]; exact q⟩
      | _ => cases hk
    | tup xs =>
      cases y with
      | tup ys =>
        obtain ⟨a, vs, e1, h1, _, q1⟩ := hx.tup wl
        obtain ⟨b, ws, e2, h2, _, q2⟩ := hy.tup wl
        have hk : (match asInts xs, asInts ys with | some ns, some ms => some (HT.lexLt ns ms) | _, _ => none) = some k := hk
        cases a1 : asInts xs with
        | none => rw [a1] at hk; cases hk
        | some ns =>
          cases a2 : asInts ys with
          | none => rw [a1, a2] at hk; cases hk
          | some ms =>
            rw [a1, a2] at hk
            have hk : HT.lexLt ns ms = k := Option.some.inj hk
            rw [asInts_map a1] at q1
            rw [asInts_map a2] at q2
            have w1 := Reps.ints q1
            have w2 := Reps.ints q2
            subst w1
            subst w2
            exact op_ltT (by omega) pins s σ' H v w u1 u2 Q I r1 r2 ⟨a, b, ns, ms, e1, e2, hK ▸ h1, hK ▸ h2, by rw [hk]; exact q⟩
      | _ => cases hk
    | _ => cases hk
  | le =>
    cases x with
    | int i =>
      cases y with
      | int j =>
        have hk : decide (i ≤ j) = k := Option.some.inj hk
        exact op_le pins s σ' H v w u1 u2 Q I r1 r2 ⟨i, j, hx.int, hy.int, by dsimp only; rw [hk]; exact q⟩
      | _ => cases hk
    | _ => cases hk
  | gt =>
    cases x with
    | int i =>
      cases y with
      | int j =>
        have hk : decide (j < i) = k := Option.some.inj hk
        exact op_gt pins s σ' H v w u1 u2 Q I r1 r2 ⟨i, j, hx.int, hy.int, by dsimp only; rw [hk]; exact q⟩
      | _ => cases hk
    | _ => cases hk
  | ge =>
    cases x with
    | int i =>
      cases y with
      | int j =>
        have hk : decide (j ≤ i) = k := Option.some.inj hk
        exact op_ge pins s σ' H v w u1 u2 Q I r1 r2 ⟨i, j, hx.int, hy.int, by dsimp only; rw [hk]; exact q⟩
      | _ => cases hk
    | _ => cases hk
  | mem =>
    cases y with
    | lst ys =>
      obtain ⟨a, vs, e1, h1, q1⟩ := hy.lst wl
      have hk' : memD x ys = some k := by cases x <;> exact hk
      rcases memD_some hk' with ⟨f1, f2, e⟩ | hp
      · have hx' : Rep G cs Hf x v := hx.st (fun ds z => by rw [z] at f1; cases f1)
        refine op_in_seq pins s σ' H v w u1 u2 Q I r1 r2 ⟨a, vs, e1, .inl (.inl (.inl h1)), flatV_of (H := H) hx' f1, flats_of q1 f2, ?_⟩
        rw [if_neg Bool.false_ne_true, anyV_of hx' f1 q1 f2, ← e]; exact q
      · obtain ⟨p, ps, z1, z2, z3, z4, e⟩ := memP_some hp
        have ey : toPy (.lst ys) = some (.list ps) := by
          show (toPys ys).map PyData.list = _
          rw [z2]; rfl
        exact op_inD h65 pins s σ' H v w u1 u2 Q I r1 r2 ⟨p, ps, hK ▸ hx.dp wl z1, hK ▸ hy.dp wl ey, z3, z4, by rw [← e]; exact q⟩
    | tup ys =>
      obtain ⟨a, vs, e1, h1, _, q1⟩ := hy.tup wl
      have hk' : memD x ys = some k := by cases x <;> exact hk
      rcases memD_some hk' with ⟨f1, f2, e⟩ | hp
      · have hx' : Rep G cs Hf x v := hx.st (fun ds z => by rw [z] at f1; cases f1)
        refine op_in_seq pins s σ' H v w u1 u2 Q I r1 r2 ⟨a, vs, e1, .inr (hK ▸ h1), flatV_of (H := H) hx' f1, flats_of q1 f2, ?_⟩
        rw [if_neg Bool.false_ne_true, anyV_of hx' f1 q1 f2, ← e]; exact q
      · obtain ⟨p, ps, z1, z2, z3, z4, e⟩ := memP_some hp
        have ey : toPy (.tup ys) = some (.tuple ps) := by
          show (toPys ys).map PyData.tuple = _
          rw [z2]; rfl
        exact op_inT h65 pins s σ' H v w u1 u2 Q I r1 r2 ⟨p, ps, hK ▸ hx.dp wl z1, hK ▸ hy.dp wl ey, z3, z4, by rw [← e]; exact q⟩
    | _ => cases x <;> cases hk
  | nmem =>
    cases y with
    | lst ys =>
      obtain ⟨a, vs, e1, h1, q1⟩ := hy.lst wl
      have hk : (memD x ys).map (!·) = some k := by cases x <;> exact hk
      cases hq : memD x ys with
      | none => rw [hq] at hk; cases hk
      | some k' =>
        rw [hq] at hk
        have hk : (!k') = k := Option.some.inj hk
        rcases memD_some hq with ⟨g1, g2, g3⟩ | hp
        · have hx' : Rep G cs Hf x v := hx.st (fun ds z => by rw [z] at g1; cases g1)
          refine op_notIn_seq pins s σ' H v w u1 u2 Q I r1 r2 ⟨a, vs, e1, .inl (.inl (.inl h1)), flatV_of (H := H) hx' g1, flats_of q1 g2, ?_⟩
          rw [if_pos rfl, anyV_of hx' g1 q1 g2, ← g3, hk]; exact q
        · obtain ⟨p, ps, z1, z2, z3, z4, e⟩ := memP_some hp
          have ey : toPy (.lst ys) = some (.list ps) := by
            show (toPys ys).map PyData.list = _
            rw [z2]; rfl
          exact op_notInD h65 pins s σ' H v w u1 u2 Q I r1 r2 ⟨p, ps, hK ▸ hx.dp wl z1, hK ▸ hy.dp wl ey, z3, z4, by rw [← e, hk]; exact q⟩
    | tup ys =>
      obtain ⟨a, vs, e1, h1, _, q1⟩ := hy.tup wl
      have hk : (memD x ys).map (!·) = some k := by cases x <;> exact hk
      cases hq : memD x ys with
      | none => rw [hq] at hk; cases hk
      | some k' =>
        rw [hq] at hk
        have hk : (!k') = k := Option.some.inj hk
        rcases memD_some hq with ⟨g1, g2, g3⟩ | hp
        · have hx' : Rep G cs Hf x v := hx.st (fun ds z => by rw [z] at g1; cases g1)
          refine op_notIn_seq pins s σ' H v w u1 u2 Q I r1 r2 ⟨a, vs, e1, .inr (hK ▸ h1), flatV_of (H := H) hx' g1, flats_of q1 g2, ?_⟩
          rw [if_pos rfl, anyV_of hx' g1 q1 g2, ← g3, hk]; exact q
        · obtain ⟨p, ps, z1, z2, z3, z4, e⟩ := memP_some hp
          have ey : toPy (.tup ys) = some (.tuple ps) := by
            show (toPys ys).map PyData.tuple = _
            rw [z2]; rfl
          exact op_notInT h65 pins s σ' H v w u1 u2 Q I r1 r2 ⟨p, ps, hK ▸ hx.dp wl z1, hK ▸ hy.dp wl ey, z3, z4, by rw [← e, hk]; exact q⟩
    | _ => cases x <;> cases hk
  | is_ =>
    cases y with
    | non => exact op_isN pins s σ' H v w u1 u2 Q I r1 r2 ⟨hy.non, by rw [isN_of wl hx hk]; exact q⟩
    | bl b =>
      cases x with
      | bl a =>
        have hk : decide (a = b) = k := Option.some.inj hk
        exact op_isBl pins s σ' H v w u1 u2 Q I r1 r2 ⟨a, b, hx.bl, hy.bl, by rw [hk]; exact q⟩
      | _ => cases hk
    | _ => cases x <;> cases hk
  | isn =>
    cases y with
    | non => exact op_notN pins s σ' H v w u1 u2 Q I r1 r2 ⟨hy.non, by rw [isN_of wl hx (isn_is hk), Bool.not_not]; exact q⟩
    | bl b =>
      cases x with
      | bl a =>
        have hk : (!decide (a = b)) = k := Option.some.inj hk
        exact op_notBl pins s σ' H v w u1 u2 Q I r1 r2 ⟨a, b, hx.bl, hy.bl, by rw [hk]; exact q⟩
      | _ => cases hk
    | _ => cases x <;> cases hk
end
end Ev
end

section
set_option Elab.async false
set_option linter.all false
set_option maxRecDepth 100000
set_option maxHeartbeats 2000000
namespace Ev
open PySem PySem.Spec PyProof.Rows L2
def Rws (G : Gx) (cs : List Addr) (H Hf : Hp) : List D → List V → Prop
  | [], vs => vs = []
  | d :: ds, vs => ∃ v r, vs = v :: r ∧ Rw G cs H Hf d v ∧ Rws G cs H Hf ds r
section
variable {G : Gx} {cs : List Addr} {H Hf : Hp} {μ : Mu}
theorem Rws.one {d : D} {vs : List V} (h : Rws G cs H Hf [d] vs) : ∃ v, vs = [v] ∧ Rw G cs H Hf d v := by
  obtain ⟨v, r, e, h1, h2⟩ := h
  have e2 : r = [] := h2
  exact ⟨v, by rw [e, e2], h1⟩
theorem Rws.two {d e : D} {vs : List V} (h : Rws G cs H Hf [d, e] vs) : ∃ v w, vs = [v, w] ∧ Rw G cs H Hf d v ∧ Rw G cs H Hf e w := by
  obtain ⟨v, r, e1, h1, h2⟩ := h
  obtain ⟨w, e2, h3⟩ := Rws.one h2
  exact ⟨v, w, by rw [e1, e2], h1, h3⟩
theorem Rws.of : ∀ {ds : List D} {vs : List V}, Reps G cs Hf ds vs → Rws G cs H Hf ds vs
  | [], vs, h => Reps.nil_iff.mp h
  | d :: ds, vs, h => by
    obtain ⟨v, r, e, h1, h2⟩ := Reps.cons_iff.mp h
    exact ⟨v, r, e, .inl h1, Rws.of h2⟩
theorem Rws.step {cs' : List Addr} {H' Hf' : Hp} {μ' : Mu} (s : Step G cs H Hf cs' H' Hf' μ') : ∀ {ds : List D} {vs : List V}, Rws G cs H Hf ds vs → Rws G cs' H' Hf' ds vs
  | [], vs, h => h
  | d :: ds, vs, h => by
    obtain ⟨v, r, e, h1, h2⟩ := h
    exact ⟨v, r, e, h1.step s, Rws.step s h2⟩
end

theorem mxI_mem : ∀ (r : List Int) (m : Int), mxI m r ∈ m :: r
  | [], m => by simp [mxI]
  | x :: r, m => by
    have ih := mxI_mem r (if x > m then x else m)
    unfold mxI
    rcases List.mem_cons.mp ih with e | e
    · rw [e]; split <;> simp
    · exact List.mem_cons_of_mem _ (List.mem_cons_of_mem _ e)
theorem mxI_ge : ∀ (r : List Int) (m : Int), m ≤ mxI m r ∧ ∀ y ∈ r, y ≤ mxI m r
  | [], m => by simp [mxI]
  | x :: r, m => by
    have ih := mxI_ge r (if x > m then x else m)
    unfold mxI
    have h1 := ih.1
    have h2 : m ≤ (if x > m then x else m) ∧ x ≤ (if x > m then x else m) := by split <;> omega
    refine ⟨by omega, fun y hy => ?_⟩
    rcases List.mem_cons.mp hy with e | e
    · rw [e]; omega
    · exact ih.2 y e
theorem mnI_mem : ∀ (r : List Int) (m : Int), mnI m r ∈ m :: r
  | [], m => by simp [mnI]
  | x :: r, m => by
    have ih := mnI_mem r (if x < m then x else m)
    unfold mnI
    rcases List.mem_cons.mp ih with e | e
    · rw [e]; split <;> simp
    · exact List.mem_cons_of_mem _ (List.mem_cons_of_mem _ e)
theorem mnI_le : ∀ (r : List Int) (m : Int), mnI m r ≤ m ∧ ∀ y ∈ r, mnI m r ≤ y
  | [], m => by simp [mnI]
  | x :: r, m => by
    have ih := mnI_le r (if x < m then x else m)
    unfold mnI
    have h1 := ih.1
    have h2 : (if x < m then x else m) ≤ m ∧ (if x < m then x else m) ≤ x := by split <;> omega
    refine ⟨by omega, fun y hy => ?_⟩
    rcases List.mem_cons.mp hy with e | e
    · rw [e]; omega
    · exact ih.2 y e
theorem isort_perm (x : Int) : ∀ l : List Int, (isort x l).Perm (x :: l)
  | [] => .refl _
  | y :: r => by
    unfold isort
    split
    · exact .refl _
    · exact ((isort_perm x r).cons y).trans (.swap x y r)
theorem sortI_perm : ∀ l : List Int, (sortI l).Perm l
  | [] => .refl _
  | x :: r => (isort_perm x (sortI r)).trans ((sortI_perm r).cons x)
theorem isort_sorted (x : Int) : ∀ l : List Int, l.Pairwise (· ≤ ·) → (isort x l).Pairwise (· ≤ ·)
  | [], _ => by simp [isort]
  | y :: r, h => by
    unfold isort
    obtain ⟨h1, h2⟩ := List.pairwise_cons.mp h
    split
    · rename_i hxy
      exact List.pairwise_cons.mpr ⟨fun z hz => by
        rcases List.mem_cons.mp hz with e | e
        · rw [e]; exact hxy
        · exact Int.le_trans hxy (h1 z e), h⟩
    · rename_i hxy
      refine List.pairwise_cons.mpr ⟨fun z hz => ?_, isort_sorted x r h2⟩
      rcases List.mem_cons.mp ((isort_perm x r).mem_iff.mp hz) with e | e
      · rw [e]; omega
      · exact h1 z e
theorem sortI_sorted : ∀ l : List Int, (sortI l).Pairwise (· ≤ ·)
  | [] => .nil
  | x :: r => isort_sorted x _ (sortI_sorted r)
theorem sorted_eq : ∀ {l m : List Int}, l.Pairwise (· ≤ ·) → m.Pairwise (· ≤ ·) → l.Perm m → l = m
  | [], m, _, _, p => by rw [List.Perm.nil_eq p]
  | x :: l, [], _, _, p => absurd p.length_eq (by simp)
  | x :: l, y :: m, hl, hm, p => by
    obtain ⟨h1, h2⟩ := List.pairwise_cons.mp hl
    obtain ⟨g1, g2⟩ := List.pairwise_cons.mp hm
    have hx : x ∈ y :: m := p.mem_iff.mp List.mem_cons_self
    have hy : y ∈ x :: l := p.mem_iff.mpr List.mem_cons_self
    have e : x = y := by
      rcases List.mem_cons.mp hx with e | e
      · exact e
      · rcases List.mem_cons.mp hy with e' | e'
        · exact e'.symm
        · have := h1 y e'
          have := g1 x e
          omega
    subst e
    rw [sorted_eq h2 g2 (List.Perm.cons_inv p)]

section
variable {X : Cx} {G : Gx} {ec : Nat → Addr} {W : WX}
theorem un_D : UnR X (unaryOp .USub) (rD1 G ec W negD) := by
  intro pins s σ' H v u Q I r h
  obtain ⟨σ, cs, Hf, μ, x, wl, hx, h⟩ := h
  cases x with
  | int i => exact un_neg pins s σ' H v u Q I r ⟨i, hx.int, h.flat wl (Rep.int_iff.mpr rfl) fun _ z => nomatch z⟩
  | _ => exact h.elim
def rIxD (G : Gx) (ec : Nat → Addr) (W : WX) : R2 := fun v w H Q => ∃ σ cs Hf μ x y, Well G cs H Hf μ ∧ Rw G cs H Hf x v ∧ Rw G cs H Hf y w ∧ Post G ec W σ (R.of (ixM μ x y) μ) cs H Hf Q (Pst G)
theorem ix_D (hK : X.K = G.K) : IxR X (rIxD G ec W) := by
  intro value slice pins s σ' H v w u1 u2 Q I r1 r2 h hs
  obtain ⟨σ, cs, Hf, μ, x, y, wl, hx, hy, h⟩ := h
  have it : ∀ (ds : List D) (vs : List V) (i : Int) (h : Post G ec W σ (R.of (atI ds i) μ) cs H Hf Q (Pst G)), Reps G cs Hf ds vs → ∃ v, atI vs i = some v ∧ Q v H := fun ds vs i h hr => by
    cases e : atI ds i with
    | none => rw [e] at h; exact h.elim
    | some d =>
      rw [e] at h
      unfold atI at e ⊢
      rw [hr.len] at e
      cases e2 : ixN vs.length i with
      | none => rw [e2] at e; cases e
      | some j =>
        rw [e2] at e
        have e : ds[j]? = some d := e
        obtain ⟨v, q1, q2⟩ := hr.get e
        exact ⟨v, q1, h v cs H Hf wl q2⟩
  cases x with
  | lst xs =>
    cases y with
    | int i =>
      obtain ⟨a, vs, e1, h1, q1⟩ := hx.lst wl
      obtain ⟨z, e2, q⟩ := it xs vs i h q1
      exact ix_seq value slice pins s σ' H v w u1 u2 Q I r1 r2 (.inl ⟨a, vs, i, z, e1, hy.int, .inl (.inl h1), e2, q⟩) hs
    | _ => exact h.elim
  | tup xs =>
    cases y with
    | int i =>
      obtain ⟨a, vs, e1, h1, _, q1⟩ := hx.tup wl
      obtain ⟨z, e2, q⟩ := it xs vs i h q1
      exact ix_seq value slice pins s σ' H v w u1 u2 Q I r1 r2 (.inr (.inl ⟨a, vs, i, z, e1, hy.int, hK ▸ h1, e2, q⟩)) hs
    | _ => exact h.elim
  | cell c =>
    obtain ⟨a, e1, e2⟩ := Rep.cell_iff.mp (hx.st fun _ z => nomatch z)
    have h : Post G ec W σ (R.of (match μ[c]? with
      | some ds => ixD (.lst ds) y
      | none => none) μ) cs H Hf Q (Pst G) := h
    cases e3 : μ[c]? with
    | none => rw [e3] at h; exact h.elim
    | some ds =>
      rw [e3] at h
      obtain ⟨vs, q1, q2, q3⟩ := wl.cells.at_ c ds a e3 e1
      cases y with
      | int i =>
        obtain ⟨z, e4, q⟩ := it ds vs i h q3
        exact ix_seq value slice pins s σ' H v w u1 u2 Q I r1 r2 (.inl ⟨a, vs, i, z, e2, hy.int, .inl (.inl q1), e4, q⟩) hs
      | _ => exact h.elim
  | str x =>
    cases y with
    | int i =>
      by_cases hz : x.length ≤ sizeLine
      · simp only [ixM, ixD, if_pos hz] at h
        cases e : atI x.cps.toList i with
        | none => rw [e] at h; exact h.elim
        | some c =>
          rw [e] at h
          exact ix_seq value slice pins s σ' H v w u1 u2 Q I r1 r2 (.inr (.inr ⟨x, i, c, hx.str, hy.int, hz, e, h _ cs H Hf wl (Rep.str_iff.mpr rfl)⟩)) hs
      · simp only [ixM, ixD, if_neg hz] at h
        exact h.elim
    | _ => exact h.elim
  | _ => exact h.elim
def rSlD (G : Gx) (ec : Nat → Addr) (W : WX) : V → Option Int → Option Int → Hp → VK → Prop := fun v lo hi H Q => ∃ σ cs Hf μ x, Well G cs H Hf μ ∧ Rw G cs H Hf x v ∧ Post G ec W σ (R.of (slD x lo hi) μ) cs H Hf Q (Pfr G)
theorem cut_reps {cs : List Addr} {Hf : Hp} {ds : List D} {vs : List V} (r : Reps G cs Hf ds vs) (lo hi : Option Int) : Reps G cs Hf (cut ds lo hi) (cutV vs lo hi) := by
  unfold cut cutV
  rw [r.len]
  exact (r.drop _).take _
theorem sIx_le_n (n : Nat) (o : Option Int) : HT.sIx n n o ≤ n := HT.sIx_le n n (Nat.le_refl _) o
theorem sl_D (hK : X.K = G.K) : SlR X (rSlD G ec W) := by
  intro pins s σ' H v u vl vu lo hi sl Q I r hs pl pu h
  obtain ⟨σ, cs, Hf, μ, x, wl, hx, h⟩ := h
  cases x with
  | lst xs =>
    obtain ⟨a, vs, e1, h1, q1⟩ := hx.lst wl
    exact sl_list pins s σ' H v u vl vu lo hi sl Q I r hs pl pu ⟨a, vs, e1, .inl (.inl h1), h.newL wl (cut_reps q1 lo hi)⟩
  | tup xs =>
    obtain ⟨a, vs, e1, h1, g1, q1⟩ := hx.tup wl
    refine sl_tupA pins s σ' H v u vl vu lo hi sl Q I r hs pl pu ⟨a, vs, e1, hK ▸ h1, fun ⟨z1, z2⟩ => ?_, fun _ => h.newT wl (cut_reps q1 lo hi)⟩
    have e : cut xs lo hi = xs := by
      unfold cut
      rw [q1.len, z1, z2, List.drop_zero, Nat.sub_zero, ← q1.len, List.take_length]
    have h : Post G ec W σ (.ok (.tup (cut xs lo hi)) μ) cs H Hf Q (Pfr G) := h
    rw [e] at h
    exact h.flat wl (Rep.tup_iff.mpr ⟨a, vs, rfl, g1, q1⟩) fun _ z => nomatch z
  | scr ns =>
    obtain ⟨a, e1, h1⟩ := Rep.scr_iff.mp (hx.st fun _ z => nomatch z)
    have e : cutV (ns.map V.int) lo hi = (cut ns lo hi).map V.int := by
      unfold cutV cut
      rw [List.length_map, List.map_take, List.map_drop]
    refine sl_list pins s σ' H v u vl vu lo hi sl Q I r hs pl pu ⟨a, _, e1, hK ▸ Same.seq wl.sub h1, ?_⟩
    rw [e]
    exact h.newL wl (Reps.map (fun i => Rep.int_iff.mpr rfl) _)
  | _ => exact h.elim
theorem mxI_fold : ∀ (r : List Int) (m : Int), mxI m r = r.foldl max m
  | [], m => rfl
  | x :: r, m => by
    show mxI (if x > m then x else m) r = r.foldl max (max m x)
    rw [mxI_fold r]
    congr 1
    split <;> omega
theorem mnI_fold : ∀ (r : List Int) (m : Int), mnI m r = r.foldl min m
  | [], m => rfl
  | x :: r, m => by
    show mnI (if x < m then x else m) r = r.foldl min (min m x)
    rw [mnI_fold r]
    congr 1
    split <;> omega
theorem alike_ints (ns : List Int) : PySem.W.AlikeAll (ns.map .int) := ⟨fun x hx y hy => by
  obtain ⟨i, _, rfl⟩ := List.mem_map.mp hx
  obtain ⟨j, _, rfl⟩ := List.mem_map.mp hy
  rfl, fun x hx => by
  obtain ⟨i, _, rfl⟩ := List.mem_map.mp hx
  exact fun z => nomatch z⟩
theorem depth_int1 : ∀ ns : List Int, PyData.depthAll (ns.map .int) ≤ 1
  | [] => by simp [PyData.depthAll]
  | x :: r => by
    have := depth_int1 r
    simp [PyData.depthAll, PyData.depth]
    omega
theorem reads_ints {s : Shared} : ∀ {vs : List Value} {ns : List Int}, Vals (ns.map V.int) vs → ReadsAll s.heap vs (ns.map .int) []
  | _, [], h => by cases h; exact .nil
  | _, n :: r, h => by
    cases h with
    | cons h1 h2 =>
      obtain ⟨t, rfl⟩ := h1
      exact ReadsAll.cons (as := []) (bs := []) (.int n t) (reads_ints h2)
theorem cr_maxT {X : Cx} (hc : X.calm = true) (hu : X.A.units + 10 < cLine) : CallR X (.builtin "max") (fun vs H Q => ∃ (a : Addr) (n : Int) (ns : List Int), vs = [V.ref a] ∧ SqT X.K H a ((n :: ns).map V.int) ∧ Q (.int (mxI n ns)) H) := by
  intro pins s σ H vs us Q I r h
  obtain ⟨a, n, ns, rfl, hs, q⟩ := h
  obtain ⟨its, rv, hl, _⟩ := I.tuple hs
  rw [Vals.ref1 r]
  have hd := depth_int1 (n :: ns)
  refine PySem.W.max_tuple_data (x := .int n) (xs := ns.map .int) (I.ok.hd hc) hl (by simpa using reads_ints rv) (alike_ints (n :: ns)) (by simp only [List.map_cons] at hd; omega) fun i v h' tk bs _ hr hk => ?_
  rw [PySem.W.maxD_ints, ← mxI_fold] at hr
  cases hr
  exact ⟨.int _, H, I.kept hk, ⟨_, rfl⟩, q⟩
theorem cr_minT {X : Cx} (hc : X.calm = true) (hu : X.A.units + 10 < cLine) : CallR X (.builtin "min") (fun vs H Q => ∃ (a : Addr) (n : Int) (ns : List Int), vs = [V.ref a] ∧ SqT X.K H a ((n :: ns).map V.int) ∧ Q (.int (mnI n ns)) H) := by
  intro pins s σ H vs us Q I r h
  obtain ⟨a, n, ns, rfl, hs, q⟩ := h
  obtain ⟨its, rv, hl, _⟩ := I.tuple hs
  rw [Vals.ref1 r]
  have hd := depth_int1 (n :: ns)
  refine PySem.W.min_tuple_data (x := .int n) (xs := ns.map .int) (I.ok.hd hc) hl (by simpa using reads_ints rv) (alike_ints (n :: ns)) (by simp only [List.map_cons] at hd; omega) fun i v h' tk bs _ hr hk => ?_
  rw [PySem.W.minD_ints, ← mnI_fold] at hr
  cases hr
  exact ⟨.int _, H, I.kept hk, ⟨_, rfl⟩, q⟩
def prP (x : Int × Int) : PyData := .tuple [.int x.1, .int x.2]
theorem alike_prs (ns : List (Int × Int)) : PySem.W.AlikeAll (ns.map prP) := ⟨fun x hx y hy => by
  obtain ⟨i, _, rfl⟩ := List.mem_map.mp hx
  obtain ⟨j, _, rfl⟩ := List.mem_map.mp hy
  rfl, fun x hx => by
  obtain ⟨i, _, rfl⟩ := List.mem_map.mp hx
  exact fun z => nomatch z⟩
theorem depth_prs : ∀ ns : List (Int × Int), PyData.depthAll (ns.map prP) ≤ 3
  | [] => by simp [PyData.depthAll]
  | x :: r => by
    have := depth_prs r
    simp [prP, PyData.depthAll, PyData.depth] at this ⊢
    omega
theorem mn_prs : ∀ (r : List (Int × Int)) (m : Int × Int), PySem.W.minD (prP m) (r.map prP) = prP (mnP m r)
  | [], m => rfl
  | x :: r, m => by
    show PySem.W.minD (if PySem.W.dataLt (prP x) (prP m) = true then prP x else prP m) (r.map prP) = prP (mnP (if prLt x m = true then x else m) r)
    rw [show PySem.W.dataLt (prP x) (prP m) = prLt x m from PySem.W.dataLt_ii _ _ _ _]
    split <;> exact mn_prs r _
theorem mx_prs : ∀ (r : List (Int × Int)) (m : Int × Int), PySem.W.maxD (prP m) (r.map prP) = prP (mxP m r)
  | [], m => rfl
  | x :: r, m => by
    show PySem.W.maxD (if PySem.W.dataLt (prP m) (prP x) = true then prP x else prP m) (r.map prP) = prP (mxP (if prLt m x = true then x else m) r)
    rw [show PySem.W.dataLt (prP m) (prP x) = prLt m x from PySem.W.dataLt_ii _ _ _ _]
    split <;> exact mx_prs r _
theorem prP_inj {x y : Int × Int} (h : prP x = prP y) : x = y := by
  obtain ⟨a, b⟩ := x
  obtain ⟨c, d⟩ := y
  unfold prP at h
  simp at h
  rw [h.1, h.2]
theorem vals_at : ∀ {vs : List V} {us : List Value} {i : Nat} {u : Value}, Vals vs us → us[i]? = some u → ∃ v, vs[i]? = some v ∧ RelV v u := fun {vs us i u} r h => by
  cases q : vs[i]? with
  | none => rw [Vals.none_of r q] at h; cases h
  | some v =>
    obtain ⟨w, h1, h2⟩ := Vals.get r q
    rw [h] at h1
    cases h1
    exact ⟨v, rfl, h2⟩
theorem cr_minP {X : Cx} (hc : X.calm = true) (hu : X.A.units + 10 < cLine) : CallR X (.builtin "min") (fun (vs : List V) (H : Hp) (Q : VK) => ∃ (a : Addr) (ws : List V) (n : Int × Int) (ns : List (Int × Int)), vs = [V.ref a] ∧ SqL X.K H a ws ∧ DpAll X.K H ws ((n :: ns).map prP) ∧ ∀ (i : Nat) (w : V), ws[i]? = some w → (n :: ns)[i]? = some (mnP n ns) → Q w H) := by
  intro pins s σ H vs us Q I r h
  obtain ⟨a, ws, n, ns, rfl, hs, hd, q⟩ := h
  obtain ⟨its, rv, hl, _⟩ := I.list hs
  rw [Vals.ref1 r]
  have hp := depth_prs (n :: ns)
  obtain ⟨as, hr⟩ := Dp.readsAll I _ _ _ hd rv
  refine PySem.W.min_list_data (x := prP n) (xs := ns.map prP) (I.ok.hd hc) hl.isList (by simpa using hr) (alike_prs (n :: ns)) (by simp only [List.map_cons] at hp; omega) fun i v h' tk bs hi hv hk => ?_
  obtain ⟨w, hw, rw'⟩ := vals_at rv (by simpa using hi)
  obtain ⟨cs, hv2, hlt, _, _⟩ := PySem.W.readsAll_at hr i v (by simpa using hi)
  rw [mn_prs] at hv
  have e := (reads_det (fun b o hb _ => hk b o hb) hv2 hv).1
  refine ⟨w, H, I.kept hk, rw', q i w hw ?_⟩
  rw [List.length_map] at hlt
  rw [List.getD_eq_getElem?_getD, List.getElem?_map, List.getElem?_eq_getElem hlt] at e
  rw [List.getElem?_eq_getElem hlt]
  exact congrArg some (prP_inj e).symm
theorem cr_maxP {X : Cx} (hc : X.calm = true) (hu : X.A.units + 10 < cLine) : CallR X (.builtin "max") (fun (vs : List V) (H : Hp) (Q : VK) => ∃ (a : Addr) (ws : List V) (n : Int × Int) (ns : List (Int × Int)), vs = [V.ref a] ∧ SqL X.K H a ws ∧ DpAll X.K H ws ((n :: ns).map prP) ∧ ∀ (i : Nat) (w : V), ws[i]? = some w → (n :: ns)[i]? = some (mxP n ns) → Q w H) := by
  intro pins s σ H vs us Q I r h
  obtain ⟨a, ws, n, ns, rfl, hs, hd, q⟩ := h
  obtain ⟨its, rv, hl, _⟩ := I.list hs
  rw [Vals.ref1 r]
  have hp := depth_prs (n :: ns)
  obtain ⟨as, hr⟩ := Dp.readsAll I _ _ _ hd rv
  refine PySem.W.max_list_data (x := prP n) (xs := ns.map prP) (I.ok.hd hc) hl.isList (by simpa using hr) (alike_prs (n :: ns)) (by simp only [List.map_cons] at hp; omega) fun i v h' tk bs hi hv hk => ?_
  obtain ⟨w, hw, rw'⟩ := vals_at rv (by simpa using hi)
  obtain ⟨cs, hv2, hlt, _, _⟩ := PySem.W.readsAll_at hr i v (by simpa using hi)
  rw [mx_prs] at hv
  have e := (reads_det (fun b o hb _ => hk b o hb) hv2 hv).1
  refine ⟨w, H, I.kept hk, rw', q i w hw ?_⟩
  rw [List.length_map] at hlt
  rw [List.getD_eq_getElem?_getD, List.getElem?_map, List.getElem?_eq_getElem hlt] at e
  rw [List.getElem?_eq_getElem hlt]
  exact congrArg some (prP_inj e).symm
theorem asPrs_map : ∀ {ds : List D} {ns : List (Int × Int)}, asPrs ds = some ns → ds = ns.map prD
  | [], ns, h => by cases h; rfl
  | .tup [.int a, .int b] :: r, ns, h => by
    simp only [asPrs, Option.map_eq_some_iff] at h
    obtain ⟨ms, h1, rfl⟩ := h
    rw [asPrs_map h1]
    rfl
theorem toPys_prs : ∀ ns : List (Int × Int), toPys (ns.map prD) = some (ns.map prP)
  | [] => rfl
  | x :: r => by
    show (match toPy (prD x), toPys (r.map prD) with
      | some p, some ps => some (p :: ps)
      | _, _ => none) = _
    rw [toPys_prs r]
    rfl
theorem cr_sumT {X : Cx} (hc : X.calm = true) : CallR X (.builtin "sum") (fun vs H Q => ∃ (a : Addr) (ns : List Int), vs = [V.ref a] ∧ SqT X.K H a (ns.map V.int) ∧ Q (.int ns.sum) H) := by
  intro pins s σ H vs us Q I r h
  obtain ⟨a, ns, rfl, hs, q⟩ := h
  obtain ⟨its, rv, hl, _⟩ := I.tuple hs
  rw [Vals.ref1 r]
  have hi := rv.ints
  obtain ⟨xs, e⟩ := hi.allInts.items
  have hn : numsOf (intItems xs).toList = ns := by rw [← e]; exact hi.numsOf
  rw [nums_intItems] at hn
  rw [e] at hl
  refine PySem.W.ktm_sumG (I.ok.hd hc) hl fun h' tk t' hk => ?_
  rw [preSum_eq, List.take_of_length_le (by simp), hn]
  exact ⟨.int _, H, I.kept hk, ⟨_, rfl⟩, q⟩
def biN : Bi → Str
  | .abs => "abs" | .all => "all" | .any => "any" | .int => "int" | .len => "len" | .list => "list" | .max => "max" | .min => "min" | .repr => "repr" | .sorted => "sorted" | .sum => "sum" | .tuple => "tuple" | .str => "str"
def biV : Bi → Value
  | .abs => .builtin "abs" | .all => .builtin "all" | .any => .builtin "any" | .int => .type "int" | .len => .builtin "len" | .list => .type "list" | .max => .builtin "max" | .min => .builtin "min" | .repr => .builtin "repr" | .sorted => .builtin "sorted" | .sum => .builtin "sum" | .tuple => .type "tuple" | .str => .type "str"
def rBi (G : Gx) (ec : Nat → Addr) (W : WX) (b : Bi) : List V → Hp → VK → Prop := fun vs H Q => ∃ σ cs Hf μ xs, Well G cs H Hf μ ∧ Rws G cs H Hf xs vs ∧ Post G ec W σ (R.of (biD b xs) μ) cs H Hf Q (Pfr G)
/-- {} -/
theorem call_repr_dic0 (hg : X.A.guards = some []) (hu : X.A.units + 70 < cLine) {pins : List (Addr × Obj)} {s : Shared} {σ' : L2.St} {H : Hp} {a : Addr} {Q : VK} (I : Inv X pins σ' H s) (e : H a = some (.dK []))
    (q : Q (.str (PyData.shown (.dict []))) H) : wpAny (model X.prog X.w) X.A (call (.builtin "repr") [.ref a]) (EP X pins σ' Q) X.xe s := by
  obtain ⟨_, hsm, vs, kv, o, es, ep, ho, hx, hd, _, hp, _⟩ := dk_of I.hok e
  cases kv
  have he : es.toList = [] := by
    cases hp' : es.toList with
    | nil => rfl
    | cons x r => rw [hp'] at hp; cases hp
  have r : Reads s.heap (.ref a) (.dict []) (a :: [] ++ []) := Reads.dict ho hx.1 hd (by rw [he]; exact .nil) (by rw [he]; exact .nil)
  refine PySem.repr_of_reads' r rfl (fun _ h => ?_) hg (by show X.A.units + (0 + 1 + 1) < cLine; omega) (fun _ _ e => e) (fun h' t tk k => ⟨.str (PyData.shown (.dict [])), H, I.kept k, ⟨_, rfl⟩, q⟩) (by decide +kernel)
  simp at h
  rw [h] at hsm
  simp at hsm
theorem call_repr_D (hg : X.A.guards = some []) (hu : X.A.units + 70 < cLine) {pins : List (Addr × Obj)} {s : Shared} {σ' : L2.St} {H : Hp} {v : V} {u : Value} {p : PyData} {Q : VK} (I : Inv X pins σ' H s) (r : RelV v u) (d : Dp X.K H v p)
    (h1 : p.showable = true) (h2 : SeqAt.shaped p = true) (h3 : p.shown.length ≤ sizeLine) (q : Q (.str p.shown) H) : wpAny (model X.prog X.w) X.A (call (.builtin "repr") [u]) (EP X pins σ' Q) X.xe s := by
  obtain ⟨as, hr⟩ := Dp.reads I p v u d r
  have hdp := SeqAt.depth_of_shaped h2
  have nd : p.hasDict = false := PyData.hasDict_of_canLay p (SeqAt.canLay_of_shaped h2)
  have obj : ∀ a, u = .ref a → wpAny (model X.prog X.w) X.A (call (.builtin "repr") [u]) (EP X pins σ' Q) X.xe s := fun a e => by
    subst e
    exact PySem.repr_of_reads' hr h1 (PyData.noDict_hsm nd) hg (by omega) (fun _ _ e => e) (fun h' t tk k => ⟨.str p.shown, H, I.kept k, ⟨_, rfl⟩, q⟩) h3
  cases hr with
  | none =>
    simp only [PyData.shown] at q
    exact PySem.P.repr_of_none ⟨.str "None", H, I.tok _, ⟨_, rfl⟩, q⟩
  | bool b =>
    simp only [PyData.shown] at q
    exact PySem.P.repr_of_bool ⟨.str _, H, I.tok _, ⟨_, rfl⟩, q⟩
  | int i t =>
    simp only [PyData.shown] at q
    exact PySem.P.repr_of_int (by simpa [PyData.showable] using h1) ⟨.str _, H, I.tok _, ⟨_, rfl⟩, q⟩
  | str x t =>
    simp only [PyData.shown] at q h3
    exact PySem.P.repr_of_str ⟨.str _, H, I.tok _, ⟨_, rfl⟩, q⟩ h3
  | list _ _ _ _ => exact obj _ rfl
  | tuple _ _ _ _ => exact obj _ rfl
  | dict _ _ _ _ _ => exact obj _ rfl
theorem call_D (hK : X.K = G.K) (hc : X.calm = true) (hg : X.A.guards = some []) (hu : X.A.units + 70 < cLine) (b : Bi) : CallR X (biV b) (rBi G ec W b) := by
  intro pins s σ' H vs us Q I r h
  obtain ⟨σ, cs, Hf, μ, xs, wl, hxs, h⟩ := h
  have intsH : ∀ ds, asInts ds ≠ none → ∀ v, Rw G cs H Hf (.lst ds) v → ∃ a ns, asInts ds = some ns ∧ v = .ref a ∧ SqL X.K H a (ns.map V.int) := fun ds e v hv => by
    obtain ⟨a, ws, e1, h1, q1⟩ := hv.lst wl
    cases e2 : asInts ds with
    | none => exact absurd e2 e
    | some ns =>
      rw [asInts_map e2] at q1
      rw [Reps.ints q1] at h1
      exact ⟨a, ns, rfl, e1, .inl (.inl h1)⟩
  have blsH : ∀ ds, asBls ds ≠ none → ∀ v, Rw G cs H Hf (.lst ds) v → ∃ a ns, asBls ds = some ns ∧ v = .ref a ∧ SqL X.K H a (ns.map V.bl) := fun ds e v hv => by
    obtain ⟨a, ws, e1, h1, q1⟩ := hv.lst wl
    cases e2 : asBls ds with
    | none => exact absurd e2 e
    | some ns =>
      rw [asBls_map e2] at q1
      rw [Reps.bls q1] at h1
      exact ⟨a, ns, rfl, e1, .inl (.inl h1)⟩
  have prsMax : ∀ ds v, Rw G cs H Hf (.lst ds) v → Post G ec W σ (R.of (match asPrs ds with
      | some (m :: r) => some (prD (mxP m r))
      | _ => none) μ) cs H Hf Q (Pfr G) → ∀ {us : List Value}, Vals [v] us → wpAny (model X.prog X.w) X.A (call (.builtin "max") us) (EP X pins σ' Q) X.xe s := fun ds v hv h us r => by
    cases e : asPrs ds with
    | none => rw [e] at h; exact h.elim
    | some ns =>
      cases ns with
      | nil => rw [e] at h; exact h.elim
      | cons m r' =>
        rw [e] at h
        have em := asPrs_map e
        obtain ⟨a, ws, e1, h1, q1⟩ := hv.lst wl
        subst e1
        have hd2 : DpAll X.K H ws ((m :: r').map prP) := hK ▸ (Rep.dpAux wl).2 ds ws _ q1 (by rw [em]; exact toPys_prs (m :: r'))
        refine cr_maxP hc (by omega) pins s σ' H _ us Q I r ⟨a, ws, m, r', rfl, .inl (.inl h1), hd2, fun i w hw hi => ?_⟩
        rw [em] at q1
        obtain ⟨w2, hw2, rp⟩ := q1.get (i := i) (d := prD (mxP m r')) (by rw [List.getElem?_map, hi]; rfl)
        rw [hw] at hw2
        cases hw2
        exact h.flat wl rp fun _ z => nomatch z
  have prsMin : ∀ ds v, Rw G cs H Hf (.lst ds) v → Post G ec W σ (R.of (match asPrs ds with
      | some (m :: r) => some (prD (mnP m r))
      | _ => none) μ) cs H Hf Q (Pfr G) → ∀ {us : List Value}, Vals [v] us → wpAny (model X.prog X.w) X.A (call (.builtin "min") us) (EP X pins σ' Q) X.xe s := fun ds v hv h us r => by
    cases e : asPrs ds with
    | none => rw [e] at h; exact h.elim
    | some ns =>
      cases ns with
      | nil => rw [e] at h; exact h.elim
      | cons m r' =>
        rw [e] at h
        have em := asPrs_map e
        obtain ⟨a, ws, e1, h1, q1⟩ := hv.lst wl
        subst e1
        have hd2 : DpAll X.K H ws ((m :: r').map prP) := hK ▸ (Rep.dpAux wl).2 ds ws _ q1 (by rw [em]; exact toPys_prs (m :: r'))
        refine cr_minP hc (by omega) pins s σ' H _ us Q I r ⟨a, ws, m, r', rfl, .inl (.inl h1), hd2, fun i w hw hi => ?_⟩
        rw [em] at q1
        obtain ⟨w2, hw2, rp⟩ := q1.get (i := i) (d := prD (mnP m r')) (by rw [List.getElem?_map, hi]; rfl)
        rw [hw] at hw2
        cases hw2
        exact h.flat wl rp fun _ z => nomatch z
  cases xs with
  | nil => cases b <;> exact h.elim
  | cons x xs =>
    cases xs with
    | nil =>
      obtain ⟨v, rfl, hx⟩ := hxs.one
      cases b with
      | abs => cases x with
        | int i => exact call_abs pins s σ' H _ us Q I r ⟨i, by rw [hx.int], h.flat wl (Rep.int_iff.mpr rfl) fun _ z => nomatch z⟩
        | _ => exact h.elim
      | all => cases x with
        | lst ds =>
          cases e : asBls ds with
          | none => simp only [biD, e, Option.map_none, R.of_none] at h; exact h.elim
          | some bs =>
            obtain ⟨a, ns, e2, e1, h1⟩ := blsH ds (ne_none e) v hx
            rw [e] at e2; cases e2
            simp only [biD, e, Option.map_some, R.of_some] at h
            exact cr_all hc pins s σ' H _ us Q I r ⟨a, bs, by rw [e1], h1, h.flat wl (Rep.bl_iff.mpr rfl) fun _ z => nomatch z⟩
        | _ => exact h.elim
      | any => cases x with
        | lst ds =>
          cases e : asBls ds with
          | none => simp only [biD, e, Option.map_none, R.of_none] at h; exact h.elim
          | some bs =>
            obtain ⟨a, ns, e2, e1, h1⟩ := blsH ds (ne_none e) v hx
            rw [e] at e2; cases e2
            simp only [biD, e, Option.map_some, R.of_some] at h
            exact cr_any hc pins s σ' H _ us Q I r ⟨a, bs, by rw [e1], h1, h.flat wl (Rep.bl_iff.mpr rfl) fun _ z => nomatch z⟩
        | _ => exact h.elim
      | int => cases x with
        | int i => exact call_int1 pins s σ' H _ us Q I r (.inl ⟨i, by rw [hx.int], h.flat wl (Rep.int_iff.mpr rfl) fun _ z => nomatch z⟩)
        | bl i => exact call_int1 pins s σ' H _ us Q I r (.inr ⟨i, by rw [hx.bl], h.flat wl (Rep.int_iff.mpr rfl) fun _ z => nomatch z⟩)
        | _ => exact h.elim
      | len => cases x with
        | lst ds =>
          obtain ⟨a, ws, e1, h1, q1⟩ := hx.lst wl
          exact call_len pins s σ' H _ us Q I r ⟨v, ds.length, rfl, by rw [e1]; exact .inl ⟨ws, .inl (.inl h1), q1.len⟩, h.flat wl (Rep.int_iff.mpr rfl) fun _ z => nomatch z⟩
        | tup ds =>
          obtain ⟨a, ws, e1, h1, _, q1⟩ := hx.tup wl
          exact call_len pins s σ' H _ us Q I r ⟨v, ds.length, rfl, by rw [e1]; exact .inr ⟨ws, hK ▸ h1, q1.len⟩, h.flat wl (Rep.int_iff.mpr rfl) fun _ z => nomatch z⟩
        | str x =>
          by_cases hz : x.length ≤ sizeLine
          · simp only [biD, lenD, if_pos hz, Option.map_some, R.of_some] at h
            exact call_len pins s σ' H _ us Q I r ⟨v, x.length, rfl, by rw [hx.str]; exact ⟨hz, rfl⟩, h.flat wl (Rep.int_iff.mpr rfl) fun _ z => nomatch z⟩
          · simp only [biD, lenD, if_neg hz, Option.map_none, R.of_none] at h
            exact h.elim
        | _ => exact h.elim
      | list => cases x with
        | lst ds =>
          obtain ⟨a, ws, e1, h1, q1⟩ := hx.lst wl
          exact call_list_of pins s σ' H _ us Q I r ⟨a, ws, by rw [e1], .inl (.inl (.inl h1)), h.newL wl q1⟩
        | tup ds =>
          obtain ⟨a, ws, e1, h1, _, q1⟩ := hx.tup wl
          exact call_list_of pins s σ' H _ us Q I r ⟨a, ws, by rw [e1], .inr (hK ▸ h1), h.newL wl q1⟩
        | _ => exact h.elim
      | tuple => cases x with
        | lst ds =>
          obtain ⟨a, ws, e1, h1, q1⟩ := hx.lst wl
          exact call_tuple_of pins s σ' H _ us Q I r ⟨a, ws, by rw [e1], .inl ⟨.inl (.inl h1), h.newT wl q1⟩⟩
        | tup ds =>
          obtain ⟨a, ws, e1, h1, g1, q1⟩ := hx.tup wl
          exact call_tuple_of pins s σ' H _ us Q I r ⟨a, ws, by rw [e1], .inr ⟨hK ▸ h1, h.flat wl (Rep.tup_iff.mpr ⟨a, ws, rfl, g1, q1⟩) fun _ z => nomatch z⟩⟩
        | _ => exact h.elim
      | max => cases x with
        | lst ds =>
          cases e : asInts ds with
          | none =>
            simp only [biD, e] at h
            exact prsMax ds v hx h r
          | some ns =>
            obtain ⟨a, ms, e2, e1, h1⟩ := intsH ds (ne_none e) v hx
            rw [e] at e2; cases e2
            cases ns with
            | nil =>
              simp only [biD, e] at h
              exact prsMax ds v hx h r
            | cons m r' =>
              simp only [biD, e, R.of_some] at h
              refine cr_max hc pins s σ' H _ us Q I r ⟨a, m :: r', by rw [e1], h1, Nat.succ_pos _, fun z hz hm => ?_⟩
              have hge := mxI_ge r' m
              have e3 : z = mxI m r' := by
                have h3 := hm _ (mxI_mem r' m)
                have h4 : z ≤ mxI m r' := by
                  rcases List.mem_cons.mp hz with q | q
                  · rw [q]; exact hge.1
                  · exact hge.2 z q
                omega
              rw [e3]
              exact h.flat wl (Rep.int_iff.mpr rfl) fun _ z => nomatch z
        | tup ds =>
          cases e : asInts ds with
          | none => simp only [biD, e, R.of_none] at h; exact h.elim
          | some ns =>
            obtain ⟨a, vs, e1, h1, _, q1⟩ := hx.tup wl
            rw [asInts_map e] at q1
            have ev : vs = ns.map V.int := Reps.ints q1
            subst ev
            cases ns with
            | nil => simp only [biD, e, R.of_none] at h; exact h.elim
            | cons m r' =>
              simp only [biD, e, R.of_some] at h
              exact cr_maxT hc (by omega) pins s σ' H _ us Q I r ⟨a, m, r', by rw [e1], hK ▸ h1, h.flat wl (Rep.int_iff.mpr rfl) fun _ z => nomatch z⟩
        | _ => exact h.elim
      | min => cases x with
        | lst ds =>
          cases e : asInts ds with
          | none =>
            simp only [biD, e] at h
            exact prsMin ds v hx h r
          | some ns =>
            obtain ⟨a, ms, e2, e1, h1⟩ := intsH ds (ne_none e) v hx
            rw [e] at e2; cases e2
            cases ns with
            | nil =>
              simp only [biD, e] at h
              exact prsMin ds v hx h r
            | cons m r' =>
              simp only [biD, e, R.of_some] at h
              refine cr_min hc pins s σ' H _ us Q I r ⟨a, m :: r', by rw [e1], h1, Nat.succ_pos _, fun z hz hm => ?_⟩
              have hge := mnI_le r' m
              have e3 : z = mnI m r' := by
                have h3 := hm _ (mnI_mem r' m)
                have h4 : mnI m r' ≤ z := by
                  rcases List.mem_cons.mp hz with q | q
                  · rw [q]; exact hge.1
                  · exact hge.2 z q
                omega
              rw [e3]
              exact h.flat wl (Rep.int_iff.mpr rfl) fun _ z => nomatch z
        | tup ds =>
          cases e : asInts ds with
          | none => simp only [biD, e, R.of_none] at h; exact h.elim
          | some ns =>
            obtain ⟨a, vs, e1, h1, _, q1⟩ := hx.tup wl
            rw [asInts_map e] at q1
            have ev : vs = ns.map V.int := Reps.ints q1
            subst ev
            cases ns with
            | nil => simp only [biD, e, R.of_none] at h; exact h.elim
            | cons m r' =>
              simp only [biD, e, R.of_some] at h
              exact cr_minT hc (by omega) pins s σ' H _ us Q I r ⟨a, m, r', by rw [e1], hK ▸ h1, h.flat wl (Rep.int_iff.mpr rfl) fun _ z => nomatch z⟩
        | _ => exact h.elim
      | sum => cases x with
        | lst ds =>
          cases e : asInts ds with
          | none => simp only [biD, e, Option.map_none, R.of_none] at h; exact h.elim
          | some ns =>
            obtain ⟨a, ms, e2, e1, h1⟩ := intsH ds (ne_none e) v hx
            rw [e] at e2; cases e2
            simp only [biD, e, Option.map_some, R.of_some] at h
            exact cr_sum hc pins s σ' H _ us Q I r ⟨a, ns, by rw [e1], h1, h.flat wl (Rep.int_iff.mpr rfl) fun _ z => nomatch z⟩
        | tup ds =>
          cases e : asInts ds with
          | none => simp only [biD, e, Option.map_none, R.of_none] at h; exact h.elim
          | some ns =>
            obtain ⟨a, vs, e1, h1, _, q1⟩ := hx.tup wl
            simp only [biD, e, Option.map_some, R.of_some] at h
            rw [asInts_map e] at q1
            have ev : vs = ns.map V.int := Reps.ints q1
            subst ev
            exact cr_sumT hc pins s σ' H _ us Q I r ⟨a, ns, by rw [e1], hK ▸ h1, h.flat wl (Rep.int_iff.mpr rfl) fun _ z => nomatch z⟩
        | _ => exact h.elim
      | sorted => cases x with
        | lst ds =>
          cases e : asInts ds with
          | none => simp only [biD, e, Option.map_none, R.of_none] at h; exact h.elim
          | some ns =>
            obtain ⟨a, ms, e2, e1, h1⟩ := intsH ds (ne_none e) v hx
            rw [e] at e2; cases e2
            simp only [biD, e, Option.map_some, R.of_some] at h
            refine cr_sortedI pins s σ' H _ us Q I r ⟨a, ns, by rw [e1], h1, fun ns' p hp hs hn => ?_⟩
            have e3 : ns' = sortI ns := sorted_eq hs (sortI_sorted ns) (hp.trans (sortI_perm ns).symm)
            rw [e3]
            exact h.newL wl (Reps.map (fun i => Rep.int_iff.mpr rfl) _) p hn
        | _ => exact h.elim
      | repr =>
        have h : Post G ec W σ (R.of ((reprD x).map .str) μ) cs H Hf Q (Pfr G) := h
        unfold reprD at h
        cases e : toPy x with
        | none =>
          rw [e] at h
          have h : Post G ec W σ (R.of ((reprE x).map D.str) μ) cs H Hf Q (Pfr G) := h
          cases x with
          | dic ks ds =>
            cases ks with
            | nil =>
              cases ds with
              | nil =>
                obtain ⟨u, rfl, ru⟩ := vals1 r
                obtain ⟨a, ws, e1, h1, e2, _⟩ := Rep.dic_iff.mp (hx.st fun _ z => nomatch z)
                subst e1
                have h1' : H a = some (.dK []) := by
                  have := wl.sub a _ h1
                  simpa using this
                obtain rfl : u = .ref a := ru
                exact call_repr_dic0 hg hu I h1' (h.flat wl (Rep.str_iff.mpr rfl) fun _ z => nomatch z)
              | cons _ _ => exact h.elim
            | cons _ _ => exact h.elim
          | _ => exact h.elim
        | some p =>
          rw [e] at h
          have h : Post G ec W σ (R.of ((if (p.showable && (SeqAt.shaped p && decide (p.shown.length ≤ sizeLine))) = true then some p.shown else none).map D.str) μ) cs H Hf Q (Pfr G) := h
          by_cases hz : (p.showable && (SeqAt.shaped p && decide (p.shown.length ≤ sizeLine))) = true
          · rw [if_pos hz] at h
            simp only [Bool.and_eq_true, decide_eq_true_eq] at hz
            obtain ⟨u, rfl, ru⟩ := vals1 r
            exact call_repr_D hg hu I ru (hK ▸ hx.dp wl e) hz.1 hz.2.1 hz.2.2 (h.flat wl (Rep.str_iff.mpr rfl) fun _ z => nomatch z)
          · rw [if_neg hz] at h
            exact h.elim
      | str => exact h.elim
    | cons y xs =>
      cases xs with
      | nil =>
        obtain ⟨v, w, rfl, hx, hy⟩ := hxs.two
        cases b with
        | max => cases x with
          | int i => cases y with
            | int j => exact call_max2 hc pins s σ' H _ us Q I r ⟨i, j, by rw [hx.int, hy.int], h.flat wl (Rep.int_iff.mpr rfl) fun _ z => nomatch z⟩
            | _ => exact h.elim
          | _ => exact h.elim
        | min => cases x with
          | int i => cases y with
            | int j => exact call_min2 hc pins s σ' H _ us Q I r ⟨i, j, by rw [hx.int, hy.int], h.flat wl (Rep.int_iff.mpr rfl) fun _ z => nomatch z⟩
            | _ => exact h.elim
          | _ => exact h.elim
        | _ => first | exact h.elim | (cases x <;> exact h.elim) | (cases x <;> cases y <;> exact h.elim)
      | cons z xs =>
        cases b <;> first | exact h.elim | (cases x <;> exact h.elim) | (cases x <;> cases y <;> exact h.elim)
def tyN : Ty → String
  | .int => "int" | .bool => "bool" | .str => "str" | .list => "list" | .tuple => "tuple" | .dict => "dict"
def rTy (G : Gx) (t : Ty) : List V → Hp → VK → Prop := fun vs H Q => ∃ cs Hf μ x v k, Well G cs H Hf μ ∧ vs = [v, .ty (tyN t)] ∧ Rw G cs H Hf x v ∧ isTy t x = some k ∧ Q (.bl k) H
theorem isi_D (hK : X.K = G.K) (t : Ty) : CallR X (.builtin "isinstance") (rTy G t) := by
  intro pins s σ' H vs us Q I r h
  obtain ⟨cs, Hf, μ, x, v, k, wl, rfl, hx, hk, q⟩ := h
  have go : ∀ (T : String), TyX X.K H v (.type T) → kitB T (tyN t) = some k → wpAny (model X.prog X.w) X.A (call (.builtin "isinstance") us) (EP X pins σ' Q) X.xe s := fun T ty e =>
    call_isi pins s σ' H _ us Q I r ⟨v, .ty (tyN t), .type T, .type (tyN t), k, rfl, .ty _, ty, kit_ty e, q⟩
  cases x with
  | non => rw [hx.non] at go; exact go "NoneType" (.base .non) (by cases t <;> (cases hk; decide +kernel))
  | bl b => rw [hx.bl] at go; exact go "bool" (.base (.bl _)) (by cases t <;> (cases hk; decide +kernel))
  | int i => rw [hx.int] at go; exact go "int" (.base (.int _)) (by cases t <;> (cases hk; decide +kernel))
  | str i => rw [hx.str] at go; exact go "str" (.base (.str _)) (by cases t <;> (cases hk; decide +kernel))
  | tup ds =>
    obtain ⟨a, ws, e1, h1, _, q1⟩ := hx.tup wl
    rw [e1] at go
    have ty : TyX X.K H (.ref a) (.type "tuple") := by
      rcases h1 with (h1 | ⟨o, h1⟩) | ⟨o, its, n, h1, h2, _⟩
      · exact .base (.tup h1)
      · exact .fTuple h1
      · exact .kTuple (hK ▸ h1) h2
    exact go "tuple" ty (by cases t <;> (cases hk; decide +kernel))
  | lst ds =>
    obtain ⟨a, ws, e1, h1, q1⟩ := hx.lst wl
    rw [e1] at go
    exact go "list" (.base (.lst h1)) (by cases t <;> (cases hk; decide +kernel))
  | dic ks ds =>
    obtain ⟨a, ws, e1, h1, _⟩ := Rep.dic_iff.mp (hx.st fun _ z => nomatch z)
    rw [e1] at go
    exact go "dict" (.base (.dK (wl.sub a _ h1))) (by cases t <;> (cases hk; decide +kernel))
  | _ => cases t <;> cases hk
def mtN : Mt → Str
  | .count => "count" | .index => "index"
def mtI : Mt → String
  | .count => "list.count" | .index => "list.index"
def rMt (G : Gx) (m : Mt) : V → List V → Hp → VK → Prop := fun v vs H Q => ∃ cs Hf μ x y w z, Well G cs H Hf μ ∧ vs = [w] ∧ Rw G cs H Hf x v ∧ Rw G cs H Hf y w ∧ mtD m x y = some z ∧ ((∃ i, z = .int i) → ∀ i, z = .int i → Q (.int i) H)
theorem findF_some {x : D} : ∀ {ds : List D} {n m : Nat}, findF x ds n = some m → ∃ j d, m = n + j ∧ ds[j]? = some d ∧ eqF d x = true ∧ ∀ (i : Nat) (e : D), i < j → ds[i]? = some e → eqF e x = false
  | [], n, m, h => by cases h
  | y :: r, n, m, h => by
    unfold findF at h
    by_cases e : eqF y x = true
    · rw [if_pos e] at h
      cases h
      exact ⟨0, y, rfl, rfl, e, fun i _ hi => absurd hi (Nat.not_lt_zero _)⟩
    · rw [if_neg e] at h
      obtain ⟨j, d, e1, e2, e3, e4⟩ := findF_some h
      refine ⟨j + 1, d, by omega, by simpa using e2, e3, fun i z hi hz => ?_⟩
      cases i with
      | zero =>
        have e5 : y = z := by simpa using hz
        rw [← e5]
        simpa using e
      | succ i => exact e4 i z (by omega) (by simpa using hz)
theorem countU {w : V} : ∀ {ws : List V} {its : List Value}, Vals ws its → ws.all flatV = true → its.countP (eqU w) = ws.countP fun y => eqV y w
  | _, _, .nil, _ => rfl
  | _ :: _, _ :: _, .cons r t, f => by
    rw [List.all_cons, Bool.and_eq_true] at f
    rw [List.countP_cons, List.countP_cons, countU t f.2, eqU_of r f.1]
theorem mt_D (m : Mt) : MtR X (mtI m) (rMt G m) := by
  intro pins s σ' H v vs u us Q I r rs h
  obtain ⟨cs, Hf, μ, x, y, w, z, wl, rfl, hx, hy, hm, q⟩ := h
  cases m with
  | count =>
    cases x with
    | lst xs =>
      by_cases hz : (flat y && xs.all flat) = true
      · simp only [mtD, if_pos hz] at hm
        cases hm
        have q := q ⟨_, rfl⟩ _ rfl
        obtain ⟨f1, f2⟩ := Bool.and_eq_true_iff.mp hz
        obtain ⟨a, ws, e1, h1, q1⟩ := hx.lst wl
        have hy' : Rep G cs Hf y w := hy.st (fun ds z => by rw [z] at f1; cases f1)
        subst e1
        cases r
        obtain ⟨u1, rfl, ru⟩ := vals1 rs
        obtain ⟨its, rv, ⟨⟨cls, dd, data, sl⟩, n, ho, hcl, hdn, hd⟩, hlen⟩ := I.list (show SqL X.K H a ws from .inl (.inl h1))
        simp only at hcl hd
        subst hcl hd
        refine call_meets PySem.F.slot_list_count ⟨_, ho, rfl⟩ PySem.F.entry_list_count (PySem.F.args_list_count_2 _ _)
          (SeqAt.list_countAt a its.toArray n dd sl u1 (eqU w)) ⟨ho, fun z hz => mem_eqAt ru (flatV_of (H := H) hy' f1) rv (flats_of q1 f2) z (by simpa using hz), ?_⟩
        have ec : its.toArray.toList.countP (eqU w) = xs.countP fun x => eqF x y := by
          rw [← countV_of hy' f1 q1 f2]
          exact countU rv (flats_of q1 f2)
        refine ⟨.int ((xs.countP fun x => eqF x y : Nat)), H, I.tok _, ⟨s.toks, ?_⟩, q⟩
        rw [ec]
      · simp only [mtD, if_neg hz] at hm
        cases hm
    | _ => cases hm
  | index =>
    cases x with
    | lst xs =>
      by_cases hz : (flat y && xs.all flat) = true
      · simp only [mtD, if_pos hz] at hm
        cases e : findF y xs 0 with
        | none => rw [e] at hm; cases hm
        | some n =>
          rw [e] at hm
          cases hm
          have q := q ⟨_, rfl⟩ _ rfl
          obtain ⟨f1, f2⟩ := Bool.and_eq_true_iff.mp hz
          obtain ⟨a, ws, e1, h1, q1⟩ := hx.lst wl
          have hy' : Rep G cs Hf y w := hy.st (fun ds z => by rw [z] at f1; cases f1)
          obtain ⟨j, d, g1, g2, g3, g4⟩ := findF_some e
          have hall := flats_of q1 f2
          obtain ⟨vj, k1, k2⟩ := q1.get g2
          have fd : flat d = true := List.all_eq_true.mp f2 d (List.mem_of_getElem? g2)
          have en : n = j := by omega
          subst en
          refine mt_index pins s σ' H v [w] u us Q I r rs ⟨a, ws, w, n, vj, e1, rfl, .inl (.inl h1), flatV_of (H := H) hy' f1, hall, k1, by rw [eqV_of (H := H) k2 fd hy' f1]; exact g3, fun m z' hm' hz' => ?_, q⟩
          have hml : m < xs.length := by
            rw [q1.len]
            rcases Nat.lt_or_ge m ws.length with h | h
            · exact h
            · rw [List.getElem?_eq_none h] at hz'; cases hz'
          obtain ⟨v2, p1, p2⟩ := q1.get (show xs[m]? = some xs[m] by simp [hml])
          rw [hz'] at p1
          cases p1
          rw [eqV_of (H := H) p2 (List.all_eq_true.mp f2 _ (List.getElem_mem hml)) hy' f1]
          exact g4 m _ hm' (by simp [hml])
      · simp only [mtD, if_neg hz] at hm
        cases hm
    | _ => cases hm
end
section
variable {prog : Program} {w : World} {A : Around} {E : Value → Shared → Prop} {s : Shared}
theorem adj_rev (n : Nat) : Builtin.Slice.sliceAdjust none none (-1) (n : Int) = ((n : Int) - 1, -1) := by
  unfold Builtin.Slice.sliceAdjust
  simp
theorem places_rev (n : Nat) : Builtin.Slice.slicePlaces ((n : Int) - 1) (-1) (-1) = n := by
  unfold Builtin.Slice.slicePlaces
  have h1 : ¬ ((-1 : Int) > 0) := by omega
  simp only [h1, if_false, Int.neg_neg, Int.ediv_one]
  split <;> omega
theorem applied_rev {sl : Addr} {vl vu vs : Value} {n : Nat} {Q : Int × Int × Nat → Shared → Prop} (hs : s.heap.IsSliceOf sl vl vu vs) (pl : IsPart vl none) (pu : IsPart vu none) (ps : IsPart vs (some (-1)))
    (h : Q ((n : Int) - 1, -1, n) s) : wpAny (model prog w) A (Builtin.Slice.sliceApplied (.ref sl) (pure (n : Int))) Q E s := by
  obtain ⟨os, hos, hcs, hds⟩ := id hs
  unfold Builtin.Slice.sliceApplied Builtin.Slice.sliceFields
  refine wpAny_bind (wpAny_bind (wpAny_field hos hds (x := vl) rfl (wpAny_bind (wpAny_field hos hds (x := vu) rfl (wpAny_bind (wpAny_field hos hds (x := vs) rfl (wpAny_pure ?_)))))))
  refine wpAny_bind (HT.slicePart_ ps ?_)
  show wpAny _ _ (if ((-1 : Int) == 0) = true then _ else _) _ _ s
  rw [if_neg (by decide)]
  refine wpAny_bind (HT.slicePart_ pl (wpAny_bind (HT.slicePart_ pu (wpAny_bind (wpAny_pure ?_)))))
  show wpAny _ _ (match Builtin.Slice.sliceAdjust none none (-1) (n : Int) with | (lo, hi) => pure (lo, (-1 : Int), Builtin.Slice.slicePlaces lo hi (-1))) _ _ s
  rw [adj_rev n]
  show wpAny _ _ (pure ((n : Int) - 1, (-1 : Int), Builtin.Slice.slicePlaces ((n : Int) - 1) (-1) (-1))) _ _ s
  rw [places_rev]
  exact wpAny_pure h
theorem fmap_congr {α β : Type} {f g : α → Option β} : ∀ {l : List α}, (∀ x ∈ l, f x = g x) → l.filterMap f = l.filterMap g
  | [], _ => rfl
  | x :: r, h => by
    rw [List.filterMap_cons, List.filterMap_cons, h x (by simp), fmap_congr fun y hy => h y (by simp [hy])]
theorem pick_rev (xs : Array Value) : ((List.range xs.size).filterMap fun (m : Nat) => xs[(((xs.size : Int) - 1) + (m : Int) * (-1)).toNat]?).toArray = xs.toList.reverse.toArray := by
  have e : (List.range xs.size).filterMap (fun (m : Nat) => xs[(((xs.size : Int) - 1) + (m : Int) * (-1)).toNat]?) = ((List.range xs.size).map fun k => xs.size - 1 - k).filterMap (xs[·]?) := by
    rw [List.filterMap_map]
    refine fmap_congr fun m hm => ?_
    have := List.mem_range.mp hm
    have e2 : (((xs.size : Int) - 1) + (m : Int) * (-1)).toNat = xs.size - 1 - m := by omega
    rw [e2]
    rfl
  rw [e, PySem.W.krv_range, List.filterMap_reverse, PySem.W.krv_all]
theorem item_tuple_rev {t sl : Addr} {items : Array Value} {vl vu vs : Value} {Q : Value → Shared → Prop} (ht : IsTup s.heap t items) (hs : s.heap.IsSliceOf sl vl vu vs) (pl : IsPart vl none) (pu : IsPart vu none) (ps : IsPart vs (some (-1)))
    (h : Q (.ref s.heap.objs.size) { s with heap := s.heap.push { cls := .type "tuple", data := .seq items.toList.reverse.toArray } })
    (hsz : items.size ≤ sizeLine) : wpAny (model prog w) A (getItem (.ref t) (.ref sl)) Q E s := by
  have htake : sizeOk (.seq items.toList.reverse.toArray) := by
    show items.toList.reverse.toArray.size ≤ sizeLine
    rw [List.size_toArray, List.length_reverse, Array.length_toList]
    omega
  obtain ⟨os, hos, hcs, hds⟩ := id hs
  have hTs : s.TypeIs (.ref sl) "slice" := ⟨os, hos, hcs⟩
  unfold getItem
  try with_reducible refine wpAny_holding ?_
  first | refine wpAny_bind (wpAny_pure ?_) | skip
  refine wpAny_bind (wpAny_sequenceKey ht.typeIs (by decide) ?_)
  refine wpAny_bind (wpAny_callSpecial?_slot (name := Str.ofString "__getitem__") ht.typeIs PyProof.Rows.slot_tuple_getitem
    (wpAny_call_entry PyProof.Rows.slot_tuple_getitem ht.typeIs entry_tuple_getitem ?_ (args_tuple_getitem _ _)))
  show wpAny _ _ (Builtin.Tuple.tupleItemsOf (.ref t) >>= _) _ _ s
  refine wpAny_bind (tupleItemsOf_ ht ?_)
  refine wpAny_bind (wpAny_typeOf hTs ?_)
  rw [if_pos (by decide)]
  refine wpAny_bind (applied_rev hs pl pu ps ?_)
  have hno : ¬ ((((items.size : Int) - 1) == 0 && (-1 : Int) == 1 && items.size == items.size) = true) := by
    intro q
    rw [Bool.and_eq_true, Bool.and_eq_true] at q
    exact absurd q.1.2 (by decide)
  show wpAny _ _ (if (((items.size : Int) - 1) == 0 && (-1 : Int) == 1 && items.size == items.size) = true then _ else _) _ _ s
  rw [if_neg hno, pick_rev]
  first
    | exact wpAny_bind (m := Builtin.Tuple.tupleExact _) (wpAny_newObj_type (wpAny_pure ⟨_, rfl, wpAny_pure h⟩) htake)
    | exact wpAny_bind (m := Builtin.Tuple.tupleExact _) (wpAny_newObj_type (wpAny_bind (wpAny_pure (wpAny_pure ⟨_, rfl, wpAny_pure h⟩))) htake)
    | exact wpAny_bind (wpAny_bind (m := Builtin.Tuple.tupleExact _) (wpAny_newObj_type (wpAny_pure (wpAny_pure ⟨_, rfl, wpAny_pure h⟩)) htake))
    | exact wpAny_bind (wpAny_bind (m := Builtin.Tuple.tupleExact _) (wpAny_newObj_type (wpAny_pure ⟨_, rfl, wpAny_pure h⟩) htake))
end
section
variable {X : Cx}
def tRevA (K : PySem.W.Frag) (te : TE) : TE := fun σ H Q => te σ H fun x H1 => (∃ a xs, x = .ref a ∧ SqL K H1 a xs ∧ ∀ p, H1 p = none → Q (.ref p) (upd H1 p (.lst xs.reverse))) ∨
  (∃ a xs, x = .ref a ∧ SqT K H1 a xs ∧ ∀ p, H1 p = none → Q (.ref p) (upd H1 p (.tup xs.reverse)))
theorem pe_revA {e : Expr} {te : TE} {k : Nat} {p1 p2 p3 pos : Pos} (he : PE X e te) : PE X (.Subscript e (.Slice none none (some (.UnaryOp .USub (.Constant (.int 1) k p1) p2)) p3) pos) (tRevA X.K te) := by
  refine ⟨fun pins s σ H Q I h => ?_⟩
  refine Subscript_ (thn (he.run pins s σ H _ I h) fun v s1 ⟨x, H1, I1, r1, q1⟩ => ?_)
  have hst : PO X (some (.UnaryOp .USub (.Constant (.int 1) k p1) p2)) (tPart (tUn (rU fun i => .int (-i)) (tC (.int 1)))) := po_some (pe_un un_neg pe_int)
  refine wpAny_Slice (thn (po_none.run pins s1 σ H1 (fun o H2 => o = none ∧ H2 = H1) I1 ⟨rfl, rfl⟩) fun vl s2 ⟨l, H2, I2, pl, el, e2⟩ => ?_)
  subst el e2
  refine thn (po_none.run pins s2 σ H2 (fun o H3 => o = none ∧ H3 = H2) I2 ⟨rfl, rfl⟩) fun vu s3 ⟨u, H3, I3, pu, eu, e3⟩ => ?_
  subst eu e3
  refine thn (hst.run pins s3 σ H3 (fun o H4 => o = some (-1) ∧ H4 = H3) I3 ⟨1, rfl, -1, rfl, rfl, rfl⟩) fun vs s4 ⟨o, H4, I4, ps, eo, e4⟩ => ?_
  subst eo e4
  have I5 : Inv X pins σ H4 { s4 with heap := s4.heap.push { cls := .type "slice", data := .fields #[vl, vu, vs] } } := I4.kept (t' := s4.toks) fun b ob q => Heap.get?_push_of_some _ q
  rcases q1 with ⟨a, xs, ex, hx, q⟩ | ⟨a, xs, ex, hx, q⟩
  all_goals
    subst ex
    cases r1
    show wpAny (model X.prog X.w) X.A (subscriptTail e (.Slice none none (some (.UnaryOp .USub (.Constant (.int 1) k p1) p2)) p3) (.ref a) (.ref s4.heap.objs.size)) (EP X pins σ Q) X.xe { s4 with heap := s4.heap.push { cls := .type "slice", data := .fields #[vl, vu, vs] } }
  · obtain ⟨its, r, ht, hz⟩ := I5.list hx
    have hlen := r.length
    refine tail_any (ops := [.ref a, .ref s4.heap.objs.size]) ht.isList.typeIs (PySem.slot_list_getitem.lookup) ?_ (by with_unfolding_all rfl)
    refine wpAny_getItem_list_slice ht.isList (Heap.IsSliceOf.new _ vl vu vs) pl pu ps (by decide) ?_ (by rw [List.size_toArray]; omega)
    rw [PySem.W.krv_pick]
    refine ⟨.ref _, _, I5.laid (t' := s4.toks) (o := .lst xs.reverse) (fun b ob q => Heap.get?_push_of_some _ q) (Nat.le_refl _) ?_, rfl, q _ (I5.hok.fresh (Nat.le_refl _))⟩
    exact ⟨by rw [List.length_reverse]; exact hz, _, 0, r.reverse, Heap.get?_push_size _ rfl⟩
  · obtain ⟨its, r, ht, hz⟩ := I5.tuple hx
    have hlen : its.toArray.size = xs.length := by rw [List.size_toArray]; exact r.length.symm
    refine tail_any (ops := [.ref a, .ref s4.heap.objs.size]) ht.typeIs (PyProof.Rows.slot_tuple_getitem.lookup) ?_ (by with_unfolding_all rfl)
    refine item_tuple_rev ht (Heap.IsSliceOf.new _ vl vu vs) pl pu ps ?_ (by rw [hlen]; exact hz)
    refine ⟨.ref _, _, I5.laid (t' := s4.toks) (o := .tup xs.reverse) (fun b ob q => Heap.get?_push_of_some _ q) (Nat.le_refl _) ?_, rfl, q _ (I5.hok.fresh (Nat.le_refl _))⟩
    exact ⟨by rw [List.length_reverse]; exact hz, _, r.reverse, IsTup.new _ _⟩
end
end Ev
end

section
set_option Elab.async false
set_option linter.all false
set_option maxRecDepth 100000
set_option maxHeartbeats 2000000
namespace Ev
open PySem PySem.Spec PyProof.Rows L2

section
variable {G : Gx} {ec : Nat → Addr} {W : WX} {σ : L2.St} {H : Hp} {Q : VK} {P P' : RX}
theorem Post.mono {r : R D} {cs : List Addr} {Hf : Hp} {Q' : VK} (h : Post G ec W σ r cs H Hf Q P) (k : ∀ v H', Q v H' → Q' v H') : Post G ec W σ r cs H Hf Q' P := by
  cases r with
  | ok d μ' => exact fun v cs' H' Hf' s p => k _ _ (h v cs' H' Hf' s p)
  | ex x μ' => exact h
  | bad => exact h
theorem PostA.mono {r : R D} {cs : List Addr} {Hf : Hp} {Q Q' : List V → Hp → Prop} (h : PostA G ec W σ r cs H Hf Q) (k : ∀ v H', Q v H' → Q' v H') : PostA G ec W σ r cs H Hf Q' := by
  cases r with
  | ok d μ' =>
    cases d with
    | tup ds => exact fun v cs' H' Hf' s p => k _ _ (h v cs' H' Hf' s p)
    | _ => exact h
  | ex x μ' => exact h
  | bad => exact h
theorem PostB.mono {r : R D} {cs : List Addr} {Hf : Hp} {Q Q' : Bool → Hp → Prop} (h : PostB G ec W σ r cs H Hf Q) (k : ∀ v H', Q v H' → Q' v H') : PostB G ec W σ r cs H Hf Q' := by
  cases r with
  | ok d μ' =>
    cases d with
    | bl b => exact fun cs' H' Hf' s => k _ _ (h cs' H' Hf' s)
    | _ => exact h
  | ex x μ' => exact h
  | bad => exact h
/-- what stands already -/
abbrev Hd := List (D × V)
def Held (G : Gx) (cs : List Addr) (H Hf : Hp) (l : Hd) : Prop := ∀ p ∈ l, Rw G cs H Hf p.1 p.2
theorem Held.step {cs cs' : List Addr} {Hf H' Hf' : Hp} {μ' : Mu} {l : Hd} (h : Held G cs H Hf l) (s : Step G cs H Hf cs' H' Hf' μ') : Held G cs' H' Hf' l := fun p hp => (h p hp).step s
theorem Held.nil {cs : List Addr} {Hf : Hp} : Held G cs H Hf [] := fun p hp => by cases hp
theorem Held.cons {cs : List Addr} {Hf : Hp} {d : D} {v : V} {l : Hd} (h : Rw G cs H Hf d v) (hl : Held G cs H Hf l) : Held G cs H Hf ((d, v) :: l) := fun p hp => by
  rcases List.mem_cons.mp hp with e | e
  · rw [e]; exact h
  · exact hl p e
/-- a reading with things that stand -/
def tX (G : Gx) (ec : Nat → Addr) (W : WX) (l : Hd) (ev : Env → Mu → R D) (P : RX) : TE := fun σ H Q => ∃ cs0 H0 Hf0 ρ μ cs Hf, Rel G cs0 H0 Hf0 ρ μ cs σ H Hf ∧ Held G cs H Hf l ∧ Post G ec W σ (ev ρ μ) cs H Hf Q P
def tXB (G : Gx) (ec : Nat → Addr) (W : WX) (l : Hd) (ev : Env → Mu → R D) : TT := fun σ H Q => ∃ cs0 H0 Hf0 ρ μ cs Hf, Rel G cs0 H0 Hf0 ρ μ cs σ H Hf ∧ Held G cs H Hf l ∧ PostB G ec W σ (ev ρ μ) cs H Hf Q
def tXA (G : Gx) (ec : Nat → Addr) (W : WX) (l : Hd) (ev : Env → Mu → R D) : TA := fun σ H Q => ∃ cs0 H0 Hf0 ρ μ cs Hf, Rel G cs0 H0 Hf0 ρ μ cs σ H Hf ∧ Held G cs H Hf l ∧ PostA G ec W σ (ev ρ μ) cs H Hf Q
theorem tX.of {ev : Env → Mu → R D} (h : tE G ec W ev P σ H Q) : tX G ec W [] ev P σ H Q := by
  obtain ⟨cs0, H0, Hf0, ρ, μ, cs, Hf, r, h⟩ := h
  exact ⟨cs0, H0, Hf0, ρ, μ, cs, Hf, r, .nil, h⟩
theorem tX.to {l : Hd} {ev : Env → Mu → R D} (h : tX G ec W l ev P σ H Q) : tE G ec W ev P σ H Q := by
  obtain ⟨cs0, H0, Hf0, ρ, μ, cs, Hf, r, _, h⟩ := h
  exact ⟨cs0, H0, Hf0, ρ, μ, cs, Hf, r, h⟩
theorem tXB.of {ev : Env → Mu → R D} {Q : Bool → Hp → Prop} (h : tT G ec W ev σ H Q) : tXB G ec W [] ev σ H Q := by
  obtain ⟨cs0, H0, Hf0, ρ, μ, cs, Hf, r, h⟩ := h
  exact ⟨cs0, H0, Hf0, ρ, μ, cs, Hf, r, .nil, h⟩
theorem tXB.to {l : Hd} {ev : Env → Mu → R D} {Q : Bool → Hp → Prop} (h : tXB G ec W l ev σ H Q) : tT G ec W ev σ H Q := by
  obtain ⟨cs0, H0, Hf0, ρ, μ, cs, Hf, r, _, h⟩ := h
  exact ⟨cs0, H0, Hf0, ρ, μ, cs, Hf, r, h⟩
theorem tXA.of {ev : Env → Mu → R D} {Q : List V → Hp → Prop} (h : tA G ec W ev σ H Q) : tXA G ec W [] ev σ H Q := by
  obtain ⟨cs0, H0, Hf0, ρ, μ, cs, Hf, r, h⟩ := h
  exact ⟨cs0, H0, Hf0, ρ, μ, cs, Hf, r, .nil, h⟩
theorem tXA.to {l : Hd} {ev : Env → Mu → R D} {Q : List V → Hp → Prop} (h : tXA G ec W l ev σ H Q) : tA G ec W ev σ H Q := by
  obtain ⟨cs0, H0, Hf0, ρ, μ, cs, Hf, r, _, h⟩ := h
  exact ⟨cs0, H0, Hf0, ρ, μ, cs, Hf, r, h⟩
theorem tE.mono {ev : Env → Mu → R D} {Q' : VK} (h : tE G ec W ev P σ H Q) (k : ∀ v H', Q v H' → Q' v H') : tE G ec W ev P σ H Q' := by
  obtain ⟨cs0, H0, Hf0, ρ, μ, cs, Hf, r, h⟩ := h
  exact ⟨cs0, H0, Hf0, ρ, μ, cs, Hf, r, h.mono k⟩
theorem tT.mono {ev : Env → Mu → R D} {Q Q' : Bool → Hp → Prop} (h : tT G ec W ev σ H Q) (k : ∀ v H', Q v H' → Q' v H') : tT G ec W ev σ H Q' := by
  obtain ⟨cs0, H0, Hf0, ρ, μ, cs, Hf, r, h⟩ := h
  exact ⟨cs0, H0, Hf0, ρ, μ, cs, Hf, r, h.mono k⟩
theorem tA.mono {ev : Env → Mu → R D} {Q Q' : List V → Hp → Prop} (h : tA G ec W ev σ H Q) (k : ∀ v H', Q v H' → Q' v H') : tA G ec W ev σ H Q' := by
  obtain ⟨cs0, H0, Hf0, ρ, μ, cs, Hf, r, h⟩ := h
  exact ⟨cs0, H0, Hf0, ρ, μ, cs, Hf, r, h.mono k⟩
variable {l : Hd} {ev : Env → Mu → R D} {g : D → Env → Mu → R D}
/-- first ev, then g; what ev told stands -/
theorem tX.bind (b : Back G P') (h : tX G ec W l (fun ρ μ => (ev ρ μ).bind fun d μ => g d ρ μ) P' σ H Q) : tE G ec W ev (Pwk G) σ H fun v H1 => ∃ d, tX G ec W ((d, v) :: l) (g d) P' σ H1 Q := by
  obtain ⟨cs0, H0, Hf0, ρ, μ, cs, Hf, r, hl, h⟩ := h
  exact ⟨cs0, H0, Hf0, ρ, μ, cs, Hf, r, Post.bind b h fun d μ1 v cs1 H1 Hf1 s p q => ⟨d, cs0, H0, Hf0, ρ, μ1, cs1, Hf1, r.step s, .cons p (hl.step s), q⟩⟩
theorem tXB.bind {Q : Bool → Hp → Prop} (h : tXB G ec W l (fun ρ μ => (ev ρ μ).bind fun d μ => g d ρ μ) σ H Q) : tE G ec W ev (Pwk G) σ H fun v H1 => ∃ d, tXB G ec W ((d, v) :: l) (g d) σ H1 Q := by
  obtain ⟨cs0, H0, Hf0, ρ, μ, cs, Hf, r, hl, h⟩ := h
  exact ⟨cs0, H0, Hf0, ρ, μ, cs, Hf, r, Post.bindB h fun d μ1 v cs1 H1 Hf1 s p q => ⟨d, cs0, H0, Hf0, ρ, μ1, cs1, Hf1, r.step s, .cons p (hl.step s), q⟩⟩
theorem tXA.bind {Q : List V → Hp → Prop} (h : tXA G ec W l (fun ρ μ => (ev ρ μ).bind fun d μ => g d ρ μ) σ H Q) : tE G ec W ev (Pwk G) σ H fun v H1 => ∃ d, tXA G ec W ((d, v) :: l) (g d) σ H1 Q := by
  obtain ⟨cs0, H0, Hf0, ρ, μ, cs, Hf, r, hl, h⟩ := h
  exact ⟨cs0, H0, Hf0, ρ, μ, cs, Hf, r, Post.bindA h fun d μ1 v cs1 H1 Hf1 s p q => ⟨d, cs0, H0, Hf0, ρ, μ1, cs1, Hf1, r.step s, .cons p (hl.step s), q⟩⟩
/-- the same, what ev told stands frozen -/
theorem tXA.bindS {Q : List V → Hp → Prop} (h : tXA G ec W [] (fun ρ μ => (ev ρ μ).bind fun d μ => g d ρ μ) σ H Q) : tE G ec W ev (Pst G) σ H fun v H1 => ∃ d cs0 H0 Hf0 ρ μ cs Hf, Rel G cs0 H0 Hf0 ρ μ cs σ H1 Hf ∧ Rep G cs Hf d v ∧ PostA G ec W σ (g d ρ μ) cs H1 Hf Q := by
  obtain ⟨cs0, H0, Hf0, ρ, μ, cs, Hf, r, hl, h⟩ := h
  exact ⟨cs0, H0, Hf0, ρ, μ, cs, Hf, r, Post.bindA h fun d μ1 v cs1 H1 Hf1 s p q => ⟨d, cs0, H0, Hf0, ρ, μ1, cs1, Hf1, r.step s, p, q⟩⟩
/-- first a test -/
theorem tX.bindT (b : Back G P') (hf : ∀ d ρ μ, (∀ k, d ≠ .bl k) → g d ρ μ = .bad) (h : tX G ec W l (fun ρ μ => (ev ρ μ).bind fun d μ => g d ρ μ) P' σ H Q) : tT G ec W ev σ H fun c H1 => tX G ec W l (g (.bl c)) P' σ H1 Q := by
  obtain ⟨cs0, H0, Hf0, ρ, μ, cs, Hf, r, hl, h⟩ := h
  exact ⟨cs0, H0, Hf0, ρ, μ, cs, Hf, r, PostB.bind b h (fun d μ hd => hf d ρ μ hd) fun c μ1 cs1 H1 Hf1 s q => ⟨cs0, H0, Hf0, ρ, μ1, cs1, Hf1, r.step s, hl.step s, q⟩⟩
theorem tXB.bindT {Q : Bool → Hp → Prop} (hf : ∀ d ρ μ, (∀ k, d ≠ .bl k) → g d ρ μ = .bad) (h : tXB G ec W l (fun ρ μ => (ev ρ μ).bind fun d μ => g d ρ μ) σ H Q) : tT G ec W ev σ H fun c H1 => tXB G ec W l (g (.bl c)) σ H1 Q := by
  obtain ⟨cs0, H0, Hf0, ρ, μ, cs, Hf, r, hl, h⟩ := h
  exact ⟨cs0, H0, Hf0, ρ, μ, cs, Hf, r, PostB.bindB h (fun d μ hd => hf d ρ μ hd) fun c μ1 cs1 H1 Hf1 s q => ⟨cs0, H0, Hf0, ρ, μ1, cs1, Hf1, r.step s, hl.step s, q⟩⟩
/-- weak argument lists -/
def PostAw (G : Gx) (ec : Nat → Addr) (W : WX) (σ : L2.St) (r : R D) (cs : List Addr) (H Hf : Hp) (Q : List V → Hp → Prop) : Prop := match r with
  | .ok (.tup ds) μ' => ∀ vs cs' H' Hf', Step G cs H Hf cs' H' Hf' μ' → Rws G cs' H' Hf' ds vs → Q vs H'
  | .ex x μ' => ∀ cls dx cs' H' Hf', Step G cs H Hf cs' H' Hf' μ' → ExOk G ec cs' Hf' x cls dx → W cls dx σ H'
  | _ => False
def tAw (G : Gx) (ec : Nat → Addr) (W : WX) (ev : Env → Mu → R D) : TA := fun σ H Q => ∃ cs0 H0 Hf0 ρ μ cs Hf, Rel G cs0 H0 Hf0 ρ μ cs σ H Hf ∧ PostAw G ec W σ (ev ρ μ) cs H Hf Q
theorem PostAw.mono {r : R D} {cs : List Addr} {Hf : Hp} {Q Q' : List V → Hp → Prop} (h : PostAw G ec W σ r cs H Hf Q) (k : ∀ v H', Q v H' → Q' v H') : PostAw G ec W σ r cs H Hf Q' := by
  cases r with
  | ok d μ' =>
    cases d with
    | tup ds => exact fun v cs' H' Hf' s p => k _ _ (h v cs' H' Hf' s p)
    | _ => exact h
  | ex x μ' => exact h
  | bad => exact h
theorem PostAw.st {r : R D} {cs : List Addr} {Hf : Hp} {Q : List V → Hp → Prop} (h : PostAw G ec W σ r cs H Hf Q) : PostA G ec W σ r cs H Hf Q := by
  cases r with
  | ok d μ' =>
    cases d with
    | tup ds => exact fun v cs' H' Hf' s p => h v cs' H' Hf' s (Rws.of p)
    | _ => exact h
  | ex x μ' => exact h
  | bad => exact h
/-- first the arguments, then f (frozen, loose) -/
theorem tX.bindA (b : Back G P') (hf : ∀ d ρ μ, (∀ ds, d ≠ .tup ds) → g d ρ μ = .bad) (h : tX G ec W [] (fun ρ μ => (ev ρ μ).bind fun d μ => g d ρ μ) P' σ H Q) :
    tA G ec W ev σ H fun vs H1 => ∃ ds cs0 H0 Hf0 ρ μ cs Hf, Rel G cs0 H0 Hf0 ρ μ cs σ H1 Hf ∧ Reps G cs Hf ds vs ∧ Post G ec W σ (g (.tup ds) ρ μ) cs H1 Hf Q P' := by
  obtain ⟨cs0, H0, Hf0, ρ, μ, cs, Hf, r, hl, h⟩ := h
  exact ⟨cs0, H0, Hf0, ρ, μ, cs, Hf, r, PostA.bind b h (fun d μ hd => hf d ρ μ hd) fun ds μ1 vs cs1 H1 Hf1 s p q => ⟨ds, cs0, H0, Hf0, ρ, μ1, cs1, Hf1, r.step s, p, q⟩⟩
theorem PostAw.bind (b : Back G P) {r : R D} {f : D → Mu → R D} {Q1 : List V → Hp → Prop} {cs : List Addr} {Hf : Hp} (h : Post G ec W σ (r.bind f) cs H Hf Q P)
    (hf : ∀ d μ1, (∀ ds, d ≠ .tup ds) → f d μ1 = .bad)
    (k : ∀ ds μ1 vs cs1 H1 Hf1, Step G cs H Hf cs1 H1 Hf1 μ1 → Rws G cs1 H1 Hf1 ds vs → Post G ec W σ (f (.tup ds) μ1) cs1 H1 Hf1 Q P → Q1 vs H1) : PostAw G ec W σ r cs H Hf Q1 := by
  cases r with
  | ok d μ' =>
    cases d with
    | tup ds => exact fun vs cs' H' Hf' s p => k ds μ' vs cs' H' Hf' s p (Post.step b s h)
    | _ => exact (show False by have h : Post G ec W σ (f _ μ') cs H Hf Q P := h; rw [hf _ _ (by intro _ z; cases z)] at h; exact h)
  | ex x μ' => exact h
  | bad => exact h
theorem tX.bindAw (b : Back G P') (hf : ∀ d ρ μ, (∀ ds, d ≠ .tup ds) → g d ρ μ = .bad) (h : tX G ec W [] (fun ρ μ => (ev ρ μ).bind fun d μ => g d ρ μ) P' σ H Q) :
    tAw G ec W ev σ H fun vs H1 => ∃ ds cs0 H0 Hf0 ρ μ cs Hf, Rel G cs0 H0 Hf0 ρ μ cs σ H1 Hf ∧ Rws G cs H1 Hf ds vs ∧ Post G ec W σ (g (.tup ds) ρ μ) cs H1 Hf Q P' := by
  obtain ⟨cs0, H0, Hf0, ρ, μ, cs, Hf, r, hl, h⟩ := h
  exact ⟨cs0, H0, Hf0, ρ, μ, cs, Hf, r, PostAw.bind b h (fun d μ hd => hf d ρ μ hd) fun ds μ1 vs cs1 H1 Hf1 s p q => ⟨ds, cs0, H0, Hf0, ρ, μ1, cs1, Hf1, r.step s, p, q⟩⟩
end

/-- what is static -/
structure Cs where
  N : List Str
  fns : List (Str × Nat)
  cons : List (Str × Nat)
  excs : List (Str × Nat)
  frsh : List Nat
  /-- the classes of errors with a field -/
  exfs : List Nat
  /-- their fields -/
  fnm : List (Nat × Str)
  /-- the defs that are handed a lambda -/
  cats : List (Str × Nat)
def Cs.ff (S : Cs) (f : Nat) : Bool := S.frsh.contains f
def Cs.exf (S : Cs) (c : Nat) : Bool := S.exfs.contains c
structure Sx where
  sc : Scope
  fx : Str → Bool
  hot : Bool
  /-- may a lambda be made here? -/
  lam : Bool
def glB (sc : Scope) (x : Str) : Bool := decide (sc.names.lookup x = some .globalImplicit) && !(x == ("__debug__" : Str))
def visB (sc : Scope) (x : Str) : Bool := decide (sc.names.lookup x = some .local) || decide (sc.names.lookup x = some .cell) || decide (sc.names.lookup x = some .free)
def varB (S : Cs) (sc : Scope) (i : Nat) (x : Str) : Bool := decide (S.N[i]? = some x) && visB sc x && !(x == ("__debug__" : Str)) && !(x == ("__classdict__" : Str))
def isSl : Expr → Bool
  | .Slice _ _ _ _ => true
  | _ => false
def isStar : Expr → Bool
  | .Starred _ _ => true
  | _ => false
/-- what attributeBase leaves alone -/
def noSup : Expr → Bool
  | .Call (.Name _ _) [] [] _ => false
  | _ => true
/-- whose truth is asked of its value alone -/
def plainT : Expr → Bool
  | .UnaryOp .Not _ _ => false
  | .BoolOp _ _ _ => false
  | .IfExp _ _ _ _ => false
  | .Compare _ _ _ _ => false
  | _ => true
def tyB (t : Ty) (x : Str) : Bool := x == (tyN t : Str)
/-- may it be tested as it stands? -/
def E.okT : E → Bool
  | .ite _ _ _ => false
  | .and1 a => a.okT
  | .or1 a => a.okT
  | .and a r => a.okT && r.okT
  | .or a r => a.okT && r.okT
  | .not a => a.okT
  | _ => true
def E.isPk : E → Bool
  | .pk _ => true
  | _ => false
def E.is0 : E → Bool
  | .int i => decide (i = 0)
  | _ => false
/-- no list that a name owns -/
def E.stA : E → Bool
  | .nil => true
  | .cons h t => !h.isPk && t.stA
  | _ => true
def Tg.chk (S : Cs) (sx : Sx) : Tg → Expr ⊕ List Expr → Bool
  | .name i, .inl (.Name x _) => decide (S.N[i]? = some x) && (decide (sx.sc.names.lookup x = some .local) || (decide (sx.sc.names.lookup x = some .cell) && sx.fx x))
  | .tup t, .inl (.Tuple ps _ _) => t.chk S sx (.inr ps) && !sx.hot
  | .nil, .inr [] => true
  | .cons h t, .inr (p :: ps) => !isStar p && h.chk S sx (.inl p) && t.chk S sx (.inr ps)
  | _, _ => false
/-- the target's names with their slots -/
def Tg.own (N : List Str) (t : Tg) : List (Str × Nat) := t.slots.map fun i => ((N[i]?).getD "", i)
def isTupE : Expr → Bool
  | .Tuple _ _ _ => true
  | _ => false
/-- how a term is asked for: as an expression, as arguments, as a slice's part, as what is gone through, as conditions -/
inductive Md where
  | e (p : Expr) | a (ps : List Expr) | o (p : Option Expr) | i (tg p : Expr) | c (ps : List Expr)
def Md.x : Md → Option Expr
  | .e p => some p
  | .o (some p) => some p
  | .i _ p => some p
  | .c [p] => some p
  | _ => none
def Sx.blk (sx : Sx) (scope : Scope) : Sx := ⟨relS scope sx.sc, fun x => scope.names.lookup x == some .cell, sx.hot, false⟩
/-- e tells what is asked for -/
def E.chk (S : Cs) (sx : Sx) : E → Md → Bool
  | .nil, m => match m with
    | .a [] => true
    | .o none => true
    | .c [] => true
    | _ => false
  | .cons h t, m => match m with
    | .a (p :: ps) => !isStar p && h.chk S sx (.e p) && t.chk S sx (.a ps)
    | _ => false
  | .var i, m => match m.x with
    | some (.Name x _) => varB S sx.sc i x
    | _ => false
  | .pk i, m => match m.x with
    | some (.Name x _) => varB S sx.sc i x
    | _ => false
  | .int i, m => match m.x with
    | some (.Constant (.int j) _ _) => decide (i = j)
    | _ => false
  | .bl b, m => match m.x with
    | some (.Constant (.bool c) _ _) => b == c
    | _ => false
  | .non, m => match m.x with
    | some (.Constant .none _ _) => true
    | _ => false
  | .str x, m => match m.x with
    | some (.Constant (.str y) _ _) => decide (x = y)
    | _ => false
  | .gc c, m => match m.x with
    | some (.Name x _) => glB sx.sc x && decide (S.cons.lookup x = some c)
    | _ => false
  | .fnv f, m => match m.x with
    | some (.Name x _) => glB sx.sc x && decide (S.fns.lookup x = some f)
    | _ => false
  | .tup es, m => match m.x with
    | some (.Tuple ps _ _) => es.chk S sx (.a ps) && es.stA && decide (ps.length < 4096)
    | _ => false
  | .lst es, m => match m.x with
    | some (.List ps _) => es.chk S sx (.a ps) && es.stA && decide (ps.length < 4096)
    | _ => false
  | .bin op a b, m => match m.x with
    | some (.BinOp p o q _) => decide (o = bopP op) && a.chk S sx (.e p) && b.chk S sx (.e q)
    | _ => false
  | .neg a, m => match m.x with
    | some (.UnaryOp o p _) => decide (o = .USub) && a.chk S sx (.e p)
    | _ => false
  | .not a, m => match m.x with
    | some (.UnaryOp o p _) => decide (o = .Not) && a.chk S sx (.e p)
    | _ => false
  | .cmp op a b, m => match m.x with
    | some (.Compare p [o] [q] _) => decide (o = copP op) && a.chk S sx (.e p) && b.chk S sx (.e q) && !behindInMarks o q
    | _ => false
  | .chn o1 o2 a b c, m => match m.x with
    | some (.Compare p [q1, q2] [r1, r2] _) => decide (q1 = copP o1) && decide (q2 = copP o2) && a.chk S sx (.e p) && b.chk S sx (.e r1) && c.chk S sx (.e r2) && !behindInMarks q1 r1 && !behindInMarks q2 r2
    | _ => false
  | .and1 a, m => match m.x with
    | some (.BoolOp o [p] _) => decide (o = .And) && a.chk S sx (.e p) && !a.isPk
    | _ => false
  | .and a r, m => match m.x with
    | some (.BoolOp o (p :: q :: ps) pos) => decide (o = .And) && a.chk S sx (.e p) && r.chk S sx (.e (.BoolOp .And (q :: ps) pos))
    | _ => false
  | .or1 a, m => match m.x with
    | some (.BoolOp o [p] _) => decide (o = .Or) && a.chk S sx (.e p) && !a.isPk
    | _ => false
  | .or a r, m => match m.x with
    | some (.BoolOp o (p :: q :: ps) pos) => decide (o = .Or) && a.chk S sx (.e p) && r.chk S sx (.e (.BoolOp .Or (q :: ps) pos))
    | _ => false
  | .ite c a b, m => match m.x with
    | some (.IfExp p q r _) => c.chk S sx (.e p) && c.okT && a.chk S sx (.e q) && b.chk S sx (.e r) && !a.isPk && !b.isPk
    | _ => false
  | .idx a i, m => match m.x with
    | some (.Subscript p q _) => !isSl q && a.chk S sx (.e p) && i.chk S sx (.e q)
    | _ => false
  | .sl a lo hi, m => match m.x with
    | some (.Subscript p (.Slice l h none _) _) => a.chk S sx (.e p) && lo.chk S sx (.o l) && hi.chk S sx (.o h)
    | _ => false
  | .rev a, m => match m.x with
    | some (.Subscript p (.Slice none none (some (.UnaryOp o (.Constant (.int j) _ _) _)) _) _) => decide (o = .USub) && decide (j = 1) && a.chk S sx (.e p)
    | _ => false
  | .call f es, m => match m.x with
    | some (.Call (.Name x _) ps [] _) => glB sx.sc x && decide (S.fns.lookup x = some f) && es.chk S sx (.a ps) && es.stA && !sx.hot
    | _ => false
  | .clv i fs es, m => match m.x with
    | some (.Call (.Name x _) (p :: ps) [] _) => varB S sx.sc i x && (fs.all fun f => S.fns.any fun y => decide (S.fns.lookup y.1 = some f)) && es.chk S sx (.a (p :: ps)) && es.stA && !sx.hot
    | _ => false
  | .lrg tp a b, m => match m.x with
    | some (.Call (.Name x _) [.Call (.Name y _) ps [] _] [] _) => !sx.hot && glB sx.sc x && decide (x = if tp = true then "tuple" else "list") && glB sx.sc y && decide (y = "range") && (match ps with
      | [q] => a.is0 && b.chk S sx (.e q) && !isStar q
      | [p, q] => a.chk S sx (.e p) && b.chk S sx (.e q) && !isStar p && !isStar q
      | _ => false)
    | _ => false
  | .bi b es, m => match m.x with
    | some (.Call (.Name x _) (p :: ps) [] _) => glB sx.sc x && decide (x = biN b) && es.chk S sx (.a (p :: ps)) && !sx.hot
    | _ => false
  | .isi a t, m => match m.x with
    | some (.Call (.Name x _) [p, .Name y _] [] _) => glB sx.sc x && decide (x = "isinstance") && glB sx.sc y && tyB t y && a.chk S sx (.e p) && !isStar p
    | _ => false
  | .mt mm a e, m => match m.x with
    | some (.Call (.Attribute p x apos) [q] [] cpos) => decide (x = mtN mm) && a.chk S sx (.e p) && e.chk S sx (.e q) && noSup p && (apos.endLine == cpos.line) && !isStar q
    | _ => false
  | .rng es, m => match m with
    | .i _ (.Call (.Name x _) ps [] _) => glB sx.sc x && decide (x = "range") && es.chk S sx (.a ps) && (ps.length == 1 || ps.length == 2)
    | _ => false
  | .zip es, m => match m with
    | .i tg (.Call (.Name x _) ps [] _) => isTupE tg && glB sx.sc x && decide (x = "zip") && es.chk S sx (.a ps) && es.stA && ps.length == 2
    | _ => false
  | .enm a, m => match m with
    | .i tg (.Call (.Name x _) [p] [] _) => isTupE tg && glB sx.sc x && decide (x = "enumerate") && a.chk S sx (.e p) && !a.isPk && !isStar p
    | _ => false
  | .comp t it elt cond, m => match m.x with
    | some (.ListComp p [⟨tg, ip, ifs, k⟩] scope _) => decide (k = 0) && it.chk S sx (.i tg ip) && t.chk S (sx.blk scope) (.inl tg) && blkC S.N sx.sc scope (t.own S.N) && elt.chk S (sx.blk scope) (.e p) && !elt.isPk && cond.chk S (sx.blk scope) (.c ifs) && cond.okT && !sx.hot
    | _ => false
  | .dic ks es, m => match m.x with
    | some (.Dict [] [] _) => ks.isEmpty && (match es with
      | .nil => true
      | _ => false)
    | some (.Dict [some (.Constant (.str y) _ _)] [.Name x _] _) => (match ks, es with
      | [.inr z], .cons (.var i) .nil => decide (z = y) && varB S sx.sc i x
      | _, _ => false)
    | _ => false
  | .isx i c, m => match m.x with
    | some (.Call (.Name x _) [.Name e _, .Name y _] [] _) => sx.hot && glB sx.sc x && decide (x = "isinstance") && varB S sx.sc i e && glB sx.sc y && (decide (S.excs.lookup y = some c) || (decide (y = "ValueError") && decide (c = 1)))
    | _ => false
  | .fld i c, m => match m.x with
    | some (.Attribute (.Name e _) f _) => sx.hot && varB S sx.sc i e && decide (S.fnm.lookup c = some f)
    | _ => false
  | .lam f e, m => match m.x with
    | some (.Call (.Name x _) [.Lambda ⟨[], [], none, [], [], none, []⟩ body scope _] [] _) => sx.lam && !sx.hot && glB sx.sc x && decide (S.cats.lookup x = some f) && LamX.lamSB sx.sc scope && e.chk S ⟨scope, fun _ => false, false, false⟩ (.e body) && !e.isPk
    | _ => false
  | _, _ => false
end Ev
end

section
set_option Elab.async false
set_option linter.all false
set_option maxRecDepth 100000
set_option maxHeartbeats 2000000
namespace Ev
open PySem PySem.Spec PyProof.Rows L2

/-- what a call of f promises: what cf tells -/
structure GRuns (G : Gx) (ec : Nat → Addr) (P : Program) (w : World) (mg : Str → Option Value) (base : Heap) (k : Nat) (fr : Bool) (fa : Addr) (cf : List D → Mu → R D) : Prop where
  run : ∀ (A : Around) (outer : List PySem.Env) (s : Shared) (H : Hp) (us : List Value) (vs : List V) (Q : VK) (E : XK), Room k A → A.guards = some [] → Env0 P w G.K mg base A outer s H → Vals vs us →
    (∃ cs Hf μ ds, Well G cs H Hf μ ∧ Reps G cs Hf ds vs ∧ Post G ec (fun cls d _ H' => E cls d H') [] (cf ds μ) cs H Hf Q (if fr = true then Pfr G else Pst G)) →
    codeAny (model P w) A (.call (.ref fa) ⟨us, []⟩) (CR (L2.CX P w) outer P w H s Q E) s
theorem GRuns.le {G : Gx} {ec : Nat → Addr} {P : Program} {w : World} {mg : Str → Option Value} {base : Heap} {j k : Nat} {fr : Bool} {fa : Addr} {cf : List D → Mu → R D} (g : GRuns G ec P w mg base j fr fa cf) (h : j ≤ k) : GRuns G ec P w mg base k fr fa cf :=
  ⟨fun A outer s H us vs Q E hr => g.run A outer s H us vs Q E (hr.mono h)⟩
/-- the names of builtins that the texts use -/
def bNames : List Str := ["ValueError", "abs", "all", "any", "int", "len", "list", "max", "min", "repr", "sorted", "sum", "tuple", "str", "bool", "dict", "isinstance", "range", "zip", "enumerate"]
/-- what holds in a handler of the error that is caught -/
structure HotR (G : Gx) (ec : Nat → Addr) (S : Cs) (X : Cx) : Prop where
  isx : CallR X (.builtin "isinstance") (fun vs H Q => ∃ c y, vs = [.ref G.xa, .ref (ec c)] ∧ S.excs.lookup y = some c ∧ (∀ dd, G.xd = some dd → ∃ fs, H dd = some (.xd fs)) ∧ Q (.bl (c == 0 || c == 1 || G.xc == c)) H)
  isv : CallR X (.builtin "isinstance") (fun vs H Q => vs = [.ref G.xa, .ty "ValueError"] ∧ (∀ dd, G.xd = some dd → ∃ fs, H dd = some (.xd fs)) ∧ Q (.bl true) H)
  fld : ∀ (c : Nat) (f : Str) (e : Expr) (i : Nat) (pos : Pos), S.fnm.lookup c = some f → noSup e = true → PE X e (tVar i) → PE X (.Attribute e f pos) (fun σ H Q => σ[i]? = some (some (.ref G.xa)) ∧ G.xc = c ∧ ∃ dd v', G.xd = some dd ∧ H dd = some (.xd [(f, v')]) ∧ Q v' H)
/-- the context of a walk, but for lambdas -/
structure Good0 (G : Gx) (ec : Nat → Addr) (S : Cs) (C : Fns) (k : Nat) (sx : Sx) (X : Cx) (W : WX) : Prop where
  hK : X.K = G.K
  hN : X.N = S.N
  nd : X.N.Nodup
  calm : sx.hot = false → X.calm = true
  room : sx.hot = false → Room k X.A
  gd : sx.hot = false → X.A.guards = some []
  un : X.A.units + 70 < cLine
  sc : X.env.scope = sx.sc
  fx : ∀ x, sx.fx x = true → X.fn x = true
  tk : Takes X W
  blt : ∀ n ∈ bNames, X.mg n = none
  con : ∀ x c, S.cons.lookup x = some c → ∃ v u, X.mg x = some u ∧ RelV v u ∧ ∀ cs H Hf μ, Well G cs H Hf μ → Rep G cs Hf (C.con c) v
  fn : ∀ x f, S.fns.lookup x = some f → X.mg x = some (.ref (G.fad f)) ∧ PySem.W.keepIn X.K (.ref (G.fad f)) = true ∧ GRuns G ec X.prog X.w X.mg X.base k (S.ff f) (G.fad f) (C.call f)
  exn : ∀ x c, S.excs.lookup x = some c → X.mg x = some (.ref (ec c))
  efn : ∀ c f, S.fnm.lookup c = some f → G.ef c = f
  hx : sx.hot = true → HotR G ec S X
def noArgs : Arguments := ⟨[], [], none, [], [], none, []⟩
/-- the context of a walk -/
structure Good (G : Gx) (ec : Nat → Addr) (S : Cs) (C : Fns) (k : Nat) (sx : Sx) (X : Cx) (W : WX) : Prop extends Good0 G ec S C k sx X W where
  lam : sx.lam = true → ∀ (f : Nat) (x : Str), S.cats.lookup x = some f → glB sx.sc x = true → ∀ (body : Expr) (scope : Scope) (lpos p pos : Pos) (e : E), LamX.lamSB sx.sc scope = true →
    (∀ (Y : Cx) (W' : WX), Good0 G ec S C k ⟨scope, fun _ => false, false, false⟩ Y W' → PE Y body (tE G ec W' (evE C e) (Pst G))) →
    PE X (.Call (.Name x p) [.Lambda noArgs body scope lpos] [] pos) (tE G ec W (evE C (.lam f e)) (Pst G))
theorem Good0.full {G : Gx} {ec : Nat → Addr} {S : Cs} {C : Fns} {k : Nat} {sx : Sx} {X : Cx} {W : WX} (g : Good0 G ec S C k sx X W) (h : sx.lam = false) : Good G ec S C k sx X W := ⟨g, fun z => by rw [h] at z; cases z⟩
section
variable {G : Gx} {ec : Nat → Addr} {S : Cs} {C : Fns} {k : Nat} {sx : Sx} {X : Cx} {W : WX}
theorem Good0.gl (g : Good0 G ec S C k sx X W) {x : Str} (h : glB sx.sc x = true) : Gl X x ∧ (x == ("__debug__" : Str)) = false := by
  unfold glB at h
  simp only [Bool.and_eq_true, decide_eq_true_eq, Bool.not_eq_true'] at h
  refine ⟨?_, h.2⟩
  show X.env.scope.names.lookup x = _
  rw [g.sc]
  exact h.1
theorem Good0.var (g : Good0 G ec S C k sx X W) {i : Nat} {x : Str} (h : varB S sx.sc i x = true) : X.N[i]? = some x ∧ Vis X.env.scope x ∧ (x == ("__debug__" : Str)) = false ∧ (x == ("__classdict__" : Str)) = false := by
  unfold varB visB at h
  simp only [Bool.and_eq_true, Bool.or_eq_true, decide_eq_true_eq, Bool.not_eq_true'] at h
  obtain ⟨⟨⟨h1, h2⟩, h3⟩, h4⟩ := h
  refine ⟨by rw [g.hN]; exact h1, ?_, h3, h4⟩
  rw [g.sc]
  rcases h2 with (h | h) | h
  · exact .inl h
  · exact .inr (.inl h)
  · exact .inr (.inr h)
theorem Good.blk (g : Good G ec S C k sx X W) (hh : sx.hot = false) {s : Shared} {H : Hp} {scope : Scope} {Ca : Addr} {cl : List (Str × Addr)} {fp : List Addr} :
    Good G ec S C k (sx.blk scope) (X.blk s H scope (compEnvC scope cl Ca X.env) fp) (fun _ _ _ _ => False) where
  hK := g.hK
  hN := g.hN
  nd := g.nd
  calm := g.calm
  room := g.room
  gd := g.gd
  un := g.un
  sc := by show relS scope X.env.scope = relS scope sx.sc; rw [g.sc]
  fx := fun x h => h
  tk := LamX.takes0
  blt := g.blt
  con := g.con
  fn := g.fn
  exn := g.exn
  efn := g.efn
  hx := fun h => by rw [show (sx.blk scope).hot = sx.hot from rfl, hh] at h; cases h
  lam := fun h => nomatch h
/-- a call of a known function, by values -/
theorem Good.calls (g : Good G ec S C k sx X W) (hh : sx.hot = false) {x : Str} {f : Nat} (hf : S.fns.lookup x = some f) {pins : List (Addr × Obj)} {s : Shared} {σ : L2.St} {H : Hp} {vs : List V} {us : List Value} {Q : VK} (I : Inv X pins σ H s) (r : Vals vs us)
    (h : ∃ cs Hf μ ds, Well G cs H Hf μ ∧ Reps G cs Hf ds vs ∧ Post G ec W σ (C.call f ds μ) cs H Hf Q (if S.ff f = true then Pfr G else Pst G)) :
    wpAny (model X.prog X.w) X.A (call (.ref (G.fad f)) us) (EP X pins σ Q) X.xe s := by
  obtain ⟨_, _, gr⟩ := g.fn x f hf
  obtain ⟨cs, Hf, μ, ds, wl, hr, hp⟩ := h
  have hp' : Post G ec (fun cls d _ H' => WE W σ cls d H') [] (C.call f ds μ) cs H Hf Q (if S.ff f = true then Pfr G else Pst G) := hp
  refine wpAny_call (codeAny_mono (gr.run X.A X.stack s H us vs Q (WE W σ) (g.room hh) (g.gd hh) (g.hK ▸ I.env0) r ⟨cs, Hf, μ, ds, wl, hr, hp'⟩) fun r s' hq => ?_)
  cases r with
  | error e => exact passAt g.tk σ pins H s e s' I hq
  | ok fl =>
    cases fl with
    | ret u => exact I.after hq
    | next => exact False.elim hq
    | brk => exact False.elim hq
    | cont => exact False.elim hq
theorem star_cons {e : Expr} {es : List Expr} {env : PySem.Env} (h : isStar e = false) : starEach (e :: es) env = (false, eval e env) :: starEach es env := by
  cases e <;> first | rfl | cases h
/-- no star at all -/
def noStars : List Expr → Bool
  | [] => true
  | e :: es => !isStar e && noStars es
theorem plain_args {env : PySem.Env} {pos : Pos} : ∀ {es : List Expr}, noStars es = true → (backTo pos (starEach es env)).any (·.1) = false
  | [], _ => rfl
  | e :: es, h => by
    unfold noStars at h
    simp only [Bool.and_eq_true, Bool.not_eq_true'] at h
    rw [star_cons h.1]
    show (false || (backTo pos (starEach es env)).any (·.1)) = false
    rw [plain_args h.2]
    rfl
theorem all_args {env : PySem.Env} {pos : Pos} : ∀ {es : List Expr}, noStars es = true → (backTo pos (starEach es env)).all (fun x => !x.1) = true
  | [], _ => rfl
  | e :: es, h => by
    unfold noStars at h
    simp only [Bool.and_eq_true, Bool.not_eq_true'] at h
    rw [star_cons h.1]
    show (true && (backTo pos (starEach es env)).all (fun x => !x.1)) = true
    rw [all_args h.2]
    rfl
theorem chkA_stars {S : Cs} {sx : Sx} : ∀ {es : E} {ps : List Expr}, es.chk S sx (.a ps) = true → noStars ps = true
  | .nil, [], _ => rfl
  | .nil, _ :: _, h => by cases h
  | .cons h t, p :: ps, q => by
    have q : (!isStar p && h.chk S sx (.e p) && t.chk S sx (.a ps)) = true := q
    simp only [Bool.and_eq_true] at q
    show (!isStar p && noStars ps) = true
    rw [chkA_stars q.2, Bool.and_eq_true]
    exact ⟨q.1.1, rfl⟩
  | .cons h t, [], q => by cases q
  | .var _, _, q => by cases q
  | .pk _, _, q => by cases q
  | .int _, _, q => by cases q
  | .bl _, _, q => by cases q
  | .non, _, q => by cases q
  | .str _, _, q => by cases q
  | .gc _, _, q => by cases q
  | .fnv _, _, q => by cases q
  | .tup _, _, q => by cases q
  | .lst _, _, q => by cases q
  | .dic _ _, _, q => by cases q
  | .bin _ _ _, _, q => by cases q
  | .neg _, _, q => by cases q
  | .cmp _ _ _, _, q => by cases q
  | .chn _ _ _ _ _, _, q => by cases q
  | .and1 _, _, q => by cases q
  | .and _ _, _, q => by cases q
  | .or1 _, _, q => by cases q
  | .or _ _, _, q => by cases q
  | .not _, _, q => by cases q
  | .ite _ _ _, _, q => by cases q
  | .idx _ _, _, q => by cases q
  | .sl _ _ _, _, q => by cases q
  | .rev _, _, q => by cases q
  | .call _ _, _, q => by cases q
  | .clv _ _ _, _, q => by cases q
  | .lam _ _, _, q => by cases q
  | .act, _, q => by cases q
  | .bi _ _, _, q => by cases q
  | .isi _ _, _, q => by cases q
  | .mt _ _ _, _, q => by cases q
  | .rng _, _, q => by cases q
  | .zip _, _, q => by cases q
  | .enm _, _, q => by cases q
  | .comp _ _ _ _, _, q => by cases q
  | .isx _ _, _, q => by cases q
  | .fld _ _, _, q => by cases q
  | .lrg _ _ _, _, q => by cases q
/-- a call of a function by its name -/
theorem pe_callD (g : Good G ec S C k sx X W) (hh : sx.hot = false) {x : Str} {f : Nat} {e : Expr} {es : List Expr} {p pos : Pos} {ta : TA} (hg : glB sx.sc x = true) (hf : S.fns.lookup x = some f) (ha : PA X (e :: es) ta) (hs : noStars (e :: es) = true) :
    PE X (.Call (.Name x p) (e :: es) [] pos) (fun σ H Q => ta σ H fun vs H1 => ∃ cs Hf μ ds, Well G cs H1 Hf μ ∧ Reps G cs Hf ds vs ∧ Post G ec W σ (C.call f ds μ) cs H1 Hf Q (if S.ff f = true then Pfr G else Pst G)) := by
  refine ⟨fun pins s σ H Q I h => ?_⟩
  obtain ⟨hm, hk, _⟩ := g.fn x f hf
  obtain ⟨hgl, hd⟩ := g.gl hg
  refine wpAny_Call_Name_kw (ld_glob I hgl hm ?_ hd)
  have hs' : noStars (e :: es) = true := hs
  unfold noStars at hs'
  simp only [Bool.and_eq_true, Bool.not_eq_true'] at hs'
  refine PySem.W.callWith_K (h₀ := X.base) I.ok.mod.kin hk (thn (ha.run pos pins s σ H _ I h) fun us s1 ⟨vs, H1, I1, r, q⟩ => ⟨I1.kIn, ?_⟩) (star_cons hs'.1) (plain_args hs'.2)
  exact g.calls hh hf I1 r q
/-- a call of a function that a name holds -/
theorem pe_callV (g : Good G ec S C k sx X W) (hh : sx.hot = false) {i : Nat} {x : Str} {e : Expr} {es : List Expr} {p pos : Pos} {ta : TA} (hx : varB S sx.sc i x = true) (ha : PA X (e :: es) ta) (hs : noStars (e :: es) = true) :
    PE X (.Call (.Name x p) (e :: es) [] pos) (fun σ H Q => ∃ f y, σ[i]? = some (some (.ref (G.fad f))) ∧ S.fns.lookup y = some f ∧ ta σ H fun vs H1 => ∃ cs Hf μ ds, Well G cs H1 Hf μ ∧ Reps G cs Hf ds vs ∧ Post G ec W σ (C.call f ds μ) cs H1 Hf Q (if S.ff f = true then Pfr G else Pst G)) := by
  refine ⟨fun pins s σ H Q I h => ?_⟩
  obtain ⟨f, y, e1, hy, h⟩ := h
  obtain ⟨hm, hk, _⟩ := g.fn y f hy
  obtain ⟨v1, v2, v3, v4⟩ := g.var hx
  refine wpAny_Call_Name_kw (thn ((pe_var (pos := p) v1 v2 v3 v4).run pins s σ H (fun v K1 => v = .ref (G.fad f) ∧ K1 = H) I ⟨_, e1, rfl, rfl⟩) ?_)
  rintro u s1 ⟨v, K1, J1, rv, rfl, rfl⟩
  cases rv
  have hs' : noStars (e :: es) = true := hs
  unfold noStars at hs'
  simp only [Bool.and_eq_true, Bool.not_eq_true'] at hs'
  refine PySem.W.callWith_K (h₀ := X.base) J1.ok.mod.kin hk (thn (ha.run pos pins s1 σ _ _ J1 h) fun us s2 ⟨vs, H1, I1, r, q⟩ => ⟨I1.kIn, ?_⟩) (star_cons hs'.1) (plain_args hs'.2)
  exact g.calls hh hy I1 r q
theorem pe_callD0 (g : Good G ec S C k sx X W) (hh : sx.hot = false) {x : Str} {f : Nat} {p pos : Pos} (hg : glB sx.sc x = true) (hf : S.fns.lookup x = some f) :
    PE X (.Call (.Name x p) [] [] pos) (fun σ H1 Q => ∃ cs Hf μ, Well G cs H1 Hf μ ∧ Post G ec W σ (C.call f [] μ) cs H1 Hf Q (if S.ff f = true then Pfr G else Pst G)) := by
  refine ⟨fun pins s σ H Q I h => ?_⟩
  obtain ⟨hm, hk, _⟩ := g.fn x f hf
  obtain ⟨hgl, hd⟩ := g.gl hg
  obtain ⟨cs, Hf, μ, h1, h2⟩ := h
  refine wpAny_Call_Name_kw (ld_glob I hgl hm ?_ hd)
  exact PySem.W.callWith_K0 I.kIn hk (g.calls hh (vs := []) (us := []) hf I .nil ⟨cs, Hf, μ, [], h1, .nil, h2⟩)
end
end Ev
end

section
set_option Elab.async false
set_option linter.all false
set_option maxRecDepth 100000
set_option maxHeartbeats 2000000
namespace Ev
open PySem PySem.Spec PyProof.Rows L2
/-- how a result is held -/
def kd (G : Gx) (S : Cs) (e : E) : RX := if e.isPk = true then Pwk G else if e.fr S.ff = true then Pfr G else Pst G
def evC (C : Fns) : E → Env → Mu → R D
  | .nil, _, μ => .ok (.bl true) μ
  | e, ρ, μ => evE C e ρ μ
/-- a slice's part -/
def tO (G : Gx) (ec : Nat → Addr) (W : WX) (pf : D → Option (Option Int)) (ev : Env → Mu → R D) : TO := fun σ H Q => ∃ cs0 H0 Hf0 ρ μ cs Hf, Rel G cs0 H0 Hf0 ρ μ cs σ H Hf ∧ match ev ρ μ with
  | .ok d μ' => ∃ o, pf d = some o ∧ ∀ cs' H' Hf', Step G cs H Hf cs' H' Hf' μ' → Q o H'
  | .ex x μ' => ∀ cls dx cs' H' Hf', Step G cs H Hf cs' H' Hf' μ' → ExOk G ec cs' Hf' x cls dx → W cls dx σ H'
  | .bad => False
/-- later states: what is frozen stays; o: a loose list that stays -/
structure Keeps (G : Gx) (o : Option (Addr × List V)) (cs : List Addr) (Hf : Hp) (cs2 : List Addr) (H2 Hf2 : Hp) (μ2 : Mu) : Prop where
  wl : Well G cs2 H2 Hf2 μ2
  ext : ∀ a u, Hf a = some u → Hf2 a = some u
  pix : ∀ (c : Nat) (a : Addr), cs[c]? = some a → cs2[c]? = some a
  at_ : ∀ a vs, o = some (a, vs) → H2 a = some (.lst vs)
theorem Keeps.reps {G : Gx} {o : Option (Addr × List V)} {cs cs2 : List Addr} {Hf H2 Hf2 : Hp} {μ2 : Mu} (k : Keeps G o cs Hf cs2 H2 Hf2 μ2) {ds : List D} {vs : List V} (h : Reps G cs Hf ds vs) : Reps G cs2 Hf2 ds vs := Reps.mono k.ext k.pix ds vs h
/-- what may be walked: its things by turns -/
def Iter (G : Gx) (o : Option (Addr × List V)) (ds : List D) (cs : List Addr) (Hf : Hp) (J : It) : Prop := ∃ (Gd : Hp → Prop) (Y : Nat → Hp → V → Hp → Prop), Walk J ds.length Gd Y ∧ (∀ cs2 H2 Hf2 μ2, Keeps G o cs Hf cs2 H2 Hf2 μ2 → Gd H2) ∧
  ∀ i x H2 H2' cs2 Hf2 μ2, i < ds.length → Keeps G o cs Hf cs2 H2 Hf2 μ2 → Y i H2 x H2' → ∃ Hf3 d, Step G cs2 H2 Hf2 cs2 H2' Hf3 μ2 ∧ ds[i]? = some d ∧ Rep G cs2 Hf3 d x
def tI (G : Gx) (ec : Nat → Addr) (W : WX) (itf : D → Option (List D)) (ev : Env → Mu → R D) : TI := fun σ H Rk => ∃ cs0 H0 Hf0 ρ μ cs Hf, Rel G cs0 H0 Hf0 ρ μ cs σ H Hf ∧ match ev ρ μ with
  | .ok d μ' => ∃ ds, itf d = some ds ∧ ∀ o J cs' H' Hf', Step G cs H Hf cs' H' Hf' μ' → (∀ a vs, o = some (a, vs) → H' a = some (.lst vs) ∧ a ∉ cs') → Iter G o ds cs' Hf' J → Rk J H'
  | .ex x μ' => ∀ cls dx cs' H' Hf', Step G cs H Hf cs' H' Hf' μ' → ExOk G ec cs' Hf' x cls dx → W cls dx σ H'
  | .bad => False
/-- .. of what is frozen -/
def tIF (G : Gx) (ec : Nat → Addr) (W : WX) (itf : D → Option (List D)) (ev : Env → Mu → R D) : TI := fun σ H Rk => ∃ cs0 H0 Hf0 ρ μ cs Hf, Rel G cs0 H0 Hf0 ρ μ cs σ H Hf ∧ match ev ρ μ with
  | .ok d μ' => ∃ ds, itf d = some ds ∧ ∀ J cs' H' Hf', Step G cs H Hf cs' H' Hf' μ' → Iter G none ds cs' Hf' J → Rk J H'
  | .ex x μ' => ∀ cls dx cs' H' Hf', Step G cs H Hf cs' H' Hf' μ' → ExOk G ec cs' Hf' x cls dx → W cls dx σ H'
  | .bad => False
theorem tI.f {G : Gx} {ec : Nat → Addr} {W : WX} {itf : D → Option (List D)} {ev : Env → Mu → R D} {σ : L2.St} {H : Hp} {Rk : It → Hp → Prop} (h : tI G ec W itf ev σ H Rk) : tIF G ec W itf ev σ H Rk := by
  obtain ⟨cs0, H0, Hf0, ρ, μ, cs, Hf, r, h⟩ := h
  refine ⟨cs0, H0, Hf0, ρ, μ, cs, Hf, r, ?_⟩
  cases e : ev ρ μ with
  | ok d μ' =>
    rw [e] at h
    obtain ⟨ds, h1, h2⟩ := h
    exact ⟨ds, h1, fun J cs' H' Hf' s hi => h2 none J cs' H' Hf' s (fun _ _ z => nomatch z) hi⟩
  | ex x μ' => rw [e] at h; exact h
  | bad => rw [e] at h; exact h
section
variable {G : Gx} {ec : Nat → Addr} {S : Cs} {C : Fns} {k : Nat} {sx : Sx} {X : Cx} {W : WX} {σ : L2.St} {H : Hp} {Q : VK} {P P' : RX} {ev : Env → Mu → R D}
theorem tE.st_fr (h : tE G ec W ev (Pst G) σ H Q) : tE G ec W ev (Pfr G) σ H Q := by
  obtain ⟨cs0, H0, Hf0, ρ, μ, cs, Hf, r, h⟩ := h
  exact ⟨cs0, H0, Hf0, ρ, μ, cs, Hf, r, h.fresh⟩
theorem tE.wk_st (h : tE G ec W ev (Pwk G) σ H Q) : tE G ec W ev (Pst G) σ H Q := by
  obtain ⟨cs0, H0, Hf0, ρ, μ, cs, Hf, r, h⟩ := h
  exact ⟨cs0, H0, Hf0, ρ, μ, cs, Hf, r, h.weak_st⟩
theorem tE.wk_fr (h : tE G ec W ev (Pwk G) σ H Q) : tE G ec W ev (Pfr G) σ H Q := by
  obtain ⟨cs0, H0, Hf0, ρ, μ, cs, Hf, r, h⟩ := h
  exact ⟨cs0, H0, Hf0, ρ, μ, cs, Hf, r, h.weak_fr⟩
theorem tE.wk_kd {e : E} (h : tE G ec W ev (Pwk G) σ H Q) : tE G ec W ev (kd G S e) σ H Q := by
  unfold kd
  split
  · exact h
  · split
    · exact h.wk_fr
    · exact h.wk_st
theorem tE.st_kd {e : E} (hp : e.isPk = false) (h : tE G ec W ev (Pst G) σ H Q) : tE G ec W ev (kd G S e) σ H Q := by
  unfold kd
  rw [if_neg (by rw [hp]; decide)]
  split
  · exact h.st_fr
  · exact h
/-- a test by its value -/
theorem tT.val {Q : Bool → Hp → Prop} (h : tT G ec W ev σ H Q) : tE G ec W ev (Pwk G) σ H fun v H' => ∃ c, v = .bl c ∧ Q c H' := by
  obtain ⟨cs0, H0, Hf0, ρ, μ, cs, Hf, r, h⟩ := h
  refine ⟨cs0, H0, Hf0, ρ, μ, cs, Hf, r, ?_⟩
  cases q : ev ρ μ with
  | ok d μ' =>
    rw [q] at h
    cases d with
    | bl b => exact fun v cs' H' Hf' s p => ⟨b, Rw.bl p, h cs' H' Hf' s⟩
    | _ => exact h.elim
  | ex x μ' => rw [q] at h; exact h
  | bad => rw [q] at h; exact h
theorem pt_plain {e : E} {p : Expr} (h : PE X p (tE G ec W (evE C e) (Pwk G))) (hp : plainT p = true) : PT X p (tT G ec W (evE C e)) := by
  refine (pt_val h ?_).imp fun σ H Q q => tT.val q
  intro whole
  cases p <;> first | rfl | cases hp | skip
  rename_i op a pos
  cases op <;> first | rfl | cases hp
/-- a value that stands everywhere -/
theorem tE.leaf {d : D} {v : V} (hv : ∀ ρ μ, ev ρ μ = .ok d μ) (hr : ∀ cs H Hf μ, Well G cs H Hf μ → Rep G cs Hf d v) (h : tE G ec W ev (Pst G) σ H Q) : Q v H := by
  obtain ⟨cs0, H0, Hf0, ρ, μ, cs, Hf, r, h⟩ := h
  rw [hv] at h
  exact h v cs H Hf r.well (hr _ _ _ _ r.well)
theorem s_var (g : Good G ec S C k sx X W) {i : Nat} {x : Str} {pos : Pos} (hc : varB S sx.sc i x = true) : PE X (.Name x pos) (tE G ec W (evE C (.var i)) (Pst G)) := by
  obtain ⟨h1, h2, h3, h4⟩ := g.var hc
  refine (pe_var h1 h2 h3 h4).imp fun σ H Q q => ?_
  obtain ⟨cs0, H0, Hf0, ρ, μ, cs, Hf, r, h⟩ := q
  unfold evE at h
  cases e : ρ[i]? with
  | none => rw [e] at h; exact h.elim
  | some s =>
    rw [e] at h
    cases s with
    | sh d =>
      obtain ⟨v, q1, q2⟩ := r.sh e
      exact ⟨v, q1, h v cs H Hf r.well q2⟩
    | _ => exact h.elim
theorem s_pk (g : Good G ec S C k sx X W) {i : Nat} {x : Str} {pos : Pos} (hc : varB S sx.sc i x = true) : PE X (.Name x pos) (tE G ec W (evE C (.pk i)) (Pwk G)) := by
  obtain ⟨h1, h2, h3, h4⟩ := g.var hc
  refine (pe_var h1 h2 h3 h4).imp fun σ H Q q => ?_
  obtain ⟨cs0, H0, Hf0, ρ, μ, cs, Hf, r, h⟩ := q
  unfold evE at h
  cases e : ρ[i]? with
  | none => rw [e] at h; exact h.elim
  | some s =>
    rw [e] at h
    have own : ∀ ds, (ρ[i]? = some (.own ds) ∨ ρ[i]? = some (.lent ds)) → Post G ec W σ (.ok (.lst ds) μ) cs H Hf Q (Pwk G) → ∃ v, σ[i]? = some (some v) ∧ Q v H := fun ds hh h => by
      obtain ⟨a, vs, q1, q2, q3, q4, q5, q6⟩ := r.own hh
      exact ⟨_, q1, h _ cs H Hf r.well (.inr ⟨ds, a, vs, rfl, rfl, q2, q4, q6⟩)⟩
    cases s with
    | sh d =>
      obtain ⟨v, q1, q2⟩ := r.sh e
      exact ⟨v, q1, h v cs H Hf r.well (.inl q2)⟩
    | own ds => exact own ds (.inl e) h
    | lent ds => exact own ds (.inr e) h
    | _ => exact h.elim
theorem s_gc (g : Good G ec S C k sx X W) {c : Nat} {x : Str} {pos : Pos} (hg : glB sx.sc x = true) (hc : S.cons.lookup x = some c) : PE X (.Name x pos) (tE G ec W (evE C (.gc c)) (Pst G)) := by
  obtain ⟨v, u, e1, e2, e3⟩ := g.con x c hc
  obtain ⟨h1, h2⟩ := g.gl hg
  exact (pe_glob h1 e1 e2 h2).imp fun σ H Q q => q.leaf (fun _ _ => rfl) e3
theorem s_fnv (g : Good G ec S C k sx X W) {c : Nat} {x : Str} {pos : Pos} (hg : glB sx.sc x = true) (hc : S.fns.lookup x = some c) : PE X (.Name x pos) (tE G ec W (evE C (.fnv c)) (Pst G)) := by
  obtain ⟨e1, e2, e3⟩ := g.fn x c hc
  obtain ⟨h1, h2⟩ := g.gl hg
  exact (pe_glob (v := .ref (G.fad c)) h1 e1 rfl h2).imp fun σ H Q q => q.leaf (fun _ _ => rfl) (fun _ _ _ _ _ => Rep.fn_iff.mpr rfl)
variable {a b c : E} {p q r : Expr} {pos : Pos}
abbrev PEw (G : Gx) (ec : Nat → Addr) (C : Fns) (X : Cx) (W : WX) (e : E) (p : Expr) : Prop := PE X p (tE G ec W (evE C e) (Pwk G))
theorem s_bin (g : Good G ec S C k sx X W) (op : BOp) (ha : PEw G ec C X W a p) (hb : PEw G ec C X W b q) : PE X (.BinOp p (bopP op) q pos) (tE G ec W (evE C (.bin op a b)) (Pfr G)) :=
  (pe_op (op_bin (ec := ec) (W := W) g.hK op) ha hb).imp fun σ H Q h => (tX.bind back_fr (tX.of h)).mono fun x H1 ⟨d, h1⟩ => (tX.bind back_fr h1).mono fun y H2 ⟨e, h2⟩ => by
    obtain ⟨cs0, H0, Hf0, ρ, μ, cs, Hf, r, hl, h⟩ := h2
    exact ⟨σ, cs, Hf, μ, d, e, r.well, hl _ (List.mem_cons_of_mem _ List.mem_cons_self), hl _ List.mem_cons_self, h⟩
theorem s_neg (ha : PEw G ec C X W a p) : PE X (.UnaryOp .USub p pos) (tE G ec W (evE C (.neg a)) (Pfr G)) :=
  (pe_un (un_D (G := G) (ec := ec) (W := W)) ha).imp fun σ H Q h => (tX.bind back_fr (tX.of h)).mono fun x H1 ⟨d, h1⟩ => by
    obtain ⟨cs0, H0, Hf0, ρ, μ, cs, Hf, r, hl, h⟩ := h1
    exact ⟨σ, cs, Hf, μ, d, r.well, hl _ List.mem_cons_self, h⟩
theorem cmp_end {op : COp} {d e : D} {x y : V} {l : Hd} (h : tX G ec W ((e, y) :: (d, x) :: l) (fun ρ μ => R.of ((cmpD op d e).map .bl) μ) (Pfr G) σ H Q) : rC G (cmpD op) x y H Q := by
  obtain ⟨cs0, H0, Hf0, ρ, μ, cs, Hf, r, hl, h⟩ := h
  cases q : cmpD op d e with
  | none => rw [q] at h; exact h.elim
  | some k =>
    rw [q] at h
    exact ⟨cs, Hf, μ, d, e, k, r.well, hl _ (List.mem_cons_of_mem _ List.mem_cons_self), hl _ List.mem_cons_self, q, h.flat r.well (Rep.bl_iff.mpr rfl) fun _ z => nomatch z⟩
theorem s_cmp (g : Good G ec S C k sx X W) (op : COp) (ha : PEw G ec C X W a p) (hb : PEw G ec C X W b q) (hm : behindInMarks (copP op) q = false) : PE X (.Compare p [copP op] [q] pos) (tE G ec W (evE C (.cmp op a b)) (Pfr G)) :=
  (pe_cmpR (op_cmp (G := G) g.hK g.un op) ha hb hm).imp fun σ H Q h => (tX.bind back_fr (tX.of h)).mono fun x H1 ⟨d, h1⟩ => (tX.bind back_fr h1).mono fun y H2 ⟨e, h2⟩ => cmp_end h2
theorem cmp_endB {op : COp} {d e : D} {x y : V} {l : Hd} {Q : Bool → Hp → Prop} (h : tXB G ec W ((e, y) :: (d, x) :: l) (fun ρ μ => R.of ((cmpD op d e).map .bl) μ) σ H Q) : rC G (cmpD op) x y H fun v H' => ∃ k, v = .bl k ∧ Q k H' := by
  obtain ⟨cs0, H0, Hf0, ρ, μ, cs, Hf, r, hl, h⟩ := h
  cases q : cmpD op d e with
  | none => rw [q] at h; exact h.elim
  | some k =>
    rw [q] at h
    exact ⟨cs, Hf, μ, d, e, k, r.well, hl _ (List.mem_cons_of_mem _ List.mem_cons_self), hl _ List.mem_cons_self, q, k, rfl, h cs H Hf r.well⟩
theorem s_cmpT (g : Good G ec S C k sx X W) (op : COp) (ha : PEw G ec C X W a p) (hb : PEw G ec C X W b q) (hm : behindInMarks (copP op) q = false) : PT X (.Compare p [copP op] [q] pos) (tT G ec W (evE C (.cmp op a b))) :=
  (pt_cmpR (op_cmp (G := G) g.hK g.un op) ha hb hm).imp fun σ H Q h => (tXB.bind (tXB.of h)).mono fun x H1 ⟨d, h1⟩ => (tXB.bind h1).mono fun y H2 ⟨e, h2⟩ => cmp_endB h2
/-- the middle of a chain -/
theorem chn_mid {o1 o2 : COp} {d e : D} {x y : V} {c : E} {l : Hd}
    (h : tX G ec W ((e, y) :: (d, x) :: l) (fun ρ μ => (R.of (cmpD o1 d e) μ).bind fun k μ => if k = true then (evE C c ρ μ).bind fun z μ => R.of ((cmpD o2 e z).map .bl) μ else .ok (.bl false) μ) (Pfr G) σ H Q) :
    rC G (cmpD o1) x y H fun z H3 => ∃ k, z = .bl k ∧ if k = true then tE G ec W (evE C c) (Pwk G) σ H3 fun w H4 => rC G (cmpD o2) y w H4 Q else Q (.bl false) H3 := by
  obtain ⟨cs0, H0, Hf0, ρ, μ, cs, Hf, r, hl, h⟩ := h
  cases q : cmpD o1 d e with
  | none => rw [q] at h; exact h.elim
  | some k =>
    rw [q] at h
    simp only [R.of_some, R.bind_ok] at h
    refine ⟨cs, Hf, μ, d, e, k, r.well, hl _ (List.mem_cons_of_mem _ List.mem_cons_self), hl _ List.mem_cons_self, q, k, rfl, ?_⟩
    cases k with
    | true =>
      rw [if_pos rfl] at h ⊢
      have h2 : tX G ec W [(e, y)] (fun ρ μ => (evE C c ρ μ).bind fun z μ => R.of ((cmpD o2 e z).map .bl) μ) (Pfr G) σ H Q := ⟨cs0, H0, Hf0, ρ, μ, cs, Hf, r, .cons (hl _ List.mem_cons_self) .nil, h⟩
      exact (tX.bind back_fr h2).mono fun w H4 ⟨z, h4⟩ => cmp_end h4
    | false =>
      rw [if_neg (by decide)] at h ⊢
      exact h.flat r.well (Rep.bl_iff.mpr rfl) fun _ z => nomatch z
theorem s_chn (g : Good G ec S C k sx X W) (o1 o2 : COp) (ha : PEw G ec C X W a p) (hb : PEw G ec C X W b q) (hc : PEw G ec C X W c r) (hm : lastMarks [copP o1, copP o2] [q, r] = false) :
    PE X (.Compare p [copP o1, copP o2] [q, r] pos) (tE G ec W (evE C (.chn o1 o2 a b c)) (Pfr G)) :=
  (pe_chain (op_cmp (G := G) g.hK g.un o1) (op_cmp (G := G) g.hK g.un o2) ha hb hc hm).imp fun σ H Q h => (tX.bind back_fr (tX.of h)).mono fun x H1 ⟨d, h1⟩ => (tX.bind back_fr h1).mono fun y H2 ⟨e, h2⟩ => chn_mid h2
end
end Ev
end

section
set_option Elab.async false
set_option linter.all false
set_option maxRecDepth 100000
set_option maxHeartbeats 2000000
namespace Ev
open PySem PySem.Spec PyProof.Rows L2
section
variable {G : Gx} {ec : Nat → Addr} {S : Cs} {C : Fns} {k : Nat} {sx : Sx} {X : Cx} {W : WX} {σ : L2.St} {H : Hp} {Q : VK} {P P' : RX} {ev : Env → Mu → R D}
variable {a b c : E} {p q r : Expr} {pos : Pos}
theorem chn_midB {o1 o2 : COp} {d e : D} {x y : V} {c : E} {l : Hd} {Q : Bool → Hp → Prop}
    (h : tXB G ec W ((e, y) :: (d, x) :: l) (fun ρ μ => (R.of (cmpD o1 d e) μ).bind fun k μ => if k = true then (evE C c ρ μ).bind fun z μ => R.of ((cmpD o2 e z).map .bl) μ else .ok (.bl false) μ) σ H Q) :
    rC G (cmpD o1) x y H fun z H3 => ∃ k, z = .bl k ∧ if k = true then tE G ec W (evE C c) (Pwk G) σ H3 fun w H4 => rC G (cmpD o2) y w H4 (fun v H' => ∃ k, v = .bl k ∧ Q k H') else ∃ k, V.bl false = .bl k ∧ Q k H3 := by
  obtain ⟨cs0, H0, Hf0, ρ, μ, cs, Hf, r, hl, h⟩ := h
  cases q : cmpD o1 d e with
  | none => rw [q] at h; exact h.elim
  | some k =>
    rw [q] at h
    simp only [R.of_some, R.bind_ok] at h
    refine ⟨cs, Hf, μ, d, e, k, r.well, hl _ (List.mem_cons_of_mem _ List.mem_cons_self), hl _ List.mem_cons_self, q, k, rfl, ?_⟩
    cases k with
    | true =>
      rw [if_pos rfl] at h ⊢
      have h2 : tXB G ec W [(e, y)] (fun ρ μ => (evE C c ρ μ).bind fun z μ => R.of ((cmpD o2 e z).map .bl) μ) σ H Q := ⟨cs0, H0, Hf0, ρ, μ, cs, Hf, r, .cons (hl _ List.mem_cons_self) .nil, h⟩
      exact (tXB.bind h2).mono fun w H4 ⟨z, h4⟩ => cmp_endB h4
    | false =>
      rw [if_neg (by decide)] at h ⊢
      exact ⟨false, rfl, h cs H Hf r.well⟩
theorem s_chnT (g : Good G ec S C k sx X W) (o1 o2 : COp) (ha : PEw G ec C X W a p) (hb : PEw G ec C X W b q) (hc : PEw G ec C X W c r) (hm : lastMarks [copP o1, copP o2] [q, r] = false) :
    PT X (.Compare p [copP o1, copP o2] [q, r] pos) (tT G ec W (evE C (.chn o1 o2 a b c))) :=
  (pt_chain (op_cmp (G := G) g.hK g.un o1) (op_cmp (G := G) g.hK g.un o2) ha hb hc hm).imp fun σ H Q h => (tXB.bind (tXB.of h)).mono fun x H1 ⟨d, h1⟩ => (tXB.bind h1).mono fun y H2 ⟨e, h2⟩ => chn_midB h2
theorem s_and1 {pos : Pos} (ha : PE X p (tE G ec W (evE C a) P)) : PE X (.BoolOp .And [p] pos) (tE G ec W (evE C (.and1 a)) P) := pe_one ha
theorem s_or1 {pos : Pos} (ha : PE X p (tE G ec W (evE C a) P)) : PE X (.BoolOp .Or [p] pos) (tE G ec W (evE C (.or1 a)) P) := pe_one ha
theorem bl_of {cs : List Addr} {Hf : Hp} {l : Hd} {v : V} {b : Bool} (h : Held G cs H Hf ((.bl b, v) :: l)) : v = .bl b := Rw.bl (h _ List.mem_cons_self)
theorem s_and {ps : List Expr} {r : E} (ha : PEw G ec C X W a p) (hr : PE X (.BoolOp .And (q :: ps) pos) (tE G ec W (evE C r) (Pst G))) : PE X (.BoolOp .And (p :: q :: ps) pos) (tE G ec W (evE C (.and a r)) (Pst G)) :=
  (pe_and ha hr).imp fun σ H Q h => (tX.bind back_st (tX.of h)).mono fun x H1 ⟨d, h1⟩ => by
    obtain ⟨cs0, H0, Hf0, ρ, μ, cs, Hf, r, hl, h⟩ := h1
    cases d with
    | bl k =>
      refine ⟨k, bl_of hl, ?_⟩
      cases k with
      | true => exact ⟨cs0, H0, Hf0, ρ, μ, cs, Hf, r, h⟩
      | false => exact h _ cs H1 Hf r.well (Rep.bl_iff.mpr rfl)
    | _ => exact h.elim
theorem s_or {ps : List Expr} {r : E} (ha : PEw G ec C X W a p) (hr : PE X (.BoolOp .Or (q :: ps) pos) (tE G ec W (evE C r) (Pst G))) : PE X (.BoolOp .Or (p :: q :: ps) pos) (tE G ec W (evE C (.or a r)) (Pst G)) :=
  (pe_or ha hr).imp fun σ H Q h => (tX.bind back_st (tX.of h)).mono fun x H1 ⟨d, h1⟩ => by
    obtain ⟨cs0, H0, Hf0, ρ, μ, cs, Hf, r, hl, h⟩ := h1
    cases d with
    | bl k =>
      refine ⟨k, bl_of hl, ?_⟩
      cases k with
      | false => exact ⟨cs0, H0, Hf0, ρ, μ, cs, Hf, r, h⟩
      | true => exact h _ cs H1 Hf r.well (Rep.bl_iff.mpr rfl)
    | _ => exact h.elim
theorem s_not (ha : PEw G ec C X W a p) : PE X (.UnaryOp .Not p pos) (tE G ec W (evE C (.not a)) (Pfr G)) :=
  (pe_not ha).imp fun σ H Q h => (tX.bind back_fr (tX.of h)).mono fun x H1 ⟨d, h1⟩ => by
    obtain ⟨cs0, H0, Hf0, ρ, μ, cs, Hf, r, hl, h⟩ := h1
    cases d with
    | bl k => exact ⟨k, bl_of hl, h.flat r.well (Rep.bl_iff.mpr rfl) fun _ z => nomatch z⟩
    | _ => exact h.elim
abbrev PTt (G : Gx) (ec : Nat → Addr) (C : Fns) (X : Cx) (W : WX) (e : E) (p : Expr) : Prop := PT X p (tT G ec W (evE C e))
abbrev PWt (G : Gx) (ec : Nat → Addr) (C : Fns) (X : Cx) (W : WX) (e : E) (p : Expr) : Prop := PW X p (tT G ec W (evE C e))
theorem s_and1T (ha : PTt G ec C X W a p) : PWt G ec C X W (.and1 a) (.BoolOp .And [p] pos) := pw_and1 ha
theorem s_or1T (ha : PTt G ec C X W a p) : PWt G ec C X W (.or1 a) (.BoolOp .Or [p] pos) := pw_or1 ha
theorem s_andT {ps : List Expr} {r : E} (ha : PTt G ec C X W a p) (hr : PWt G ec C X W r (.BoolOp .And (q :: ps) pos)) : PWt G ec C X W (.and a r) (.BoolOp .And (p :: q :: ps) pos) :=
  (pw_and ha hr).imp fun σ H Q h => (tXB.bindT (fun d ρ μ hd => by cases d <;> first | rfl | exact absurd rfl (hd _)) (tXB.of h)).mono fun c H1 h1 => by
    cases c with
    | true => exact h1.to
    | false =>
      obtain ⟨cs0, H0, Hf0, ρ, μ, cs, Hf, r, hl, h⟩ := h1
      exact h cs H1 Hf r.well
theorem s_orT {ps : List Expr} {r : E} (ha : PTt G ec C X W a p) (hr : PWt G ec C X W r (.BoolOp .Or (q :: ps) pos)) : PWt G ec C X W (.or a r) (.BoolOp .Or (p :: q :: ps) pos) :=
  (pw_or ha hr).imp fun σ H Q h => (tXB.bindT (fun d ρ μ hd => by cases d <;> first | rfl | exact absurd rfl (hd _)) (tXB.of h)).mono fun c H1 h1 => by
    cases c with
    | false => exact h1.to
    | true =>
      obtain ⟨cs0, H0, Hf0, ρ, μ, cs, Hf, r, hl, h⟩ := h1
      exact h cs H1 Hf r.well
theorem s_notT (ha : PTt G ec C X W a p) : PTt G ec C X W (.not a) (.UnaryOp .Not p pos) :=
  (pt_not ha).imp fun σ H Q h => (tXB.bindT (fun d ρ μ hd => by cases d <;> first | rfl | exact absurd rfl (hd _)) (tXB.of h)).mono fun c H1 h1 => by
    obtain ⟨cs0, H0, Hf0, ρ, μ, cs, Hf, r, hl, h⟩ := h1
    exact h cs H1 Hf r.well
theorem s_ite (b1 : Back G P) (hc : PTt G ec C X W c p) (ha : PE X q (tE G ec W (evE C a) P)) (hb : PE X r (tE G ec W (evE C b) P)) : PE X (.IfExp p q r pos) (tE G ec W (evE C (.ite c a b)) P) :=
  (pe_ifExp hc ha hb).imp fun σ H Q h => (tX.bindT b1 (fun d ρ μ hd => by cases d <;> first | rfl | exact absurd rfl (hd _)) (tX.of h)).mono fun c H1 h1 => by
    cases c with
    | true => exact h1.to
    | false => exact h1.to
theorem plainIx (h : isSl q = false) : PlainIx q := by
  intro o i
  cases q <;> first | rfl | cases h
theorem s_idx (g : Good G ec S C k sx X W) (hs : isSl q = false) (ha : PEw G ec C X W a p) (hb : PEw G ec C X W b q) : PE X (.Subscript p q pos) (tE G ec W (evE C (.idx a b)) (Pst G)) :=
  (pe_ix (ix_D (ec := ec) (W := W) g.hK) ha hb (plainIx hs)).imp fun σ H Q h => (tX.bind back_st (tX.of h)).mono fun x H1 ⟨d, h1⟩ => (tX.bind back_st h1).mono fun y H2 ⟨e, h2⟩ => by
    obtain ⟨cs0, H0, Hf0, ρ, μ, cs, Hf, r, hl, h⟩ := h2
    exact ⟨σ, cs, Hf, μ, d, e, r.well, hl _ (List.mem_cons_of_mem _ List.mem_cons_self), hl _ List.mem_cons_self, h⟩
theorem tX.bindO {l : Hd} {pf : D → Option (Option Int)} {g : Option Int → Env → Mu → R D} (b : Back G P') (h : tX G ec W l (fun ρ μ => (ev ρ μ).bind fun d μ => (R.of (pf d) μ).bind fun o μ => g o ρ μ) P' σ H Q) : tO G ec W pf ev σ H fun o H1 => tX G ec W l (g o) P' σ H1 Q := by
  obtain ⟨cs0, H0, Hf0, ρ, μ, cs, Hf, r, hl, h⟩ := h
  refine ⟨cs0, H0, Hf0, ρ, μ, cs, Hf, r, ?_⟩
  dsimp only at h
  cases q : ev ρ μ with
  | ok d μ' =>
    rw [q] at h
    cases q2 : pf d with
    | none => simp only [R.bind_ok, q2, R.of_none, R.bind_bad] at h; exact h.elim
    | some o =>
      simp only [R.bind_ok, q2, R.of_some] at h
      exact ⟨o, q2, fun cs' H' Hf' s => ⟨cs0, H0, Hf0, ρ, μ', cs', Hf', r.step s, hl.step s, Post.step b s h⟩⟩
  | ex x μ' => rw [q] at h; exact h
  | bad => rw [q] at h; exact h
abbrev POt (G : Gx) (ec : Nat → Addr) (C : Fns) (X : Cx) (W : WX) (e : E) (p : Option Expr) : Prop := PO X p (tO G ec W (partE e) (evE C e))
theorem PO.imp {o : Option Expr} {t t' : TO} (h : PO X o t) (k : ∀ σ H Q, t' σ H Q → t σ H Q) : PO X o t' := ⟨fun pins s σ H Q I q => h.run pins s σ H Q I (k σ H Q q)⟩
theorem s_po_none : POt G ec C X W .nil none := PO.imp po_none fun σ H Q h => by
  obtain ⟨cs0, H0, Hf0, ρ, μ, cs, Hf, r, o, e, h⟩ := h
  cases e
  exact h cs H Hf r.well
theorem s_po_some (hn : a ≠ .nil) (ha : PEw G ec C X W a p) : POt G ec C X W a (some p) := PO.imp (po_some ha) fun σ H Q h => by
  obtain ⟨cs0, H0, Hf0, ρ, μ, cs, Hf, r, h⟩ := h
  refine ⟨cs0, H0, Hf0, ρ, μ, cs, Hf, r, ?_⟩
  cases q : evE C a ρ μ with
  | ok d μ' =>
    rw [q] at h
    obtain ⟨o, e, h⟩ := h
    intro v cs' H' Hf' s hp
    cases d with
    | int i =>
      have e : some (some i) = some o := by
        rw [← e]
        cases a <;> first | rfl | exact absurd rfl hn
      cases e
      exact ⟨i, Rw.int hp, h cs' H' Hf' s⟩
    | _ => cases a <;> first | exact absurd rfl hn | cases e
  | ex x μ' => rw [q] at h; exact h
  | bad => rw [q] at h; exact h
theorem s_sl (g : Good G ec S C k sx X W) {lo hi : E} {l h : Option Expr} {p2 : Pos} (ha : PEw G ec C X W a p) (hl : POt G ec C X W lo l) (hh : POt G ec C X W hi h) : PE X (.Subscript p (.Slice l h none p2) pos) (tE G ec W (evE C (.sl a lo hi)) (Pfr G)) :=
  (pe_slice (sl_D (ec := ec) (W := W) g.hK) ha hl hh).imp fun σ H Q h => (tX.bind back_fr (tX.of h)).mono fun x H1 ⟨d, h1⟩ => by
    have h2 := tX.bindO back_fr h1
    obtain ⟨cs0, H0, Hf0, ρ, μ, cs, Hf, r, h2⟩ := h2
    refine ⟨cs0, H0, Hf0, ρ, μ, cs, Hf, r, ?_⟩
    revert h2
    cases evE C lo ρ μ with
    | ok e μ' =>
      rintro ⟨o, e1, h3⟩
      refine ⟨o, e1, fun cs' H' Hf' s => ?_⟩
      have h4 := tX.bindO back_fr (h3 cs' H' Hf' s)
      obtain ⟨cs0, H0, Hf0, ρ, μ, cs, Hf, r, h5⟩ := h4
      refine ⟨cs0, H0, Hf0, ρ, μ, cs, Hf, r, ?_⟩
      revert h5
      cases evE C hi ρ μ with
      | ok e μ' =>
        rintro ⟨o', e1, h6⟩
        refine ⟨o', e1, fun cs' H' Hf' s => ?_⟩
        obtain ⟨cs0, H0, Hf0, ρ, μ, cs, Hf, r, hl, h7⟩ := h6 cs' H' Hf' s
        exact ⟨σ, cs, Hf, μ, d, r.well, hl _ List.mem_cons_self, h7⟩
      | ex x μ' => exact fun z => z
      | bad => exact fun z => z
    | ex x μ' => exact fun z => z
    | bad => exact fun z => z
theorem s_rev (g : Good G ec S C k sx X W) {n : Nat} {p1 p2 p3 : Pos} (ha : PEw G ec C X W a p) : PE X (.Subscript p (.Slice none none (some (.UnaryOp .USub (.Constant (.int 1) n p1) p2)) p3) pos) (tE G ec W (evE C (.rev a)) (Pfr G)) :=
  (pe_revA ha).imp fun σ H Q h => (tX.bind back_fr (tX.of h)).mono fun x H1 ⟨d, h1⟩ => by
    obtain ⟨cs0, H0, Hf0, ρ, μ, cs, Hf, r, hl, h⟩ := h1
    cases d with
    | lst xs =>
      obtain ⟨ad, vs, e1, h2, h3⟩ := Rw.lst r.well (hl _ List.mem_cons_self)
      exact .inl ⟨ad, vs, e1, .inl (.inl h2), h.newL r.well h3.reverse⟩
    | tup xs =>
      obtain ⟨ad, vs, e1, h2, h3, h4⟩ := Rw.tup r.well (hl _ List.mem_cons_self)
      exact .inr ⟨ad, vs, e1, g.hK ▸ h2, h.newT r.well h4.reverse⟩
    | _ => exact h.elim
theorem s_nilA : PA X [] (tAw G ec W (evE C .nil)) := pa_nil.imp fun σ H Q h => by
  obtain ⟨cs0, H0, Hf0, ρ, μ, cs, Hf, r, h⟩ := h
  exact h [] cs H Hf r.well rfl
theorem s_nilS : PA X [] (tA G ec W (evE C .nil)) := pa_nil.imp fun σ H Q h => by
  obtain ⟨cs0, H0, Hf0, ρ, μ, cs, Hf, r, h⟩ := h
  exact h [] cs H Hf r.well .nil
theorem s_consA {t : E} {ps : List Expr} (hs : isStar p = false) (ha : PEw G ec C X W a p) (ht : PA X ps (tAw G ec W (evE C t))) : PA X (p :: ps) (tAw G ec W (evE C (.cons a t))) :=
  (pa_cons ha ht (star_cons hs)).imp fun σ H Q h => by
    obtain ⟨cs0, H0, Hf0, ρ, μ, cs, Hf, r, h⟩ := h
    refine ⟨cs0, H0, Hf0, ρ, μ, cs, Hf, r, ?_⟩
    unfold evE at h
    cases q : evE C a ρ μ with
    | ok d μ' =>
      rw [q] at h
      intro v cs' H' Hf' s hp
      refine ⟨cs0, H0, Hf0, ρ, μ', cs', Hf', r.step s, ?_⟩
      simp only [R.bind_ok] at h
      cases q2 : evE C t ρ μ' with
      | ok e μ2 =>
        rw [q2] at h
        cases e with
        | tup ds => exact fun vs cs2 H2 Hf2 s2 hv => h (v :: vs) cs2 H2 Hf2 (s.trans s2) ⟨v, vs, rfl, Rw.step s2 hp, hv⟩
        | _ => exact h.elim
      | ex x μ2 => rw [q2] at h; exact fun cls dx cs2 H2 Hf2 s2 hx => h cls dx cs2 H2 Hf2 (s.trans s2) hx
      | bad => rw [q2] at h; exact h
    | ex x μ' => rw [q] at h; exact h
    | bad => rw [q] at h; exact h
theorem s_consS {t : E} {ps : List Expr} (hs : isStar p = false) (ha : PE X p (tE G ec W (evE C a) (Pst G))) (ht : PA X ps (tA G ec W (evE C t))) : PA X (p :: ps) (tA G ec W (evE C (.cons a t))) :=
  (pa_cons ha ht (star_cons hs)).imp fun σ H Q h => by
    obtain ⟨cs0, H0, Hf0, ρ, μ, cs, Hf, r, h⟩ := h
    refine ⟨cs0, H0, Hf0, ρ, μ, cs, Hf, r, ?_⟩
    unfold evE at h
    cases q : evE C a ρ μ with
    | ok d μ' =>
      rw [q] at h
      intro v cs' H' Hf' s hp
      refine ⟨cs0, H0, Hf0, ρ, μ', cs', Hf', r.step s, ?_⟩
      simp only [R.bind_ok] at h
      cases q2 : evE C t ρ μ' with
      | ok e μ2 =>
        rw [q2] at h
        cases e with
        | tup ds => exact fun vs cs2 H2 Hf2 s2 hv => h (v :: vs) cs2 H2 Hf2 (s.trans s2) (Reps.cons (s2.rep hp) hv)
        | _ => exact h.elim
      | ex x μ2 => rw [q2] at h; exact fun cls dx cs2 H2 Hf2 s2 hx => h cls dx cs2 H2 Hf2 (s.trans s2) hx
      | bad => rw [q2] at h; exact h
    | ex x μ' => rw [q] at h; exact h
    | bad => rw [q] at h; exact h
/-- as many as are written -/
theorem evE_len : ∀ {ps : List Expr} {es : E} {ρ : Env} {μ μ' : Mu} {ds : List D}, es.chk S sx (.a ps) = true → evE C es ρ μ = .ok (.tup ds) μ' → ds.length = ps.length
  | [], es, ρ, μ, μ', ds, hc, h => by
    cases es with
    | nil => cases h; rfl
    | _ => cases hc
  | p :: ps, es, ρ, μ, μ', ds, hc, h => by
    cases es with
    | cons hd t =>
      have hc : (!isStar p && hd.chk S sx (.e p) && t.chk S sx (.a ps)) = true := hc
      simp only [Bool.and_eq_true] at hc
      unfold evE at h
      cases q : evE C hd ρ μ with
      | ok d μ1 =>
        rw [q] at h
        simp only [R.bind_ok] at h
        cases q2 : evE C t ρ μ1 with
        | ok e μ2 =>
          rw [q2] at h
          cases e with
          | tup es =>
            simp only [R.bind_ok] at h
            cases h
            rw [List.length_cons, List.length_cons, evE_len hc.2 q2]
          | _ => cases h
        | ex x μ2 => rw [q2] at h; cases h
        | bad => rw [q2] at h; cases h
      | ex x μ2 => rw [q] at h; cases h
      | bad => rw [q] at h; cases h
    | _ => cases hc
theorem evE_tup {ps : List Expr} {es : E} {ρ : Env} {μ μ' : Mu} {d : D} (hc : es.chk S sx (.a ps) = true) (h : evE C es ρ μ = .ok d μ') : ∃ ds, d = .tup ds := by
  cases es with
  | nil => cases h; exact ⟨_, rfl⟩
  | cons hd t =>
    unfold evE at h
    cases q1 : evE C hd ρ μ with
    | ok d μ1 =>
      rw [q1] at h
      simp only [R.bind_ok] at h
      cases q2 : evE C t ρ μ1 with
      | ok e μ2 =>
        rw [q2] at h
        cases e with
        | tup es => cases h; exact ⟨_, rfl⟩
        | _ => cases h
      | ex x μ2 => rw [q2] at h; cases h
      | bad => rw [q2] at h; cases h
    | ex x μ2 => rw [q1] at h; cases h
    | bad => rw [q1] at h; cases h
  | _ => cases hc
theorem small_line {n : Nat} (h : n < 4096) : n ≤ sizeLine := by rw [sizeLine_eq]; omega
theorem s_tup {es : E} {ps : List Expr} {n : Nat} (hc : es.chk S sx (.a ps) = true) (hl : ps.length < 4096) (ha : PA X ps (tA G ec W (evE C es))) : PE X (.Tuple ps n pos) (tE G ec W (evE C (.tup es)) (Pfr G)) :=
  (pe_tup ha).imp fun σ H Q h => by
    obtain ⟨cs0, H0, Hf0, ρ, μ, cs, Hf, r, h⟩ := h
    refine ⟨cs0, H0, Hf0, ρ, μ, cs, Hf, r, ?_⟩
    have h : Post G ec W σ (evE C es ρ μ) cs H Hf Q (Pfr G) := h
    cases q : evE C es ρ μ with
    | ok d μ' =>
      rw [q] at h
      cases d with
      | tup ds =>
        intro vs cs' H' Hf' s hv
        refine ⟨by rw [← hv.len, evE_len hc q]; exact small_line hl, ?_⟩
        exact (Post.step back_fr s h).newT s.well hv
      | _ =>
        obtain ⟨ds, e⟩ := evE_tup hc q
        cases e
    | ex x μ' => rw [q] at h; exact h
    | bad => rw [q] at h; exact h
theorem s_lst {es : E} {ps : List Expr} (hc : es.chk S sx (.a ps) = true) (hl : ps.length < 4096) (ha : PA X ps (tA G ec W (evE C es))) : PE X (.List ps pos) (tE G ec W (evE C (.lst es)) (Pfr G)) :=
  (pe_lst ha).imp fun σ H Q h => by
    obtain ⟨cs0, H0, Hf0, ρ, μ, cs, Hf, r, h⟩ := h
    refine ⟨cs0, H0, Hf0, ρ, μ, cs, Hf, r, ?_⟩
    unfold evE at h
    cases q : evE C es ρ μ with
    | ok d μ' =>
      rw [q] at h
      cases d with
      | tup ds =>
        intro vs cs' H' Hf' s hv
        refine ⟨by rw [← hv.len, evE_len hc q]; exact small_line hl, ?_⟩
        exact (Post.step back_fr s h).newL s.well hv
      | _ => exact h.elim
    | ex x μ' => rw [q] at h; exact h
    | bad => rw [q] at h; exact h
end
end Ev
end

section
set_option Elab.async false
set_option linter.all false
set_option maxRecDepth 100000
set_option maxHeartbeats 2000000
namespace Ev
open PySem PySem.Spec PyProof.Rows L2
section
variable {G : Gx} {ec : Nat → Addr} {S : Cs} {C : Fns} {k : Nat} {sx : Sx} {X : Cx} {W : WX} {σ : L2.St} {H : Hp} {Q : VK} {P P' : RX} {ev : Env → Mu → R D}
variable {a b c : E} {p q r : Expr} {pos : Pos}
theorem back_ff (f : Bool) : Back G (if f = true then Pfr G else Pst G) := by
  cases f
  · exact back_st
  · exact back_fr
theorem kd_call {f : Nat} {es : E} : kd G S (.call f es) = if S.ff f = true then Pfr G else Pst G := rfl
theorem s_call (g : Good G ec S C k sx X W) (hh : sx.hot = false) {f : Nat} {es : E} {x : Str} {ps : List Expr} {p1 : Pos} (hg : glB sx.sc x = true) (hf : S.fns.lookup x = some f) (hc : es.chk S sx (.a ps) = true) (ha : PA X ps (tA G ec W (evE C es))) :
    PE X (.Call (.Name x p1) ps [] pos) (tE G ec W (evE C (.call f es)) (kd G S (.call f es))) := by
  rw [kd_call]
  cases ps with
  | nil =>
    cases es with
    | nil =>
      refine (pe_callD0 g hh hg hf).imp fun σ H Q h => ?_
      obtain ⟨cs0, H0, Hf0, ρ, μ, cs, Hf, r, h⟩ := h
      exact ⟨cs, Hf, μ, r.well, h⟩
    | _ => cases hc
  | cons p ps =>
    refine (pe_callD g hh hg hf ha (chkA_stars hc)).imp fun σ H Q h => ?_
    refine (tX.bindA (back_ff _) (fun d ρ μ hd => by cases d <;> first | rfl | exact absurd rfl (hd _)) (tX.of h)).mono fun vs H1 h1 => ?_
    obtain ⟨ds, cs0, H0, Hf0, ρ, μ, cs, Hf, r, hr, h⟩ := h1
    exact ⟨cs, Hf, μ, ds, r.well, hr, h⟩
theorem s_clv (g : Good G ec S C k sx X W) (hh : sx.hot = false) {i : Nat} {fs : List Nat} {es : E} {x : Str} {ps : List Expr} {p1 : Pos} (hx : varB S sx.sc i x = true) (hf : (fs.all fun f => S.fns.any fun y => decide (S.fns.lookup y.1 = some f)) = true) (hc : es.chk S sx (.a (p :: ps)) = true) (ha : PA X (p :: ps) (tA G ec W (evE C es))) :
    PE X (.Call (.Name x p1) (p :: ps) [] pos) (tE G ec W (evE C (.clv i fs es)) (Pst G)) := by
  refine (pe_callV g hh hx ha (chkA_stars hc)).imp fun σ H Q h => ?_
  obtain ⟨cs0, H0, Hf0, ρ, μ, cs, Hf, r, h⟩ := h
  unfold evE at h
  cases e : ρ[i]? with
  | none => rw [e] at h; exact h.elim
  | some sl =>
    rw [e] at h
    cases sl with
    | sh d =>
      cases d with
      | fn f =>
        have h : Post G ec W σ (if fs.contains f = true then (evE C es ρ μ).bind fun r μ => match r with
          | .tup ds => C.call f ds μ
          | _ => .bad
          else .bad) cs H Hf Q (Pst G) := h
        by_cases hm : fs.contains f = true
        · rw [if_pos hm] at h
          obtain ⟨v, q1, q2⟩ := r.sh e
          have hfm := List.all_eq_true.mp hf f (by simpa using hm)
          obtain ⟨y, _, hy⟩ := List.any_eq_true.mp hfm
          refine ⟨f, y.1, by rw [q1, Rep.fn_iff.mp q2], of_decide_eq_true hy, ?_⟩
          refine (tX.bindA (g := fun r _ μ => match r with
            | .tup ds => C.call f ds μ
            | _ => .bad) back_st (fun d ρ μ hd => by cases d <;> first | rfl | exact absurd rfl (hd _)) (tX.of ⟨cs0, H0, Hf0, ρ, μ, cs, Hf, r, h⟩)).mono fun vs H1 h1 => ?_
          obtain ⟨ds, cs0, H0, Hf0, ρ, μ, cs, Hf, r, hr, h⟩ := h1
          refine ⟨cs, Hf, μ, ds, r.well, hr, ?_⟩
          split
          · exact h.fresh
          · exact h
        · rw [if_neg hm] at h; exact h.elim
      | _ => exact h.elim
    | _ => exact h.elim
theorem reps_rg {cs : List Addr} {Hf : Hp} (lo hi : Int) : Reps G cs Hf (rngL lo hi) (rgV lo hi) := Reps.map (fun _ => Rep.int_iff.mpr rfl) _
theorem lrg_end {tp : Bool} {d e : D} {x y : V} {l : Hd} (h : tX G ec W ((e, y) :: (d, x) :: l) (fun ρ μ => R.of (lrgD tp d e) μ) (Pfr G) σ H Q) : ∃ i j, x = .int i ∧ y = .int j ∧ RgOk i j ∧ (if tp = true then ∀ q, H q = none → Q (.ref q) (upd H q (.tup (rgV i j))) else ∀ q, H q = none → Q (.ref q) (upd H q (.lst (rgV i j)))) := by
  obtain ⟨cs0, H0, Hf0, ρ, μ, cs, Hf, r, hl, h⟩ := h
  have h1 := hl _ (List.mem_cons_of_mem _ List.mem_cons_self)
  have h2 := hl _ List.mem_cons_self
  cases d <;> first | exact h.elim | skip
  rename_i i
  cases e <;> first | exact h.elim | skip
  rename_i j
  refine ⟨i, j, Rw.int h1, Rw.int h2, ?_⟩
  by_cases hb : -(2 ^ 62) ≤ i ∧ i < 2 ^ 62 ∧ -(2 ^ 62) ≤ j ∧ j < 2 ^ 62 ∧ (j - i).toNat ≤ 2 ^ 24
  · have e : lrgD tp (.int i) (.int j) = some (if tp = true then .tup (rngL i j) else .lst (rngL i j)) := if_pos hb
    have h : Post G ec W σ (R.of (lrgD tp (.int i) (.int j)) μ) cs H Hf Q (Pfr G) := h
    rw [e] at h
    refine ⟨hb, ?_⟩
    cases tp with
    | true => exact h.newT r.well (reps_rg i j)
    | false => exact h.newL r.well (reps_rg i j)
  · have e : lrgD tp (.int i) (.int j) = none := if_neg hb
    have h : Post G ec W σ (R.of (lrgD tp (.int i) (.int j)) μ) cs H Hf Q (Pfr G) := h
    rw [e] at h
    exact h.elim
theorem s_lrg (g : Good G ec S C k sx X W) (hh : sx.hot = false) {tp : Bool} {x : Str} {a b : E} {q : Expr} {te : L2.St → Hp → (Int → Int → Hp → Prop) → Prop} {p1 : Pos} (hg : glB sx.sc x = true) (hx : x = if tp = true then "tuple" else "list") (hq : isStar q = false) (he : PRg X q te)
    (ht : ∀ σ H Q, tE G ec W (evE C (.lrg tp a b)) (Pfr G) σ H Q → te σ H fun i j H1 => RgOk i j ∧ if tp = true then ∀ q, H1 q = none → Q (.ref q) (upd H1 q (.tup (rgV i j))) else ∀ q, H1 q = none → Q (.ref q) (upd H1 q (.lst (rgV i j)))) :
    PE X (.Call (.Name x p1) [q] [] pos) (tE G ec W (evE C (.lrg tp a b)) (Pfr G)) := by
  subst hx
  obtain ⟨hgl, _⟩ := g.gl hg
  cases tp with
  | true => exact (pe_tupRg (g.calm hh) hgl (g.blt _ (by decide +kernel)) he (star_cons hq)).imp fun σ H Q h => ht σ H Q h
  | false => exact (pe_listRg (g.calm hh) hgl (g.blt _ (by decide +kernel)) he (star_cons hq)).imp fun σ H Q h => ht σ H Q h
theorem biN_mem (b : Bi) : biN b ∈ bNames := by cases b <;> decide +kernel
theorem boot_bi (b : Bi) : bootBuiltins (biN b) = some (biV b) := by cases b <;> rfl
theorem biN_ne (b : Bi) : biN b ≠ "__name__" := by cases b <;> decide +kernel
theorem s_bi (g : Good G ec S C k sx X W) (hh : sx.hot = false) {b : Bi} {es : E} {p1 : Pos} {ps : List Expr} (hg : glB sx.sc (biN b) = true) (hc : es.chk S sx (.a (p :: ps)) = true) (ha : PA X (p :: ps) (tAw G ec W (evE C es))) :
    PE X (.Call (.Name (biN b) p1) (p :: ps) [] pos) (tE G ec W (evE C (.bi b es)) (Pfr G)) := by
  obtain ⟨hgl, hdb⟩ := g.gl hg
  have hs := chkA_stars hc
  have hs' : noStars (p :: ps) = true := hs
  unfold noStars at hs'
  simp only [Bool.and_eq_true, Bool.not_eq_true'] at hs'
  have hm := g.blt _ (biN_mem b)
  have hv := boot_bi b
  have hr := call_D (ec := ec) (W := W) g.hK (g.calm hh) (g.gd hh) g.un b
  have fin : ∀ σ H Q, tE G ec W (evE C (.bi b es)) (Pfr G) σ H Q → tCB (rBi G ec W b) (tAw G ec W (evE C es)) σ H Q := fun σ H Q h => by
    have h1 := tX.bindAw back_fr (fun d ρ μ hd => by cases d <;> first | rfl | exact absurd rfl (hd _)) (tX.of h)
    obtain ⟨cs0, H0, Hf0, ρ, μ, cs, Hf, r, h1⟩ := h1
    refine ⟨cs0, H0, Hf0, ρ, μ, cs, Hf, r, h1.mono fun vs H1 h1 => ?_⟩
    obtain ⟨ds, cs0, H0, Hf0, ρ, μ, cs, Hf, r, hr, h⟩ := h1
    exact ⟨σ, cs, Hf, μ, ds, r.well, hr, h⟩
  cases hb : biV b with
  | builtin id => rw [hb] at hr hv; exact (pe_callB hr hgl hm hv ha (biN_ne b) hdb (star_cons hs'.1) (plain_args hs'.2)).imp fin
  | type T => rw [hb] at hr hv; exact (pe_callTy hr hgl hm hv ha (biN_ne b) hdb (star_cons hs'.1) (plain_args hs'.2)).imp fin
  | _ => cases b <;> cases hb
theorem boot_ty (t : Ty) : bootBuiltins (tyN t : Str) = some (.type (tyN t)) := by cases t <;> rfl
theorem tyN_mem (t : Ty) : (tyN t : Str) ∈ bNames := by cases t <;> decide +kernel
theorem tyN_ne (t : Ty) : (tyN t : Str) ≠ "__name__" := by cases t <;> decide +kernel
theorem s_isi (g : Good G ec S C k sx X W) {t : Ty} {p1 p2 : Pos} (hg : glB sx.sc "isinstance" = true) (hg2 : glB sx.sc (tyN t : Str) = true) (hs : isStar p = false) (ha : PEw G ec C X W a p) :
    PE X (.Call (.Name "isinstance" p1) [p, .Name (tyN t : Str) p2] [] pos) (tE G ec W (evE C (.isi a t)) (Pfr G)) := by
  obtain ⟨hgl, hdb⟩ := g.gl hg
  obtain ⟨hgl2, hdb2⟩ := g.gl hg2
  have hT : PE X (.Name (tyN t : Str) p2) (tC (.ty (tyN t))) := pe_bltn hgl2 (g.blt _ (tyN_mem t)) (boot_ty t) rfl (tyN_ne t) hdb2
  refine (pe_callB (isi_D (G := G) g.hK t) hgl (g.blt _ (by decide +kernel)) rfl (pa_cons ha (pa_cons hT pa_nil) (star_cons hs)) (by decide +kernel) hdb (star_cons hs) rfl).imp fun σ H Q h => ?_
  refine (tX.bind back_fr (tX.of h)).mono fun x H1 ⟨d, h1⟩ => ?_
  obtain ⟨cs0, H0, Hf0, ρ, μ, cs, Hf, r, hl, h⟩ := h1
  cases q : isTy t d with
  | none => rw [q] at h; exact h.elim
  | some k =>
    rw [q] at h
    exact ⟨cs, Hf, μ, d, x, k, r.well, rfl, hl _ List.mem_cons_self, q, h.flat r.well (Rep.bl_iff.mpr rfl) fun _ z => nomatch z⟩
theorem noSup_base {name : Str} {env : PySem.Env} (h : noSup p = true) : attributeBase p name env (eval p env) = eval p env := by
  unfold attributeBase
  cases p <;> first | rfl | skip
  rename_i f args kws ps
  cases f <;> first | rfl | skip
  cases args <;> first | rfl | skip
  cases kws <;> first | rfl | cases h
theorem slot_of (m : Mt) : PySem.Slot "list" (mtN m) (mtI m) := by
  cases m
  · exact PySem.F.slot_list_count
  · exact PySem.F.slot_list_index
theorem ty_of (m : Mt) : typeOf (.builtin (mtI m)) = pure (.type "method_descriptor") := by
  cases m
  · exact PySem.F.type_list_count
  · exact PySem.F.type_list_index
theorem s_mt (g : Good G ec S C k sx X W) {m : Mt} {apos : Pos} (ha : PEw G ec C X W a p) (hb : PEw G ec C X W b q) (hs : noSup p = true) (hl : (apos.endLine == pos.line) = true) (hst : isStar q = false) :
    PE X (.Call (.Attribute p (mtN m) apos) [q] [] pos) (tE G ec W (evE C (.mt m a b)) (Pfr G)) := by
  refine (pe_bm PySem.F.plainAttrs_list (slot_of m) (ty_of m) (mt_D (G := G) m) ha (pa_cons hb pa_nil (star_cons hst)) (noSup_base hs) ?_ hl (star_cons hst) rfl).imp fun σ H Q h => ?_
  · rw [star_cons hst]
    rfl
  · refine (tX.bind back_fr (tX.of h)).mono fun x H1 ⟨d, h1⟩ => ?_
    cases d with
    | lst xs =>
      have h1 : tX G ec W [(.lst xs, x)] (fun ρ μ => (evE C b ρ μ).bind fun y μ => R.of (mtD m (.lst xs) y) μ) (Pfr G) σ H1 Q := h1
      refine ⟨?_, (tX.bind back_fr h1).mono fun y H2 ⟨e, h2⟩ => ?_⟩
      · obtain ⟨cs0, H0, Hf0, ρ, μ, cs, Hf, r, hl, h⟩ := h1
        obtain ⟨ad, vs, e1, h2, _⟩ := Rw.lst r.well (hl _ List.mem_cons_self)
        have e1 : x = .ref ad := e1
        rw [e1]
        exact Or.inl ⟨rfl, vs, .inl (.inl h2)⟩
      · obtain ⟨cs0, H0, Hf0, ρ, μ, cs, Hf, r, hl, h⟩ := h2
        cases q : mtD m (.lst xs) e with
        | none => rw [q] at h; exact h.elim
        | some z =>
          rw [q] at h
          refine ⟨cs, Hf, μ, .lst xs, e, y, z, r.well, rfl, hl _ (List.mem_cons_of_mem _ List.mem_cons_self), hl _ List.mem_cons_self, q, fun ⟨i, ei⟩ j ej => ?_⟩
          subst ej
          exact h.flat r.well (Rep.int_iff.mpr rfl) fun _ z => nomatch z
    | _ =>
      obtain ⟨cs0, H0, Hf0, ρ, μ, cs, Hf, r, hl, h⟩ := h1
      exact h.elim
end
end Ev
end

section
set_option Elab.async false
set_option linter.all false
set_option maxRecDepth 100000
set_option maxHeartbeats 2000000
namespace PySem
open Sem (wp)
set_option maxHeartbeats 1000000 in
theorem meets_enumB1 {v : Value} {o : Obj} {H : Heap → Prop} (B : Begins v o H) :
    Meets (Builtin.«enumerate.__new__» ⟨[.type "enumerate", v], []⟩) (fun _ R s => H s.heap ∧
      R (.ok (.ret (.ref (s.heap.push o).objs.size))) { s with heap := (s.heap.push o).push { cls := .type "enumerate", data := .fields #[.none, .bool false, .ref s.heap.objs.size, rawInt 0, .none, .none] } }) :=
  .of_wp fun prog w A R s h => by
    obtain ⟨hp, g, d, tk, os⟩ := s; obtain ⟨h1, h⟩ := h
    have hsub := sub_enumerate
    have q1 : ∀ {A' : Around} {E : Value → Shared → Prop} {Q : Value → Shared → Prop}, Q (.ref hp.objs.size) ⟨hp.push o, g, d, tk, os⟩ → wpAny (model prog w) A' (pyIter v) Q E ⟨hp, g, d, tk, os⟩ :=
      fun q => B.iter prog w _ _ ⟨hp, g, d, tk, os⟩ _ h1 q
    wp_walk using q1
    refine wpAny_stack_any fun st => wpAny_pure ?_
    split
    · rename_i c _ _ _ _ _
      cases (c == Value.type "enumerate")
      · wp_walk using q1
        exact ⟨_, rfl, h⟩
      · wp_walk using q1
        exact ⟨_, rfl, h⟩
    · wp_walk using q1
      exact ⟨_, rfl, h⟩
section
variable {prog : Program} {w : World} {A : Around} {E : Value → Shared → Prop} {s : Shared}
theorem enum_begins1 {v : Value} {o : Obj} {H : Heap → Prop} {Q : Value → Shared → Prop} (B : Begins v o H) (h1 : H s.heap)
    (h : ∀ h', IsEnum h' (s.heap.objs.size + 1) s.heap.objs.size 0 .none → h'.get? s.heap.objs.size = some o → h'.objs.size = s.heap.objs.size + 2 →
      (∀ b o, s.heap.get? b = some o → h'.get? b = some o) → Q (.ref (s.heap.objs.size + 1)) { s with heap := h' }) :
    wpAny (model prog w) A (call (.type "enumerate") [v]) Q E s := by
  refine callType_new F.called_enumerate (by decide) (F.typeCall_enumerate_1 _) (F.newCall_enumerate_1 _) (fun obj => F.args_object_init_2 obj _) F.entry_enumerate_new
    (meets_enumB1 B) ⟨h1, ?_⟩
  have hz : (s.heap.push o).objs.size = s.heap.objs.size + 1 := Heap.size_push ..
  show _ ∧ _
  rw [hz]
  have he : IsEnum ((s.heap.push o).push { cls := .type "enumerate", data := .fields #[.none, .bool false, .ref s.heap.objs.size, rawInt 0, .none, .none] }) (s.heap.objs.size + 1) s.heap.objs.size 0 .none := by
    have := Heap.get?_push_size (s.heap.push o) (o := { cls := .type "enumerate", data := .fields #[.none, .bool false, .ref s.heap.objs.size, rawInt 0, .none, .none] }) rfl
    rw [hz] at this; exact this
  refine ⟨⟨_, he, rfl⟩, h _ he (Heap.get?_push_of_some _ (Heap.get?_push_size _ B.free)) (by rw [Heap.size_push, hz]) fun b o x => Heap.get?_push_of_some _ (Heap.get?_push_of_some _ x)⟩
theorem enum_endT {e it t : Addr} {k : Nat} {items : Array Value} {i : Int} {old : Value} {Q : Option Value → Shared → Prop} (hh : A.handled = none) (he : IsEnum s.heap e it i old) (hit : s.heap.IsTupleIter it t k) (ht : s.heap.IsTuple t items) (hx : items[k]? = none)
    (hQ : ∀ h', Heap.ExtBut it s.heap h' → Q none { s with heap := h' }) : wpAny (model prog w) A (pyNext (.ref e)) Q E s := by
  have hT : s.TypeIs (.ref e) "enumerate" := ⟨_, he, rfl⟩
  unfold pyNext
  refine wpAny_bind (wpAny_attempt (wpAny_callSpecial?_slot (name := Str.ofString "__next__") hT F.slot_enumerate_next
    (wpAny_call_entry F.slot_enumerate_next hT F.entry_enumerate_next ?_ (F.args_enumerate_next_1 _))))
  show wpAny _ _ (field (.ref e) 2 >>= _) _ _ _
  refine wpAny_bind (wpAny_field he rfl (x := .ref it) rfl ?_)
  refine wpAny_bind (wpAny_nextOf_tuple_end (A := A.in1) hh hit ht hx fun h' x he' hx' => ?_)
  obtain ⟨o, ho, hc⟩ := hx'
  refine wpAny_bind (wpAny_isInstance (T := "StopIteration") (b := true) ⟨o, ho, hc⟩ isSubtype_stop ?_)
  exact wpAny_pure (hQ _ he')
end
end PySem
namespace L2
open PySem PySem.Spec PyProof.Rows
/-- the tuple at a, each item in a new pair -/
def IteT (K : PySem.W.Frag) (a : Addr) : It :=
  ⟨fun i H => ∃ (xs : List V) (x : V), SqT K H a xs ∧ xs[i]? = some x, fun i H v H' => ∃ T x, v = .ref T ∧ H T = none ∧ H' = upd H T (.tup [.int (i : Nat), x]) ∧ ∀ xs, SqT K H a xs → xs[i]? = some x, fun i H => ∃ xs : List V, SqT K H a xs ∧ xs.length ≤ i⟩
theorem turn_enumT {P : Program} {w : World} {K : PySem.W.Frag} {elts : List Expr} {kk : Nat} {tpos : Pos} (a e it : Addr) :
    Turn P w K (.Tuple elts kk tpos) (IteT K a) [e, it] e (fun i h => (∃ old, IsEnum h e it ((i : Nat) : Int) old) ∧ h.IsTupleIter it a i ∧ e ≠ it ∧ a ≠ it ∧ e ≠ a) where
  mem := by simp
  obj := fun i h st b hb => by
    obtain ⟨⟨old, he⟩, ⟨o, ho, hc, hd⟩, _⟩ := st
    have e' : b = e ∨ b = it := by simpa using hb
    rcases e' with z | z
    · rw [z]; exact ⟨_, he, fun v q => nomatch q⟩
    · rw [z]; exact ⟨o, ho, fun v q => by rw [hd] at q; cases q⟩
  keep := fun i h h' st k => let ⟨⟨old, he⟩, hi, hne⟩ := st; ⟨⟨old, k e (by simp) _ he⟩, hi.at fun o q => k it (by simp) o q, hne⟩
  item := by
    intro X hP hw hK hc i pins s σ H E I hf st hg
    subst hP hw hK
    obtain ⟨⟨old, he⟩, hit, hne, hai, hea⟩ := st
    obtain ⟨xs, x, hq, hx⟩ := hg
    obtain ⟨its, rv, p, hz⟩ := I.tuple hq
    obtain ⟨u, hu, ru⟩ := rv.get hx
    have hel : e < s.heap.objs.size := Heap.lt_size he
    have hil : it < s.heap.objs.size := by obtain ⟨_, q, _⟩ := hit; exact Heap.lt_size q
    have pT : s.heap.IsTuple a its.toArray := p
    have D := Draws.tuple (prog := X.prog) (w := X.w) (A := X.A.in1) (I.ok.hd hc) it a hai its.toArray
    have hlt : i < its.toArray.size := by
      have := (List.getElem?_eq_some_iff.mp hu).1
      simpa using this
    refine wpAny_pyNext_enum_itemD D he ⟨hit, pT⟩ hlt hne (by simp [hne, hea]) fun x' h' tk hP ho hit' hT hsz hk => ?_
    have ex : x' = u := by
      have : its[i]? = some x' := by simpa using hP
      rw [hu] at this
      exact (Option.some.inj this).symm
    subst ex
    refine ⟨_, rfl, wpAny_letOwnedTupleGo_enum (s := { s with heap := h', toks := tk + 1 }) ho fun h'' he' sb => ?_⟩
    have hT2 : h''.get? s.heap.objs.size = some { cls := .type "tuple", data := .seq #[.int i tk, x'] } := (sb.2 _ (Nat.ne_of_gt hel)).trans hT
    have new : ObjOk X.prog X.w (upd H s.heap.objs.size (.tup [.int (i : Nat), x])) h'' s.heap.objs.size (.tup [.int (i : Nat), x]) :=
      ⟨by show 2 ≤ sizeLine; decide, [.int i tk, x'], .cons ⟨_, rfl⟩ (.cons ru .nil), ⟨_, hT2, rfl, _, rfl⟩⟩
    have I1 : Inv X pins σ (upd H s.heap.objs.size (.tup [.int (i : Nat), x])) { s with heap := h'', toks := tk + 1 } :=
      I.turnedNew (ch := [e, it]) (fun b ob hb q => (sb.2 b (fun z => hb (by simp [z]))).trans (hk b ob (fun z => hb (by simp [z])) (fun z => hb (by simp [z])) q)) hf (Nat.le_refl _) new
    refine ⟨.ref s.heap.objs.size, _, I1, rfl, ⟨_, x, rfl, I.hok.fresh (Nat.le_refl _), rfl, fun ys hy => by rw [I.tuple_inj hy hq]; exact hx⟩, ⟨⟨x', ?_⟩, hit'.1.at fun o q => (sb.2 it (Ne.symm hne)).trans q, hne, hai, hea⟩, fun b hb => ?_⟩
    · have e1 : ((i + 1 : Nat) : Int) = (i : Int) + 1 := by omega
      rw [e1]; exact he'
    · have hb' : b < s.heap.objs.size := by
        have e' : b = e ∨ b = it := by simpa using hb
        rcases e' with z | z
        · rw [z]; exact hel
        · rw [z]; exact hil
      rw [upd_ne (Nat.ne_of_lt hb')]
      exact (hf b hb).1
  done := by
    intro X hP hw hK hc i pins s σ H E I hf st hg
    subst hP hw hK
    obtain ⟨⟨old, he⟩, hit, hne, hai, hea⟩ := st
    obtain ⟨xs, hq, hx⟩ := hg
    obtain ⟨its, rv, p, hz⟩ := I.tuple hq
    obtain ⟨f0, f1, f2, f3, f4, f5⟩ := hf it (by simp)
    have hl := rv.length
    exact enum_endT (I.ok.hd hc) he hit (show s.heap.IsTuple a its.toArray from p) (by simp; omega) fun h' eb => ⟨rfl, I.turned (t' := s.toks) (fun b o hb q => eb b o hb q) f0 f1 f3 f4 f5⟩
  self := fun A i s Q E st h => let ⟨⟨_, he⟩, _⟩ := st; wpAny_pyIter_enum he h
theorem walk_enumT {K : PySem.W.Frag} {a : Addr} {xs : List V} : Walk (IteT K a) xs.length (fun H => SqT K H a xs) (YPair (fun i => some (.int (i : Nat))) (fun i => xs[i]?)) := by
  refine ⟨fun i _ hi q => ⟨xs, xs[i], q, by simp [hi]⟩, fun _ q => ⟨xs, q, Nat.le_refl _⟩, fun i H v H' _ q y => ?_⟩
  obtain ⟨T, x, h1, h2, h3, h4⟩ := y
  exact ⟨T, .int (i : Nat), x, h1, h2, h3, rfl, h4 xs q⟩
/-- enumerate of a list or a tuple -/
def iEnumA (K : PySem.W.Frag) (ta : TA) : TI := fun σ H R => ta σ H fun vs H1 => ∃ a xs, vs = [.ref a] ∧ ((SqL K H1 a xs ∧ R (Ite K a) H1) ∨ (SqT K H1 a xs ∧ R (IteT K a) H1))
theorem pi_enumA {X : Cx} {e : Expr} {ta : TA} {p pos tpos : Pos} {elts : List Expr} {kk : Nat} (hg : Gl X "enumerate") (hm : X.mg "enumerate" = none) (ha : PA X [e] ta) (hs : starEach [e] X.env = [(false, eval e X.env)] := by rfl) :
    PI X (.Tuple elts kk tpos) (.Call (.Name "enumerate" p) [e] [] pos) (iEnumA X.K ta) := by
  refine ⟨fun pins s σ H R I h => ?_⟩
  refine Call_ (ld_blt I hg hm boot_enumerate (PyProof.Rows.callWith_type1 (thn (ha.run pos pins s σ H _ I h) fun us s1 ⟨vs, H1, I1, r1, q1⟩ => ?_) hs rfl))
  obtain ⟨a, xs, ex, q⟩ := q1
  subst ex
  cases r1 with
  | cons r rr =>
    cases rr
    cases r
    rcases q with ⟨hq, q⟩ | ⟨hq, q⟩
    · obtain ⟨its, rv, p', hz⟩ := I1.list hq
      refine call_enumerate_list p'.isList fun h' he hit hsz hk => wpAny_pyIter_enum he ?_
      have I2 : Inv X pins σ H1 { s1 with heap := h' } := I1.kept (t' := s1.toks) hk
      refine ⟨s1.heap.objs.size + 1, [s1.heap.objs.size + 1, s1.heap.objs.size], _, _, H1, rfl, I2, turn_enum a (s1.heap.objs.size + 1) s1.heap.objs.size, ⟨⟨.none, he⟩, hit, Nat.succ_ne_self _⟩, fun b hb => ?_, q⟩
      have e' : b = s1.heap.objs.size + 1 ∨ b = s1.heap.objs.size := by simpa using hb
      have hle : s1.heap.objs.size ≤ b := by
        rcases e' with z | z
        · rw [z]; exact Nat.le_add_right _ _
        · rw [z]; exact Nat.le_refl _
      exact I1.fpOk hle (I1.hok.fresh hle)
    · obtain ⟨its, rv, p', hz⟩ := I1.tuple hq
      have pT : s1.heap.IsTuple a its.toArray := p'
      have hal : a < s1.heap.objs.size := by obtain ⟨o, ho, _⟩ := pT; exact Heap.lt_size ho
      refine enum_begins1 (begins_tuple a its.toArray) pT fun h' he hit hsz hk => wpAny_pyIter_enum he ?_
      have I2 : Inv X pins σ H1 { s1 with heap := h' } := I1.kept (t' := s1.toks) hk
      refine ⟨s1.heap.objs.size + 1, [s1.heap.objs.size + 1, s1.heap.objs.size], _, _, H1, rfl, I2, turn_enumT a (s1.heap.objs.size + 1) s1.heap.objs.size, ⟨⟨.none, he⟩, ⟨_, hit, rfl, rfl⟩, Nat.succ_ne_self _, Nat.ne_of_lt hal, Nat.ne_of_gt (Nat.lt_succ_of_lt hal)⟩, fun b hb => ?_, q⟩
      have e' : b = s1.heap.objs.size + 1 ∨ b = s1.heap.objs.size := by simpa using hb
      have hle : s1.heap.objs.size ≤ b := by
        rcases e' with z | z
        · rw [z]; exact Nat.le_add_right _ _
        · rw [z]; exact Nat.le_refl _
      exact I1.fpOk hle (I1.hok.fresh hle)
end L2
namespace L2
open PySem PySem.Spec PyProof.Rows
/-- a list (false) or a tuple (true) -/
def SqB : Bool → PySem.W.Frag → Hp → Addr → List V → Prop
  | false => fun K H a xs => SqL K H a xs
  | true => fun K H a xs => SqT K H a xs
def ItB : Bool → Heap → Addr → Addr → Nat → Prop
  | false => fun h it a i => h.IsListIter it a i
  | true => fun h it a i => h.IsTupleIter it a i
def IsB : Bool → Heap → Addr → Array Value → Prop
  | false => fun h a xs => h.IsList a xs
  | true => fun h a xs => h.IsTuple a xs
def obB : Bool → Addr → Obj
  | false => fun a => { cls := .type "list_iterator", data := .fields #[.ref a, .int 0 0] }
  | true => fun a => { cls := .type "tuple_iterator", data := .fields #[.ref a, .int 0 0] }
theorem IsB.lt : ∀ {t : Bool} {h : Heap} {a : Addr} {xs : Array Value}, IsB t h a xs → a < h.objs.size
  | false, h, a, xs, p => by obtain ⟨o, ho, _⟩ := (show h.IsList a xs from p); exact Heap.lt_size ho
  | true, h, a, xs, p => by obtain ⟨o, ho, _⟩ := (show h.IsTuple a xs from p); exact Heap.lt_size ho
theorem ItB.obj : ∀ {t : Bool} {h : Heap} {it a : Addr} {i : Nat}, ItB t h it a i → ∃ o, h.get? it = some o ∧ ∀ v, o.data = .cell v → False
  | false, h, it, a, i, p => by obtain ⟨o, ho, hc, hd⟩ := (show h.IsListIter it a i from p); exact ⟨o, ho, fun v q => by rw [hd] at q; cases q⟩
  | true, h, it, a, i, p => by obtain ⟨o, ho, hc, hd⟩ := (show h.IsTupleIter it a i from p); exact ⟨o, ho, fun v q => by rw [hd] at q; cases q⟩
theorem ItB.at : ∀ {t : Bool} {h h' : Heap} {it a : Addr} {i : Nat}, ItB t h it a i → (∀ o, h.get? it = some o → h'.get? it = some o) → ItB t h' it a i
  | false, h, h', it, a, i, p, k => Heap.IsListIter.at p k
  | true, h, h', it, a, i, p, k => Heap.IsTupleIter.at p k
theorem ItB.begin : ∀ {t : Bool} {h : Heap} {it a : Addr}, h.get? it = some (obB t a) → ItB t h it a 0
  | false, h, it, a, e => ⟨_, e, rfl, rfl⟩
  | true, h, it, a, e => ⟨_, e, rfl, rfl⟩
theorem drawsB {prog : Program} {w : World} {A : Around} (hh : A.handled = none) : ∀ (t : Bool) (it a : Addr) (hne : a ≠ it) (items : Array Value), Draws prog w A it [it, a] items.size (fun i v => items[i]? = some v) (fun i h => ItB t h it a i ∧ IsB t h a items)
  | false, it, a, hne, items => Draws.list hh it a hne items
  | true, it, a, hne, items => Draws.tuple hh it a hne items
theorem beginB : ∀ (t : Bool) (a : Addr) (items : Array Value), Begins (.ref a) (obB t a) (fun h => IsB t h a items)
  | false, a, items => begins_list a items
  | true, a, items => begins_tuple a items
theorem seqB {X : Cx} {pins : List (Addr × Obj)} {σ : L2.St} {H : Hp} {s : Shared} (I : Inv X pins σ H s) : ∀ {t : Bool} {a : Addr} {xs : List V}, SqB t X.K H a xs → ∃ its : List Value, Vals xs its ∧ IsB t s.heap a its.toArray
  | false, a, xs, h => by obtain ⟨its, rv, p, _⟩ := I.list h; exact ⟨its, rv, p.isList⟩
  | true, a, xs, h => by obtain ⟨its, rv, p, _⟩ := I.tuple h; exact ⟨its, rv, p⟩
theorem injB {X : Cx} {pins : List (Addr × Obj)} {σ : L2.St} {H : Hp} {s : Shared} (I : Inv X pins σ H s) : ∀ {t : Bool} {a : Addr} {xs ys : List V}, SqB t X.K H a xs → SqB t X.K H a ys → xs = ys
  | false, a, xs, ys, h, h' => I.list_inj h h'
  | true, a, xs, ys, h, h' => I.tuple_inj h h'
/-- what lies at a and b, the items in new pairs -/
def ItzB (t u : Bool) (K : PySem.W.Frag) (a b : Addr) : It :=
  ⟨fun i H => ∃ (xs ys : List V) (x y : V), SqB t K H a xs ∧ SqB u K H b ys ∧ xs[i]? = some x ∧ ys[i]? = some y,
    fun i H v H' => ∃ T x y, v = .ref T ∧ H T = none ∧ H' = upd H T (.tup [x, y]) ∧ (∀ xs, SqB t K H a xs → xs[i]? = some x) ∧ ∀ ys, SqB u K H b ys → ys[i]? = some y,
    fun i H => ∃ xs ys : List V, SqB t K H a xs ∧ SqB u K H b ys ∧ i = min xs.length ys.length⟩
theorem walk_zipB {t u : Bool} {K : PySem.W.Frag} {a b : Addr} {xs ys : List V} {n : Nat} (hn : n = min xs.length ys.length) : Walk (ItzB t u K a b) n (fun H => SqB t K H a xs ∧ SqB u K H b ys) (YPair (fun i => xs[i]?) (fun i => ys[i]?)) := by
  subst hn
  refine ⟨fun i _ hi q => ?_, fun _ q => ⟨xs, ys, q.1, q.2, rfl⟩, fun i H v H' _ q y => ?_⟩
  · have h1 : i < xs.length := by omega
    have h2 : i < ys.length := by omega
    exact ⟨xs, ys, xs[i], ys[i], q.1, q.2, by simp [h1], by simp [h2]⟩
  · obtain ⟨T, x, z, h1, h2, h3, h4, h5⟩ := y
    exact ⟨T, x, z, h1, h2, h3, h4 xs q.1, h5 ys q.2⟩
theorem turn_zipB {t u : Bool} {P : Program} {w : World} {K : PySem.W.Frag} {elts : List Expr} {kk : Nat} {tpos : Pos} {a b z TI TO i1 i2 : Addr} (S : ZipSep2 z TI TO i1 i2 [i1, a] [i2, b]) (ai : a ≠ i1) (bi : b ≠ i2) :
    Turn P w K (.Tuple elts kk tpos) (ItzB t u K a b) [z, TI, TO, i1, i2] z (fun i h => IsZip h z TI TO .none ∧ IsTupOf2 h TI (.ref i1) (.ref i2) ∧ (∃ x y, IsTupOf2 h TO x y) ∧ ItB t h i1 a i ∧ ItB u h i2 b i) where
  mem := by simp
  obj := fun i h st c hc => by
    obtain ⟨hz, hTI, ⟨x, y, hTO⟩, h1, h2⟩ := st
    obtain ⟨o1, e1, d1⟩ := h1.obj
    obtain ⟨o2, e2, d2⟩ := h2.obj
    have e' : c = z ∨ c = TI ∨ c = TO ∨ c = i1 ∨ c = i2 := by simpa using hc
    rcases e' with q | q | q | q | q
    · rw [q]; exact ⟨_, hz, fun v q => nomatch q⟩
    · rw [q]; exact ⟨_, hTI, fun v q => nomatch q⟩
    · rw [q]; exact ⟨_, hTO, fun v q => nomatch q⟩
    · rw [q]; exact ⟨o1, e1, d1⟩
    · rw [q]; exact ⟨o2, e2, d2⟩
  keep := fun i h h' st k => by
    obtain ⟨hz, hTI, ⟨x, y, hTO⟩, h1, h2⟩ := st
    exact ⟨k z (by simp) _ hz, k TI (by simp) _ hTI, ⟨x, y, k TO (by simp) _ hTO⟩, h1.at fun o q => k i1 (by simp) o q, h2.at fun o q => k i2 (by simp) o q⟩
  item := by
    intro X hP hw hK hc i pins s σ H E I hf st hg
    subst hP hw hK
    obtain ⟨hz, hTI, ⟨x0, y0, hTO⟩, h1, h2⟩ := st
    obtain ⟨xs, ys, x, y, hqx, hqy, hx, hy⟩ := hg
    obtain ⟨its, rv, p⟩ := seqB I hqx
    obtain ⟨its2, rv2, p2⟩ := seqB I hqy
    obtain ⟨u1, hu, ru⟩ := rv.get hx
    obtain ⟨u2, hu2, ru2⟩ := rv2.get hy
    have hzl : z < s.heap.objs.size := Heap.lt_size hz
    have D1 := drawsB (prog := X.prog) (w := X.w) (A := X.A.in1) (I.ok.hd hc) t i1 a ai its.toArray
    have D2 := drawsB (prog := X.prog) (w := X.w) (A := X.A.in1) (I.ok.hd hc) u i2 b bi its2.toArray
    have l1 : i < its.toArray.size := by have := (List.getElem?_eq_some_iff.mp hu).1; simpa using this
    have l2 : i < its2.toArray.size := by have := (List.getElem?_eq_some_iff.mp hu2).1; simpa using this
    refine wpAny_pyNext_zipD2_item S D1 D2 hz hTI hTO ⟨h1, p⟩ ⟨h2, p2⟩ l1 l2 fun x1 x2 h' tk y1 y2 z' TO' b1 b2 hT hsz hk => ?_
    have ex : x1 = u1 := by
      have : its[i]? = some x1 := by simpa using y1
      rw [hu] at this
      exact (Option.some.inj this).symm
    have ey : x2 = u2 := by
      have : its2[i]? = some x2 := by simpa using y2
      rw [hu2] at this
      exact (Option.some.inj this).symm
    subst ex ey
    refine ⟨_, rfl, wpAny_letOwnedTupleGo_zip (s := { s with heap := h', toks := tk }) z' fun h'' z'' sb => ?_⟩
    have hT2 : h''.get? s.heap.objs.size = some { cls := .type "tuple", data := .seq #[x1, x2] } := (sb.2 _ (Nat.ne_of_gt hzl)).trans hT
    have new : ObjOk X.prog X.w (upd H s.heap.objs.size (.tup [x, y])) h'' s.heap.objs.size (.tup [x, y]) :=
      ⟨by show 2 ≤ sizeLine; decide, [x1, x2], .cons ru (.cons ru2 .nil), ⟨_, hT2, rfl, _, rfl⟩⟩
    have I1 : Inv X pins σ (upd H s.heap.objs.size (.tup [x, y])) { s with heap := h'', toks := tk } :=
      I.turnedNew (ch := [z, TI, TO, i1, i2]) (fun c o hb q => (sb.2 c (fun q' => hb (by simp [q']))).trans (hk c o (fun q' => hb (by simp [q'])) (fun q' => hb (by simp [q'])) (fun q' => hb (by simp [q'])) (fun q' => hb (by simp [q'])) q)) hf (Nat.le_refl _) new
    refine ⟨.ref s.heap.objs.size, _, I1, rfl, ⟨_, x, y, rfl, I.hok.fresh (Nat.le_refl _), rfl, fun l hl => by rw [injB I hl hqx]; exact hx, fun l hl => by rw [injB I hl hqy]; exact hy⟩, ⟨z'', ?_, ⟨x1, x2, ?_⟩, ?_, ?_⟩, fun c hcm => ?_⟩
    · exact (sb.2 _ S.TIz).trans (hk _ _ S.TIz S.TITO S.TIi1 S.TIi2 hTI)
    · exact (sb.2 _ S.TOz).trans TO'
    · exact b1.1.at fun o q => (sb.2 _ S.zi1.symm).trans q
    · exact b2.1.at fun o q => (sb.2 _ S.zi2.symm).trans q
    · have hlt : c < s.heap.objs.size := by
        have e' : c = z ∨ c = TI ∨ c = TO ∨ c = i1 ∨ c = i2 := by simpa using hcm
        rcases e' with q | q | q | q | q
        · rw [q]; exact hzl
        · rw [q]; exact Heap.lt_size hTI
        · rw [q]; exact Heap.lt_size hTO
        · rw [q]; obtain ⟨_, e1, _⟩ := h1.obj; exact Heap.lt_size e1
        · rw [q]; obtain ⟨_, e2, _⟩ := h2.obj; exact Heap.lt_size e2
      rw [upd_ne (Nat.ne_of_lt hlt)]
      exact (hf c hcm).1
  done := by
    intro X hP hw hK hc i pins s σ H E I hf st hg
    subst hP hw hK
    obtain ⟨hz, hTI, ⟨x0, y0, hTO⟩, h1, h2⟩ := st
    obtain ⟨xs, ys, hqx, hqy, hend⟩ := hg
    obtain ⟨its, rv, p⟩ := seqB I hqx
    obtain ⟨its2, rv2, p2⟩ := seqB I hqy
    have l1 := rv.length
    have l2 := rv2.length
    have D1 := drawsB (prog := X.prog) (w := X.w) (A := X.A.in1) (I.ok.hd hc) t i1 a ai its.toArray
    have D2 := drawsB (prog := X.prog) (w := X.w) (A := X.A.in1) (I.ok.hd hc) u i2 b bi its2.toArray
    exact wpAny_pyNext_zipD2_end S D1 D2 hz hTI hTO ⟨h1, p⟩ ⟨h2, p2⟩ (by simp; omega) (by simp; omega) (by simp; omega) fun h' tk hk => ⟨rfl, I.turnedL (ch := [z, TI, TO, i1, i2]) (fun c o hb q =>
      hk c o (fun q' => hb (by simp [q'])) (fun q' => hb (by simp [q'])) (fun q' => hb (by simp [q'])) (fun q' => hb (by simp [q'])) q) hf⟩
  self := fun A i s Q E st h => wpAny_pyIter_zip st.1 h
def iZipB (K : PySem.W.Frag) (ta : TA) : TI := fun σ H R => ta σ H fun vs H1 => ∃ a b xs ys t u, vs = [.ref a, .ref b] ∧ SqB t K H1 a xs ∧ SqB u K H1 b ys ∧ R (ItzB t u K a b) H1
theorem pi_zipB {X : Cx} {e e2 : Expr} {ta : TA} {p pos tpos : Pos} {elts : List Expr} {kk : Nat} (hg : Gl X "zip") (hm : X.mg "zip" = none) (ha : PA X [e, e2] ta)
    (hs : starEach [e, e2] X.env = (false, eval e X.env) :: starEach [e2] X.env := by rfl) (hpl : (backTo pos (starEach [e2] X.env)).any (·.1) = false := by rfl) :
    PI X (.Tuple elts kk tpos) (.Call (.Name "zip" p) [e, e2] [] pos) (iZipB X.K ta) := by
  refine ⟨fun pins s σ H R I h => ?_⟩
  refine Call_ (ld_blt I hg hm PyProof.Rows.boot_zip (PyProof.Rows.callWith_type1 (thn (ha.run pos pins s σ H _ I h) fun us s1 ⟨vs, H1, I1, r1, q1⟩ => ?_) hs hpl))
  obtain ⟨a, b, xs, ys, t, u, ex, hqx, hqy, q⟩ := q1
  subst ex
  cases r1 with
  | cons r rr =>
    cases rr with
    | cons r' rr =>
      cases rr
      cases r
      cases r'
      have fresh5 : ∀ c, c ∈ [s1.heap.objs.size + 4, s1.heap.objs.size + 2, s1.heap.objs.size + 3, s1.heap.objs.size, s1.heap.objs.size + 1] → FpOk X pins H1 c := fun c hcm => by
        have e' : c = s1.heap.objs.size + 4 ∨ c = s1.heap.objs.size + 2 ∨ c = s1.heap.objs.size + 3 ∨ c = s1.heap.objs.size ∨ c = s1.heap.objs.size + 1 := by simpa using hcm
        have hle : s1.heap.objs.size ≤ c := by
          rcases e' with z | z | z | z | z
          · rw [z]; exact Nat.le_add_right _ _
          · rw [z]; exact Nat.le_add_right _ _
          · rw [z]; exact Nat.le_add_right _ _
          · rw [z]; exact Nat.le_refl _
          · rw [z]; exact Nat.le_add_right _ _
        exact I1.fpOk hle (I1.hok.fresh hle)
      obtain ⟨its, rv, p1⟩ := seqB I1 hqx
      obtain ⟨its2, rv2, p2⟩ := seqB I1 hqy
      refine zip_begins2 (beginB t a its.toArray) (beginB u b its2.toArray) p1 p2 fun h' hz hTI hTO h1 h2 hsz hk => wpAny_pyIter_zip hz ?_
      have I2 : Inv X pins σ H1 { s1 with heap := h' } := I1.kept (t' := s1.toks) hk
      have la := p1.lt
      have lb := p2.lt
      exact ⟨s1.heap.objs.size + 4, [s1.heap.objs.size + 4, s1.heap.objs.size + 2, s1.heap.objs.size + 3, s1.heap.objs.size, s1.heap.objs.size + 1], _, _, H1, rfl, I2, turn_zipB (zip_sep2 (fp1 := [a]) (fp2 := [b]) (by simpa using la) (by simpa using lb)) (Nat.ne_of_lt la) (Nat.ne_of_lt (Nat.lt_succ_of_lt lb)), ⟨hz, hTI, ⟨_, _, hTO⟩, ItB.begin h1, ItB.begin h2⟩, fresh5, q⟩
end L2
namespace Ev
open PySem PySem.Spec PyProof.Rows L2
section
variable {G : Gx} {ec : Nat → Addr} {S : Cs} {C : Fns} {k : Nat} {sx : Sx} {X : Cx} {W : WX} {σ : L2.St} {Q : VK} {P P' : RX} {ev : Env → Mu → R D}
variable {a b c : E} {p q r : Expr} {pos : Pos} {cs : List Addr} {H Hf : Hp} {μ : Mu}
/-- a loose list or none -/
def OkO (o : Option (Addr × List V)) (cs : List Addr) (H : Hp) : Prop := ∀ a vs, o = some (a, vs) → H a = some (.lst vs) ∧ a ∉ cs
theorem OkO.none {cs : List Addr} {H : Hp} : OkO none cs H := fun _ _ z => nomatch z
theorem iter_lists {o : Option (Addr × List V)} {K : PySem.W.Frag} {ds : List D} {a : Addr} {vs : List V} (hr : Reps G cs Hf ds vs) (hk : ∀ cs2 H2 Hf2 μ2, Keeps G o cs Hf cs2 H2 Hf2 μ2 → H2 a = some (.lst vs)) : Iter G o ds cs Hf (Itl K a) := by
  refine ⟨fun H => SqL K H a vs, YAt vs, by rw [hr.len]; exact walk_list, fun cs2 H2 Hf2 μ2 s => .inl (.inl (hk _ _ _ _ s)), ?_⟩
  rintro i x H2 H2' cs2 Hf2 μ2 hi s ⟨rfl, hx⟩
  obtain ⟨w, e1, e2⟩ := (s.reps hr).get (show ds[i]? = some ds[i] by simp [hi])
  rw [hx] at e1
  cases e1
  exact ⟨Hf2, ds[i], s.wl, by simp [hi], e2⟩
theorem iter_list (wl : Well G cs H Hf μ) {K : PySem.W.Frag} {ds : List D} {v : V} (h : Rw G cs H Hf (.lst ds) v) : ∃ a o, v = .ref a ∧ (∃ vs, SqL K H a vs) ∧ OkO o cs H ∧ Iter G o ds cs Hf (Itl K a) := by
  rcases h with h | ⟨es, a, vs, e, e1, h2, h3, h4⟩
  · obtain ⟨a, vs, e, h1, h2⟩ := Rep.lst_iff.mp h
    exact ⟨a, none, e, ⟨vs, .inl (.inl (wl.sub _ _ h1))⟩, OkO.none, iter_lists h2 fun cs2 H2 Hf2 μ2 s => s.wl.sub a _ (s.ext a _ h1)⟩
  · cases e
    exact ⟨a, some (a, vs), e1, ⟨vs, .inl (.inl h2)⟩, fun b ws z => by cases z; exact ⟨h2, h3⟩, iter_lists h4 fun cs2 H2 Hf2 μ2 s => s.at_ a vs rfl⟩
theorem iter_listF (wl : Well G cs H Hf μ) {K : PySem.W.Frag} {ds : List D} {v : V} (h : Rep G cs Hf (.lst ds) v) : ∃ a, v = .ref a ∧ (∃ vs, SqL K H a vs) ∧ Iter G none ds cs Hf (Itl K a) := by
  obtain ⟨a, vs, e, h1, h2⟩ := Rep.lst_iff.mp h
  exact ⟨a, e, ⟨vs, .inl (.inl (wl.sub _ _ h1))⟩, iter_lists h2 fun cs2 H2 Hf2 μ2 s => s.wl.sub a _ (s.ext a _ h1)⟩
theorem iter_tup (wl : Well G cs H Hf μ) {ds : List D} {v : V} (h : Rep G cs Hf (.tup ds) v) : ∃ a, v = .ref a ∧ (∃ vs, SqT G.K H a vs) ∧ Iter G none ds cs Hf (Itt G.K a) := by
  obtain ⟨a, vs, e, h2, hr⟩ := Rep.tup_iff.mp h
  refine ⟨a, e, ⟨vs, Rep.sqT wl.sub h2⟩, fun H => SqT G.K H a vs, YAt vs, by rw [hr.len]; exact walk_tup, fun cs2 H2 Hf2 μ2 s => Rep.sqT s.wl.sub (Rep.sqT s.ext h2), ?_⟩
  rintro i x H2 H2' cs2 Hf2 μ2 hi s ⟨rfl, hx⟩
  obtain ⟨w, e1, e2⟩ := (s.reps hr).get (show ds[i]? = some ds[i] by simp [hi])
  rw [hx] at e1
  cases e1
  exact ⟨Hf2, ds[i], s.wl, by simp [hi], e2⟩
theorem iter_str {x : Str} : Iter G none (x.cps.toList.map fun c => .str ⟨#[c]⟩) cs Hf (Its x) := by
  refine ⟨fun _ => True, _, by rw [List.length_map, Array.length_toList]; exact walk_str, fun _ _ _ _ _ => trivial, ?_⟩
  rintro i y H2 H2' cs2 Hf2 μ2 hi s ⟨rfl, c, hc, rfl⟩
  exact ⟨Hf2, _, s.wl, by rw [List.getElem?_map, Array.getElem?_toList, hc]; rfl, Rep.str_iff.mpr rfl⟩
theorem iter_rng {lo : Int} {n : Nat} : Iter G none ((List.range n).map fun i => .int (lo + (i : Nat))) cs Hf (Itr lo n) := by
  refine ⟨fun _ => True, _, by rw [List.length_map, List.length_range]; exact walk_range, fun _ _ _ _ _ => trivial, ?_⟩
  rintro i y H2 H2' cs2 Hf2 μ2 hi s ⟨rfl, rfl⟩
  rw [List.length_map, List.length_range] at hi
  exact ⟨Hf2, .int (lo + (i : Nat)), s.wl, by simp [hi], Rep.int_iff.mpr rfl⟩
theorem zip2_get : ∀ {xs ys : List D} {i : Nat} {x y : D}, xs[i]? = some x → ys[i]? = some y → (zip2 xs ys)[i]? = some (.tup [x, y])
  | [], _, i, _, _, h, _ => by simp at h
  | _ :: _, [], i, _, _, _, h => by simp at h
  | x :: xs, y :: ys, 0, _, _, h1, h2 => by simp at h1 h2; subst h1 h2; rfl
  | x :: xs, y :: ys, i + 1, _, _, h1, h2 => by
    simp at h1 h2
    show (zip2 xs ys)[i]? = _
    exact zip2_get h1 h2
theorem zip2_len : ∀ {xs ys : List D}, (zip2 xs ys).length = min xs.length ys.length
  | [], ys => by simp [zip2]
  | x :: xs, [] => by simp [zip2]
  | x :: xs, y :: ys => by simp only [zip2, List.length_cons, zip2_len]; omega
theorem enum2_get : ∀ {xs : List D} {n : Int} {i : Nat} {x : D}, xs[i]? = some x → (enum2 xs n)[i]? = some (.tup [.int (n + i), x])
  | [], _, i, _, h => by simp at h
  | x :: xs, n, 0, _, h => by simp at h; subst h; simp [enum2]
  | x :: xs, n, i + 1, _, h => by
    simp at h
    show (enum2 xs (n + 1))[i]? = _
    rw [enum2_get h]
    have e : n + 1 + (i : Int) = n + ((i + 1 : Nat) : Int) := by omega
    rw [e]
theorem enum2_len : ∀ {xs : List D} {n : Int}, (enum2 xs n).length = xs.length
  | [], _ => rfl
  | x :: xs, n => by simp only [enum2, List.length_cons, enum2_len]
/-- a new pair at each turn -/
theorem pair_turn {cs2 : List Addr} {H2 Hf2 H2' : Hp} {μ2 : Mu} {v : V} {x y : V} {d e : D} {T : Addr} (wl : Well G cs2 H2 Hf2 μ2) (e1 : v = .ref T) (n : H2 T = none) (e2 : H2' = upd H2 T (.tup [x, y])) (hx : Rep G cs2 Hf2 d x) (hy : Rep G cs2 Hf2 e y) :
    ∃ Hf3, Step G cs2 H2 Hf2 cs2 H2' Hf3 μ2 ∧ Rep G cs2 Hf3 (.tup [d, e]) v := by
  subst e1 e2
  have s := wl.laid n (ntb_tup (vs := [x, y]))
  exact ⟨_, s, Rep.tup_iff.mpr ⟨T, [x, y], rfl, .inl (.inl upd_same), s.reps (Reps.cons hx (Reps.cons hy Reps.nil))⟩⟩
theorem iter_zip {K : PySem.W.Frag} {xs ys : List D} {a b : Addr} {vs ws : List V} (h1 : Reps G cs Hf xs vs) (h2 : Reps G cs Hf ys ws) (e1 : Hf a = some (.lst vs)) (e2 : Hf b = some (.lst ws)) : Iter G none (zip2 xs ys) cs Hf (Itz K a b) := by
  refine ⟨fun H => SqL K H a vs ∧ SqL K H b ws, _, by rw [zip2_len]; exact walk_zip (by rw [h1.len, h2.len]), fun cs2 H2 Hf2 μ2 s => ⟨.inl (.inl (s.wl.sub _ _ (s.ext _ _ e1))), .inl (.inl (s.wl.sub _ _ (s.ext _ _ e2)))⟩, ?_⟩
  rintro i v H2 H2' cs2 Hf2 μ2 hi s ⟨T, x, y, q1, q2, q3, q4, q5⟩
  rw [zip2_len] at hi
  obtain ⟨x', z1, z2⟩ := (s.reps h1).get (show xs[i]? = some (xs[i]'(by omega)) by simp [show i < xs.length by omega])
  obtain ⟨y', z3, z4⟩ := (s.reps h2).get (show ys[i]? = some (ys[i]'(by omega)) by simp [show i < ys.length by omega])
  have q4 : vs[i]? = some x := q4
  have q5 : ws[i]? = some y := q5
  rw [q4] at z1
  rw [q5] at z3
  cases z1
  cases z3
  obtain ⟨Hf3, t1, t2⟩ := pair_turn s.wl q1 q2 q3 z2 z4
  exact ⟨Hf3, _, t1, zip2_get (by simp [show i < xs.length by omega]) (by simp [show i < ys.length by omega]), t2⟩
theorem walk_zipT {K : PySem.W.Frag} {a b : Addr} {xs ys : List V} {n : Nat} (hn : n = min xs.length ys.length) : Walk (RZ.ItzT K a b) n (fun H => SqT K H a xs ∧ SqT K H b ys) (YPair (fun i => xs[i]?) (fun i => ys[i]?)) := by
  subst hn
  refine ⟨fun i _ hi q => ?_, fun _ q => ⟨xs, ys, q.1, q.2, by omega⟩, fun i H v H' _ q y => ?_⟩
  · have h1 : i < xs.length := by omega
    have h2 : i < ys.length := by omega
    exact ⟨xs, ys, xs[i], ys[i], q.1, q.2, by simp [h1], by simp [h2]⟩
  · obtain ⟨T, x, z, h1, h2, h3, h4, h5⟩ := y
    exact ⟨T, x, z, h1, h2, h3, h4 xs q.1, h5 ys q.2⟩
theorem iter_zipT {xs ys : List D} {a b : Addr} {vs ws : List V} (h1 : Reps G cs Hf xs vs) (h2 : Reps G cs Hf ys ws) (e1 : SqT G.K Hf a vs) (e2 : SqT G.K Hf b ws) : Iter G none (zip2 xs ys) cs Hf (RZ.ItzT G.K a b) := by
  refine ⟨fun H => SqT G.K H a vs ∧ SqT G.K H b ws, _, by rw [zip2_len]; exact walk_zipT (by rw [h1.len, h2.len]), fun cs2 H2 Hf2 μ2 s => ⟨Rep.sqT s.wl.sub (Rep.sqT s.ext e1), Rep.sqT s.wl.sub (Rep.sqT s.ext e2)⟩, ?_⟩
  rintro i v H2 H2' cs2 Hf2 μ2 hi s ⟨T, x, y, q1, q2, q3, q4, q5⟩
  rw [zip2_len] at hi
  obtain ⟨x', z1, z2⟩ := (s.reps h1).get (show xs[i]? = some (xs[i]'(by omega)) by simp [show i < xs.length by omega])
  obtain ⟨y', z3, z4⟩ := (s.reps h2).get (show ys[i]? = some (ys[i]'(by omega)) by simp [show i < ys.length by omega])
  have q4 : vs[i]? = some x := q4
  have q5 : ws[i]? = some y := q5
  rw [q4] at z1
  rw [q5] at z3
  cases z1
  cases z3
  obtain ⟨Hf3, t1, t2⟩ := pair_turn s.wl q1 q2 q3 z2 z4
  exact ⟨Hf3, _, t1, zip2_get (by simp [show i < xs.length by omega]) (by simp [show i < ys.length by omega]), t2⟩
theorem iter_enum {K : PySem.W.Frag} {xs : List D} {a : Addr} {vs : List V} (h1 : Reps G cs Hf xs vs) (e1 : Hf a = some (.lst vs)) : Iter G none (enum2 xs 0) cs Hf (Ite K a) := by
  refine ⟨fun H => SqL K H a vs, _, by rw [enum2_len, h1.len]; exact walk_enum, fun cs2 H2 Hf2 μ2 s => .inl (.inl (s.wl.sub _ _ (s.ext _ _ e1))), ?_⟩
  rintro i v H2 H2' cs2 Hf2 μ2 hi s ⟨T, x, y, q1, q2, q3, q4, q5⟩
  rw [enum2_len] at hi
  obtain ⟨x', z1, z2⟩ := (s.reps h1).get (show xs[i]? = some (xs[i]'(by omega)) by simp [show i < xs.length by omega])
  have q5 : vs[i]? = some y := q5
  rw [q5] at z1
  cases z1
  have q4 : some (V.int (i : Nat)) = some x := q4
  cases q4
  obtain ⟨Hf3, t1, t2⟩ := pair_turn s.wl q1 q2 q3 (Rep.int_iff.mpr rfl) z2
  refine ⟨Hf3, _, t1, enum2_get (x := xs[i]) (by simp [hi]), ?_⟩
  rw [Int.zero_add]
  exact t2
theorem iter_enumT {xs : List D} {a : Addr} {vs : List V} (h1 : Reps G cs Hf xs vs) (e1 : SqT G.K Hf a vs) : Iter G none (enum2 xs 0) cs Hf (IteT G.K a) := by
  refine ⟨fun H => SqT G.K H a vs, _, by rw [enum2_len, h1.len]; exact walk_enumT, fun cs2 H2 Hf2 μ2 s => Rep.sqT s.wl.sub (Rep.sqT s.ext e1), ?_⟩
  rintro i v H2 H2' cs2 Hf2 μ2 hi s ⟨T, x, y, q1, q2, q3, q4, q5⟩
  rw [enum2_len] at hi
  obtain ⟨x', z1, z2⟩ := (s.reps h1).get (show xs[i]? = some (xs[i]'(by omega)) by simp [show i < xs.length by omega])
  have q5 : vs[i]? = some y := q5
  rw [q5] at z1
  cases z1
  have q4 : some (V.int (i : Nat)) = some x := q4
  cases q4
  obtain ⟨Hf3, t1, t2⟩ := pair_turn s.wl q1 q2 q3 (Rep.int_iff.mpr rfl) z2
  refine ⟨Hf3, _, t1, enum2_get (x := xs[i]) (by simp [hi]), ?_⟩
  rw [Int.zero_add]
  exact t2
def SqF (G : Gx) : Bool → Hp → Addr → List V → Prop
  | false => fun Hf a vs => Hf a = some (.lst vs)
  | true => fun Hf a vs => SqT G.K Hf a vs
theorem sqF_up {cs2 : List Addr} {H2 Hf2 : Hp} {μ2 : Mu} (s : Keeps G none cs Hf cs2 H2 Hf2 μ2) : ∀ {t : Bool} {a : Addr} {vs : List V}, SqF G t Hf a vs → SqB t G.K H2 a vs
  | false, a, vs, h => .inl (.inl (s.wl.sub _ _ (s.ext _ _ h)))
  | true, a, vs, h => Rep.sqT s.wl.sub (Rep.sqT s.ext h)
theorem sqF_of {H : Hp} (sub : ∀ a o, Hf a = some o → H a = some o) : ∀ {t : Bool} {a : Addr} {vs : List V}, SqF G t Hf a vs → SqB t G.K H a vs
  | false, a, vs, h => .inl (.inl (sub _ _ h))
  | true, a, vs, h => Rep.sqT sub h
theorem iter_zipB {t u : Bool} {xs ys : List D} {a b : Addr} {vs ws : List V} (h1 : Reps G cs Hf xs vs) (h2 : Reps G cs Hf ys ws) (e1 : SqF G t Hf a vs) (e2 : SqF G u Hf b ws) : Iter G none (zip2 xs ys) cs Hf (ItzB t u G.K a b) := by
  refine ⟨fun H => SqB t G.K H a vs ∧ SqB u G.K H b ws, _, by rw [zip2_len]; exact walk_zipB (by rw [h1.len, h2.len]), fun cs2 H2 Hf2 μ2 s => ⟨sqF_up s e1, sqF_up s e2⟩, ?_⟩
  rintro i v H2 H2' cs2 Hf2 μ2 hi s ⟨T, x, y, q1, q2, q3, q4, q5⟩
  rw [zip2_len] at hi
  obtain ⟨x', z1, z2⟩ := (s.reps h1).get (show xs[i]? = some (xs[i]'(by omega)) by simp [show i < xs.length by omega])
  obtain ⟨y', z3, z4⟩ := (s.reps h2).get (show ys[i]? = some (ys[i]'(by omega)) by simp [show i < ys.length by omega])
  have q4 : vs[i]? = some x := q4
  have q5 : ws[i]? = some y := q5
  rw [q4] at z1
  rw [q5] at z3
  cases z1
  cases z3
  obtain ⟨Hf3, t1, t2⟩ := pair_turn s.wl q1 q2 q3 z2 z4
  exact ⟨Hf3, _, t1, zip2_get (by simp [show i < xs.length by omega]) (by simp [show i < ys.length by omega]), t2⟩
abbrev PIt (G : Gx) (ec : Nat → Addr) (C : Fns) (X : Cx) (W : WX) (e : E) (tg p : Expr) : Prop := PI X tg p (tI G ec W (itemsE e) (evE C e))
abbrev PIf (G : Gx) (ec : Nat → Addr) (C : Fns) (X : Cx) (W : WX) (e : E) (tg p : Expr) : Prop := PI X tg p (tIF G ec W (itemsE e) (evE C e))
theorem s_pi (g : Good G ec S C k sx X W) {tg : Expr} (hn : ∀ d, itemsE a d = itemsD d) (ha : PEw G ec C X W a p) : PIt G ec C X W a tg p := by
  refine ((pi_list ha).or ((pi_tup ha).or (pi_str ha))).imp fun σ H Rk h => ?_
  obtain ⟨cs0, H0, Hf0, ρ, μ, cs, Hf, r, h⟩ := h
  cases e : evE C a ρ μ with
  | ok d μ' =>
    rw [e] at h
    obtain ⟨ds, hi, h⟩ := h
    rw [hn] at hi
    cases d with
    | lst xs =>
      cases hi
      refine .inl ⟨cs0, H0, Hf0, ρ, μ, cs, Hf, r, ?_⟩
      rw [e]
      intro v cs' H' Hf' s hv
      obtain ⟨ad, o, e1, e2, e4, e3⟩ := iter_list (K := X.K) s.well hv
      exact ⟨ad, e1, e2, h o _ cs' H' Hf' s e4 e3⟩
    | tup xs =>
      cases hi
      refine .inr (.inl ⟨cs0, H0, Hf0, ρ, μ, cs, Hf, r, ?_⟩)
      rw [e]
      intro v cs' H' Hf' s hv
      obtain ⟨ad, e1, e2, e3⟩ := iter_tup s.well (Rw.st hv fun _ z => nomatch z)
      rw [g.hK]
      exact ⟨ad, e1, e2, h none _ cs' H' Hf' s OkO.none e3⟩
    | str x =>
      cases hi
      refine .inr (.inr ⟨cs0, H0, Hf0, ρ, μ, cs, Hf, r, ?_⟩)
      rw [e]
      intro v cs' H' Hf' s hv
      exact ⟨x, Rw.str hv, h none _ cs' H' Hf' s OkO.none iter_str⟩
    | _ => cases hi
  | ex x μ' =>
    rw [e] at h
    refine .inl ⟨cs0, H0, Hf0, ρ, μ, cs, Hf, r, ?_⟩
    rw [e]
    exact h
  | bad => rw [e] at h; exact h.elim
theorem s_pif (g : Good G ec S C k sx X W) {tg : Expr} (hn : ∀ d, itemsE a d = itemsD d) (ha : PE X p (tE G ec W (evE C a) (Pst G))) : PIf G ec C X W a tg p := by
  refine ((pi_list ha).or ((pi_tup ha).or (pi_str ha))).imp fun σ H Rk h => ?_
  obtain ⟨cs0, H0, Hf0, ρ, μ, cs, Hf, r, h⟩ := h
  cases e : evE C a ρ μ with
  | ok d μ' =>
    rw [e] at h
    obtain ⟨ds, hi, h⟩ := h
    rw [hn] at hi
    cases d with
    | lst xs =>
      cases hi
      refine .inl ⟨cs0, H0, Hf0, ρ, μ, cs, Hf, r, ?_⟩
      rw [e]
      intro v cs' H' Hf' s hv
      obtain ⟨ad, e1, e2, e3⟩ := iter_listF (K := X.K) s.well hv
      exact ⟨ad, e1, e2, h _ cs' H' Hf' s e3⟩
    | tup xs =>
      cases hi
      refine .inr (.inl ⟨cs0, H0, Hf0, ρ, μ, cs, Hf, r, ?_⟩)
      rw [e]
      intro v cs' H' Hf' s hv
      obtain ⟨ad, e1, e2, e3⟩ := iter_tup s.well hv
      rw [g.hK]
      exact ⟨ad, e1, e2, h _ cs' H' Hf' s e3⟩
    | str x =>
      cases hi
      refine .inr (.inr ⟨cs0, H0, Hf0, ρ, μ, cs, Hf, r, ?_⟩)
      rw [e]
      intro v cs' H' Hf' s hv
      exact ⟨x, Rep.str_iff.mp hv, h _ cs' H' Hf' s iter_str⟩
    | _ => cases hi
  | ex x μ' =>
    rw [e] at h
    refine .inl ⟨cs0, H0, Hf0, ρ, μ, cs, Hf, r, ?_⟩
    rw [e]
    exact h
  | bad => rw [e] at h; exact h.elim
theorem s_pi_rng (g : Good G ec S C k sx X W) {tg : Expr} {es : E} {p1 : Pos} {ps : List Expr} (hg : glB sx.sc "range" = true) (hc : es.chk S sx (.a ps) = true) (hl : ps.length = 1 ∨ ps.length = 2) (ha : PA X ps (tAw G ec W (evE C es))) :
    PIf G ec C X W (.rng es) tg (.Call (.Name "range" p1) ps [] pos) := by
  obtain ⟨hgl, hdb⟩ := g.gl hg
  have hm := g.blt "range" (by decide +kernel)
  have hst := chkA_stars hc
  have go : ∀ σ H Rk, tIF G ec W (itemsE (.rng es)) (evE C (.rng es)) σ H Rk → tAw G ec W (evE C es) σ H fun vs H1 => (ps.length = 1 ∧ ∃ j : Int, vs = [.int j] ∧ -(2 ^ 62) ≤ j ∧ j < 2 ^ 62 ∧ Rk (Itr 0 j.toNat) H1) ∨ (ps.length = 2 ∧ ∃ i j : Int, vs = [.int i, .int j] ∧ (-(2 ^ 62) ≤ i ∧ i < 2 ^ 62 ∧ -(2 ^ 62) ≤ j ∧ j < 2 ^ 62) ∧ Rk (Itr i (j - i).toNat) H1) := fun σ H Rk h => by
    obtain ⟨cs0, H0, Hf0, ρ, μ, cs, Hf, r, h⟩ := h
    refine ⟨cs0, H0, Hf0, ρ, μ, cs, Hf, r, ?_⟩
    unfold evE at h
    cases e : evE C es ρ μ with
    | ok d μ' =>
      rw [e] at h
      obtain ⟨ds, rfl⟩ := evE_tup hc e
      have hlen := evE_len hc e
      intro vs cs' H' Hf' s hv
      simp only [R.bind_ok] at h
      split at h
      · rename_i e2
        split at e2
        · rename_i hi hh
          cases hh
          split at e2
          · rename_i hb
            cases e2
            obtain ⟨ds', hds, h⟩ := h
            cases hds
            obtain ⟨v, rfl, hx⟩ := hv.one
            refine .inl ⟨hlen.symm, hi, by rw [hx.int], hb.1, hb.2, h _ cs' H' Hf' s ?_⟩
            have e3 : rngL 0 hi = (List.range hi.toNat).map fun i => D.int (0 + (i : Nat)) := by unfold rngL; rw [Int.sub_zero]
            rw [e3]
            exact iter_rng
          · cases e2
        · rename_i lo hi hh
          cases hh
          split at e2
          · rename_i hb
            cases e2
            obtain ⟨ds', hds, h⟩ := h
            cases hds
            obtain ⟨v, w, rfl, hx, hy⟩ := hv.two
            exact .inr ⟨hlen.symm, lo, hi, by rw [hx.int, hy.int], hb, h _ cs' H' Hf' s iter_rng⟩
          · cases e2
        · cases e2
      · rename_i e2
        split at e2
        · split at e2 <;> cases e2
        · split at e2 <;> cases e2
        · cases e2
      · exact h.elim
    | ex x μ' => rw [e] at h; exact h
    | bad => rw [e] at h; exact h
  match ps, hl, hst, ha, go with
  | [p1], _, hst, ha, go =>
    unfold noStars at hst
    simp only [Bool.and_eq_true, Bool.not_eq_true'] at hst
    refine (pi_range1 hgl hm ha (star_cons hst.1)).imp fun σ H Rk h => ?_
    obtain ⟨cs0, H0, Hf0, ρ, μ, cs, Hf, r, h⟩ := go σ H Rk h
    refine ⟨cs0, H0, Hf0, ρ, μ, cs, Hf, r, h.mono fun vs H1 h1 => ?_⟩
    rcases h1 with ⟨_, h1⟩ | ⟨z, _⟩
    · exact h1
    · cases z
  | [p1, p2], _, hst, ha, go =>
    unfold noStars noStars at hst
    simp only [Bool.and_eq_true, Bool.not_eq_true'] at hst
    refine (pi_range2 hgl hm ha ((star_cons hst.1).trans (by rw [star_cons hst.2.1]; rfl)) (star_cons hst.2.1)).imp fun σ H Rk h => ?_
    obtain ⟨cs0, H0, Hf0, ρ, μ, cs, Hf, r, h⟩ := go σ H Rk h
    refine ⟨cs0, H0, Hf0, ρ, μ, cs, Hf, r, h.mono fun vs H1 h1 => ?_⟩
    rcases h1 with ⟨z, _⟩ | ⟨_, h1⟩
    · cases z
    · exact h1
theorem s_pi_enum (g : Good G ec S C k sx X W) {p1 : Pos} {elts : List Expr} {kk : Nat} {tpos : Pos} (hg : glB sx.sc "enumerate" = true) (hs : isStar p = false) (ha : PE X p (tE G ec W (evE C a) (Pst G))) :
    PIf G ec C X W (.enm a) (.Tuple elts kk tpos) (.Call (.Name "enumerate" p1) [p] [] pos) := by
  obtain ⟨hgl, hdb⟩ := g.gl hg
  refine (pi_enumA hgl (g.blt _ (by decide +kernel)) (pa_cons ha pa_nil (star_cons hs)) (star_cons hs)).imp fun σ H Rk h => ?_
  obtain ⟨cs0, H0, Hf0, ρ, μ, cs, Hf, r, h⟩ := h
  refine ⟨cs0, H0, Hf0, ρ, μ, cs, Hf, r, ?_⟩
  unfold evE at h
  cases e : evE C a ρ μ with
  | ok d μ' =>
    rw [e] at h
    intro v cs' H' Hf' s hv
    cases d with
    | lst xs =>
      obtain ⟨ds, hi, h⟩ := h
      cases hi
      obtain ⟨ad, vs, e1, e2, e3⟩ := Rep.lst_iff.mp hv
      exact ⟨ad, vs, by rw [e1], .inl ⟨.inl (.inl (s.sub _ _ e2)), h _ cs' H' Hf' s (iter_enum e3 e2)⟩⟩
    | tup xs =>
      obtain ⟨ds, hi, h⟩ := h
      cases hi
      obtain ⟨ad, vs, e1, e2, e3⟩ := Rep.tup_iff.mp hv
      rw [g.hK]
      exact ⟨ad, vs, by rw [e1], .inr ⟨Rep.sqT s.sub e2, h _ cs' H' Hf' s (iter_enumT e3 e2)⟩⟩
    | _ => exact h.elim
  | ex x μ' => rw [e] at h; exact h
  | bad => rw [e] at h; exact h.elim
theorem s_pi_zip (g : Good G ec S C k sx X W) {p1 : Pos} {es : E} {elts : List Expr} {kk : Nat} {tpos : Pos} (hg : glB sx.sc "zip" = true) (hc : es.chk S sx (.a [p, q]) = true) (ha : PA X [p, q] (tA G ec W (evE C es))) :
    PIf G ec C X W (.zip es) (.Tuple elts kk tpos) (.Call (.Name "zip" p1) [p, q] [] pos) := by
  obtain ⟨hgl, hdb⟩ := g.gl hg
  have hst := chkA_stars hc
  have hst' : noStars [p, q] = true := hst
  unfold noStars at hst'
  simp only [Bool.and_eq_true, Bool.not_eq_true'] at hst'
  refine (pi_zipB hgl (g.blt _ (by decide +kernel)) ha (star_cons hst'.1) (plain_args hst'.2)).imp fun σ H Rk h => ?_
  obtain ⟨cs0, H0, Hf0, ρ, μ, cs, Hf, r, h⟩ := h
  refine ⟨cs0, H0, Hf0, ρ, μ, cs, Hf, r, ?_⟩
  unfold evE at h
  cases e : evE C es ρ μ with
  | ok d μ' =>
    rw [e] at h
    obtain ⟨ds, rfl⟩ := evE_tup hc e
    intro vs cs' H' Hf' s hv
    simp only [R.bind_ok] at h
    split at h
    · rename_i e2
      split at e2
      · rename_i xs ys hh
        cases hh
        cases e2
        obtain ⟨ds', hds, h⟩ := h
        cases hds
        obtain ⟨v, r1, rfl, hx, hr⟩ := Reps.cons_iff.mp hv
        obtain ⟨w, r2, rfl, hy, hr⟩ := Reps.cons_iff.mp hr
        cases Reps.nil_iff.mp hr
        obtain ⟨a1, vs, e1, e2, e3⟩ := Rep.lst_iff.mp hx
        obtain ⟨a2, ws, e4, e5, e6⟩ := Rep.lst_iff.mp hy
        rw [g.hK]
        have f1 : SqF G false Hf' a1 vs := e2
        have f2 : SqF G false Hf' a2 ws := e5
        exact ⟨a1, a2, vs, ws, false, false, by rw [e1, e4], sqF_of s.sub f1, sqF_of s.sub f2, h _ cs' H' Hf' s (iter_zipB e3 e6 f1 f2)⟩
      · rename_i xs ys hh
        cases hh
        cases e2
        obtain ⟨ds', hds, h⟩ := h
        cases hds
        obtain ⟨v, r1, rfl, hx, hr⟩ := Reps.cons_iff.mp hv
        obtain ⟨w, r2, rfl, hy, hr⟩ := Reps.cons_iff.mp hr
        cases Reps.nil_iff.mp hr
        obtain ⟨a1, vs, e1, e2, e3⟩ := Rep.tup_iff.mp hx
        obtain ⟨a2, ws, e4, e5, e6⟩ := Rep.tup_iff.mp hy
        rw [g.hK]
        have f1 : SqF G true Hf' a1 vs := e2
        have f2 : SqF G true Hf' a2 ws := e5
        exact ⟨a1, a2, vs, ws, true, true, by rw [e1, e4], sqF_of s.sub f1, sqF_of s.sub f2, h _ cs' H' Hf' s (iter_zipB e3 e6 f1 f2)⟩
      · rename_i xs ys hh
        cases hh
        cases e2
        obtain ⟨ds', hds, h⟩ := h
        cases hds
        obtain ⟨v, r1, rfl, hx, hr⟩ := Reps.cons_iff.mp hv
        obtain ⟨w, r2, rfl, hy, hr⟩ := Reps.cons_iff.mp hr
        cases Reps.nil_iff.mp hr
        obtain ⟨a1, vs, e1, e2, e3⟩ := Rep.lst_iff.mp hx
        obtain ⟨a2, ws, e4, e5, e6⟩ := Rep.tup_iff.mp hy
        rw [g.hK]
        have f1 : SqF G false Hf' a1 vs := e2
        have f2 : SqF G true Hf' a2 ws := e5
        exact ⟨a1, a2, vs, ws, false, true, by rw [e1, e4], sqF_of s.sub f1, sqF_of s.sub f2, h _ cs' H' Hf' s (iter_zipB e3 e6 f1 f2)⟩
      · rename_i xs ys hh
        cases hh
        cases e2
        obtain ⟨ds', hds, h⟩ := h
        cases hds
        obtain ⟨v, r1, rfl, hx, hr⟩ := Reps.cons_iff.mp hv
        obtain ⟨w, r2, rfl, hy, hr⟩ := Reps.cons_iff.mp hr
        cases Reps.nil_iff.mp hr
        obtain ⟨a1, vs, e1, e2, e3⟩ := Rep.tup_iff.mp hx
        obtain ⟨a2, ws, e4, e5, e6⟩ := Rep.lst_iff.mp hy
        rw [g.hK]
        have f1 : SqF G true Hf' a1 vs := e2
        have f2 : SqF G false Hf' a2 ws := e5
        exact ⟨a1, a2, vs, ws, true, false, by rw [e1, e4], sqF_of s.sub f1, sqF_of s.sub f2, h _ cs' H' Hf' s (iter_zipB e3 e6 f1 f2)⟩
      · cases e2
    · rename_i e2
      split at e2 <;> cases e2
    · exact h.elim
  | ex x μ' => rw [e] at h; exact h
  | bad => rw [e] at h; exact h
end
end Ev
end

section
set_option Elab.async false
set_option linter.all false
set_option maxRecDepth 100000
set_option maxHeartbeats 2000000
namespace Ev
open PySem PySem.Spec PyProof.Rows L2
section
variable {G : Gx} {ec : Nat → Addr} {S : Cs} {C : Fns} {k : Nat} {sx : Sx} {X : Cx} {W : WX} {σ : L2.St} {Q : VK} {P P' : RX} {ev : Env → Mu → R D}
variable {a b c : E} {p q r : Expr} {pos : Pos} {cs cs0 : List Addr} {H Hf H0 Hf0 : Hp} {μ : Mu} {ρ : Env}
theorem get_set {α : Type} (l : List α) (i j : Nat) (x : α) : (l.set i x)[j]? = if i = j ∧ j < l.length then some x else l[j]? := by
  by_cases e : i = j
  · subst e
    by_cases h : i < l.length
    · rw [if_pos ⟨rfl, h⟩, List.getElem?_set_self h]
    · rw [if_neg (fun z => h z.2), List.getElem?_eq_none (by simpa using h), List.getElem?_eq_none (by simpa using h)]
  · rw [if_neg (fun z => e z.1), List.getElem?_set_ne e]
theorem Rel.set (r : Rel G cs0 H0 Hf0 ρ μ cs σ H Hf) {i : Nat} {d : D} {v : V} (h : Rep G cs Hf d v) : Rel G cs0 H0 Hf0 (ρ.set i (.sh d)) μ cs (σ.set i (some v)) H Hf := by
  refine ⟨r.st, by simp [r.len], fun j s e => ?_, fun j l s t a e1 e2 o1 o2 q1 q2 => ?_⟩
  · rw [get_set] at e ⊢
    rw [← r.len]
    split at e
    · rename_i hh
      cases e
      rw [if_pos hh]
      exact ⟨v, rfl, h⟩
    · rename_i hh
      rw [if_neg hh]
      exact r.slot j s e
  · rw [get_set] at e1 e2 q1 q2
    rw [← r.len] at q1 q2
    split at e1
    · cases e1; cases o1
    · rename_i h1
      rw [if_neg h1] at q1
      split at e2
      · cases e2; cases o2
      · rename_i h2
        rw [if_neg h2] at q2
        exact r.apart j l s t a e1 e2 o1 o2 q1 q2
def tG (G : Gx) (t : Tg) : TG := fun v σ H Q => ∃ cs0 H0 Hf0 ρ μ cs Hf d ρ', Rel G cs0 H0 Hf0 ρ μ cs σ H Hf ∧ Rep G cs Hf d v ∧ setTg t d ρ = some ρ' ∧ ∀ σ', Rel G cs0 H0 Hf0 ρ' μ cs σ' H Hf → (∀ i, i ∉ t.slots → σ'[i]? = σ[i]?) → σ'.length = σ.length → Q σ' H
def tGs (G : Gx) (t : Tg) : TGs := fun vs σ H Q => ∃ cs0 H0 Hf0 ρ μ cs Hf ds ρ', Rel G cs0 H0 Hf0 ρ μ cs σ H Hf ∧ Reps G cs Hf ds vs ∧ setTg t (.tup ds) ρ = some ρ' ∧ ∀ σ', Rel G cs0 H0 Hf0 ρ' μ cs σ' H Hf → (∀ i, i ∉ t.slots → σ'[i]? = σ[i]?) → σ'.length = σ.length → Q σ' H
theorem asg_cons {e : Expr} {es : List Expr} {env : PySem.Env} (h : isStar e = false) : assignEach (e :: es) env = (false, assign e env) :: assignEach es env := by
  cases e <;> first | rfl | cases h
theorem asg_facts {env : PySem.Env} : ∀ {es : List Expr}, noStars es = true → (assignEach es env).length = es.length ∧ (assignEach es env).findIdx? (·.1) = none
  | [], _ => ⟨rfl, rfl⟩
  | e :: es, h => by
    unfold noStars at h
    simp only [Bool.and_eq_true, Bool.not_eq_true'] at h
    obtain ⟨h1, h2⟩ := asg_facts (es := es) (env := env) h.2
    rw [asg_cons h.1]
    refine ⟨by simp [h1], ?_⟩
    rw [List.findIdx?_cons]
    simp [h2]
theorem PGs.imp {ts : List Expr} {g g' : TGs} (h : PGs X ts g) (k : ∀ v σ H Q, g' v σ H Q → g v σ H Q) : PGs X ts g' := ⟨fun pins s σ H v u Q I r q => h.run pins s σ H v u Q I r (k v σ H Q q)⟩
theorem tg_stars : ∀ {t : Tg} {ps : List Expr}, t.chk S sx (.inr ps) = true → noStars ps = true
  | .name _, ps, h => by cases h
  | .tup _, ps, h => by cases h
  | .nil, [], _ => rfl
  | .nil, _ :: _, h => by cases h
  | .cons _ _, [], h => by cases h
  | .cons hd tl, p :: ps, h => by
    have h : (!isStar p && hd.chk S sx (.inl p) && tl.chk S sx (.inr ps)) = true := h
    simp only [Bool.and_eq_true] at h
    show (!isStar p && noStars ps) = true
    rw [tg_stars h.2, Bool.and_eq_true]
    exact ⟨h.1.1, rfl⟩
theorem tg_len : ∀ {t : Tg} {ps : List Expr} {ds : List D} {ρ ρ' : Env}, t.chk S sx (.inr ps) = true → setTg t (.tup ds) ρ = some ρ' → ds.length = ps.length
  | .name _, ps, _, _, _, h, _ => by cases h
  | .tup _, ps, _, _, _, h, _ => by cases h
  | .nil, [], [], _, _, _, _ => rfl
  | .nil, [], _ :: _, _, _, _, h => by cases h
  | .nil, _ :: _, _, _, _, h, _ => by cases h
  | .cons _ _, [], _, _, _, h, _ => by cases h
  | .cons _ _, _ :: _, [], _, _, _, h => by cases h
  | .cons hd tl, p :: ps, d :: ds, ρ, ρ', h, e => by
    have h : (!isStar p && hd.chk S sx (.inl p) && tl.chk S sx (.inr ps)) = true := h
    simp only [Bool.and_eq_true] at h
    have e : (setTg hd d ρ).bind (fun ρ' => setTg tl (.tup ds) ρ') = some ρ' := e
    cases e1 : setTg hd d ρ with
    | none => rw [e1] at e; cases e
    | some ρ1 =>
      rw [e1] at e
      rw [List.length_cons, List.length_cons, tg_len h.2 e]
theorem s_tg (g : Good G ec S C k sx X W) : ∀ t : Tg, (∀ p, t.chk S sx (.inl p) = true → PG X p (tG G t)) ∧ (∀ ps, t.chk S sx (.inr ps) = true → PGs X ps (tGs G t)) := by
  intro t
  induction t with
  | name i =>
    refine ⟨fun p h => ?_, fun ps h => by cases h⟩
    cases p <;> first | cases h | skip
    rename_i x pos
    have h : (decide (S.N[i]? = some x) && (decide (sx.sc.names.lookup x = some .local) || (decide (sx.sc.names.lookup x = some .cell) && sx.fx x))) = true := h
    simp only [Bool.and_eq_true, Bool.or_eq_true, decide_eq_true_eq] at h
    obtain ⟨h1, h2⟩ := h
    refine (pg_name (i := i) g.nd (by rw [g.hN]; exact h1) ?_ ?_).imp fun v σ H Q hq => ?_
    · rw [g.sc]
      rcases h2 with h2 | h2
      · exact .inl h2
      · exact .inr h2.1
    · rcases h2 with h2 | h2
      · exact .inr (by rw [g.sc]; exact h2)
      · exact .inl (g.fx x h2.2)
    · obtain ⟨cs0, H0, Hf0, ρ, μ, cs, Hf, d, ρ', r, hr, e, hq⟩ := hq
      cases e
      exact hq _ (r.set hr) (fun j hj => by
        have hj : i ≠ j := fun z => hj (by simp [Tg.slots, z])
        rw [List.getElem?_set_ne hj]) (by simp)
  | tup t ih =>
    refine ⟨fun p h => ?_, fun ps h => by cases h⟩
    cases p <;> first | cases h | skip
    rename_i ps kk pos
    have h : (t.chk S sx (.inr ps) && !sx.hot) = true := h
    rw [Bool.and_eq_true, Bool.not_eq_true'] at h
    obtain ⟨h, hh⟩ := h
    have hst := tg_stars h
    obtain ⟨f1, f2⟩ := asg_facts (env := X.env) hst
    have pgs := ih.2 ps h
    refine ((pg_tup (g.calm hh) pgs f1 f2).or (pg_lst (g.calm hh) pgs f1 f2)).imp fun v σ H Q hq => ?_
    obtain ⟨cs0, H0, Hf0, ρ, μ, cs, Hf, d, ρ', r, hr, e, hq⟩ := hq
    cases d with
    | tup ds =>
      obtain ⟨ad, vs, e1, e2, e3⟩ := Rep.tup_iff.mp hr
      have e : setTg t (.tup ds) ρ = some ρ' := e
      refine .inl ⟨ad, vs, e1, ?_, by rw [← e3.len, tg_len h e], cs0, H0, Hf0, ρ, μ, cs, Hf, ds, ρ', r, e3, e, hq⟩
      rw [g.hK]
      exact Rep.sqT r.well.sub e2
    | lst ds =>
      obtain ⟨ad, vs, e1, e2, e3⟩ := Rep.lst_iff.mp hr
      have e : setTg t (.tup ds) ρ = some ρ' := e
      exact .inr ⟨ad, vs, e1, .inl (.inl (r.well.sub _ _ e2)), by rw [← e3.len, tg_len h e], cs0, H0, Hf0, ρ, μ, cs, Hf, ds, ρ', r, e3, e, hq⟩
    | _ => cases e
  | nil =>
    refine ⟨fun p h => (by cases h), fun ps h => ?_⟩
    cases ps with
    | cons p ps => cases h
    | nil =>
      refine PGs.imp pgs_nil fun vs σ H Q hq => ?_
      obtain ⟨cs0, H0, Hf0, ρ, μ, cs, Hf, ds, ρ', r, hr, e, hq⟩ := hq
      cases ds with
      | cons d ds => cases e
      | nil =>
        cases e
        exact ⟨Reps.nil_iff.mp hr, hq σ r (fun _ _ => rfl) rfl⟩
  | cons hd tl ih1 ih2 =>
    refine ⟨fun p h => (by cases h), fun ps h => ?_⟩
    cases ps with
    | nil => cases h
    | cons p ps =>
      have h : (!isStar p && hd.chk S sx (.inl p) && tl.chk S sx (.inr ps)) = true := h
      simp only [Bool.and_eq_true, Bool.not_eq_true'] at h
      obtain ⟨⟨h1, h2⟩, h3⟩ := h
      refine PGs.imp (pgs_cons (ih1.1 p h2) (ih2.2 ps h3) (by rw [asg_cons h1]; rfl)) fun vs σ H Q hq => ?_
      obtain ⟨cs0, H0, Hf0, ρ, μ, cs, Hf, ds, ρ', r, hr, e, hq⟩ := hq
      cases ds with
      | nil => cases e
      | cons d ds =>
        have e : (setTg hd d ρ).bind (fun ρ' => setTg tl (.tup ds) ρ') = some ρ' := e
        obtain ⟨v, vs', e1, e2, e3⟩ := Reps.cons_iff.mp hr
        cases e4 : setTg hd d ρ with
        | none => rw [e4] at e; cases e
        | some ρ1 =>
          rw [e4] at e
          have e : setTg tl (.tup ds) ρ1 = some ρ' := e
          refine ⟨v, vs', e1, cs0, H0, Hf0, ρ, μ, cs, Hf, d, ρ1, r, e2, e4, fun σ1 r1 o1 l1 => ⟨cs0, H0, Hf0, ρ1, μ, cs, Hf, ds, ρ', r1, e3, e, fun σ2 r2 o2 l2 => hq σ2 r2 (fun i hi => ?_) (l2.trans l1)⟩⟩
          have hi' : i ∉ hd.slots ++ tl.slots := hi
          rw [List.mem_append] at hi'
          rw [o2 i (fun z => hi' (.inr z)), o1 i (fun z => hi' (.inl z))]
theorem wipe_in {i : Nat} : ∀ {vs : List Nat} {σ : L2.St}, i ∈ vs → i < σ.length → (wipe σ vs)[i]? = some none
  | [], _, h, _ => by cases h
  | v :: vs, σ, h, hl => by
    unfold wipe
    rw [get_set]
    split
    · rfl
    · rename_i hn
      rcases List.mem_cons.mp h with e | e
      · exact absurd ⟨e.symm, by rw [wipe_length]; exact hl⟩ hn
      · exact wipe_in e hl
theorem wipe_same {vs : List Nat} {σ σ' : L2.St} (hl : σ'.length = σ.length) (h : ∀ i, i ∉ vs → σ'[i]? = σ[i]?) : wipe σ' vs = wipe σ vs := by
  apply List.ext_getElem?
  intro i
  by_cases hi : i ∈ vs
  · by_cases hb : i < σ.length
    · rw [wipe_in hi (by rw [hl]; exact hb), wipe_in hi hb]
    · rw [List.getElem?_eq_none (by rw [wipe_length, hl]; omega), List.getElem?_eq_none (by rw [wipe_length]; omega)]
  · rw [wipe_out hi, wipe_out hi, h i hi]
theorem wipe_wipe (vs : List Nat) (σ : L2.St) : wipe (wipe σ vs) vs = wipe σ vs := wipe_same (wipe_length σ vs) fun i hi => wipe_out hi
/-- a slot forgotten -/
theorem Rel.unset (r : Rel G cs0 H0 Hf0 ρ μ cs σ H Hf) {i : Nat} : Rel G cs0 H0 Hf0 (ρ.set i .un) μ cs (σ.set i none) H Hf := by
  refine ⟨r.st, by simp [r.len], fun j s e => ?_, fun j l s t a e1 e2 o1 o2 q1 q2 => ?_⟩
  · rw [get_set] at e ⊢
    rw [← r.len]
    split at e
    · rename_i hh
      cases e
      trivial
    · rename_i hh
      rw [if_neg hh]
      exact r.slot j s e
  · rw [get_set] at e1 e2 q1 q2
    rw [← r.len] at q1 q2
    split at e1
    · cases e1; cases o1
    · rename_i h1
      rw [if_neg h1] at q1
      split at e2
      · cases e2; cases o2
      · rename_i h2
        rw [if_neg h2] at q2
        exact r.apart j l s t a e1 e2 o1 o2 q1 q2
theorem Rel.wipe (r : Rel G cs0 H0 Hf0 ρ μ cs σ H Hf) : ∀ vs : List Nat, Rel G cs0 H0 Hf0 (wipeE ρ vs) μ cs (L2.wipe σ vs) H Hf
  | [] => r
  | v :: vs => (Rel.wipe r vs).unset
/-- a loose list that is new is written -/
theorem Step.wrote {cs' : List Addr} {H' Hf' : Hp} {μ' : Mu} {D : Addr} {o : HO} (s : Step G cs H Hf cs' H' Hf' μ') (n : Fre H D) (nt : ∃ vs, H' D = some (.lst vs)) (hf : Hf' D = none) (hc : D ∉ cs') : Step G cs H Hf cs' (upd H' D o) Hf' μ' := by
  obtain ⟨vs0, nt⟩ := nt
  refine ⟨s.pre, fun a u e h q => ?_, fun a h => ?_, fun a u e => ?_, s.notb, s.ext, s.new, ⟨s.cells.len, s.cells.nd, fun c ds a e1 e2 => ?_⟩, fun p hp => ?_⟩
  · rw [upd_ne (fun z => by rw [z] at e; exact n.no e q)]; exact s.keep a u e h q
  · by_cases e : a = D
    · rw [e]; exact n
    · exact s.fre a (fun u z => h u (by rw [upd_ne e]; exact z))
  · rw [upd_ne (fun z => by rw [z, hf] at e; cases e)]; exact s.sub a u e
  · obtain ⟨vs, q1, q2, q3⟩ := s.cells.at_ c ds a e1 e2
    have hne : a ≠ D := fun z => hc (z ▸ List.mem_of_getElem? e2)
    exact ⟨vs, by rw [upd_ne hne]; exact q1, q2, q3⟩
  · obtain ⟨ps, t1, t2, t3⟩ := s.tabs p hp
    have ne1 : p.1 ≠ D := fun z => by rw [z, nt] at t1; cases t1
    refine ⟨ps, by rw [upd_ne ne1]; exact t1, t2, fun pos cv h => ?_⟩
    obtain ⟨c, h1, h2⟩ := t3 pos cv h
    refine ⟨c, h1, ?_⟩
    have ne2 : c ≠ D := fun z => by rw [z, nt] at h2; cases h2
    rw [upd_ne ne2]; exact h2
end
end Ev
end

section
set_option Elab.async false
set_option linter.all false
set_option maxRecDepth 100000
set_option maxHeartbeats 2000000
namespace Ev
open PySem PySem.Spec PyProof.Rows L2
/-- a turn of a comprehension -/
def turnF (C : Fns) (t : Tg) (elt cond : E) (ρ : Env) (d : D) (μ : Mu) : R (Option D) := match setTg t d (wipeE ρ t.slots) with
  | some ρ' => (evC C cond ρ' μ).bind fun k μ => match k with
    | .bl b => if b = true then (evE C elt ρ' μ).bind fun y μ => .ok (some y) μ else .ok none μ
    | _ => .bad
  | none => .bad
theorem evE_comp (C : Fns) (t : Tg) (it elt cond : E) (ρ : Env) (μ : Mu) : evE C (.comp t it elt cond) ρ μ = (evE C it ρ μ).bind fun x μ => match itemsE it x with
    | some ds => (compL (turnF C t elt cond ρ) ds [] μ).bind fun ys μ => .ok (.lst ys) μ
    | none => .bad := by
  rw [evE]
  congr 1
  funext x μ
  cases itemsE it x with
  | none => rfl
  | some ds =>
    dsimp only
    congr 2
    funext d μ
    unfold turnF
    cases setTg t d (wipeE ρ t.slots) with
    | none => rfl
    | some ρ' => cases cond <;> rfl
theorem compL_ex {f : D → Mu → R (Option D)} {x : Exn} {μ' : Mu} : ∀ {ds : List D} {acc : List D} {μ : Mu}, compL f ds acc μ ≠ .ex x μ'
  | [], acc, μ => fun h => by cases h
  | d :: ds, acc, μ => fun h => by
    unfold compL at h
    split at h
    · split at h
      · exact compL_ex h
      · cases h
    · exact compL_ex h
    · cases h
section
variable {G : Gx} {ec : Nat → Addr} {S : Cs} {C : Fns} {k : Nat} {sx : Sx} {X : Cx} {W : WX} {σ : L2.St} {Q : VK} {P P' : RX} {ev : Env → Mu → R D}
variable {a b c : E} {p q r : Expr} {pos : Pos} {cs cs0 : List Addr} {H Hf H0 Hf0 : Hp} {μ : Mu} {ρ : Env}
theorem Step.loose_at {cs' : List Addr} {H' Hf' : Hp} {μ' : Mu} {D : Addr} {vs : List V} (s : Step G cs H Hf cs' H' Hf' μ') (h : H D = some (.lst vs)) (hf : Hf D = none) (hc : D ∉ cs) : H' D = some (.lst vs) ∧ Hf' D = none ∧ D ∉ cs' := by
  refine ⟨s.keep D _ h hc ntb_lst, ?_, fun z => hc (s.memc z (fun f => f.no h ntb_lst))⟩
  cases q : Hf' D with
  | none => rfl
  | some o =>
    rcases s.new D o q with z | z
    · rw [hf] at z; cases z
    · exact (z.no h ntb_lst).elim
theorem tail_of {ds : List D} {i : Nat} {d : D} (h : ds[i]? = some d) : ds.drop i = d :: ds.drop (i + 1) := by
  have hi : i < ds.length := by
    rcases Nat.lt_or_ge i ds.length with h1 | h1
    · exact h1
    · rw [List.getElem?_eq_none h1] at h; cases h
  rw [List.getElem?_eq_getElem hi] at h
  cases h
  exact List.drop_eq_getElem_cons hi
abbrev W0 : WX := fun _ _ _ _ => False
/-- the walk of a comprehension -/
theorem comp_walk {t : Tg} {elt cond : E} {ds ys : List D} {μ1 μf : Mu} {cs' : List Addr} {H' Hf' : Hp} {J : It} {Dn : Addr} {Qd : Hp → Prop}
    (r : Rel G cs0 H0 Hf0 ρ μ1 cs' σ H' Hf') {o : Option (Addr × List V)} (it : Iter G o ds cs' Hf' J) (ho : OkO o cs' H') (hD : H' Dn = none) (hy : compL (turnF C t elt cond ρ) ds [] μ1 = .ok ys μf)
    (hQ : ∀ cs2 H2 Hf2 vs, Step G cs' H' Hf' cs2 H2 Hf2 μf → H2 Dn = some (.lst vs) → Hf2 Dn = none → Dn ∉ cs2 → Reps G cs2 Hf2 ys vs → Qd H2) :
    ∃ Wf : Nat → Nat → Hp → Prop, (∃ m, Wf 0 m (upd H' Dn (.lst []))) ∧ ∀ i m H, Wf i m H →
      (J.stop i H ∧ Qd H) ∨ (J.go i H ∧ ∃ Nx : Hp → Prop, (∀ H', Nx H' → ∃ m', m' < m ∧ Wf (i + 1) m' H') ∧ ∀ x H', J.yld i H x H' → tG G t x (wipe σ t.slots) H' fun σ2 H2 => wipe σ2 t.slots = wipe σ t.slots ∧ tT G ec W0 (evC C cond) σ2 H2 fun b H3 =>
        if b = true then tE G ec W0 (evE C elt) (Pst G) σ2 H3 fun y H4 => ∃ acc, H4 Dn = some (.lst acc) ∧ acc.length < sizeLine ∧ Nx (upd H4 Dn (.lst (acc ++ [y]))) else Nx H3) := by
  obtain ⟨Gd, Y, hw, hG, hY⟩ := it
  have kp : ∀ {csc : List Addr} {Hc Hfc : Hp} {μc : Mu}, Step G cs' H' Hf' csc Hc Hfc μc → Keeps G o cs' Hf' csc Hc Hfc μc := fun {csc Hc Hfc μc} s => ⟨s.well, s.ext, s.pix, fun a vs e => s.keep a _ (ho a vs e).1 (ho a vs e).2 ntb_lst⟩
  refine lc_it hw (fun i Hc => ∃ csc Hfc μc acc accV, Step G cs' H' Hf' csc Hc Hfc μc ∧ Hc Dn = some (.lst accV) ∧ Hfc Dn = none ∧ Dn ∉ csc ∧ Reps G csc Hfc acc accV ∧ compL (turnF C t elt cond ρ) (ds.drop i) acc μc = .ok ys μf) ?_ ?_ ?_ ?_
  · exact ⟨cs', Hf', μ1, [], [], r.well.loose hD, upd_same, r.well.hf_none (Fre.of hD), r.well.cell_ne (Fre.of hD), Reps.nil, by simpa using hy⟩
  · rintro i Hc hi ⟨csc, Hfc, μc, acc, accV, s, _⟩
    exact hG _ _ _ _ (kp s)
  · rintro i x Hc Hc' hi ⟨csc, Hfc, μc, acc, accV, s, q1, q2, q3, q4, q5⟩ y
    obtain ⟨Hf3, d, s2, e1, hd⟩ := hY i x Hc Hc' csc Hfc μc hi (kp s) y
    rw [tail_of e1] at q5
    unfold compL at q5
    cases e2 : setTg t d (wipeE ρ t.slots) with
    | none => simp only [turnF, e2] at q5; cases q5
    | some ρ' =>
      have l2 := s2.loose_at q1 q2 q3
      refine ⟨cs0, H0, Hf0, wipeE ρ t.slots, μc, csc, Hf3, d, ρ', ((r.step s).step s2).wipe t.slots, hd, e2, fun σ2 r2 o2 ln2 => ⟨?_, ?_⟩⟩
      · rw [← wipe_wipe t.slots σ]
        exact wipe_same ln2 o2
      · refine ⟨cs0, H0, Hf0, ρ', μc, csc, Hf3, r2, ?_⟩
        simp only [turnF, e2] at q5
        cases e3 : evC C cond ρ' μc with
        | ex x μ2 => rw [e3] at q5; simp only [R.bind_ex] at q5; cases q5
        | bad => rw [e3] at q5; simp only [R.bind_bad] at q5; cases q5
        | ok kd μ2 =>
          rw [e3] at q5
          simp only [R.bind_ok] at q5
          cases kd with
          | bl b =>
            intro cs4 H4 Hf4 s4
            have l4 := s4.loose_at l2.1 l2.2.1 l2.2.2
            cases b with
            | false =>
              rw [if_neg (by decide)]
              simp only [Bool.false_eq_true, if_false] at q5
              exact ⟨cs4, Hf4, μ2, acc, accV, (s.trans s2).trans s4, l4.1, l4.2.1, l4.2.2, s4.reps (s2.reps q4), q5⟩
            | true =>
              rw [if_pos rfl]
              simp only [if_true] at q5
              refine ⟨cs0, H0, Hf0, ρ', μ2, cs4, Hf4, r2.step s4, ?_⟩
              cases e5 : evE C elt ρ' μ2 with
              | ex x μ3 => rw [e5] at q5; simp only [R.bind_ex] at q5; cases q5
              | bad => rw [e5] at q5; simp only [R.bind_bad] at q5; cases q5
              | ok yd μ3 =>
                rw [e5] at q5
                simp only [R.bind_ok] at q5
                intro v cs6 H6 Hf6 s6 hv
                have l6 := s6.loose_at l4.1 l4.2.1 l4.2.2
                have ra := s6.reps (s4.reps (s2.reps q4))
                split at q5
                · rename_i hlen
                  have st := ((s.trans s2).trans s4).trans s6
                  refine ⟨accV, l6.1, by rw [← ra.len]; exact hlen, cs6, Hf6, μ3, acc ++ [yd], accV ++ [v], st.wrote (Fre.of hD) ⟨_, l6.1⟩ l6.2.1 l6.2.2, upd_same, l6.2.1, l6.2.2, ra.append (Reps.cons hv Reps.nil), q5⟩
                · cases q5
          | _ => cases q5
  · rintro Hc ⟨csc, Hfc, μc, acc, accV, s, q1, q2, q3, q4, q5⟩
    rw [List.drop_length] at q5
    cases q5
    exact hQ csc Hc Hfc accV s q1 q2 q3 q4
theorem s_compAux {t : Tg} {it elt cond : E} (h : tE G ec W (evE C (.comp t it elt cond)) (Pfr G) σ H Q) : tLc (tI G ec W (itemsE it) (evE C it)) (tG G t) (tT G ec W0 (evC C cond)) (tE G ec W0 (evE C elt) (Pst G)) t.slots σ H Q := by
  obtain ⟨cs0, H0, Hf0, ρ, μ, cs, Hf, r, h⟩ := h
  refine ⟨cs0, H0, Hf0, ρ, μ, cs, Hf, r, ?_⟩
  rw [evE_comp] at h
  cases e : evE C it ρ μ with
  | ok d μ1 =>
    rw [e] at h
    simp only [R.bind_ok] at h
    cases e1 : itemsE it d with
    | none => rw [e1] at h; exact h.elim
    | some ds =>
      rw [e1] at h
      dsimp only at h
      refine ⟨ds, e1, fun o J cs' H' Hf' s ho hi Dn hD => ?_⟩
      cases e2 : compL (turnF C t elt cond ρ) ds [] μ1 with
      | ok ys μf =>
        rw [e2] at h
        refine comp_walk (r.step s) hi ho hD e2 fun cs2 H2 Hf2 vs s2 q1 q2 q3 q4 => ?_
        exact h (.ref Dn) cs2 H2 Hf2 (s.trans s2) ⟨Dn, vs, rfl, none_back s (Fre.of hD), q1, q2, q3, q4⟩
      | ex x μ' => exact absurd e2 compL_ex
      | bad => rw [e2] at h; exact h.elim
  | ex x μ' => rw [e] at h; exact h
  | bad => rw [e] at h; exact h
theorem own_slots {N : List Str} {t : Tg} : (t.own N).map (·.2) = t.slots := by
  unfold Tg.own
  rw [List.map_map]
  exact List.map_id _
/-- no display of a set -/
def noSet : Expr → Bool
  | .Set _ _ _ => false
  | _ => true
theorem fold_none {env : PySem.Env} {x : Value} (h : noSet p = true) : foldedSetIterable p env x = pure x := by
  cases p <;> first | rfl | cases h
theorem s_comp (g : Good G ec S C k sx X W) (hh : sx.hot = false) {t : Tg} {it elt cond : E} {tg ip : Expr} {ifs : List Expr} {scope : Scope} (hi : PIt G ec C X W it tg ip) (ok : blkC S.N sx.sc scope (t.own S.N) = true) (hset : noSet ip = true)
    (ht : t.chk S (sx.blk scope) (.inl tg) = true)
    (hc : ∀ (s : Shared) (H : Hp) (Ca : Addr) (cl : List (Str × Addr)) (fp : List Addr), PTs (X.blk s H scope (compEnvC scope cl Ca X.env) fp) ifs (tT G ec W0 (evC C cond)))
    (he : ∀ (s : Shared) (H : Hp) (Ca : Addr) (cl : List (Str × Addr)) (fp : List Addr), PE (X.blk s H scope (compEnvC scope cl Ca X.env) fp) p (tE G ec W0 (evE C elt) (Pst G))) :
    PE X (.ListComp p [⟨tg, ip, ifs, 0⟩] scope pos) (tE G ec W (evE C (.comp t it elt cond)) (Pfr G)) := by
  have ok' : BlkOk X.N X.env.scope scope (t.own S.N) := by rw [g.hN, g.sc]; exact blkOk_by ok
  refine (pe_lc (g.calm hh) g.nd hi ok' (fun s H Ca cl fp => (s_tg (g.blk hh) t).1 tg ht) hc he (fun x => fold_none hset)).imp fun σ H Q h => ?_
  rw [own_slots]
  exact s_compAux h
end
end Ev
end

section
set_option Elab.async false
set_option linter.all false
set_option maxRecDepth 100000
set_option maxHeartbeats 4000000
namespace Ev
open PySem PySem.Spec PyProof.Rows L2
/-- soundness of a term -/
structure Snd (G : Gx) (ec : Nat → Addr) (S : Cs) (C : Fns) (sx : Sx) (X : Cx) (W : WX) (e : E) : Prop where
  pe : ∀ m p, e.chk S sx m = true → m.x = some p → PE X p (tE G ec W (evE C e) (kd G S e)) ∨ (∃ es, e = .rng es ∨ e = .zip es ∨ e = .enm es)
  pt : ∀ m p, e.chk S sx m = true → m.x = some p → e.okT = true → PT X p (tT G ec W (evE C e)) ∨ (∃ es, e = .rng es ∨ e = .zip es ∨ e = .enm es)
  pw : ∀ op ps pos, e.chk S sx (.e (.BoolOp op ps pos)) = true → e.okT = true → PW X (.BoolOp op ps pos) (tT G ec W (evE C e))
  pa : ∀ ps, e.chk S sx (.a ps) = true → PA X ps (tAw G ec W (evE C e))
  paS : ∀ ps, e.chk S sx (.a ps) = true → e.stA = true → PA X ps (tA G ec W (evE C e))
  pi : ∀ tg p, e.chk S sx (.i tg p) = true → PIt G ec C X W e tg p
  pif : ∀ tg p, e.chk S sx (.i tg p) = true → e.isPk = false → PIf G ec C X W e tg p
section
variable {G : Gx} {ec : Nat → Addr} {S : Cs} {C : Fns} {k : Nat} {sx : Sx} {X : Cx} {W : WX} {a e : E} {p : Expr}
def noIt : E → Bool
  | .rng _ => false
  | .zip _ => false
  | .enm _ => false
  | _ => true
theorem it_e (h : e.chk S sx (.e p) = true) : noIt e = true := by cases e <;> first | rfl | cases h
theorem Snd.w (s : Snd G ec S C sx X W e) {m : Md} (h : e.chk S sx m = true) (hx : m.x = some p) (hn : noIt e = true) : PEw G ec C X W e p := by
  rcases s.pe m p h hx with q | ⟨es, q | q | q⟩
  · exact q.imp fun σ H Q z => z.wk_kd
  · rw [q] at hn; cases hn
  · rw [q] at hn; cases hn
  · rw [q] at hn; cases hn
theorem Snd.we (s : Snd G ec S C sx X W e) (h : e.chk S sx (.e p) = true) : PEw G ec C X W e p := s.w h rfl (it_e h)
theorem Snd.se (s : Snd G ec S C sx X W e) (h : e.chk S sx (.e p) = true) (hp : e.isPk = false) : PE X p (tE G ec W (evE C e) (Pst G)) := by
  rcases s.pe _ p h rfl with q | ⟨es, q | q | q⟩
  · exact q.imp fun σ H Q z => z.st_kd hp
  · rw [q] at h; cases h
  · rw [q] at h; cases h
  · rw [q] at h; cases h
theorem Snd.te (s : Snd G ec S C sx X W e) (h : e.chk S sx (.e p) = true) (ht : e.okT = true) : PTt G ec C X W e p := by
  rcases s.pt _ p h rfl ht with q | ⟨es, q | q | q⟩
  · exact q
  · rw [q] at h; cases h
  · rw [q] at h; cases h
  · rw [q] at h; cases h
/-- all from the expression's own rule, where the term is no list of arguments and nothing to be walked alone -/
theorem Snd.of (g : Good G ec S C k sx X W) (hn : noIt e = true) (hi : ∀ d, itemsE e d = itemsD d) (ha : ∀ ps, e.chk S sx (.a ps) = true → False) (hb : ∀ op ps pos, e.chk S sx (.e (.BoolOp op ps pos)) = true → False)
    (hm : ∀ m p, e.chk S sx m = true → m.x = some p → e.chk S sx (.e p) = true)
    (h : ∀ p, e.chk S sx (.e p) = true → PE X p (tE G ec W (evE C e) (kd G S e))) (ht : ∀ p, e.chk S sx (.e p) = true → e.okT = true → plainT p = true ∨ PT X p (tT G ec W (evE C e))) : Snd G ec S C sx X W e := by
  have w : ∀ p, e.chk S sx (.e p) = true → PEw G ec C X W e p := fun p hc => (h p hc).imp fun σ H Q z => z.wk_kd
  refine ⟨fun m p hc hx => .inl (h p (hm m p hc hx)), fun m p hc hx hT => .inl ?_, fun op ps pos hc => (hb _ _ _ hc).elim, fun ps hc => (ha ps hc).elim, fun ps hc => (ha ps hc).elim, fun tg p hc => ?_, fun tg p hc hp => ?_⟩
  · have hc' := hm m p hc hx
    rcases ht p hc' hT with q | q
    · exact pt_plain (w p hc') q
    · exact q
  · exact s_pi g hi (w p (hm _ p hc rfl))
  · exact s_pif g hi ((h p (hm _ p hc rfl)).imp fun σ H Q z => z.st_kd hp)
theorem Snd.po (s : Snd G ec S C sx X W e) {o : Option Expr} (h : e.chk S sx (.o o) = true) : POt G ec C X W e o := by
  cases o with
  | none => cases e <;> first | exact s_po_none | cases h
  | some p => exact s_po_some (fun z => by rw [z] at h; cases h) (s.w h rfl (by cases e <;> first | rfl | cases h))
theorem tT_nil {σ : L2.St} {H : Hp} {Q : Bool → Hp → Prop} (h : tT G ec W (evC C .nil) σ H Q) : Q true H := by
  obtain ⟨cs0, H0, Hf0, ρ, μ, cs, Hf, r, h⟩ := h
  exact h cs H Hf r.well
theorem Snd.pc (s : Snd G ec S C sx X W e) {ps : List Expr} (h : e.chk S sx (.c ps) = true) (ht : e.okT = true) : PTs X ps (tT G ec W (evC C e)) := by
  match ps, h with
  | [], h =>
    cases e <;> first | cases h | skip
    exact ⟨fun pins s σ H Q I q => pts_nil.run pins s σ H Q I (tT_nil q)⟩
  | [p], h =>
    have hn : noIt e = true := by cases e <;> first | rfl | cases h
    have ev : evC C e = evE C e := by cases e <;> first | rfl | cases h
    rw [ev]
    rcases s.pt _ p h rfl ht with q | ⟨es, q | q | q⟩
    · exact pts_one q
    · rw [q] at hn; cases hn
    · rw [q] at hn; cases hn
    · rw [q] at hn; cases hn
  | _ :: _ :: _, h => cases e <;> cases h
theorem tE.leafF {σ : L2.St} {H : Hp} {Q : VK} {ev : Env → Mu → R D} {d : D} {v : V} (h : tE G ec W ev (Pfr G) σ H Q) (hv : ∀ ρ μ, ev ρ μ = .ok d μ) (hr : ∀ cs H Hf μ, Well G cs H Hf μ → Rep G cs Hf d v) (hn : ∀ ds, d ≠ .lst ds) : Q v H := by
  obtain ⟨cs0, H0, Hf0, ρ, μ, cs, Hf, r, h⟩ := h
  rw [hv] at h
  exact h.flat r.well (hr _ _ _ _ r.well) hn
theorem noSet_of {tg : Expr} (h : e.chk S sx (.i tg p) = true) : noSet p = true := by
  cases p <;> first | rfl | (cases e <;> cases h)
theorem s_dic1 (g : Good G ec S C k sx X W) {i : Nat} {x y : Str} {p1 p2 p3 : Pos} {kd : Nat} (h : varB S sx.sc i x = true) : PE X (.Dict [some (.Constant (.str y) kd p1)] [.Name x p2] p3) (tE G ec W (evE C (.dic [.inr y] (.cons (.var i) .nil))) (Pst G)) := by
  obtain ⟨h1, h2, h3, h4⟩ := g.var h
  refine (pe_disp (pps_cons pe_str (pe_var h1 h2 h3 h4) pps_nil) rfl rfl (by simp) (by simp)).imp fun σ H Q q => ?_
  obtain ⟨cs0, H0, Hf0, ρ, μ, cs, Hf, r, h⟩ := q
  intro p hn
  cases e : ρ[i]? with
  | none => simp only [evE, e, R.bind] at h; exact h.elim
  | some s =>
    cases s with
    | sh d =>
      obtain ⟨v, q1, q2⟩ := r.sh e
      have ev : evE C (.dic [.inr y] (.cons (.var i) .nil)) ρ μ = .ok (.dic [.inr y] [d]) μ := by simp [evE, e, R.bind]
      rw [ev] at h
      have st := r.well.laid hn (ntb_dK (vs := [(.inr y, v)]))
      refine ⟨v, q1, upd_same, [(.inr y, v)], rfl, by simp, ?_⟩
      rw [upd_upd]
      exact h (.ref p) cs _ _ st (Rep.dic_iff.mpr ⟨p, [v], rfl, upd_same, rfl, Reps.cons_iff.mpr ⟨v, [], rfl, st.rep q2, Reps.nil⟩⟩)
    | _ => simp only [evE, e, R.bind] at h; exact h.elim
theorem s_isx (g : Good G ec S C k sx X W) {i c : Nat} {en y : Str} {p1 p2 p3 pos : Pos} (hh : sx.hot = true) (hg : glB sx.sc "isinstance" = true) (hv : varB S sx.sc i en = true) (hy : glB sx.sc y = true) (hc : S.excs.lookup y = some c ∨ (y = "ValueError" ∧ c = 1)) :
    PE X (.Call (.Name "isinstance" p1) [.Name en p2, .Name y p3] [] pos) (tE G ec W (evE C (.isx i c)) (Pst G)) := by
  obtain ⟨hgl, hdb⟩ := g.gl hg
  obtain ⟨hgl2, hdb2⟩ := g.gl hy
  obtain ⟨h1, h2, h3, h4⟩ := g.var hv
  have hm := g.blt "isinstance" (by decide +kernel)
  have key : ∀ σ H Q, tE G ec W (evE C (.isx i c)) (Pst G) σ H Q → tVar i σ H fun v H1 => H1 = H ∧ v = .ref G.xa ∧ (∀ dd, G.xd = some dd → ∃ fs, H dd = some (.xd fs)) ∧ Q (.bl (c == 0 || c == 1 || G.xc == c)) H := fun σ H Q h => by
    obtain ⟨cs0, H0, Hf0, ρ, μ, cs, Hf, r, h⟩ := h
    unfold evE at h
    cases e : ρ[i]? with
    | none => rw [e] at h; exact h.elim
    | some sl =>
      rw [e] at h
      cases sl with
      | exc x =>
        have hs := r.slot i _ e
        refine ⟨_, hs.1, rfl, rfl, fun dd hdd => ?_, ?_⟩
        · cases ea : x.arg with
          | none => rw [hs.2.2.1 ea] at hdd; cases hdd
          | some d =>
            obtain ⟨dd', v, q1, q2, q3⟩ := hs.2.2.2 d ea
            rw [q1] at hdd
            cases hdd
            exact ⟨_, r.well.sub _ _ q2⟩
        have q := h (.bl (c == 0 || c == 1 || x.cls == c)) cs H Hf r.well (Rep.bl_iff.mpr rfl)
        rw [hs.2.1] at q
        exact q
      | _ => exact h.elim
  rcases hc with hc | ⟨hc, hc2⟩
  · have hT : PE X (.Name y p3) (tC (.ref (ec c))) := pe_glob hgl2 (g.exn y c hc) rfl hdb2
    refine (pe_callB (g.hx hh).isx hgl hm rfl (pa_cons (pe_var h1 h2 h3 h4) (pa_cons hT pa_nil) rfl) (by decide +kernel) hdb rfl rfl).imp fun σ H Q h => ?_
    obtain ⟨v, e1, e2, e3, e5, q⟩ := key σ H Q h
    subst e3
    exact ⟨_, e1, c, y, rfl, hc, e5, q⟩
  · subst hc hc2
    have hT : PE X (.Name "ValueError" p3) (tC (.ty "ValueError")) := pe_bltn hgl2 (g.blt _ (by decide +kernel)) rfl rfl (by decide +kernel) hdb2
    refine (pe_callB (g.hx hh).isv hgl hm rfl (pa_cons (pe_var h1 h2 h3 h4) (pa_cons hT pa_nil) rfl) (by decide +kernel) hdb rfl rfl).imp fun σ H Q h => ?_
    obtain ⟨v, e1, e2, e3, e5, q⟩ := key σ H Q h
    subst e3
    have e4 : ((1 : Nat) == 0 || (1 : Nat) == 1 || G.xc == 1) = true := rfl
    rw [e4] at q
    exact ⟨_, e1, rfl, e5, q⟩
theorem s_fld (g : Good G ec S C k sx X W) {i c : Nat} {en f : Str} {p2 pos : Pos} (hh : sx.hot = true) (hv : varB S sx.sc i en = true) (hf : S.fnm.lookup c = some f) : PE X (.Attribute (.Name en p2) f pos) (tE G ec W (evE C (.fld i c)) (Pst G)) := by
  obtain ⟨h1, h2, h3, h4⟩ := g.var hv
  refine ((g.hx hh).fld c f _ i pos hf rfl (pe_var (pos := p2) h1 h2 h3 h4)).imp fun σ H Q h => ?_
  obtain ⟨cs0, H0, Hf0, ρ, μ, cs, Hf, r, h⟩ := h
  unfold evE at h
  cases e : ρ[i]? with
  | none => rw [e] at h; exact h.elim
  | some sl =>
    rw [e] at h
    cases sl with
    | exc x =>
      have hs := r.slot i _ e
      dsimp only at h
      split at h
      · rename_i hxc
        cases ea : x.arg with
        | none => rw [ea] at h; exact h.elim
        | some d =>
          rw [ea] at h
          obtain ⟨dd, v, q1, q2, q3⟩ := hs.2.2.2 d ea
          refine ⟨hs.1, by rw [← hs.2.1]; exact hxc, dd, v, q1, ?_, h v cs H Hf r.well q3⟩
          rw [hxc, g.efn c f hf] at q2
          exact r.well.sub _ _ q2
      · exact h.elim
    | _ => exact h.elim
theorem kd_st (h : e.isPk = false) (h2 : e.fr S.ff = false) : kd G S e = Pst G := by unfold kd; rw [h, h2]; rfl
theorem kd_fr (h : e.isPk = false) (h2 : e.fr S.ff = true) : kd G S e = Pfr G := by unfold kd; rw [h, h2]; rfl
theorem snd : ∀ e : E, ∀ (sx : Sx) (X : Cx) (W : WX), Good G ec S C k sx X W → Snd G ec S C sx X W e := by
  intro e
  induction e with
  | var i =>
    intro sx X W g
    refine Snd.of g rfl (fun _ => rfl) (fun ps h => by cases h) (fun _ _ _ h => by cases h) (fun m p hc hx => by unfold E.chk at hc ⊢; rw [hx] at hc; exact hc) (fun p hc => ?_) (fun p hc hT => ?_)
    · unfold E.chk at hc
      split at hc <;> first | cases hc | skip
      rename_i heq
      obtain rfl := Option.some.inj heq
      rw [kd_st rfl rfl]
      exact s_var g hc
    · exact .inl (by cases p <;> first | rfl | cases hc)
  | pk i =>
    intro sx X W g
    refine Snd.of g rfl (fun _ => rfl) (fun ps h => by cases h) (fun _ _ _ h => by cases h) (fun m p hc hx => by unfold E.chk at hc ⊢; rw [hx] at hc; exact hc) (fun p hc => ?_) (fun p hc hT => ?_)
    · unfold E.chk at hc
      split at hc <;> first | cases hc | skip
      rename_i heq
      obtain rfl := Option.some.inj heq
      exact s_pk g hc
    · exact .inl (by cases p <;> first | rfl | cases hc)
  | int i =>
    intro sx X W g
    refine Snd.of g rfl (fun _ => rfl) (fun ps h => by cases h) (fun _ _ _ h => by cases h) (fun m p hc hx => by unfold E.chk at hc ⊢; rw [hx] at hc; exact hc) (fun p hc => ?_) (fun p hc hT => ?_)
    · unfold E.chk at hc
      split at hc <;> first | cases hc | skip
      rename_i heq
      obtain rfl := Option.some.inj heq
      simp only [Bool.and_eq_true, Bool.or_eq_true, decide_eq_true_eq, Bool.not_eq_true', beq_iff_eq] at hc
      subst hc
      rw [kd_fr rfl rfl]
      exact pe_int.imp fun σ H Q q => q.leafF (fun _ _ => rfl) (fun _ _ _ _ _ => Rep.int_iff.mpr rfl) (fun _ z => nomatch z)
    · exact .inl (by cases p <;> first | rfl | cases hc)
  | bl b =>
    intro sx X W g
    refine Snd.of g rfl (fun _ => rfl) (fun ps h => by cases h) (fun _ _ _ h => by cases h) (fun m p hc hx => by unfold E.chk at hc ⊢; rw [hx] at hc; exact hc) (fun p hc => ?_) (fun p hc hT => ?_)
    · unfold E.chk at hc
      split at hc <;> first | cases hc | skip
      rename_i heq
      obtain rfl := Option.some.inj heq
      simp only [Bool.and_eq_true, Bool.or_eq_true, decide_eq_true_eq, Bool.not_eq_true', beq_iff_eq] at hc
      subst hc
      rw [kd_fr rfl rfl]
      exact pe_bl.imp fun σ H Q q => q.leafF (fun _ _ => rfl) (fun _ _ _ _ _ => Rep.bl_iff.mpr rfl) (fun _ z => nomatch z)
    · exact .inl (by cases p <;> first | rfl | cases hc)
  | non  =>
    intro sx X W g
    refine Snd.of g rfl (fun _ => rfl) (fun ps h => by cases h) (fun _ _ _ h => by cases h) (fun m p hc hx => by unfold E.chk at hc ⊢; rw [hx] at hc; exact hc) (fun p hc => ?_) (fun p hc hT => ?_)
    · unfold E.chk at hc
      split at hc <;> first | cases hc | skip
      rename_i heq
      obtain rfl := Option.some.inj heq
      rw [kd_fr rfl rfl]
      exact pe_non.imp fun σ H Q q => q.leafF (fun _ _ => rfl) (fun _ _ _ _ _ => Rep.non_iff.mpr rfl) (fun _ z => nomatch z)
    · exact .inl (by cases p <;> first | rfl | cases hc)
  | str x =>
    intro sx X W g
    refine Snd.of g rfl (fun _ => rfl) (fun ps h => by cases h) (fun _ _ _ h => by cases h) (fun m p hc hx => by unfold E.chk at hc ⊢; rw [hx] at hc; exact hc) (fun p hc => ?_) (fun p hc hT => ?_)
    · unfold E.chk at hc
      split at hc <;> first | cases hc | skip
      rename_i heq
      obtain rfl := Option.some.inj heq
      simp only [Bool.and_eq_true, Bool.or_eq_true, decide_eq_true_eq, Bool.not_eq_true', beq_iff_eq] at hc
      subst hc
      rw [kd_fr rfl rfl]
      exact pe_str.imp fun σ H Q q => q.leafF (fun _ _ => rfl) (fun _ _ _ _ _ => Rep.str_iff.mpr rfl) (fun _ z => nomatch z)
    · exact .inl (by cases p <;> first | rfl | cases hc)
  | gc c =>
    intro sx X W g
    refine Snd.of g rfl (fun _ => rfl) (fun ps h => by cases h) (fun _ _ _ h => by cases h) (fun m p hc hx => by unfold E.chk at hc ⊢; rw [hx] at hc; exact hc) (fun p hc => ?_) (fun p hc hT => ?_)
    · unfold E.chk at hc
      split at hc <;> first | cases hc | skip
      rename_i heq
      obtain rfl := Option.some.inj heq
      simp only [Bool.and_eq_true, Bool.or_eq_true, decide_eq_true_eq, Bool.not_eq_true', beq_iff_eq] at hc
      rw [kd_st rfl rfl]
      exact s_gc g hc.1 hc.2
    · exact .inl (by cases p <;> first | rfl | cases hc)
  | fnv f =>
    intro sx X W g
    refine Snd.of g rfl (fun _ => rfl) (fun ps h => by cases h) (fun _ _ _ h => by cases h) (fun m p hc hx => by unfold E.chk at hc ⊢; rw [hx] at hc; exact hc) (fun p hc => ?_) (fun p hc hT => ?_)
    · unfold E.chk at hc
      split at hc <;> first | cases hc | skip
      rename_i heq
      obtain rfl := Option.some.inj heq
      simp only [Bool.and_eq_true, Bool.or_eq_true, decide_eq_true_eq, Bool.not_eq_true', beq_iff_eq] at hc
      rw [kd_st rfl rfl]
      exact s_fnv g hc.1 hc.2
    · exact .inl (by cases p <;> first | rfl | cases hc)
  | tup es ih =>
    intro sx X W g
    refine Snd.of g rfl (fun _ => rfl) (fun ps h => by cases h) (fun _ _ _ h => by cases h) (fun m p hc hx => by unfold E.chk at hc ⊢; rw [hx] at hc; exact hc) (fun p hc => ?_) (fun p hc hT => ?_)
    · unfold E.chk at hc
      split at hc <;> first | cases hc | skip
      rename_i heq
      obtain rfl := Option.some.inj heq
      simp only [Bool.and_eq_true, Bool.or_eq_true, decide_eq_true_eq, Bool.not_eq_true', beq_iff_eq] at hc
      rw [kd_fr rfl rfl]
      exact s_tup hc.1.1 hc.2 ((ih sx X W g).paS _ hc.1.1 hc.1.2)
    · exact .inl (by cases p <;> first | rfl | cases hc)
  | lst es ih =>
    intro sx X W g
    refine Snd.of g rfl (fun _ => rfl) (fun ps h => by cases h) (fun _ _ _ h => by cases h) (fun m p hc hx => by unfold E.chk at hc ⊢; rw [hx] at hc; exact hc) (fun p hc => ?_) (fun p hc hT => ?_)
    · unfold E.chk at hc
      split at hc <;> first | cases hc | skip
      rename_i heq
      obtain rfl := Option.some.inj heq
      simp only [Bool.and_eq_true, Bool.or_eq_true, decide_eq_true_eq, Bool.not_eq_true', beq_iff_eq] at hc
      rw [kd_fr rfl rfl]
      exact s_lst hc.1.1 hc.2 ((ih sx X W g).paS _ hc.1.1 hc.1.2)
    · exact .inl (by cases p <;> first | rfl | cases hc)
  | bin op a b iha ihb =>
    intro sx X W g
    refine Snd.of g rfl (fun _ => rfl) (fun ps h => by cases h) (fun _ _ _ h => by cases h) (fun m p hc hx => by unfold E.chk at hc ⊢; rw [hx] at hc; exact hc) (fun p hc => ?_) (fun p hc hT => ?_)
    · unfold E.chk at hc
      split at hc <;> first | cases hc | skip
      rename_i heq
      obtain rfl := Option.some.inj heq
      simp only [Bool.and_eq_true, Bool.or_eq_true, decide_eq_true_eq, Bool.not_eq_true', beq_iff_eq] at hc
      obtain ⟨⟨h1, h2⟩, h3⟩ := hc
      subst h1
      rw [kd_fr rfl rfl]
      exact s_bin g op ((iha sx X W g).we h2) ((ihb sx X W g).we h3)
    · exact .inl (by cases p <;> first | rfl | cases hc)
  | neg a iha =>
    intro sx X W g
    refine Snd.of g rfl (fun _ => rfl) (fun ps h => by cases h) (fun _ _ _ h => by cases h) (fun m p hc hx => by unfold E.chk at hc ⊢; rw [hx] at hc; exact hc) (fun p hc => ?_) (fun p hc hT => ?_)
    · unfold E.chk at hc
      split at hc <;> first | cases hc | skip
      rename_i heq
      obtain rfl := Option.some.inj heq
      simp only [Bool.and_eq_true, Bool.or_eq_true, decide_eq_true_eq, Bool.not_eq_true', beq_iff_eq] at hc
      obtain ⟨h1, h2⟩ := hc
      subst h1
      rw [kd_fr rfl rfl]
      exact s_neg ((iha sx X W g).we h2)
    · unfold E.chk at hc
      split at hc <;> first | cases hc | skip
      rename_i heq
      obtain rfl := Option.some.inj heq
      simp only [Bool.and_eq_true, Bool.or_eq_true, decide_eq_true_eq, Bool.not_eq_true', beq_iff_eq] at hc
      obtain ⟨h1, h2⟩ := hc
      subst h1
      exact .inl rfl
  | cmp op a b iha ihb =>
    intro sx X W g
    refine Snd.of g rfl (fun _ => rfl) (fun ps h => by cases h) (fun _ _ _ h => by cases h) (fun m p hc hx => by unfold E.chk at hc ⊢; rw [hx] at hc; exact hc) (fun p hc => ?_) (fun p hc hT => ?_)
    · unfold E.chk at hc
      split at hc <;> first | cases hc | skip
      rename_i heq
      obtain rfl := Option.some.inj heq
      simp only [Bool.and_eq_true, Bool.or_eq_true, decide_eq_true_eq, Bool.not_eq_true', beq_iff_eq] at hc
      obtain ⟨⟨⟨h1, h2⟩, h3⟩, h4⟩ := hc
      subst h1
      rw [kd_fr rfl rfl]
      exact s_cmp g op ((iha sx X W g).we h2) ((ihb sx X W g).we h3) h4
    · unfold E.chk at hc
      split at hc <;> first | cases hc | skip
      rename_i heq
      obtain rfl := Option.some.inj heq
      simp only [Bool.and_eq_true, Bool.or_eq_true, decide_eq_true_eq, Bool.not_eq_true', beq_iff_eq] at hc
      obtain ⟨⟨⟨h1, h2⟩, h3⟩, h4⟩ := hc
      subst h1
      exact .inr (s_cmpT g op ((iha sx X W g).we h2) ((ihb sx X W g).we h3) h4)
  | chn o1 o2 a b c iha ihb ihc =>
    intro sx X W g
    refine Snd.of g rfl (fun _ => rfl) (fun ps h => by cases h) (fun _ _ _ h => by cases h) (fun m p hc hx => by unfold E.chk at hc ⊢; rw [hx] at hc; exact hc) (fun p hc => ?_) (fun p hc hT => ?_)
    · unfold E.chk at hc
      split at hc <;> first | cases hc | skip
      rename_i heq
      obtain rfl := Option.some.inj heq
      simp only [Bool.and_eq_true, Bool.or_eq_true, decide_eq_true_eq, Bool.not_eq_true', beq_iff_eq] at hc
      obtain ⟨⟨⟨⟨⟨⟨h1, h2⟩, h3⟩, h4⟩, h5⟩, h6⟩, h7⟩ := hc
      subst h1 h2
      rw [kd_fr rfl rfl]
      exact s_chn g o1 o2 ((iha sx X W g).we h3) ((ihb sx X W g).we h4) ((ihc sx X W g).we h5) h7
    · unfold E.chk at hc
      split at hc <;> first | cases hc | skip
      rename_i heq
      obtain rfl := Option.some.inj heq
      simp only [Bool.and_eq_true, Bool.or_eq_true, decide_eq_true_eq, Bool.not_eq_true', beq_iff_eq] at hc
      obtain ⟨⟨⟨⟨⟨⟨h1, h2⟩, h3⟩, h4⟩, h5⟩, h6⟩, h7⟩ := hc
      subst h1 h2
      exact .inr (s_chnT g o1 o2 ((iha sx X W g).we h3) ((ihb sx X W g).we h4) ((ihc sx X W g).we h5) h7)
  | not a iha =>
    intro sx X W g
    refine Snd.of g rfl (fun _ => rfl) (fun ps h => by cases h) (fun _ _ _ h => by cases h) (fun m p hc hx => by unfold E.chk at hc ⊢; rw [hx] at hc; exact hc) (fun p hc => ?_) (fun p hc hT => ?_)
    · unfold E.chk at hc
      split at hc <;> first | cases hc | skip
      rename_i heq
      obtain rfl := Option.some.inj heq
      simp only [Bool.and_eq_true, Bool.or_eq_true, decide_eq_true_eq, Bool.not_eq_true', beq_iff_eq] at hc
      obtain ⟨h1, h2⟩ := hc
      subst h1
      rw [kd_fr rfl rfl]
      exact s_not ((iha sx X W g).we h2)
    · unfold E.chk at hc
      split at hc <;> first | cases hc | skip
      rename_i heq
      obtain rfl := Option.some.inj heq
      simp only [Bool.and_eq_true, Bool.or_eq_true, decide_eq_true_eq, Bool.not_eq_true', beq_iff_eq] at hc
      obtain ⟨h1, h2⟩ := hc
      subst h1
      exact .inr (s_notT ((iha sx X W g).te h2 hT))
  | ite c a b ihc iha ihb =>
    intro sx X W g
    refine Snd.of g rfl (fun _ => rfl) (fun ps h => by cases h) (fun _ _ _ h => by cases h) (fun m p hc hx => by unfold E.chk at hc ⊢; rw [hx] at hc; exact hc) (fun p hc => ?_) (fun p hc hT => ?_)
    · unfold E.chk at hc
      split at hc <;> first | cases hc | skip
      rename_i heq
      obtain rfl := Option.some.inj heq
      simp only [Bool.and_eq_true, Bool.or_eq_true, decide_eq_true_eq, Bool.not_eq_true', beq_iff_eq] at hc
      obtain ⟨⟨⟨⟨⟨h1, h2⟩, h3⟩, h4⟩, hpa⟩, hpb⟩ := hc
      by_cases hf : (E.ite c a b).fr S.ff = true
      · rw [kd_fr rfl hf]
        have hf' : (a.fr S.ff && b.fr S.ff) = true := hf
        rw [Bool.and_eq_true] at hf'
        have fa : ∀ (u : E), u.fr S.ff = true → kd G S u = Pfr G := fun u hu => kd_fr (by cases u <;> first | rfl | cases hu) hu
        rcases (iha sx X W g).pe _ _ h3 rfl with q1 | ⟨es, q | q | q⟩
        · rcases (ihb sx X W g).pe _ _ h4 rfl with q2 | ⟨es, q | q | q⟩
          · rw [fa a hf'.1] at q1
            rw [fa b hf'.2] at q2
            exact s_ite back_fr ((ihc sx X W g).te h1 h2) q1 q2
          · rw [q] at h4; cases h4
          · rw [q] at h4; cases h4
          · rw [q] at h4; cases h4
        · rw [q] at h3; cases h3
        · rw [q] at h3; cases h3
        · rw [q] at h3; cases h3
      · rw [kd_st rfl (by simpa using hf)]
        exact s_ite back_st ((ihc sx X W g).te h1 h2) ((iha sx X W g).se h3 hpa) ((ihb sx X W g).se h4 hpb)
    · unfold E.chk at hc
      split at hc <;> first | cases hc | skip
      rename_i heq
      obtain rfl := Option.some.inj heq
      simp only [Bool.and_eq_true, Bool.or_eq_true, decide_eq_true_eq, Bool.not_eq_true', beq_iff_eq] at hc
      obtain ⟨⟨⟨h1, h2⟩, h3⟩, h4⟩ := hc
      cases hT
  | idx a i iha ihi =>
    intro sx X W g
    refine Snd.of g rfl (fun _ => rfl) (fun ps h => by cases h) (fun _ _ _ h => by cases h) (fun m p hc hx => by unfold E.chk at hc ⊢; rw [hx] at hc; exact hc) (fun p hc => ?_) (fun p hc hT => ?_)
    · unfold E.chk at hc
      split at hc <;> first | cases hc | skip
      rename_i heq
      obtain rfl := Option.some.inj heq
      simp only [Bool.and_eq_true, Bool.or_eq_true, decide_eq_true_eq, Bool.not_eq_true', beq_iff_eq] at hc
      obtain ⟨⟨h1, h2⟩, h3⟩ := hc
      rw [kd_st rfl rfl]
      exact s_idx g h1 ((iha sx X W g).we h2) ((ihi sx X W g).we h3)
    · exact .inl (by cases p <;> first | rfl | cases hc)
  | sl a lo hi iha ihl ihh =>
    intro sx X W g
    refine Snd.of g rfl (fun _ => rfl) (fun ps h => by cases h) (fun _ _ _ h => by cases h) (fun m p hc hx => by unfold E.chk at hc ⊢; rw [hx] at hc; exact hc) (fun p hc => ?_) (fun p hc hT => ?_)
    · unfold E.chk at hc
      split at hc <;> first | cases hc | skip
      rename_i heq
      obtain rfl := Option.some.inj heq
      simp only [Bool.and_eq_true, Bool.or_eq_true, decide_eq_true_eq, Bool.not_eq_true', beq_iff_eq] at hc
      obtain ⟨⟨h1, h2⟩, h3⟩ := hc
      rw [kd_fr rfl rfl]
      exact s_sl g ((iha sx X W g).we h1) ((ihl sx X W g).po h2) ((ihh sx X W g).po h3)
    · exact .inl (by cases p <;> first | rfl | cases hc)
  | rev a iha =>
    intro sx X W g
    refine Snd.of g rfl (fun _ => rfl) (fun ps h => by cases h) (fun _ _ _ h => by cases h) (fun m p hc hx => by unfold E.chk at hc ⊢; rw [hx] at hc; exact hc) (fun p hc => ?_) (fun p hc hT => ?_)
    · unfold E.chk at hc
      split at hc <;> first | cases hc | skip
      rename_i heq
      obtain rfl := Option.some.inj heq
      simp only [Bool.and_eq_true, Bool.or_eq_true, decide_eq_true_eq, Bool.not_eq_true', beq_iff_eq] at hc
      obtain ⟨⟨h1, h2⟩, h3⟩ := hc
      subst h1 h2
      rw [kd_fr rfl rfl]
      exact s_rev g ((iha sx X W g).we h3)
    · exact .inl (by cases p <;> first | rfl | cases hc)
  | call f es ih =>
    intro sx X W g
    refine Snd.of g rfl (fun _ => rfl) (fun ps h => by cases h) (fun _ _ _ h => by cases h) (fun m p hc hx => by unfold E.chk at hc ⊢; rw [hx] at hc; exact hc) (fun p hc => ?_) (fun p hc hT => ?_)
    · unfold E.chk at hc
      split at hc <;> first | cases hc | skip
      rename_i heq
      obtain rfl := Option.some.inj heq
      simp only [Bool.and_eq_true, Bool.or_eq_true, decide_eq_true_eq, Bool.not_eq_true', beq_iff_eq] at hc
      obtain ⟨⟨⟨⟨h1, h2⟩, h3⟩, h4⟩, hh⟩ := hc
      exact s_call g hh h1 h2 h3 ((ih sx X W g).paS _ h3 h4)
    · exact .inl (by cases p <;> first | rfl | cases hc)
  | bi b es ih =>
    intro sx X W g
    refine Snd.of g rfl (fun _ => rfl) (fun ps h => by cases h) (fun _ _ _ h => by cases h) (fun m p hc hx => by unfold E.chk at hc ⊢; rw [hx] at hc; exact hc) (fun p hc => ?_) (fun p hc hT => ?_)
    · unfold E.chk at hc
      split at hc <;> first | cases hc | skip
      rename_i heq
      obtain rfl := Option.some.inj heq
      simp only [Bool.and_eq_true, Bool.or_eq_true, decide_eq_true_eq, Bool.not_eq_true', beq_iff_eq] at hc
      obtain ⟨⟨⟨h1, h2⟩, h3⟩, hh⟩ := hc
      subst h2
      rw [kd_fr rfl rfl]
      exact s_bi g hh h1 h3 ((ih sx X W g).pa _ h3)
    · exact .inl (by cases p <;> first | rfl | cases hc)
  | isi a t iha =>
    intro sx X W g
    refine Snd.of g rfl (fun _ => rfl) (fun ps h => by cases h) (fun _ _ _ h => by cases h) (fun m p hc hx => by unfold E.chk at hc ⊢; rw [hx] at hc; exact hc) (fun p hc => ?_) (fun p hc hT => ?_)
    · unfold E.chk at hc
      split at hc <;> first | cases hc | skip
      rename_i heq
      obtain rfl := Option.some.inj heq
      simp only [Bool.and_eq_true, Bool.or_eq_true, decide_eq_true_eq, Bool.not_eq_true', beq_iff_eq] at hc
      obtain ⟨⟨⟨⟨⟨h1, h2⟩, h3⟩, h4⟩, h5⟩, h6⟩ := hc
      have h4 := beq_iff_eq.mp h4
      subst h2 h4
      rw [kd_fr rfl rfl]
      exact s_isi g h1 h3 h6 ((iha sx X W g).we h5)
    · exact .inl (by cases p <;> first | rfl | cases hc)
  | mt m a e iha ihe =>
    intro sx X W g
    refine Snd.of g rfl (fun _ => rfl) (fun ps h => by cases h) (fun _ _ _ h => by cases h) (fun m p hc hx => by unfold E.chk at hc ⊢; rw [hx] at hc; exact hc) (fun p hc => ?_) (fun p hc hT => ?_)
    · unfold E.chk at hc
      split at hc <;> first | cases hc | skip
      rename_i heq
      obtain rfl := Option.some.inj heq
      simp only [Bool.and_eq_true, decide_eq_true_eq, Bool.not_eq_true'] at hc
      obtain ⟨⟨⟨⟨⟨h1, h2⟩, h3⟩, h4⟩, h5⟩, h6⟩ := hc
      subst h1
      rw [kd_fr rfl rfl]
      exact s_mt g ((iha sx X W g).we h2) ((ihe sx X W g).we h3) h4 h5 h6
    · exact .inl (by cases p <;> first | rfl | cases hc)
  | comp t it elt cond ihi ihe ihc =>
    intro sx X W g
    refine Snd.of g rfl (fun _ => rfl) (fun ps h => by cases h) (fun _ _ _ h => by cases h) (fun m p hc hx => by unfold E.chk at hc ⊢; rw [hx] at hc; exact hc) (fun p hc => ?_) (fun p hc hT => ?_)
    · unfold E.chk at hc
      split at hc <;> first | cases hc | skip
      rename_i heq
      obtain rfl := Option.some.inj heq
      simp only [Bool.and_eq_true, Bool.or_eq_true, decide_eq_true_eq, Bool.not_eq_true', beq_iff_eq] at hc
      obtain ⟨⟨⟨⟨⟨⟨⟨⟨h1, h2⟩, h3⟩, h4⟩, h5⟩, h6⟩, h7⟩, h8⟩, hh⟩ := hc
      subst h1
      rw [kd_fr rfl rfl]
      exact s_comp g hh ((ihi sx X W g).pi _ _ h2) h4 (noSet_of h2) h3 (fun s H Ca cl fp => (ihc _ _ _ (g.blk hh)).pc h7 h8) (fun s H Ca cl fp => (ihe _ _ _ (g.blk hh)).se h5 h6)
    · exact .inl (by cases p <;> first | rfl | cases hc)
  | nil =>
    intro sx X W g
    have no : ∀ m, E.chk S sx .nil m = true → m.x = none := fun m hc => by
      cases m with
      | e p => cases hc
      | i t p => cases hc
      | a ps => rfl
      | o o => cases o <;> first | rfl | cases hc
      | c ps => cases ps <;> first | rfl | cases hc
    refine ⟨fun m p hc hx => (by rw [no m hc] at hx; cases hx), fun m p hc hx => (by rw [no m hc] at hx; cases hx), fun _ _ _ hc => (by cases hc), fun ps hc => ?_, fun ps hc _ => ?_, fun tg p hc => (by cases hc), fun tg p hc => (by cases hc)⟩
    · cases ps with
      | nil => exact s_nilA
      | cons _ _ => cases hc
    · cases ps with
      | nil => exact s_nilS
      | cons _ _ => cases hc
  | cons h t ihh iht =>
    intro sx X W g
    refine ⟨fun m p hc hx => ?_, fun m p hc hx => ?_, fun _ _ _ hc => (by cases hc), fun ps hc => ?_, fun ps hc hst => ?_, fun tg p hc => (by cases hc), fun tg p hc => (by cases hc)⟩
    · cases m <;> first | cases hc | cases hx
    · cases m <;> first | cases hc | cases hx
    · cases ps with
      | nil => cases hc
      | cons p ps =>
        have hc : (!isStar p && h.chk S sx (.e p) && t.chk S sx (.a ps)) = true := hc
        simp only [Bool.and_eq_true, Bool.not_eq_true'] at hc
        exact s_consA hc.1.1 ((ihh sx X W g).we hc.1.2) ((iht sx X W g).pa _ hc.2)
    · cases ps with
      | nil => cases hc
      | cons p ps =>
        have hc : (!isStar p && h.chk S sx (.e p) && t.chk S sx (.a ps)) = true := hc
        have hst : (!h.isPk && t.stA) = true := hst
        simp only [Bool.and_eq_true, Bool.not_eq_true'] at hc hst
        exact s_consS hc.1.1 ((ihh sx X W g).se hc.1.2 hst.1) ((iht sx X W g).paS _ hc.2 hst.2)
  | and1 a iha =>
    intro sx X W g
    have key : ∀ m p, E.chk S sx (.and1 a) m = true → m.x = some p → ∃ q pos, p = .BoolOp .And [q] pos ∧ a.chk S sx (.e q) = true ∧ a.isPk = false := fun m p hc hx => by
      unfold E.chk at hc
      rw [hx] at hc
      split at hc <;> first | cases hc | skip
      rename_i heq
      obtain rfl := Option.some.inj heq
      simp only [Bool.and_eq_true, decide_eq_true_eq, Bool.not_eq_true'] at hc
      obtain ⟨⟨rfl, h2⟩, h3⟩ := hc
      exact ⟨_, _, rfl, h2, h3⟩
    have pe : ∀ m p, E.chk S sx (.and1 a) m = true → m.x = some p → PE X p (tE G ec W (evE C (.and1 a)) (Pst G)) := fun m p hc hx => by
      obtain ⟨q, pos, rfl, h2, h3⟩ := key m p hc hx
      exact s_and1 ((iha sx X W g).se h2 h3)
    have pw : ∀ m p, E.chk S sx (.and1 a) m = true → m.x = some p → a.okT = true → PWt G ec C X W (.and1 a) p := fun m p hc hx hT => by
      obtain ⟨q, pos, rfl, h2, _⟩ := key m p hc hx
      exact s_and1T ((iha sx X W g).te h2 hT)
    exact ⟨fun m p hc hx => .inl (by rw [kd_st rfl rfl]; exact pe m p hc hx), fun m p hc hx hT => .inl (pw m p hc hx hT).pt, fun op ps pos hc hT => pw _ _ hc rfl hT, fun ps hc => (by cases hc), fun ps hc _ => (by cases hc), fun tg p hc => s_pi g (fun _ => rfl) ((pe _ _ hc rfl).imp fun σ H Q z => z.wk_st), fun tg p hc _ => s_pif g (fun _ => rfl) (pe _ _ hc rfl)⟩
  | or1 a iha =>
    intro sx X W g
    have key : ∀ m p, E.chk S sx (.or1 a) m = true → m.x = some p → ∃ q pos, p = .BoolOp .Or [q] pos ∧ a.chk S sx (.e q) = true ∧ a.isPk = false := fun m p hc hx => by
      unfold E.chk at hc
      rw [hx] at hc
      split at hc <;> first | cases hc | skip
      rename_i heq
      obtain rfl := Option.some.inj heq
      simp only [Bool.and_eq_true, decide_eq_true_eq, Bool.not_eq_true'] at hc
      obtain ⟨⟨rfl, h2⟩, h3⟩ := hc
      exact ⟨_, _, rfl, h2, h3⟩
    have pe : ∀ m p, E.chk S sx (.or1 a) m = true → m.x = some p → PE X p (tE G ec W (evE C (.or1 a)) (Pst G)) := fun m p hc hx => by
      obtain ⟨q, pos, rfl, h2, h3⟩ := key m p hc hx
      exact s_or1 ((iha sx X W g).se h2 h3)
    have pw : ∀ m p, E.chk S sx (.or1 a) m = true → m.x = some p → a.okT = true → PWt G ec C X W (.or1 a) p := fun m p hc hx hT => by
      obtain ⟨q, pos, rfl, h2, _⟩ := key m p hc hx
      exact s_or1T ((iha sx X W g).te h2 hT)
    exact ⟨fun m p hc hx => .inl (by rw [kd_st rfl rfl]; exact pe m p hc hx), fun m p hc hx hT => .inl (pw m p hc hx hT).pt, fun op ps pos hc hT => pw _ _ hc rfl hT, fun ps hc => (by cases hc), fun ps hc _ => (by cases hc), fun tg p hc => s_pi g (fun _ => rfl) ((pe _ _ hc rfl).imp fun σ H Q z => z.wk_st), fun tg p hc _ => s_pif g (fun _ => rfl) (pe _ _ hc rfl)⟩
  | and a r iha ihr =>
    intro sx X W g
    have key : ∀ m p, E.chk S sx (.and a r) m = true → m.x = some p → ∃ q q2 ps pos, p = .BoolOp .And (q :: q2 :: ps) pos ∧ a.chk S sx (.e q) = true ∧ r.chk S sx (.e (.BoolOp .And (q2 :: ps) pos)) = true := fun m p hc hx => by
      unfold E.chk at hc
      rw [hx] at hc
      split at hc <;> first | cases hc | skip
      rename_i heq
      obtain rfl := Option.some.inj heq
      simp only [Bool.and_eq_true, decide_eq_true_eq] at hc
      obtain ⟨⟨rfl, h2⟩, h3⟩ := hc
      exact ⟨_, _, _, _, rfl, h2, h3⟩
    have pe : ∀ m p, E.chk S sx (.and a r) m = true → m.x = some p → PE X p (tE G ec W (evE C (.and a r)) (Pst G)) := fun m p hc hx => by
      obtain ⟨q, q2, ps, pos, rfl, h2, h3⟩ := key m p hc hx
      exact s_and ((iha sx X W g).we h2) ((ihr sx X W g).se h3 (by cases r <;> first | rfl | cases h3))
    have pw : ∀ m p, E.chk S sx (.and a r) m = true → m.x = some p → (a.okT && r.okT) = true → PWt G ec C X W (.and a r) p := fun m p hc hx hT => by
      obtain ⟨q, q2, ps, pos, rfl, h2, h3⟩ := key m p hc hx
      rw [Bool.and_eq_true] at hT
      exact s_andT ((iha sx X W g).te h2 hT.1) ((ihr sx X W g).pw _ _ _ h3 hT.2)
    exact ⟨fun m p hc hx => .inl (by rw [kd_st rfl rfl]; exact pe m p hc hx), fun m p hc hx hT => .inl (pw m p hc hx hT).pt, fun op ps pos hc hT => pw _ _ hc rfl hT, fun ps hc => (by cases hc), fun ps hc _ => (by cases hc), fun tg p hc => s_pi g (fun _ => rfl) ((pe _ _ hc rfl).imp fun σ H Q z => z.wk_st), fun tg p hc _ => s_pif g (fun _ => rfl) (pe _ _ hc rfl)⟩
  | or a r iha ihr =>
    intro sx X W g
    have key : ∀ m p, E.chk S sx (.or a r) m = true → m.x = some p → ∃ q q2 ps pos, p = .BoolOp .Or (q :: q2 :: ps) pos ∧ a.chk S sx (.e q) = true ∧ r.chk S sx (.e (.BoolOp .Or (q2 :: ps) pos)) = true := fun m p hc hx => by
      unfold E.chk at hc
      rw [hx] at hc
      split at hc <;> first | cases hc | skip
      rename_i heq
      obtain rfl := Option.some.inj heq
      simp only [Bool.and_eq_true, decide_eq_true_eq] at hc
      obtain ⟨⟨rfl, h2⟩, h3⟩ := hc
      exact ⟨_, _, _, _, rfl, h2, h3⟩
    have pe : ∀ m p, E.chk S sx (.or a r) m = true → m.x = some p → PE X p (tE G ec W (evE C (.or a r)) (Pst G)) := fun m p hc hx => by
      obtain ⟨q, q2, ps, pos, rfl, h2, h3⟩ := key m p hc hx
      exact s_or ((iha sx X W g).we h2) ((ihr sx X W g).se h3 (by cases r <;> first | rfl | cases h3))
    have pw : ∀ m p, E.chk S sx (.or a r) m = true → m.x = some p → (a.okT && r.okT) = true → PWt G ec C X W (.or a r) p := fun m p hc hx hT => by
      obtain ⟨q, q2, ps, pos, rfl, h2, h3⟩ := key m p hc hx
      rw [Bool.and_eq_true] at hT
      exact s_orT ((iha sx X W g).te h2 hT.1) ((ihr sx X W g).pw _ _ _ h3 hT.2)
    exact ⟨fun m p hc hx => .inl (by rw [kd_st rfl rfl]; exact pe m p hc hx), fun m p hc hx hT => .inl (pw m p hc hx hT).pt, fun op ps pos hc hT => pw _ _ hc rfl hT, fun ps hc => (by cases hc), fun ps hc _ => (by cases hc), fun tg p hc => s_pi g (fun _ => rfl) ((pe _ _ hc rfl).imp fun σ H Q z => z.wk_st), fun tg p hc _ => s_pif g (fun _ => rfl) (pe _ _ hc rfl)⟩
  | rng es ih =>
    intro sx X W g
    refine ⟨fun m p hc hx => .inr ⟨es, by simp⟩, fun m p hc hx _ => .inr ⟨es, by simp⟩, fun _ _ _ hc => (by cases hc), fun ps hc => (by cases hc), fun ps hc _ => (by cases hc), fun tg p hc => ?_, fun tg p hc _ => ?_⟩
    all_goals
      first | refine PI.imp (t := tIF G ec W (itemsE (.rng es)) (evE C (.rng es))) ?_ (fun σ H Rk h => tI.f h) | skip
      unfold E.chk at hc
      split at hc <;> first | cases hc | skip
      rename_i heq
      cases heq
      simp only [Bool.and_eq_true, Bool.or_eq_true, decide_eq_true_eq, beq_iff_eq] at hc
      obtain ⟨⟨⟨h1, h2⟩, h3⟩, h4⟩ := hc
      subst h2
      exact s_pi_rng g h1 h3 h4 ((ih sx X W g).pa _ h3)
  | zip es ih =>
    intro sx X W g
    refine ⟨fun m p hc hx => .inr ⟨es, by simp⟩, fun m p hc hx _ => .inr ⟨es, by simp⟩, fun _ _ _ hc => (by cases hc), fun ps hc => (by cases hc), fun ps hc _ => (by cases hc), fun tg p hc => ?_, fun tg p hc _ => ?_⟩
    all_goals
      first | refine PI.imp (t := tIF G ec W (itemsE (.zip es)) (evE C (.zip es))) ?_ (fun σ H Rk h => tI.f h) | skip
      unfold E.chk at hc
      split at hc <;> first | cases hc | skip
      rename_i heq
      cases heq
      simp only [Bool.and_eq_true, Bool.or_eq_true, decide_eq_true_eq, beq_iff_eq] at hc
      obtain ⟨⟨⟨⟨⟨h0, h1⟩, h2⟩, h3⟩, h4⟩, h5⟩ := hc
      subst h2
      cases tg <;> first | cases h0 | skip
      rename_i ps _ _ _ _
      match ps, h3, h5 with
      | [p, q], h3, _ => exact s_pi_zip g h1 h3 ((ih sx X W g).paS _ h3 h4)
  | enm es ih =>
    intro sx X W g
    refine ⟨fun m p hc hx => .inr ⟨es, by simp⟩, fun m p hc hx _ => .inr ⟨es, by simp⟩, fun _ _ _ hc => (by cases hc), fun ps hc => (by cases hc), fun ps hc _ => (by cases hc), fun tg p hc => ?_, fun tg p hc _ => ?_⟩
    all_goals
      first | refine PI.imp (t := tIF G ec W (itemsE (.enm es)) (evE C (.enm es))) ?_ (fun σ H Rk h => tI.f h) | skip
      unfold E.chk at hc
      split at hc <;> first | cases hc | skip
      rename_i heq
      cases heq
      simp only [Bool.and_eq_true, Bool.or_eq_true, decide_eq_true_eq, beq_iff_eq, Bool.not_eq_true'] at hc
      obtain ⟨⟨⟨⟨⟨h0, h1⟩, h2⟩, h3⟩, h4⟩, h5⟩ := hc
      subst h2
      cases tg <;> first | cases h0 | skip
      exact s_pi_enum g h1 h5 ((ih sx X W g).se h3 h4)
  | dic ks es ih =>
    intro sx X W g
    refine Snd.of g rfl (fun _ => rfl) (fun ps h => by cases h) (fun _ _ _ h => by cases h) (fun m p hc hx => by unfold E.chk at hc ⊢; rw [hx] at hc; exact hc) (fun p hc => ?_) (fun p hc hT => ?_)
    · unfold E.chk at hc
      split at hc <;> first | cases hc | skip
      · rename_i heq
        obtain rfl := Option.some.inj heq
        rw [Bool.and_eq_true] at hc
        obtain ⟨h1, h2⟩ := hc
        have h1 : ks = [] := by simpa using h1
        have h2 : es = .nil := by cases es <;> first | rfl | cases h2
        subst h1 h2
        rw [kd_st rfl rfl]
        refine pe_dnewK.imp fun σ H Q h => ?_
        obtain ⟨cs0, H0, Hf0, ρ, μ, cs, Hf, r, h⟩ := h
        intro p hn
        have s := r.well.laid hn (ntb_dK (vs := []))
        exact h (.ref p) cs _ _ s (Rep.dic_iff.mpr ⟨p, [], rfl, upd_same, rfl, Reps.nil⟩)
      · rename_i heq
        obtain rfl := Option.some.inj heq
        split at hc <;> first | cases hc | skip
        simp only [Bool.and_eq_true, decide_eq_true_eq] at hc
        obtain ⟨rfl, h2⟩ := hc
        rw [kd_st rfl rfl]
        exact s_dic1 g h2
    · exact .inl (by cases p <;> first | rfl | cases hc)
  | isx i c =>
    intro sx X W g
    refine Snd.of g rfl (fun _ => rfl) (fun ps h => by cases h) (fun _ _ _ h => by cases h) (fun m p hc hx => by unfold E.chk at hc ⊢; rw [hx] at hc; exact hc) (fun p hc => ?_) (fun p hc hT => ?_)
    · unfold E.chk at hc
      split at hc <;> first | cases hc | skip
      rename_i heq
      obtain rfl := Option.some.inj heq
      simp only [Bool.and_eq_true, Bool.or_eq_true, decide_eq_true_eq] at hc
      obtain ⟨⟨⟨⟨⟨h0, h1⟩, h2⟩, h3⟩, h4⟩, h5⟩ := hc
      subst h2
      rw [kd_st rfl rfl]
      exact s_isx g h0 h1 h3 h4 h5
    · exact .inl (by cases p <;> first | rfl | cases hc)
  | fld i c =>
    intro sx X W g
    refine Snd.of g rfl (fun _ => rfl) (fun ps h => by cases h) (fun _ _ _ h => by cases h) (fun m p hc hx => by unfold E.chk at hc ⊢; rw [hx] at hc; exact hc) (fun p hc => ?_) (fun p hc hT => ?_)
    · unfold E.chk at hc
      split at hc <;> first | cases hc | skip
      rename_i heq
      obtain rfl := Option.some.inj heq
      simp only [Bool.and_eq_true, Bool.or_eq_true, decide_eq_true_eq] at hc
      rw [kd_st rfl rfl]
      exact s_fld g hc.1.1 hc.1.2 hc.2
    · exact .inl (by cases p <;> first | rfl | cases hc)
  | clv i fs es ih =>
    intro sx X W g
    refine Snd.of g rfl (fun _ => rfl) (fun ps h => by cases h) (fun _ _ _ h => by cases h) (fun m p hc hx => by unfold E.chk at hc ⊢; rw [hx] at hc; exact hc) (fun p hc => ?_) (fun p hc hT => ?_)
    · unfold E.chk at hc
      split at hc <;> first | cases hc | skip
      rename_i heq
      obtain rfl := Option.some.inj heq
      simp only [Bool.and_eq_true, Bool.not_eq_true'] at hc
      obtain ⟨⟨⟨⟨h1, h2⟩, h3⟩, h4⟩, hh⟩ := hc
      rw [kd_st rfl rfl]
      exact s_clv g hh h1 h2 h3 ((ih sx X W g).paS _ h3 h4)
    · exact .inl (by cases p <;> first | rfl | cases hc)
  | lrg tp a b iha ihb =>
    intro sx X W g
    refine Snd.of g rfl (fun _ => rfl) (fun ps h => by cases h) (fun _ _ _ h => by cases h) (fun m p hc hx => by unfold E.chk at hc ⊢; rw [hx] at hc; exact hc) (fun p hc => ?_) (fun p hc hT => ?_)
    · unfold E.chk at hc
      split at hc <;> first | cases hc | skip
      rename_i heq
      obtain rfl := Option.some.inj heq
      simp only [Bool.and_eq_true, Bool.not_eq_true', decide_eq_true_eq] at hc
      obtain ⟨⟨⟨⟨⟨h0, h1⟩, h2⟩, h3⟩, h4⟩, h5⟩ := hc
      subst h4
      obtain ⟨hgr, _⟩ := g.gl h3
      have hmr := g.blt ("range" : Str) (by decide +kernel)
      rw [kd_fr rfl rfl]
      split at h5
      · simp only [Bool.and_eq_true, Bool.not_eq_true'] at h5
        obtain ⟨⟨z0, z1⟩, z2⟩ := h5
        have ea : a = .int 0 := by
          cases a <;> first | cases z0 | skip
          exact congrArg E.int (of_decide_eq_true z0)
        subst ea
        refine s_lrg g h0 h1 h2 rfl (prg_1 hgr hmr ((ihb sx X W g).we z1) (star_cons z2)) fun σ H Q h => ?_
        have h : tX G ec W [(.int 0, .int 0)] (fun ρ μ => (evE C b ρ μ).bind fun y μ => R.of (lrgD tp (.int 0) y) μ) (Pfr G) σ H Q := by
          obtain ⟨cs0, H0, Hf0, ρ, μ, cs, Hf, r, h⟩ := h
          exact ⟨cs0, H0, Hf0, ρ, μ, cs, Hf, r, .cons (.inl (Rep.int_iff.mpr rfl)) .nil, h⟩
        exact (tX.bind back_fr h).mono fun y H2 ⟨e, h2⟩ => by
          obtain ⟨i, j, e1, e2, ok, q⟩ := lrg_end h2
          cases e1
          exact ⟨j, e2, ok, q⟩
      · simp only [Bool.and_eq_true, Bool.not_eq_true'] at h5
        obtain ⟨⟨⟨z1, z2⟩, z3⟩, z4⟩ := h5
        refine s_lrg g h0 h1 h2 rfl (prg_2 hgr hmr ((iha sx X W g).we z1) ((ihb sx X W g).we z2) ((star_cons z3).trans (by rw [star_cons z4])) (star_cons z4) (by rw [star_cons z4]; rfl)) fun σ H Q h => ?_
        exact (tX.bind back_fr (tX.of h)).mono fun x H1 ⟨d, h1⟩ => (tX.bind back_fr h1).mono fun y H2 ⟨e, h2⟩ => by
          obtain ⟨i, j, e1, e2, ok, q⟩ := lrg_end h2
          exact ⟨i, j, e1, e2, ok, q⟩
      · cases h5
    · exact .inl (by cases p <;> first | rfl | cases hc)
  | lam f e ih =>
    intro sx X W g
    refine Snd.of g rfl (fun _ => rfl) (fun ps h => by cases h) (fun _ _ _ h => by cases h) (fun m p hc hx => by unfold E.chk at hc ⊢; rw [hx] at hc; exact hc) (fun p hc => ?_) (fun p hc hT => ?_)
    · unfold E.chk at hc
      split at hc <;> first | cases hc | skip
      rename_i heq
      obtain rfl := Option.some.inj heq
      simp only [Bool.and_eq_true, Bool.not_eq_true', decide_eq_true_eq] at hc
      obtain ⟨⟨⟨⟨⟨⟨h0, h1⟩, h2⟩, h3⟩, h4⟩, h5⟩, h6⟩ := hc
      rw [kd_st rfl rfl]
      exact g.lam h0 f _ h3 h2 _ _ _ _ _ e h4 fun Y W' g0 => (ih _ Y W' (g0.full rfl)).se h5 h6
    · exact .inl (by cases p <;> first | rfl | cases hc)
  | _ =>
    intro sx X W g
    exact ⟨fun m p hc => (by cases hc), fun m p hc => (by cases hc), fun _ _ _ hc => (by cases hc), fun ps hc => (by cases hc), fun ps hc => (by cases hc), fun tg p hc => (by cases hc), fun tg p hc => (by cases hc)⟩
end
end Ev
end

section
set_option Elab.async false
set_option linter.all false
set_option maxRecDepth 100000
set_option maxHeartbeats 2000000
namespace Ev
open PySem PySem.Spec PyProof.Rows L2
def Prt (G : Gx) (fr : Bool) : RX := if fr = true then Pfr G else Pst G
/-- what was frozen is -/
def Ext (cb : List Addr) (Hb : Hp) (cs : List Addr) (Hf : Hp) : Prop := (∀ a u, Hb a = some u → Hf a = some u) ∧ ∀ (c : Nat) (a : Addr), cb[c]? = some a → cs[c]? = some a
theorem Ext.rfl {cs : List Addr} {Hf : Hp} : Ext cs Hf cs Hf := ⟨fun _ _ z => z, fun _ _ z => z⟩
theorem Ext.step {G : Gx} {cb cs cs' : List Addr} {Hb H Hf H' Hf' : Hp} {μ' : Mu} (e : Ext cb Hb cs Hf) (s : Step G cs H Hf cs' H' Hf' μ') : Ext cb Hb cs' Hf' := ⟨fun a u z => s.ext a u (e.1 a u z), fun c a z => s.pix c a (e.2 c a z)⟩
theorem Ext.trans {cb cs cs' : List Addr} {Hb Hf Hf' : Hp} (e : Ext cb Hb cs Hf) (f : Ext cs Hf cs' Hf') : Ext cb Hb cs' Hf' := ⟨fun a u z => f.1 a u (e.1 a u z), fun c a z => f.2 c a (e.2 c a z)⟩
/-- the end of a statement; (cs0, H0, Hf0): the def's entry; (cb, Hb): what stays frozen -/
def PostS (G : Gx) (ec : Nat → Addr) (W : WX) (fr : Bool) (r : R Fl) (cs0 : List Addr) (H0 Hf0 : Hp) (cb : List Addr) (Hb : Hp) (D : Ends) : Prop := match r with
  | .ok (.nx ρ) μ => ∀ σ cs H Hf, Rel G cs0 H0 Hf0 ρ μ cs σ H Hf → Ext cb Hb cs Hf → D.nx σ H
  | .ok (.bk ρ) μ => ∀ σ cs H Hf, Rel G cs0 H0 Hf0 ρ μ cs σ H Hf → Ext cb Hb cs Hf → D.bk σ H
  | .ok (.ct ρ) μ => ∀ σ cs H Hf, Rel G cs0 H0 Hf0 ρ μ cs σ H Hf → Ext cb Hb cs Hf → D.ct σ H
  | .ok (.rt d) μ => ∀ v cs H Hf, Step G cs0 H0 Hf0 cs H Hf μ → Prt G fr cs H0 H Hf d v → D.rt v H
  | .ex x μ => ∀ σ cls dx cs H Hf, Step G cs0 H0 Hf0 cs H Hf μ → ExOk G ec cs Hf x cls dx → W cls dx σ H
  | .bad => False
def tS (G : Gx) (ec : Nat → Addr) (W : WX) (fr : Bool) (ev : Env → Mu → R Fl) : TS := fun D σ H => ∃ cs0 H0 Hf0 cb Hb ρ μ cs Hf, Rel G cs0 H0 Hf0 ρ μ cs σ H Hf ∧ Ext cb Hb cs Hf ∧ PostS G ec W fr (ev ρ μ) cs0 H0 Hf0 cb Hb D
section
variable {G : Gx} {ec : Nat → Addr} {S : Cs} {C : Fns} {k : Nat} {sx : Sx} {X : Cx} {W : WX} {fr : Bool} {σ : L2.St} {D' : Ends}
variable {a b c : E} {p q r : Expr} {pos : Pos} {cs cs0 : List Addr} {H Hf H0 Hf0 : Hp} {μ : Mu} {ρ : Env} {cb : List Addr} {Hb : Hp}
theorem PS.ok {st : Stmt} {t : TS} (h : X.Ok → PS X st t) : PS X st t := ⟨fun pins s σ H D I q => (h I.ok).run pins s σ H D I q⟩
/-- an expression within a statement -/
theorem PostS.bind {rd : R D} {f : D → Mu → R Fl} {P : RX} {Q : VK} (r : Rel G cs0 H0 Hf0 ρ μ cs σ H Hf) (h : PostS G ec W fr (rd.bind f) cs0 H0 Hf0 cb Hb D')
    (k : ∀ d μ' v cs' H' Hf', Step G cs H Hf cs' H' Hf' μ' → P cs' H H' Hf' d v → PostS G ec W fr (f d μ') cs0 H0 Hf0 cb Hb D' → Q v H') : Post G ec W σ rd cs H Hf Q P := by
  cases rd with
  | ok d μ' => exact fun v cs' H' Hf' s hp => k d μ' v cs' H' Hf' s hp h
  | ex x μ' => exact fun cls dx cs' H' Hf' s hx => h σ cls dx cs' H' Hf' (r.st.trans s) hx
  | bad => exact h
theorem PostS.bindT {rd : R D} {f : D → Mu → R Fl} {Q : Bool → Hp → Prop} (r : Rel G cs0 H0 Hf0 ρ μ cs σ H Hf) (h : PostS G ec W fr (rd.bind f) cs0 H0 Hf0 cb Hb D') (hf : ∀ d μ, (∀ k, d ≠ .bl k) → f d μ = .bad)
    (k : ∀ c μ' cs' H' Hf', Step G cs H Hf cs' H' Hf' μ' → PostS G ec W fr (f (.bl c) μ') cs0 H0 Hf0 cb Hb D' → Q c H') : PostB G ec W σ rd cs H Hf Q := by
  cases rd with
  | ok d μ' =>
    cases d with
    | bl c => exact fun cs' H' Hf' s => k c μ' cs' H' Hf' s h
    | _ => exact (show False by have h : PostS G ec W fr (f _ μ') cs0 H0 Hf0 cb Hb D' := h; rw [hf _ _ (by intro _ z; cases z)] at h; exact h)
  | ex x μ' => exact fun cls dx cs' H' Hf' s hx => h σ cls dx cs' H' Hf' (r.st.trans s) hx
  | bad => exact h
/-- a new list is a name's own -/
theorem Rel.setOwn {cs' : List Addr} {H' Hf' : Hp} {μ' : Mu} (r : Rel G cs0 H0 Hf0 ρ μ cs σ H Hf) (s : Step G cs H Hf cs' H' Hf' μ') {i : Nat} {d : D} {v : V} (h : Pfr G cs' H H' Hf' d v) : Rel G cs0 H0 Hf0 (ρ.set i (newSlot true d)) μ' cs' (σ.set i (some v)) H' Hf' := by
  have r' := r.step s
  cases d with
  | lst ds =>
    obtain ⟨a, vs, e, n, h1, h2, h3, h4⟩ := h
    subst e
    refine ⟨r'.st, by simp [r.len], fun j t e => ?_, fun j l t u x e1 e2 o1 o2 q1 q2 => ?_⟩
    · rw [get_set] at e ⊢
      rw [← r.len]
      split at e
      · rename_i hh
        cases e
        rw [if_pos hh]
        exact ⟨a, vs, rfl, h1, h2, h3, none_back r.st n, h4⟩
      · rename_i hh
        rw [if_neg hh]
        exact r'.slot j t e
    · have far : ∀ (j : Nat) (t : Slot) (x : Addr), ρ[j]? = some t → isOwn t = true → σ[j]? = some (some (.ref x)) → x ≠ a := fun j t x e o q z => by
        have hs := r.slot j t e
        rw [q] at hs
        cases t with
        | own ds => obtain ⟨y, ws, z1, z2, _⟩ := hs; cases z1; rw [z] at z2; exact n.no z2 ntb_lst
        | lent ds => obtain ⟨y, ws, z1, z2, _⟩ := hs; cases z1; rw [z] at z2; exact n.no z2 ntb_lst
        | _ => cases o
      rw [get_set] at e1 e2 q1 q2
      rw [← r.len] at q1 q2
      split at e1
      · rename_i h1
        rw [if_pos h1] at q1
        split at e2
        · rename_i h2
          exact h1.1.symm.trans h2.1
        · rename_i h2
          rw [if_neg h2] at q2
          cases q1
          exact absurd rfl (far l u _ e2 o2 q2)
      · rename_i h1
        rw [if_neg h1] at q1
        split at e2
        · rename_i h2
          rw [if_pos h2] at q2
          cases q2
          exact absurd rfl (far j t _ e1 o1 q1)
        · rename_i h2
          rw [if_neg h2] at q2
          exact r.apart j l t u x e1 e2 o1 o2 q1 q2
  | _ => exact r'.set h
theorem ss_ret (he : PE X p (tE G ec W (evE C a) (Prt G fr))) : PS X (.Return (some p) pos) (tS G ec W fr (evS C (.ret a))) :=
  (ps_ret he).imp fun D σ H h => by
    obtain ⟨cs0, H0, Hf0, cb, Hb, ρ, μ, cs, Hf, r, ee, h⟩ := h
    refine ⟨cs0, H0, Hf0, ρ, μ, cs, Hf, r, PostS.bind r h fun d μ' v cs' H' Hf' s hp q => q v cs' H' Hf' (r.st.trans s) ?_⟩
    revert hp
    unfold Prt
    split
    · exact back_fr _ _ _ _ _ _ _ r.st _ _ _ _ _
    · exact fun z => z
theorem ss_retN : PS X (.Return none pos) (tS G ec W fr (evS C .retN)) :=
  ps_retN.imp fun D σ H h => by
    obtain ⟨cs0, H0, Hf0, cb, Hb, ρ, μ, cs, Hf, r, ee, h⟩ := h
    refine h .non cs H Hf r.st ?_
    unfold Prt
    split
    · exact (Rep.non_iff (G := G) (cs := cs) (H := Hf)).mpr rfl
    · exact (Rep.non_iff (G := G) (cs := cs) (H := Hf)).mpr rfl
theorem ss_retO (g : Good G ec S C k sx X W) {i : Nat} {x : Str} {p1 : Pos} (hc : varB S sx.sc i x = true) : PS X (.Return (some (.Name x p1)) pos) (tS G ec W fr (evS C (.retO i))) := by
  obtain ⟨h1, h2, h3, h4⟩ := g.var hc
  refine (ps_ret (pe_var h1 h2 h3 h4)).imp fun D σ H h => ?_
  obtain ⟨cs0, H0, Hf0, cb, Hb, ρ, μ, cs, Hf, r, ee, h⟩ := h
  unfold evS at h
  cases e : ρ[i]? with
  | none => rw [e] at h; exact h.elim
  | some s =>
    rw [e] at h
    cases s with
    | own ds =>
      obtain ⟨ad, vs, q1, q2, q3, q4, q5, q6⟩ := r.own (.inl e)
      refine ⟨_, q1, ?_⟩
      have h : ∀ v cs' H' Hf', Step G cs0 H0 Hf0 cs' H' Hf' μ → Prt G fr cs' H0 H' Hf' (.lst ds) v → D.rt v H' := h
      cases fr with
      | true => exact h _ cs H Hf r.st ⟨ad, vs, rfl, q5, q2, q3, q4, q6⟩
      | false =>
        have t := r.st.freeze q5 q2 q3 q4 ntb_lst
        refine h _ cs H _ t (Rep.lst_iff.mpr ⟨ad, vs, rfl, upd_same, ?_⟩)
        exact Reps.mono (fun b u q => by rw [upd_ne (fun z => by rw [z, q3] at q; cases q)]; exact q) (fun _ _ q => q) _ _ q6
    | _ => exact h.elim
theorem ss_pass : PS X (.Pass pos) (tS G ec W fr (evS C .pass)) := ps_pass.imp fun D σ H h => by
  obtain ⟨cs0, H0, Hf0, cb, Hb, ρ, μ, cs, Hf, r, ee, h⟩ := h
  exact h σ cs H Hf r ee
theorem ss_brk : PS X (.Break pos) (tS G ec W fr (evS C .brk)) := ps_break.imp fun D σ H h => by
  obtain ⟨cs0, H0, Hf0, cb, Hb, ρ, μ, cs, Hf, r, ee, h⟩ := h
  exact h σ cs H Hf r ee
theorem ss_cont : PS X (.Continue pos) (tS G ec W fr (evS C .cont)) := ps_continue.imp fun D σ H h => by
  obtain ⟨cs0, H0, Hf0, cb, Hb, ρ, μ, cs, Hf, r, ee, h⟩ := h
  exact h σ cs H Hf r ee
/-- no comprehension -/
def noComp : Expr → Bool
  | .ListComp _ _ _ _ => false
  | .SetComp _ _ _ _ => false
  | .DictComp _ _ _ _ _ => false
  | _ => true
theorem sw_no {p : Expr} {tg : Option Expr} {n : Nat} {env : PySem.Env} (h : noComp p = true) : swapsWith p tg n env = pure false := by
  cases p <;> first | rfl | cases h
theorem ss_exp (hc : noComp p = true) (he : PEw G ec C X W a p) : PS X (.Expr p pos) (tS G ec W fr (evS C (.exp a))) :=
  (ps_expr he (sw_no hc)).imp fun D σ H h => by
    obtain ⟨cs0, H0, Hf0, cb, Hb, ρ, μ, cs, Hf, r, ee, h⟩ := h
    exact ⟨cs0, H0, Hf0, ρ, μ, cs, Hf, r, PostS.bind r h fun d μ' v cs' H' Hf' s hp q => q σ cs' H' Hf' (r.step s) (ee.step s)⟩
theorem ss_nil : PSs X [] (tS G ec W fr (evS C .skip)) := pss_nil.imp fun D σ H h => by
  obtain ⟨cs0, H0, Hf0, cb, Hb, ρ, μ, cs, Hf, r, ee, h⟩ := h
  exact h σ cs H Hf r ee
theorem PostS.thn {r1 : R Fl} {f : Env → Mu → R Fl} (h : PostS G ec W fr (r1.thn f) cs0 H0 Hf0 cb Hb D') : PostS G ec W fr r1 cs0 H0 Hf0 cb Hb { D' with nx := fun σ H => tS G ec W fr f D' σ H } := by
  cases r1 with
  | ok fl μ' =>
    cases fl with
    | nx ρ' => exact fun σ cs H Hf r ee => ⟨cs0, H0, Hf0, cb, Hb, ρ', μ', cs, Hf, r, ee, h⟩
    | _ => exact h
  | ex x μ' => exact h
  | bad => exact h
theorem ss_seq {s t : Ev.S} {st : Stmt} {sts : List Stmt} (h1 : PS X st (tS G ec W fr (evS C s))) (h2 : PSs X sts (tS G ec W fr (evS C t))) : PSs X (st :: sts) (tS G ec W fr (evS C (.seq s t))) :=
  (pss_cons h1 h2).imp fun D σ H h => by
    obtain ⟨cs0, H0, Hf0, cb, Hb, ρ, μ, cs, Hf, r, ee, h⟩ := h
    exact ⟨cs0, H0, Hf0, cb, Hb, ρ, μ, cs, Hf, r, ee, PostS.thn h⟩
/-- an own list is frozen -/
theorem Rel.frz (r : Rel G cs0 H0 Hf0 ρ μ cs σ H Hf) {i : Nat} {ds : List D} (e : ρ[i]? = some (.own ds)) : ∃ Hf', Rel G cs0 H0 Hf0 (ρ.set i (.sh (.lst ds))) μ cs σ H Hf' ∧ Ext cs Hf cs Hf' := by
  obtain ⟨ad, vs, q1, q2, q3, q4, q5, q6⟩ := r.own (.inl e)
  have mono : ∀ b u, Hf b = some u → upd Hf ad (.lst vs) b = some u := fun b u q => by rw [upd_ne (fun z => by rw [z, q3] at q; cases q)]; exact q
  refine ⟨upd Hf ad (.lst vs), ⟨r.st.freeze q5 q2 q3 q4 ntb_lst, by simp [r.len], fun j s hj => ?_, fun j l s t x e1 e2 o1 o2 z1 z2 => ?_⟩, mono, fun _ _ z => z⟩
  · rw [get_set] at hj
    split at hj
    · rename_i hh
      cases hj
      rw [← hh.1]
      exact ⟨_, q1, Rep.lst_iff.mpr ⟨ad, vs, rfl, upd_same, Reps.mono mono (fun _ _ z => z) _ _ q6⟩⟩
    · rename_i hh
      have hji : j ≠ i := fun z => by
        subst z
        have hl : j < ρ.length := by
          rcases Nat.lt_or_ge j ρ.length with h | h
          · exact h
          · rw [List.getElem?_eq_none h] at e; cases e
        exact hh ⟨rfl, hl⟩
      have hs := r.slot j s hj
      have own : ∀ es, isOwn s = true → (∃ b ws, σ[j]? = some (some (.ref b)) ∧ H b = some (.lst ws) ∧ Hf b = none ∧ b ∉ cs ∧ Fre H0 b ∧ Reps G cs Hf es ws) → ∃ b ws, σ[j]? = some (some (.ref b)) ∧ H b = some (.lst ws) ∧ upd Hf ad (.lst vs) b = none ∧ b ∉ cs ∧ Fre H0 b ∧ Reps G cs (upd Hf ad (.lst vs)) es ws := fun es ho ⟨b, ws, z1, z2, z3, z4, z5, z6⟩ => by
        have hne : b ≠ ad := fun z => hji (r.apart j i s _ b hj e ho rfl z1 (by rw [z]; exact q1))
        exact ⟨b, ws, z1, z2, by rw [upd_ne hne]; exact z3, z4, z5, Reps.mono mono (fun _ _ z => z) _ _ z6⟩
      cases s with
      | un => trivial
      | sh d => obtain ⟨v, z1, z2⟩ := hs; exact ⟨v, z1, Rep.mono mono (fun _ _ z => z) _ _ z2⟩
      | own es => exact own es rfl hs
      | lent es => exact own es rfl hs
      | exc x => exact ⟨hs.1, hs.2.1, hs.2.2.mono mono (fun _ _ z => z)⟩
  · rw [get_set] at e1 e2
    split at e1
    · cases e1; cases o1
    · split at e2
      · cases e2; cases o2
      · exact r.apart j l s t x e1 e2 o1 o2 z1 z2
theorem ss_frz {i : Nat} {s : Ev.S} {sts : List Stmt} (h : PSs X sts (tS G ec W fr (evS C s))) : PSs X sts (tS G ec W fr (evS C (.frz i s))) := h.imp fun D σ H hh => by
  obtain ⟨cs0, H0, Hf0, cb, Hb, ρ, μ, cs, Hf, r, ee, hh⟩ := hh
  unfold evS at hh
  cases e : ρ[i]? with
  | none => rw [e] at hh; exact ⟨cs0, H0, Hf0, cb, Hb, ρ, μ, cs, Hf, r, ee, hh⟩
  | some sl =>
    rw [e] at hh
    cases sl with
    | own ds =>
      obtain ⟨Hf', r', e'⟩ := r.frz e
      exact ⟨cs0, H0, Hf0, cb, Hb, _, μ, cs, Hf', r', ee.trans e', hh⟩
    | _ => exact ⟨cs0, H0, Hf0, cb, Hb, ρ, μ, cs, Hf, r, ee, hh⟩
theorem ss_if {s t : Ev.S} {x y : List Stmt} (hc : PTt G ec C X W c p) (h1 : PSs X x (tS G ec W fr (evS C s))) (h2 : PSs X y (tS G ec W fr (evS C t))) : PS X (.If p x y pos) (tS G ec W fr (evS C (.cond c s t))) :=
  (ps_if hc h1 h2).imp fun D σ H h => by
    obtain ⟨cs0, H0, Hf0, cb, Hb, ρ, μ, cs, Hf, r, ee, h⟩ := h
    refine ⟨cs0, H0, Hf0, ρ, μ, cs, Hf, r, PostS.bindT r h (fun d μ hd => by cases d <;> first | rfl | exact absurd rfl (hd _)) fun c μ' cs' H' Hf' s q => ?_⟩
    cases c with
    | true => exact ⟨cs0, H0, Hf0, cb, Hb, ρ, μ', cs', Hf', r.step s, ee.step s, q⟩
    | false => exact ⟨cs0, H0, Hf0, cb, Hb, ρ, μ', cs', Hf', r.step s, ee.step s, q⟩
theorem PostS.loop {r1 : R Fl} {N : L2.St → Hp → Prop} {cb' : List Addr} {Hb' : Hp} (he : ∀ cs Hf, Ext cb' Hb' cs Hf → Ext cb Hb cs Hf)
    (h : match r1 with
      | .ok (.nx ρ') μ' => ∀ σ cs H Hf, Rel G cs0 H0 Hf0 ρ' μ' cs σ H Hf → Ext cb' Hb' cs Hf → N σ H
      | .ok (.ct ρ') μ' => ∀ σ cs H Hf, Rel G cs0 H0 Hf0 ρ' μ' cs σ H Hf → Ext cb' Hb' cs Hf → N σ H
      | .ok (.bk ρ') μ' => ∀ σ cs H Hf, Rel G cs0 H0 Hf0 ρ' μ' cs σ H Hf → Ext cb Hb cs Hf → D'.nx σ H
      | .ok (.rt d) μ' => ∀ v cs H Hf, Step G cs0 H0 Hf0 cs H Hf μ' → Prt G fr cs H0 H Hf d v → D'.rt v H
      | .ex x μ' => ∀ σ cls dx cs H Hf, Step G cs0 H0 Hf0 cs H Hf μ' → ExOk G ec cs Hf x cls dx → W cls dx σ H
      | .bad => False) : PostS G ec W fr r1 cs0 H0 Hf0 cb' Hb' { D' with nx := N, ct := N, bk := D'.nx } := by
  cases r1 with
  | ok fl μ' =>
    cases fl with
    | bk ρ' => exact fun σ cs H Hf r e => h σ cs H Hf r (he cs Hf e)
    | _ => exact h
  | ex x μ' => exact h
  | bad => exact h
theorem ss_whl (hp : PassesOwn (model X.prog X.w) X.A X.env X.xe) {s : Ev.S} {x : List Stmt} (hc : PTt G ec C X W c p) (h1 : PSs X x (tS G ec W fr (evS C s))) : PS X (.While p x [] pos) (tS G ec W fr (evS C (.whl c s))) :=
  (ps_while hp hc h1).imp fun D σ H h => by
    obtain ⟨cs0, H0, Hf0, cb, Hb, ρ, μ, cs, Hf, r, ee, h⟩ := h
    have h : PostS G ec W fr (whlL (evE C c) (evS C s) whileMost ρ μ) cs0 H0 Hf0 cb Hb D := h
    refine ⟨fun n σ H => ∃ ρ μ cs Hf, Rel G cs0 H0 Hf0 ρ μ cs σ H Hf ∧ Ext cb Hb cs Hf ∧ PostS G ec W fr (whlL (evE C c) (evS C s) n ρ μ) cs0 H0 Hf0 cb Hb D, ⟨whileMost, ρ, μ, cs, Hf, r, ee, h⟩, ?_⟩
    rintro n σ H ⟨ρ, μ, cs, Hf, r, ee, h⟩
    cases n with
    | zero => exact h.elim
    | succ n =>
      refine ⟨cs0, H0, Hf0, ρ, μ, cs, Hf, r, ?_⟩
      unfold whlL at h
      cases e : evE C c ρ μ with
      | ok d μ' =>
        rw [e] at h
        cases d with
        | bl b =>
          intro cs' H' Hf' st
          cases b with
          | true =>
            rw [if_pos rfl]
            refine ⟨fun σ H => ∃ ρ μ cs Hf, Rel G cs0 H0 Hf0 ρ μ cs σ H Hf ∧ Ext cb Hb cs Hf ∧ PostS G ec W fr (whlL (evE C c) (evS C s) n ρ μ) cs0 H0 Hf0 cb Hb D, fun σ' H' hh => ⟨n, Nat.lt_succ_self n, hh⟩, cs0, H0, Hf0, cb, Hb, ρ, μ', cs', Hf', r.step st, ee.step st, PostS.loop (fun _ _ z => z) ?_⟩
            dsimp only at h
            cases e2 : evS C s ρ μ' with
            | ok fl μ2 =>
              rw [e2] at h
              cases fl with
              | nx ρ' => exact fun σ cs H Hf r ee => ⟨ρ', μ2, cs, Hf, r, ee, h⟩
              | ct ρ' => exact fun σ cs H Hf r ee => ⟨ρ', μ2, cs, Hf, r, ee, h⟩
              | bk ρ' => exact h
              | rt d => exact h
            | ex x μ2 => rw [e2] at h; exact h
            | bad => rw [e2] at h; exact h
          | false =>
            rw [if_neg (by decide)]
            exact h σ cs' H' Hf' (r.step st) (ee.step st)
        | _ => exact h.elim
      | ex x μ' => rw [e] at h; exact fun cls dx cs' H' Hf' st hx => h σ cls dx cs' H' Hf' (r.st.trans st) hx
      | bad => rw [e] at h; exact h.elim
theorem ss_for (g : Good G ec S C k sx X W) (hh : sx.hot = false) (hp : PassesOwn (model X.prog X.w) X.A X.env X.xe) {t : Tg} {it : E} {s : Ev.S} {tg : Expr} {x : List Stmt} (hi : PIf G ec C X W it tg p) (hset : noSet p = true) (ht : t.chk S sx (.inl tg) = true) (h1 : PSs X x (tS G ec W fr (evS C s))) :
    PS X (.For tg p x [] pos) (tS G ec W fr (evS C (.for_ t it s))) :=
  (ps_for hp (g.calm hh) hi ((s_tg g t).1 tg ht) h1 (fun x => fold_none hset)).imp fun D σ H h => by
    obtain ⟨cs0, H0, Hf0, cb, Hb, ρ, μ, cs, Hf, r, ee, h⟩ := h
    refine ⟨cs0, H0, Hf0, ρ, μ, cs, Hf, r, ?_⟩
    unfold evS at h
    cases e : evE C it ρ μ with
    | ok d μ1 =>
      rw [e] at h
      simp only [R.bind_ok] at h
      cases e1 : itemsE it d with
      | none => rw [e1] at h; exact h.elim
      | some ds =>
        rw [e1] at h
        dsimp only at h
        refine ⟨ds, e1, fun J cs' H' Hf' st hi => ?_⟩
        obtain ⟨Gd, Y, hw, hG, hY⟩ := hi
        have e0 := ee.step st
        generalize hF : (fun d ρ μ => (R.of (setTg t d ρ) μ).bind fun ρ μ => evS C s ρ μ) = F at h
        refine for_it hw (fun i σ Hc => ∃ ρc μc csc Hfc, Rel G cs0 H0 Hf0 ρc μc csc σ Hc Hfc ∧ Ext cs' Hf' csc Hfc ∧ PostS G ec W fr (forL F (ds.drop i) ρc μc) cs0 H0 Hf0 cb Hb D) ?_ ?_ ?_ ?_
        · exact ⟨ρ, μ1, cs', Hf', r.step st, Ext.rfl, h⟩
        · rintro i σ Hc hi ⟨ρc, μc, csc, Hfc, rc, k1, _⟩
          exact hG csc Hc Hfc μc ⟨rc.well, k1.1, k1.2, fun _ _ z => nomatch z⟩
        · rintro i x σ Hc Hc' hi ⟨ρc, μc, csc, Hfc, rc, k1, hpost⟩ y
          obtain ⟨Hf3, d, s2, e2, hd⟩ := hY i x Hc Hc' csc Hfc μc hi ⟨rc.well, k1.1, k1.2, fun _ _ z => nomatch z⟩ y
          rw [tail_of e2] at hpost
          unfold forL at hpost
          cases e3 : setTg t d ρc with
          | none =>
            have e4 : F d ρc μc = .bad := by rw [← hF]; dsimp only; rw [e3]; rfl
            rw [e4] at hpost
            exact hpost.elim
          | some ρ' =>
            have e4 : F d ρc μc = evS C s ρ' μc := by rw [← hF]; dsimp only; rw [e3]; rfl
            rw [e4] at hpost
            refine ⟨cs0, H0, Hf0, ρc, μc, csc, Hf3, d, ρ', rc.step s2, hd, e3, fun σ2 r2 _ _ => ?_⟩
            refine ⟨cs0, H0, Hf0, cs', Hf', ρ', μc, csc, Hf3, r2, k1.step s2, PostS.loop (cb := cb) (Hb := Hb) (fun _ _ z => e0.trans z) ?_⟩
            cases e5 : evS C s ρ' μc with
            | ok fl μ2 =>
              rw [e5] at hpost
              cases fl with
              | nx ρ' => exact fun σ cs H Hf r e6 => ⟨ρ', μ2, cs, Hf, r, e6, hpost⟩
              | ct ρ' => exact fun σ cs H Hf r e6 => ⟨ρ', μ2, cs, Hf, r, e6, hpost⟩
              | bk ρ' => exact hpost
              | rt d => exact hpost
            | ex x μ2 => rw [e5] at hpost; exact hpost
            | bad => rw [e5] at hpost; exact hpost
        · rintro σ Hc ⟨ρc, μc, csc, Hfc, rc, k1, hpost⟩
          rw [List.drop_length] at hpost
          exact hpost σ csc Hc Hfc rc (e0.trans k1)
    | ex x μ' => rw [e] at h; exact fun cls dx cs' H' Hf' st hx => h σ cls dx cs' H' Hf' (r.st.trans st) hx
    | bad => rw [e] at h; exact h
end
end Ev
end

section
set_option Elab.async false
set_option linter.all false
set_option maxRecDepth 100000
set_option maxHeartbeats 2000000
namespace Ev
open PySem PySem.Spec PyProof.Rows L2
section
variable {G : Gx} {ec : Nat → Addr} {S : Cs} {C : Fns} {k : Nat} {sx : Sx} {X : Cx} {W : WX} {fr : Bool} {σ : L2.St} {D' : Ends}
variable {a b c : E} {p q r : Expr} {pos : Pos} {cs cs0 : List Addr} {H Hf H0 Hf0 : Hp} {μ : Mu} {ρ : Env} {cb : List Addr} {Hb : Hp}
/-- a target that is a name -/
def nameB (S : Cs) (sx : Sx) (i : Nat) (x : Str) : Bool := decide (S.N[i]? = some x) && (decide (sx.sc.names.lookup x = some .local) || (decide (sx.sc.names.lookup x = some .cell) && sx.fx x))
theorem Good.name (g : Good G ec S C k sx X W) {i : Nat} {x : Str} (h : nameB S sx i x = true) : X.N[i]? = some x ∧ Loc X.env.scope x ∧ (X.fn x = true ∨ X.env.scope.names.lookup x = some .local) := by
  unfold nameB at h
  simp only [Bool.and_eq_true, Bool.or_eq_true, decide_eq_true_eq] at h
  obtain ⟨h1, h2⟩ := h
  refine ⟨by rw [g.hN]; exact h1, ?_, ?_⟩
  · rw [g.sc]
    rcases h2 with h2 | h2
    · exact .inl h2
    · exact .inr h2.1
  · rcases h2 with h2 | h2
    · exact .inr (by rw [g.sc]; exact h2)
    · exact .inl (g.fx x h2.2)
/-- does the comprehension store ahead of letting its names go? -/
def swapB (sc : Scope) (p : Expr) (x : Str) (px : Pos) : Bool := match p with
  | .ListComp _ _ s ps => decide (sc.names.lookup x = some .local) && px.line == ps.line && !(s.names.any fun (n, k) => n == x && (k == .local || k == .cell))
  | _ => false
def noSD : Expr → Bool
  | .SetComp _ _ _ _ => false
  | .DictComp _ _ _ _ _ => false
  | _ => true
theorem sw_false (g : Good G ec S C k sx X W) {x : Str} {px : Pos} {n : Nat} (h : swapB sx.sc p x px = false) (h2 : noSD p = true) : swapsWith p (some (.Name x px)) n X.env = pure false := by
  cases p <;> first | rfl | cases h2 | skip
  rename_i elt gens scope ps
  have e : swapsWith (.ListComp elt gens scope ps) (some (.Name x px)) n X.env = pure (X.env.blockKind == .function && X.env.kindOf x == some .local && px.line == ps.line && !(scope.names.any fun (n, k) => n == x && (k == .local || k == .cell))) := rfl
  rw [e]
  have h' : (decide (sx.sc.names.lookup x = some .local) && px.line == ps.line && !(scope.names.any fun (n, k) => n == x && (k == .local || k == .cell))) = false := h
  have e3 : (X.env.kindOf x == some .local) = decide (sx.sc.names.lookup x = some .local) := by
    show (X.env.scope.names.lookup x == some NameKind.local) = _
    rw [g.sc]
    by_cases hz : sx.sc.names.lookup x = some .local
    · rw [hz]; rfl
    · rw [decide_eq_false hz]; exact beq_eq_false_iff_ne.mpr hz
  rw [e3]
  congr 1
  revert h'
  cases decide (sx.sc.names.lookup x = some .local) <;> cases (px.line == ps.line) <;> cases (!(scope.names.any fun (n, k) => n == x && (k == .local || k == .cell))) <;> simp
theorem isort_dummy : True := trivial
/-- name = value, as the library reads it -/
theorem as_name (g : Good G ec S C k sx X W) {i : Nat} {x : Str} {px : Pos} {P : RX} (hx : nameB S sx i x = true) (hc : a.chk S sx (.e p) = true) (hsd : noSD p = true) (he : PE X p (tE G ec W (evE C a) P)) (hfr : ∀ t it elt cond, a = .comp t it elt cond → P = Pfr G ∨ P = Pst G) :
    PS X (.Assign [.Name x px] p pos) (tAsg (tE G ec W (evE C a) P) (gName i)) := by
  obtain ⟨h1, h2, h3⟩ := g.name hx
  by_cases hs : swapB sx.sc p x px = true
  · cases p <;> first | cases hs | skip
    rename_i elt gens scope ps
    have hs' : (decide (sx.sc.names.lookup x = some .local) && px.line == ps.line && !(scope.names.any fun (n, k) => n == x && (k == .local || k == .cell))) = true := hs
    simp only [Bool.and_eq_true, decide_eq_true_eq, Bool.not_eq_true'] at hs'
    cases a <;> first | (exfalso; cases hc; done) | skip
    rename_i t it el cond
    unfold E.chk at hc
    split at hc <;> first | cases hc | skip
    rename_i heq
    cases Option.some.inj heq
    simp only [Bool.and_eq_true, decide_eq_true_eq, Bool.not_eq_true'] at hc
    obtain ⟨⟨⟨⟨⟨⟨⟨⟨h1', h2'⟩, h3'⟩, h4'⟩, h5'⟩, h6'⟩, h7'⟩, h8'⟩, hh⟩ := hc
    subst h1'
    have hyl : X.env.scope.names.lookup x = some .local := by rw [g.sc]; exact hs'.1.1
    refine PS.ok fun ok => ?_
    have ok' : BlkOk X.N X.env.scope scope (t.own S.N) := by rw [g.hN, g.sc]; exact blkOk_by h4'
    refine (ps_setLc (g.calm hh) g.nd h1 hyl (sw_true ok.kind hyl hs'.1.2 hs'.2) ((snd it sx X W g).pi _ _ h2') ok' (fun s H Ca cl fp => (s_tg (g.blk hh) t).1 _ h3') (fun s H Ca cl fp => (snd cond _ _ _ (g.blk hh)).pc h7' h8') (fun s H Ca cl fp => (snd el _ _ _ (g.blk hh)).se h5' h6') (fun x => fold_none (noSet_of h2'))).imp fun D σ H h => ?_
    rw [own_slots]
    refine s_compAux ?_
    rcases hfr _ _ _ _ rfl with e | e
    · rw [e] at h; exact h
    · rw [e] at h; exact tE.st_fr h
  · exact (ps_set g.nd h1 h2 he (sw_false g (by simpa using hs) hsd) h3)
theorem ss_asg (g : Good G ec S C k sx X W) {own : Bool} {i : Nat} {x : Str} {px : Pos} (hx : nameB S sx i x = true) (hc : a.chk S sx (.e p) = true) (hsd : noSD p = true) (ho : if own = true then a.fr S.ff = true else a.isPk = false) :
    PS X (.Assign [.Name x px] p pos) (tS G ec W fr (evS C (.asg own (.name i) a))) := by
  have sn := snd a sx X W g
  cases own with
  | true =>
    have ho : a.fr S.ff = true := ho
    have hp : a.isPk = false := by cases a <;> first | rfl | cases ho
    have he : PE X p (tE G ec W (evE C a) (Pfr G)) := by
      rcases sn.pe _ p hc rfl with q | ⟨es, q | q | q⟩
      · rw [kd_fr hp ho] at q; exact q
      · rw [q] at ho; cases ho
      · rw [q] at ho; cases ho
      · rw [q] at ho; cases ho
    refine (as_name g hx hc hsd he (fun _ _ _ _ _ => .inl rfl)).imp fun D σ H h => ?_
    obtain ⟨cs0, H0, Hf0, cb, Hb, ρ, μ, cs, Hf, r, ee, h⟩ := h
    exact ⟨cs0, H0, Hf0, ρ, μ, cs, Hf, r, PostS.bind r h fun d μ' v cs' H' Hf' s hp q => q _ cs' H' Hf' (r.setOwn s hp) (ee.step s)⟩
  | false =>
    have ho : a.isPk = false := ho
    refine (as_name g hx hc hsd (sn.se hc ho) (fun _ _ _ _ _ => .inr rfl)).imp fun D σ H h => ?_
    obtain ⟨cs0, H0, Hf0, cb, Hb, ρ, μ, cs, Hf, r, ee, h⟩ := h
    exact ⟨cs0, H0, Hf0, ρ, μ, cs, Hf, r, PostS.bind r h fun d μ' v cs' H' Hf' s hp q => q _ cs' H' Hf' ((r.step s).set hp) (ee.step s)⟩
/-- no exchanged stores -/
theorem sw_const {ts vs : List Expr} {k1 k2 : Nat} {p1 p2 : Pos} {env : PySem.Env} (h : vs.all (foldedForSure 8) = true) : swappedStores [.Tuple ts k1 p1] (.Tuple vs k2 p2) env = pure none := by
  unfold swappedStores
  simp only [h, if_true]
  split <;> first | rfl | skip
  split <;> first | rfl | skip
  split <;> rfl
def noTup : Expr → Bool
  | .Tuple _ _ _ => false
  | _ => true
theorem sw_notup {t : Expr} {env : PySem.Env} (h : noTup p = true) : swappedStores [t] p env = pure none := by
  cases p <;> first | (cases t <;> rfl) | cases h
def nonLoc (sc : Scope) : Expr → Bool
  | .Name x _ => !decide (sc.names.lookup x = some .local)
  | _ => true
def cellT (sc : Scope) : Expr → Bool
  | .Tuple ts _ _ => ts.any (nonLoc sc)
  | _ => false
def foldB (sc : Scope) (tg p : Expr) : Bool := match p with
  | .Tuple vs _ _ => vs.all (foldedForSure 8) || cellT sc tg
  | _ => true
theorem fm_lt {α β : Type} {f : α → Option β} : ∀ {l : List α}, (∃ a ∈ l, f a = none) → (l.filterMap f).length < l.length
  | [], h => by obtain ⟨a, h, _⟩ := h; cases h
  | b :: r, h => by
    rw [List.filterMap_cons]
    cases q : f b with
    | none =>
      have := List.length_filterMap_le f r
      show (r.filterMap f).length < r.length + 1
      omega
    | some c =>
      obtain ⟨a, h1, h2⟩ := h
      rcases List.mem_cons.mp h1 with rfl | h1
      · rw [q] at h2; cases h2
      · have := fm_lt (l := r) ⟨a, h1, h2⟩
        show (r.filterMap f).length + 1 < r.length + 1
        omega
theorem sw_cell {ts vs : List Expr} {k1 k2 : Nat} {p1 p2 : Pos} {env : PySem.Env} (h : ts.any (nonLoc env.scope) = true) : swappedStores [.Tuple ts k1 p1] (.Tuple vs k2 p2) env = pure none := by
  unfold swappedStores
  have key : ∀ line : Nat, ((ts.filterMap fun
    | .Name id pos => if env.kindOf id == some NameKind.local && pos.line == line then some id else none
    | _ => none).length != ts.length) = true := fun line => by
    rw [List.any_eq_true] at h
    obtain ⟨a, h1, h2⟩ := h
    have := fm_lt (l := ts) (f := fun
      | .Name id pos => if env.kindOf id == some NameKind.local && pos.line == line then some id else none
      | _ => none) ⟨a, h1, by
        cases a <;> first | rfl | skip
        rename_i x pos
        have h2 : (!decide (env.scope.names.lookup x = some .local)) = true := h2
        simp only [Bool.not_eq_true', decide_eq_false_iff_not] at h2
        have : (env.kindOf x == some NameKind.local) = false := by
          show (env.scope.names.lookup x == some NameKind.local) = false
          cases q : (env.scope.names.lookup x == some NameKind.local) with
          | false => rfl
          | true => exact absurd (beq_iff_eq.mp q) h2
        show (if (env.kindOf x == some NameKind.local && pos.line == line) = true then some x else none) = none
        rw [this]
        rfl⟩
    simp only [bne_iff_ne, ne_eq]
    omega
  dsimp only
  split <;> first | rfl | skip
  split <;> first | rfl | skip
  rw [if_pos (by rw [Bool.or_eq_true]; exact .inl (key _))]
/-- a tuple of targets -/
theorem ss_asgT (g : Good G ec S C k sx X W) {own : Bool} {t : Tg} {tg : Expr} (ht : t.chk S sx (.inl tg) = true) (hn : isTupE tg = true) (hc : a.chk S sx (.e p) = true) (hsd : noSD p = true) (ho : a.isPk = false) (hf : foldB sx.sc tg p = true) (hnm : ∀ i, t ≠ .name i) :
    PS X (.Assign [tg] p pos) (tS G ec W fr (evS C (.asg own t a))) := by
  have sn := snd a sx X W g
  cases tg <;> first | cases hn | skip
  rename_i ts k1 p1
  refine (ps_asg (sn.se hc ho) ((s_tg g t).1 _ ht) ?_ ?_ rfl).imp fun D σ H h => ?_
  · show swapsWith p (some (.Tuple ts k1 p1)) pos.line X.env = pure false
    cases p <;> first | rfl | cases hsd
  · cases p <;> first | rfl | skip
    have hf := Bool.or_eq_true_iff.mp hf
    rcases hf with hf | hf
    · exact sw_const hf
    · exact sw_cell (by rw [g.sc]; exact hf)
  · obtain ⟨cs0, H0, Hf0, cb, Hb, ρ, μ, cs, Hf, r, ee, h⟩ := h
    have e : ∀ ρ μ, evS C (.asg own t a) ρ μ = (evE C a ρ μ).bind fun d μ => (R.of (setTg t d ρ) μ).bind fun ρ μ => .ok (.nx ρ) μ := fun ρ μ => by
      cases t <;> first | exact absurd rfl (hnm _) | rfl
    rw [e] at h
    refine ⟨cs0, H0, Hf0, ρ, μ, cs, Hf, r, PostS.bind r h fun d μ' v cs' H' Hf' s hp q => ?_⟩
    cases e2 : setTg t d ρ with
    | none => rw [e2] at q; exact q.elim
    | some ρ' =>
      rw [e2] at q
      exact ⟨cs0, H0, Hf0, ρ, μ', cs', Hf', d, ρ', r.step s, hp, e2, fun σ' r' _ _ => q σ' cs' H' Hf' r' (ee.step s)⟩
/-- an own list changes -/
theorem Rel.wr (r : Rel G cs0 H0 Hf0 ρ μ cs σ H Hf) {i : Nat} {ds ds' : List D} {vs' : List V} {ad : Addr} {vs : List V} (e : ρ[i]? = some (.own ds)) (q1 : σ[i]? = some (some (.ref ad))) (q2 : H ad = some (.lst vs)) (q3 : Hf ad = none) (q4 : ad ∉ cs) (q5 : Fre H0 ad) (hr : Reps G cs Hf ds' vs') :
    Rel G cs0 H0 Hf0 (ρ.set i (.own ds')) μ cs σ (upd H ad (.lst vs')) Hf := by
  refine ⟨r.st.wrote q5 ⟨_, q2⟩ q3 q4, by simp [r.len], fun j s hj => ?_, fun j l s t x e1 e2 o1 o2 z1 z2 => ?_⟩
  · rw [get_set] at hj
    split at hj
    · rename_i hh
      cases hj
      rw [← hh.1]
      exact ⟨ad, vs', q1, upd_same, q3, q4, q5, hr⟩
    · rename_i hh
      have hji : j ≠ i := fun z => by
        subst z
        have hl : j < ρ.length := by
          rcases Nat.lt_or_ge j ρ.length with h | h
          · exact h
          · rw [List.getElem?_eq_none h] at e; cases e
        exact hh ⟨rfl, hl⟩
      have hs := r.slot j s hj
      have own : ∀ es, isOwn s = true → (∃ b ws, σ[j]? = some (some (.ref b)) ∧ H b = some (.lst ws) ∧ Hf b = none ∧ b ∉ cs ∧ Fre H0 b ∧ Reps G cs Hf es ws) → ∃ b ws, σ[j]? = some (some (.ref b)) ∧ upd H ad (.lst vs') b = some (.lst ws) ∧ Hf b = none ∧ b ∉ cs ∧ Fre H0 b ∧ Reps G cs Hf es ws := fun es ho ⟨b, ws, z1, z2, z3, z4, z5, z6⟩ => by
        have hne : b ≠ ad := fun z => hji (r.apart j i s _ b hj e ho rfl z1 (by rw [z]; exact q1))
        exact ⟨b, ws, z1, by rw [upd_ne hne]; exact z2, z3, z4, z5, z6⟩
      cases s with
      | un => trivial
      | sh d => exact hs
      | own es => exact own es rfl hs
      | lent es => exact own es rfl hs
      | exc x => exact hs
  · rw [get_set] at e1 e2
    have kk : ∀ (j : Nat) (s : Slot), (if i = j ∧ j < ρ.length then some (Slot.own ds') else ρ[j]?) = some s → isOwn s = true → ∃ s', ρ[j]? = some s' ∧ isOwn s' = true := fun j s h o => by
      split at h
      · rename_i hh
        rw [← hh.1]
        exact ⟨_, e, rfl⟩
      · exact ⟨s, h, o⟩
    obtain ⟨s', y1, y2⟩ := kk j s e1 o1
    obtain ⟨t', y3, y4⟩ := kk l t e2 o2
    exact r.apart j l s' t' x y1 y3 y2 y4 z1 z2
theorem ss_app (g : Good G ec S C k sx X W) {i : Nat} {x : Str} {px apos cpos : Pos} (hx : varB S sx.sc i x = true) (he : PE X q (tE G ec W (evE C a) (Pst G))) (hst : isStar q = false) (hl : (apos.endLine == cpos.line) = true) :
    PS X (.Expr (.Call (.Attribute (.Name x px) "append" apos) [q] [] cpos) pos) (tS G ec W fr (evS C (.app i a))) := by
  obtain ⟨h1, h2, h3, h4⟩ := g.var hx
  have hpe := pe_bm (X := X) (T := "list") PySem.F.plainAttrs_list PySem.F.slot_list_append PySem.F.type_list_append mt_append (pe_var (pos := px) h1 h2 h3 h4) (pa_cons he pa_nil (star_cons hst)) (apos := apos) (cpos := cpos) rfl (by rw [star_cons hst]; rfl) hl (star_cons hst) rfl
  refine (ps_expr hpe rfl).imp fun D σ H h => ?_
  obtain ⟨cs0, H0, Hf0, cb, Hb, ρ, μ, cs, Hf, r, ee, h⟩ := h
  unfold evS at h
  cases e : ρ[i]? with
  | none => rw [e] at h; exact h.elim
  | some s =>
    rw [e] at h
    cases s with
    | own ds =>
      obtain ⟨ad, vs, q1, q2, q3, q4, q5, q6⟩ := r.own (.inl e)
      refine ⟨_, q1, .inl ⟨rfl, vs, .inl (.inl q2)⟩, ?_⟩
      refine ⟨cs0, H0, Hf0, ρ, μ, cs, Hf, r, PostS.bind r h fun d μ' v cs' H' Hf' s hp hq => ?_⟩
      have l := s.loose_at q2 q3 q4
      have q6' := s.reps q6
      split at hq
      · rename_i hlen
        refine ⟨ad, vs, v, rfl, rfl, l.1, by rw [← q6.len]; exact hlen, ?_⟩
        exact hq _ cs' _ Hf' ((r.step s).wr e q1 l.1 l.2.1 l.2.2 q5 (q6'.append (Reps.cons hp Reps.nil))) (ee.step s)
      · exact hq.elim
    | _ => exact h.elim
theorem ss_ext (g : Good G ec S C k sx X W) {i : Nat} {x : Str} {px apos cpos : Pos} (hx : varB S sx.sc i x = true) (he : PEw G ec C X W a q) (hst : isStar q = false) (hl : (apos.endLine == cpos.line) = true) :
    PS X (.Expr (.Call (.Attribute (.Name x px) "extend" apos) [q] [] cpos) pos) (tS G ec W fr (evS C (.ext i a))) := by
  obtain ⟨h1, h2, h3, h4⟩ := g.var hx
  have hpe := pe_bm (X := X) (T := "list") PySem.F.plainAttrs_list PySem.F.slot_list_extend PySem.F.type_list_extend mt_extend (pe_var (pos := px) h1 h2 h3 h4) (pa_cons he pa_nil (star_cons hst)) (apos := apos) (cpos := cpos) rfl (by rw [star_cons hst]; rfl) hl (star_cons hst) rfl
  refine (ps_expr hpe rfl).imp fun D σ H h => ?_
  obtain ⟨cs0, H0, Hf0, cb, Hb, ρ, μ, cs, Hf, r, ee, h⟩ := h
  unfold evS at h
  cases e : ρ[i]? with
  | none => rw [e] at h; exact h.elim
  | some s =>
    rw [e] at h
    cases s with
    | own ds =>
      obtain ⟨ad, vs, q1, q2, q3, q4, q5, q6⟩ := r.own (.inl e)
      refine ⟨_, q1, .inl ⟨rfl, vs, .inl (.inl q2)⟩, ?_⟩
      refine ⟨cs0, H0, Hf0, ρ, μ, cs, Hf, r, PostS.bind r h fun d μ' v cs' H' Hf' s hp hq => ?_⟩
      have l := s.loose_at q2 q3 q4
      have q6' := s.reps q6
      cases d with
      | lst es =>
        dsimp only at hq
        obtain ⟨b, ws, z1, z2, z3⟩ := Rw.lst s.well hp
        split at hq
        · rename_i hlen
          refine ⟨ad, b, vs, ws, rfl, by rw [z1], l.1, z2, by rw [← q6.len, ← z3.len]; exact hlen, ?_⟩
          exact hq _ cs' _ Hf' ((r.step s).wr e q1 l.1 l.2.1 l.2.2 q5 (q6'.append z3)) (ee.step s)
        · exact hq.elim
      | _ => exact hq.elim
    | _ => exact h.elim
end
end Ev
end

section
set_option Elab.async false
set_option linter.all false
set_option maxRecDepth 100000
set_option maxHeartbeats 2000000
namespace Ev
open PySem PySem.Spec PyProof.Rows L2
section
variable {G : Gx} {ec : Nat → Addr} {S : Cs} {C : Fns} {k : Nat} {sx : Sx} {X : Cx} {W : WX} {fr : Bool} {σ : L2.St} {D' : Ends}
variable {a b c : E} {p q r : Expr} {pos : Pos} {cs cs0 : List Addr} {H Hf H0 Hf0 : Hp} {μ : Mu} {ρ : Env} {cb : List Addr} {Hb : Hp}
def locB (S : Cs) (sx : Sx) (i : Nat) (x : Str) : Bool := decide (S.N[i]? = some x) && decide (sx.sc.names.lookup x = some .local)
theorem swap2 {x y : Str} {px py pt pt2 : Pos} {kt k2 : Nat} {env : PySem.Env} (hk : env.scope.kind = .function) (hx : env.scope.names.lookup x = some .local) (hy : env.scope.names.lookup y = some .local) (hl : (py.line == px.line) = true) (hxy : (y == x) = false)
    (hp : isStar p = false) (hq : isStar q = false) (h1 : [p, q].all (foldedForSure 8) = false) (h2 : [p, q].all (constantsAlone 8) = false) : swappedStores [.Tuple [.Name x px, .Name y py] kt pt] (.Tuple [p, q] k2 pt2) env = pure (some [x, y]) := by
  have hb : (env.blockKind != ScopeKind.function) = false := by
    unfold PySem.Env.blockKind
    rw [hk]; rfl
  have hs : ([p, q].any fun | .Starred .. => true | _ => false) = false := by
    have f1 : ∀ e : Expr, isStar e = false → (match e with | .Starred .. => true | _ => false) = false := fun e h => by cases e <;> first | rfl | cases h
    simp only [List.any_cons, List.any_nil, f1 p hp, f1 q hq, Bool.or_self]
  have kx : (env.kindOf x == some NameKind.local) = true := by
    show (env.scope.names.lookup x == some NameKind.local) = true
    rw [hx]; rfl
  have ky : (env.kindOf y == some NameKind.local) = true := by
    show (env.scope.names.lookup y == some NameKind.local) = true
    rw [hy]; rfl
  have hl' : (px.line == px.line) = true := beq_self_eq_true _
  unfold swappedStores
  simp only [List.length_cons, List.length_nil, hb, hs, kx, ky, hl, hl', h1, h2, List.filterMap, Bool.and_self, if_true, List.head?, Option.map, Expr.pos, Option.getD]
  have e : (([x, y] : List Str).eraseDups).length = 2 := by
    simp [List.eraseDups, List.eraseDupsBy, List.eraseDupsBy.loop, hxy]
  simp only [e, List.any_cons, List.any_nil]
  rw [if_neg (by decide)]
  split
  · cases hp
  · split
    · cases hq
    · rfl
theorem ss_par2 (g : Good G ec S C k sx X W) (hh : sx.hot = false) {i j : Nat} {x y : Str} {px py pt pt2 : Pos} {kt k2 : Nat} {es : E} (hx : locB S sx i x = true) (hy : locB S sx j y = true) (hij : i ≠ j) (hl : (py.line == px.line) = true) (hxy : (y == x) = false)
    (hc : es.chk S sx (.a [p, q]) = true) (hst : es.stA = true) (h1 : [p, q].all (foldedForSure 8) = false) (h2 : [p, q].all (constantsAlone 8) = false) :
    PS X (.Assign [.Tuple [.Name x px, .Name y py] kt pt] (.Tuple [p, q] k2 pt2) pos) (tS G ec W fr (evS C (.par [i, j] es))) := by
  unfold locB at hx hy
  simp only [Bool.and_eq_true, decide_eq_true_eq] at hx hy
  have ns := chkA_stars hc
  unfold noStars noStars at ns
  simp only [Bool.and_eq_true, Bool.not_eq_true'] at ns
  refine PS.ok fun ok => ?_
  have lx : X.env.scope.names.lookup x = some .local := by rw [g.sc]; exact hx.2
  have ly : X.env.scope.names.lookup y = some .local := by rw [g.sc]; exact hy.2
  refine (ps_par (g.calm hh) g.nd (by rw [g.hN]; exact hx.1) (by rw [g.hN]; exact hy.1) hij lx ly ((snd es sx X W g).paS _ hc hst) (swap2 ok.kind lx ly hl hxy ns.1 ns.2.1 h1 h2)).imp fun D σ H h => ?_
  obtain ⟨cs0, H0, Hf0, cb, Hb, ρ, μ, cs, Hf, r, ee, h⟩ := h
  refine ⟨cs0, H0, Hf0, ρ, μ, cs, Hf, r, ?_⟩
  unfold evS at h
  cases e : evE C es ρ μ with
  | ok d μ' =>
    rw [e] at h
    obtain ⟨ds, rfl⟩ := evE_tup hc e
    intro vs cs' H' Hf' s hv
    have hlen := evE_len hc e
    match ds, hlen, hv with
    | [d1, d2], _, hv =>
      obtain ⟨v, r1, rfl, hx, hr⟩ := Reps.cons_iff.mp hv
      obtain ⟨w, r2, rfl, hy, hr⟩ := Reps.cons_iff.mp hr
      cases Reps.nil_iff.mp hr
      refine ⟨v, w, rfl, ?_⟩
      exact h _ cs' H' Hf' (((r.step s).set hx).set hy) (ee.step s)
  | ex x μ' => rw [e] at h; exact fun cls dx cs' H' Hf' st hx => h σ cls dx cs' H' Hf' (r.st.trans st) hx
  | bad => rw [e] at h; exact h.elim
theorem swap3 {x y z : Str} {px py pz pt pt2 : Pos} {kt k2 : Nat} {env : PySem.Env} (hk : env.scope.kind = .function) (hx : env.scope.names.lookup x = some .local) (hy : env.scope.names.lookup y = some .local) (hz : env.scope.names.lookup z = some .local) (hl : (py.line == px.line) = true) (hl2 : (pz.line == px.line) = true) (hxy : (y == x) = false) (hxz : (z == x) = false) (hyz : (z == y) = false)
    (hp : isStar p = false) (hq : isStar q = false) (hr : isStar r = false) (h1 : [p, q, r].all (foldedForSure 8) = false) (h2 : [p, q, r].all (constantsAlone 8) = false) : swappedStores [.Tuple [.Name x px, .Name y py, .Name z pz] kt pt] (.Tuple [p, q, r] k2 pt2) env = pure (some [x, y, z]) := by
  have hb : (env.blockKind != ScopeKind.function) = false := by
    unfold PySem.Env.blockKind
    rw [hk]; rfl
  have hs : ([p, q, r].any fun | .Starred .. => true | _ => false) = false := by
    have f1 : ∀ e : Expr, isStar e = false → (match e with | .Starred .. => true | _ => false) = false := fun e h => by cases e <;> first | rfl | cases h
    simp only [List.any_cons, List.any_nil, f1 p hp, f1 q hq, f1 r hr, Bool.or_self]
  have kx : (env.kindOf x == some NameKind.local) = true := by
    show (env.scope.names.lookup x == some NameKind.local) = true
    rw [hx]; rfl
  have ky : (env.kindOf y == some NameKind.local) = true := by
    show (env.scope.names.lookup y == some NameKind.local) = true
    rw [hy]; rfl
  have kz : (env.kindOf z == some NameKind.local) = true := by
    show (env.scope.names.lookup z == some NameKind.local) = true
    rw [hz]; rfl
  have hl' : (px.line == px.line) = true := beq_self_eq_true _
  unfold swappedStores
  simp only [List.length_cons, List.length_nil, hb, hs, kx, ky, kz, hl, hl2, hl', h1, h2, List.filterMap, Bool.and_self, if_true, List.head?, Option.map, Expr.pos, Option.getD]
  have e : (([x, y, z] : List Str).eraseDups).length = 3 := by
    simp [List.eraseDups, List.eraseDupsBy, List.eraseDupsBy.loop, hxy, hxz, hyz]
  simp only [e, List.any_cons, List.any_nil]
  rw [if_neg (by decide)]
  split
  · cases hp
  · split
    · cases hq
    · split
      · cases hr
      · rfl
/-- slots for what is stored -/
def slotsX : List Bool → List D → Env
  | o :: os, d :: ds => newSlot o d :: slotsX os ds
  | _, _ => []
theorem Rel.re {ρ' : Env} {σ' : L2.St} (r : Rel G cs0 H0 Hf0 ρ μ cs σ H Hf) (f : Nat → Nat) (hl : ρ'.length = σ'.length) (h : ∀ k s, ρ'[k]? = some s → ρ[f k]? = some s ∧ σ'[k]? = σ[f k]?)
    (inj : ∀ (k l : Nat) (s t : Slot), ρ'[k]? = some s → ρ'[l]? = some t → f k = f l → k = l) : Rel G cs0 H0 Hf0 ρ' μ cs σ' H Hf :=
  ⟨r.st, hl, fun k s e => by rw [(h k s e).2]; exact r.slot _ s (h k s e).1, fun k l s t a e1 e2 o1 o2 q1 q2 => inj k l s t e1 e2 (r.apart _ _ s t a (h k s e1).1 (h l t e2).1 o1 o2 (by rw [← (h k s e1).2]; exact q1) (by rw [← (h l t e2).2]; exact q2))⟩
theorem Rel.front {ρx : Env} {σx : L2.St} (r : Rel G cs0 H0 Hf0 (ρ ++ ρx) μ cs (σ ++ σx) H Hf) (hl : ρ.length = σ.length) : Rel G cs0 H0 Hf0 ρ μ cs σ H Hf :=
  r.re id hl (fun k s e => by
    have hk : k < ρ.length := List.getElem?_eq_some_iff.mp e |>.1
    exact ⟨by rw [id, List.getElem?_append_left hk]; exact e, by rw [id, List.getElem?_append_left (by omega)]⟩) fun _ _ _ _ _ _ z => z
theorem Rel.pad (r : Rel G cs0 H0 Hf0 ρ μ cs σ H Hf) : Rel G cs0 H0 Hf0 (ρ ++ [.un]) μ cs (σ ++ [none]) H Hf := by
  have hl := r.len
  have key : ∀ (j : Nat) (s : Slot), (ρ ++ [Slot.un])[j]? = some s → (j < ρ.length ∧ ρ[j]? = some s) ∨ s = .un := fun j s e => by
    by_cases hj : j < ρ.length
    · rw [List.getElem?_append_left hj] at e
      exact .inl ⟨hj, e⟩
    · rw [List.getElem?_append_right (by omega)] at e
      cases h : j - ρ.length with
      | zero => rw [h] at e; cases e; exact .inr rfl
      | succ k => rw [h] at e; cases e
  refine ⟨r.st, by simp [hl], fun j s e => ?_, fun j l s t a e1 e2 o1 o2 q1 q2 => ?_⟩
  · rcases key j s e with ⟨hj, e'⟩ | rfl
    · rw [List.getElem?_append_left (by omega)]
      exact r.slot j s e'
    · trivial
  · rcases key j s e1 with ⟨hj, e1'⟩ | rfl
    · rcases key l t e2 with ⟨hk, e2'⟩ | rfl
      · rw [List.getElem?_append_left (by omega)] at q1 q2
        exact r.apart j l s t a e1' e2' o1 o2 q1 q2
      · cases o2
    · cases o1
theorem Rel.push {cs' : List Addr} {H' Hf' : Hp} {μ' : Mu} (r : Rel G cs0 H0 Hf0 ρ μ cs σ H Hf) (s : Step G cs H Hf cs' H' Hf' μ') {o : Bool} {d : D} {v : V} (h : (if o = true then Pfr G else Pst G) cs' H H' Hf' d v) :
    Rel G cs0 H0 Hf0 (ρ ++ [newSlot o d]) μ' cs' (σ ++ [some v]) H' Hf' := by
  have e1 : (ρ ++ [Slot.un]).set ρ.length (newSlot o d) = ρ ++ [newSlot o d] := by simp [List.set_append]
  have e2 : (σ ++ [none]).set ρ.length (some v) = σ ++ [some v] := by rw [r.len]; simp [List.set_append]
  have p := r.pad
  cases o with
  | true =>
    have h : Pfr G cs' H H' Hf' d v := h
    have q := p.setOwn s (i := ρ.length) h
    rw [e1, e2] at q
    exact q
  | false =>
    have h : Rep G cs' Hf' d v := h
    have q := (p.step s).set (i := ρ.length) h
    have e3 : newSlot false d = .sh d := by cases d <;> rfl
    rw [← e3, e1, e2] at q
    exact q
theorem Rel.mv {ρx : Env} {σx : L2.St} {s : Slot} {o : Option V} (r : Rel G cs0 H0 Hf0 (ρ ++ s :: ρx) μ cs (σ ++ o :: σx) H Hf) (hl : ρ.length = σ.length) (i : Nat) : Rel G cs0 H0 Hf0 (ρ.set i s ++ ρx) μ cs (σ.set i o ++ σx) H Hf := by
  have hx := r.len
  simp at hx
  have key : ∀ {α : Type} (l : List α) (x : α) (m : List α) (k : Nat), l.length = ρ.length → (l.set i x ++ m)[k]? = (l ++ x :: m)[if k < ρ.length then (if k = i then ρ.length else k) else k + 1]? := fun l x m k hn => by
    by_cases hk : k < ρ.length
    · rw [if_pos hk, List.getElem?_append_left (by simp; omega), get_set]
      by_cases hi : k = i
      · subst hi
        rw [if_pos rfl, if_pos ⟨rfl, by omega⟩, List.getElem?_append_right (by omega), hn]
        simp
      · rw [if_neg hi, if_neg (fun z => hi z.1.symm), List.getElem?_append_left (by omega)]
    · rw [if_neg hk, List.getElem?_append_right (by simp; omega), List.getElem?_append_right (by omega), List.length_set]
      rw [show k + 1 - l.length = (k - l.length) + 1 by omega]
      rfl
  refine r.re (fun k => if k < ρ.length then (if k = i then ρ.length else k) else k + 1) (by simp; omega) (fun k t e => ⟨by rw [← key ρ s ρx k rfl]; exact e, by rw [key σ o σx k hl.symm]⟩) fun k l t u _ _ z => ?_
  split at z
  · split at z
    · split at z
      · split at z <;> omega
      · omega
    · split at z
      · split at z <;> omega
      · omega
  · split at z
    · split at z <;> omega
    · omega
def PostAx (G : Gx) (ec : Nat → Addr) (W : WX) (σ : L2.St) (cs0 : List Addr) (H0 Hf0 : Hp) (ρe : Env) (σe : L2.St) (os : List Bool) (r : R D) (cs : List Addr) (H Hf : Hp) (Q : List V → Hp → Prop) : Prop := match r with
  | .ok (.tup ds) μ' => ∀ vs cs' H' Hf', Step G cs H Hf cs' H' Hf' μ' → Rel G cs0 H0 Hf0 (ρe ++ slotsX os ds) μ' cs' (σe ++ vs.map some) H' Hf' → ds.length = os.length → vs.length = os.length → Q vs H'
  | .ex x μ' => ∀ cls dx cs' H' Hf', Step G cs H Hf cs' H' Hf' μ' → ExOk G ec cs' Hf' x cls dx → W cls dx σ H'
  | _ => False
def tAx (G : Gx) (ec : Nat → Addr) (W : WX) (os : List Bool) (ev : Env → Mu → R D) : TA := fun σ H Q => ∃ cs0 H0 Hf0 ρ ρx σx μ cs Hf, Rel G cs0 H0 Hf0 (ρ ++ ρx) μ cs (σ ++ σx) H Hf ∧ ρ.length = σ.length ∧ PostAx G ec W σ cs0 H0 Hf0 (ρ ++ ρx) (σ ++ σx) os (ev ρ μ) cs H Hf Q
def xasA (T : Cs) (sx : Sx) : List Bool → E → List Expr → Bool
  | [], .nil, [] => true
  | o :: os, .cons a t, p :: ps => a.chk T sx (.e p) && !isStar p && (if o = true then a.fr T.ff else !a.isPk) && xasA T sx os t ps
  | _, _, _ => false
theorem s_xa (g : Good G ec S C k sx X W) : ∀ (os : List Bool) (e : E) (ps : List Expr), xasA S sx os e ps = true → PA X ps (tAx G ec W os (evE C e))
  | [], .nil, [], _ => pa_nil.imp fun σ H Q h => by
    obtain ⟨cs0, H0, Hf0, ρ, ρx, σx, μ, cs, Hf, r, hl, h⟩ := h
    exact h [] cs H Hf r.well (by simpa [slotsX] using r) rfl rfl
  | o :: os, .cons a t, p :: ps, hc => by
    simp only [xasA, Bool.and_eq_true, Bool.not_eq_true'] at hc
    obtain ⟨⟨⟨h1, h2⟩, h3⟩, h4⟩ := hc
    have sn := snd a sx X W g
    have ha : PE X p (tE G ec W (evE C a) (if o = true then Pfr G else Pst G)) := by
      cases o with
      | true =>
        have ho : a.fr S.ff = true := h3
        have hp : a.isPk = false := by cases a <;> first | rfl | cases ho
        rcases sn.pe _ p h1 rfl with q | ⟨es, q | q | q⟩
        · rw [kd_fr hp ho] at q; exact q
        · rw [q] at ho; cases ho
        · rw [q] at ho; cases ho
        · rw [q] at ho; cases ho
      | false => exact sn.se h1 (by simpa using h3)
    refine (pa_cons ha (s_xa g os t ps h4) (star_cons h2)).imp fun σ H Q h => ?_
    obtain ⟨cs0, H0, Hf0, ρ, ρx, σx, μ, cs, Hf, r, hl, h⟩ := h
    refine ⟨cs0, H0, Hf0, ρ, μ, cs, Hf, r.front hl, ?_⟩
    unfold evE at h
    cases q : evE C a ρ μ with
    | ok d μ' =>
      rw [q] at h
      intro v cs' H' Hf' s hp
      have r2 := r.push s hp
      refine ⟨cs0, H0, Hf0, ρ, ρx ++ [newSlot o d], σx ++ [some v], μ', cs', Hf', by simpa using r2, hl, ?_⟩
      simp only [R.bind_ok] at h
      cases q2 : evE C t ρ μ' with
      | ok e μ2 =>
        rw [q2] at h
        cases e with
        | tup ds => exact fun vs cs2 H2 Hf2 s2 hv n1 n2 => h (v :: vs) cs2 H2 Hf2 (s.trans s2) (by simpa [slotsX] using hv) (by simp [n1]) (by simp [n2])
        | _ => exact h.elim
      | ex x μ2 => rw [q2] at h; exact fun cls dx cs2 H2 Hf2 s2 hx => h cls dx cs2 H2 Hf2 (s.trans s2) hx
      | bad => rw [q2] at h; exact h
    | ex x μ' => rw [q] at h; exact h
    | bad => rw [q] at h; exact h
theorem ss_xas2 (g : Good G ec S C k sx X W) (hh : sx.hot = false) {i j : Nat} {x y : Str} {px py pt pt2 : Pos} {kt k2 : Nat} {o1 o2 : Bool} {es : E} (hx : locB S sx i x = true) (hy : locB S sx j y = true) (hij : i ≠ j) (hl : (py.line == px.line) = true) (hxy : (y == x) = false)
    (hc : xasA S sx [o1, o2] es [p, q] = true) (hp : isStar p = false) (hq : isStar q = false) (h1 : [p, q].all (foldedForSure 8) = false) (h2 : [p, q].all (constantsAlone 8) = false) :
    PS X (.Assign [.Tuple [.Name x px, .Name y py] kt pt] (.Tuple [p, q] k2 pt2) pos) (tS G ec W fr (evS C (.xas [o1, o2] [i, j] es))) := by
  unfold locB at hx hy
  simp only [Bool.and_eq_true, decide_eq_true_eq] at hx hy
  refine PS.ok fun ok => ?_
  have lx : X.env.scope.names.lookup x = some .local := by rw [g.sc]; exact hx.2
  have ly : X.env.scope.names.lookup y = some .local := by rw [g.sc]; exact hy.2
  refine (ps_par (g.calm hh) g.nd (by rw [g.hN]; exact hx.1) (by rw [g.hN]; exact hy.1) hij lx ly (s_xa g _ _ _ hc) (swap2 ok.kind lx ly hl hxy hp hq h1 h2)).imp fun D σ H h => ?_
  obtain ⟨cs0, H0, Hf0, cb, Hb, ρ, μ, cs, Hf, r, ee, h⟩ := h
  refine ⟨cs0, H0, Hf0, ρ, [], [], μ, cs, Hf, by simpa using r, r.len, ?_⟩
  unfold evS at h
  cases e : evE C es ρ μ with
  | ok d μ' =>
    rw [e] at h
    cases d with
    | tup ds =>
      intro vs cs' H' Hf' s hv n1 n2
      match ds, n1, vs, n2, hv, h with
      | [d1, d2], _, [v, w], _, hv, h =>
        refine ⟨v, w, rfl, ?_⟩
        have hv : Rel G cs0 H0 Hf0 (ρ ++ [newSlot o1 d1, newSlot o2 d2]) μ' cs' (σ ++ [some v, some w]) H' Hf' := by simpa [slotsX] using hv
        have hv2 := (hv.mv r.len i).mv (by simp [r.len]) j
        rw [List.append_nil, List.append_nil] at hv2
        exact h _ cs' H' Hf' hv2 (ee.step s)
    | _ => exact h.elim
  | ex x μ' => rw [e] at h; exact fun cls dx cs' H' Hf' st hx => h σ cls dx cs' H' Hf' (r.st.trans st) hx
  | bad => rw [e] at h; exact h.elim
theorem ss_xas2c (g : Good G ec S C k sx X W) (hh : sx.hot = false) {i j : Nat} {x y : Str} {px py pt pt2 : Pos} {kt k2 : Nat} {o1 o2 : Bool} {es : E} (hx : (Tg.name i).chk S sx (.inl (.Name x px)) = true) (hy : (Tg.name j).chk S sx (.inl (.Name y py)) = true)
    (hc : xasA S sx [o1, o2] es [p, q] = true) (hf : foldB sx.sc (.Tuple [.Name x px, .Name y py] kt pt) (.Tuple [p, q] k2 pt2) = true) :
    PS X (.Assign [.Tuple [.Name x px, .Name y py] kt pt] (.Tuple [p, q] k2 pt2) pos) (tS G ec W fr (evS C (.xas [o1, o2] [i, j] es))) := by
  have nm : ∀ {i : Nat} {x : Str} {px : Pos}, (Tg.name i).chk S sx (.inl (.Name x px)) = true → PG X (.Name x px) (gName i) := fun {i x px} h => by
    have h : (decide (S.N[i]? = some x) && (decide (sx.sc.names.lookup x = some .local) || (decide (sx.sc.names.lookup x = some .cell) && sx.fx x))) = true := h
    simp only [Bool.and_eq_true, Bool.or_eq_true, decide_eq_true_eq] at h
    obtain ⟨h1, h2⟩ := h
    refine pg_name (i := i) g.nd (by rw [g.hN]; exact h1) ?_ ?_
    · rw [g.sc]
      rcases h2 with h2 | h2
      · exact .inl h2
      · exact .inr h2.1
    · rcases h2 with h2 | h2
      · exact .inr (by rw [g.sc]; exact h2)
      · exact .inl (g.fx x h2.2)
  have sw : swappedStores [.Tuple [.Name x px, .Name y py] kt pt] (.Tuple [p, q] k2 pt2) X.env = pure none := by
    have hf := Bool.or_eq_true_iff.mp hf
    rcases hf with hf | hf
    · exact sw_const hf
    · exact sw_cell (by rw [g.sc]; exact hf)
  refine (ps_asg (pe_tup (s_xa g _ _ _ hc)) (pg_tup (n := 2) (g.calm hh) (pgs_cons (nm hx) (pgs_cons (nm hy) pgs_nil)) rfl rfl) rfl sw rfl).imp fun D σ H h => ?_
  obtain ⟨cs0, H0, Hf0, cb, Hb, ρ, μ, cs, Hf, r, ee, h⟩ := h
  refine ⟨cs0, H0, Hf0, ρ, [], [], μ, cs, Hf, by simpa using r, r.len, ?_⟩
  unfold evS at h
  cases e : evE C es ρ μ with
  | ok d μ' =>
    rw [e] at h
    cases d with
    | tup ds =>
      intro vs cs' H' Hf' s hv n1 n2
      match ds, n1, vs, n2, hv, h with
      | [d1, d2], _, [v, w], _, hv, h =>
        refine ⟨by simp [sizeLine_eq], fun t ht => ⟨t, [v, w], rfl, .inl (.inl upd_same), rfl, v, [w], rfl, w, [], rfl, rfl, ?_⟩⟩
        have hv : Rel G cs0 H0 Hf0 (ρ ++ [newSlot o1 d1, newSlot o2 d2]) μ' cs' (σ ++ [some v, some w]) H' Hf' := by simpa [slotsX] using hv
        have st := hv.well.loose (o := .tup [v, w]) ht
        have hv2 := ((hv.step st).mv r.len i).mv (by simp [r.len]) j
        rw [List.append_nil, List.append_nil] at hv2
        exact h _ cs' _ Hf' hv2 (ee.step (s.trans st))
    | _ => exact h.elim
  | ex x μ' => rw [e] at h; exact fun cls dx cs' H' Hf' st hx => h σ cls dx cs' H' Hf' (r.st.trans st) hx
  | bad => rw [e] at h; exact h.elim
theorem ss_xas3 (g : Good G ec S C k sx X W) (hh : sx.hot = false) {i j l : Nat} {x y z : Str} {px py pz pt pt2 : Pos} {kt k2 : Nat} {o1 o2 o3 : Bool} {es : E} (hx : locB S sx i x = true) (hy : locB S sx j y = true) (hz : locB S sx l z = true) (hij : i ≠ j) (hil : i ≠ l) (hjl : j ≠ l) (hl : (py.line == px.line) = true) (hl2 : (pz.line == px.line) = true) (hxy : (y == x) = false) (hxz : (z == x) = false) (hyz : (z == y) = false)
    (hc : xasA S sx [o1, o2, o3] es [p, q, r] = true) (hp : isStar p = false) (hq : isStar q = false) (hr : isStar r = false) (h1 : [p, q, r].all (foldedForSure 8) = false) (h2 : [p, q, r].all (constantsAlone 8) = false) :
    PS X (.Assign [.Tuple [.Name x px, .Name y py, .Name z pz] kt pt] (.Tuple [p, q, r] k2 pt2) pos) (tS G ec W fr (evS C (.xas [o1, o2, o3] [i, j, l] es))) := by
  unfold locB at hx hy hz
  simp only [Bool.and_eq_true, decide_eq_true_eq] at hx hy hz
  refine PS.ok fun ok => ?_
  have lx : X.env.scope.names.lookup x = some .local := by rw [g.sc]; exact hx.2
  have ly : X.env.scope.names.lookup y = some .local := by rw [g.sc]; exact hy.2
  have lz : X.env.scope.names.lookup z = some .local := by rw [g.sc]; exact hz.2
  refine (ps_par3 (g.calm hh) g.nd (by rw [g.hN]; exact hx.1) (by rw [g.hN]; exact hy.1) (by rw [g.hN]; exact hz.1) hij hil hjl lx ly lz (s_xa g _ _ _ hc) (swap3 ok.kind lx ly lz hl hl2 hxy hxz hyz hp hq hr h1 h2)).imp fun D σ H h => ?_
  obtain ⟨cs0, H0, Hf0, cb, Hb, ρ, μ, cs, Hf, r, ee, h⟩ := h
  refine ⟨cs0, H0, Hf0, ρ, [], [], μ, cs, Hf, by simpa using r, r.len, ?_⟩
  unfold evS at h
  cases e : evE C es ρ μ with
  | ok d μ' =>
    rw [e] at h
    cases d with
    | tup ds =>
      intro vs cs' H' Hf' s hv n1 n2
      match ds, n1, vs, n2, hv, h with
      | [d1, d2, d3], _, [u, v, w], _, hv, h =>
        refine ⟨u, v, w, rfl, ?_⟩
        have hv : Rel G cs0 H0 Hf0 (ρ ++ [newSlot o1 d1, newSlot o2 d2, newSlot o3 d3]) μ' cs' (σ ++ [some u, some v, some w]) H' Hf' := by simpa [slotsX] using hv
        have hv2 := ((hv.mv r.len i).mv (by simp [r.len]) j).mv (by simp [r.len]) l
        rw [List.append_nil, List.append_nil] at hv2
        exact h _ cs' H' Hf' hv2 (ee.step s)
    | _ => exact h.elim
  | ex x μ' => rw [e] at h; exact fun cls dx cs' H' Hf' st hx => h σ cls dx cs' H' Hf' (r.st.trans st) hx
  | bad => rw [e] at h; exact h.elim
theorem ss_aug (g : Good G ec S C k sx X W) {op : BOp} {i : Nat} {x : Str} {px : Pos} (ho : op = .add ∨ op = .sub) (hx : nameB S sx i x = true) (he : PEw G ec C X W a p) :
    PS X (.AugAssign (.Name x px) (bopP op) p pos) (tS G ec W fr (evS C (.aug op i a))) := by
  obtain ⟨h1, h2, h3⟩ := g.name hx
  have go : ∀ (f : Int → Int → Int), (∀ i j, augD op (.int i) (.int j) = some (.int (f i j))) → (∀ x y z, augD op x y = some z → ∃ i j, x = .int i ∧ y = .int j) → PIp X (bopP op) (ipI f) → PS X (.AugAssign (.Name x px) (bopP op) p pos) (tS G ec W fr (evS C (.aug op i a))) := fun f hf hi hp => by
    refine (ps_aug g.nd h1 h2 he hp h3).imp fun D σ H h => ?_
    obtain ⟨cs0, H0, Hf0, cb, Hb, ρ, μ, cs, Hf, r, ee, h⟩ := h
    unfold evS at h
    cases e : ρ[i]? with
    | none => rw [e] at h; exact h.elim
    | some s =>
      rw [e] at h
      cases s with
      | sh d =>
        obtain ⟨v, q1, q2⟩ := r.sh e
        refine ⟨v, q1, cs0, H0, Hf0, ρ, μ, cs, Hf, r, PostS.bind r h fun y μ' w cs' H' Hf' s hp hq => ?_⟩
        cases e2 : augD op d y with
        | none => rw [e2] at hq; exact hq.elim
        | some z =>
          rw [e2] at hq
          obtain ⟨n, m, rfl, rfl⟩ := hi _ _ _ e2
          rw [hf] at e2
          cases e2
          exact ⟨n, m, Rep.int_iff.mp q2, Rw.int hp, hq _ cs' H' Hf' ((r.step s).set (Rep.int_iff.mpr rfl)) (ee.step s)⟩
      | _ => exact h.elim
  rcases ho with rfl | rfl
  · exact go _ (fun _ _ => rfl) (fun x y z h => by cases x <;> cases y <;> first | exact ⟨_, _, rfl, rfl⟩ | cases h) ip_add
  · exact go _ (fun _ _ => rfl) (fun x y z h => by cases x <;> cases y <;> first | exact ⟨_, _, rfl, rfl⟩ | cases h) ip_sub
theorem atSub {o i : Expr} {pos : Pos} {env : PySem.Env} (hi : isSl i = false) (v : Value) : assign (.Subscript o i pos) env v = (do
      let ov ← holding [v] (eval o env)
      let iv ← holding [v, ov] (eval i env)
      standAt pos
      holding [v, ov, iv] (setItem ov iv v)
      release [v, ov, iv] []) := by cases i <;> first | rfl | cases hi
/-- an own list's item -/
theorem ss_subO (g : Good G ec S C k sx X W) {n : Nat} {x : Str} {px ps : Pos} (hx : varB S sx.sc n x = true) (hsl : isSl q = false) (hc : noComp p = true) (hi : PEw G ec C X W b q) (he : PE X p (tE G ec W (evE C a) (Pst G))) :
    PS X (.Assign [.Subscript (.Name x px) q ps] p pos) (tS G ec W fr (evS C (.sub (.pk n) b a))) := by
  obtain ⟨h1, h2, h3, h4⟩ := g.var hx
  refine (ps_asg he (pg_sub (pe_var h1 h2 h3 h4) hi set_list (fun v => atSub hsl v)) ?_ ?_ rfl).imp fun D σ H h => ?_
  · show swapsWith p (some (.Subscript (.Name x px) q ps)) pos.line X.env = pure false
    exact sw_no hc
  · cases p <;> rfl
  · obtain ⟨cs0, H0, Hf0, cb, Hb, ρ, μ, cs, Hf, r, ee, h⟩ := h
    refine ⟨cs0, H0, Hf0, ρ, μ, cs, Hf, r, PostS.bind r h fun d μ1 v cs1 H1 Hf1 s1 hp hq => ?_⟩
    have r1 := r.step s1
    have ee1 := ee.step s1
    dsimp only at hq
    cases e : ρ[n]? with
    | none => rw [e] at hq; exact hq.elim
    | some sl =>
      rw [e] at hq
      cases sl with
      | own ds =>
        dsimp only at hq
        obtain ⟨ad, vs, q1, q2, q3, q4, q5, q6⟩ := r1.own (.inl e)
        refine ⟨_, q1, cs0, H0, Hf0, ρ, μ1, cs1, Hf1, r1, PostS.bind r1 hq fun kd μ2 w cs2 H2 Hf2 s2 hk hq => ?_⟩
        have l := s2.loose_at q2 q3 q4
        have q6' := s2.reps q6
        cases kd with
        | int i =>
          dsimp only at hq
          cases e2 : ixN ds.length i with
          | none => rw [e2] at hq; exact hq.elim
          | some j =>
            rw [e2] at hq
            refine ⟨ad, vs, i, j, rfl, Rw.int hk, l.1, by rw [← q6.len]; exact e2, ?_⟩
            exact hq _ cs2 _ Hf2 ((r1.step s2).wr e q1 l.1 l.2.1 l.2.2 q5 (Reps.set (s2.rep hp) j q6')) (ee1.step s2)
        | _ => exact hq.elim
      | _ => exact hq.elim
/-- a cell is written -/
theorem Rel.wrC (r : Rel G cs0 H0 Hf0 ρ μ cs σ H Hf) {c : Nat} {ad : Addr} {ds' : List D} {vs' : List V} (e1 : cs[c]? = some ad) (hc : c < μ.length) (hr : Reps G cs Hf ds' vs') : Rel G cs0 H0 Hf0 ρ (μ.set c ds') cs σ (upd H ad (.lst vs')) Hf := by
  have hm : ad ∈ cs := List.mem_of_getElem? e1
  have wl := r.well
  obtain ⟨vs, q1, q2, q3⟩ := wl.cells.at_ c μ[c] ad (by simp [hc]) e1
  have hH0 : ∀ o, H0 ad = some o → NTb o → ad ∈ cs0 := fun o z q => r.st.memc hm (fun f => f.no z q)
  refine ⟨⟨r.st.pre, fun x u e n q => ?_, fun x hx => ?_, fun x u e => ?_, r.st.notb, r.st.ext, r.st.new, ⟨by rw [List.length_set]; exact r.st.cells.len, r.st.cells.nd, fun c2 ds x z1 z2 => ?_⟩, fun pp hp => ?_⟩, r.len, fun j s hj => ?_, r.apart⟩
  · have hne : x ≠ ad := fun z => n (by rw [z] at e ⊢; exact hH0 u e q)
    rw [upd_ne hne]; exact r.st.keep x u e n q
  · by_cases z : x = ad
    · rw [z] at hx
      exact (hx.no upd_same ntb_lst).elim
    · exact r.st.fre x (fun u e => hx u (by rw [upd_ne z]; exact e))
  · rw [upd_ne (fun z => by rw [z, q2] at e; cases e)]; exact r.st.sub x u e
  · rw [get_set] at z1
    split at z1
    · rename_i hh
      cases z1
      have : ad = x := by rw [← hh.1, e1] at z2; cases z2; rfl
      rw [← this, upd_same]
      exact ⟨vs', rfl, q2, hr⟩
    · rename_i hh
      obtain ⟨ws, y1, y2, y3⟩ := r.st.cells.at_ c2 ds x z1 z2
      have hne : x ≠ ad := fun z => by
        rw [z] at z2
        have hcl : c < cs.length := by rw [r.st.cells.len]; exact hc
        have hcl2 : c2 < cs.length := by
          rcases Nat.lt_or_ge c2 cs.length with h | h
          · exact h
          · rw [List.getElem?_eq_none h] at z2; cases z2
        have := (List.getElem_inj (i := c) (j := c2) (h₀ := hcl) (h₁ := hcl2) r.st.cells.nd).mp (by
          have a1 : cs[c] = ad := by rw [List.getElem?_eq_getElem hcl] at e1; exact Option.some.inj e1
          have a2 : cs[c2] = ad := by rw [List.getElem?_eq_getElem hcl2] at z2; exact Option.some.inj z2
          rw [a1, a2])
        exact hh ⟨this, by rw [← this]; exact hc⟩
      rw [upd_ne hne]
      exact ⟨ws, y1, y2, y3⟩
  · obtain ⟨ps, t1, t2, t3⟩ := r.st.tabs pp hp
    have ne1 : pp.1 ≠ ad := fun z => by rw [z, q1] at t1; cases t1
    refine ⟨ps, by rw [upd_ne ne1]; exact t1, t2, fun pos cv h => ?_⟩
    obtain ⟨c', h1, h2⟩ := t3 pos cv h
    refine ⟨c', h1, ?_⟩
    have ne2 : c' ≠ ad := fun z => by rw [z, q1] at h2; cases h2
    rw [upd_ne ne2]; exact h2
  · have hs := r.slot j s hj
    have own : ∀ es, (∃ b ws, σ[j]? = some (some (.ref b)) ∧ H b = some (.lst ws) ∧ Hf b = none ∧ b ∉ cs ∧ Fre H0 b ∧ Reps G cs Hf es ws) → ∃ b ws, σ[j]? = some (some (.ref b)) ∧ upd H ad (.lst vs') b = some (.lst ws) ∧ Hf b = none ∧ b ∉ cs ∧ Fre H0 b ∧ Reps G cs Hf es ws := fun es ⟨b, ws, z1, z2, z3, z4, z5, z6⟩ =>
      ⟨b, ws, z1, by rw [upd_ne (fun z => z4 (by rw [z]; exact hm))]; exact z2, z3, z4, z5, z6⟩
    cases s with
    | un => trivial
    | sh d => exact hs
    | own es => exact own es hs
    | lent es => exact own es hs
    | exc x => exact hs
theorem ss_subC (g : Good G ec S C k sx X W) {n : Nat} {x : Str} {px ps : Pos} (hx : varB S sx.sc n x = true) (hsl : isSl q = false) (hc : noComp p = true) (hi : PEw G ec C X W b q) (he : PE X p (tE G ec W (evE C a) (Pst G))) :
    PS X (.Assign [.Subscript (.Name x px) q ps] p pos) (tS G ec W fr (evS C (.sub (.var n) b a))) := by
  refine (ps_asg he (pg_sub (s_var (C := C) g hx) hi set_list (fun v => atSub hsl v)) ?_ ?_ rfl).imp fun D σ H h => ?_
  · show swapsWith p (some (.Subscript (.Name x px) q ps)) pos.line X.env = pure false
    exact sw_no hc
  · cases p <;> rfl
  · obtain ⟨cs0, H0, Hf0, cb, Hb, ρ, μ, cs, Hf, r, ee, h⟩ := h
    refine ⟨cs0, H0, Hf0, ρ, μ, cs, Hf, r, PostS.bind r h fun d μ1 v cs1 H1 Hf1 s1 hp hq => ?_⟩
    have r1 := r.step s1
    have ee1 := ee.step s1
    dsimp only at hq
    refine ⟨cs0, H0, Hf0, ρ, μ1, cs1, Hf1, r1, PostS.bind r1 hq fun od μ2 ov cs2 H2 Hf2 s2 ho hq => ?_⟩
    have r2 := r1.step s2
    refine ⟨cs0, H0, Hf0, ρ, μ2, cs2, Hf2, r2, PostS.bind r2 hq fun kd μ3 kv cs3 H3 Hf3 s3 hk hq => ?_⟩
    have r3 := r2.step s3
    have hp3 := s3.rep (s2.rep hp)
    have ho3 := s3.rep ho
    cases e : setD od kd d μ3 with
    | none => rw [e] at hq; exact hq.elim
    | some μ4 =>
      rw [e] at hq
      unfold setD at e
      split at e
      · rename_i c i
        cases e2 : μ3[c]? with
        | none => rw [e2] at e; cases e
        | some ds =>
          rw [e2] at e
          cases e3 : ixN ds.length i with
          | none => simp only [e3, Option.map_none] at e; cases e
          | some j =>
            simp only [e3, Option.map_some, Option.some.injEq] at e
            subst e
            obtain ⟨ad, y1, y2⟩ := Rep.cell_iff.mp ho3
            obtain ⟨vs, z1, z2, z3⟩ := r3.well.cells.at_ c ds ad e2 y1
            have hlt : c < μ3.length := by
              rcases Nat.lt_or_ge c μ3.length with h | h
              · exact h
              · rw [List.getElem?_eq_none h] at e2; cases e2
            refine ⟨ad, vs, i, j, y2, Rw.int hk, z1, by rw [← z3.len]; exact e3, ?_⟩
            exact hq σ cs3 _ Hf3 (r3.wrC y1 hlt (Reps.set hp3 j z3)) (((ee1.step s2).step s3))
      · cases e
/-- a new list becomes a cell -/
theorem Rel.box {cs' : List Addr} {H' Hf' : Hp} {μ' : Mu} (r : Rel G cs0 H0 Hf0 ρ μ cs σ H Hf) (s : Step G cs H Hf cs' H' Hf' μ') {i : Nat} {ds : List D} {v : V} (h : Pfr G cs' H H' Hf' (.lst ds) v) :
    ∃ cs2, Rel G cs0 H0 Hf0 (ρ.set i (.sh (.cell μ'.length))) (μ' ++ [ds]) cs2 (σ.set i (some v)) H' Hf' ∧ Ext cs' Hf' cs2 Hf' := by
  obtain ⟨ad, vs, e, n, h1, h2, h3, h4⟩ := h
  subst e
  have st := r.st.trans s
  have pix : ∀ (c : Nat) (x : Addr), cs'[c]? = some x → (cs' ++ [ad])[c]? = some x := fun c x z => by
    have hl : c < cs'.length := by
      rcases Nat.lt_or_ge c cs'.length with h | h
      · exact h
      · rw [List.getElem?_eq_none h] at z; cases z
    rw [List.getElem?_append_left hl]; exact z
  have mono : ∀ {ds : List D} {vs : List V}, Reps G cs' Hf' ds vs → Reps G (cs' ++ [ad]) Hf' ds vs := fun z => Reps.mono (fun _ _ q => q) pix _ _ z
  have st2 : Step G cs0 H0 Hf0 (cs' ++ [ad]) H' Hf' (μ' ++ [ds]) := by
    obtain ⟨more, m1, m2⟩ := st.pre
    refine ⟨⟨more ++ [ad], by rw [m1, List.append_assoc], fun x hx => ?_⟩, st.keep, st.fre, st.sub, st.notb, st.ext, st.new, ⟨by simp [st.cells.len], ?_, fun c ds' x z1 z2 => ?_⟩, st.tabs⟩
    · rcases List.mem_append.mp hx with z | z
      · exact m2 x z
      · rw [List.mem_singleton.mp z]; exact none_back r.st n
    · rw [List.nodup_append]
      exact ⟨st.cells.nd, by simp, fun x hx y hy z => h3 (by rw [List.mem_singleton.mp hy] at z; rw [← z]; exact hx)⟩
    · rcases Nat.lt_or_ge c μ'.length with hl | hl
      · rw [List.getElem?_append_left hl] at z1
        have hl2 : c < cs'.length := by rw [st.cells.len]; exact hl
        rw [List.getElem?_append_left hl2] at z2
        obtain ⟨ws, y1, y2, y3⟩ := st.cells.at_ c ds' x z1 z2
        exact ⟨ws, y1, y2, mono y3⟩
      · have hc : c = μ'.length := by
          rcases Nat.lt_or_ge c (μ' ++ [ds]).length with h | h
          · simp at h; omega
          · rw [List.getElem?_eq_none h] at z1; cases z1
        subst hc
        have e1 : ds' = ds := by simpa using z1.symm
        have e2 : x = ad := by
          rw [← st.cells.len] at z2
          simpa using z2.symm
        subst e1 e2
        exact ⟨vs, h1, h2, mono h4⟩
  refine ⟨cs' ++ [ad], ⟨st2, by simp [r.len], fun j t hj => ?_, fun j l t u x e1 e2 o1 o2 q1 q2 => ?_⟩, fun _ _ z => z, pix⟩
  · rw [get_set] at hj ⊢
    rw [← r.len]
    split at hj
    · rename_i hh
      cases hj
      rw [if_pos hh]
      refine ⟨_, rfl, Rep.cell_iff.mpr ⟨ad, ?_, rfl⟩⟩
      rw [← st.cells.len]
      simp
    · rename_i hh
      rw [if_neg hh]
      have hs0 := r.slot j t hj
      have hs := (r.step s).slot j t hj
      have own : ∀ es, (∃ b ws, σ[j]? = some (some (.ref b)) ∧ H b = some (.lst ws) ∧ Hf b = none ∧ b ∉ cs ∧ Fre H0 b ∧ Reps G cs Hf es ws) → (∃ b ws, σ[j]? = some (some (.ref b)) ∧ H' b = some (.lst ws) ∧ Hf' b = none ∧ b ∉ cs' ∧ Fre H0 b ∧ Reps G cs' Hf' es ws) → ∃ b ws, σ[j]? = some (some (.ref b)) ∧ H' b = some (.lst ws) ∧ Hf' b = none ∧ b ∉ cs' ++ [ad] ∧ Fre H0 b ∧ Reps G (cs' ++ [ad]) Hf' es ws := fun es ⟨b0, ws0, y1, y2, _⟩ ⟨b, ws, z1, z2, z3, z4, z5, z6⟩ => by
        rw [y1] at z1
        cases z1
        refine ⟨b0, ws, y1, z2, z3, fun hb => ?_, z5, mono z6⟩
        rcases List.mem_append.mp hb with z | z
        · exact z4 z
        · rw [List.mem_singleton.mp z] at y2; exact n.no y2 ntb_lst
      cases t with
      | un => trivial
      | sh d => obtain ⟨v, z1, z2⟩ := hs; exact ⟨v, z1, Rep.mono (fun _ _ q => q) pix _ _ z2⟩
      | own es => exact own es hs0 hs
      | lent es => exact own es hs0 hs
      | exc x => exact ⟨hs.1, hs.2.1, hs.2.2.mono (fun _ _ q => q) pix⟩
  · rw [get_set] at e1 e2 q1 q2
    rw [← r.len] at q1 q2
    split at e1
    · cases e1; cases o1
    · rename_i h1
      rw [if_neg h1] at q1
      split at e2
      · cases e2; cases o2
      · rename_i h2
        rw [if_neg h2] at q2
        exact r.apart j l t u x e1 e2 o1 o2 q1 q2
theorem ss_box (g : Good G ec S C k sx X W) {i : Nat} {x : Str} {px : Pos} (hx : nameB S sx i x = true) (hc : a.chk S sx (.e p) = true) (hsd : noSD p = true) (ho : a.fr S.ff = true) :
    PS X (.Assign [.Name x px] p pos) (tS G ec W fr (evS C (.box i a))) := by
  have sn := snd a sx X W g
  have hp : a.isPk = false := by cases a <;> first | rfl | cases ho
  have he : PE X p (tE G ec W (evE C a) (Pfr G)) := by
    rcases sn.pe _ p hc rfl with q | ⟨es, q | q | q⟩
    · rw [kd_fr hp ho] at q; exact q
    · rw [q] at ho; cases ho
    · rw [q] at ho; cases ho
    · rw [q] at ho; cases ho
  refine (as_name g hx hc hsd he (fun _ _ _ _ _ => .inl rfl)).imp fun D σ H h => ?_
  obtain ⟨cs0, H0, Hf0, cb, Hb, ρ, μ, cs, Hf, r, ee, h⟩ := h
  refine ⟨cs0, H0, Hf0, ρ, μ, cs, Hf, r, PostS.bind r h fun d μ' v cs' H' Hf' s hp q => ?_⟩
  cases d with
  | lst ds =>
    obtain ⟨cs2, r2, e2⟩ := r.box (i := i) s hp
    exact q _ cs2 H' Hf' r2 ((ee.step s).trans e2)
  | _ => exact q.elim
end
end Ev
end

section
set_option Elab.async false
set_option linter.all false
set_option maxRecDepth 100000
set_option maxHeartbeats 4000000
namespace Ev
open PySem PySem.Spec PyProof.Rows L2
def xasC (T : Cs) (sx : Sx) (i j : Nat) (o1 o2 : Bool) (es : E) (x y : Str) (px py : Pos) (p q : Expr) : Bool :=
  !sx.hot && (Tg.name i).chk T sx (.inl (.Name x px)) && (Tg.name j).chk T sx (.inl (.Name y py)) && xasA T sx [o1, o2] es [p, q] && foldB sx.sc (.Tuple [.Name x px, .Name y py] 0 px) (.Tuple [p, q] 0 px)
/-- s tells the statement, the statements -/
def S.chk (T : Cs) (sx : Sx) (fr : Bool) : Ev.S → Stmt ⊕ List Stmt → Bool
  | .skip, m => match m with
    | .inr [] => true
    | _ => false
  | .seq s r, m => match m with
    | .inr (st :: sts) => s.chk T sx fr (.inl st) && r.chk T sx fr (.inr sts)
    | _ => false
  | .frz _ r, m => match m with
    | .inr sts => r.chk T sx fr (.inr sts)
    | _ => false
  | .asg own t e, m => match m with
    | .inl (.Assign [tg] p _) => e.chk T sx (.e p) && noSD p && (match t with
      | .name i => (match tg with
        | .Name x _ => nameB T sx i x
        | _ => false) && (if own = true then e.fr T.ff else !e.isPk)
      | t => isTupE tg && t.chk T sx (.inl tg) && !e.isPk && foldB sx.sc tg p)
    | _ => false
  | .par is es, m => match m with
    | .inl (.Assign [.Tuple [.Name x px, .Name y py] _ _] (.Tuple [p, q] _ _) _) => match is with
      | [i, j] => !sx.hot && locB T sx i x && locB T sx j y && decide (i ≠ j) && (py.line == px.line) && !(y == x) && es.chk T sx (.a [p, q]) && es.stA && !([p, q].all (foldedForSure 8)) && !([p, q].all (constantsAlone 8))
      | _ => false
    | _ => false
  | .xas os is es, m => match m with
    | .inl (.Assign [.Tuple [.Name x px, .Name y py] _ _] (.Tuple [p, q] _ _) _) => match is, os with
      | [i, j], [o1, o2] => (!sx.hot && locB T sx i x && locB T sx j y && decide (i ≠ j) && (py.line == px.line) && !(y == x) && xasA T sx [o1, o2] es [p, q] && !isStar p && !isStar q && !([p, q].all (foldedForSure 8)) && !([p, q].all (constantsAlone 8))) || xasC T sx i j o1 o2 es x y px py p q
      | _, _ => false
    | .inl (.Assign [.Tuple [.Name x px, .Name y py, .Name z pz] _ _] (.Tuple [p, q, r] _ _) _) => match is, os with
      | [i, j, l], [o1, o2, o3] => !sx.hot && locB T sx i x && locB T sx j y && locB T sx l z && (decide (i ≠ j) && decide (i ≠ l) && decide (j ≠ l)) && ((py.line == px.line) && (pz.line == px.line)) && (!(y == x) && !(z == x) && !(z == y)) && xasA T sx [o1, o2, o3] es [p, q, r] && (!isStar p && !isStar q && !isStar r) && !([p, q, r].all (foldedForSure 8)) && !([p, q, r].all (constantsAlone 8))
      | _, _ => false
    | _ => false
  | .sub o i e, m => match m with
    | .inl (.Assign [.Subscript (.Name x _) q _] p _) => (match o with
      | .pk n => varB T sx.sc n x
      | .var n => varB T sx.sc n x
      | _ => false) && !isSl q && noComp p && i.chk T sx (.e q) && e.chk T sx (.e p) && !e.isPk
    | _ => false
  | .aug op i e, m => match m with
    | .inl (.AugAssign (.Name x _) o p _) => decide (o = bopP op) && (decide (op = .add) || decide (op = .sub)) && nameB T sx i x && e.chk T sx (.e p)
    | _ => false
  | .cond c a b, m => match m with
    | .inl (.If p x y _) => c.chk T sx (.e p) && c.okT && a.chk T sx fr (.inr x) && b.chk T sx fr (.inr y)
    | _ => false
  | .whl c b, m => match m with
    | .inl (.While p x [] _) => c.chk T sx (.e p) && c.okT && b.chk T sx fr (.inr x)
    | _ => false
  | .for_ t it b, m => match m with
    | .inl (.For tg p x [] _) => !sx.hot && it.chk T sx (.i tg p) && !it.isPk && t.chk T sx (.inl tg) && b.chk T sx fr (.inr x)
    | _ => false
  | .ret e, m => match m with
    | .inl (.Return (some p) _) => e.chk T sx (.e p) && (if fr = true then e.fr T.ff else !e.isPk)
    | _ => false
  | .retO i, m => match m with
    | .inl (.Return (some (.Name x _)) _) => varB T sx.sc i x
    | _ => false
  | .retN, m => match m with
    | .inl (.Return none _) => true
    | _ => false
  | .exp e, m => match m with
    | .inl (.Expr p _) => e.chk T sx (.e p) && noComp p
    | _ => false
  | .app i e, m => match m with
    | .inl (.Expr (.Call (.Attribute (.Name x _) n apos) [q] [] cpos) _) => decide (n = "append") && varB T sx.sc i x && e.chk T sx (.e q) && !e.isPk && !isStar q && (apos.endLine == cpos.line)
    | _ => false
  | .ext i e, m => match m with
    | .inl (.Expr (.Call (.Attribute (.Name x _) n apos) [q] [] cpos) _) => decide (n = "extend") && varB T sx.sc i x && e.chk T sx (.e q) && !isStar q && (apos.endLine == cpos.line)
    | _ => false
  | .rse c es, m => match m with
    | .inl (.Raise (some (.Call (.Name x _) ps [] _)) none _) => !sx.hot && glB sx.sc x && decide (T.excs.lookup x = some c) && es.chk T sx (.a ps) && es.stA && (if T.exf c = true then ps.length == 1 else ps.length == 0)
    | _ => false
  | .brk, m => match m with
    | .inl (.Break _) => true
    | _ => false
  | .cont, m => match m with
    | .inl (.Continue _) => true
    | _ => false
  | .pass, m => match m with
    | .inl (.Pass _) => true
    | _ => false
  | .box i e, m => match m with
    | .inl (.Assign [.Name x _] p _) => e.chk T sx (.e p) && noSD p && nameB T sx i x && e.fr T.ff
    | _ => false
  | .try_ _ _ _ _, _ => false
/-- the context of statements -/
structure GoodS (G : Gx) (ec : Nat → Addr) (T : Cs) (C : Fns) (k : Nat) (sx : Sx) (X : Cx) (W : WX) : Prop where
  g : Good G ec T C k sx X W
  po : PassesOwn (model X.prog X.w) X.A X.env X.xe
  r0 : sx.hot = false → ∀ x c, T.excs.lookup x = some c → T.exf c = false → ∀ p pos, glB sx.sc x = true → PMk X (.Call (.Name x p) [] [] pos) (fun σ H Q => Q (.ref (ec c)) none H)
  r1 : sx.hot = false → ∀ x c, T.excs.lookup x = some c → T.exf c = true → ∀ p pos e te, glB sx.sc x = true → isStar e = false → (∀ σ H (Q Q' : VK), (∀ v H', Q v H' → Q' v H') → te σ H Q → te σ H Q') → PE X e te → PMk X (.Call (.Name x p) [e] [] pos) (fun σ H Q => te σ H fun y H1 => ∀ d, H1 d = none → Q (.ref (ec c)) (some d) (upd H1 d (.xd [(G.ef c, y)])))
section
variable {G : Gx} {ec : Nat → Addr} {T : Cs} {C : Fns} {k : Nat} {sx : Sx} {X : Cx} {W : WX} {fr : Bool} {σ : L2.St} {D' : Ends}
variable {a b c : E} {p q r : Expr} {pos : Pos} {cs cs0 : List Addr} {H Hf H0 Hf0 : Hp} {μ : Mu} {ρ : Env} {cb : List Addr} {Hb : Hp}
theorem ntb_xd {fs : List (Str × V)} : NTb (.xd fs) := fun ps h => nomatch h
theorem ss_rse (g : GoodS G ec T C k sx X W) (hh : sx.hot = false) {c : Nat} {es : E} {x : Str} {p1 p2 : Pos} {ps : List Expr} (hg : glB sx.sc x = true) (hx : T.excs.lookup x = some c) (hc : es.chk T sx (.a ps) = true) (hst : es.stA = true) (hl : if T.exf c = true then ps.length = 1 else ps.length = 0) :
    PS X (.Raise (some (.Call (.Name x p1) ps [] p2)) none pos) (tS G ec W fr (evS C (.rse c es))) := by
  by_cases hf : T.exf c = true
  · rw [if_pos hf] at hl
    match ps, hl, hc with
    | [p], _, hc =>
      obtain ⟨hd, tl, rfl⟩ : ∃ hd tl, es = .cons hd tl := by cases es <;> first | exact ⟨_, _, rfl⟩ | cases hc
      have hc' : (!isStar p && hd.chk T sx (.e p) && tl.chk T sx (.a [])) = true := hc
      have hst' : (!hd.isPk && tl.stA) = true := hst
      simp only [Bool.and_eq_true, Bool.not_eq_true'] at hc' hst'
      have htl : tl = .nil := by
        have h2 := hc'.2
        cases tl <;> first | rfl | cases h2
      subst htl
      refine (ps_raise (g.g.calm hh) g.g.tk (g.r1 hh x c hx hf p1 p2 p (tE G ec W (evE C hd) (Pst G)) hg hc'.1.1 (fun σ H Q Q' hq hz => tE.mono hz hq) ((snd hd sx X W g.g).se hc'.1.2 hst'.1))).imp fun D σ H h => ?_
      obtain ⟨cs0, H0, Hf0, cb, Hb, ρ, μ, cs, Hf, r, ee, h⟩ := h
      have h : PostS G ec W fr ((evE C (.cons hd .nil) ρ μ).bind fun r μ => match r with
        | .tup [] => .ex ⟨c, none⟩ μ
        | .tup [d] => .ex ⟨c, some d⟩ μ
        | _ => .bad) cs0 H0 Hf0 cb Hb D := h
      refine ⟨cs0, H0, Hf0, ρ, μ, cs, Hf, r, ?_⟩
      have e1 : evE C (.cons hd .nil) ρ μ = (evE C hd ρ μ).bind fun d μ => .ok (.tup [d]) μ := rfl
      rw [e1] at h
      cases e : evE C hd ρ μ with
      | ok d μ' =>
        rw [e] at h
        simp only [R.bind_ok] at h
        intro v cs' H' Hf' s hv dx hn
        have t := s.well.laid hn (ntb_xd (fs := [(G.ef c, v)]))
        exact h σ _ _ cs' _ _ ((r.st.trans s).trans t) ⟨rfl, dx, v, rfl, upd_same, t.rep hv⟩
      | ex y μ' =>
        rw [e] at h
        exact fun cls dx cs' H' Hf' s hx => h σ cls dx cs' H' Hf' (r.st.trans s) hx
      | bad => rw [e] at h; exact h.elim
  · rw [if_neg hf] at hl
    have hf' : T.exf c = false := by simpa using hf
    match ps, hl, hc with
    | [], _, hc =>
      cases es <;> first | cases hc | skip
      refine (ps_raise (g.g.calm hh) g.g.tk (g.r0 hh x c hx hf' p1 p2 hg)).imp fun D σ H h => ?_
      obtain ⟨cs0, H0, Hf0, cb, Hb, ρ, μ, cs, Hf, r, ee, h⟩ := h
      exact h σ _ _ cs H Hf r.st ⟨rfl, rfl⟩
theorem snds : ∀ s : Ev.S, ∀ (sx : Sx) (X : Cx) (W : WX), GoodS G ec T C k sx X W → (∀ st, s.chk T sx fr (.inl st) = true → PS X st (tS G ec W fr (evS C s))) ∧ (∀ sts, s.chk T sx fr (.inr sts) = true → PSs X sts (tS G ec W fr (evS C s))) := by
  intro s
  induction s with
  | skip =>
    intro sx X W g
    refine ⟨fun st h => (by cases h), fun sts h => ?_⟩
    cases sts with
    | nil => exact ss_nil
    | cons _ _ => cases h
  | seq s r ih1 ih2 =>
    intro sx X W g
    refine ⟨fun st h => (by cases h), fun sts h => ?_⟩
    cases sts with
    | nil => cases h
    | cons st sts =>
      have h : (s.chk T sx fr (.inl st) && r.chk T sx fr (.inr sts)) = true := h
      rw [Bool.and_eq_true] at h
      exact ss_seq ((ih1 sx X W g).1 st h.1) ((ih2 sx X W g).2 sts h.2)
  | frz i r ih =>
    intro sx X W g
    refine ⟨fun st h => (by cases h), fun sts h => ss_frz ((ih sx X W g).2 sts h)⟩
  | cond c a b iha ihb =>
    intro sx X W g
    refine ⟨fun st h => ?_, fun sts h => (by cases h)⟩
    unfold S.chk at h
    split at h <;> first | cases h | skip
    rename_i heq
    cases heq
    simp only [Bool.and_eq_true] at h
    obtain ⟨⟨⟨h1, h2⟩, h3⟩, h4⟩ := h
    exact ss_if ((snd c sx X W g.g).te h1 h2) ((iha sx X W g).2 _ h3) ((ihb sx X W g).2 _ h4)
  | whl c b ihb =>
    intro sx X W g
    refine ⟨fun st h => ?_, fun sts h => (by cases h)⟩
    unfold S.chk at h
    split at h <;> first | cases h | skip
    rename_i heq
    cases heq
    simp only [Bool.and_eq_true] at h
    obtain ⟨⟨h1, h2⟩, h3⟩ := h
    exact ss_whl g.po ((snd c sx X W g.g).te h1 h2) ((ihb sx X W g).2 _ h3)
  | for_ t it b ihb =>
    intro sx X W g
    refine ⟨fun st h => ?_, fun sts h => (by cases h)⟩
    unfold S.chk at h
    split at h <;> first | cases h | skip
    rename_i heq
    cases heq
    simp only [Bool.and_eq_true, Bool.not_eq_true'] at h
    obtain ⟨⟨⟨⟨h0, h1⟩, h2⟩, h3⟩, h4⟩ := h
    exact ss_for g.g h0 g.po ((snd it sx X W g.g).pif _ _ h1 h2) (noSet_of h1) h3 ((ihb sx X W g).2 _ h4)
  | try_ b i c h ih1 ih2 =>
    intro sx X W g
    exact ⟨fun st h => (by cases h), fun sts h => (by cases h)⟩
  | asg own t e =>
    intro sx X W g
    refine ⟨fun st h => ?_, fun sts h => (by cases h)⟩
    unfold S.chk at h
    split at h <;> first | cases h | skip
    rename_i heq
    cases heq
    simp only [Bool.and_eq_true] at h
    obtain ⟨⟨h1, h2⟩, h3⟩ := h
    split at h3
    · rw [Bool.and_eq_true] at h3
      obtain ⟨h3, h4⟩ := h3
      split at h3 <;> first | cases h3 | skip
      refine ss_asg g.g h3 h1 h2 ?_
      split at h4
      · rename_i ho; rw [if_pos ho]; exact h4
      · rename_i ho; rw [if_neg ho]; simpa using h4
    · rename_i hn
      simp only [Bool.and_eq_true, Bool.not_eq_true'] at h3
      obtain ⟨⟨⟨h3, h4⟩, h5⟩, h6⟩ := h3
      exact ss_asgT g.g h4 h3 h1 h2 h5 h6 (fun i z => hn i z)
  | par is es =>
    intro sx X W g
    refine ⟨fun st h => ?_, fun sts h => (by cases h)⟩
    unfold S.chk at h
    split at h <;> first | cases h | skip
    rename_i heq
    cases heq
    split at h <;> first | cases h | skip
    simp only [Bool.and_eq_true, Bool.not_eq_true', decide_eq_true_eq] at h
    obtain ⟨⟨⟨⟨⟨⟨⟨⟨⟨h0, h1⟩, h2⟩, h3⟩, h4⟩, h5⟩, h6⟩, h7⟩, h8⟩, h9⟩ := h
    exact ss_par2 g.g h0 h1 h2 h3 h4 h5 h6 h7 h8 h9
  | xas os is es =>
    intro sx X W g
    refine ⟨fun st h => ?_, fun sts h => (by cases h)⟩
    unfold S.chk at h
    split at h
    · rename_i heq
      cases heq
      split at h <;> first | cases h | skip
      rcases Bool.or_eq_true_iff.mp h with h | h
      · simp only [Bool.and_eq_true, Bool.not_eq_true', decide_eq_true_eq] at h
        obtain ⟨⟨⟨⟨⟨⟨⟨⟨⟨⟨h0, h1⟩, h2⟩, h3⟩, h4⟩, h5⟩, h6⟩, h7⟩, h8⟩, h9⟩, h10⟩ := h
        exact ss_xas2 g.g h0 h1 h2 h3 h4 h5 h6 h7 h8 h9 h10
      · unfold xasC at h
        simp only [Bool.and_eq_true, Bool.not_eq_true'] at h
        obtain ⟨⟨⟨⟨h0, h1⟩, h2⟩, h3⟩, h4⟩ := h
        exact ss_xas2c g.g h0 h1 h2 h3 h4
    · rename_i heq
      cases heq
      split at h <;> first | cases h | skip
      simp only [Bool.and_eq_true, Bool.not_eq_true', decide_eq_true_eq] at h
      obtain ⟨⟨⟨⟨⟨⟨⟨⟨⟨⟨h0, h1⟩, h2⟩, h3⟩, ⟨h4, h5⟩, h6⟩, h7, h8⟩, ⟨h9, h10⟩, h11⟩, h12⟩, ⟨h13, h14⟩, h15⟩, h16⟩, h17⟩ := h
      exact ss_xas3 g.g h0 h1 h2 h3 h4 h5 h6 h7 h8 h9 h10 h11 h12 h13 h14 h15 h16 h17
    · cases h
  | sub o i e =>
    intro sx X W g
    refine ⟨fun st h => ?_, fun sts h => (by cases h)⟩
    unfold S.chk at h
    split at h <;> first | cases h | skip
    rename_i heq
    cases heq
    simp only [Bool.and_eq_true, Bool.not_eq_true'] at h
    obtain ⟨⟨⟨⟨⟨h1, h2⟩, h3⟩, h4⟩, h5⟩, h6⟩ := h
    split at h1 <;> first | cases h1 | skip
    · exact ss_subO g.g h1 h2 h3 ((snd i sx X W g.g).we h4) ((snd e sx X W g.g).se h5 h6)
    · exact ss_subC g.g h1 h2 h3 ((snd i sx X W g.g).we h4) ((snd e sx X W g.g).se h5 h6)
  | aug op i e =>
    intro sx X W g
    refine ⟨fun st h => ?_, fun sts h => (by cases h)⟩
    unfold S.chk at h
    split at h <;> first | cases h | skip
    rename_i heq
    cases heq
    simp only [Bool.and_eq_true, Bool.or_eq_true, decide_eq_true_eq] at h
    obtain ⟨⟨⟨h1, h2⟩, h3⟩, h4⟩ := h
    subst h1
    exact ss_aug g.g h2 h3 ((snd e sx X W g.g).we h4)
  | ret e =>
    intro sx X W g
    refine ⟨fun st h => ?_, fun sts h => (by cases h)⟩
    unfold S.chk at h
    split at h <;> first | cases h | skip
    rename_i heq
    cases heq
    rw [Bool.and_eq_true] at h
    obtain ⟨h1, h2⟩ := h
    refine ss_ret ?_
    have sn := snd e sx X W g.g
    cases fr with
    | true =>
      have h2 : e.fr T.ff = true := h2
      have hp : e.isPk = false := by cases e <;> first | rfl | cases h2
      rcases sn.pe _ _ h1 rfl with q | ⟨es, q | q | q⟩
      · rw [kd_fr hp h2] at q; exact q
      · rw [q] at h2; cases h2
      · rw [q] at h2; cases h2
      · rw [q] at h2; cases h2
    | false => exact sn.se h1 (by simpa using h2)
  | retO i =>
    intro sx X W g
    refine ⟨fun st h => ?_, fun sts h => (by cases h)⟩
    unfold S.chk at h
    split at h <;> first | cases h | skip
    rename_i heq
    cases heq
    exact ss_retO g.g h
  | retN =>
    intro sx X W g
    refine ⟨fun st h => ?_, fun sts h => (by cases h)⟩
    unfold S.chk at h
    split at h <;> first | cases h | skip
    rename_i heq
    cases heq
    exact ss_retN
  | exp e =>
    intro sx X W g
    refine ⟨fun st h => ?_, fun sts h => (by cases h)⟩
    unfold S.chk at h
    split at h <;> first | cases h | skip
    rename_i heq
    cases heq
    rw [Bool.and_eq_true] at h
    exact ss_exp h.2 ((snd e sx X W g.g).we h.1)
  | app i e =>
    intro sx X W g
    refine ⟨fun st h => ?_, fun sts h => (by cases h)⟩
    unfold S.chk at h
    split at h <;> first | cases h | skip
    rename_i heq
    cases heq
    simp only [Bool.and_eq_true, Bool.not_eq_true', decide_eq_true_eq] at h
    obtain ⟨⟨⟨⟨⟨h1, h2⟩, h3⟩, h4⟩, h5⟩, h6⟩ := h
    subst h1
    exact ss_app g.g h2 ((snd e sx X W g.g).se h3 h4) h5 h6
  | ext i e =>
    intro sx X W g
    refine ⟨fun st h => ?_, fun sts h => (by cases h)⟩
    unfold S.chk at h
    split at h <;> first | cases h | skip
    rename_i heq
    cases heq
    simp only [Bool.and_eq_true, Bool.not_eq_true', decide_eq_true_eq] at h
    obtain ⟨⟨⟨⟨h1, h2⟩, h3⟩, h5⟩, h6⟩ := h
    subst h1
    exact ss_ext g.g h2 ((snd e sx X W g.g).we h3) h5 h6
  | rse c es =>
    intro sx X W g
    refine ⟨fun st h => ?_, fun sts h => (by cases h)⟩
    unfold S.chk at h
    split at h <;> first | cases h | skip
    rename_i heq
    cases heq
    simp only [Bool.and_eq_true, Bool.not_eq_true', decide_eq_true_eq] at h
    obtain ⟨⟨⟨⟨⟨h0, h1⟩, h2⟩, h3⟩, h4⟩, h5⟩ := h
    refine ss_rse g h0 h1 h2 h3 h4 ?_
    split at h5
    · rename_i hf; rw [if_pos hf]; exact beq_iff_eq.mp h5
    · rename_i hf; rw [if_neg hf]; exact beq_iff_eq.mp h5
  | brk =>
    intro sx X W g
    refine ⟨fun st h => ?_, fun sts h => (by cases h)⟩
    unfold S.chk at h
    split at h <;> first | cases h | skip
    rename_i heq
    cases heq
    exact ss_brk
  | cont =>
    intro sx X W g
    refine ⟨fun st h => ?_, fun sts h => (by cases h)⟩
    unfold S.chk at h
    split at h <;> first | cases h | skip
    rename_i heq
    cases heq
    exact ss_cont
  | pass =>
    intro sx X W g
    refine ⟨fun st h => ?_, fun sts h => (by cases h)⟩
    unfold S.chk at h
    split at h <;> first | cases h | skip
    rename_i heq
    cases heq
    exact ss_pass
  | box i e =>
    intro sx X W g
    refine ⟨fun st h => ?_, fun sts h => (by cases h)⟩
    unfold S.chk at h
    split at h <;> first | cases h | skip
    rename_i heq
    cases heq
    simp only [Bool.and_eq_true] at h
    obtain ⟨⟨⟨h1, h2⟩, h3⟩, h4⟩ := h
    exact ss_box g.g h3 h1 h2 h4
end
end Ev
end

section
set_option Elab.async false
set_option linter.all false
set_option maxRecDepth 100000
set_option maxHeartbeats 2000000
namespace Ev
open PySem PySem.Spec PyProof.Rows L2
/-- a def that lets nothing out -/
abbrev CXn : CXT := fun _ _ _ _ _ _ => False
abbrev En : XK := fun _ _ _ => False
/-- the frame of the def at g, called from X at (s, H) -/
abbrev envG (X : Cx) (x : Str) (sg : Scope) (s : Shared) (g : Addr) (cdg : Value) : PySem.Env := envOfC x sg s.heap.objs.size g cdg
abbrev cxG (X : Cx) (Ng : List Str) (x : Str) (sg : Scope) (g : Addr) (cdg : Value) (s : Shared) (H : Hp) : Cx := cxOf CXn X.prog X.w X.K X.mg X.base Ng x sg g cdg X.A X.stack s H En
/-- what the def may rely on: a() tells tl -/
def ActOk (X : Cx) (Ng : List Str) (x : Str) (sg : Scope) (g : Addr) (cdg : Value) (s : Shared) (H : Hp) (a : Str) (fa c' : Addr) (q : Str) (tl : XK → Hp → VK → Prop) : Prop :=
  ∀ (W : WX) (pn : List (Addr × Obj)) (xe : Value → Shared → Prop) (E : XK) (p1 p2 : Pos), Takes ((cxG X Ng x sg g cdg s H).tr pn xe) W → (∀ cls d σ' H', σ'.length = Ng.length → E cls d H' → W cls d σ' H') →
    PE ((cxG X Ng x sg g cdg s H).tr pn xe) (.Call (.Name a p1) [] [] p2) (fun σZ HZ Q => σZ[0]? = some (some (.ref fa)) ∧ HZ c' = some (LamX.CodeO c' q) ∧ tl E HZ Q)
section
variable {X : Cx} {pins : List (Addr × Obj)} {σ : L2.St} {H : Hp} {s : Shared}
theorem act_ok {Ng : List Str} {x a : Str} {sg : Scope} {g f c' : Addr} {cdg pm ctv : Value} {params : Arguments} {body : Expr} {scope : Scope} {k : Nat} {t : XK → TE} (I : Inv X pins σ H s) (L : LamX.LamS X.env.scope scope)
    (ho : s.heap.get? f = some (PySem.W.kla_obj "<lambda>" (X.env.qual ++ "<lambda>") params body scope (cloFrom X.env.cells scope.names []) pm c' ctv)) (hn : H f = none) (hs : f ∉ frs X.stack)
    (hb : bindArgs (PySem.W.kla_fn "<lambda>" (X.env.qual ++ "<lambda>") params body scope (cloFrom X.env.cells scope.names []) pm (.ref c') ctv) ⟨[], []⟩ = pure [])
    (hr : Room (k + 1) (X.A.deeper (envG X x sg s g cdg)))
    (hbody : ∀ (s1 : Shared) (H1 : Hp) (E : XK), Room k ((X.A.deeper (envG X x sg s g cdg)).deeper (LamX.lamEnv X scope s1.heap.objs.size f c')) → PE (LamX.lamCx X (X.A.deeper (envG X x sg s g cdg)) (envG X x sg s g cdg :: X.stack) s1 H1 E scope f c') body (t E))
    (hN : Ng[0]? = some a) (hv : Vis sg a) (hd : (a == ("__debug__" : Str)) = false) (hcd : (a == ("__classdict__" : Str)) = false) :
    ActOk X Ng x sg g cdg s H a f c' (X.env.qual ++ "<lambda>") (fun E H' Q' => t E σ H' Q') := by
  intro W pn xe E p1 p2 tk hW
  constructor
  intro pz sz σz Hz Q Iz hyp
  obtain ⟨e1, e2, e3⟩ := hyp
  have nm := pe_var (X := (cxG X Ng x sg g cdg s H).tr pn xe) (i := 0) (pos := p1) hN hv hd hcd
  refine wpAny_Call_Name_kw (thn (nm.run pz sz σz Hz (fun v K1 => v = .ref f ∧ K1 = Hz) Iz ⟨_, e1, rfl, rfl⟩) ?_)
  rintro u s1 ⟨v, K1, J1, rv, rfl, rfl⟩
  cases rv
  have keepF := J1.base.keep f _ ho hn hs (fun z => nomatch (show f ∈ ([] : List Addr) from z))
  refine PySem.W.callWith_F0 ⟨_, _, _, _, keepF⟩ ?_
  obtain ⟨⟨oc, vs, tk2, q1, q2, q3⟩, _⟩ := J1.hok c' _ e2
  have runs : codeAny (model X.prog X.w) (X.A.deeper (envG X x sg s g cdg)) (.call (.ref f) ⟨[], []⟩) (CR (L2.CX X.prog X.w) (envG X x sg s g cdg :: X.stack) X.prog X.w K1 s1 Q E) s1 := by
    refine PySem.W.kla_callFunE hr.depth keepF rfl L.co L.gen rfl ⟨c', oc, vs, tk2, rfl, q1, q2, q3⟩ ?_
    rw [hb]
    refine wpAny_pure (wpAny_newFunctionEnv (fun y hy => (L.own y hy).2) (fun y hy => absurd hy (by simp)) (fun h1 ns sb => ⟨J1.nolimit.fresh _ sb, ?_⟩) L.kind)
    have kp : ∀ b o, s1.heap.get? b = some o → h1.get? b = some o := fun b o z => sb.extBut b o (Nat.ne_of_lt (Heap.lt_size z)) (Heap.get?_push_of_some _ z)
    have Js := LamX.lam_start2 (tk := s1.toks + ([] : List (Str × Value)).length) (f := f) (c' := c') (E := E) I L J1.env0 hr.hd J1.base ns kp
    show codeAny _ _ (.expr body (LamX.lamEnv X scope s1.heap.objs.size f c')) _ _
    refine PySem.W.kla_codeExpr (wpAny_mono ((hbody s1 K1 E (hr.deeper _)).run [] _ _ K1 Q Js e3) ?_ fun _ _ z => z)
    rintro w s2 ⟨v2, K2, J2, r2, q⟩
    exact ⟨v2, K2, J2.os, J2.bare, J2.base, J2.hok, r2, q⟩
  refine wpAny_call (codeAny_mono runs fun r s2 hq => ?_)
  cases r with
  | ok fl =>
    cases fl with
    | ret u => exact J1.after hq
    | _ => exact False.elim hq
  | error e =>
    refine tk e s2 (XE.of_call (W := fun cls d σ' H' => W cls d σ' H') (σ := σz) J1 (fun cls d K h => ?_) hq)
    exact hW cls d σz K J1.len h
end
/-- what a def makes of the lambda that it gets -/
def Gives (G : Gx) (ec : Nat → Addr) (C : Fns) (k : Nat) (X : Cx) (Ng : List Str) (x : Str) (sg : Scope) (g : Addr) (cdg : Value) (bg : List Stmt) (a : Str) (f : Nat) : Prop :=
  ∀ (fa c' : Addr) (q : Str) (s : Shared) (H : Hp) (Q : VK) (act : Mu → R D) (tl : XK → Hp → VK → Prop) (cs : List Addr) (Hf : Hp) (μ : Mu), Room (k + 1) (X.A.deeper (envG X x sg s g cdg)) → X.A.guards = some [] →
    ActOk X Ng x sg g cdg s H a fa c' q tl → H c' = some (LamX.CodeO c' q) → Well G cs H Hf μ → (∀ (E : XK) (Q' : VK), Post G ec (fun cls d _ H' => E cls d H') [] (act μ) cs H Hf Q' (Pst G) → tl E H Q') →
    Post G ec W0 [] (C.cat f act μ) cs H Hf Q (Pst G) → ∃ t, PSs (cxG X Ng x sg g cdg s H).nox bg t ∧ t { nx := fun _ H' => Q .non H', rt := Q } (L2.start Ng [.ref fa]) H
/-- such a def in the text -/
structure CatD (G : Gx) (ec : Nat → Addr) (C : Fns) (k : Nat) (X : Cx) (x : Str) (f : Nat) : Prop where
  ex : ∃ (g : Addr) (a : Str) (Ng : List Str) (pg : Arguments) (bg : List Stmt) (sg : Scope) (dV kV doc pm cdv ct oc : Value) (an od : Option Addr) (osl : Array (Option Value)),
    X.mg x = some (.ref g) ∧ PySem.W.keepIn X.K (.ref g) = true ∧ X.K.lookup g = some ⟨oc, od, .func (PySem.W.fnOf x x pg bg sg dV kV doc pm an cdv ct), osl⟩ ∧ PySem.W.codeIn X.K cdv x = true ∧
    (∀ (s : Shared) (u : Value), BindsTo s (PySem.W.fnOf x x pg bg sg dV kV doc pm an cdv ct) ⟨[u], []⟩ [(a, u)]) ∧ FnScope Ng [a] sg ∧ Ng[0]? = some a ∧ Vis sg a ∧ (a == ("__debug__" : Str)) = false ∧ (a == ("__classdict__" : Str)) = false ∧ Gives G ec C k X Ng x sg g cdv bg a f
theorem ext_step {G : Gx} {cs : List Addr} {H Hf H1 : Hp} {μ : Mu} (w : Well G cs H Hf μ) (e : LamX.ExtN H H1) (t : LamX.Tabs G.T H1) : Step G cs H Hf cs H1 Hf μ where
  pre := ⟨[], by simp, fun a h => absurd h (by simp)⟩
  keep := fun a o h _ q => e a o h q
  fre := fun a h o e1 q => h o (e a o e1 q) q
  sub := fun a o h => e a o (w.sub a o h) (w.notb a o h)
  notb := w.notb
  ext := fun _ _ h => h
  new := fun _ _ h => .inl h
  cells := ⟨w.cells.len, w.cells.nd, fun c ds a h1 h2 => let ⟨vs, q1, q2, q3⟩ := w.cells.at_ c ds a h1 h2; ⟨vs, e a _ q1 ntb_lst, q2, q3⟩⟩
  tabs := t
theorem post_w {G : Gx} {ec : Nat → Addr} {W : WX} {σ : L2.St} {r : R D} {cs : List Addr} {H Hf : Hp} {Q : VK} {P : RX} (n : ∀ x μ, r ≠ .ex x μ) (h : Post G ec W σ r cs H Hf Q P) : Post G ec W0 [] r cs H Hf Q P := by
  cases r with
  | ex x μ => exact absurd rfl (n x μ)
  | ok d μ => exact h
  | bad => exact h
section
variable {G : Gx} {ec : Nat → Addr} {S : Cs} {C : Fns} {k : Nat} {sx : Sx} {X : Cx} {W : WX}
theorem lam_ok (g0 : Good0 G ec S C k sx X W) (hh : sx.hot = false) {c P : Addr} (TB : LamX.TabB X.base X.mg c P) (hcode : X.env.code = .ref c) (hm : (P, X.env.qual ++ "<lambda>") ∈ G.T) (hu : ∀ p ∈ G.T, p.1 = P → p.2 = X.env.qual ++ "<lambda>")
    (hr : Room (k + 2) X.A) {f : Nat} {x : Str} (cd : CatD G ec C k X x f) (hne : ∀ act μ y μ', C.cat f act μ ≠ .ex y μ') (hg : glB sx.sc x = true) {body : Expr} {scope : Scope} {lpos p pos : Pos} {e : E} (hL : LamX.lamSB sx.sc scope = true)
    (hbody : ∀ (Y : Cx) (W' : WX), Good0 G ec S C k ⟨scope, fun _ => false, false, false⟩ Y W' → PE Y body (tE G ec W' (evE C e) (Pst G))) :
    PE X (.Call (.Name x p) [.Lambda noArgs body scope lpos] [] pos) (tE G ec W (evE C (.lam f e)) (Pst G)) := by
  obtain ⟨gd, a, Ng, pg, bg, sg, dV, kV, doc, pm, cdv, ct, oc, an, od, osl, h1, h2, h3, h4, h5, h6, h7, h8, h9, h10, hG⟩ := cd.ex
  have L : LamX.LamS X.env.scope scope := by rw [g0.sc]; exact LamX.lamS_by hL
  obtain ⟨hgl, hdb⟩ := g0.gl hg
  refine ⟨fun pins s σ H Q I h => ?_⟩
  obtain ⟨cs0, H0, Hf0, ρ, μ, cs, Hf, r, h⟩ := h
  have hpost : Post G ec W0 [] (C.cat f (fun μ => evE C e ρ μ) μ) cs H Hf Q (Pst G) := post_w (hne _ _) h
  refine wpAny_Call_Name_kw (ld_glob I hgl h1 ?_ hdb)
  refine PySem.W.callWith_K (h₀ := X.base) I.ok.mod.kin h2 ?_ rfl rfl
  show wpAny _ _ (spliced ((false, eval (.Lambda noArgs body scope lpos) X.env) :: backTo pos (starEach [] X.env))) _ _ s
  refine Calls.spliced_cons (LamX.lam_make2 I TB hcode hm hu r.well.tabs rfl (L.has I.ok) ?_)
  intro fa c' pm' ctv H1 s1 I1 eN T1 hf hfn hfr hco
  refine Calls.spliced_nil ⟨I1.kIn, ?_⟩
  have st := ext_step r.well eN T1
  have run : codeAny (model X.prog X.w) X.A (.call (.ref gd) ⟨[.ref fa], []⟩) (CR CXn X.stack X.prog X.w H1 s1 Q En) s1 := by
    refine LamX.run_ofS (N := Ng) (ps := [a]) (us := [.ref fa]) (vs := [.ref fa]) h3 h4 h6 hr I1.env0 (h5 s1 (.ref fa)) (.cons rfl .nil) rfl fun hr' => ?_
    have ok := act_ok (Ng := Ng) (a := a) (k := k) (t := fun E => tE G ec (fun cls d _ H' => E cls d H') (evE C e) (Pst G)) I1 L hf hfn hfr rfl hr' (fun s2 H2 E hr2 => hbody _ _ ?_) h7 h8 h9 h10
    · obtain ⟨t, ht, hq⟩ := hG fa c' _ s1 H1 Q (fun μ => evE C e ρ μ) _ cs Hf μ hr' (g0.gd hh) ok hco st.well (fun E Q' hp => ⟨cs0, H0, Hf0, ρ, μ, cs, Hf, r.step st, hp⟩) (Post.step back_st st hpost)
      exact ⟨t, ht.nox, hq⟩
    · refine ⟨g0.hK, g0.hN, g0.nd, fun _ => rfl, fun _ => hr2, fun _ => g0.gd hh, ?_, rfl, fun _ z => (by cases z), takes_of rfl rfl rfl rfl, g0.blt, g0.con, g0.fn, g0.exn, g0.efn, fun z => (by cases z)⟩
      have := hr2.un
      change ((X.A.deeper (envG X x sg s1 gd cdv)).deeper (LamX.lamEnv X scope s2.heap.objs.size fa c')).units + 70 < cLine
      omega
  refine wpAny_call (codeAny_mono run fun rr s2 hq => ?_)
  cases rr with
  | error e => exact (show False from hq).elim
  | ok fl =>
    cases fl with
    | ret u => exact I1.after hq
    | _ => exact False.elim hq
end
end Ev
end

section
set_option Elab.async false
set_option linter.all false
set_option maxRecDepth 100000
set_option maxHeartbeats 2000000
namespace Ev
open PySem PySem.Spec PyProof.Rows L2
/-- what the classes of errors say -/
structure ErrF (K : PySem.W.Frag) (ec : Nat → Addr) (S : Cs) : Prop where
  cl : ∀ y c, S.excs.lookup y = some c → (PySem.W.clsIn K (ec c)).isSome = true ∧ PySem.W.findIn K (.ref (ec c)) "__getattribute__" = some (some (.builtin "BaseException.__getattribute__")) ∧ PySem.W.findIn K (.ref (ec c)) "__getattr__" = some none ∧
    PySem.W.subIn K (.ref (ec c)) (.type "BaseException") = some true ∧ PySem.W.findIn K (.ref (ec c)) "__class__" = some (some (.builtin "object.__class__")) ∧ PySem.W.mroIn K (ec c) (.type "object") = some true
  sp : PySem.W.specialIn K (.builtin "object.__class__") "__get__" = some (some (.builtin "getset_descriptor.__get__")) ∧ PySem.W.takesIn K (.builtin "object.__class__") = some true
  kit : ∀ y c y' c', S.excs.lookup y = some c → S.excs.lookup y' = some c' → PySem.W.kitOne K (.ref (ec c)) (.ref (ec c')) = some (c' == 0 || c' == 1 || c == c')
  kitv : ∀ y c, S.excs.lookup y = some c → PySem.W.kitOne K (.ref (ec c)) (.type "ValueError") = some true
  fld : ∀ c f, S.fnm.lookup c = some f → XfC K (ec c) ∧ PySem.W.findIn K (.ref (ec c)) f = some none
section
variable {G : Gx} {ec : Nat → Addr} {S : Cs} {C : Fns} {X : Cx}
theorem inst_suite {a D : Addr} {oe : Obj} {d : Option Addr} {pn pins : List (Addr × Obj)} {σ : L2.St} {H : Hp} {s : Shared} (I : Inv (X.suite a ((a, oe) :: pn)) pins σ H s) (hz : Zc (.ref D) d oe) (hf : ∃ vs, oe.data = .fields vs) (hd : ∀ dd, d = some dd → ∃ fs, H dd = some (.xd fs)) :
    ∃ od, PySem.W.InstAt s.heap a oe D od := by
  obtain ⟨ha, _⟩ := I.pin (a, oe) (List.mem_append_left _ List.mem_cons_self)
  obtain ⟨vs, hv⟩ := hf
  have nc : PySem.W.notCls oe = true := by unfold PySem.W.notCls; rw [hv]
  cases d with
  | none => exact ⟨none, ha, hz.1, nc, by rw [hz.2]; trivial⟩
  | some dd =>
    obtain ⟨fs, hx⟩ := hd dd rfl
    obtain ⟨mA, ⟨od, es, ep, e1, e2, e3⟩, hr⟩ := I.hok dd _ hx
    exact ⟨some od, ha, hz.1, nc, by rw [hz.2]; exact e1⟩
theorem hot_ok (F : ErrF X.K ec S) {a : Addr} {oe : Obj} {pn : List (Addr × Obj)} {x : Nat} {d : Option Addr} {y0 : Str} (hy : S.excs.lookup y0 = some x) (hz : Zc (.ref (ec x)) d oe) (hf : ∃ vs, oe.data = .fields vs) :
    HotR { G with xa := a, xc := x, xd := d } ec S (X.suite a ((a, oe) :: pn)) where
  isx := by
    intro pins s σ H vs us Q I r h
    obtain ⟨c, y, rfl, hc, hd, q⟩ := h
    obtain ⟨u1, u2, rfl, r1, r2⟩ := vals2 r
    cases r1
    cases r2
    obtain ⟨od, J⟩ := inst_suite I hz hf hd
    obtain ⟨f1, f2, f3, f4, f5, f6⟩ := F.cl _ _ hy
    exact PySem.W.kia_one (PySem.W.kitx_exc f1 f2 f3 f4 f5 F.sp.1 F.sp.2 f6) I.kIn J (F.kit _ _ _ _ hy hc) (fun z => nomatch z) fun tk => ⟨.bl _, H, I.kept (t' := tk) fun _ _ z => z, rfl, q⟩
  isv := by
    intro pins s σ H vs us Q I r h
    obtain ⟨rfl, hd, q⟩ := h
    obtain ⟨u1, u2, rfl, r1, r2⟩ := vals2 r
    cases r1
    cases r2
    obtain ⟨od, J⟩ := inst_suite I hz hf hd
    obtain ⟨f1, f2, f3, f4, f5, f6⟩ := F.cl _ _ hy
    exact PySem.W.kia_one (PySem.W.kitx_exc f1 f2 f3 f4 f5 F.sp.1 F.sp.2 f6) I.kIn J (F.kitv _ _ hy) (fun z => nomatch z) fun tk => ⟨.bl _, H, I.kept (t' := tk) fun _ _ z => z, rfl, q⟩
  fld := by
    intro c f e i pos hcf hn he
    obtain ⟨f1, f2⟩ := F.fld c f hcf
    refine (pe_xf f1 f2 hz hf he (noSup_base hn)).imp fun σ H Q h => ?_
    obtain ⟨h1, h2, dd, v', h3, h4, h5⟩ := h
    have h2 : x = c := h2
    subst h2
    exact ⟨_, h1, rfl, rfl, dd, _, v', h3, h4, by simp [List.lookup], h5⟩
end
structure SameG (G G' : Gx) : Prop where
  K : G.K = G'.K
  fad : G.fad = G'.fad
  T : G.T = G'.T
  ef : G.ef = G'.ef
section
variable {G G' : Gx} {cs cs' cs0 : List Addr} {H Hf H' Hf' H0 Hf0 : Hp} {μ : Mu}
mutual
theorem Rep.same (g : SameG G G') : ∀ (d : D) (v : V), Rep G cs H d v → Rep G' cs H d v
  | .non, v, h => by simpa only [Rep] using h
  | .bl b, v, h => by simpa only [Rep] using h
  | .int i, v, h => by simpa only [Rep] using h
  | .str x, v, h => by simpa only [Rep] using h
  | .tup ds, v, h => by
    obtain ⟨a, vs, e1, h1, h2⟩ := Rep.tup_iff.mp h
    exact Rep.tup_iff.mpr ⟨a, vs, e1, g.K ▸ h1, Reps.same g ds vs h2⟩
  | .lst ds, v, h => by
    obtain ⟨a, vs, e1, h1, h2⟩ := Rep.lst_iff.mp h
    exact Rep.lst_iff.mpr ⟨a, vs, e1, h1, Reps.same g ds vs h2⟩
  | .dic ks ds, v, h => by
    obtain ⟨a, vs, e1, h1, h3, h2⟩ := Rep.dic_iff.mp h
    exact Rep.dic_iff.mpr ⟨a, vs, e1, h1, h3, Reps.same g ds vs h2⟩
  | .rng lo hi, v, h => by simpa only [Rep] using h
  | .fn f, v, h => Rep.fn_iff.mpr (g.fad ▸ Rep.fn_iff.mp h)
  | .cell c, v, h => by simpa only [Rep] using h
  | .scr ns, v, h => by
    obtain ⟨a, e1, h1⟩ := Rep.scr_iff.mp h
    exact Rep.scr_iff.mpr ⟨a, e1, g.K ▸ h1⟩
theorem Reps.same (g : SameG G G') : ∀ (ds : List D) (vs : List V), Reps G cs H ds vs → Reps G' cs H ds vs
  | [], vs, h => Reps.nil_iff.mpr (Reps.nil_iff.mp h)
  | d :: ds, vs, h => by
    obtain ⟨v, r, e1, h1, h2⟩ := Reps.cons_iff.mp h
    exact Reps.cons_iff.mpr ⟨v, r, e1, Rep.same g d v h1, Reps.same g ds r h2⟩
end
theorem SameG.symm (g : SameG G G') : SameG G' G := ⟨g.K.symm, g.fad.symm, g.T.symm, g.ef.symm⟩
theorem Step.same (g : SameG G G') (s : Step G cs H Hf cs' H' Hf' μ) : Step G' cs H Hf cs' H' Hf' μ :=
  ⟨s.pre, s.keep, s.fre, s.sub, s.notb, s.ext, s.new, ⟨s.cells.len, s.cells.nd, fun c ds a e1 e2 => let ⟨vs, q1, q2, q3⟩ := s.cells.at_ c ds a e1 e2; ⟨vs, q1, q2, Reps.same g _ _ q3⟩⟩, g.T ▸ s.tabs⟩
end
theorem same_x {G : Gx} {a : Addr} {x : Nat} {d : Option Addr} : SameG G { G with xa := a, xc := x, xd := d } := ⟨rfl, rfl, rfl, rfl⟩
structure CatDef where
  n : Nat
  /-- where the lambda's value is kept, if it is -/
  j : Option Nat
  /-- the error's name -/
  i : Nat
  h : Ev.S
  rest : Ev.S
  /-- the classes that may come -/
  kn : List Nat
def fnR (r : R Fl) : R D := match r with
  | .ok (.rt d) μ => .ok d μ
  | .ok (.nx _) μ => .ok .non μ
  | .ok _ _ => .bad
  | .ex x μ => .ex x μ
  | .bad => .bad
def noEx (r : R Fl) : R D := match r with
  | .ok (.rt d) μ => .ok d μ
  | .ok (.nx _) μ => .ok .non μ
  | _ => .bad
def catR (C : Fns) (d : CatDef) (r : R D) : R D := match r with
  | .ok v μ => noEx (evS C d.rest (match d.j with
    | some j => (List.replicate d.n Slot.un).set j (.sh v)
    | none => List.replicate d.n Slot.un) μ)
  | .ex x μ => if d.kn.contains x.cls = true then noEx ((evS C d.h ((List.replicate d.n Slot.un).set d.i (.exc x)) μ).thn fun ρ μ => evS C d.rest (ρ.set d.i .un) μ) else .bad
  | .bad => .bad
theorem catR_ne {C : Fns} {d : CatDef} {r : R D} {y : Exn} {μ' : Mu} : catR C d r ≠ .ex y μ' := by
  have ne : ∀ q : R Fl, noEx q ≠ .ex y μ' := fun q h => by
    unfold noEx at h
    split at h <;> cases h
  unfold catR
  split
  · exact ne _
  · split
    · exact ne _
    · exact fun h => by cases h
  · exact fun h => by cases h
end Ev
end

section
set_option Elab.async false
set_option linter.all false
set_option maxRecDepth 100000
set_option maxHeartbeats 2000000
namespace Ev
open PySem PySem.Spec PyProof.Rows L2
section
variable {G G' : Gx} {ec : Nat → Addr} {C : Fns} {cs cs' cb : List Addr} {H Hf H' Hf' Hb : Hp} {μ μ' : Mu} {σ : L2.St}
theorem un_get {n i : Nat} {s : Slot} (h : (List.replicate n Slot.un)[i]? = some s) : s = .un := by
  rw [List.getElem?_replicate] at h
  split at h
  · exact (Option.some.inj h).symm
  · cases h
/-- nothing is known of the slots -/
theorem Rel.blank {n : Nat} (st : Step G cs H Hf cs' H' Hf' μ') (hl : σ.length = n) : Rel G cs H Hf (List.replicate n Slot.un) μ' cs' σ H' Hf' := by
  refine ⟨st, by simp [hl], fun i s e => ?_, fun i j s t a e1 e2 o1 o2 _ _ => ?_⟩
  · rw [un_get e]; trivial
  · rw [un_get e1] at o1; cases o1
theorem Rel.setExc {ρ : Env} {cs0 : List Addr} {H0 Hf0 : Hp} (r : Rel G cs0 H0 Hf0 ρ μ cs σ H Hf) {i : Nat} {x : Exn} (h : x.cls = G.xc ∧ ArgOk G cs Hf x) : Rel G cs0 H0 Hf0 (ρ.set i (.exc x)) μ cs (σ.set i (some (.ref G.xa))) H Hf := by
  refine ⟨r.st, by simp [r.len], fun j s e => ?_, fun j l s t a e1 e2 o1 o2 q1 q2 => ?_⟩
  · rw [get_set] at e ⊢
    rw [← r.len]
    split at e
    · rename_i hh
      cases e
      rw [if_pos hh]
      exact ⟨rfl, h⟩
    · rename_i hh
      rw [if_neg hh]
      exact r.slot j s e
  · rw [get_set] at e1 e2 q1 q2
    rw [← r.len] at q1 q2
    split at e1
    · cases e1; cases o1
    · rename_i h1
      rw [if_neg h1] at q1
      split at e2
      · cases e2; cases o2
      · rename_i h2
        rw [if_neg h2] at q2
        exact r.apart j l s t a e1 e2 o1 o2 q1 q2
/-- what is wished of the whole holds of a part of its statements -/
theorem noEx_post (g : SameG G G') {r : R Fl} {Q : VK} (h : Post G ec W0 [] (noEx r) cs H Hf Q (Pst G)) : PostS G' ec W0 false r cs H Hf cb Hb { nx := fun _ H' => Q .non H', rt := Q } := by
  cases r with
  | ok fl μ' =>
    cases fl with
    | nx ρ => exact fun σ cs' H' Hf' r _ => h .non cs' H' Hf' (Step.same g.symm r.st) (Rep.non_iff (G := G) (cs := cs') (H := Hf') |>.mpr rfl)
    | rt d => exact fun v cs' H' Hf' s hv => h v cs' H' Hf' (Step.same g.symm s) (Rep.same g.symm d v hv)
    | bk ρ => exact h.elim
    | ct ρ => exact h.elim
  | ex x μ' => exact h.elim
  | bad => exact h.elim
theorem noEx_thn (g : SameG G G') {r : R Fl} {f : Env → Mu → R Fl} {Q : VK} {i : Nat} {D2 : Ends} (h : Post G ec W0 [] (noEx (r.thn fun ρ μ => f (ρ.set i .un) μ)) cs H Hf Q (Pst G)) (hrt : D2.rt = Q)
    (hnx : ∀ (ρ : Env) μ' σ cs' H' Hf', Rel G' cs H Hf (ρ.set i .un) μ' cs' (σ.set i none) H' Hf' → Post G ec W0 [] (noEx (f (ρ.set i .un) μ')) cs H Hf Q (Pst G) → D2.nx σ H') : PostS G' ec W0 false r cs H Hf cb Hb D2 := by
  cases r with
  | ok fl μ' =>
    cases fl with
    | nx ρ => exact fun σ cs' H' Hf' r _ => hnx ρ μ' σ cs' H' Hf' r.unset h
    | rt d =>
      intro v cs' H' Hf' s hv
      rw [hrt]
      exact h v cs' H' Hf' (Step.same g.symm s) (Rep.same g.symm d v hv)
    | bk ρ => exact h.elim
    | ct ρ => exact h.elim
  | ex x μ' => exact h.elim
  | bad => exact h.elim
end
/-- the static part in such a def -/
def Cs.cat (T : Cs) (Ng : List Str) : Cs := { T with N := Ng, fns := [], cons := [], cats := [], frsh := [] }
def Cs.cat0 (T : Cs) (Ng : List Str) : Cs := { T with N := Ng, fns := [], cons := [], cats := [], frsh := [], excs := [], fnm := [], exfs := [] }
abbrev sxH (sg : Scope) : Sx := ⟨sg, fun _ => true, true, false⟩
abbrev sxR (sg : Scope) : Sx := ⟨sg, fun _ => true, false, false⟩
/-- the facts that it leans on -/
structure CatF (G : Gx) (ec : Nat → Addr) (T : Cs) (X : Cx) (kn : List Nat) : Prop where
  hK : X.K = G.K
  blt : ∀ n ∈ bNames, X.mg n = none
  exn : ∀ y c, T.excs.lookup y = some c → X.mg y = some (.ref (ec c))
  efn : ∀ c f, T.fnm.lookup c = some f → G.ef c = f
  ef : ErrF X.K ec T
  kn : ∀ c ∈ kn, (∃ y, T.excs.lookup y = some c) ∧ PySem.W.exmOne X.K (.ref (ec c)) (.ref (ec 0)) = some true
section
variable {G : Gx} {ec : Nat → Addr} {T : Cs} {C C' : Fns} {k : Nat} {X : Cx} {Ng : List Str} {x : Str} {sg : Scope} {g : Addr} {cdg : Value}
theorem good_rest (F : X.K = G.K) (hb : ∀ n ∈ bNames, X.mg n = none) (nd : Ng.Nodup) {s : Shared} {H : Hp} (hr : Room (k + 1) (X.A.deeper (envG X x sg s g cdg))) (hg : X.A.guards = some []) {G0 : Gx} (h0 : SameG G G0) : GoodS G0 ec (T.cat0 Ng) C' k (sxR sg) (cxG X Ng x sg g cdg s H).nox W0 := by
  refine ⟨⟨⟨F.trans h0.K, rfl, nd, fun _ => rfl, fun _ => hr.mono (Nat.le_succ k), fun _ => hg, ?_, rfl, fun _ _ => rfl, LamX.takes0, hb, fun y c z => (by cases z), fun y f z => (by cases z), fun y c z => (by cases z), fun c f z => (by cases z), fun z => (by cases z)⟩, fun z => (by cases z)⟩, PassesOwn.never, fun _ y c z => (by cases z), fun _ y c z => (by cases z)⟩
  have := hr.un
  change (X.A.deeper (envG X x sg s g cdg)).units + 70 < cLine
  omega
theorem good_hot {kn : List Nat} (F : CatF G ec T X kn) (nd : Ng.Nodup) {s : Shared} {H : Hp} (hr : Room (k + 1) (X.A.deeper (envG X x sg s g cdg))) {a : Addr} {oe : Obj} {c : Nat} {d : Option Addr} {pn : List (Addr × Obj)} (hc : c ∈ kn) (hz : Zc (.ref (ec c)) d oe) (hf : ∃ vs, oe.data = .fields vs) :
    GoodS { G with xa := a, xc := c, xd := d } ec (T.cat Ng) C' k (sxH sg) ((cxG X Ng x sg g cdg s H).nox.suite a ((a, oe) :: pn)) W0 := by
  obtain ⟨⟨y, hy⟩, _⟩ := F.kn c hc
  refine ⟨⟨⟨F.hK, rfl, nd, fun z => (by cases z), fun z => (by cases z), fun z => (by cases z), ?_, rfl, fun _ _ => rfl, LamX.takes0, F.blt, fun y c z => (by cases z), fun y f z => (by cases z), F.exn, F.efn, fun _ => hot_ok (S := T.cat Ng) (X := (cxG X Ng x sg g cdg s H).nox) ⟨F.ef.cl, F.ef.sp, F.ef.kit, F.ef.kitv, F.ef.fld⟩ hy hz hf⟩, fun z => (by cases z)⟩, PassesOwn.never, fun z => (by cases z), fun z => (by cases z)⟩
  have := hr.un
  change (X.A.deeper (envG X x sg s g cdg)).units + 70 < cLine
  omega
/-- the body of the try: a(), its value dropped or kept -/
def tryB (a : Str) (fnd : Option Str) (p1 p2 p3 p4 : Pos) : Stmt := match fnd with
  | none => .Expr (.Call (.Name a p1) [] [] p2) p3
  | some y => .Assign [.Name y p4] (.Call (.Name a p1) [] [] p2) p3
def keepV (j : Option Nat) (v : V) (σ : L2.St) : L2.St := match j with
  | none => σ
  | some j => σ.set j (some v)
theorem cat_gives {a n re : Str} {fnd : Option Str} {f : Nat} {d : CatDef} {b0 : Stmt} {suite rest : List Stmt} {p1 p2 p3 p4 p5 p6 p7 : Pos} (F : CatF G ec T X d.kn) (Sg : FnScope Ng [a] sg) (hn : d.n = Ng.length) (h0 : 0 < Ng.length)
    (hi : locB (T.cat Ng) (sxR sg) d.i n = true) (hre : T.excs.lookup re = some 0) (hgre : glB sg re = true)
    (hj : match fnd, d.j with
      | none, none => True
      | some y, some j => nameB (T.cat Ng) (sxR sg) j y = true
      | _, _ => False)
    (hh : d.h.chk (T.cat Ng) (sxH sg) false (.inr (b0 :: suite)) = true) (hr : d.rest.chk (T.cat0 Ng) (sxR sg) false (.inr rest) = true) (hcat : ∀ act μ, C.cat f act μ = catR C' d (act μ)) :
    Gives G ec C k X Ng x sg g cdg (.Try [tryB a fnd p1 p2 p3 p4] [.ExceptHandler (some (.Name re p5)) (some n) (b0 :: suite) p6] [] [] p7 :: rest) a f := by
  intro fa c' q s H Q act tl cs Hf μ hroom hgd ok hc wl htl hpost
  rw [hcat] at hpost
  unfold locB at hi
  simp only [Bool.and_eq_true, decide_eq_true_eq] at hi
  obtain ⟨hi1, hi2⟩ := hi
  unfold glB at hgre
  simp only [Bool.and_eq_true, decide_eq_true_eq, Bool.not_eq_true'] at hgre
  have hlen : (L2.start Ng [V.ref fa]).length = Ng.length := by
    unfold L2.start
    simp
    omega
  have hst0 : (L2.start Ng [V.ref fa])[0]? = some (some (.ref fa)) := rfl
  have tryPS := ps_try_as (X := (cxG X Ng x sg g cdg s H).nox) (x := re) (n := n) (c := .ref (ec 0)) (i := d.i) (body := [tryB a fnd p1 p2 p3 p4]) (suite := suite) (b₀ := b0) (np := p5) (pos := p7) (pos' := p6)
    (tb := fun W D σ H => ∃ E : XK, (∀ cls d σ' H', σ'.length = Ng.length → E cls d H' → W cls d σ' H') ∧ σ[0]? = some (some (.ref fa)) ∧ H c' = some (LamX.CodeO c' q) ∧ tl E H (fun v H1 => D.nx (keepV d.j v σ) H1))
    (ts := fun ad cls dx D σ H => ∃ y : Exn, cls = .ref (ec y.cls) ∧ y.cls ∈ d.kn ∧ tS { G with xa := ad, xc := y.cls, xd := dx } ec W0 false (evS C' d.h) D σ H) (Wout := W0)
    rfl rfl Sg.nd hi1 hi2 ⟨hgre.1, hgre.2, .inl (F.exn re 0 hre)⟩ LamX.takes0
    (fun W pn xe tk _ => by
      refine pss_one ⟨fun pins s' σ' H' D I h' => ?_⟩
      obtain ⟨E, hW, e1, e2, e3⟩ := h'
      have act1 := ok W pn xe E p1 p2 tk hW
      cases fnd with
      | none =>
        cases hj2 : d.j with
        | none =>
          rw [hj2] at e3
          exact (ps_expr (pos := p3) act1 rfl).run pins s' σ' H' D I ⟨e1, e2, e3⟩
        | some j => rw [hj2] at hj; exact hj.elim
      | some y =>
        cases hj2 : d.j with
        | none => rw [hj2] at hj; exact hj.elim
        | some j =>
          rw [hj2] at e3 hj
          have hj : nameB (T.cat Ng) (sxR sg) j y = true := hj
          unfold nameB at hj
          simp only [Bool.and_eq_true, Bool.or_eq_true, decide_eq_true_eq] at hj
          obtain ⟨hj1, hj3⟩ := hj
          exact (ps_set (X := ((cxG X Ng x sg g cdg s H).tr pn xe)) (i := j) (pos := p3) (pos' := p4) Sg.nd hj1 (hj3.elim .inl fun z => .inr z.1) act1 rfl (.inl rfl)).run pins s' σ' H' D I ⟨e1, e2, e3⟩)
    (fun ad oe cls dx pn hz hf => by
      refine ⟨fun pins s' σ' H' D I h' => ?_⟩
      obtain ⟨y, e1, e2, e3⟩ := h'
      subst e1
      exact ((snds d.h _ _ _ (good_hot F Sg.nd hroom e2 hz hf)).2 _ hh).run pins s' σ' H' D I e3)
  have restPS : PSs (cxG X Ng x sg g cdg s H).nox rest (fun D σ H => ∃ G0, SameG G G0 ∧ tS G0 ec W0 false (evS C' d.rest) D σ H) := ⟨fun pins s' σ' H' D I h' => by
    obtain ⟨G0, e1, e2⟩ := h'
    exact ((snds d.rest _ _ _ (good_rest (T := T) F.hK F.blt Sg.nd hroom hgd e1)).2 _ hr).run pins s' σ' H' D I e2⟩
  refine ⟨_, pss_cons tryPS restPS, ?_⟩
  refine ⟨fun cls dx H' => ∀ σ', σ'.length = Ng.length → wAs X.K (.ref (ec 0)) d.i _ W0 _ cls dx σ' H', fun cls dx σ' H' hl h => h σ' hl, hst0, hc, htl _ _ ?_⟩
  cases hact : act μ with
  | bad => rw [hact] at hpost; exact hpost.elim
  | ok v μ' =>
    rw [hact] at hpost
    intro v' cs' H' Hf' st hv
    refine ⟨G, ⟨rfl, rfl, rfl, rfl⟩, cs, H, Hf, cs', Hf', _, μ', cs', Hf', ?_, Ext.rfl, noEx_post (G' := G) ⟨rfl, rfl, rfl, rfl⟩ hpost⟩
    cases hj2 : d.j with
    | none => exact Rel.blank st (by rw [hn]; exact hlen)
    | some j => exact (Rel.blank st (by rw [hn]; exact hlen)).set hv
  | ex y μ' =>
    rw [hact] at hpost
    intro cls dx cs' H' Hf' st hx σ' hl
    obtain ⟨hx1, hx2⟩ := hx
    have hpost : Post G ec W0 [] (if d.kn.contains y.cls = true then noEx ((evS C' d.h ((List.replicate d.n Slot.un).set d.i (.exc y)) μ').thn fun ρ μ => evS C' d.rest (ρ.set d.i .un) μ) else .bad) cs H Hf Q (Pst G) := hpost
    split at hpost
    · rename_i hk
      have hk : y.cls ∈ d.kn := by simpa using hk
      refine ⟨true, by rw [hx1]; exact (F.kn _ hk).2, fun _ ad na => ⟨y, hx1, hk, ?_⟩, fun z => by cases z⟩
      have gx : SameG G { G with xa := ad, xc := y.cls, xd := dx } := same_x
      have ao : ArgOk { G with xa := ad, xc := y.cls, xd := dx } cs' Hf' y := by
        refine ⟨fun ea => ?_, fun dd ea => ?_⟩
        · rw [ea] at hx2; exact hx2
        · rw [ea] at hx2
          obtain ⟨da, v, q1, q2, q3⟩ := hx2
          exact ⟨da, v, q1, q2, Rep.same gx dd v q3⟩
      refine ⟨cs, H, Hf, cs', Hf', _, μ', cs', Hf', Rel.setExc (Rel.blank (Step.same gx st) (by rw [hn]; exact hl)) ⟨rfl, ao⟩, Ext.rfl, noEx_thn gx hpost rfl fun ρ μ2 σ2 cs2 H2 Hf2 r2 hp2 => ?_⟩
      exact ⟨_, gx, cs, H, Hf, cs2, Hf2, _, μ2, cs2, Hf2, r2, Ext.rfl, noEx_post gx hp2⟩
    · exact hpost.elim
end
end Ev
end

section
set_option Elab.async false
set_option linter.all false
set_option maxRecDepth 100000
set_option maxHeartbeats 2000000
namespace Ev
open PySem PySem.Spec PyProof.Rows L2
structure FnDef where
  N : List Str
  np : Nat
  body : Ev.S
/-- the parts that no call needs -/
def fns0 (con : Nat → D) : Fns := ⟨fun _ _ _ => .bad, con, fun _ _ _ => .bad, fun _ => .bad⟩
def startE (d : FnDef) (ds : List D) : Env := ds.map Slot.sh ++ List.replicate (d.N.length - d.np) Slot.un
def callD (C : Fns) (d : FnDef) (ds : List D) (μ : Mu) : R D := if ds.length = d.np then fnR (evS C d.body (startE d ds) μ) else .bad
def catD (con : Nat → D) (cats : Nat → Option CatDef) (f : Nat) (act : Mu → R D) (μ : Mu) : R D := match cats f with
  | some d => catR (fns0 con) d (act μ)
  | none => .bad
/-- the functions, calls nested to n -/
def fnsAt (con : Nat → D) (tab : Nat → Option FnDef) (cats : Nat → Option CatDef) : Nat → Fns
  | 0 => ⟨fun _ _ _ => .bad, con, catD con cats, fun _ => .bad⟩
  | n + 1 => ⟨fun f ds μ => match tab f with
    | some d => callD (fnsAt con tab cats n) d ds μ
    | none => .bad, con, catD con cats, fun _ => .bad⟩
theorem fnsAt_con {con : Nat → D} {tab : Nat → Option FnDef} {cats : Nat → Option CatDef} (n : Nat) : (fnsAt con tab cats n).con = con := by cases n <;> rfl
theorem fnsAt_cat {con : Nat → D} {tab : Nat → Option FnDef} {cats : Nat → Option CatDef} (n : Nat) : (fnsAt con tab cats n).cat = catD con cats := by cases n <;> rfl
theorem catD_ne {con : Nat → D} {cats : Nat → Option CatDef} {f : Nat} {act : Mu → R D} {μ : Mu} {y : Exn} {μ' : Mu} : catD con cats f act μ ≠ .ex y μ' := by
  unfold catD
  split
  · exact catR_ne
  · exact fun h => by cases h
/-- for what holds of every context of the text -/
structure AtX (G : Gx) (P : Program) (w : World) (mg : Str → Option Value) (base : Heap) (X : Cx) : Prop where
  prog : X.prog = P
  w : X.w = w
  K : X.K = G.K
  mg : X.mg = mg
  base : X.base = base
/-- how errors are made -/
structure RaiseR (ec : Nat → Addr) (T : Cs) (ef : Nat → Str) (X : Cx) : Prop where
  r0 : ∀ x c, T.excs.lookup x = some c → T.exf c = false → ∀ p pos, Gl X x → (x == ("__debug__" : Str)) = false → PMk X (.Call (.Name x p) [] [] pos) (fun σ H Q => Q (.ref (ec c)) none H)
  r1 : ∀ x c, T.excs.lookup x = some c → T.exf c = true → ∀ p pos e te, Gl X x → (x == ("__debug__" : Str)) = false → isStar e = false → (∀ σ H (Q Q' : VK), (∀ v H', Q v H' → Q' v H') → te σ H Q → te σ H Q') → PE X e te → PMk X (.Call (.Name x p) [e] [] pos) (fun σ H Q => te σ H fun y H1 => ∀ d, H1 d = none → Q (.ref (ec c)) (some d) (upd H1 d (.xd [(ef c, y)])))
/-- the facts of a law's text -/
structure TextF (G : Gx) (ec : Nat → Addr) (T : Cs) (P : Program) (w : World) (mg : Str → Option Value) (base : Heap) (con : Nat → D) (cats : Nat → Option CatDef) : Prop where
  blt : ∀ n ∈ bNames, mg n = none
  cnr : ∀ x c, T.cons.lookup x = some c → ∃ v u, mg x = some u ∧ RelV v u ∧ ∀ cs H Hf μ, Well G cs H Hf μ → Rep G cs Hf (con c) v
  fn : ∀ x f, T.fns.lookup x = some f → mg x = some (.ref (G.fad f)) ∧ PySem.W.keepIn G.K (.ref (G.fad f)) = true
  exn : ∀ x c, T.excs.lookup x = some c → mg x = some (.ref (ec c))
  efn : ∀ c f, T.fnm.lookup c = some f → G.ef c = f
  rs : ∀ X, AtX G P w mg base X → Room 2 X.A → RaiseR ec T G.ef X
  cat : ∀ (C : Fns) (k : Nat) X, AtX G P w mg base X → (∀ f act μ, C.cat f act μ = catD con cats f act μ) → ∀ x f, T.cats.lookup x = some f → CatD G ec C k X x f
/-- the name of a lambda that a def makes -/
def lamQ (qual : Str) : Str := (envOfC qual ⟨.function, [], false, false, []⟩ 0 0 .none).qual ++ "<lambda>"
/-- a def's facts -/
structure DefF (G : Gx) (T : Cs) (mg : Str → Option Value) (base : Heap) (f : Nat) (d : FnDef) : Prop where
  ex : ∃ (name qual : Str) (ps : List Str) (params : Arguments) (body : List Stmt) (scope : Scope) (dV kV doc pm cdv ct oc : Value) (an od : Option Addr) (osl : Array (Option Value)) (lam : Bool),
    G.K.lookup (G.fad f) = some ⟨oc, od, .func (PySem.W.fnOf name qual params body scope dV kV doc pm an cdv ct), osl⟩ ∧ PySem.W.codeIn G.K cdv qual = true ∧ FnScope d.N ps scope ∧ ps.length = d.np ∧
    (∀ (s : Shared) (us : List Value), us.length = ps.length → BindsTo s (PySem.W.fnOf name qual params body scope dV kV doc pm an cdv ct) ⟨us, []⟩ (ps.zip us)) ∧
    d.body.chk { T with N := d.N } ⟨scope, fun _ => true, false, lam⟩ (T.ff f) (.inr body) = true ∧
    (lam = true → ∃ c P, cdv = .ref c ∧ LamX.TabB base mg c P ∧ (P, lamQ qual) ∈ G.T ∧ ∀ p ∈ G.T, p.1 = P → p.2 = lamQ qual)
section
variable {G : Gx} {ec : Nat → Addr} {T : Cs} {P : Program} {w : World} {mg : Str → Option Value} {base : Heap} {con : Nat → D} {tab : Nat → Option FnDef} {cats : Nat → Option CatDef}
theorem start_rel {d : FnDef} {ds : List D} {vs : List V} {cs : List Addr} {H Hf : Hp} {μ : Mu} (w : Well G cs H Hf μ) (h : Reps G cs Hf ds vs) (hl : ds.length = d.np) : Rel G cs H Hf (startE d ds) μ cs (L2.start d.N vs) H Hf := by
  have e1 : (startE d ds).length = (L2.start d.N vs).length := by
    unfold startE L2.start
    simp [h.len]
    rw [← h.len, hl]
  have no : ∀ (i : Nat) (s : Slot), (startE d ds)[i]? = some s → s = .un ∨ ∃ dd, ds[i]? = some dd ∧ s = .sh dd := fun i s e => by
    unfold startE at e
    rcases Nat.lt_or_ge i ds.length with hi | hi
    · rw [List.getElem?_append_left (by simpa using hi), List.getElem?_map] at e
      cases q : ds[i]? with
      | none => rw [q] at e; cases e
      | some dd => rw [q] at e; cases e; exact .inr ⟨dd, rfl, rfl⟩
    · rw [List.getElem?_append_right (by simpa using hi)] at e
      exact .inl (un_get e)
  refine ⟨w, e1, fun i s e => ?_, fun i j s t a z1 z2 o1 o2 _ _ => ?_⟩
  · rcases no i s e with rfl | ⟨dd, q, rfl⟩
    · trivial
    · obtain ⟨v, q1, q2⟩ := h.get q
      refine ⟨v, ?_, q2⟩
      unfold L2.start
      have hi : i < vs.length := by
        rcases Nat.lt_or_ge i vs.length with z | z
        · exact z
        · rw [List.getElem?_eq_none z] at q1; cases q1
      rw [List.getElem?_append_left (by simpa using hi), List.getElem?_map, q1]
      rfl
  · rcases no i s z1 with rfl | ⟨dd, _, rfl⟩ <;> cases o1
theorem fnR_post {E : XK} {cs : List Addr} {H Hf : Hp} {r : R Fl} {Q : VK} {fr : Bool} (h : Post G ec (fun cls d _ H' => E cls d H') [] (fnR r) cs H Hf Q (if fr = true then Pfr G else Pst G)) :
    PostS G ec (fun cls d _ H' => E cls d H') fr r cs H Hf cs Hf { nx := fun _ H' => Q .non H', rt := Q } := by
  cases r with
  | ok fl μ' =>
    cases fl with
    | nx ρ =>
      intro σ cs' H' Hf' r _
      refine h .non cs' H' Hf' r.st ?_
      split
      · exact (Rep.non_iff (G := G) (cs := cs') (H := Hf')).mpr rfl
      · exact (Rep.non_iff (G := G) (cs := cs') (H := Hf')).mpr rfl
    | rt d => exact fun v cs' H' Hf' s hv => h v cs' H' Hf' s hv
    | bk ρ => exact h.elim
    | ct ρ => exact h.elim
  | ex x μ' => exact fun σ cls dx cs' H' Hf' s hx => h cls dx cs' H' Hf' s hx
  | bad => exact h.elim
theorem def_runs (F : TextF G ec T P w mg base con cats) {C : Fns} {k f : Nat} {d : FnDef} (D : DefF G T mg base f d) (hcon : C.con = con) (hcat : C.cat = catD con cats)
    (hf : ∀ x f, T.fns.lookup x = some f → GRuns G ec P w mg base k (T.ff f) (G.fad f) (C.call f)) : GRuns G ec P w mg base (k + 3) (T.ff f) (G.fad f) (callD C d) := by
  obtain ⟨name, qual, ps, params, body, scope, dV, kV, doc, pm, cdv, ct, oc, an, od, osl, lam, h1, h2, h3, h4, h5, h6, h7⟩ := D.ex
  refine ⟨fun A outer s H us vs Q E hr hg e0 rv hyp => ?_⟩
  obtain ⟨cs, Hf, μ, ds, wl, hreps, hp⟩ := hyp
  unfold callD at hp
  by_cases hl : ds.length = d.np
  · rw [if_pos hl] at hp
    have hv : vs.length = ps.length := by rw [← hreps.len, hl, h4]
    refine LamX.run_ofS (CX := L2.CX P w) (k := k + 2) (N := d.N) (ps := ps) h1 h2 h3 hr e0 (h5 s us (by rw [← rv.length]; exact hv)) rv hv fun hr' => ?_
    have at_ : AtX G P w mg base (cxOf (L2.CX P w) P w G.K mg base d.N qual scope (G.fad f) cdv A outer s H E) := ⟨rfl, rfl, rfl, rfl, rfl⟩
    have g0 : Good0 G ec { T with N := d.N } C k ⟨scope, fun _ => true, false, lam⟩ (cxOf (L2.CX P w) P w G.K mg base d.N qual scope (G.fad f) cdv A outer s H E) (fun cls d _ H' => E cls d H') := by
      refine ⟨rfl, rfl, h3.nd, fun _ => rfl, fun _ => hr'.mono (by omega), fun _ => hg, ?_, rfl, fun _ _ => rfl, takes_of rfl rfl rfl rfl, F.blt, ?_, fun x f hx => ⟨(F.fn x f hx).1, (F.fn x f hx).2, hf x f hx⟩, F.exn, F.efn, fun z => by cases z⟩
      · have := hr'.un
        change (A.deeper (envOfC qual scope s.heap.objs.size (G.fad f) cdv)).units + 70 < cLine
        omega
      · intro x c hx
        rw [hcon]
        exact F.cnr x c hx
    have g1 : Good G ec { T with N := d.N } C k ⟨scope, fun _ => true, false, lam⟩ (cxOf (L2.CX P w) P w G.K mg base d.N qual scope (G.fad f) cdv A outer s H E) (fun cls d _ H' => E cls d H') := by
      refine ⟨g0, fun hlam f' x' hx hgl body' scope' lpos p pos e hL hb => ?_⟩
      obtain ⟨c, Pt, e1, e2, e3, e4⟩ := h7 hlam
      have cd : CatD G ec C k (cxOf (L2.CX P w) P w G.K mg base d.N qual scope (G.fad f) cdv A outer s H E) x' f' := F.cat C k _ at_ (fun f act μ => by rw [hcat]) x' f' hx
      have hne : ∀ act μ y μ', C.cat f' act μ ≠ .ex y μ' := fun act μ y μ' => by rw [hcat]; exact catD_ne
      have hq : (cxOf (L2.CX P w) P w G.K mg base d.N qual scope (G.fad f) cdv A outer s H E).env.qual = (envOfC qual ⟨.function, [], false, false, []⟩ 0 0 .none).qual := rfl
      have hcd : (cxOf (L2.CX P w) P w G.K mg base d.N qual scope (G.fad f) cdv A outer s H E).env.code = .ref c := e1
      exact lam_ok (c := c) (P := Pt) g0 rfl e2 hcd (by rw [hq]; exact e3) (by rw [hq]; exact e4) hr' cd hne hgl hL hb
    have rr := F.rs _ at_ (hr'.mono (by omega))
    have gs : GoodS G ec { T with N := d.N } C k ⟨scope, fun _ => true, false, lam⟩ (cxOf (L2.CX P w) P w G.K mg base d.N qual scope (G.fad f) cdv A outer s H E) (fun cls d _ H' => E cls d H') :=
      ⟨g1, passes_of rfl, fun _ x c hx hc p pos hgl => rr.r0 x c hx hc p pos (g1.gl hgl).1 (g1.gl hgl).2, fun _ x c hx hc p pos e te hgl hst hm he => rr.r1 x c hx hc p pos e te (g1.gl hgl).1 (g1.gl hgl).2 hst hm he⟩
    exact ⟨_, (snds d.body _ _ _ gs).2 body h6, cs, H, Hf, cs, Hf, _, μ, cs, Hf, start_rel wl hreps hl, Ext.rfl, fnR_post hp⟩
  · rw [if_neg hl] at hp
    exact hp.elim
theorem all_runs (F : TextF G ec T P w mg base con cats) (D : ∀ x f, T.fns.lookup x = some f → ∃ d, tab f = some d ∧ DefF G T mg base f d) :
    ∀ n x f, T.fns.lookup x = some f → GRuns G ec P w mg base (3 * n) (T.ff f) (G.fad f) ((fnsAt con tab cats n).call f) := by
  intro n
  induction n with
  | zero => exact fun x f hx => ⟨fun A outer s H us vs Q E hr hg e0 rv ⟨_, _, _, _, _, _, h⟩ => h.elim⟩
  | succ n ih =>
    intro x f hx
    obtain ⟨d, e1, e2⟩ := D x f hx
    have h := def_runs F e2 (fnsAt_con n) (fnsAt_cat n) ih
    have e : (fnsAt con tab cats (n + 1)).call f = callD (fnsAt con tab cats n) d := by
      show (fun ds μ => match tab f with
        | some d => callD (fnsAt con tab cats n) d ds μ
        | none => .bad) = _
      rw [e1]
    rw [e]
    exact h
end
end Ev
end

section
set_option Elab.async false
set_option linter.all false
set_option maxRecDepth 100000
set_option maxHeartbeats 2000000
namespace Ev
open PySem PySem.Spec PyProof.Rows L2
section
variable {X : Cx} {C : Addr}
/-- X() -/
theorem pmk_no {x : Str} {bmB : List Value} {B newId initId : String} {p pos : Pos} (F : ExcBaseFacts B newId initId bmB) (q : PySem.W.excIn X.K C bmB newId = true) (gC : X.mg x = some (.ref C)) (kC : PySem.W.keepIn X.K (.ref C) = true) (r : Raises X (.ref C)) (hg : Gl X x)
    (hdb : (x == ("__debug__" : Str)) = false) : PMk X (.Call (.Name x p) [] [] pos) (fun _ H Q => Q (.ref C) none H) := by
  intro pins s σ H Q I h
  refine wpAny_Call_Name_kw (ld_glob I hg gC ?_ hdb)
  refine PySem.W.callWith_K0 I.kIn kC ?_
  obtain ⟨bm, N, nm, qn, bs, hdct, sn, sub, ab, col, dd, k0, k1, k2, k3, k5, mN, hC, hN, hni, T⟩ := exc_obj I.kIn q
  refine wpAny_call_exc_subT (rest := []) F T hC hN hni (fun h' e hm => mk_of I hm r h (I.hok.gone hm.new)) ?_
  show 0 ≤ sizeLine
  exact Nat.zero_le _
/-- what the written part says of such a class at C, of its __init__ at fI, of the class at R that its __init__ calls -/
def fieldB (K : PySem.W.Frag) (C R : Addr) (f : Str) : Bool := (match K.lookup C with
  | some ⟨.type "type", _, .cls cd, sl⟩ => (match cd.mro, sl.toList with
    | .ref C' :: bm, [_, _, _, _, some (.builtin n), _] => C' == C && n == "ValueError.__new__" && !cd.hasDel && cd.hasDict && PySem.HandSPX.refsVE bm
    | _, _ => false)
  | _ => false) && decide (PySem.W.findIn K (.ref C) "__setattr__" = some (some (.builtin "object.__setattr__"))) && decide (PySem.W.subIn K (.ref C) (.type "BaseException") = some true) && decide (PySem.W.typeIn K (.ref C) = some (.type "type")) && PySem.W.keepIn K (.ref C) &&
  decide (PySem.W.findIn K (.ref C) f = some none) && PySem.W.readsIn K R (.type "type") && decide (PySem.W.specialIn K (.ref R) "__getattribute__" = some (some (.builtin "type.__getattribute__"))) && (match PySem.W.findCls K (.ref R) (.type "type") "__init__" with
  | some (.val (.builtin n)) => n == "ValueError.__init__"
  | _ => false)
theorem field_cls {K : PySem.W.Frag} {R : Addr} {f : Str} (h : fieldB K C R f = true) : OexC K C ∧ PySem.W.findIn K (.ref C) f = some none ∧ PySem.W.readsIn K R (.type "type") = true ∧ PySem.W.specialIn K (.ref R) "__getattribute__" = some (some (.builtin "type.__getattribute__")) ∧
    PySem.W.findCls K (.ref R) (.type "type") "__init__" = some (.val (.builtin "ValueError.__init__")) := by
  unfold fieldB at h
  simp only [Bool.and_eq_true, decide_eq_true_eq] at h
  obtain ⟨⟨⟨⟨⟨⟨⟨⟨h1, h2⟩, h3⟩, h4⟩, h5⟩, h6⟩, h7⟩, h8⟩, h9⟩ := h
  have h9' : PySem.W.findCls K (.ref R) (.type "type") "__init__" = some (.val (.builtin "ValueError.__init__")) := by
    split at h9
    · rename_i e
      rw [e, beq_iff_eq.mp h9]
    · cases h9
  refine ⟨⟨?_, h2, h3, h4, h5⟩, h6, h7, h8, h9'⟩
  split at h1
  · rename_i dd cd sl ho
    split at h1
    · rename_i C' bm k0 k1 k2 k3 n k5 hm hs
      simp only [Bool.and_eq_true, beq_iff_eq, Bool.not_eq_true'] at h1
      obtain ⟨⟨⟨⟨rfl, rfl⟩, hdel⟩, hdc⟩, hv⟩ := h1
      obtain ⟨nm, bs, mro, ns, qn, hd, sn, sub, ab, col, del⟩ := cd
      dsimp only at hm hdel hdc
      subst hm hdel hdc
      have hsl : sl = #[k0, k1, k2, k3, some (.builtin "ValueError.__new__"), k5] := by
        obtain ⟨l⟩ := sl
        simp only at hs
        rw [hs]
      subst hsl
      exact ⟨nm, qn, ns, bs, bm, sn, sub, ab, col, dd, k0, k1, k2, k3, k5, ho, hv⟩
    · cases h1
  · cases h1
/-- R.__init__(self, ..) -/
theorem pe_rinit {R : Addr} {x : Str} {e : Expr} {es : List Expr} {ta : TA} {p1 p2 pos : Pos} {pl : Sem Bool} (hg : Gl X x) (hdb : (x == ("__debug__" : Str)) = false) (hm : X.mg x = some (.ref R)) (h1 : PySem.W.readsIn X.K R (.type "type") = true)
    (h2 : PySem.W.specialIn X.K (.ref R) "__getattribute__" = some (some (.builtin "type.__getattribute__"))) (h3 : PySem.W.findCls X.K (.ref R) (.type "type") "__init__" = some (.val (.builtin "ValueError.__init__"))) (ha : PA X (e :: es) ta)
    (hc : eval (.Call (.Attribute (.Name x p1) "__init__" p2) (e :: es) [] pos) X.env = (do
      let ov ← eval (.Name x p1) X.env
      standAt p2.atName
      let (f, first) ← holding [ov] (getMethod ov "__init__" pl)
      callWith pos f first (backTo pos (starEach (e :: es) X.env)) (backToKw pos (keywordEach [] X.env))))
    (he : starEach (e :: es) X.env = (false, eval e X.env) :: starEach es X.env) (hpl : (backTo pos (starEach es X.env)).any (·.1) = false) :
    PE X (.Call (.Attribute (.Name x p1) "__init__" p2) (e :: es) [] pos) (tVeI X.K ta) := by
  refine ⟨fun pins s σ H Q I hyp => ?_⟩
  refine PySem.W.methodCall_KW (ld_glob I hg hm ?_ hdb) hc
  refine PySem.W.method_cls I.kIn h2 (PySem.W.cls_value I.kIn h1 h3 rfl ?_)
  refine PyProof.Rows.callWith_method1 (thn (ha.run pos pins _ σ H _ (I.tok _) hyp) ?_) he hpl
  rintro us s1 ⟨vs, H1, I1, r1, a, D, ws, rfl, hl, T, ea, q⟩
  cases r1 with
  | @cons _ u0 _ ur ra rw' =>
    cases ra
    have hz : ur.length ≤ sizeLine := by rw [← Paired.length rw', sizeLine_eq]; omega
    exact oinit_ok T I1 ea hz fun s' J => ⟨.non, H1, J, rfl, q⟩
end
/-- a method's call on one line -/
theorem eval_line {o : Expr} {m : Str} {args : List Expr} {apos pos : Pos} {env : PySem.Env} (hs : noSup o = true) (ha : noStars args = true) (hn : args.length < 29) (hl : (apos.endLine == pos.line) = true) : eval (.Call (.Attribute o m apos) args [] pos) env = (do
      let ov ← eval o env
      standAt apos.atName
      let (f, first) ← holding [ov] (getMethod ov m (plainOf o env))
      callWith pos f first (backTo pos (starEach args env)) (backToKw pos (keywordEach [] env))) := by
  have hf : methodCallForm (args.length + ([] : List Keyword).length) (backTo pos (starEach args env)) (backToKw pos (keywordEach [] env)) = true := by
    unfold methodCallForm
    rw [all_args ha]
    simp [keywordEach, backToKw]
    omega
  rw [arm_eval_Call, noSup_base hs]
  congr 1
  funext ov
  congr 1
  funext _
  exact mcall_line hf hl
/-- what the __init__ of such a class does -/
def spF (K : PySem.W.Frag) (C : Addr) (f : Str) : Sp := fun vs H Q _ => ∃ a y, vs = [.ref a, y] ∧ H a = some (exo a C none) ∧ ∀ dx, H dx = none → dx ≠ a → Q .non (upd (upd H dx (exd dx [(f, y)])) a (exo a C (some dx)))
section
variable {P : Program} {w : World} {K : PySem.W.Frag} {mg : Str → Option Value} {base : Heap}
theorem init_ok {C R g : Addr} {f qual m : Str} {params : Arguments} {scope : Scope} {dV kV doc pm cdv ct oc : Value} {an od : Option Addr} {osl : Array (Option Value)} {ps1 ps2 ps3 ps4 ps5 ps6 ps7 ps8 ps9 ps10 : Pos} {rn : Str}
    (lk : K.lookup g = some ⟨oc, od, .func (PySem.W.fnOf "__init__" qual params [.Expr (.Call (.Attribute (.Name rn ps1) "__init__" ps2) [.Name "self" ps3, .Name m ps4] [] ps5) ps6, .Assign [.Attribute (.Name "self" ps7) f ps8] (.Name m ps9) ps10] scope dV kV doc pm an cdv ct), osl⟩)
    (hcd : PySem.W.codeIn K cdv qual = true) (S : FnScope ["self", m] ["self", m] scope) (hF : fieldB K C R f = true) (hg : scope.names.lookup rn = some .globalImplicit) (hdb : (rn == ("__debug__" : Str)) = false) (hmR : mg rn = some (.ref R)) (hln : (ps2.endLine == ps5.line) = true) (hm1 : (m == ("__debug__" : Str)) = false) (hm2 : (m == ("__classdict__" : Str)) = false) :
    FnOk P w K mg base CXn 1 g (PySem.W.fnOf "__init__" qual params [.Expr (.Call (.Attribute (.Name rn ps1) "__init__" ps2) [.Name "self" ps3, .Name m ps4] [] ps5) ps6, .Assign [.Attribute (.Name "self" ps7) f ps8] (.Name m ps9) ps10] scope dV kV doc pm an cdv ct) ["self", m] (spF K C f) := by
  obtain ⟨T, hno, h1, h2, h3⟩ := field_cls hF
  refine fn_of (k := 0) lk hcd S (fun vs H Q E ⟨a, y, e, _⟩ => by rw [e]; rfl) fun A outer s H vs Q E hr hsp => ?_
  obtain ⟨a, y, rfl, ha, hq⟩ := hsp
  have v0 : ∀ (p : Pos), PE (cxOf CXn P w K mg base ["self", m] qual scope g cdv A outer s H E) (.Name "self" p) (tVar 0) := fun p => pe_var rfl ((S.par "self" (by simp)).elim .inl fun z => .inr (.inl z)) rfl rfl
  have v1 : ∀ (p : Pos), PE (cxOf CXn P w K mg base ["self", m] qual scope g cdv A outer s H E) (.Name m p) (tVar 1) := fun p => pe_var rfl ((S.par m (by simp)).elim .inl fun z => .inr (.inl z)) hm1 hm2
  refine ⟨_, pss_cons (ps_expr (pe_rinit hg hdb hmR h1 h2 h3 (pa_cons (v0 ps3) (pa_cons (v1 ps4) pa_nil rfl) rfl) (eval_line rfl rfl (Nat.lt_of_sub_eq_succ rfl) hln) rfl rfl) rfl) (pss_one (ps_ost (v0 ps7) (v1 ps9) rfl)), ?_⟩
  refine ⟨_, rfl, _, rfl, a, C, [y], rfl, by simp, T, ha, ?_⟩
  refine ⟨_, rfl, _, rfl, a, C, rfl, T, hno, .inl ⟨ha, fun dx hn hne => hq dx hn hne⟩⟩
/-- X(e), X with a field -/
theorem pmk_field {X : Cx} {C g : Addr} {x f : Str} {fd : FuncData} {m : Str} {e : Expr} {te : TE} {p pos : Pos} (T : OexC X.K C) (iC : PySem.W.findIn X.K (.ref C) "__init__" = some (some (.ref g))) (tI : PySem.W.typeIn X.K (.ref g) = some (.type "function"))
    (F1 : FnOk X.prog X.w X.K X.mg X.base CXn 1 g fd ["self", m] (spF X.K C f)) (hb : ∀ (s : Shared) (us : List Value), us.length = 2 → BindsTo s fd ⟨us, []⟩ ((["self", m] : List Str).zip us)) (hr : Room 2 X.A) (hg : Gl X x) (hdb : (x == ("__debug__" : Str)) = false) (hm : X.mg x = some (.ref C)) (hs : isStar e = false) (hmono : ∀ σ H (Q Q' : VK), (∀ v H', Q v H' → Q' v H') → te σ H Q → te σ H Q') (he : PE X e te) :
    PMk X (.Call (.Name x p) [e] [] pos) (fun σ H Q => te σ H fun y H1 => ∀ d, H1 d = none → Q (.ref C) (some d) (upd H1 d (.xd [(f, y)]))) := by
  have h := pmk_oex (p := p) (pos := pos) (sp := spF X.K C f) (ds := []) (dvs := []) T iC tI F1 hr (fun s us _ hl => by
    rw [List.append_nil] at hl ⊢
    exact hb s us hl) .nil (fun _ _ _ _ _ _ _ z => False.elim z) hg hm (pa_cons he pa_nil (star_cons hs)) hdb (star_cons hs) rfl
  intro pins s σ H Q I hyp
  refine h pins s σ H Q I (hmono σ H _ _ (fun y H1 hq => ?_) hyp)
  refine ⟨by simp, fun a hn => ⟨a, y, rfl, upd_same, fun dx hdx hne => ?_⟩⟩
  have hd1 : H1 dx = none := by rw [upd_ne hne] at hdx; exact hdx
  refine ⟨rfl, dx, [(f, y)], upd_same, ?_, hd1, ?_⟩
  · rw [upd_ne hne, upd_same]
  · have e : upd (del (upd (upd (upd H1 a (exo a C none)) dx (exd dx [(f, y)])) a (exo a C (some dx))) a) dx (.xd [(f, y)]) = upd H1 dx (.xd [(f, y)]) := by
      funext b
      by_cases h1 : b = dx
      · rw [h1, upd_same, upd_same]
      · rw [upd_ne h1, upd_ne h1]
        by_cases h2 : b = a
        · rw [h2, del_same, hn]
        · rw [del_ne h2, upd_ne h2, upd_ne h1, upd_ne h2]
    rw [e]
    exact hq dx hd1
end
end Ev
end

section
set_option Elab.async false
set_option linter.all false
set_option maxRecDepth 100000
set_option maxHeartbeats 2000000
namespace Ev
open PySem PySem.Spec PyProof.Rows L2
theorem cx_never {P : Program} {w : World} {H : Hp} {s : Shared} {e : Value} {s' : Shared} (h : L2.CX P w [] H s (fun _ _ _ => False) e s') : False := by
  obtain ⟨_, _, _, _, _, _, _, _, _, _, _, _, z⟩ := h
  exact z.elim
/-- what is tracked at the start: the tables, and the script where the written part has it not -/
noncomputable def startH (K : PySem.W.Frag) (tb : List Addr) (a : Addr) (ob : Obj) (xs : List V) : Hp := fun b => if b ∈ tb then some (.tbl #[]) else if b = a ∧ K.lookup a = none then some (.frz ob (.lst xs)) else none
section
variable {P : Program} {w : World} {K : PySem.W.Frag} {mg mb : Str → Option Value} {k : Nat} {fa a : Addr} {cs : List (Addr × Addr)} {s : Shared} {vs : List Value} {ns : List Int}
theorem law_end (KX : K.In s.heap) (hns : s.heap.Ns mainGlobals mg) (hb : s.heap.Ns builtinsNs mb) (hbb : ∀ x : Str, x ≠ "__name__" → mb x = bootBuiltins x) (hlim : s.heap.NoLimit) (hg : s.gens = #[])
    (hT : ∀ p ∈ cs, s.heap.get? p.2 = some { cls := .none, data := .fields #[] }) (nT : ∀ p ∈ cs, K.lookup p.2 = none) (hC : ∀ p ∈ cs, PySem.W.CodeHd s.heap p.1 p.2)
    (hbm : ∃ (bm : Addr) (ob : Obj), mg "__builtins__" = some (.ref bm) ∧ bm ≠ builtinsNs ∧ s.heap.get? bm = some ob ∧ ob.cls = .type "module" ∧ ob.dict = some builtinsNs ∧ ob.data = .plain)
    (ha : s.heap.get? a = some { cls := .type "list", data := .seq vs.toArray }) (hi : IntsAre vs ns) (hl : ns.length ≤ sizeLine)
    (run : ∀ base : Heap, K.In base → base.Ns mainGlobals mg → (∀ p ∈ cs, LamX.TabB base mg p.1 p.2) → ∀ H : Hp, (∀ p ∈ cs, H p.2 = some (.tbl #[])) → SqL K H a (ns.map V.int) → Env0 P w K mg base callerA [] s H →
      codeAny (model P w) callerA (.call (.ref fa) ⟨[.ref a], []⟩) (CR (L2.CX P w) [] P w H s (fun v _ => v = .bl true) (fun _ _ _ => False)) s) :
    codeAny (model P w) callerA (.call (.ref fa) ⟨[.ref a], []⟩) (fun r s' => r = .ok (.ret (.bool true)) ∧ OldK s.heap s'.heap ∧ s'.os = s.os ∧ AllBare s'.gens) s := by
  have rv : Vals (ns.map V.int) vs := vals_ints hi
  have tbAt : ∀ b : Addr, b ∈ cs.map (·.2) → s.heap.get? b = some { cls := .none, data := .fields #[] } := fun b hb => by
    obtain ⟨p, hp, rfl⟩ := List.mem_map.mp hb
    exact hT p hp
  have anT : a ∉ cs.map (·.2) := fun z => by
    have e := tbAt a z
    rw [ha] at e
    cases e
  generalize hH : startH K (cs.map (·.2)) a { cls := .type "list", data := .seq vs.toArray } (ns.map V.int) = H
  have at1 : ∀ b, b ∈ cs.map (·.2) → H b = some (.tbl #[]) := fun b hb => by rw [← hH]; exact if_pos hb
  have at2 : ∀ b u, H b = some u → b ∉ cs.map (·.2) → b = a ∧ K.lookup a = none ∧ u = .frz { cls := .type "list", data := .seq vs.toArray } (.lst (ns.map V.int)) := fun b u e hb => by
    rw [← hH] at e
    have e : (if b = a ∧ K.lookup a = none then some (HO.frz { cls := .type "list", data := .seq vs.toArray } (.lst (ns.map V.int))) else none) = some u := (if_neg hb).symm.trans e
    split at e
    · rename_i hh
      cases e
      exact ⟨hh.1, hh.2, rfl⟩
    · cases e
  have hok : HOk P w H s.heap := fun b u e => by
    by_cases hb : b ∈ cs.map (·.2)
    · rw [at1 b hb] at e
      cases e
      exact tbAt b hb
    · obtain ⟨rfl, _, rfl⟩ := at2 b u e hb
      exact ⟨ha, by rw [List.length_map]; exact hl, vs, _, rv, ha⟩
  have sq : SqL K H a (ns.map V.int) := by
    cases hk : K.lookup a with
    | none => exact .inl (.inr ⟨{ cls := .type "list", data := .seq vs.toArray }, by rw [← hH]; exact (if_neg anT).trans (if_pos ⟨rfl, hk⟩)⟩)
    | some o =>
      have e := KX a o hk
      rw [ha] at e
      cases e
      exact .inr ⟨_, vs.toArray, _, hk, rfl, rfl, rfl, by rw [List.size_toArray, ← rv.length, List.length_map]; exact hl, by simpa using rv⟩
  -- whatever is neither a list nor an empty table is not tracked
  have free : ∀ {b : Addr} {o : Obj}, s.heap.get? b = some o → (∀ xs n, o.data ≠ .seq xs n) → o.data ≠ .fields #[] → H b = none := fun {b o} e h1 h2 => by
    cases q : H b with
    | none => rfl
    | some u =>
      exfalso
      by_cases hb : b ∈ cs.map (·.2)
      · rw [tbAt b hb] at e
        cases e
        exact h2 rfl
      · obtain ⟨rfl, _, _⟩ := at2 b u q hb
        rw [ha] at e
        cases e
        exact h1 _ _ rfl
  have keep : ∀ {b : Addr} {o : Obj}, s.heap.get? b = some o → (∀ xs n, o.data ≠ .seq xs n) → o.data ≠ .fields #[] → (hidT s.heap H).get? b = some o := fun {b o} e h1 h2 => hidT_get e (free e h1 h2)
  have keepD : ∀ {b : Addr} {o : Obj} {es : Array DictEntry} {ep : Nat}, s.heap.get? b = some o → o.data = .dict es ep → (hidT s.heap H).get? b = some o := fun {b o es ep} e d => keep e (fun xs n z => by rw [d] at z; cases z) (fun z => by rw [d] at z; cases z)
  have keepNs : ∀ {b : Addr} {m : Str → Option Value}, s.heap.Ns b m → (hidT s.heap H).Ns b m := fun {b m} ⟨o, es, ep, e, d, r⟩ => ⟨o, es, ep, keepD e d, d, r⟩
  have inK : K.In (hidT s.heap H) := fun b o e => hidT_get (KX b o e) (by
    cases q : H b with
    | none => rfl
    | some u =>
      exfalso
      by_cases hb : b ∈ cs.map (·.2)
      · obtain ⟨p, hp, rfl⟩ := List.mem_map.mp hb
        rw [nT p hp] at e
        cases e
      · obtain ⟨rfl, z, _⟩ := at2 b u q hb
        rw [z] at e
        cases e)
  have hMod : L2.Mod K mg (hidT s.heap H) := ⟨inK, keepNs hns, ⟨mb, keepNs hb, hbb⟩, let ⟨mc, z1, z2⟩ := hlim; ⟨mc, keepNs z1, z2⟩⟩
  have tabs : ∀ p ∈ cs, LamX.TabB (hidT s.heap H) mg p.1 p.2 := fun p hp => by
    refine ⟨?_, ?_, fun z => ?_⟩
    · obtain ⟨o, us, file, tf, flags, tg, inF, text, tt, e1, r1, r2, r3, rest⟩ := hC p hp
      refine ⟨o, us, file, tf, flags, tg, inF, text, tt, keep e1 (fun xs n z => by rw [r2] at z; cases z) (fun z => ?_), r1, r2, r3, rest⟩
      rw [r2] at z
      cases z
      simp at r3
    · obtain ⟨bm, ob, b1, b2, b3, b4, b5, b6⟩ := hbm
      refine ⟨bm, ob, b1, b2, fun z => ?_, fun z => ?_, keep b3 (fun xs n z => by rw [b6] at z; cases z) (fun z => by rw [b6] at z; cases z), b4, b5, b6⟩
      · obtain ⟨o, es, ep, e, d, _⟩ := hns
        rw [z, e] at b3
        cases b3
        rw [d] at b6
        cases b6
      · rw [z, hT p hp] at b3
        cases b3
        cases b6
    · obtain ⟨o, es, ep, e, d, _⟩ := hns
      rw [z, hT p hp] at e
      cases e
      cases d
  have env : Env0 P w K mg (hidT s.heap H) callerA [] s H := ⟨rfl, hMod, fun b o e => of_hidT e, Nat.le_of_eq (hidT_size _ _), trivial, fun b z => (nomatch (show b ∈ ([] : List Addr) from z)), hok, AllBare.of_eq hg⟩
  refine codeAny_mono (run _ inK (keepNs hns) tabs H (fun p hp => at1 _ (List.mem_map.mpr ⟨p, hp, rfl⟩)) sq env) fun r s' h => ?_
  cases r with
  | error e => exact (cx_never h).elim
  | ok fl =>
    cases fl with
    | ret u =>
      obtain ⟨v, H', os, bare, un, hok', r', hv⟩ := h
      have hv : v = .bl true := hv
      subst hv
      cases r'
      have grown : ∀ p ∈ cs, ∃ more : Array Value, s'.heap.get? p.2 = some { cls := .none, data := .fields more } := fun p hp => by
        obtain ⟨more, z⟩ := un.tbls p.2 #[] (at1 _ (List.mem_map.mpr ⟨p, hp, rfl⟩))
        exact ⟨_, hok' p.2 _ z⟩
      have same : ∀ b o, b ∉ cs.map (·.2) → s.heap.get? b = some o → s'.heap.get? b = some o := fun b o nb e => by
        cases q : H b with
        | none => exact un.keep b o e q (fun z => nomatch (show b ∈ ([] : List Addr) from z)) (fun z => nomatch (show b ∈ ([] : List Addr) from z))
        | some u =>
          obtain ⟨rfl, _, rfl⟩ := at2 b u q nb
          have e3 := (hok' _ _ (un.frzs _ _ _ q)).1
          rw [ha] at e
          cases e
          exact e3
      refine ⟨rfl, ⟨fun b o e => ?_, fun b o e => ?_⟩, os, bare⟩
      · by_cases nb : b ∈ cs.map (·.2)
        · obtain ⟨p, hp, rfl⟩ := List.mem_map.mp nb
          obtain ⟨more, hm⟩ := grown p hp
          rw [hT p hp] at e
          cases e
          exact .inr (.inl ⟨((hC p hp).tab (hT p hp)).isCodeTable, rfl, #[], more, rfl, by rw [Array.empty_append]; exact hm⟩)
        · exact .inl (same b o nb e)
      · by_cases nb : b ∈ cs.map (·.2)
        · obtain ⟨p, hp, rfl⟩ := List.mem_map.mp nb
          exact let ⟨more, hm⟩ := grown p hp; ⟨_, hm⟩
        · exact ⟨o, same b o nb e⟩
    | _ => exact False.elim h
end
end Ev
end

section
set_option Elab.async false
set_option linter.all false
set_option maxRecDepth 100000
set_option maxHeartbeats 2000000
namespace Ev
open PySem PySem.Spec PyProof.Rows L2
/-- where the thing of that number stands -/
def nameAt (l : List (Str × Nat)) (K : PySem.W.Frag) (n : Nat) : Addr := match l.find? (fun p => p.2 == n) with
  | some p => He.ga K p.1
  | none => 0
def ecK (T : Cs) (K : PySem.W.Frag) (c : Nat) : Addr := nameAt T.excs K c
def gxK (T : Cs) (tf : List Str) (K : PySem.W.Frag) : Gx where
  K := K
  fad := nameAt T.fns K
  T := tf.map fun x => ((He.cT K (x, none)).2, lamQ x)
  ef := fun c => (T.fnm.lookup c).getD ""
  xa := 0
  xc := 0
  xd := none
def globB (K : PySem.W.Frag) (x : Str) (v : Value) : Bool := decide (PySem.W.nsIn K mainGlobals x = some (some v))
mutual
def conV (K : PySem.W.Frag) : D → Value → Bool
  | .int i, .int j _ => decide (i = j)
  | .str a, .str b _ => decide (a = b)
  | .tup ds, .ref a => match List.lookup a K with
    | some o => decide (o.cls = Value.type "tuple") && match o.data with
      | .seq its _ => decide (its.size ≤ sizeLine) && conVs K ds its.toList
      | _ => false
    | none => false
  | _, _ => false
def conVs (K : PySem.W.Frag) : List D → List Value → Bool
  | [], [] => true
  | d :: ds, v :: vs => conV K d v && conVs K ds vs
  | _, _ => false
end
def conB (K : PySem.W.Frag) (x : Str) (d : D) : Bool := match PySem.W.nsIn K mainGlobals x with
  | some (some v) => conV K d v
  | _ => false
def clsB (K : PySem.W.Frag) (C : Addr) : Bool := (PySem.W.clsIn K C).isSome && decide (PySem.W.findIn K (.ref C) "__getattribute__" = some (some (.builtin "BaseException.__getattribute__"))) && decide (PySem.W.findIn K (.ref C) "__getattr__" = some none) &&
  decide (PySem.W.subIn K (.ref C) (.type "BaseException") = some true) && decide (PySem.W.findIn K (.ref C) "__class__" = some (some (.builtin "object.__class__"))) && decide (PySem.W.mroIn K C (.type "object") = some true)
def excB (T : Cs) (K : PySem.W.Frag) (p : Str × Nat) : Bool := globB K p.1 (.ref (ecK T K p.2)) && clsB K (ecK T K p.2) && (T.excs.all fun p' => decide (PySem.W.kitOne K (.ref (ecK T K p.2)) (.ref (ecK T K p'.2)) = some (p'.2 == 0 || p'.2 == 1 || p.2 == p'.2))) &&
  decide (PySem.W.kitOne K (.ref (ecK T K p.2)) (.type "ValueError") = some true) && decide (PySem.W.exmOne K (.ref (ecK T K p.2)) (.ref (ecK T K 0)) = some true) && PySem.W.keepIn K (.ref (ecK T K p.2)) && decide (PySem.W.typeIn K (.ref (ecK T K p.2)) = some (.type "type")) &&
  (if T.exf p.2 = true then (match T.fnm.lookup p.2 with
    | some f => fieldB K (ecK T K p.2) (ecK T K 0) f && xfB K (ecK T K p.2) && decide (PySem.W.findIn K (.ref (ecK T K p.2)) "__init__" = some (some (.ref (He.ma K (ecK T K p.2) "__init__")))) && decide (PySem.W.typeIn K (.ref (He.ma K (ecK T K p.2) "__init__")) = some (.type "function"))
    | none => false) else PySem.W.excIn K (ecK T K p.2) He.veBase "ValueError.__new__")
end Ev
namespace Ev
open PySem PySem.Spec PyProof.Rows L2
/-- all of it -/
def exB (T : Cs) (con : Nat → D) (K : PySem.W.Frag) : Bool := (bNames.all fun n => decide (PySem.W.nsIn K mainGlobals n = some none)) && (T.cons.all fun p => conB K p.1 (con p.2)) && (T.fns.all fun p => globB K p.1 (.ref (nameAt T.fns K p.2)) && PySem.W.keepIn K (.ref (nameAt T.fns K p.2))) &&
  (T.excs.all fun p => excB T K p) && (T.cats.all fun p => globB K p.1 (.ref (He.ga K p.1)) && PySem.W.keepIn K (.ref (He.ga K p.1))) && decide (PySem.W.specialIn K (.builtin "object.__class__") "__get__" = some (some (.builtin "getset_descriptor.__get__"))) && decide (PySem.W.takesIn K (.builtin "object.__class__") = some true) &&
  (T.fnm.all fun p => T.excs.any fun q => q.2 == p.1 && T.exf p.1)
structure ExF (T : Cs) (con : Nat → D) (K : PySem.W.Frag) : Prop where
  blt : ∀ n ∈ bNames, PySem.W.nsIn K mainGlobals n = some none
  con : ∀ p ∈ T.cons, conB K p.1 (con p.2) = true
  fn : ∀ p ∈ T.fns, PySem.W.nsIn K mainGlobals p.1 = some (some (.ref (nameAt T.fns K p.2))) ∧ PySem.W.keepIn K (.ref (nameAt T.fns K p.2)) = true
  exc : ∀ p ∈ T.excs, excB T K p = true
  cat : ∀ p ∈ T.cats, PySem.W.nsIn K mainGlobals p.1 = some (some (.ref (He.ga K p.1))) ∧ PySem.W.keepIn K (.ref (He.ga K p.1)) = true
  sp : PySem.W.specialIn K (.builtin "object.__class__") "__get__" = some (some (.builtin "getset_descriptor.__get__")) ∧ PySem.W.takesIn K (.builtin "object.__class__") = some true
  fnm : ∀ p ∈ T.fnm, ∃ q ∈ T.excs, q.2 = p.1 ∧ T.exf p.1 = true
theorem exF {T : Cs} {con : Nat → D} {K : PySem.W.Frag} (h : exB T con K = true) : ExF T con K := by
  unfold exB globB at h
  simp only [Bool.and_eq_true, List.all_eq_true, decide_eq_true_eq, List.any_eq_true, beq_iff_eq] at h
  obtain ⟨⟨⟨⟨⟨⟨⟨h1, h2⟩, h3⟩, h4⟩, h5⟩, h6⟩, h7⟩, h8⟩ := h
  exact ⟨h1, h2, h3, h4, h5, ⟨h6, h7⟩, h8⟩
section
variable {T : Cs} {con : Nat → D} {K : PySem.W.Frag} {h : Heap} {mg : Str → Option Value}
theorem mem_nat {β : Type} : ∀ {l : List (Nat × β)} {n : Nat} {c : β}, l.lookup n = some c → (n, c) ∈ l
  | (k, v) :: r, n, c, h => by
    rw [List.lookup_cons] at h
    cases q : (n == k) with
    | true =>
      rw [q] at h
      cases h
      rw [beq_iff_eq.mp q]
      exact List.mem_cons_self
    | false =>
      rw [q] at h
      exact List.mem_cons_of_mem _ (mem_nat h)
/-- the parts of an error class's facts -/
structure ExcP (T : Cs) (K : PySem.W.Frag) (p : Str × Nat) : Prop where
  gl : PySem.W.nsIn K mainGlobals p.1 = some (some (.ref (ecK T K p.2)))
  cl : (PySem.W.clsIn K (ecK T K p.2)).isSome = true ∧ PySem.W.findIn K (.ref (ecK T K p.2)) "__getattribute__" = some (some (.builtin "BaseException.__getattribute__")) ∧ PySem.W.findIn K (.ref (ecK T K p.2)) "__getattr__" = some none ∧
    PySem.W.subIn K (.ref (ecK T K p.2)) (.type "BaseException") = some true ∧ PySem.W.findIn K (.ref (ecK T K p.2)) "__class__" = some (some (.builtin "object.__class__")) ∧ PySem.W.mroIn K (ecK T K p.2) (.type "object") = some true
  kit : ∀ p' ∈ T.excs, PySem.W.kitOne K (.ref (ecK T K p.2)) (.ref (ecK T K p'.2)) = some (p'.2 == 0 || p'.2 == 1 || p.2 == p'.2)
  kitv : PySem.W.kitOne K (.ref (ecK T K p.2)) (.type "ValueError") = some true
  exm : PySem.W.exmOne K (.ref (ecK T K p.2)) (.ref (ecK T K 0)) = some true
  kp : PySem.W.keepIn K (.ref (ecK T K p.2)) = true
  ty : PySem.W.typeIn K (.ref (ecK T K p.2)) = some (.type "type")
  no : T.exf p.2 = false → PySem.W.excIn K (ecK T K p.2) He.veBase "ValueError.__new__" = true
  fld : T.exf p.2 = true → ∃ f, T.fnm.lookup p.2 = some f ∧ fieldB K (ecK T K p.2) (ecK T K 0) f = true ∧ XfC K (ecK T K p.2) ∧ PySem.W.findIn K (.ref (ecK T K p.2)) "__init__" = some (some (.ref (He.ma K (ecK T K p.2) "__init__"))) ∧ PySem.W.typeIn K (.ref (He.ma K (ecK T K p.2) "__init__")) = some (.type "function")
theorem excP {p : Str × Nat} (h : excB T K p = true) : ExcP T K p := by
  unfold excB globB clsB at h
  simp only [Bool.and_eq_true, List.all_eq_true, decide_eq_true_eq] at h
  obtain ⟨⟨⟨⟨⟨⟨⟨h1, h2⟩, h3⟩, h4⟩, h5⟩, h6⟩, h7⟩, h8⟩ := h
  refine ⟨h1, ⟨h2.1.1.1.1.1, h2.1.1.1.1.2, h2.1.1.1.2, h2.1.1.2, h2.1.2, h2.2⟩, h3, h4, h5, h6, h7, fun e => ?_, fun e => ?_⟩
  · rw [if_neg (by rw [e]; decide)] at h8; exact h8
  · rw [if_pos e] at h8
    cases q : T.fnm.lookup p.2 with
    | none => rw [q] at h8; cases h8
    | some f =>
      rw [q] at h8
      simp only [Bool.and_eq_true, decide_eq_true_eq] at h8
      exact ⟨f, rfl, h8.1.1.1, xfB_ok h8.1.1.2, h8.1.2, h8.2⟩
theorem errF (F : ExF T con K) : ErrF K (ecK T K) T := by
  have P : ∀ y c, T.excs.lookup y = some c → ExcP T K (y, c) := fun y c e => excP (F.exc _ (PySem.mem_of_lookup e))
  refine ⟨fun y c e => (P y c e).cl, F.sp, fun y c y' c' e e' => (P y c e).kit (y', c') (PySem.mem_of_lookup e'), fun y c e => (P y c e).kitv, fun c f e => ?_⟩
  obtain ⟨q, hq, h1, h2⟩ := F.fnm _ (mem_nat e)
  have Q := excP (F.exc q hq)
  have h1 : q.2 = c := h1
  obtain ⟨f', g1, g2, g3, _⟩ := Q.fld (by rw [h1]; exact h2)
  rw [h1] at g1 g2 g3
  rw [e] at g1
  cases g1
  exact ⟨g3, (field_cls g2).2.1⟩
end
/-- what is static of a def -/
structure DefS (T : Cs) (f : Nat) (d : FnDef) (x : Str) (st : Stmt) (ps : List Str) (lam : Bool) : Prop where
  sc : FnScope d.N ps (defScope st)
  np : ps.length = d.np
  bind : ∀ (kV doc pm : Value) (an : Option Addr) (cdv ct : Value) (us : List Value), us.length = ps.length → bindArgs (PySem.W.fnOf x x (defArgs st) (defBody st) (defScope st) .none kV doc pm an cdv ct) ⟨us, []⟩ = pure (ps.zip us)
  chk : d.body.chk { T with N := d.N } ⟨defScope st, fun _ => true, false, lam⟩ (T.ff f) (.inr (defBody st)) = true
abbrev FnP (K : PySem.W.Frag) (x : Str) (st : Stmt) (f : Addr) (fd : FuncData) : Prop := FunD K x x (defArgs st) (defBody st) (defScope st) [] [] f fd
section
variable {T : Cs} {tf : List Str} {K : PySem.W.Frag} {mg : Str → Option Value} {base : Heap}
theorem codeIn_is {K : PySem.W.Frag} {f : Addr} {x : Str} {oc : Value} {od : Option Addr} {osl : Array (Option Value)} {fd : FuncData} (lk : K.lookup f = some ⟨oc, od, .func fd, osl⟩) (hf : f = He.fAd K (x, none)) (h : PySem.W.codeIn K fd.code x = true) : fd.code = .ref (He.cT K (x, none)).1 := by
  obtain ⟨c, e⟩ := He.codeIn_ref h
  have e2 := He.codeOf_eq (p := (x, none)) (by rw [← hf]; exact lk) e
  show fd.code = .ref (He.codeOf K (x, none))
  rw [e2, e]
/-- a def's facts from what is static and what the head says -/
theorem defF {f : Nat} {d : FnDef} {x : Str} {st : Stmt} {ps : List Str} {lam : Bool} {fd : FuncData} (S : DefS T f d x st ps lam) (hx : nameAt T.fns K f = He.ga K x) (F : FnP K x st (He.ga K x) fd)
    (hl : lam = true → x ∈ tf ∧ LamX.TabB base mg (He.cT K (x, none)).1 (He.cT K (x, none)).2 ∧ ∀ y ∈ tf, (He.cT K (y, none)).2 = (He.cT K (x, none)).2 → y = x) : DefF (gxK T tf K) T mg base f d := by
  have bb := FunD.bindsA (ps := ps) F S.bind
  obtain ⟨oc, od, dV, kV, doc, pm, an, cdv, ct, osl, rfl, lk, hcd, _, _⟩ := F.ex
  refine ⟨x, x, ps, defArgs st, defBody st, defScope st, dV, kV, doc, pm, cdv, ct, oc, an, od, osl, lam, ?_, hcd, S.sc, S.np, bb, S.chk, fun z => ?_⟩
  · show K.lookup (nameAt T.fns K f) = _
    rw [hx]; exact lk
  · obtain ⟨h1, h2, h3⟩ := hl z
    refine ⟨_, _, codeIn_is lk rfl hcd, h2, List.mem_map.mpr ⟨x, h1, rfl⟩, fun p hp e => ?_⟩
    obtain ⟨y, hy, rfl⟩ := List.mem_map.mp hp
    have : y = x := h3 y hy e
    rw [this]
end
end Ev
end

section
set_option Elab.async false
set_option linter.all false
set_option maxRecDepth 100000
set_option maxHeartbeats 2000000
namespace Ev
open PySem PySem.Spec PyProof.Rows L2
def initB (T : Cs) (m f : Str) (sc : Scope) (body : List Stmt) : Bool := match body with
  | [.Expr (.Call (.Attribute (.Name rn _) i1 ps2) [.Name s1 _, .Name m1 _] [] ps5) _, .Assign [.Attribute (.Name s2 _) f1 _] (.Name m2 _) _] =>
    decide (i1 = "__init__") && decide (s1 = "self") && decide (m1 = m) && decide (s2 = "self") && decide (f1 = f) && decide (m2 = m) && decide (T.excs.lookup rn = some 0) && glB sc rn && (ps2.endLine == ps5.line) && !(m == ("__debug__" : Str)) && !(m == ("__classdict__" : Str))
  | _ => false
structure InitS (T : Cs) (f m : Str) (qual : String) (st : Stmt) : Prop where
  sc : FnScope ["self", m] ["self", m] (defScope st)
  ok : initB T m f (defScope st) (defBody st) = true
  bind : ∀ (kV doc pm : Value) (an : Option Addr) (cdv ct : Value) (us : List Value), us.length = (["self", m] : List Str).length → bindArgs (PySem.W.fnOf "__init__" qual (defArgs st) (defBody st) (defScope st) .none kV doc pm an cdv ct) ⟨us, []⟩ = pure ((["self", m] : List Str).zip us)
section
variable {P : Program} {w : World} {K : PySem.W.Frag} {mg : Str → Option Value} {base : Heap} {T : Cs} {ec : Nat → Addr}
theorem init_of {f m : Str} {qual : String} {st : Stmt} {C g : Addr} {fd : FuncData} (S : InitS T f m qual st) (F : FunD K "__init__" qual (defArgs st) (defBody st) (defScope st) [] [] g fd) (hF : fieldB K C (ec 0) f = true) (hm : ∀ y c, T.excs.lookup y = some c → mg y = some (.ref (ec c))) :
    FnOk P w K mg base CXn 1 g fd ["self", m] (spF K C f) ∧ ∀ (s : Shared) (us : List Value), us.length = 2 → BindsTo s fd ⟨us, []⟩ ((["self", m] : List Str).zip us) := by
  have bb := FunD.bindsA (ps := ["self", m]) F S.bind
  obtain ⟨oc, od, dV, kV, doc, pm, an, cdv, ct, osl, rfl, lk, hcd, _, _⟩ := F.ex
  refine ⟨?_, fun s us hl => bb s us hl⟩
  have ok := S.ok
  have sc := S.sc
  revert lk ok sc
  generalize defBody st = body
  generalize defScope st = scope
  intro lk ok sc
  unfold initB at ok
  split at ok
  · rename_i rn p1 i1 ps2 s1 p3 m1 p4 ps5 p6 s2 p7 f1 p8 m2 p9 p10
    simp only [Bool.and_eq_true, decide_eq_true_eq, Bool.not_eq_true'] at ok
    obtain ⟨⟨⟨⟨⟨⟨⟨⟨⟨⟨rfl, rfl⟩, rfl⟩, rfl⟩, rfl⟩, rfl⟩, h7⟩, h8⟩, h9⟩, h10⟩, h11⟩ := ok
    unfold glB at h8
    simp only [Bool.and_eq_true, decide_eq_true_eq, Bool.not_eq_true'] at h8
    exact init_ok lk hcd sc hF h8.1 h8.2 (hm _ _ h7) h9 h10 h11
  · cases ok
end
def catB (T : Cs) (Ng : List Str) (d : CatDef) (sg : Scope) (body : List Stmt) : Bool := match Ng, body with
  | a :: _, .Try [b] [.ExceptHandler (some (.Name re _)) (some n) (b0 :: suite) _] [] [] _ :: rest =>
    (match b, d.j with
      | .Expr (.Call (.Name a1 _) [] [] _) _, none => decide (a1 = a)
      | .Assign [.Name y _] (.Call (.Name a1 _) [] [] _) _, some j => decide (a1 = a) && nameB (T.cat Ng) (sxR sg) j y
      | _, _ => false) && decide (d.n = Ng.length) && locB (T.cat Ng) (sxR sg) d.i n && decide (T.excs.lookup re = some 0) && glB sg re && d.h.chk (T.cat Ng) (sxH sg) false (.inr (b0 :: suite)) && d.rest.chk (T.cat0 Ng) (sxR sg) false (.inr rest) && visB sg a && !(a == ("__debug__" : Str)) && !(a == ("__classdict__" : Str)) &&
      d.kn.all fun c => T.excs.any fun p => p.2 == c && decide (T.excs.lookup p.1 = some c)
  | _, _ => false
structure CatS (T : Cs) (d : CatDef) (x : Str) (st : Stmt) (a : Str) (Ng : List Str) : Prop where
  sc : FnScope Ng [a] (defScope st)
  n0 : Ng[0]? = some a
  ok : catB T Ng d (defScope st) (defBody st) = true
  bind : ∀ (kV doc pm : Value) (an : Option Addr) (cdv ct : Value) (us : List Value), us.length = ([a] : List Str).length → bindArgs (PySem.W.fnOf x x (defArgs st) (defBody st) (defScope st) .none kV doc pm an cdv ct) ⟨us, []⟩ = pure (([a] : List Str).zip us)
section
variable {G : Gx} {ec : Nat → Addr} {T : Cs} {C C' : Fns} {k : Nat} {X : Cx}
theorem catB_gives {d : CatDef} {x : Str} {a : Str} {Ng : List Str} {sg : Scope} {body : List Stmt} {g : Addr} {cdg : Value} {f : Nat} (F : CatF G ec T X d.kn) (Sg : FnScope Ng [a] sg) (n0 : Ng[0]? = some a) (ok : catB T Ng d sg body = true) (hcat : ∀ act μ, C.cat f act μ = catR C' d (act μ)) :
    Gives G ec C k X Ng x sg g cdg body a f ∧ Vis sg a ∧ (a == ("__debug__" : Str)) = false ∧ (a == ("__classdict__" : Str)) = false := by
  unfold catB at ok
  split at ok
  · rename_i a1 r b re p5 n b0 suite p6 p7 rest
    have ea : a1 = a := Option.some.inj n0
    subst ea
    simp only [Bool.and_eq_true, decide_eq_true_eq, Bool.not_eq_true'] at ok
    obtain ⟨⟨⟨⟨⟨⟨⟨⟨⟨⟨h1, h2⟩, h3⟩, h4⟩, h5⟩, h6⟩, h7⟩, h8⟩, h9⟩, h10⟩, h11⟩ := ok
    refine ⟨?_, ?_, h9, h10⟩
    · split at h1
      · rename_i a1 p1 p2 p3 hj
        have h1 : a1 = _ := of_decide_eq_true h1
        subst h1
        exact cat_gives (p1 := p1) (p2 := p2) (p3 := p3) (p4 := p3) (fnd := none) F Sg h2 (by simp) h3 h4 h5 (by rw [hj]; trivial) h6 h7 hcat
      · rename_i y p4 a1 p1 p2 p3 j hj
        simp only [Bool.and_eq_true, decide_eq_true_eq] at h1
        obtain ⟨rfl, h1⟩ := h1
        exact cat_gives (p1 := p1) (p2 := p2) (p3 := p3) (p4 := p4) (fnd := some y) F Sg h2 (by simp) h3 h4 h5 (by rw [hj]; exact h1) h6 h7 hcat
      · cases h1
    · unfold visB at h8
      simp only [Bool.or_eq_true, decide_eq_true_eq] at h8
      rcases h8 with (h | h) | h
      · exact .inl h
      · exact .inr (.inl h)
      · exact .inr (.inr h)
  · cases ok
theorem catB_kn {Ng : List Str} {d : CatDef} {sg : Scope} {body : List Stmt} (ok : catB T Ng d sg body = true) : ∀ c ∈ d.kn, ∃ y, T.excs.lookup y = some c := by
  unfold catB at ok
  split at ok
  · simp only [Bool.and_eq_true, List.all_eq_true, List.any_eq_true, decide_eq_true_eq] at ok
    intro c hc
    obtain ⟨p, _, _, h⟩ := ok.2 c hc
    exact ⟨p.1, h⟩
  · cases ok
end
/-- what the head says of the defs beside the functions -/
structure MoreF (T : Cs) (K : PySem.W.Frag) (cats : Nat → Option CatDef) : Prop where
  init : ∀ c f, T.fnm.lookup c = some f → ∃ m qual st fd, InitS T f m qual st ∧ FunD K "__init__" qual (defArgs st) (defBody st) (defScope st) [] [] (He.ma K (ecK T K c) "__init__") fd
  cat : ∀ x f, T.cats.lookup x = some f → ∃ d st a Ng fd, cats f = some d ∧ CatS T d x st a Ng ∧ FnP K x st (He.ga K x) fd
section
variable {T : Cs} {con : Nat → D} {cats : Nat → Option CatDef} {tf : List Str} {K : PySem.W.Frag} {h : Heap} {mg : Str → Option Value} {P : Program} {w : World} {base : Heap}
mutual
theorem conV_of : ∀ (d : D) (v : Value), conV K d v = true → ∃ x : V, RelV x v ∧ ∀ (G : Gx) cs Hf, G.K = K → Rep G cs Hf d x
  | .int i, .int j t, e => by
    unfold conV at e
    have : i = j := of_decide_eq_true e
    subst this
    exact ⟨.int i, ⟨t, rfl⟩, fun G cs Hf _ => by simp only [Rep]⟩
  | .str a, .str b t, e => by
    unfold conV at e
    have : a = b := of_decide_eq_true e
    subst this
    exact ⟨.str a, ⟨t, rfl⟩, fun G cs Hf _ => by simp only [Rep]⟩
  | .tup ds, .ref a, e => by
    unfold conV at e
    cases hl : List.lookup a K with
    | none => rw [hl] at e; cases e
    | some o =>
      rw [hl] at e
      dsimp only at e
      rw [Bool.and_eq_true] at e
      obtain ⟨e1, e2⟩ := e
      cases hd : o.data with
      | seq its n =>
        rw [hd] at e2
        dsimp only at e2
        rw [Bool.and_eq_true] at e2
        obtain ⟨xs, hx, hr⟩ := conVs_of ds its.toList e2.2
        refine ⟨.ref a, rfl, fun G cs Hf hk => Rep.tup_iff.mpr ⟨a, xs, rfl, .inr ⟨o, its, n, ?_, of_decide_eq_true e1, hd, of_decide_eq_true e2.1, hx⟩, hr G cs Hf hk⟩⟩
        rw [hk]
        exact hl
      | _ => rw [hd] at e2; cases e2
theorem conVs_of : ∀ (ds : List D) (vs : List Value), conVs K ds vs = true → ∃ xs : List V, Vals xs vs ∧ ∀ (G : Gx) cs Hf, G.K = K → Reps G cs Hf ds xs
  | [], [], _ => ⟨[], .nil, fun G cs Hf _ => by simp only [Reps]⟩
  | d :: ds, v :: vs, e => by
    unfold conVs at e
    rw [Bool.and_eq_true] at e
    obtain ⟨x, hx, hr⟩ := conV_of d v e.1
    obtain ⟨xs, hxs, hrs⟩ := conVs_of ds vs e.2
    exact ⟨x :: xs, .cons hx hxs, fun G cs Hf hk => by
      unfold Reps
      exact ⟨x, xs, rfl, hr G cs Hf hk, hrs G cs Hf hk⟩⟩
end
theorem con_of {x : Str} {d : D} (X : K.In h) (N : h.Ns mainGlobals mg) (e : conB K x d = true) : ∃ v u, mg x = some u ∧ RelV v u ∧ ∀ (G : Gx) cs Hf, G.K = K → Rep G cs Hf d v := by
  unfold conB at e
  split at e
  · rename_i v q
    obtain ⟨y, h1, h2⟩ := conV_of d v e
    exact ⟨y, v, PySem.W.mg_of X N q, h1, h2⟩
  · cases e
theorem textF (X : K.In h) (N : h.Ns mainGlobals mg) (F : ExF T con K) (M : MoreF T K cats) : TextF (gxK T tf K) (ecK T K) T P w mg base con cats := by
  have exn : ∀ x c, T.excs.lookup x = some c → mg x = some (.ref (ecK T K c)) := fun x c e => PySem.W.mg_of X N (excP (F.exc _ (PySem.mem_of_lookup e))).gl
  have efn : ∀ c f, T.fnm.lookup c = some f → (gxK T tf K).ef c = f := fun c f e => by
    show (T.fnm.lookup c).getD "" = f
    rw [e]; rfl
  refine ⟨fun n hn => PySem.W.mg_none_of X N (F.blt n hn), fun x c e => ?_, fun x f e => ?_, exn, efn, fun Y at_ hr => ⟨?_, ?_⟩, ?_⟩
  · obtain ⟨v, u, e1, e2, e3⟩ := con_of X N (F.con _ (PySem.mem_of_lookup e))
    exact ⟨v, u, e1, e2, fun cs H Hf μ _ => e3 _ _ _ rfl⟩
  · obtain ⟨e1, e2⟩ := F.fn _ (PySem.mem_of_lookup e)
    exact ⟨PySem.W.mg_of X N e1, e2⟩
  · intro x c e hx p pos hg hdb
    have E := excP (F.exc _ (PySem.mem_of_lookup e))
    have hk : Y.K = K := at_.K
    exact pmk_no PySem.F.excBase_ValueError (by rw [hk]; exact E.no hx) (by rw [at_.mg]; exact exn x c e) (by rw [hk]; exact E.kp) (raises_own (by rw [hk]; exact E.cl.2.2.2.1) (by rw [hk]; exact E.ty)) hg hdb
  · intro x c e hx p pos e1 te hg hdb hs hmono he
    have E := excP (F.exc _ (PySem.mem_of_lookup e))
    obtain ⟨f, q1, q2, q3, q4, q5⟩ := E.fld hx
    obtain ⟨m, qual, st, fd, IS, ID⟩ := M.init c f q1
    have hk : Y.K = K := at_.K
    have io := init_of (P := Y.prog) (w := Y.w) (base := Y.base) IS ID q2 exn
    have r := pmk_field (X := Y) (C := ecK T K c) (g := He.ma K (ecK T K c) "__init__") (x := x) (f := f) (fd := fd) (m := m) (p := p) (pos := pos) (by rw [hk]; exact (field_cls q2).1) (by rw [hk]; exact q4) (by rw [hk]; exact q5) (by rw [hk, at_.mg]; exact io.1) io.2 hr hg hdb (by rw [at_.mg]; exact exn x c e) hs hmono he
    rw [efn c f q1]
    exact r
  · intro C k Y at_ hcat x f e
    obtain ⟨d, st, a, Ng, fd, c1, CS, FD⟩ := M.cat x f e
    obtain ⟨g1, g2⟩ := F.cat _ (PySem.mem_of_lookup e)
    have hk : Y.K = K := at_.K
    have hc : ∀ act μ, C.cat f act μ = catR (fns0 con) d (act μ) := fun act μ => by
      rw [hcat]
      unfold catD
      rw [c1]
    have CF : CatF (gxK T tf K) (ecK T K) T Y d.kn := ⟨hk, fun n hn => by rw [at_.mg]; exact PySem.W.mg_none_of X N (F.blt n hn), fun y c ey => by rw [at_.mg]; exact exn y c ey, efn, by rw [hk]; exact errF F, fun c hcm => by
      obtain ⟨y, hy⟩ := catB_kn CS.ok c hcm
      exact ⟨⟨y, hy⟩, by rw [hk]; exact (excP (F.exc _ (PySem.mem_of_lookup hy))).exm⟩⟩
    have bb := FunD.bindsA (ps := [a]) FD CS.bind
    obtain ⟨oc, od, dV, kV, doc, pm, an, cdv, ct, osl, rfl, lk, hcd, _, _⟩ := FD.ex
    obtain ⟨z1, z2, z3, z4⟩ := catB_gives (g := He.ga K x) (cdg := cdv) (x := x) (k := k) CF CS.sc CS.n0 CS.ok hc
    exact ⟨_, a, Ng, _, _, _, dV, kV, doc, pm, cdv, ct, oc, an, od, osl, by rw [at_.mg]; exact PySem.W.mg_of X N g1, by rw [hk]; exact g2, by rw [hk]; exact lk, by rw [hk]; exact hcd, fun s u => bb s [u] rfl, CS.sc, CS.n0, z2, z3, z4, z1⟩
end
end Ev
end

section
set_option Elab.async false
set_option linter.all false
set_option maxRecDepth 100000
set_option maxHeartbeats 2000000
namespace Ev
open PySem PySem.Spec PyProof.Rows L2
structure DefI where
  x : Str
  st : Stmt
  ps : List Str
  lam : Bool
  d : FnDef
def tabC (tf : List Str) (K : PySem.W.Frag) : Bool := tf.all fun x => tf.all fun y => decide ((He.cT K (y, none)).2 = (He.cT K (x, none)).2 → y = x)
def exC (T : Cs) (con : Nat → D) (tf : List Str) (K : PySem.W.Frag) : Bool := exB T con K && tabC tf K
/-- what is told of the head's facts -/
structure LawF (T : Cs) (con : Nat → D) (tab : Nat → Option FnDef) (cats : Nat → Option CatDef) (tf : List Str) (fn : List He.DefD) : Prop where
  defs : ∀ x f, T.fns.lookup x = some f → ∃ i : DefI, tab f = some i.d ∧ i.x = x ∧ DefS T f i.d x i.st i.ps i.lam ∧ (⟨(x, none), x, x, defArgs i.st, defBody i.st, defScope i.st, [], []⟩ : He.DefD) ∈ fn ∧ (i.lam = true → x ∈ tf)
  nod : ∀ x f y, T.fns.lookup x = some f → nameAt T.fns = nameAt T.fns → (y, f) ∈ T.fns → y = x
  init : ∀ c f, T.fnm.lookup c = some f → ∃ x m qual st, T.excs.find? (fun p => p.2 == c) = some (x, c) ∧ InitS T f m qual st ∧ (⟨(x, some "__init__"), "__init__", qual, defArgs st, defBody st, defScope st, [], []⟩ : He.DefD) ∈ fn
  cat : ∀ x f, T.cats.lookup x = some f → ∃ d st a Ng, cats f = some d ∧ CatS T d x st a Ng ∧ (⟨(x, none), x, x, defArgs st, defBody st, defScope st, [], []⟩ : He.DefD) ∈ fn
/-- the heap without its tables -/
noncomputable def noTb (H : Hp) : Hp := fun b => match H b with
  | some (.tbl _) => none
  | o => o
theorem noTb_some {H : Hp} {a : Addr} {o : HO} (h : noTb H a = some o) : H a = some o ∧ NTb o := by
  unfold noTb at h
  cases q : H a with
  | none => rw [q] at h; cases h
  | some u =>
    rw [q] at h
    cases u with
    | tbl ps => cases h
    | _ => cases h; exact ⟨rfl, fun ps z => by cases z⟩
theorem noTb_of {H : Hp} {a : Addr} {o : HO} (h : H a = some o) (n : NTb o) : noTb H a = some o := by
  unfold noTb
  rw [h]
  cases o with
  | tbl ps => exact absurd rfl (n ps)
  | _ => rfl
theorem well_0 {G : Gx} {H : Hp} (t : ∀ p ∈ G.T, H p.1 = some (.tbl #[])) : Well G [] H (noTb H) [] where
  pre := ⟨[], rfl, fun a h => absurd h (by simp)⟩
  keep := fun a o h _ _ => h
  fre := fun a h => h
  sub := fun a o h => (noTb_some h).1
  notb := fun a o h => (noTb_some h).2
  ext := fun _ _ h => h
  new := fun _ _ h => .inl h
  cells := ⟨rfl, List.nodup_nil, fun c ds a h => by simp at h⟩
  tabs := fun p hp => LamX.TabS.nil (t p hp)
theorem rep_scr {G : Gx} {H : Hp} {a : Addr} {ns : List Int} (h : SqL G.K H a (ns.map V.int)) : Rep G [] (noTb H) (.scr ns) (.ref a) := by
  refine Rep.scr_iff.mpr ⟨a, rfl, ?_⟩
  rcases h with (h | ⟨o, h⟩) | h
  · exact .inl (.inl (noTb_of h (fun ps z => by cases z)))
  · exact .inl (.inr ⟨o, noTb_of h (fun ps z => by cases z)⟩)
  · exact .inr h
theorem nameAt_is {l : List (Str × Nat)} {K : PySem.W.Frag} {x : Str} {n : Nat} (h : l.find? (fun p => p.2 == n) = some (x, n)) : nameAt l K n = He.ga K x := by
  unfold nameAt
  rw [h]
theorem find_of {l : List (Str × Nat)} {x : Str} {n : Nat} (h : l.lookup x = some n) (u : ∀ y, (y, n) ∈ l → y = x) : l.find? (fun p => p.2 == n) = some (x, n) := by
  have hm := PySem.mem_of_lookup h
  cases q : l.find? (fun p => p.2 == n) with
  | none => exact absurd (List.find?_eq_none.mp q (x, n) hm) (by simp)
  | some p =>
    have h1 := List.find?_some q
    have h2 := List.mem_of_find?_eq_some q
    obtain ⟨y, k⟩ := p
    have : k = n := by simpa using h1
    subst this
    rw [u y h2]
section
variable {T : Cs} {con : Nat → D} {tab : Nat → Option FnDef} {cats : Nat → Option CatDef} {tf : List Str} {fn : List He.DefD}
theorem LawF.moreF {K : PySem.W.Frag} (L : LawF T con tab cats tf fn) (c : He.SaysD [] fn K) : MoreF T K cats := by
  refine ⟨fun k f e => ?_, fun x f e => ?_⟩
  · obtain ⟨x, m, qual, st, e1, e2, e3⟩ := L.init k f e
    obtain ⟨fd, FD⟩ := c.defs e3
    have hx : ecK T K k = He.ga K x := nameAt_is e1
    exact ⟨m, qual, st, fd, e2, by rw [hx]; exact FD⟩
  · obtain ⟨d, st, a, Ng, e1, e2, e3⟩ := L.cat x f e
    obtain ⟨fd, FD⟩ := c.defs e3
    exact ⟨d, st, a, Ng, fd, e1, e2, FD⟩
theorem LawF.defF' {K : PySem.W.Frag} {mg : Str → Option Value} {base : Heap} (L : LawF T con tab cats tf fn) (c : He.SaysD [] fn K) (ht : tabC tf K = true) (TB : ∀ x ∈ tf, LamX.TabB base mg (He.cT K (x, none)).1 (He.cT K (x, none)).2) :
    ∀ x f, T.fns.lookup x = some f → ∃ d, tab f = some d ∧ DefF (gxK T tf K) T mg base f d := by
  intro x f e
  obtain ⟨i, e1, rfl, e3, e4, e5⟩ := L.defs x f e
  obtain ⟨fd, FD⟩ := c.defs e4
  refine ⟨i.d, e1, defF e3 (nameAt_is (find_of e fun y hy => L.nod _ f y e rfl hy)) FD fun z => ⟨e5 z, TB _ (e5 z), fun y hy q => ?_⟩⟩
  unfold tabC at ht
  simp only [List.all_eq_true, decide_eq_true_eq] at ht
  exact ht _ (e5 z) y hy q
end
/-- what is kept of the heap at hand -/
def seenY (g : Addr → Option Obj) : PySem.W.Frag := He.frT g (cStatics :: He.asD g 4)
def obsY (fn : List He.DefD) (tf : List He.Defn) (ex : PySem.W.Frag → Bool) (g : Addr → Option Obj) : He.AlX := (He.obsT [] fn [] (seenY g), ex (seenY g) && He.tabsB g tf (seenY g))
theorem saysY {fn : List He.DefD} {tf : List He.Defn} {ex : PySem.W.Frag → Bool} {w : World} {h : Heap} (e : obsY fn tf ex h.get? = He.valX fn [] w) : He.SaysX [] fn [] tf ex w h (seenY h.get?) := by
  injection e with e1 e2
  obtain ⟨m1, m2⟩ := Bool.and_eq_true_iff.mp e2
  have tb : ∀ p ∈ tf, PySem.W.codeHdIn (seenY h.get?) (He.cT (seenY h.get?) p).1 (He.cT (seenY h.get?) p).2 = true ∧ ∃ u, h.get? (He.cT (seenY h.get?) p).2 = some u ∧ He.emptyTab u = true := by
    intro p hp
    have z := List.all_eq_true.mp m2 p hp
    rw [Bool.and_eq_true] at z
    refine ⟨z.1, ?_⟩
    have z2 := z.2
    split at z2
    · rename_i u q
      exact ⟨u, q, z2⟩
    · cases z2
  refine ⟨e1, m1, fun p hp => (tb p hp).1, fun p hp => ?_, fun p hp => ?_⟩
  · obtain ⟨_, u, q, t⟩ := tb p hp
    exact He.frT_none q t
  · obtain ⟨_, u, q, t⟩ := tb p hp
    rw [q, He.emptyTab_eq t]
def hookY (fn : List He.DefD) (tf : List He.Defn) (ex : PySem.W.Frag → Bool) : PySem.W.Hook where
  α := He.AlX
  obs s := obsY fn tf ex s.heap.get?
  val w := He.valX fn [] w
  says w h := ∃ K : PySem.W.Frag, K.In h ∧ He.SaysX [] fn [] tf ex w h K
  of _ _ e := ⟨_, He.frT_in, saysY e⟩
  keeps _ _ _ := fun ⟨K, k1, c⟩ k => ⟨K, k1.keeps k, c.t, c.more, c.hd, c.out, fun p hp => k _ _ (c.empty p hp)⟩
theorem obsY_at {fn : List He.DefD} {tf : List He.Defn} {ex : PySem.W.Frag → Bool} {g : Addr → Option Obj} {s : Shared} (h : ∀ a, g a = s.heap.get? a) : obsY fn tf ex g = (hookY fn tf ex).obs s := by
  obtain rfl : g = s.heap.get? := funext h
  rfl
theorem walk_ev {l : PySem.W.OpenLaw} {m n fL : Nat} {q : Program} {loose : List Str} {XP : (Str → Option Value) → Heap → Prop} {d : DefRec} {T : Cs} {con : Nat → D} {tab : Nat → Option FnDef} {cats : Nat → Option CatDef} {tf : List Str} {fn : List He.DefD}
    (hn : l.most = some m) (hn2 : m ≤ sizeLine) (hdf : d.params.defaults = []) (hr : Room (3 * n) callerA) (hnm : T.fns.lookup d.name = some fL) (hff : T.ff fL = false) (L : LawF T con tab cats tf fn)
    (run : ∀ ns : List Int, ns.length ≤ m → (∀ z ∈ ns, Builtin.Int.intBits z ≤ 1048576) → ∃ μ', (fnsAt con tab cats n).call fL [.scr ns] [] = .ok (.bl true) μ') :
    PySem.W.WalkO q loose XP (hookY fn (tf.map fun x => (x, none)) (exC T con tf)).says l.row.toRowW d [] (fun f vs => PySem.call f vs) := by
  refine Att.attach_callB hn hdf fun w s₀ s₁ mg mb fa o pm cd doc a vs ns G Y ho hd hcd hmg hobj hints hlen hbits hg => ?_
  obtain ⟨K, KX, Z⟩ := Y
  have hex := Z.more
  unfold exC at hex
  rw [Bool.and_eq_true] at hex
  have EF := exF hex.1
  have c : He.SaysD [] fn K := Z.t.d
  have hfa : fa = (gxK T tf K).fad fL := by
    have e := (PySem.W.mg_of KX G.T.g (EF.fn _ (PySem.mem_of_lookup hnm)).1).symm.trans hmg
    cases e
    rfl
  subst hfa
  refine law_end (cs := (tf.map fun x => (x, none)).map fun p => He.cT K p) KX G.T.g G.T.b G.T.builtins G.T.nolimit hg (fun p hp => ?_) (fun p hp => ?_) (fun p hp => ?_) G.T.bmain hobj hints (Nat.le_trans hlen hn2) fun base hKb hNs TB H hH hS e0 => ?_
  · obtain ⟨p', hp', rfl⟩ := List.mem_map.mp hp
    exact Z.empty p' hp'
  · obtain ⟨p', hp', rfl⟩ := List.mem_map.mp hp
    exact Z.out p' hp'
  · obtain ⟨p', hp', rfl⟩ := List.mem_map.mp hp
    exact PySem.W.codeHd_of_K KX (Z.hd p' hp')
  · have tb : ∀ x ∈ tf, LamX.TabB base mg (He.cT K (x, none)).1 (He.cT K (x, none)).2 := fun x hx => TB _ (List.mem_map.mpr ⟨(x, none), List.mem_map.mpr ⟨x, hx, rfl⟩, rfl⟩)
    have F : TextF (gxK T tf K) (ecK T K) T l.prog w mg base con cats := textF hKb hNs EF (L.moreF c)
    have g := all_runs (tab := tab) F (L.defF' c hex.2 tb) n _ fL hnm
    obtain ⟨μ', hev⟩ := run ns hlen hbits
    refine g.run callerA [] s₁ H [.ref a] [.ref a] _ _ hr rfl e0 (.cons rfl .nil) ⟨[], noTb H, [], [.scr ns], well_0 fun p hp => ?_, Reps.cons_iff.mpr ⟨_, [], rfl, rep_scr hS, Reps.nil_iff.mpr rfl⟩, ?_⟩
    · obtain ⟨x, hx, rfl⟩ := List.mem_map.mp hp
      exact hH _ (List.mem_map.mpr ⟨(x, none), List.mem_map.mpr ⟨x, hx, rfl⟩, rfl⟩)
    · rw [hev, hff]
      intro v cs' H' Hf' st hv
      exact (Rep.bl_iff (G := gxK T tf K) (cs := cs') (H := Hf')).mp hv
end Ev
end

section
set_option Elab.async false
set_option linter.all false
set_option maxRecDepth 100000
set_option maxHeartbeats 2000000
namespace Ev
open PySem PySem.Spec PyProof.Rows L2
structure CatI where
  x : Str
  st : Stmt
  a : Str
  Ng : List Str
  d : CatDef
structure InitI where
  c : Nat
  x : Str
  f : Str
  m : Str
  qual : String
  st : Stmt
def DefI.dd (i : DefI) : He.DefD := ⟨(i.x, none), i.x, i.x, defArgs i.st, defBody i.st, defScope i.st, [], []⟩
def CatI.dd (i : CatI) : He.DefD := ⟨(i.x, none), i.x, i.x, defArgs i.st, defBody i.st, defScope i.st, [], []⟩
def InitI.dd (i : InitI) : He.DefD := ⟨(i.x, some "__init__"), "__init__", i.qual, defArgs i.st, defBody i.st, defScope i.st, [], []⟩
def tabOf (ds : List DefI) (f : Nat) : Option FnDef := (ds[f]?).map (·.d)
def catsOf (cs : List CatI) (f : Nat) : Option CatDef := (cs[f]?).map (·.d)
def tfOf (ds : List DefI) : List Str := (ds.filter (·.lam)).map (·.x)
def fnOf (ds : List DefI) (cs : List CatI) (is : List InitI) : List He.DefD := ds.map DefI.dd ++ cs.map CatI.dd ++ is.map InitI.dd
/-- names with their places -/
def numb {α : Type} (f : α → Str) : Nat → List α → List (Str × Nat)
  | _, [] => []
  | k, a :: r => (f a, k) :: numb f (k + 1) r
def AllI {α : Type} (P : Nat → α → Prop) : Nat → List α → Prop
  | _, [] => True
  | k, a :: r => P k a ∧ AllI P (k + 1) r
theorem AllI.at {α : Type} {P : Nat → α → Prop} : ∀ {l : List α} {k i : Nat} {a : α}, AllI P k l → l[i]? = some a → P (k + i) a
  | b :: r, k, 0, a, h, e => by
    simp at e
    exact e ▸ h.1
  | b :: r, k, i + 1, a, h, e => by
    have := AllI.at (i := i) h.2 (by simpa using e)
    rw [show k + (i + 1) = k + 1 + i by omega]
    exact this
theorem numb_mem {α : Type} {f : α → Str} : ∀ {l : List α} {k n : Nat} {x : Str}, (x, n) ∈ numb f k l → ∃ a, l[n - k]? = some a ∧ f a = x ∧ k ≤ n
  | [], _, _, _, h => by simp [numb] at h
  | b :: r, k, n, x, h => by
    unfold numb at h
    rcases List.mem_cons.mp h with h | h
    · cases h
      exact ⟨b, by simp, rfl, Nat.le_refl _⟩
    · obtain ⟨a, h1, h2, h3⟩ := numb_mem h
      exact ⟨a, by rw [show n - k = (n - (k + 1)) + 1 by omega]; simpa using h1, h2, by omega⟩
theorem lawF_of {T : Cs} {con : Nat → D} {ds : List DefI} {cs : List CatI} {is : List InitI} (h1 : T.fns = numb (·.x) 0 ds) (h2 : AllI (fun f i => DefS T f i.d i.x i.st i.ps i.lam) 0 ds) (h3 : T.cats = numb (·.x) 0 cs) (h4 : AllI (fun _ i => CatS T i.d i.x i.st i.a i.Ng) 0 cs)
    (h5 : T.fnm = is.map fun i => (i.c, i.f)) (h6 : AllI (fun _ i => T.excs.find? (fun p => p.2 == i.c) = some (i.x, i.c) ∧ InitS T i.f i.m i.qual i.st) 0 is) : LawF T con (tabOf ds) (catsOf cs) (tfOf ds) (fnOf ds cs is) := by
  refine ⟨fun x f e => ?_, fun x f y e _ hy => ?_, fun c f e => ?_, fun x f e => ?_⟩
  · have m := PySem.mem_of_lookup e
    rw [h1] at m
    obtain ⟨i, e1, e2, _⟩ := numb_mem m
    rw [Nat.sub_zero] at e1
    have p := h2.at e1
    rw [Nat.zero_add] at p
    subst e2
    refine ⟨i, by unfold tabOf; rw [e1]; rfl, rfl, p, ?_, fun z => ?_⟩
    · unfold fnOf
      exact List.mem_append_left _ (List.mem_append_left _ (List.mem_map.mpr ⟨i, List.mem_of_getElem? e1, rfl⟩))
    · exact List.mem_map.mpr ⟨i, List.mem_filter.mpr ⟨List.mem_of_getElem? e1, z⟩, rfl⟩
  · have m := PySem.mem_of_lookup e
    rw [h1] at m hy
    obtain ⟨i, e1, e2, _⟩ := numb_mem m
    obtain ⟨j, e3, e4, _⟩ := numb_mem hy
    rw [e1] at e3
    cases e3
    exact e4.symm.trans e2
  · have m := mem_nat e
    rw [h5] at m
    obtain ⟨i, hi, q⟩ := List.mem_map.mp m
    cases q
    obtain ⟨k, hk⟩ := List.getElem?_of_mem hi
    obtain ⟨p1, p2⟩ := h6.at hk
    exact ⟨i.x, i.m, i.qual, i.st, p1, p2, by unfold fnOf; exact List.mem_append_right _ (List.mem_map.mpr ⟨i, hi, rfl⟩)⟩
  · have m := PySem.mem_of_lookup e
    rw [h3] at m
    obtain ⟨i, e1, e2, _⟩ := numb_mem m
    rw [Nat.sub_zero] at e1
    have p := h4.at e1
    subst e2
    exact ⟨i.d, i.st, i.a, i.Ng, by unfold catsOf; rw [e1]; rfl, p, by unfold fnOf; exact List.mem_append_left _ (List.mem_append_right _ (List.mem_map.mpr ⟨i, List.mem_of_getElem? e1, rfl⟩))⟩
end Ev
end

section
set_option Elab.async false
set_option linter.all false
set_option maxRecDepth 100000
set_option maxHeartbeats 0
namespace La
open PySem PySem.Spec PyProof.Rows L2 Ev
def top (i : Nat) : Stmt := PySem.Challenge.pw_steprounds_k05_whole_repeated_to_10_30.main.body.getD i (.Pass ⟨0, 0, 0, 0⟩)
def sub (i j : Nat) : Stmt := match top i with
  | .ClassDef _ _ _ b _ _ _ _ _ _ _ => b.getD j (.Pass ⟨0, 0, 0, 0⟩)
  | s => s
def T : Cs where
  N := []
  fns := [(("is_int" : Str), 0), (("is_within" : Str), 1), (("is_ints" : Str), 2), (("check_int" : Str), 3), (("check_within" : Str), 4), (("divisor" : Str), 5), (("is_map" : Str), 6), (("check_map" : Str), 7), (("value_of" : Str), 8), (("value" : Str), 9), (("has_period" : Str), 10), (("normal_of" : Str), 11), (("normal" : Str), 12), (("check_period" : Str), 13), (("behind_of" : Str), 14), (("behind" : Str), 15), (("is_even" : Str), 16), (("check_round" : Str), 17), (("repeated_of" : Str), 18), (("repeated" : Str), 19), (("after" : Str), 20), (("moved_of" : Str), 21), (("moved" : Str), 22), (("_law_hand" : Str), 23), (("_law_draw" : Str), 24), (("_law_any" : Str), 25), (("_law_same" : Str), 26), (("_law_value" : Str), 27), (("_law_part" : Str), 28), (("_law_normal" : Str), 29), (("_law_table" : Str), 30), (("_law_map" : Str), 31), (("_law_no_map" : Str), 32), (("_law_no_number" : Str), 33), (("_law_behind" : Str), 34), (("_law_repeated" : Str), 35), (("_law_times" : Str), 36), (("_law_is_right" : Str), 37), (("_law_is_other_right" : Str), 38), (("_law_after_word" : Str), 39), (("_law_are_refused" : Str), 40), (("law" : Str), 41)]
  cons := [("MOST_PERIOD", 0), ("MOST_TIMES", 1), ("MOST_AFTER", 2), ("MOST_WALKED", 3), ("SAME", 4)]
  excs := [("RoundError", 0), ("BadMap", 2), ("NoNumber", 3), ("NoRound", 4), ("TooMany", 5)]
  frsh := [23]
  exfs := [5]
  fnm := [(5, "most")]
  cats := [("_law_word_of", 0)]
def con : Nat → D
  | 0 => .int 2000
  | 1 => .int 1000000000000000000000000000000
  | 2 => .int 20
  | 3 => .int 1000
  | 4 => .tup [.int 1, .int 1, .tup [.int 0]]
  | _ => .non
def b0 : S := (.seq (.ret (.and (.isi (.var 0) .int) (.and1 (.not (.isi (.var 0) .bool))))) .skip)
def d0 : FnDef := ⟨[("thing" : Str)], 1, b0⟩
def i0 : DefI := ⟨"is_int", top 8, [("thing" : Str)], false, d0⟩
def b1 : S := (.seq (.ret (.and (.call 0 (.cons (.var 0) .nil)) (.and1 (.chn .le .le (.var 1) (.var 0) (.var 2))))) .skip)
def d1 : FnDef := ⟨[("thing" : Str), ("least" : Str), ("greatest" : Str)], 3, b1⟩
def i1 : DefI := ⟨"is_within", top 9, [("thing" : Str), ("least" : Str), ("greatest" : Str)], false, d1⟩
def b2 : S := (.seq (.ret (.and (.isi (.var 0) .tuple) (.and1 (.bi .all (.cons (.comp (.name 1) (.var 0) (.call 0 (.cons (.var 1) .nil)) .nil) .nil))))) .skip)
def d2 : FnDef := ⟨[("thing" : Str), ("part" : Str)], 1, b2⟩
def i2 : DefI := ⟨"is_ints", top 10, [("thing" : Str)], false, d2⟩
def b3 : S := (.seq (.cond (.not (.call 0 (.cons (.var 0) .nil))) (.seq (.rse 3 .nil) .skip) .skip) .skip)
def d3 : FnDef := ⟨[("thing" : Str)], 1, b3⟩
def i3 : DefI := ⟨"check_int", top 11, [("thing" : Str)], false, d3⟩
def b4 : S := (.seq (.cond (.not (.call 1 (.cons (.var 0) (.cons (.var 1) (.cons (.var 2) .nil))))) (.seq (.rse 3 .nil) .skip) .skip) .skip)
def d4 : FnDef := ⟨[("thing" : Str), ("least" : Str), ("greatest" : Str)], 3, b4⟩
def i4 : DefI := ⟨"check_within", top 12, [("thing" : Str), ("least" : Str), ("greatest" : Str)], false, d4⟩
def b5 : S := (.seq (.whl (.cmp .ne (.var 1) (.int 0)) (.seq (.par [0, 1] (.cons (.var 1) (.cons (.bin .mod (.var 0) (.var 1)) .nil))) .skip)) (.seq (.ret (.bi .abs (.cons (.var 0) .nil))) .skip))
def d5 : FnDef := ⟨[("one" : Str), ("other" : Str)], 2, b5⟩
def i5 : DefI := ⟨"divisor", top 13, [("one" : Str), ("other" : Str)], false, d5⟩
def b6 : S := (.seq (.cond (.or (.not (.isi (.var 0) .tuple)) (.or (.cmp .ne (.bi .len (.cons (.var 0) .nil)) (.int 3)) (.or1 (.not (.call 1 (.cons (.idx (.var 0) (.int 0)) (.cons (.int 1) (.cons (.gc 0) .nil)))))))) (.seq (.ret (.bl false)) .skip) .skip) (.seq (.asg false (.tup (.cons (.name 1) (.cons (.name 2) (.cons (.name 3) .nil)))) (.var 0)) (.seq (.cond (.or (.not (.call 0 (.cons (.var 2) .nil))) (.or (.cmp .lt (.var 2) (.int 0)) (.or (.not (.call 2 (.cons (.var 3) .nil))) (.or1 (.cmp .ne (.bi .len (.cons (.var 3) .nil)) (.var 1)))))) (.seq (.ret (.bl false)) .skip) .skip) (.seq (.ret (.and (.cmp .le (.idx (.var 3) (.neg (.int 1))) (.bin .add (.idx (.var 3) (.int 0)) (.var 2))) (.and1 (.bi .all (.cons (.comp (.tup (.cons (.name 4) (.cons (.name 5) .nil))) (.zip (.cons (.var 3) (.cons (.sl (.var 3) (.int 1) .nil) .nil))) (.cmp .le (.var 4) (.var 5)) .nil) .nil))))) .skip))))
def d6 : FnDef := ⟨[("thing" : Str), ("period" : Str), ("rise" : Str), ("table" : Str), ("one" : Str), ("other" : Str)], 1, b6⟩
def i6 : DefI := ⟨"is_map", top 15, [("thing" : Str)], false, d6⟩
def b7 : S := (.seq (.cond (.not (.call 6 (.cons (.var 0) .nil))) (.seq (.rse 2 .nil) .skip) .skip) .skip)
def d7 : FnDef := ⟨[("step" : Str)], 1, b7⟩
def i7 : DefI := ⟨"check_map", top 16, [("step" : Str)], false, d7⟩
def b8 : S := (.seq (.asg false (.tup (.cons (.name 2) (.cons (.name 3) (.cons (.name 4) .nil)))) (.var 0)) (.seq (.ret (.bin .add (.idx (.var 4) (.bin .mod (.var 1) (.var 2))) (.bin .mul (.bin .fdiv (.var 1) (.var 2)) (.var 3)))) .skip))
def d8 : FnDef := ⟨[("step" : Str), ("x" : Str), ("period" : Str), ("rise" : Str), ("table" : Str)], 2, b8⟩
def i8 : DefI := ⟨"value_of", top 17, [("step" : Str), ("x" : Str)], false, d8⟩
def b9 : S := (.seq (.exp (.call 7 (.cons (.var 0) .nil))) (.seq (.exp (.call 3 (.cons (.var 1) .nil))) (.seq (.ret (.call 8 (.cons (.var 0) (.cons (.var 1) .nil)))) .skip)))
def d9 : FnDef := ⟨[("step" : Str), ("x" : Str)], 2, b9⟩
def i9 : DefI := ⟨"value", top 18, [("step" : Str), ("x" : Str)], false, d9⟩
def b10 : S := (.seq (.asg false (.tup (.cons (.name 3) (.cons (.name 4) (.cons (.name 5) .nil)))) (.var 0)) (.seq (.cond (.cmp .ne (.bin .mod (.bin .mul (.var 4) (.var 1)) (.var 3)) (.int 0)) (.seq (.ret (.bl false)) .skip) .skip) (.seq (.asg false (.name 2) (.bin .fdiv (.bin .mul (.var 4) (.var 1)) (.var 3))) (.seq (.ret (.bi .all (.cons (.comp (.name 6) (.rng (.cons (.bin .sub (.var 3) (.var 1)) .nil)) (.cmp .eq (.idx (.var 5) (.bin .add (.var 6) (.var 1))) (.bin .add (.idx (.var 5) (.var 6)) (.var 2))) .nil) .nil))) .skip))))
def d10 : FnDef := ⟨[("step" : Str), ("part" : Str), ("more" : Str), ("period" : Str), ("rise" : Str), ("table" : Str), ("at" : Str)], 2, b10⟩
def i10 : DefI := ⟨"has_period", top 19, [("step" : Str), ("part" : Str)], false, d10⟩
def b11 : S := (.seq (.asg false (.tup (.cons (.name 2) (.cons (.name 3) (.cons (.name 4) .nil)))) (.var 0)) (.seq (.for_ (.name 1) (.rng (.cons (.int 1) (.cons (.var 2) .nil))) (.seq (.cond (.and (.cmp .eq (.bin .mod (.var 2) (.var 1)) (.int 0)) (.and1 (.call 10 (.cons (.var 0) (.cons (.var 1) .nil))))) (.seq (.ret (.tup (.cons (.var 1) (.cons (.bin .fdiv (.bin .mul (.var 3) (.var 1)) (.var 2)) (.cons (.sl (.var 4) .nil (.var 1)) .nil))))) .skip) .skip) .skip)) (.seq (.ret (.var 0)) .skip)))
def d11 : FnDef := ⟨[("step" : Str), ("part" : Str), ("period" : Str), ("rise" : Str), ("table" : Str)], 1, b11⟩
def i11 : DefI := ⟨"normal_of", top 20, [("step" : Str)], false, d11⟩
def b12 : S := (.seq (.exp (.call 7 (.cons (.var 0) .nil))) (.seq (.ret (.call 11 (.cons (.var 0) .nil))) .skip))
def d12 : FnDef := ⟨[("step" : Str)], 1, b12⟩
def i12 : DefI := ⟨"normal", top 21, [("step" : Str)], false, d12⟩
def b13 : S := (.seq (.cond (.cmp .gt (.var 0) (.gc 0)) (.seq (.rse 5 (.cons (.gc 0) .nil)) .skip) .skip) .skip)
def d13 : FnDef := ⟨[("period" : Str)], 1, b13⟩
def i13 : DefI := ⟨"check_period", top 27, [("period" : Str)], false, d13⟩
def b14 : S := (.seq (.asg false (.name 2) (.ite (.cmp .eq (.idx (.var 0) (.int 1)) (.int 0)) (.int 1) (.bin .fdiv (.idx (.var 1) (.int 0)) (.call 5 (.cons (.idx (.var 1) (.int 0)) (.cons (.idx (.var 0) (.int 1)) .nil)))))) (.seq (.asg false (.name 3) (.bin .mul (.idx (.var 0) (.int 0)) (.var 2))) (.seq (.exp (.call 13 (.cons (.var 3) .nil))) (.seq (.asg false (.name 4) (.bin .mul (.bin .fdiv (.bin .mul (.idx (.var 0) (.int 1)) (.var 2)) (.idx (.var 1) (.int 0))) (.idx (.var 1) (.int 1)))) (.seq (.ret (.call 11 (.cons (.tup (.cons (.var 3) (.cons (.var 4) (.cons (.bi .tuple (.cons (.comp (.name 5) (.rng (.cons (.var 3) .nil)) (.call 8 (.cons (.var 1) (.cons (.call 8 (.cons (.var 0) (.cons (.var 5) .nil))) .nil))) .nil) .nil)) .nil)))) .nil))) .skip)))))
def d14 : FnDef := ⟨[("one" : Str), ("other" : Str), ("part" : Str), ("period" : Str), ("rise" : Str), ("x" : Str)], 2, b14⟩
def i14 : DefI := ⟨"behind_of", top 28, [("one" : Str), ("other" : Str)], false, d14⟩
def b15 : S := (.seq (.exp (.call 7 (.cons (.var 0) .nil))) (.seq (.exp (.call 7 (.cons (.var 1) .nil))) (.seq (.ret (.call 14 (.cons (.call 11 (.cons (.var 0) .nil)) (.cons (.call 11 (.cons (.var 1) .nil)) .nil)))) .skip)))
def d15 : FnDef := ⟨[("one" : Str), ("other" : Str)], 2, b15⟩
def i15 : DefI := ⟨"behind", top 29, [("one" : Str), ("other" : Str)], false, d15⟩
def b16 : S := (.seq (.ret (.cmp .eq (.idx (.var 0) (.int 0)) (.idx (.var 0) (.int 1)))) .skip)
def d16 : FnDef := ⟨[("step" : Str)], 1, b16⟩
def i16 : DefI := ⟨"is_even", top 30, [("step" : Str)], false, d16⟩
def b17 : S := (.seq (.cond (.not (.call 16 (.cons (.var 0) .nil))) (.seq (.rse 4 .nil) .skip) .skip) .skip)
def d17 : FnDef := ⟨[("step" : Str)], 1, b17⟩
def i17 : DefI := ⟨"check_round", top 31, [("step" : Str)], false, d17⟩
def b18 : S := (.seq (.cond (.cmp .gt (.var 1) (.int 1)) (.seq (.exp (.call 17 (.cons (.var 0) .nil))) .skip) .skip) (.seq (.par [2, 3] (.cons (.gc 4) (.cons (.call 11 (.cons (.var 0) .nil)) .nil))) (.seq (.whl (.cmp .gt (.var 1) (.int 0)) (.seq (.cond (.cmp .eq (.bin .mod (.var 1) (.int 2)) (.int 1)) (.seq (.asg false (.name 2) (.call 14 (.cons (.var 2) (.cons (.var 3) .nil)))) .skip) .skip) (.seq (.asg false (.name 1) (.bin .fdiv (.var 1) (.int 2))) (.seq (.cond (.cmp .gt (.var 1) (.int 0)) (.seq (.asg false (.name 3) (.call 14 (.cons (.var 3) (.cons (.var 3) .nil)))) .skip) .skip) .skip)))) (.seq (.ret (.var 2)) .skip))))
def d18 : FnDef := ⟨[("step" : Str), ("n" : Str), ("found" : Str), ("power" : Str)], 2, b18⟩
def i18 : DefI := ⟨"repeated_of", top 32, [("step" : Str), ("n" : Str)], false, d18⟩
def b19 : S := (.seq (.exp (.call 7 (.cons (.var 0) .nil))) (.seq (.exp (.call 4 (.cons (.var 1) (.cons (.int 0) (.cons (.gc 1) .nil))))) (.seq (.ret (.call 18 (.cons (.var 0) (.cons (.var 1) .nil)))) .skip)))
def d19 : FnDef := ⟨[("step" : Str), ("n" : Str)], 2, b19⟩
def i19 : DefI := ⟨"repeated", top 33, [("step" : Str), ("n" : Str)], false, d19⟩
def b20 : S := (.seq (.exp (.call 7 (.cons (.var 0) .nil))) (.seq (.exp (.call 3 (.cons (.var 1) .nil))) (.seq (.exp (.call 4 (.cons (.var 2) (.cons (.int 0) (.cons (.gc 1) .nil))))) (.seq (.cond (.cmp .gt (.var 2) (.gc 2)) (.seq (.exp (.call 17 (.cons (.var 0) .nil))) .skip) .skip) (.seq (.cond (.cmp .gt (.var 2) (.gc 3)) (.seq (.ret (.call 8 (.cons (.call 18 (.cons (.var 0) (.cons (.var 2) .nil))) (.cons (.var 1) .nil)))) .skip) .skip) (.seq (.asg false (.name 3) (.var 1)) (.seq (.for_ (.name 4) (.rng (.cons (.var 2) .nil)) (.seq (.asg false (.name 3) (.call 8 (.cons (.var 0) (.cons (.var 3) .nil)))) .skip)) (.seq (.ret (.var 3)) .skip))))))))
def d20 : FnDef := ⟨[("step" : Str), ("x" : Str), ("n" : Str), ("found" : Str), ("turn" : Str)], 3, b20⟩
def i20 : DefI := ⟨"after", top 34, [("step" : Str), ("x" : Str), ("n" : Str)], false, d20⟩
def b21 : S := (.seq (.asg false (.tup (.cons (.name 3) (.cons (.name 4) (.cons (.name 5) .nil)))) (.var 0)) (.seq (.ret (.call 11 (.cons (.tup (.cons (.var 3) (.cons (.var 4) (.cons (.bi .tuple (.cons (.comp (.name 6) (.rng (.cons (.var 3) .nil)) (.bin .add (.call 8 (.cons (.var 0) (.cons (.bin .add (.var 6) (.var 1)) .nil))) (.var 2)) .nil) .nil)) .nil)))) .nil))) .skip))
def d21 : FnDef := ⟨[("step" : Str), ("ahead" : Str), ("more" : Str), ("period" : Str), ("rise" : Str), ("table" : Str), ("x" : Str)], 3, b21⟩
def i21 : DefI := ⟨"moved_of", top 35, [("step" : Str), ("ahead" : Str), ("more" : Str)], false, d21⟩
def b22 : S := (.seq (.exp (.call 7 (.cons (.var 0) .nil))) (.seq (.exp (.call 3 (.cons (.var 1) .nil))) (.seq (.exp (.call 3 (.cons (.var 2) .nil))) (.seq (.ret (.call 21 (.cons (.var 0) (.cons (.var 1) (.cons (.var 2) .nil))))) .skip))))
def d22 : FnDef := ⟨[("step" : Str), ("ahead" : Str), ("behind_it" : Str)], 3, b22⟩
def i22 : DefI := ⟨"moved", top 36, [("step" : Str), ("ahead" : Str), ("behind_it" : Str)], false, d22⟩
def b23 : S := (.seq (.ret (.lst (.cons (.comp (.name 1) (.sl (.var 0) .nil (.int 63)) (.bi .abs (.cons (.bi .int (.cons (.var 1) .nil)) .nil)) .nil) (.cons (.int 0) (.cons (.int 0) (.cons (.bin .add (.int 449) (.bin .mul (.int 3) (.bi .len (.cons (.sl (.var 0) .nil (.int 63)) .nil)))) (.cons (.int 0) .nil))))))) .skip)
def d23 : FnDef := ⟨[("script" : Str), ("cell" : Str)], 1, b23⟩
def i23 : DefI := ⟨"_law_hand", top 38, [("script" : Str)], false, d23⟩
def b24 : S := (.seq (.cond (.and (.cmp .eq (.idx (.var 0) (.int 2)) (.int 0)) (.and1 (.cmp .lt (.idx (.var 0) (.int 1)) (.bi .len (.cons (.idx (.var 0) (.int 0)) .nil))))) (.seq (.asg false (.name 3) (.idx (.idx (.var 0) (.int 0)) (.idx (.var 0) (.int 1)))) (.seq (.sub (.var 0) (.int 1) (.bin .add (.idx (.var 0) (.int 1)) (.int 1))) (.seq (.sub (.var 0) (.int 3) (.bin .mod (.bi .int (.cons (.bin .add (.bin .add (.bin .mul (.idx (.var 0) (.int 3)) (.int 69621)) (.bin .mul (.var 3) (.int 40692))) (.int 409)) .nil)) (.int 2147483629))) (.seq (.cond (.cmp .ge (.var 3) (.bin .pow (.int 10) (.int 18))) (.seq (.sub (.var 0) (.int 2) (.var 3)) .skip) .skip) .skip)))) .skip) (.seq (.cond (.cmp .gt (.idx (.var 0) (.int 2)) (.int 0)) (.seq (.asg false (.name 4) (.bin .mod (.bi .int (.cons (.idx (.var 0) (.int 2)) .nil)) (.var 1))) (.seq (.sub (.var 0) (.int 2) (.bin .fdiv (.idx (.var 0) (.int 2)) (.var 1))) (.seq (.ret (.var 4)) .skip))) .skip) (.seq (.sub (.var 0) (.int 4) (.bin .add (.idx (.var 0) (.int 4)) (.int 1))) (.seq (.asg false (.name 2) (.bin .mod (.bi .int (.cons (.bin .mul (.bi .int (.cons (.bin .add (.idx (.var 0) (.int 3)) (.bin .mul (.int 7919) (.idx (.var 0) (.int 4)))) .nil)) (.int 48271)) .nil)) (.int 2147483647))) (.seq (.asg false (.name 2) (.bin .mod (.bi .int (.cons (.bin .mul (.var 2) (.bin .add (.bin .fdiv (.var 2) (.int 1009)) (.int 69621))) .nil)) (.int 2147483647))) (.seq (.asg false (.name 2) (.bin .mod (.bi .int (.cons (.bin .mul (.var 2) (.bin .add (.bin .fdiv (.var 2) (.int 2003)) (.int 40014))) .nil)) (.int 2147483563))) (.seq (.ret (.bin .mod (.bi .int (.cons (.bin .fdiv (.var 2) (.int 16)) .nil)) (.var 1))) .skip)))))))
def d24 : FnDef := ⟨[("hand" : Str), ("many" : Str), ("number" : Str), ("cell" : Str), ("digit" : Str)], 2, b24⟩
def i24 : DefI := ⟨"_law_draw", top 39, [("hand" : Str), ("many" : Str)], false, d24⟩
def b25 : S := (.seq (.ret (.idx (.var 1) (.call 24 (.cons (.var 0) (.cons (.bi .len (.cons (.var 1) .nil)) .nil))))) .skip)
def d25 : FnDef := ⟨[("hand" : Str), ("some" : Str)], 2, b25⟩
def i25 : DefI := ⟨"_law_any", top 40, [("hand" : Str), ("some" : Str)], false, d25⟩
def b26 : S := (.seq (.ret (.cmp .eq (.bi .repr (.cons (.var 0) .nil)) (.bi .repr (.cons (.var 1) .nil)))) .skip)
def d26 : FnDef := ⟨[("one" : Str), ("other" : Str)], 2, b26⟩
def i26 : DefI := ⟨"_law_same", top 41, [("one" : Str), ("other" : Str)], false, d26⟩
def b27 : S := (.seq (.ret (.bin .add (.idx (.idx (.var 0) (.int 2)) (.bin .mod (.bi .int (.cons (.var 1) .nil)) (.idx (.var 0) (.int 0)))) (.bin .mul (.bin .fdiv (.var 1) (.idx (.var 0) (.int 0))) (.idx (.var 0) (.int 1))))) .skip)
def d27 : FnDef := ⟨[("step" : Str), ("x" : Str)], 2, b27⟩
def i27 : DefI := ⟨"_law_value", top 42, [("step" : Str), ("x" : Str)], false, d27⟩
def b28 : S := (.seq (.whl (.cmp .gt (.var 1) (.int 0)) (.seq (.par [0, 1] (.cons (.var 1) (.cons (.bin .mod (.bi .int (.cons (.var 0) .nil)) (.var 1)) .nil))) .skip)) (.seq (.ret (.var 0)) .skip))
def d28 : FnDef := ⟨[("one" : Str), ("other" : Str)], 2, b28⟩
def i28 : DefI := ⟨"_law_part", top 43, [("one" : Str), ("other" : Str)], false, d28⟩
def b29 : S := (.seq (.asg false (.tup (.cons (.name 2) (.cons (.name 3) (.cons (.name 4) .nil)))) (.var 0)) (.seq (.for_ (.name 1) (.rng (.cons (.int 1) (.cons (.bin .add (.var 2) (.int 1)) .nil))) (.seq (.cond (.and (.cmp .eq (.bin .mod (.bi .int (.cons (.var 2) .nil)) (.var 1)) (.int 0)) (.and1 (.cmp .eq (.bin .mod (.bi .int (.cons (.bin .mul (.var 3) (.var 1)) .nil)) (.var 2)) (.int 0)))) (.seq (.asg false (.name 5) (.bin .fdiv (.bin .mul (.var 3) (.var 1)) (.var 2))) (.seq (.cond (.bi .all (.cons (.comp (.name 6) (.rng (.cons (.var 2) .nil)) (.cmp .eq (.call 27 (.cons (.var 0) (.cons (.bin .add (.var 6) (.var 1)) .nil))) (.bin .add (.idx (.var 4) (.var 6)) (.var 5))) .nil) .nil)) (.seq (.ret (.tup (.cons (.var 1) (.cons (.var 5) (.cons (.sl (.var 4) .nil (.var 1)) .nil))))) .skip) .skip) .skip)) .skip) .skip)) (.seq (.ret (.var 0)) .skip)))
def d29 : FnDef := ⟨[("step" : Str), ("wide" : Str), ("period" : Str), ("rise" : Str), ("table" : Str), ("more" : Str), ("x" : Str)], 1, b29⟩
def i29 : DefI := ⟨"_law_normal", top 44, [("step" : Str)], false, d29⟩
def b30 : S := (.seq (.ret (.call 29 (.cons (.tup (.cons (.var 0) (.cons (.var 1) (.cons (.bi .tuple (.cons (.var 2) .nil)) .nil)))) .nil))) .skip)
def d30 : FnDef := ⟨[("period" : Str), ("rise" : Str), ("values" : Str)], 3, b30⟩
def i30 : DefI := ⟨"_law_table", top 45, [("period" : Str), ("rise" : Str), ("values" : Str)], false, d30⟩
def b31 : S := (.seq (.asg false (.name 3) (.bin .add (.int 1) (.call 24 (.cons (.var 0) (.cons (.var 1) .nil))))) (.seq (.asg false (.name 4) (.call 25 (.cons (.var 0) (.cons (.var 2) .nil)))) (.seq (.asg false (.name 4) (.ite (.cmp .is_ (.var 4) .non) (.var 3) (.var 4))) (.seq (.asg false (.name 5) (.bin .sub (.call 24 (.cons (.var 0) (.cons (.int 21) .nil))) (.int 10))) (.seq (.asg false (.name 6) (.bi .sorted (.cons (.comp (.name 7) (.rng (.cons (.var 3) .nil)) (.call 24 (.cons (.var 0) (.cons (.bin .add (.var 4) (.int 1)) .nil))) .nil) .nil))) (.seq (.ret (.tup (.cons (.var 3) (.cons (.var 4) (.cons (.bi .tuple (.cons (.comp (.name 8) (.var 6) (.bin .add (.var 5) (.var 8)) .nil) .nil)) .nil))))) .skip))))))
def d31 : FnDef := ⟨[("hand" : Str), ("most" : Str), ("rises" : Str), ("period" : Str), ("rise" : Str), ("base" : Str), ("steps" : Str), ("place" : Str), ("one" : Str)], 3, b31⟩
def i31 : DefI := ⟨"_law_map", top 46, [("hand" : Str), ("most" : Str), ("rises" : Str)], false, d31⟩
def b32 : S := (.seq (.asg false (.name 1) (.lst (.cons .non (.cons (.int 0) (.cons (.tup .nil) (.cons (.str "map") (.cons (.tup (.cons (.int 1) (.cons (.int 1) .nil))) (.cons (.lst (.cons (.int 1) (.cons (.int 1) (.cons (.tup (.cons (.int 0) .nil)) .nil)))) (.cons (.tup (.cons (.int 1) (.cons (.int 1) (.cons (.lst (.cons (.int 0) .nil)) .nil)))) (.cons (.tup (.cons (.int 0) (.cons (.int 1) (.cons (.tup .nil) .nil)))) (.cons (.tup (.cons (.int 1) (.cons (.neg (.int 1)) (.cons (.tup (.cons (.int 0) .nil)) .nil)))) .nil))))))))))) (.seq (.asg false (.name 1) (.bin .add (.var 1) (.lst (.cons (.tup (.cons (.int 2) (.cons (.int 1) (.cons (.tup (.cons (.int 0) (.cons (.int 2) .nil))) .nil)))) (.cons (.tup (.cons (.int 2) (.cons (.int 1) (.cons (.tup (.cons (.int 1) (.cons (.int 0) .nil))) .nil)))) (.cons (.tup (.cons (.int 1) (.cons (.bl true) (.cons (.tup (.cons (.int 0) .nil)) .nil)))) (.cons (.tup (.cons (.int 1) (.cons (.int 1) (.cons (.tup (.cons .non .nil)) .nil)))) (.cons (.tup (.cons (.int 1) (.cons (.int 1) (.cons (.tup (.cons (.str "0") .nil)) .nil)))) (.cons (.tup (.cons (.int 2) (.cons (.int 1) (.cons (.tup (.cons (.int 0) .nil)) .nil)))) .nil))))))))) (.seq (.ret (.call 25 (.cons (.var 0) (.cons (.bin .add (.var 1) (.lst (.cons (.tup (.cons (.int 1) (.cons (.int 1) (.cons (.tup (.cons (.int 0) (.cons (.int 0) .nil))) .nil)))) (.cons (.dic [] .nil) (.cons (.tup (.cons (.int 2001) (.cons (.int 1) (.cons (.bin .mul (.tup (.cons (.int 0) .nil)) (.int 2001)) .nil)))) .nil))))) .nil)))) .skip)))
def d32 : FnDef := ⟨[("hand" : Str), ("some" : Str)], 1, b32⟩
def i32 : DefI := ⟨"_law_no_map", top 47, [("hand" : Str)], false, d32⟩
def b33 : S := (.seq (.ret (.call 25 (.cons (.var 0) (.cons (.lst (.cons .non (.cons (.bl true) (.cons (.str "1") (.cons (.tup (.cons (.int 1) .nil)) (.cons (.lst (.cons (.int 1) .nil)) (.cons (.dic [] .nil) .nil))))))) .nil)))) .skip)
def d33 : FnDef := ⟨[("hand" : Str)], 1, b33⟩
def i33 : DefI := ⟨"_law_no_number", top 48, [("hand" : Str)], false, d33⟩
def b34 : S := (.seq (.asg false (.tup (.cons (.name 0) (.cons (.name 1) .nil))) (.tup (.cons (.call 29 (.cons (.var 0) .nil)) (.cons (.call 29 (.cons (.var 1) .nil)) .nil)))) (.seq (.asg false (.name 2) (.ite (.cmp .gt (.idx (.var 0) (.int 1)) (.int 0)) (.bin .fdiv (.idx (.var 1) (.int 0)) (.call 28 (.cons (.idx (.var 1) (.int 0)) (.cons (.idx (.var 0) (.int 1)) .nil)))) (.int 1))) (.seq (.asg false (.name 3) (.bin .mul (.idx (.var 0) (.int 0)) (.var 2))) (.seq (.cond (.cmp .gt (.var 3) (.int 2000)) (.seq (.ret (.tup (.cons .non (.cons (.var 3) .nil)))) .skip) .skip) (.seq (.asg false (.name 4) (.comp (.name 6) (.rng (.cons (.var 3) .nil)) (.call 27 (.cons (.var 1) (.cons (.call 27 (.cons (.var 0) (.cons (.var 6) .nil))) .nil))) .nil)) (.seq (.asg false (.name 5) (.bin .fdiv (.bin .mul (.bin .mul (.idx (.var 0) (.int 1)) (.var 2)) (.idx (.var 1) (.int 1))) (.idx (.var 1) (.int 0)))) (.seq (.ret (.tup (.cons (.call 30 (.cons (.var 3) (.cons (.var 5) (.cons (.var 4) .nil)))) (.cons (.var 3) .nil)))) .skip)))))))
def d34 : FnDef := ⟨[("one" : Str), ("other" : Str), ("wide" : Str), ("period" : Str), ("values" : Str), ("rise" : Str), ("x" : Str)], 2, b34⟩
def i34 : DefI := ⟨"_law_behind", top 49, [("one" : Str), ("other" : Str)], false, d34⟩
def b35 : S := (.seq (.par [3, 4] (.cons (.tup (.cons (.int 1) (.cons (.int 1) (.cons (.tup (.cons (.int 0) .nil)) .nil)))) (.cons (.call 29 (.cons (.var 0) .nil)) .nil))) (.seq (.for_ (.name 2) (.rng (.cons (.int 110) .nil)) (.seq (.cond (.cmp .eq (.bin .mod (.bi .int (.cons (.var 1) .nil)) (.int 2)) (.int 1)) (.seq (.asg false (.name 3) (.idx (.call 34 (.cons (.var 3) (.cons (.var 4) .nil))) (.int 0))) .skip) .skip) (.seq (.asg false (.name 1) (.bin .fdiv (.var 1) (.int 2))) (.seq (.cond (.cmp .gt (.var 1) (.int 0)) (.seq (.asg false (.name 4) (.idx (.call 34 (.cons (.var 4) (.cons (.var 4) .nil))) (.int 0))) .skip) .skip) .skip)))) (.seq (.ret (.var 3)) .skip)))
def d35 : FnDef := ⟨[("step" : Str), ("n" : Str), ("turn" : Str), ("found" : Str), ("here" : Str)], 2, b35⟩
def i35 : DefI := ⟨"_law_repeated", top 50, [("step" : Str), ("n" : Str)], false, d35⟩
def b36 : S := (.seq (.for_ (.name 3) (.rng (.cons (.var 2) .nil)) (.seq (.asg false (.name 1) (.call 27 (.cons (.var 0) (.cons (.var 1) .nil)))) .skip)) (.seq (.ret (.var 1)) .skip))
def d36 : FnDef := ⟨[("step" : Str), ("x" : Str), ("n" : Str), ("turn" : Str)], 3, b36⟩
def i36 : DefI := ⟨"_law_times", top 52, [("step" : Str), ("x" : Str), ("n" : Str)], false, d36⟩
def b37 : S := (.seq (.par [6, 7] (.cons (.call 24 (.cons (.var 0) (.cons (.int 12) .nil))) (.cons (.bin .add (.bin .mul (.call 24 (.cons (.var 0) (.cons (.bin .pow (.int 10) (.int 9)) .nil))) (.bin .pow (.int 10) (.int 20))) (.call 24 (.cons (.var 0) (.cons (.int 999) .nil)))) .nil))) (.seq (.asg false (.name 2) (.call 19 (.cons (.var 1) (.cons (.var 6) .nil)))) (.seq (.cond (.or (.not (.call 26 (.cons (.var 2) (.cons (.call 35 (.cons (.var 1) (.cons (.var 6) .nil))) .nil)))) (.or1 (.cmp .ne (.call 12 (.cons (.var 2) .nil)) (.var 2)))) (.seq (.ret (.bl false)) .skip) .skip) (.seq (.asg false (.name 3) (.bin .sub (.call 24 (.cons (.var 0) (.cons (.int 41) .nil))) (.int 20))) (.seq (.asg false (.name 4) (.call 36 (.cons (.var 1) (.cons (.var 3) (.cons (.var 6) .nil))))) (.seq (.cond (.or (.cmp .ne (.call 9 (.cons (.var 2) (.cons (.var 3) .nil))) (.var 4)) (.or1 (.not (.call 26 (.cons (.call 20 (.cons (.var 1) (.cons (.var 3) (.cons (.var 6) .nil)))) (.cons (.var 4) .nil)))))) (.seq (.ret (.bl false)) .skip) .skip) (.seq (.asg false (.name 5) (.call 19 (.cons (.var 1) (.cons (.var 7) .nil)))) (.seq (.cond (.or (.not (.call 26 (.cons (.var 5) (.cons (.call 35 (.cons (.var 1) (.cons (.var 7) .nil))) .nil)))) (.or1 (.cmp .ne (.call 20 (.cons (.var 1) (.cons (.var 3) (.cons (.var 7) .nil)))) (.call 9 (.cons (.var 5) (.cons (.var 3) .nil)))))) (.seq (.ret (.bl false)) .skip) .skip) (.seq (.cond (.or (.cmp .ne (.call 19 (.cons (.var 1) (.cons (.bin .add (.var 7) (.var 6)) .nil))) (.call 15 (.cons (.var 5) (.cons (.var 2) .nil)))) (.or1 (.cmp .ne (.call 15 (.cons (.var 2) (.cons (.var 5) .nil))) (.call 15 (.cons (.var 5) (.cons (.var 2) .nil)))))) (.seq (.ret (.bl false)) .skip) .skip) (.seq (.ret (.cmp .eq (.call 19 (.cons (.call 19 (.cons (.var 1) (.cons (.var 6) .nil))) (.cons (.int 3) .nil))) (.call 19 (.cons (.var 1) (.cons (.bin .mul (.int 3) (.var 6)) .nil))))) .skip))))))))))
def d37 : FnDef := ⟨[("hand" : Str), ("step" : Str), ("told_here" : Str), ("x" : Str), ("due" : Str), ("whole" : Str), ("few" : Str), ("great" : Str)], 2, b37⟩
def i37 : DefI := ⟨"_law_is_right", top 53, [("hand" : Str), ("step" : Str)], false, d37⟩
def b38 : S := (.seq (.asg false (.tup (.cons (.name 3) (.cons (.name 4) .nil))) (.tup (.cons (.bin .sub (.call 24 (.cons (.var 0) (.cons (.int 41) .nil))) (.int 20)) (.cons (.call 24 (.cons (.var 0) (.cons (.int 21) .nil))) .nil)))) (.seq (.cond (.not (.call 26 (.cons (.call 20 (.cons (.var 1) (.cons (.var 3) (.cons (.var 4) .nil)))) (.cons (.call 36 (.cons (.var 1) (.cons (.var 3) (.cons (.var 4) .nil)))) .nil)))) (.seq (.ret (.bl false)) .skip) .skip) (.seq (.cond (.or (.cmp .ne (.call 19 (.cons (.var 1) (.cons (.int 0) .nil))) (.tup (.cons (.int 1) (.cons (.int 1) (.cons (.tup (.cons (.int 0) .nil)) .nil))))) (.or1 (.cmp .ne (.call 19 (.cons (.var 1) (.cons (.int 1) .nil))) (.call 12 (.cons (.var 1) .nil))))) (.seq (.ret (.bl false)) .skip) .skip) (.seq (.cond (.cmp .ne (.idx (.var 1) (.int 0)) (.idx (.var 1) (.int 1))) (.seq (.asg false (.name 5) (.lst (.cons (.lam 0 (.call 19 (.cons (.var 1) (.cons (.bin .add (.int 2) (.var 4)) .nil)))) (.cons (.call 39 (.cons (.var 1) (.cons (.var 3) (.cons (.bin .add (.int 21) (.var 4)) .nil)))) .nil)))) (.seq (.cond (.cmp .ne (.var 5) (.lst (.cons (.str "round") (.cons (.str "round") .nil)))) (.seq (.ret (.bl false)) .skip) .skip) .skip)) .skip) (.seq (.asg false (.tup (.cons (.name 6) (.cons (.name 7) .nil))) (.tup (.cons (.bin .sub (.call 24 (.cons (.var 0) (.cons (.int 41) .nil))) (.int 20)) (.cons (.call 25 (.cons (.var 0) (.cons (.lst (.cons (.bin .sub (.call 24 (.cons (.var 0) (.cons (.int 41) .nil))) (.int 20)) (.cons (.bin .pow (.int 10) (.int 30)) .nil))) .nil))) .nil)))) (.seq (.asg false (.name 2) (.comp (.name 8) (.rng (.cons (.idx (.var 1) (.int 0)) .nil)) (.bin .add (.call 27 (.cons (.var 1) (.cons (.bin .add (.var 8) (.var 6)) .nil))) (.var 7)) .nil)) (.seq (.ret (.call 26 (.cons (.call 22 (.cons (.var 1) (.cons (.var 6) (.cons (.var 7) .nil)))) (.cons (.call 30 (.cons (.idx (.var 1) (.int 0)) (.cons (.idx (.var 1) (.int 1)) (.cons (.var 2) .nil)))) .nil)))) .skip)))))))
def d38 : FnDef := ⟨[("hand" : Str), ("step" : Str), ("values" : Str), ("x" : Str), ("few" : Str), ("words" : Str), ("ahead" : Str), ("more" : Str), ("at" : Str)], 2, b38⟩
def i38 : DefI := ⟨"_law_is_other_right", top 54, [("hand" : Str), ("step" : Str)], true, d38⟩
def b39 : S := (.seq (.ret (.lam 0 (.call 20 (.cons (.var 0) (.cons (.var 1) (.cons (.var 2) .nil)))))) .skip)
def d39 : FnDef := ⟨[("step" : Str), ("x" : Str), ("n" : Str)], 3, b39⟩
def i39 : DefI := ⟨"_law_after_word", top 55, [("step" : Str), ("x" : Str), ("n" : Str)], true, d39⟩
def b40 : S := (.seq (.asg false (.tup (.cons (.name 4) (.cons (.name 5) .nil))) (.tup (.cons (.call 32 (.cons (.var 0) .nil)) (.cons (.call 33 (.cons (.var 0) .nil)) .nil)))) (.seq (.asg false (.name 2) (.call 25 (.cons (.var 0) (.cons (.lst (.cons (.neg (.int 1)) (.cons (.bin .add (.bin .pow (.int 10) (.int 30)) (.int 1)) (.cons (.var 5) .nil)))) .nil)))) (.seq (.asg true (.name 3) (.lst (.cons (.lam 0 (.call 19 (.cons (.var 4) (.cons (.var 2) .nil)))) .nil))) (.seq (.app 3 (.lam 0 (.call 20 (.cons (.var 4) (.cons (.var 5) (.cons (.var 2) .nil)))))) (.seq (.app 3 (.lam 0 (.call 19 (.cons (.var 1) (.cons (.var 2) .nil))))) (.seq (.app 3 (.call 39 (.cons (.var 1) (.cons (.var 5) (.cons (.int 1) .nil))))) (.seq (.app 3 (.call 39 (.cons (.var 1) (.cons (.int 0) (.cons (.var 2) .nil))))) (.seq (.app 3 (.lam 0 (.call 22 (.cons (.var 4) (.cons (.var 5) (.cons (.var 5) .nil)))))) (.seq (.app 3 (.lam 0 (.call 22 (.cons (.var 1) (.cons (.var 5) (.cons (.int 0) .nil)))))) (.seq (.app 3 (.lam 0 (.call 22 (.cons (.var 1) (.cons (.int 0) (.cons (.var 5) .nil)))))) (.seq (.ret (.cmp .eq (.pk 3) (.lst (.cons (.str "map") (.cons (.str "map") (.cons (.str "number") (.cons (.str "number") (.cons (.str "number") (.cons (.str "map") (.cons (.str "number") (.cons (.str "number") .nil))))))))))) .skip)))))))))))
def d40 : FnDef := ⟨[("hand" : Str), ("step" : Str), ("n" : Str), ("words" : Str), ("none" : Str), ("odd" : Str)], 2, b40⟩
def i40 : DefI := ⟨"_law_are_refused", top 56, [("hand" : Str), ("step" : Str)], true, d40⟩
def b41 : S := (.seq (.box 1 (.call 23 (.cons (.var 0) .nil))) (.seq (.cond (.cmp .ne (.call 19 (.cons (.tup (.cons (.int 2) (.cons (.int 2) (.cons (.tup (.cons (.int 0) (.cons (.int 0) .nil))) .nil)))) (.cons (.bin .pow (.int 10) (.int 30)) .nil))) (.tup (.cons (.int 2) (.cons (.int 2) (.cons (.tup (.cons (.int 0) (.cons (.int 0) .nil))) .nil))))) (.seq (.ret (.bl false)) .skip) .skip) (.seq (.cond (.cmp .ne (.call 19 (.cons (.tup (.cons (.int 1) (.cons (.int 1) (.cons (.tup (.cons (.int 2) .nil)) .nil)))) (.cons (.bin .pow (.int 10) (.int 30)) .nil))) (.tup (.cons (.int 1) (.cons (.int 1) (.cons (.tup (.cons (.bin .mul (.int 2) (.bin .pow (.int 10) (.int 30))) .nil)) .nil))))) (.seq (.ret (.bl false)) .skip) .skip) (.seq (.cond (.or (.cmp .ne (.call 20 (.cons (.tup (.cons (.int 1) (.cons (.int 2) (.cons (.tup (.cons (.int 1) .nil)) .nil)))) (.cons (.int 0) (.cons (.int 5) .nil)))) (.int 31)) (.or1 (.cmp .ne (.call 22 (.cons (.tup (.cons (.int 2) (.cons (.int 1) (.cons (.tup (.cons (.int 0) (.cons (.int 0) .nil))) .nil)))) (.cons (.int 1) (.cons (.int 4) .nil)))) (.tup (.cons (.int 2) (.cons (.int 1) (.cons (.tup (.cons (.int 4) (.cons (.int 5) .nil))) .nil))))))) (.seq (.ret (.bl false)) .skip) .skip) (.seq (.for_ (.name 2) (.rng (.cons (.int 5) .nil)) (.seq (.asg false (.name 3) (.call 31 (.cons (.var 1) (.cons (.int 6) (.cons (.lst (.cons .non .nil)) .nil))))) (.seq (.cond (.not (.call 37 (.cons (.var 1) (.cons (.var 3) .nil)))) (.seq (.ret (.bl false)) .skip) .skip) (.seq (.cond (.not (.call 38 (.cons (.var 1) (.cons (.call 31 (.cons (.var 1) (.cons (.int 6) (.cons (.lst (.cons (.int 0) (.cons (.int 1) (.cons (.int 2) (.cons (.int 7) (.cons .non .nil)))))) .nil)))) .nil)))) (.seq (.ret (.bl false)) .skip) .skip) (.seq (.cond (.not (.call 40 (.cons (.var 1) (.cons (.var 3) .nil)))) (.seq (.ret (.bl false)) .skip) .skip) .skip))))) (.seq (.ret (.bl true)) .skip))))))
def d41 : FnDef := ⟨[("script" : Str), ("hand" : Str), ("turn" : Str), ("step" : Str)], 1, b41⟩
def i41 : DefI := ⟨"law", top 57, [("script" : Str)], false, d41⟩
theorem s0 : DefS T 0 i0.d i0.x i0.st i0.ps i0.lam := ⟨⟨rfl, rfl, rfl, by decide +kernel, rfl, by decide +kernel, by decide +kernel⟩, rfl, fun _ _ _ _ _ _ us hl => match us, hl with | [_], _ => rfl, by decide +kernel⟩
theorem s1 : DefS T 1 i1.d i1.x i1.st i1.ps i1.lam := ⟨⟨rfl, rfl, rfl, by decide +kernel, rfl, by decide +kernel, by decide +kernel⟩, rfl, fun _ _ _ _ _ _ us hl => match us, hl with | [_, _, _], _ => rfl, by decide +kernel⟩
theorem s2 : DefS T 2 i2.d i2.x i2.st i2.ps i2.lam := ⟨⟨rfl, rfl, rfl, by decide +kernel, rfl, by decide +kernel, by decide +kernel⟩, rfl, fun _ _ _ _ _ _ us hl => match us, hl with | [_], _ => rfl, by decide +kernel⟩
theorem s3 : DefS T 3 i3.d i3.x i3.st i3.ps i3.lam := ⟨⟨rfl, rfl, rfl, by decide +kernel, rfl, by decide +kernel, by decide +kernel⟩, rfl, fun _ _ _ _ _ _ us hl => match us, hl with | [_], _ => rfl, by decide +kernel⟩
theorem s4 : DefS T 4 i4.d i4.x i4.st i4.ps i4.lam := ⟨⟨rfl, rfl, rfl, by decide +kernel, rfl, by decide +kernel, by decide +kernel⟩, rfl, fun _ _ _ _ _ _ us hl => match us, hl with | [_, _, _], _ => rfl, by decide +kernel⟩
theorem s5 : DefS T 5 i5.d i5.x i5.st i5.ps i5.lam := ⟨⟨rfl, rfl, rfl, by decide +kernel, rfl, by decide +kernel, by decide +kernel⟩, rfl, fun _ _ _ _ _ _ us hl => match us, hl with | [_, _], _ => rfl, by decide +kernel⟩
theorem s6 : DefS T 6 i6.d i6.x i6.st i6.ps i6.lam := ⟨⟨rfl, rfl, rfl, by decide +kernel, rfl, by decide +kernel, by decide +kernel⟩, rfl, fun _ _ _ _ _ _ us hl => match us, hl with | [_], _ => rfl, by decide +kernel⟩
theorem s7 : DefS T 7 i7.d i7.x i7.st i7.ps i7.lam := ⟨⟨rfl, rfl, rfl, by decide +kernel, rfl, by decide +kernel, by decide +kernel⟩, rfl, fun _ _ _ _ _ _ us hl => match us, hl with | [_], _ => rfl, by decide +kernel⟩
theorem s8 : DefS T 8 i8.d i8.x i8.st i8.ps i8.lam := ⟨⟨rfl, rfl, rfl, by decide +kernel, rfl, by decide +kernel, by decide +kernel⟩, rfl, fun _ _ _ _ _ _ us hl => match us, hl with | [_, _], _ => rfl, by decide +kernel⟩
theorem s9 : DefS T 9 i9.d i9.x i9.st i9.ps i9.lam := ⟨⟨rfl, rfl, rfl, by decide +kernel, rfl, by decide +kernel, by decide +kernel⟩, rfl, fun _ _ _ _ _ _ us hl => match us, hl with | [_, _], _ => rfl, by decide +kernel⟩
theorem s10 : DefS T 10 i10.d i10.x i10.st i10.ps i10.lam := ⟨⟨rfl, rfl, rfl, by decide +kernel, rfl, by decide +kernel, by decide +kernel⟩, rfl, fun _ _ _ _ _ _ us hl => match us, hl with | [_, _], _ => rfl, by decide +kernel⟩
theorem s11 : DefS T 11 i11.d i11.x i11.st i11.ps i11.lam := ⟨⟨rfl, rfl, rfl, by decide +kernel, rfl, by decide +kernel, by decide +kernel⟩, rfl, fun _ _ _ _ _ _ us hl => match us, hl with | [_], _ => rfl, by decide +kernel⟩
theorem s12 : DefS T 12 i12.d i12.x i12.st i12.ps i12.lam := ⟨⟨rfl, rfl, rfl, by decide +kernel, rfl, by decide +kernel, by decide +kernel⟩, rfl, fun _ _ _ _ _ _ us hl => match us, hl with | [_], _ => rfl, by decide +kernel⟩
theorem s13 : DefS T 13 i13.d i13.x i13.st i13.ps i13.lam := ⟨⟨rfl, rfl, rfl, by decide +kernel, rfl, by decide +kernel, by decide +kernel⟩, rfl, fun _ _ _ _ _ _ us hl => match us, hl with | [_], _ => rfl, by decide +kernel⟩
theorem s14 : DefS T 14 i14.d i14.x i14.st i14.ps i14.lam := ⟨⟨rfl, rfl, rfl, by decide +kernel, rfl, by decide +kernel, by decide +kernel⟩, rfl, fun _ _ _ _ _ _ us hl => match us, hl with | [_, _], _ => rfl, by decide +kernel⟩
theorem s15 : DefS T 15 i15.d i15.x i15.st i15.ps i15.lam := ⟨⟨rfl, rfl, rfl, by decide +kernel, rfl, by decide +kernel, by decide +kernel⟩, rfl, fun _ _ _ _ _ _ us hl => match us, hl with | [_, _], _ => rfl, by decide +kernel⟩
theorem s16 : DefS T 16 i16.d i16.x i16.st i16.ps i16.lam := ⟨⟨rfl, rfl, rfl, by decide +kernel, rfl, by decide +kernel, by decide +kernel⟩, rfl, fun _ _ _ _ _ _ us hl => match us, hl with | [_], _ => rfl, by decide +kernel⟩
theorem s17 : DefS T 17 i17.d i17.x i17.st i17.ps i17.lam := ⟨⟨rfl, rfl, rfl, by decide +kernel, rfl, by decide +kernel, by decide +kernel⟩, rfl, fun _ _ _ _ _ _ us hl => match us, hl with | [_], _ => rfl, by decide +kernel⟩
theorem s18 : DefS T 18 i18.d i18.x i18.st i18.ps i18.lam := ⟨⟨rfl, rfl, rfl, by decide +kernel, rfl, by decide +kernel, by decide +kernel⟩, rfl, fun _ _ _ _ _ _ us hl => match us, hl with | [_, _], _ => rfl, by decide +kernel⟩
theorem s19 : DefS T 19 i19.d i19.x i19.st i19.ps i19.lam := ⟨⟨rfl, rfl, rfl, by decide +kernel, rfl, by decide +kernel, by decide +kernel⟩, rfl, fun _ _ _ _ _ _ us hl => match us, hl with | [_, _], _ => rfl, by decide +kernel⟩
theorem s20 : DefS T 20 i20.d i20.x i20.st i20.ps i20.lam := ⟨⟨rfl, rfl, rfl, by decide +kernel, rfl, by decide +kernel, by decide +kernel⟩, rfl, fun _ _ _ _ _ _ us hl => match us, hl with | [_, _, _], _ => rfl, by decide +kernel⟩
theorem s21 : DefS T 21 i21.d i21.x i21.st i21.ps i21.lam := ⟨⟨rfl, rfl, rfl, by decide +kernel, rfl, by decide +kernel, by decide +kernel⟩, rfl, fun _ _ _ _ _ _ us hl => match us, hl with | [_, _, _], _ => rfl, by decide +kernel⟩
theorem s22 : DefS T 22 i22.d i22.x i22.st i22.ps i22.lam := ⟨⟨rfl, rfl, rfl, by decide +kernel, rfl, by decide +kernel, by decide +kernel⟩, rfl, fun _ _ _ _ _ _ us hl => match us, hl with | [_, _, _], _ => rfl, by decide +kernel⟩
theorem s23 : DefS T 23 i23.d i23.x i23.st i23.ps i23.lam := ⟨⟨rfl, rfl, rfl, by decide +kernel, rfl, by decide +kernel, by decide +kernel⟩, rfl, fun _ _ _ _ _ _ us hl => match us, hl with | [_], _ => rfl, by decide +kernel⟩
theorem s24 : DefS T 24 i24.d i24.x i24.st i24.ps i24.lam := ⟨⟨rfl, rfl, rfl, by decide +kernel, rfl, by decide +kernel, by decide +kernel⟩, rfl, fun _ _ _ _ _ _ us hl => match us, hl with | [_, _], _ => rfl, by decide +kernel⟩
theorem s25 : DefS T 25 i25.d i25.x i25.st i25.ps i25.lam := ⟨⟨rfl, rfl, rfl, by decide +kernel, rfl, by decide +kernel, by decide +kernel⟩, rfl, fun _ _ _ _ _ _ us hl => match us, hl with | [_, _], _ => rfl, by decide +kernel⟩
theorem s26 : DefS T 26 i26.d i26.x i26.st i26.ps i26.lam := ⟨⟨rfl, rfl, rfl, by decide +kernel, rfl, by decide +kernel, by decide +kernel⟩, rfl, fun _ _ _ _ _ _ us hl => match us, hl with | [_, _], _ => rfl, by decide +kernel⟩
theorem s27 : DefS T 27 i27.d i27.x i27.st i27.ps i27.lam := ⟨⟨rfl, rfl, rfl, by decide +kernel, rfl, by decide +kernel, by decide +kernel⟩, rfl, fun _ _ _ _ _ _ us hl => match us, hl with | [_, _], _ => rfl, by decide +kernel⟩
theorem s28 : DefS T 28 i28.d i28.x i28.st i28.ps i28.lam := ⟨⟨rfl, rfl, rfl, by decide +kernel, rfl, by decide +kernel, by decide +kernel⟩, rfl, fun _ _ _ _ _ _ us hl => match us, hl with | [_, _], _ => rfl, by decide +kernel⟩
theorem s29 : DefS T 29 i29.d i29.x i29.st i29.ps i29.lam := ⟨⟨rfl, rfl, rfl, by decide +kernel, rfl, by decide +kernel, by decide +kernel⟩, rfl, fun _ _ _ _ _ _ us hl => match us, hl with | [_], _ => rfl, by decide +kernel⟩
theorem s30 : DefS T 30 i30.d i30.x i30.st i30.ps i30.lam := ⟨⟨rfl, rfl, rfl, by decide +kernel, rfl, by decide +kernel, by decide +kernel⟩, rfl, fun _ _ _ _ _ _ us hl => match us, hl with | [_, _, _], _ => rfl, by decide +kernel⟩
theorem s31 : DefS T 31 i31.d i31.x i31.st i31.ps i31.lam := ⟨⟨rfl, rfl, rfl, by decide +kernel, rfl, by decide +kernel, by decide +kernel⟩, rfl, fun _ _ _ _ _ _ us hl => match us, hl with | [_, _, _], _ => rfl, by decide +kernel⟩
theorem s32 : DefS T 32 i32.d i32.x i32.st i32.ps i32.lam := ⟨⟨rfl, rfl, rfl, by decide +kernel, rfl, by decide +kernel, by decide +kernel⟩, rfl, fun _ _ _ _ _ _ us hl => match us, hl with | [_], _ => rfl, by decide +kernel⟩
theorem s33 : DefS T 33 i33.d i33.x i33.st i33.ps i33.lam := ⟨⟨rfl, rfl, rfl, by decide +kernel, rfl, by decide +kernel, by decide +kernel⟩, rfl, fun _ _ _ _ _ _ us hl => match us, hl with | [_], _ => rfl, by decide +kernel⟩
theorem s34 : DefS T 34 i34.d i34.x i34.st i34.ps i34.lam := ⟨⟨rfl, rfl, rfl, by decide +kernel, rfl, by decide +kernel, by decide +kernel⟩, rfl, fun _ _ _ _ _ _ us hl => match us, hl with | [_, _], _ => rfl, by decide +kernel⟩
theorem s35 : DefS T 35 i35.d i35.x i35.st i35.ps i35.lam := ⟨⟨rfl, rfl, rfl, by decide +kernel, rfl, by decide +kernel, by decide +kernel⟩, rfl, fun _ _ _ _ _ _ us hl => match us, hl with | [_, _], _ => rfl, by decide +kernel⟩
theorem s36 : DefS T 36 i36.d i36.x i36.st i36.ps i36.lam := ⟨⟨rfl, rfl, rfl, by decide +kernel, rfl, by decide +kernel, by decide +kernel⟩, rfl, fun _ _ _ _ _ _ us hl => match us, hl with | [_, _, _], _ => rfl, by decide +kernel⟩
theorem s37 : DefS T 37 i37.d i37.x i37.st i37.ps i37.lam := ⟨⟨rfl, rfl, rfl, by decide +kernel, rfl, by decide +kernel, by decide +kernel⟩, rfl, fun _ _ _ _ _ _ us hl => match us, hl with | [_, _], _ => rfl, by decide +kernel⟩
theorem s38 : DefS T 38 i38.d i38.x i38.st i38.ps i38.lam := ⟨⟨rfl, rfl, rfl, by decide +kernel, rfl, by decide +kernel, by decide +kernel⟩, rfl, fun _ _ _ _ _ _ us hl => match us, hl with | [_, _], _ => rfl, by decide +kernel⟩
theorem s39 : DefS T 39 i39.d i39.x i39.st i39.ps i39.lam := ⟨⟨rfl, rfl, rfl, by decide +kernel, rfl, by decide +kernel, by decide +kernel⟩, rfl, fun _ _ _ _ _ _ us hl => match us, hl with | [_, _, _], _ => rfl, by decide +kernel⟩
theorem s40 : DefS T 40 i40.d i40.x i40.st i40.ps i40.lam := ⟨⟨rfl, rfl, rfl, by decide +kernel, rfl, by decide +kernel, by decide +kernel⟩, rfl, fun _ _ _ _ _ _ us hl => match us, hl with | [_, _], _ => rfl, by decide +kernel⟩
theorem s41 : DefS T 41 i41.d i41.x i41.st i41.ps i41.lam := ⟨⟨rfl, rfl, rfl, by decide +kernel, rfl, by decide +kernel, by decide +kernel⟩, rfl, fun _ _ _ _ _ _ us hl => match us, hl with | [_], _ => rfl, by decide +kernel⟩
def c0 : CatI := ⟨"_law_word_of", top 51, "call", [("call" : Str), ("error" : Str), ("flags" : Str), ("words" : Str)], ⟨4, none, 1, (.seq (.cond (.not (.isx 1 1)) (.seq (.ret (.str "other")) .skip) .skip) (.seq (.cond (.isx 1 5) (.seq (.ret (.fld 1 5)) .skip) .skip) (.seq (.asg false (.name 2) (.lst (.cons (.isx 1 2) (.cons (.isx 1 3) (.cons (.isx 1 4) .nil))))) (.seq (.asg false (.name 3) (.lst (.cons (.str "map") (.cons (.str "number") (.cons (.str "round") .nil))))) (.seq (.ret (.ite (.cmp .eq (.mt .count (.var 2) (.bl true)) (.int 1)) (.idx (.var 3) (.mt .index (.var 2) (.bl true))) (.str "other"))) .skip))))), (.seq (.ret (.str "told")) .skip), [0, 2, 3, 4, 5]⟩⟩
theorem sc0 : CatS T c0.d c0.x c0.st c0.a c0.Ng := ⟨⟨rfl, rfl, rfl, by decide +kernel, rfl, by decide +kernel, by decide +kernel⟩, rfl, by decide +kernel, fun _ _ _ _ _ _ us hl => match us, hl with | [_], _ => rfl⟩
def n0 : InitI := ⟨5, "TooMany", "most", "most", "TooMany.__init__", sub 5 0⟩
theorem sn0 : InitS T n0.f n0.m n0.qual n0.st := ⟨⟨rfl, rfl, rfl, by decide +kernel, rfl, by decide +kernel, by decide +kernel⟩, by decide +kernel, fun _ _ _ _ _ _ us hl => match us, hl with | [_, _], _ => rfl⟩
def ds : List DefI := [i0, i1, i2, i3, i4, i5, i6, i7, i8, i9, i10, i11, i12, i13, i14, i15, i16, i17, i18, i19, i20, i21, i22, i23, i24, i25, i26, i27, i28, i29, i30, i31, i32, i33, i34, i35, i36, i37, i38, i39, i40, i41]
def cs : List CatI := [c0]
def ns : List InitI := [n0]
theorem lawF : LawF T con (tabOf ds) (catsOf cs) (tfOf ds) (fnOf ds cs ns) := lawF_of rfl ⟨s0, s1, s2, s3, s4, s5, s6, s7, s8, s9, s10, s11, s12, s13, s14, s15, s16, s17, s18, s19, s20, s21, s22, s23, s24, s25, s26, s27, s28, s29, s30, s31, s32, s33, s34, s35, s36, s37, s38, s39, s40, s41, trivial⟩ rfl ⟨sc0, trivial⟩ rfl ⟨⟨rfl, sn0⟩, trivial⟩
abbrev R : PySem.W.OpenRow := PySem.W.OpenLaw.row PySem.Challenge.rw_steprounds_k05_whole_repeated_to_10_30
def fn : List He.DefD := fnOf ds cs ns
def tf : List He.Defn := (tfOf ds).map fun x => (x, none)
def ex : PySem.W.Frag → Bool := exC T con (tfOf ds)
abbrev hk : PySem.W.Hook := hookY fn tf ex
def ob (s : PySem.W.SharedT) : He.AlX := obsY fn tf ex (HandSHeadRun.getT s)
theorem ob_eq (s : PySem.W.SharedT) : ob s = hk.obs s.abs := obsY_at (HandSHeadRun.getT_eq s)
def loose : List Str := [("RoundError" : Str), ("BadMap" : Str), ("NoNumber" : Str), ("NoRound" : Str), ("TooMany" : Str), ("MOST_PERIOD" : Str), ("is_int" : Str), ("is_within" : Str), ("is_ints" : Str), ("check_int" : Str), ("check_within" : Str), ("divisor" : Str), ("is_map" : Str), ("check_map" : Str), ("value_of" : Str), ("value" : Str), ("has_period" : Str), ("normal_of" : Str), ("normal" : Str), ("MOST_TIMES" : Str), ("MOST_AFTER" : Str), ("MOST_WALKED" : Str), ("SAME" : Str), ("check_period" : Str), ("behind_of" : Str), ("behind" : Str), ("is_even" : Str), ("check_round" : Str), ("repeated_of" : Str), ("repeated" : Str), ("after" : Str), ("moved_of" : Str), ("moved" : Str), ("_law_hand" : Str), ("_law_draw" : Str), ("_law_any" : Str), ("_law_same" : Str), ("_law_value" : Str), ("_law_part" : Str), ("_law_normal" : Str), ("_law_table" : Str), ("_law_map" : Str), ("_law_no_map" : Str), ("_law_no_number" : Str), ("_law_behind" : Str), ("_law_repeated" : Str), ("_law_word_of" : Str), ("_law_times" : Str), ("_law_is_right" : Str), ("_law_is_other_right" : Str), ("_law_after_word" : Str), ("_law_are_refused" : Str)]
theorem run (w : World) : HandSHeadRun.RunEq R (PySem.W.view R.prog [57]) hk ob 3000 loose w := by
  intro os
  kernel_rfl
theorem holds (n : Nat) (hr : Room (3 * n) callerA) (hyp : ∀ xs : List Int, xs.length ≤ 63 → (∀ z ∈ xs, Builtin.Int.intBits z ≤ 1048576) → ∃ μ, (fnsAt con (tabOf ds) (catsOf cs) n).call 41 [.scr xs] [] = .ok (.bl true) μ) : PySem.Challenge.rw_steprounds_k05_whole_repeated_to_10_30.Holds := by
  w_on; o_law
  refine HandSHeadRun.head_any (r := R) (q := PySem.W.view R.prog [57]) (H := hk) (ob := ob) (M := 3000) (loose := loose) (d := HandSHeadRun.topDef R.prog 57) (kwd := []) ob_eq
    (by kernel_rfl) (fun s => by kernel_rfl) run (by kernel_rfl) (by kernel_rfl) (by kernel_rfl) (by rfl) (by first | assumption | decide +kernel) (by decide +kernel) ⟨rfl, rfl, rfl, rfl, rfl, by decide +kernel⟩ ?hw ?hc
  case hw => w_witness2
  case hc => exact walk_ev (m := 63) (n := n) (fL := 41) rfl (by decide) (by kernel_rfl) hr (by decide +kernel) (by decide +kernel) lawF hyp
end La
end

section
set_option Elab.async false
set_option linter.all false
set_option maxRecDepth 100000
set_option maxHeartbeats 2000000
namespace Ev
open PySem PySem.Spec PyProof.Rows L2
theorem call_at {con : Nat → D} {tab : Nat → Option FnDef} {cats : Nat → Option CatDef} {n f : Nat} {d : FnDef} {xs : List D} {μ : Mu} (h : tab f = some d) (hl : xs.length = d.np) : (fnsAt con tab cats (n + 1)).call f xs μ = fnR (evS (fnsAt con tab cats n) d.body (startE d xs) μ) := by
  show (match tab f with
    | some d => callD (fnsAt con tab cats n) d xs μ
    | none => .bad) = _
  rw [h]
  show callD _ d xs μ = _
  unfold callD
  rw [if_pos hl]
@[simp] theorem fnR_rt (d : D) (μ : Mu) : fnR (.ok (.rt d) μ) = .ok d μ := rfl
@[simp] theorem fnR_nx (ρ : Env) (μ : Mu) : fnR (.ok (.nx ρ) μ) = .ok .non μ := rfl
@[simp] theorem fnR_ex (x : Exn) (μ : Mu) : fnR (.ex x μ) = .ex x μ := rfl
theorem fnR_ite {p : Prop} [Decidable p] {a b : R Fl} : fnR (if p then a else b) = if p then fnR a else fnR b := by split <;> rfl
theorem thn_ite {p : Prop} [Decidable p] {a b : R Fl} {f : Env → Mu → R Fl} : (if p then a else b).thn f = if p then a.thn f else b.thn f := by split <;> rfl
theorem bind_ite {α β : Type} {p : Prop} [Decidable p] {a b : R α} {f : α → Mu → R β} : (if p then a else b).bind f = if p then a.bind f else b.bind f := by split <;> rfl
section
variable {C : Fns} {ρ : Env} {μ : Mu}
@[simp] theorem vE_var (i : Nat) : evE C (.var i) ρ μ = (match ρ[i]? with | some (.sh d) => .ok d μ | _ => .bad) := rfl
@[simp] theorem vE_pk (i : Nat) : evE C (.pk i) ρ μ = (match ρ[i]? with | some (.sh d) => .ok d μ | some (.own ds) => .ok (.lst ds) μ | some (.lent ds) => .ok (.lst ds) μ | _ => .bad) := rfl
@[simp] theorem vE_int (i : Int) : evE C (.int i) ρ μ = .ok (.int i) μ := rfl
@[simp] theorem vE_bl (i : Bool) : evE C (.bl i) ρ μ = .ok (.bl i) μ := rfl
@[simp] theorem vE_non : evE C .non ρ μ = .ok .non μ := rfl
@[simp] theorem vE_str (i : Str) : evE C (.str i) ρ μ = .ok (.str i) μ := rfl
@[simp] theorem vE_gc (i : Nat) : evE C (.gc i) ρ μ = .ok (C.con i) μ := rfl
@[simp] theorem vE_nil : evE C .nil ρ μ = .ok (.tup []) μ := rfl
@[simp] theorem vE_cons (h t : E) : evE C (.cons h t) ρ μ = (evE C h ρ μ).bind fun d μ => (evE C t ρ μ).bind fun r μ => match r with | .tup ds => .ok (.tup (d :: ds)) μ | _ => .bad := rfl
@[simp] theorem vE_tup (es : E) : evE C (.tup es) ρ μ = evE C es ρ μ := rfl
@[simp] theorem vE_lst (es : E) : evE C (.lst es) ρ μ = (evE C es ρ μ).bind fun r μ => match r with | .tup ds => .ok (.lst ds) μ | _ => .bad := rfl
@[simp] theorem vE_dic0 : evE C (.dic [] .nil) ρ μ = .ok (.dic [] []) μ := rfl
@[simp] theorem vE_bin (op : BOp) (a b : E) : evE C (.bin op a b) ρ μ = (evE C a ρ μ).bind fun x μ => (evE C b ρ μ).bind fun y μ => R.of (binD op x y) μ := rfl
@[simp] theorem vE_neg (a : E) : evE C (.neg a) ρ μ = (evE C a ρ μ).bind fun x μ => R.of (negD x) μ := rfl
@[simp] theorem vE_cmp (op : COp) (a b : E) : evE C (.cmp op a b) ρ μ = (evE C a ρ μ).bind fun x μ => (evE C b ρ μ).bind fun y μ => R.of ((cmpD op x y).map .bl) μ := rfl
@[simp] theorem vE_chn (o1 o2 : COp) (a b c : E) : evE C (.chn o1 o2 a b c) ρ μ = (evE C a ρ μ).bind fun x μ => (evE C b ρ μ).bind fun y μ => (R.of (cmpD o1 x y) μ).bind fun k μ => if k = true then (evE C c ρ μ).bind fun z μ => R.of ((cmpD o2 y z).map .bl) μ else .ok (.bl false) μ := rfl
@[simp] theorem vE_and1 (a : E) : evE C (.and1 a) ρ μ = evE C a ρ μ := rfl
@[simp] theorem vE_or1 (a : E) : evE C (.or1 a) ρ μ = evE C a ρ μ := rfl
@[simp] theorem vE_and (a r : E) : evE C (.and a r) ρ μ = (evE C a ρ μ).bind fun x μ => match x with | .bl k => if k = true then evE C r ρ μ else .ok (.bl false) μ | _ => .bad := rfl
@[simp] theorem vE_or (a r : E) : evE C (.or a r) ρ μ = (evE C a ρ μ).bind fun x μ => match x with | .bl k => if k = true then .ok (.bl true) μ else evE C r ρ μ | _ => .bad := rfl
@[simp] theorem vE_not (a : E) : evE C (.not a) ρ μ = (evE C a ρ μ).bind fun x μ => match x with | .bl k => .ok (.bl (!k)) μ | _ => .bad := rfl
@[simp] theorem vE_ite (c a b : E) : evE C (.ite c a b) ρ μ = (evE C c ρ μ).bind fun x μ => match x with | .bl k => if k = true then evE C a ρ μ else evE C b ρ μ | _ => .bad := rfl
@[simp] theorem vE_idx (a i : E) : evE C (.idx a i) ρ μ = (evE C a ρ μ).bind fun x μ => (evE C i ρ μ).bind fun y μ => R.of (ixM μ x y) μ := rfl
@[simp] theorem vE_sl (a lo hi : E) : evE C (.sl a lo hi) ρ μ = (evE C a ρ μ).bind fun x μ => (evE C lo ρ μ).bind fun l μ => (R.of (partE lo l) μ).bind fun l μ => (evE C hi ρ μ).bind fun h μ => (R.of (partE hi h) μ).bind fun h μ => R.of (slD x l h) μ := rfl
@[simp] theorem vE_rev (a : E) : evE C (.rev a) ρ μ = (evE C a ρ μ).bind fun x μ => match x with | .lst xs => .ok (.lst xs.reverse) μ | .tup xs => .ok (.tup xs.reverse) μ | _ => .bad := rfl
@[simp] theorem vE_call (f : Nat) (es : E) : evE C (.call f es) ρ μ = (evE C es ρ μ).bind fun r μ => match r with | .tup ds => C.call f ds μ | _ => .bad := rfl
@[simp] theorem vE_bi (b : Bi) (es : E) : evE C (.bi b es) ρ μ = (evE C es ρ μ).bind fun r μ => match r with | .tup ds => R.of (biD b ds) μ | _ => .bad := rfl
@[simp] theorem vE_isi (a : E) (t : Ty) : evE C (.isi a t) ρ μ = (evE C a ρ μ).bind fun x μ => R.of ((isTy t x).map .bl) μ := rfl
@[simp] theorem vE_mt (m : Mt) (a e : E) : evE C (.mt m a e) ρ μ = (evE C a ρ μ).bind fun x μ => match x with | .lst xs => (evE C e ρ μ).bind fun y μ => R.of (mtD m (.lst xs) y) μ | _ => .bad := rfl
@[simp] theorem vE_zip (es : E) : evE C (.zip es) ρ μ = (evE C es ρ μ).bind fun r μ => match r with | .tup [.lst xs, .lst ys] => .ok (.lst (zip2 xs ys)) μ | .tup [.tup xs, .tup ys] => .ok (.lst (zip2 xs ys)) μ | .tup [.lst xs, .tup ys] => .ok (.lst (zip2 xs ys)) μ | .tup [.tup xs, .lst ys] => .ok (.lst (zip2 xs ys)) μ | _ => .bad := rfl
@[simp] theorem vE_enm (a : E) : evE C (.enm a) ρ μ = (evE C a ρ μ).bind fun x μ => match x with | .lst xs => .ok (.lst (enum2 xs 0)) μ | .tup xs => .ok (.lst (enum2 xs 0)) μ | _ => .bad := rfl
@[simp] theorem vE_rng (es : E) : evE C (.rng es) ρ μ = (evE C es ρ μ).bind fun r μ => match r with | .tup [.int hi] => if -(2 ^ 62) ≤ hi ∧ hi < 2 ^ 62 then .ok (.rng 0 hi) μ else .bad | .tup [.int lo, .int hi] => if -(2 ^ 62) ≤ lo ∧ lo < 2 ^ 62 ∧ -(2 ^ 62) ≤ hi ∧ hi < 2 ^ 62 then .ok (.rng lo hi) μ else .bad | _ => .bad := rfl
@[simp] theorem vE_clv (i : Nat) (fs : List Nat) (es : E) : evE C (.clv i fs es) ρ μ = (match ρ[i]? with | some (.sh (.fn f)) => if fs.contains f = true then (evE C es ρ μ).bind fun r μ => match r with | .tup ds => C.call f ds μ | _ => .bad else .bad | _ => .bad) := rfl
@[simp] theorem vE_fnv (f : Nat) : evE C (.fnv f) ρ μ = .ok (.fn f) μ := rfl
@[simp] theorem vE_lrg (tp : Bool) (a b : E) : evE C (.lrg tp a b) ρ μ = (evE C a ρ μ).bind fun x μ => (evE C b ρ μ).bind fun y μ => R.of (lrgD tp x y) μ := rfl
@[simp] theorem vE_lam (f : Nat) (e : E) : evE C (.lam f e) ρ μ = C.cat f (fun μ => evE C e ρ μ) μ := rfl
@[simp] theorem vE_isx (i c : Nat) : evE C (.isx i c) ρ μ = (match ρ[i]? with | some (.exc x) => .ok (.bl (c == 0 || c == 1 || x.cls == c)) μ | _ => .bad) := rfl
@[simp] theorem vE_fld (i c : Nat) : evE C (.fld i c) ρ μ = (match ρ[i]? with | some (.exc x) => if x.cls = c then R.of x.arg μ else .bad | _ => .bad) := rfl
@[simp] theorem vS_skip : evS C .skip ρ μ = .ok (.nx ρ) μ := rfl
@[simp] theorem vS_seq (s r : S) : evS C (.seq s r) ρ μ = (evS C s ρ μ).thn fun ρ μ => evS C r ρ μ := rfl
@[simp] theorem vS_frz (i : Nat) (r : S) : evS C (.frz i r) ρ μ = (match ρ[i]? with | some (.own ds) => evS C r (ρ.set i (.sh (.lst ds))) μ | _ => evS C r ρ μ) := rfl
@[simp] theorem vS_asgN (own : Bool) (i : Nat) (e : E) : evS C (.asg own (.name i) e) ρ μ = (evE C e ρ μ).bind fun d μ => .ok (.nx (ρ.set i (newSlot own d))) μ := rfl
@[simp] theorem vS_asgT (own : Bool) (t : Tg) (e : E) : evS C (.asg own (.tup t) e) ρ μ = (evE C e ρ μ).bind fun d μ => (R.of (setTg (.tup t) d ρ) μ).bind fun ρ μ => .ok (.nx ρ) μ := rfl
@[simp] theorem vS_par (is : List Nat) (es : E) : evS C (.par is es) ρ μ = (evE C es ρ μ).bind fun r μ => match r with | .tup ds => (R.of (setPar is ds ρ) μ).bind fun ρ μ => .ok (.nx ρ) μ | _ => .bad := rfl
@[simp] theorem vS_xas (os : List Bool) (is : List Nat) (es : E) : evS C (.xas os is es) ρ μ = (evE C es ρ μ).bind fun r μ => match r with | .tup ds => (R.of (setX os is ds ρ) μ).bind fun ρ μ => .ok (.nx ρ) μ | _ => .bad := rfl
@[simp] theorem vS_cond (c : E) (a b : S) : evS C (.cond c a b) ρ μ = (evE C c ρ μ).bind fun x μ => match x with | .bl k => if k = true then evS C a ρ μ else evS C b ρ μ | _ => .bad := rfl
@[simp] theorem vS_ret (e : E) : evS C (.ret e) ρ μ = (evE C e ρ μ).bind fun d μ => .ok (.rt d) μ := rfl
@[simp] theorem vS_retN : evS C .retN ρ μ = .ok (.rt .non) μ := rfl
@[simp] theorem vS_retO (i : Nat) : evS C (.retO i) ρ μ = (match ρ[i]? with | some (.own ds) => .ok (.rt (.lst ds)) μ | _ => .bad) := rfl
@[simp] theorem vS_exp (e : E) : evS C (.exp e) ρ μ = (evE C e ρ μ).bind fun _ μ => .ok (.nx ρ) μ := rfl
@[simp] theorem vS_app (i : Nat) (e : E) : evS C (.app i e) ρ μ = (match ρ[i]? with | some (.own ds) => (evE C e ρ μ).bind fun d μ => if ds.length < sizeLine then .ok (.nx (ρ.set i (.own (ds ++ [d])))) μ else .bad | _ => .bad) := rfl
@[simp] theorem vS_rse (c : Nat) (es : E) : evS C (.rse c es) ρ μ = (evE C es ρ μ).bind fun r μ => match r with | .tup [] => .ex ⟨c, none⟩ μ | .tup [d] => .ex ⟨c, some d⟩ μ | _ => .bad := rfl
@[simp] theorem vS_pass : evS C .pass ρ μ = .ok (.nx ρ) μ := rfl
@[simp] theorem vS_brk : evS C .brk ρ μ = .ok (.bk ρ) μ := rfl
@[simp] theorem vS_cont : evS C .cont ρ μ = .ok (.ct ρ) μ := rfl
theorem vS_for (t : Tg) (it : E) (b : S) : evS C (.for_ t it b) ρ μ = (evE C it ρ μ).bind fun x μ => match itemsE it x with | some ds => forL (fun d ρ μ => (R.of (setTg t d ρ) μ).bind fun ρ μ => evS C b ρ μ) ds ρ μ | none => .bad := rfl
@[simp] theorem vS_box (i : Nat) (e : E) : evS C (.box i e) ρ μ = (evE C e ρ μ).bind fun d μ => match d with | .lst ds => .ok (.nx (ρ.set i (.sh (.cell μ.length)))) (μ ++ [ds]) | _ => .bad := rfl
@[simp] theorem vS_subC (n : Nat) (i e : E) : evS C (.sub (.var n) i e) ρ μ = (evE C e ρ μ).bind fun v μ => (evE C (.var n) ρ μ).bind fun x μ => (evE C i ρ μ).bind fun k μ => (R.of (setD x k v μ) μ).bind fun μ' _ => .ok (.nx ρ) μ' := rfl
@[simp] theorem vS_aug (op : BOp) (i : Nat) (e : E) : evS C (.aug op i e) ρ μ = (match ρ[i]? with | some (.sh x) => (evE C e ρ μ).bind fun y μ => (R.of (augD op x y) μ).bind fun z μ => .ok (.nx (ρ.set i (.sh z))) μ | _ => .bad) := rfl
end
def isIntD : D → Bool
  | .int _ => true
  | _ => false
/-- what the texts' values are -/
def okD : D → Bool
  | .non => true
  | .bl _ => true
  | .int _ => true
  | .str _ => true
  | .tup _ => true
  | .lst _ => true
  | .dic _ _ => true
  | _ => false
end Ev
end

section
set_option Elab.async false
set_option linter.all false
set_option maxRecDepth 100000
set_option maxHeartbeats 2000000
namespace Ev
open PySem PySem.Spec PyProof.Rows L2
/-- it ends well, with P -/
def Wp {α : Type} (r : R α) (P : α → Mu → Prop) : Prop := match r with
  | .ok a μ => P a μ
  | _ => False
theorem Wp.get {α : Type} {r : R α} {P : α → Mu → Prop} (h : Wp r P) : ∃ a μ, r = .ok a μ ∧ P a μ := by
  cases r with
  | ok a μ => exact ⟨a, μ, rfl, h⟩
  | _ => exact h.elim
theorem Wp.mono {α : Type} {r : R α} {P Q : α → Mu → Prop} (h : Wp r P) (k : ∀ a μ, P a μ → Q a μ) : Wp r Q := by
  cases r with
  | ok a μ => exact k a μ h
  | _ => exact h.elim
theorem Wp.bind {α β : Type} {r : R α} {f : α → Mu → R β} {P : α → Mu → Prop} {Q : β → Mu → Prop} (h : Wp r P) (k : ∀ a μ, P a μ → Wp (f a μ) Q) : Wp (r.bind f) Q := by
  cases r with
  | ok a μ => exact k a μ h
  | _ => exact h.elim
theorem Wp.thn {r : R Fl} {f : Env → Mu → R Fl} {P : Fl → Mu → Prop} {Q : Fl → Mu → Prop} (h : Wp r P) (k : ∀ ρ μ, P (.nx ρ) μ → Wp (f ρ μ) Q) (kr : ∀ d μ, P (.rt d) μ → Q (.rt d) μ) (kb : ∀ d μ, P (.bk d) μ → Q (.bk d) μ) (kc : ∀ d μ, P (.ct d) μ → Q (.ct d) μ) : Wp (r.thn f) Q := by
  cases r with
  | ok a μ =>
    cases a with
    | nx ρ => exact k ρ μ h
    | rt d => exact kr d μ h
    | bk d => exact kb d μ h
    | ct d => exact kc d μ h
  | _ => exact h.elim
/-- a comprehension that only looks -/
theorem compL_map {f : D → Mu → R (Option D)} {g : D → D} {μ : Mu} : ∀ {ds acc : List D}, (∀ d ∈ ds, f d μ = .ok (some (g d)) μ) → acc.length + ds.length ≤ sizeLine → compL f ds acc μ = .ok (acc ++ ds.map g) μ
  | [], acc, _, _ => by simp [compL]
  | d :: ds, acc, h, hl => by
    unfold compL
    rw [h d (by simp)]
    simp only [List.length_cons] at hl
    dsimp only
    rw [if_pos (by omega), compL_map (fun x hx => h x (by simp [hx])) (by simp; omega)]
    simp
/-- .. with a condition -/
theorem compL_filter {f : D → Mu → R (Option D)} {g : D → Option D} {μ : Mu} : ∀ {ds acc : List D}, (∀ d ∈ ds, f d μ = .ok (g d) μ) → acc.length + ds.length ≤ sizeLine → compL f ds acc μ = .ok (acc ++ ds.filterMap g) μ
  | [], acc, _, _ => by simp [compL]
  | d :: ds, acc, h, hl => by
    unfold compL
    rw [h d (by simp)]
    simp only [List.length_cons] at hl
    cases q : g d with
    | none => dsimp only; rw [compL_filter (fun x hx => h x (by simp [hx])) (by omega)]; simp [q]
    | some y =>
      dsimp only
      rw [if_pos (by omega), compL_filter (fun x hx => h x (by simp [hx])) (by simp; omega)]
      simp [q]
/-- a for whose turns only change the names -/
theorem forL_fold {f : D → Env → Mu → R Fl} {g : Env → D → Env} {μ : Mu} : ∀ {ds : List D} {ρ : Env}, (∀ ρ, ∀ d ∈ ds, f d ρ μ = .ok (.nx (g ρ d)) μ) → forL f ds ρ μ = .ok (.nx (ds.foldl g ρ)) μ
  | [], ρ, _ => rfl
  | d :: ds, ρ, h => by
    unfold forL
    rw [h ρ d (by simp)]
    exact forL_fold fun ρ x hx => h ρ x (by simp [hx])
/-- a for by an invariant; P k: before the k-th turn -/
theorem forL_wp {f : D → Env → Mu → R Fl} {ds : List D} {ρ : Env} {μ : Mu} (P : List D → Env → Mu → Prop) (Q : Fl → Mu → Prop) (h0 : P ds ρ μ) (he : ∀ ρ μ, P [] ρ μ → Q (.nx ρ) μ)
    (hs : ∀ d r ρ μ, P (d :: r) ρ μ → Wp (f d ρ μ) fun fl μ' => match fl with
      | .nx ρ' => P r ρ' μ'
      | .ct ρ' => P r ρ' μ'
      | .bk ρ' => Q (.nx ρ') μ'
      | .rt v => Q (.rt v) μ') : Wp (forL f ds ρ μ) Q := by
  induction ds generalizing ρ μ with
  | nil => exact he ρ μ h0
  | cons d r ih =>
    unfold forL
    obtain ⟨a, μ', e, hp⟩ := (hs d r ρ μ h0).get
    rw [e]
    cases a with
    | nx ρ' => exact ih hp
    | ct ρ' => exact ih hp
    | bk ρ' => exact hp
    | rt v => exact hp
/-- the hand, cell 0 -/
def handM (cells : List Int) (pos big seed cnt : Int) : Mu := [[.lst (cells.map .int), .int pos, .int big, .int seed, .int cnt]]
def Hand (μ : Mu) : Prop := ∃ (cells : List Int) (pos big seed cnt : Int), μ = handM cells pos big seed cnt ∧ (∀ c ∈ cells, 0 ≤ c ∧ c < 10 ^ 36) ∧ 0 ≤ pos ∧ 0 ≤ big ∧ big < 10 ^ 36 ∧ 0 ≤ seed ∧ seed < 2147483629
def drawS1 : S := (.seq (.cond (.and (.cmp .eq (.idx (.var 0) (.int 2)) (.int 0)) (.and1 (.cmp .lt (.idx (.var 0) (.int 1)) (.bi .len (.cons (.idx (.var 0) (.int 0)) .nil))))) (.seq (.asg false (.name 3) (.idx (.idx (.var 0) (.int 0)) (.idx (.var 0) (.int 1)))) (.seq (.sub (.var 0) (.int 1) (.bin .add (.idx (.var 0) (.int 1)) (.int 1))) (.seq (.sub (.var 0) (.int 3) (.bin .mod (.bi .int (.cons (.bin .add (.bin .add (.bin .mul (.idx (.var 0) (.int 3)) (.int 69621)) (.bin .mul (.var 3) (.int 40692))) (.int 37)) .nil)) (.int 2147483629))) (.seq (.cond (.cmp .ge (.var 3) (.bin .pow (.int 10) (.int 18))) (.seq (.sub (.var 0) (.int 2) (.var 3)) .skip) .skip) .skip)))) .skip) (.seq (.cond (.cmp .gt (.idx (.var 0) (.int 2)) (.int 0)) (.seq (.asg false (.name 4) (.bin .mod (.bi .int (.cons (.idx (.var 0) (.int 2)) .nil)) (.var 1))) (.seq (.sub (.var 0) (.int 2) (.bin .fdiv (.idx (.var 0) (.int 2)) (.var 1))) (.seq (.ret (.var 4)) .skip))) .skip) (.seq (.sub (.var 0) (.int 4) (.bin .add (.idx (.var 0) (.int 4)) (.int 1))) (.seq (.asg false (.name 2) (.bin .mod (.bi .int (.cons (.bin .mul (.bi .int (.cons (.bin .add (.idx (.var 0) (.int 3)) (.bin .mul (.int 7919) (.idx (.var 0) (.int 4)))) .nil)) (.int 48271)) .nil)) (.int 2147483647))) (.seq (.asg false (.name 2) (.bin .mod (.bi .int (.cons (.bin .mul (.var 2) (.bin .add (.bin .fdiv (.var 2) (.int 1009)) (.int 69621))) .nil)) (.int 2147483647))) (.seq (.asg false (.name 2) (.bin .mod (.bi .int (.cons (.bin .mul (.var 2) (.bin .add (.bin .fdiv (.var 2) (.int 2003)) (.int 40014))) .nil)) (.int 2147483563))) (.seq (.ret (.bin .mod (.bi .int (.cons (.bin .fdiv (.var 2) (.int 16)) .nil)) (.var 1))) .skip)))))))
section
variable {C : Fns} {cells : List Int} {pos big seed cnt : Int}
theorem hd0 : ixM (handM cells pos big seed cnt) (.cell 0) (.int 0) = some (.lst (cells.map .int)) := rfl
theorem hd1 : ixM (handM cells pos big seed cnt) (.cell 0) (.int 1) = some (.int pos) := rfl
theorem hd2 : ixM (handM cells pos big seed cnt) (.cell 0) (.int 2) = some (.int big) := rfl
theorem hd3 : ixM (handM cells pos big seed cnt) (.cell 0) (.int 3) = some (.int seed) := rfl
theorem hd4 : ixM (handM cells pos big seed cnt) (.cell 0) (.int 4) = some (.int cnt) := rfl
theorem hs1 {v : Int} : setD (.cell 0) (.int 1) (.int v) (handM cells pos big seed cnt) = some (handM cells v big seed cnt) := rfl
theorem hs2 {v : Int} : setD (.cell 0) (.int 2) (.int v) (handM cells pos big seed cnt) = some (handM cells pos v seed cnt) := rfl
theorem hs3 {v : Int} : setD (.cell 0) (.int 3) (.int v) (handM cells pos big seed cnt) = some (handM cells pos big v cnt) := rfl
theorem hs4 {v : Int} : setD (.cell 0) (.int 4) (.int v) (handM cells pos big seed cnt) = some (handM cells pos big seed v) := rfl
theorem mulOk_r {i j : Int} (h : j.natAbs < 2 ^ 64) : mulOk i j = true := by
  unfold mulOk
  simp only [Bool.or_eq_true, decide_eq_true_eq]
  exact .inl (.inr h)
theorem mulOk_l {i j : Int} (h : i.natAbs < 2 ^ 64) : mulOk i j = true := by
  unfold mulOk
  simp only [Bool.or_eq_true, decide_eq_true_eq]
  exact .inl (.inl h)
end
end Ev
end

section
set_option Elab.async false
set_option linter.all false
set_option maxRecDepth 100000
set_option maxHeartbeats 4000000
namespace Ev
open PySem PySem.Spec PyProof.Rows L2
theorem eqD_int (a b : Int) : eqD (.int a) (.int b) = some (decide (a = b)) := by
  have h : ∀ i : Int, SeqAt.shaped (.int i) = true := fun i => by simp [SeqAt.shaped, PyData.canLay0, PyData.depth]
  simp [eqD, toPy, h, PyData.eqv]
  by_cases q : a = b <;> simp [q]
theorem binD_mul (a b : Int) (h : mulOk a b = true) : binD .mul (.int a) (.int b) = some (.int (a * b)) := if_pos h
theorem binD_add (a b : Int) : binD .add (.int a) (.int b) = some (.int (a + b)) := id rfl
theorem binD_sub (a b : Int) : binD .sub (.int a) (.int b) = some (.int (a - b)) := id rfl
theorem binD_mod (a b : Int) (h : 0 < b) : binD .mod (.int a) (.int b) = some (.int (a % b)) := if_pos h
theorem binD_fdiv (a b : Int) (h : 0 < b) (h2 : b.natAbs.log2 < 9000) : binD .fdiv (.int a) (.int b) = some (.int (a / b)) := if_pos ⟨h, h2⟩
theorem binD_pow (a b : Int) (h : 0 ≤ b) (h2 : b ≤ 1000000) (h3 : a.natAbs < 2 ^ 64) : binD .pow (.int a) (.int b) = some (.int (a ^ b.toNat)) := if_pos ⟨h, h2, h3⟩
theorem biD_int (a : Int) : biD .int [.int a] = some (.int a) := id rfl
theorem biD_len (ds : List D) : biD .len [.lst ds] = some (.int (ds.length : Nat)) := id rfl
theorem biD_lenT (ds : List D) : biD .len [.tup ds] = some (.int (ds.length : Nat)) := id rfl
theorem cmpD_lt (a b : Int) : cmpD .lt (.int a) (.int b) = some (decide (a < b)) := id rfl
theorem cmpD_le (a b : Int) : cmpD .le (.int a) (.int b) = some (decide (a ≤ b)) := id rfl
theorem cmpD_gt (a b : Int) : cmpD .gt (.int a) (.int b) = some (decide (b < a)) := id rfl
theorem cmpD_ge (a b : Int) : cmpD .ge (.int a) (.int b) = some (decide (b ≤ a)) := id rfl
theorem cmpD_eqI (a b : Int) : cmpD .eq (.int a) (.int b) = some (decide (a = b)) := eqD_int a b
theorem cmpD_neI (a b : Int) : cmpD .ne (.int a) (.int b) = some (!decide (a = b)) := by
  show (eqD (.int a) (.int b)).map (!·) = _
  rw [eqD_int]
  rfl
theorem atI_map {cells : List Int} {p : Int} (h : 0 ≤ p) (h2 : p < (cells.length : Int)) : ∃ c ∈ cells, ixD (.lst (cells.map .int)) (.int p) = some (.int c) := by
  have e : p.toNat < cells.length := by omega
  refine ⟨cells[p.toNat], List.getElem_mem e, ?_⟩
  show atI _ _ = _
  unfold atI ixN
  simp [h, h2, e]
def drawT : S := match drawS1 with
  | .seq _ t => t
  | s => s
def drawH : S := match drawS1 with
  | .seq h _ => h
  | s => s
variable {C : Fns}
theorem ixM_lst (μ : Mu) (xs : List D) (y : D) : ixM μ (.lst xs) y = ixD (.lst xs) y := rfl
theorem ixM_tup (μ : Mu) (xs : List D) (y : D) : ixM μ (.tup xs) y = ixD (.tup xs) y := rfl
theorem log2_small (m : Int) (h : 0 < m) (h2 : m < 2 ^ 200) : m.natAbs.log2 < 9000 := by
  have h0 : m.natAbs ≠ 0 := by omega
  have : m.natAbs.log2 < 200 := by
    rw [Nat.log2_lt h0]
    omega
  omega
theorem draw_head {many : Int} {s2 s3 s4 : Slot} {μ : Mu} (h : Hand μ) : Wp (evS C drawH [.sh (.cell 0), .sh (.int many), s2, s3, s4] μ) (fun fl μ' => ∃ s3, fl = .nx [.sh (.cell 0), .sh (.int many), s2, s3, s4] ∧ Hand μ') := by
  obtain ⟨cells, pos, big, seed, cnt, rfl, hc, hp, hb0, hb1, h0, h1⟩ := h
  show Wp (evS C (.cond _ _ _) _ _) _
  simp only [vS_cond, vE_and, vE_and1, vE_cmp, vE_idx, vE_var, vE_int, List.getElem?_cons_zero, List.getElem?_cons_succ, R.bind_ok, hd0, hd1, hd2, hd3, hd4, R.of_some, cmpD_eqI, Option.map_some]
  by_cases hbig : big = 0
  · subst hbig
    simp [hd1, cmpD_lt, biD_len, hd0]
    by_cases hpos : pos < (cells.length : Int)
    · obtain ⟨c, hcm, hce⟩ := atI_map hp hpos
      obtain ⟨hc0, hc1⟩ := hc c hcm
      simp [hpos, hd0, hd1, hd3, ixM_lst, hce, newSlot, hs1, hs2, hs3, binD_add, binD_mul, binD_mod, mulOk_r, biD_int, binD_pow, cmpD_ge]
      split
      · simp [hs2, Wp]
        exact ⟨_, _, _, _, _, rfl, hc, by omega, hc0, by simpa using hc1, by omega, by omega⟩
      · simp [Wp]
        exact ⟨_, _, _, _, _, rfl, hc, by omega, by omega, by omega, by omega, by omega⟩
    · simp [hpos, Wp]
      exact ⟨_, _, _, _, _, rfl, hc, by omega, by omega, by omega, by omega, by omega⟩
  · simp [hbig, Wp]
    exact ⟨_, _, _, _, _, rfl, hc, by omega, by omega, by omega, by omega, by omega⟩
theorem draw_tail {many : Int} {s2 s3 s4 : Slot} {μ : Mu} (h : Hand μ) (hm : 0 < many) (hm2 : many < 2 ^ 200) : Wp (evS C drawT [.sh (.cell 0), .sh (.int many), s2, s3, s4] μ) (fun fl μ' => ∃ v, fl = .rt (.int v) ∧ 0 ≤ v ∧ v < many ∧ Hand μ') := by
  obtain ⟨cells, pos, big, seed, cnt, rfl, hc, hp, hb0, hb1, h0, h1⟩ := h
  have hl := log2_small many hm hm2
  show Wp (evS C (.seq (.cond _ _ _) _) _ _) _
  simp only [vS_seq, vS_cond, vE_cmp, vE_idx, vE_var, vE_int, List.getElem?_cons_zero, List.getElem?_cons_succ, R.bind_ok, hd0, hd1, hd2, hd3, hd4, R.of_some, cmpD_gt, Option.map_some]
  by_cases hbig : 0 < big
  · simp [hbig, hd2, newSlot, hs2, binD_mod _ _ hm, binD_fdiv _ _ hm hl, biD_int, Wp]
    exact ⟨Int.emod_nonneg _ (by omega), Int.emod_lt_of_pos _ hm, _, _, _, _, _, rfl, hc, by omega, Int.ediv_nonneg hb0 (by omega), Int.lt_of_le_of_lt (Int.ediv_le_self _ hb0) hb1, by omega, by omega⟩
  · have n1 : ∀ a : Int, a % 2147483647 < 2147483647 := fun a => by omega
    have n2 : ∀ a : Int, 0 ≤ a % 2147483647 := fun a => by omega
    have mk : ∀ a b : Int, mulOk (a % 2147483647) b = true := fun a b => mulOk_l (by omega)
    have f1 := fun a => binD_fdiv a 1009 (by decide) (log2_small _ (by decide) (by decide))
    have f2 := fun a => binD_fdiv a 2003 (by decide) (log2_small _ (by decide) (by decide))
    have f3 := fun a => binD_fdiv a 16 (by decide) (log2_small _ (by decide) (by decide))
    simp [hbig, hd3, hd4, newSlot, hs4, binD_add, binD_mul, binD_mod, f1, f2, f3, mulOk_l, mulOk_r, biD_int, Wp, hm, mk]
    exact ⟨Int.emod_nonneg _ (by omega), Int.emod_lt_of_pos _ hm, _, _, _, _, _, rfl, hc, by omega, by omega, by omega, by omega, by omega⟩
theorem draw_wp {con : Nat → D} {tab : Nat → Option FnDef} {cats : Nat → Option CatDef} {n f : Nat} {d : FnDef} {many : Int} {μ : Mu} (ht : tab f = some d) (hd : d.body = drawS1) (h5 : d.N.length = 5) (h2 : d.np = 2) (h : Hand μ) (hm : 0 < many) (hm2 : many < 2 ^ 200) :
    ∃ v μ', (fnsAt con tab cats (n + 1)).call f [.cell 0, .int many] μ = .ok (.int v) μ' ∧ 0 ≤ v ∧ v < many ∧ Hand μ' := by
  rw [call_at ht (by rw [h2]; rfl), hd]
  have e : startE d [.cell 0, .int many] = [.sh (.cell 0), .sh (.int many), .un, .un, .un] := by
    unfold startE
    rw [h5, h2]
    rfl
  rw [e]
  have es : drawS1 = .seq drawH drawT := rfl
  rw [es, vS_seq]
  obtain ⟨a, μ1, e1, s3, rfl, h1⟩ := (draw_head (C := fnsAt con tab cats n) (many := many) (s2 := .un) (s3 := .un) (s4 := .un) h).get
  rw [e1, R.thn_nx]
  obtain ⟨a, μ2, e2, v, rfl, q1, q2, q3⟩ := (draw_tail (C := fnsAt con tab cats n) (s2 := .un) (s3 := s3) (s4 := .un) h1 hm hm2).get
  rw [e2]
  exact ⟨v, μ2, rfl, q1, q2, q3⟩
end Ev
end

section
set_option Elab.async false
set_option linter.all false
set_option maxRecDepth 100000
set_option maxHeartbeats 4000000
namespace Ev
open PySem PySem.Spec PyProof.Rows L2
def anyS (fd : Nat) : S := .seq (.ret (.idx (.var 1) (.call fd (.cons (.var 0) (.cons (.bi .len (.cons (.var 1) .nil)) .nil))))) .skip
theorem ixD_nat {xs : List D} {v : Int} (h : 0 ≤ v) (h2 : v < (xs.length : Int)) : ∃ d ∈ xs, ixD (.lst xs) (.int v) = some d := by
  have e : v.toNat < xs.length := by omega
  refine ⟨xs[v.toNat], List.getElem_mem e, ?_⟩
  show atI _ _ = _
  unfold atI ixN
  simp [h, h2, e]
theorem any_wp {con : Nat → D} {tab : Nat → Option FnDef} {cats : Nat → Option CatDef} {n f fd : Nat} {d dd : FnDef} {xs : List D} {μ : Mu} (ht : tab f = some d) (hd : d.body = anyS fd) (h5 : d.N.length = 2) (h2 : d.np = 2)
    (htd : tab fd = some dd) (hdd : dd.body = drawS1) (h5d : dd.N.length = 5) (h2d : dd.np = 2) (h : Hand μ) (hm : 0 < xs.length) (hm2 : xs.length < 2 ^ 199) :
    ∃ v ∈ xs, ∃ μ', (fnsAt con tab cats (n + 2)).call f [.cell 0, .lst xs] μ = .ok v μ' ∧ Hand μ' := by
  rw [call_at ht (by rw [h2]; rfl), hd]
  have e : startE d [.cell 0, .lst xs] = [.sh (.cell 0), .sh (.lst xs)] := by
    unfold startE
    rw [h5, h2]
    rfl
  rw [e]
  obtain ⟨v, μ', e1, v0, v1, hh⟩ := draw_wp (con := con) (cats := cats) (n := n) htd hdd h5d h2d (many := (xs.length : Int)) h (by omega) (by omega)
  obtain ⟨x, hx, ex⟩ := ixD_nat (xs := xs) v0 v1
  refine ⟨x, hx, μ', ?_, hh⟩
  simp [anyS, biD_len, e1, ixM_lst, ex]
theorem cut_to {α : Type} (xs : List α) (k : Nat) : cut xs none (some (k : Int)) = xs.take k := by
  unfold cut
  rw [HT.sIx_nat, HT.sIx_none]
  simp only [List.drop_zero, Nat.sub_zero]
  rw [← List.take_eq_take_min]
theorem cut_from {α : Type} (xs : List α) (k : Nat) : cut xs (some (k : Int)) none = xs.drop k := by
  unfold cut
  rw [HT.sIx_nat, HT.sIx_none]
  by_cases h : k ≤ xs.length
  · rw [Nat.min_eq_left h, ← List.length_drop, List.take_length]
  · rw [Nat.min_eq_right (by omega), List.drop_eq_nil_of_le (Nat.le_refl _), List.drop_eq_nil_of_le (by omega), List.take_nil]
theorem cut_m1 {α : Type} (xs : List α) : cut xs none (some (-1)) = xs.dropLast := by
  unfold cut
  rw [HT.sIx_none, List.dropLast_eq_take]
  show (xs.drop 0).take ((if (-1 : Int) < 0 then ((-1 : Int) + (xs.length : Int)).toNat else min (-1 : Int).toNat xs.length) - 0) = _
  rw [if_pos (by decide), List.drop_zero]
  congr 1
  omega
theorem slD_m1 (xs : List D) : slD (.tup xs) none (some (-1)) = some (.tup xs.dropLast) := by
  show some (D.tup (cut xs none (some (-1)))) = _
  rw [cut_m1]
theorem slD_m1L (xs : List D) : slD (.lst xs) none (some (-1)) = some (.lst xs.dropLast) := by
  show some (D.lst (cut xs none (some (-1)))) = _
  rw [cut_m1]
theorem slD_to (xs : List D) (k : Nat) : slD (.tup xs) none (some (k : Int)) = some (.tup (xs.take k)) := by
  show some (D.tup (cut xs none (some (k : Int)))) = _
  rw [cut_to]
theorem slD_from (xs : List D) (k : Nat) : slD (.tup xs) (some (k : Int)) none = some (.tup (xs.drop k)) := by
  show some (D.tup (cut xs (some (k : Int)) none)) = _
  rw [cut_from]
theorem asBls_f {α : Type} (p : α → Bool) : ∀ xs : List α, asBls (xs.map fun d => .bl (p d)) = some (xs.map p)
  | [] => rfl
  | x :: r => by
    show (asBls (r.map fun d => .bl (p d))).map (p x :: ·) = _
    rw [asBls_f p r]
    rfl
theorem biD_all {α : Type} (p : α → Bool) (xs : List α) : biD .all [.lst (xs.map fun d => .bl (p d))] = some (.bl (xs.all p)) := by
  show (asBls (xs.map fun d => .bl (p d))).map _ = _
  rw [asBls_f]
  simp [List.all_map]
theorem biD_any {α : Type} (p : α → Bool) (xs : List α) : biD .any [.lst (xs.map fun d => .bl (p d))] = some (.bl (xs.any p)) := by
  show (asBls (xs.map fun d => .bl (p d))).map _ = _
  rw [asBls_f]
  simp [List.any_map]
theorem asInts_f : ∀ xs : List Int, asInts (xs.map .int) = some xs
  | [] => rfl
  | x :: r => by
    show (asInts (r.map .int)).map (x :: ·) = _
    rw [asInts_f r]
    rfl
/-- the whole numbers of a list of values -/
def intsOf : List D → List Int
  | .int i :: r => i :: intsOf r
  | _ => []
theorem ints_all : ∀ {ds : List D}, ds.all isIntD = true → ds = (intsOf ds).map .int
  | [], _ => rfl
  | d :: r, h => by
    simp only [List.all_cons, Bool.and_eq_true] at h
    cases d <;> first | cases h.1 | skip
    show _ = D.int _ :: (intsOf r).map .int
    rw [← ints_all h.2]
theorem asInts_all {ds : List D} (h : ds.all isIntD = true) : asInts ds = some (intsOf ds) := by
  rw [ints_all h, asInts_f, ← ints_all h]
theorem comp_map {C : Fns} {t : Tg} {it elt : E} {ρ : Env} {μ μ' : Mu} {x : D} {ds : List D} {g : D → D} (hi : evE C it ρ μ = .ok x μ') (hx : itemsE it x = some ds) (hl : ds.length ≤ sizeLine) (h : ∀ d ∈ ds, ∃ ρ', setTg t d (wipeE ρ t.slots) = some ρ' ∧ evE C elt ρ' μ' = .ok (g d) μ') :
    evE C (.comp t it elt .nil) ρ μ = .ok (.lst (ds.map g)) μ' := by
  have z := compL_map (f := fun d μ => match setTg t d (wipeE ρ t.slots) with
    | some ρ' => (evE C elt ρ' μ).bind fun y μ => .ok (some y) μ
    | none => .bad) (g := g) (μ := μ') (ds := ds) (acc := []) (fun d hd => by
      obtain ⟨ρ', e1, e2⟩ := h d hd
      simp [e1, e2]) (by simpa using hl)
  have e : evE C (.comp t it elt .nil) ρ μ = (evE C it ρ μ).bind fun x μ => match itemsE it x with
    | some ds => (compL (fun d μ => match setTg t d (wipeE ρ t.slots) with
      | some ρ' => (evE C elt ρ' μ).bind fun y μ => .ok (some y) μ
      | none => .bad) ds [] μ).bind fun ys μ => .ok (.lst ys) μ
    | none => .bad := rfl
  rw [e, hi]
  simp only [R.bind_ok, hx, z, List.nil_append]
theorem for_ok {C : Fns} {t : Tg} {it : E} {b : S} {ρ : Env} {μ μ' : Mu} {x : D} {ds : List D} {r : R Fl} (hi : evE C it ρ μ = .ok x μ') (hx : itemsE it x = some ds) (h : forL (fun d ρ μ => (R.of (setTg t d ρ) μ).bind fun ρ μ => evS C b ρ μ) ds ρ μ' = r) : evS C (.for_ t it b) ρ μ = r := by
  rw [vS_for, hi]
  simp only [R.bind_ok, hx, h]
end Ev
end

section
set_option Elab.async false
set_option linter.all false
set_option maxRecDepth 100000
set_option maxHeartbeats 4000000
namespace Ev
open PySem PySem.Spec PyProof.Rows L2
theorem toPys_ints : ∀ xs : List Int, toPys (xs.map .int) = some (xs.map .int)
  | [] => rfl
  | x :: r => by
    show (match toPy (.int x), toPys (r.map .int) with
      | some p, some ps => some (p :: ps)
      | _, _ => none) = _
    rw [toPys_ints r]
    rfl
theorem lay_ints : ∀ xs : List Int, PyData.canLayAll0 (xs.map .int) = true
  | [] => by simp [PyData.canLayAll0]
  | x :: r => by simp [PyData.canLayAll0, PyData.canLay0, lay_ints r]
theorem depth_ints : ∀ xs : List Int, PyData.depthAll (xs.map .int) ≤ 1
  | [] => by simp [PyData.depthAll]
  | x :: r => by
    have := depth_ints r
    simp [PyData.depthAll, PyData.depth]
    omega
theorem eqv_ints : ∀ xs ys : List Int, PyData.eqvAll (xs.map .int) (ys.map .int) = decide (xs = ys)
  | [], [] => by simp [PyData.eqvAll]
  | [], y :: ys => by simp [PyData.eqvAll]
  | x :: xs, [] => by simp [PyData.eqvAll]
  | x :: xs, y :: ys => by
    simp [PyData.eqvAll, PyData.eqv, eqv_ints xs ys]
    by_cases h : x = y <;> simp [h]
theorem shaped_ints (xs : List Int) : SeqAt.shaped (.tuple (xs.map .int)) = true := by
  have := depth_ints xs
  simp [SeqAt.shaped, PyData.canLay0, lay_ints, PyData.depth]
  omega
theorem toPy_ints (xs : List Int) : toPy (.tup (xs.map .int)) = some (.tuple (xs.map .int)) := by
  show (toPys (xs.map .int)).map PyData.tuple = _
  rw [toPys_ints]
  rfl
theorem eqD_ints (xs ys : List Int) : eqD (.tup (xs.map .int)) (.tup (ys.map .int)) = some (decide (xs = ys)) := by
  unfold eqD
  rw [toPy_ints, toPy_ints]
  simp only [shaped_ints, Bool.and_self, if_true]
  show some (PyData.eqvAll _ _) = _
  rw [eqv_ints]
theorem cmpD_eqT (xs ys : List Int) : cmpD .eq (.tup (xs.map .int)) (.tup (ys.map .int)) = some (decide (xs = ys)) := eqD_ints xs ys
theorem cmpD_neT (xs ys : List Int) : cmpD .ne (.tup (xs.map .int)) (.tup (ys.map .int)) = some (!decide (xs = ys)) := by
  show (eqD _ _).map (!·) = _
  rw [eqD_ints]
  rfl
end Ev
end

section
set_option Elab.async false
set_option linter.all false
set_option maxRecDepth 100000
set_option maxHeartbeats 4000000
namespace Ev
open PySem PySem.Spec PyProof.Rows L2
theorem eqD_self {d : D} {p : PyData} (h : toPy d = some p) (hs : SeqAt.shaped p = true) : eqD d d = some true := by
  unfold eqD
  rw [h]
  simp only [hs, Bool.and_self, if_true]
  rw [SeqAt.eqv_refl p (SeqAt.canLay_of_shaped hs)]
theorem neD_self {d : D} {p : PyData} (h : toPy d = some p) (hs : SeqAt.shaped p = true) : cmpD .ne d d = some false := by
  show (eqD d d).map (!·) = _
  rw [eqD_self h hs]
  rfl
theorem toPy_int (i : Int) : toPy (.int i) = some (.int i) := rfl
theorem reprD_int (i : Int) (h : i.natAbs.log2 < 1920) : reprD (.int i) = some (Str.ofString (toString i)) := by
  unfold reprD
  rw [toPy_int]
  have h1 : SeqAt.shaped (.int i) = true := by simp [SeqAt.shaped, PyData.canLay0, PyData.depth]
  have h2 := int_text_fits (a := i) h
  simp only [PyData.showable, h, h1]
  have h3 : (PyData.shown (.int i)) = Str.ofString (toString i) := rfl
  rw [h3]
  generalize Str.ofString (toString i) = z at h2
  simp [h2]
theorem reprD_non : reprD .non = some "None" := by
  unfold reprD
  show (if _ then _ else _) = _
  rw [if_pos (by decide)]
  rfl
theorem eqD_str {a b : Str} (ha : PyData.strOk a = true) (hb : PyData.strOk b = true) : eqD (.str a) (.str b) = some (a == b) := by
  have h : ∀ i : Str, PyData.strOk i = true → SeqAt.shaped (.str i) = true := fun i hi => by simp [SeqAt.shaped, PyData.canLay0, PyData.depth, hi]
  unfold eqD
  show (if _ then _ else _) = _
  rw [h a ha, h b hb]
  simp [PyData.eqv]
theorem strOk_of (s : String) : PyData.strOk (Str.ofString s) = true := by
  rw [Str.ofString_eq_toList]
  simp [PyData.strOk]
  intro c _
  have := c.valid
  rcases this with h | ⟨_, h⟩
  · have h : c.toNat < 55296 := h
    omega
  · exact h
theorem compL_wp {f : D → Mu → R (Option D)} (I : Mu → Prop) (P : D → Prop) : ∀ {ds acc : List D} {μ : Mu}, I μ → (∀ d ∈ ds, ∀ μ, I μ → Wp (f d μ) fun o μ' => I μ' ∧ ∃ y, o = some y ∧ P y) → (∀ d ∈ acc, P d) → acc.length + ds.length ≤ sizeLine →
    Wp (compL f ds acc μ) fun ys μ' => I μ' ∧ ys.length = acc.length + ds.length ∧ ∀ y ∈ ys, P y
  | [], acc, μ, hi, _, ha, _ => ⟨hi, by simp, ha⟩
  | d :: ds, acc, μ, hi, h, ha, hl => by
    obtain ⟨o, μ', e, hi', y, rfl, py⟩ := (h d (by simp) μ hi).get
    simp only [List.length_cons] at hl
    unfold compL
    rw [e]
    dsimp only
    rw [if_pos (by omega)]
    have := compL_wp I P (f := f) (ds := ds) (acc := acc ++ [y]) hi' (fun x hx => h x (by simp [hx])) (fun x hx => by
      rcases List.mem_append.mp hx with q | q
      · exact ha x q
      · rw [List.mem_singleton.mp q]; exact py) (by simp; omega)
    exact this.mono fun ys μ2 ⟨q1, q2, q3⟩ => ⟨q1, by rw [q2]; simp; omega, q3⟩
/-- a comprehension that draws -/
theorem comp_wp {C : Fns} {t : Tg} {it elt : E} {ρ : Env} {μ μ' : Mu} {x : D} {ds : List D} (I : Mu → Prop) (P : D → Prop) (hi : evE C it ρ μ = .ok x μ') (hx : itemsE it x = some ds) (hl : ds.length ≤ sizeLine) (h0 : I μ')
    (h : ∀ d ∈ ds, ∀ μ, I μ → ∃ ρ', setTg t d (wipeE ρ t.slots) = some ρ' ∧ Wp (evE C elt ρ' μ) fun y μ' => I μ' ∧ P y) :
    ∃ ys μ2, evE C (.comp t it elt .nil) ρ μ = .ok (.lst ys) μ2 ∧ I μ2 ∧ ys.length = ds.length ∧ ∀ y ∈ ys, P y := by
  have z := compL_wp (f := fun d μ => match setTg t d (wipeE ρ t.slots) with
    | some ρ' => (evE C elt ρ' μ).bind fun y μ => .ok (some y) μ
    | none => .bad) I P (ds := ds) (acc := []) h0 (fun d hd μ hm => by
      obtain ⟨ρ', e1, e2⟩ := h d hd μ hm
      rw [e1]
      exact e2.bind fun y μ' ⟨q1, q2⟩ => ⟨q1, y, rfl, q2⟩) (by simp) (by simpa using hl)
  have e : evE C (.comp t it elt .nil) ρ μ = (evE C it ρ μ).bind fun x μ => match itemsE it x with
    | some ds => (compL (fun d μ => match setTg t d (wipeE ρ t.slots) with
      | some ρ' => (evE C elt ρ' μ).bind fun y μ => .ok (some y) μ
      | none => .bad) ds [] μ).bind fun ys μ => .ok (.lst ys) μ
    | none => .bad := rfl
  obtain ⟨ys, μ2, e2, q1, q2, q3⟩ := z.get
  refine ⟨ys, μ2, ?_, q1, by simpa using q2, q3⟩
  rw [e, hi]
  simp only [R.bind_ok, hx, e2]
theorem rngK_len (lo : Int) : ∀ k : Nat, (rngL lo (lo + k)).length = k := fun k => by
  unfold rngL
  simp
  omega
theorem allInts {ys : List D} {P : Int → Prop} (h : ∀ y ∈ ys, ∃ i, y = D.int i ∧ P i) : ∃ ws : List Int, ys = ws.map .int ∧ ∀ w ∈ ws, P w := by
  induction ys with
  | nil => exact ⟨[], rfl, fun _ h => nomatch h⟩
  | cons y r ih =>
    obtain ⟨ws, e, hw⟩ := ih fun z hz => h z (by simp [hz])
    obtain ⟨i, rfl, hp⟩ := h y (by simp)
    refine ⟨i :: ws, by rw [e]; rfl, fun w hw' => ?_⟩
    rcases List.mem_cons.mp hw' with rfl | q
    · exact hp
    · exact hw w q
theorem rng1_if {C : Fns} {ρ : Env} {es : E} {many : Int} {μ μ' : Mu} (he : evE C es ρ μ = .ok (.tup [.int many]) μ') : evE C (.rng es) ρ μ = if -(2 ^ 62) ≤ many ∧ many < 2 ^ 62 then .ok (.rng 0 many) μ' else .bad := by
  rw [vE_rng, he]
  rfl
theorem p62a : -(2 ^ 62) ≤ (0 : Int) := by decide
theorem p62b : (1000000000000000000 : Int) < 2 ^ 62 := by decide
/-- range(many) -/
theorem rng1_ok {C : Fns} {ρ : Env} {es : E} {many : Int} {μ μ' : Mu} (he : evE C es ρ μ = .ok (.tup [.int many]) μ') (h1 : 0 ≤ many) (h2 : many < 1000000000000000000) : evE C (.rng es) ρ μ = .ok (.rng 0 many) μ' := by
  rw [rng1_if he]
  exact if_pos ⟨Int.le_trans p62a h1, Int.lt_trans h2 p62b⟩
theorem rng2_if {C : Fns} {ρ : Env} {es : E} {lo many : Int} {μ μ' : Mu} (he : evE C es ρ μ = .ok (.tup [.int lo, .int many]) μ') : evE C (.rng es) ρ μ = if -(2 ^ 62) ≤ lo ∧ lo < 2 ^ 62 ∧ -(2 ^ 62) ≤ many ∧ many < 2 ^ 62 then .ok (.rng lo many) μ' else .bad := by
  rw [vE_rng, he]
  rfl
theorem p62c : -(2 ^ 62) ≤ (-1000000000000000000 : Int) := by decide
/-- range(lo, hi) -/
theorem rng2_ok {C : Fns} {ρ : Env} {es : E} {lo many : Int} {μ μ' : Mu} (he : evE C es ρ μ = .ok (.tup [.int lo, .int many]) μ') (h1 : -1000000000000000000 ≤ lo) (h2 : lo < 1000000000000000000) (h3 : -1000000000000000000 ≤ many) (h4 : many < 1000000000000000000) : evE C (.rng es) ρ μ = .ok (.rng lo many) μ' := by
  rw [rng2_if he]
  exact if_pos ⟨Int.le_trans p62c h1, Int.lt_trans h2 p62b, Int.le_trans p62c h3, Int.lt_trans h4 p62b⟩
theorem biD_tupL (xs : List D) : biD .tuple [.lst xs] = some (.tup xs) := id rfl
theorem biD_tupT (xs : List D) : biD .tuple [.tup xs] = some (.tup xs) := id rfl
theorem biD_listL (xs : List D) : biD .list [.lst xs] = some (.lst xs) := id rfl
theorem biD_listT (xs : List D) : biD .list [.tup xs] = some (.lst xs) := id rfl
end Ev
end

section
set_option Elab.async false
set_option linter.all false
namespace Mt
def vl (P : Nat) (Q : Int) (t : List Int) (x : Int) : Int := t.getD (x % (P : Int)).toNat 0 + x / (P : Int) * Q
def per (v : Int → Int) (p q : Int) : Prop := ∀ x, v (x + p) = v x + q
theorem vl_per {P : Nat} (hP : 0 < P) (Q : Int) (t : List Int) : per (vl P Q t) P Q := fun x => by
  have h : (P : Int) ≠ 0 := by omega
  unfold vl
  rw [Int.add_emod_right, Int.add_ediv_of_dvd_right (Int.dvd_refl _), Int.ediv_self h, Int.add_mul]
  omega
theorem per_nat {v : Int → Int} {p q : Int} (h : per v p q) : ∀ (n : Nat) (x : Int), v (x + n * p) = v x + n * q
  | 0, x => by simp
  | n + 1, x => by
    have e : x + ((n + 1 : Nat) : Int) * p = (x + n * p) + p := by push_cast; rw [Int.add_mul]; omega
    rw [e, h, per_nat h n x]
    push_cast
    rw [Int.add_mul]
    omega
theorem per_int {v : Int → Int} {p q : Int} (h : per v p q) (n x : Int) : v (x + n * p) = v x + n * q := by
  obtain ⟨k, rfl | rfl⟩ := Int.eq_nat_or_neg n
  · exact per_nat h k x
  · have := per_nat h k (x + -(k : Int) * p)
    rw [Int.neg_mul, Int.neg_mul] at *
    have e : x + -((k : Int) * p) + (k : Int) * p = x := by omega
    rw [e] at this
    omega
theorem per_zero (v : Int → Int) : per v 0 0 := fun x => by simp
theorem per_comb {v : Int → Int} {p q p' q' : Int} (h : per v p q) (h' : per v p' q') (a b : Int) : per v (a * p + b * p') (a * q + b * q') := fun x => by
  have e : x + (a * p + b * p') = (x + a * p) + b * p' := by omega
  rw [e, per_int h' b, per_int h a]
  omega
/-- m is a period (or 0) -/
def Per (v : Int → Int) (m : Nat) : Prop := ∃ q, per v m q
theorem Per.mod {v : Int → Int} {m n : Nat} (hm : Per v m) (hn : Per v n) : Per v (n % m) := by
  obtain ⟨q, hq⟩ := hm
  obtain ⟨r, hr⟩ := hn
  refine ⟨1 * r + -((n / m : Nat) : Int) * q, ?_⟩
  have := per_comb hr hq 1 (-((n / m : Nat) : Int))
  have e : ((n % m : Nat) : Int) = 1 * (n : Int) + -((n / m : Nat) : Int) * (m : Int) := by
    have h := Nat.mod_add_div n m
    have h2 : ((n % m : Nat) : Int) + (m : Int) * ((n / m : Nat) : Int) = (n : Int) := by exact_mod_cast h
    rw [Int.neg_mul, Int.mul_comm ((n / m : Nat) : Int)]
    omega
  rw [e]
  exact this
theorem Per.gcd {v : Int → Int} {m n : Nat} (hm : Per v m) (hn : Per v n) : Per v (Nat.gcd m n) := by
  induction m, n using Nat.gcd.induction with
  | H0 n => rw [Nat.gcd_zero_left]; exact hn
  | H1 m n h ih =>
    rw [Nat.gcd_rec]
    exact ih (hm.mod hn) hm
def hpB (P : Nat) (Q : Int) (t : List Int) (s : Nat) : Bool := decide (Q * s % P = 0) && (List.range (P - s)).all fun a => decide (t.getD (a + s) 0 = t.getD a 0 + Q * s / P)
theorem vl_small {P : Nat} {Q : Int} {t : List Int} {r : Nat} (h : r < P) : vl P Q t r = t.getD r 0 := by
  unfold vl
  have h1 : ((r : Int) % (P : Int)) = r := Int.emod_eq_of_lt (by omega) (by omega)
  have h2 : ((r : Int) / (P : Int)) = 0 := Int.ediv_eq_zero_of_lt (by omega) (by omega)
  rw [h1, h2]
  simp
theorem vl_at {P : Nat} {Q : Int} {t : List Int} (r : Nat) (b : Int) (h : r < P) : vl P Q t (r + b * P) = t.getD r 0 + b * Q := by
  rw [per_int (vl_per (by omega) Q t) b r, vl_small h]
theorem split_x {P : Nat} (hP : 0 < P) (x : Int) : ∃ (r : Nat) (b : Int), r < P ∧ x = r + b * P := by
  refine ⟨(x % P).toNat, x / P, ?_, ?_⟩
  · have := Int.emod_nonneg x (show (P : Int) ≠ 0 by omega)
    have := Int.emod_lt_of_pos x (show 0 < (P : Int) by omega)
    omega
  · have := Int.emod_nonneg x (show (P : Int) ≠ 0 by omega)
    have h2 := Int.emod_add_mul_ediv x P
    rw [Int.mul_comm] at h2
    omega
theorem hp_per {P : Nat} {Q : Int} {t : List Int} {s : Nat} (hs : 0 < s) (hd : s ∣ P) (hP : 0 < P) (h : hpB P Q t s = true) : per (vl P Q t) s (Q * s / P) := by
  unfold hpB at h
  simp only [Bool.and_eq_true, decide_eq_true_eq, List.all_eq_true, List.mem_range] at h
  obtain ⟨h1, h2⟩ := h
  obtain ⟨m, hm⟩ := hd
  have hle : s ≤ P := Nat.le_of_dvd hP ⟨m, hm⟩
  have hm0 : 0 < m := by
    rcases Nat.eq_zero_or_pos m with z | z
    · rw [z] at hm; simp at hm; omega
    · exact z
  generalize hq : Q * s / P = q at *
  have hqP : q * P = Q * s := by rw [← hq]; exact Int.ediv_mul_cancel (Int.dvd_of_emod_eq_zero h1)
  have hqm : q * m = Q := by
    have e : q * (m : Int) * s = Q * s := by
      rw [← hqP, Int.mul_assoc, hm]
      push_cast
      rw [Int.mul_comm (m : Int) s]
    exact Int.eq_of_mul_eq_mul_right (show (s : Int) ≠ 0 by omega) e
  have step : ∀ (j : Nat) (r : Nat), r + j * s < P → t.getD (r + j * s) 0 = t.getD r 0 + j * q := fun j => by
    induction j with
    | zero => intro r _; simp
    | succ j ih =>
      intro r hr
      have e : r + (j + 1) * s = (r + j * s) + s := by rw [Nat.add_mul]; omega
      rw [e] at hr ⊢
      rw [h2 (r + j * s) (by omega), ih r (by omega)]
      push_cast
      rw [Int.add_mul]
      omega
  intro x
  obtain ⟨r, b, hr, rfl⟩ := split_x hP x
  rw [vl_at r b hr]
  by_cases hrs : r + s < P
  · have e : (r : Int) + b * P + s = ((r + s : Nat) : Int) + b * P := by push_cast; omega
    rw [e, vl_at _ b hrs, h2 r (by omega)]
    omega
  · have hr' : r + s - P < s := by omega
    have e : (r : Int) + b * P + s = ((r + s - P : Nat) : Int) + (b + 1) * P := by
      rw [Int.add_mul]
      omega
    rw [e, vl_at _ (b + 1) (by omega)]
    have hms : (m - 1) * s + s = P := by
      have : (m - 1) * s + s = m * s := by
        rw [← Nat.succ_mul]
        congr 1
        omega
      rw [this, Nat.mul_comm, hm]
    have st := step (m - 1) (r + s - P) (by omega)
    have er : r + s - P + (m - 1) * s = r := by omega
    rw [er] at st
    have e2 : ((m - 1 : Nat) : Int) * q + q = Q := by
      rw [← hqm]
      have : ((m - 1 : Nat) : Int) = (m : Int) - 1 := by omega
      rw [this, Int.sub_mul, Int.mul_comm q]
      omega
    rw [st, Int.add_mul]
    omega
theorem per_hp {P : Nat} {Q : Int} {t : List Int} {s : Nat} {q : Int} (hs : 0 < s) (hd : s ∣ P) (hP : 0 < P) (h : per (vl P Q t) s q) : hpB P Q t s = true ∧ q = Q * s / P := by
  obtain ⟨m, hm⟩ := hd
  have hle : s ≤ P := Nat.le_of_dvd hP ⟨m, hm⟩
  have e1 : q * m = Q := by
    have a1 := per_nat h m 0
    have a2 := vl_per hP Q t 0
    have e : (0 : Int) + (m : Int) * s = 0 + P := by rw [hm]; push_cast; rw [Int.mul_comm]
    rw [e] at a1
    rw [Int.mul_comm]
    omega
  have e2 : Q * s = q * P := by
    rw [← e1, hm]
    push_cast
    rw [Int.mul_assoc, Int.mul_comm (m : Int)]
  have hP0 : (P : Int) ≠ 0 := by omega
  have e3 : Q * s / P = q := by rw [e2]; exact Int.mul_ediv_cancel _ hP0
  refine ⟨?_, e3.symm⟩
  unfold hpB
  simp only [Bool.and_eq_true, decide_eq_true_eq, List.all_eq_true, List.mem_range]
  refine ⟨by rw [e2]; exact Int.mul_emod_left _ _, fun a ha => ?_⟩
  have := h a
  rw [vl_small (by omega)] at this
  have e : (a : Int) + s = ((a + s : Nat) : Int) := by push_cast; rfl
  rw [e, vl_small (by omega)] at this
  rw [this, e3]
def nrmF (P : Nat) (Q : Int) (t : List Int) : List Nat → Nat × Int × List Int
  | [] => (P, Q, t)
  | s :: r => if decide (P % s = 0) && hpB P Q t s then (s, Q * s / P, t.take s) else nrmF P Q t r
def nrm (P : Nat) (Q : Int) (t : List Int) : Nat × Int × List Int := nrmF P Q t (List.range' 1 (P - 1))
structure Nr (P : Nat) (Q : Int) (t : List Int) (m : Nat × Int × List Int) : Prop where
  pos : 0 < m.1
  dvd : m.1 ∣ P
  per : per (vl P Q t) m.1 m.2.1
  len : m.2.2.length = m.1
  at' : ∀ i, i < m.1 → m.2.2.getD i 0 = vl P Q t i
  least : ∀ s, 0 < s → s < m.1 → s ∣ P → ¬ Per (vl P Q t) s
theorem nrmF_spec {P : Nat} {Q : Int} {t : List Int} (hP : 0 < P) (hl : t.length = P) : ∀ (k a : Nat), 0 < a → a + k = P → (∀ s, 0 < s → s < a → s ∣ P → ¬ Per (vl P Q t) s) → Nr P Q t (nrmF P Q t (List.range' a k))
  | 0, a, ha, hk, h => by
    refine ⟨hP, Nat.dvd_refl _, vl_per hP Q t, hl, fun i hi => (vl_small hi).symm, fun s h0 h1 h2 => h s h0 (by show s < a; have : s < P := h1; omega) h2⟩
  | k + 1, a, ha, hk, h => by
    rw [List.range'_succ]
    unfold nrmF
    by_cases hc : (decide (P % a = 0) && hpB P Q t a) = true
    · rw [if_pos hc]
      simp only [Bool.and_eq_true, decide_eq_true_eq] at hc
      have hd : a ∣ P := Nat.dvd_of_mod_eq_zero hc.1
      have hle := Nat.le_of_dvd hP hd
      refine ⟨ha, hd, hp_per ha hd hP hc.2, by simp; omega, fun i hi => ?_, h⟩
      have hi : i < a := hi
      rw [vl_small (by omega)]
      show (t.take a).getD i 0 = _
      simp only [List.getD_eq_getElem?_getD, List.getElem?_take, if_pos hi]
    · rw [if_neg hc]
      refine nrmF_spec hP hl k (a + 1) (by omega) (by omega) fun s h0 h1 h2 hp => ?_
      by_cases e : s = a
      · subst e
        obtain ⟨q, hq⟩ := hp
        apply hc
        rw [(per_hp h0 h2 hP hq).1]
        simp [Nat.mod_eq_zero_of_dvd h2]
      · exact h s h0 (by omega) h2 hp
theorem nrm_spec {P : Nat} {Q : Int} {t : List Int} (hP : 0 < P) (hl : t.length = P) : Nr P Q t (nrm P Q t) :=
  nrmF_spec hP hl (P - 1) 1 (by omega) (by omega) fun s h0 h1 => by omega
theorem list_eq_of_getD {a b : List Int} (hl : a.length = b.length) (h : ∀ i, i < a.length → a.getD i 0 = b.getD i 0) : a = b := by
  apply List.ext_getElem hl
  intro i h1 h2
  have := h i h1
  rw [List.getD_eq_getElem?_getD, List.getD_eq_getElem?_getD, List.getElem?_eq_getElem h1, List.getElem?_eq_getElem h2] at this
  simpa using this
/-- the normal form hangs on the values alone -/
theorem Nr.uniq {P P' : Nat} {Q Q' : Int} {t t' : List Int} {m m' : Nat × Int × List Int} (n : Nr P Q t m) (n' : Nr P' Q' t' m') (h : ∀ x, vl P Q t x = vl P' Q' t' x) : m = m' := by
  have hv : vl P Q t = vl P' Q' t' := funext h
  have g1 : Per (vl P Q t) m.1 := ⟨_, n.per⟩
  have g2 : Per (vl P Q t) m'.1 := by rw [hv]; exact ⟨_, n'.per⟩
  have g := g1.gcd g2
  have gpos : 0 < Nat.gcd m.1 m'.1 := Nat.gcd_pos_of_pos_left _ n.pos
  have gl : Nat.gcd m.1 m'.1 ∣ m.1 := Nat.gcd_dvd_left _ _
  have gr : Nat.gcd m.1 m'.1 ∣ m'.1 := Nat.gcd_dvd_right _ _
  have e1 : Nat.gcd m.1 m'.1 = m.1 := by
    rcases Nat.lt_or_eq_of_le (Nat.le_of_dvd n.pos gl) with q | q
    · exact absurd g (n.least _ gpos q (Nat.dvd_trans gl n.dvd))
    · exact q
  have e2 : Nat.gcd m.1 m'.1 = m'.1 := by
    rcases Nat.lt_or_eq_of_le (Nat.le_of_dvd n'.pos gr) with q | q
    · rw [hv] at g
      exact absurd g (n'.least _ gpos q (Nat.dvd_trans gr n'.dvd))
    · exact q
  have e : m.1 = m'.1 := e1.symm.trans e2
  have eq : m.2.1 = m'.2.1 := by
    have a := n.per 0
    have b := n'.per 0
    rw [hv, e] at a
    omega
  have et : m.2.2 = m'.2.2 := list_eq_of_getD (by rw [n.len, n'.len, e]) fun i hi => by
    rw [n.len] at hi
    rw [n.at' i hi, n'.at' i (by omega), h]
  exact Prod.ext e (Prod.ext eq et)
theorem nrm_eq {P P' : Nat} {Q Q' : Int} {t t' : List Int} (hP : 0 < P) (hl : t.length = P) (hP' : 0 < P') (hl' : t'.length = P') (h : ∀ x, vl P Q t x = vl P' Q' t' x) : nrm P Q t = nrm P' Q' t' := (nrm_spec hP hl).uniq (nrm_spec hP' hl') h
theorem Nr.vl {P : Nat} {Q : Int} {t : List Int} {m : Nat × Int × List Int} (n : Nr P Q t m) (x : Int) : Mt.vl m.1 m.2.1 m.2.2 x = Mt.vl P Q t x := by
  obtain ⟨r, b, hr, rfl⟩ := split_x n.pos x
  rw [vl_at r b hr, n.at' r hr, per_int n.per b]
/-- a table of a function -/
def tab (f : Int → Int) (n : Nat) : List Int := (List.range n).map fun i => f (i : Nat)
theorem tab_len (f : Int → Int) (n : Nat) : (tab f n).length = n := by simp [tab]
theorem tab_get (f : Int → Int) {n i : Nat} (h : i < n) : (tab f n).getD i 0 = f i := by
  simp [tab, List.getD_eq_getElem?_getD, h]
theorem vl_tab {f : Int → Int} {n : Nat} {q : Int} (hn : 0 < n) (h : per f n q) (x : Int) : vl n q (tab f n) x = f x := by
  obtain ⟨r, b, hr, rfl⟩ := split_x hn x
  rw [vl_at r b hr, tab_get f hr, per_int h b]
end Mt
end

section
set_option Elab.async false
set_option linter.all false
set_option maxRecDepth 100000
set_option maxHeartbeats 4000000
namespace Pg
open PySem PySem.Spec PyProof.Rows L2 Ev
theorem call_ge {con : Nat → D} {tab : Nat → Option FnDef} {cats : Nat → Option CatDef} {n f : Nat} {d : FnDef} {xs : List D} {μ : Mu} (hn : 1 ≤ n) (h : tab f = some d) (hl : xs.length = d.np) : (fnsAt con tab cats n).call f xs μ = fnR (evS (fnsAt con tab cats (n - 1)) d.body (startE d xs) μ) := by
  obtain ⟨m, rfl⟩ : ∃ m, n = m + 1 := ⟨n - 1, by omega⟩
  exact call_at h hl
def inD (a b : Int) : D → Bool
  | .int i => decide (a ≤ i) && decide (i ≤ b)
  | _ => false
def geD (a : Int) : D → Bool
  | .int i => decide (a ≤ i)
  | _ => false
/-- okD all through one layer -/
def okT (x : D) : Bool := match x with
  | .tup ds => ds.all okD && decide (ds.length ≤ 10000)
  | x => okD x
theorem okT_D {x : D} (h : okT x = true) : okD x = true := by cases x <;> first | rfl | exact h
/-- .. two layers -/
def okM (x : D) : Bool := match x with
  | .tup ds => ds.all okT && decide (ds.length ≤ 10000)
  | x => okD x
theorem okM_D {x : D} (h : okM x = true) : okD x = true := by cases x <;> first | rfl | exact h
def isIntsD (x : D) : Bool := match x with
  | .tup ds => ds.all isIntD
  | _ => false
section
variable {C : Fns} {μ : Mu}
def HInt (C : Fns) (f : Nat) : Prop := ∀ x μ, okD x = true → C.call f [x] μ = .ok (.bl (isIntD x)) μ
def HIn (C : Fns) (f : Nat) : Prop := ∀ x a b μ, okD x = true → C.call f [x, .int a, .int b] μ = .ok (.bl (inD a b x)) μ
def HInts (C : Fns) (f : Nat) : Prop := ∀ x μ, okT x = true → C.call f [x] μ = .ok (.bl (isIntsD x)) μ
def isIntS : S := (.seq (.ret (.and (.isi (.var 0) .int) (.and1 (.not (.isi (.var 0) .bool))))) .skip)
theorem isInt_run (x : D) (h : okD x = true) : fnR (evS C isIntS [.sh x] μ) = .ok (.bl (isIntD x)) μ := by
  cases x <;> first | rfl | cases h
def withinS (f : Nat) : S := (.seq (.ret (.and (.call f (.cons (.var 0) .nil)) (.and1 (.chn .le .le (.var 1) (.var 0) (.var 2))))) .skip)
theorem within_run {f : Nat} (hf : HInt C f) (x : D) (a b : Int) (h : okD x = true) : fnR (evS C (withinS f) [.sh x, .sh (.int a), .sh (.int b)] μ) = .ok (.bl (inD a b x)) μ := by
  simp [withinS, hf x μ h]
  cases x <;> simp [isIntD, cmpD_le, inD]
  rename_i i
  by_cases q : a ≤ i <;> simp [q]
def isIntsS (f : Nat) : S := (.seq (.ret (.and (.isi (.var 0) .tuple) (.and1 (.bi .all (.cons (.comp (.name 1) (.var 0) (.call f (.cons (.var 1) .nil)) .nil) .nil))))) .skip)
theorem isInts_run {f : Nat} (hf : HInt C f) (x : D) (h : okT x = true) : fnR (evS C (isIntsS f) [.sh x, .un] μ) = .ok (.bl (isIntsD x)) μ := by
  cases x <;> first | rfl | cases h | skip
  rename_i xs
  simp only [okT, Bool.and_eq_true, List.all_eq_true, decide_eq_true_eq] at h
  have e : evE C (.comp (.name 1) (.var 0) (.call f (.cons (.var 1) .nil)) .nil) [.sh (.tup xs), .un] μ = .ok (.lst (xs.map fun d => .bl (isIntD d))) μ :=
    comp_map rfl rfl (by have := h.2; simp [sizeLine]; omega) fun d hd => ⟨[.sh (.tup xs), .sh d], rfl, by simp [hf d μ (h.1 d hd)]⟩
  simp [isIntsS, isTy, e, biD_all, isIntsD]
/-- if not f(x): raise e -/
def ckS (f e : Nat) : S := (.seq (.cond (.not (.call f (.cons (.var 0) .nil))) (.seq (.rse e .nil) .skip) .skip) .skip)
theorem ck_run {f e : Nat} {x : D} {k : Bool} (hf : C.call f [x] μ = .ok (.bl k) μ) : fnR (evS C (ckS f e) [.sh x] μ) = if k = true then .ok .non μ else .ex ⟨e, none⟩ μ := by
  cases k <;> simp [ckS, hf]
def ckInS (f e : Nat) : S := (.seq (.cond (.not (.call f (.cons (.var 0) (.cons (.var 1) (.cons (.var 2) .nil))))) (.seq (.rse e .nil) .skip) .skip) .skip)
theorem ckIn_run {f e : Nat} (hf : HIn C f) {x : D} (h : okD x = true) (a b : Int) : fnR (evS C (ckInS f e) [.sh x, .sh (.int a), .sh (.int b)] μ) = if inD a b x = true then .ok .non μ else .ex ⟨e, none⟩ μ := by
  cases q : inD a b x <;> simp [ckInS, hf x a b μ h, q]
def divS : S := (.seq (.whl (.cmp .ne (.var 1) (.int 0)) (.seq (.par [0, 1] (.cons (.var 1) (.cons (.bin .mod (.var 0) (.var 1)) .nil))) .skip)) (.seq (.ret (.bi .abs (.cons (.var 0) .nil))) .skip))
theorem div_loop : ∀ (b a m : Nat), b < m → whlL (evE C (.cmp .ne (.var 1) (.int 0))) (evS C (.seq (.par [0, 1] (.cons (.var 1) (.cons (.bin .mod (.var 0) (.var 1)) .nil))) .skip)) m [.sh (.int (a : Int)), .sh (.int (b : Int))] μ = .ok (.nx [.sh (.int (Nat.gcd a b : Nat)), .sh (.int 0)]) μ := by
  intro b
  induction b using Nat.strongRecOn with
  | _ b ih =>
    intro a m hm
    match m, hm with
    | m + 1, hm =>
      unfold whlL
      by_cases hb : b = 0
      · subst hb
        have e : evE C (.cmp .ne (.var 1) (.int 0)) [.sh (.int (a : Int)), .sh (.int ((0 : Nat) : Int))] μ = .ok (.bl false) μ := by simp [cmpD_neI]
        rw [e]
        simp
      · have e : evE C (.cmp .ne (.var 1) (.int 0)) [.sh (.int (a : Int)), .sh (.int (b : Int))] μ = .ok (.bl true) μ := by simp [cmpD_neI]; omega
        rw [e]
        have e2 : evS C (.seq (.par [0, 1] (.cons (.var 1) (.cons (.bin .mod (.var 0) (.var 1)) .nil))) .skip) [.sh (.int (a : Int)), .sh (.int (b : Int))] μ = .ok (.nx [.sh (.int (b : Int)), .sh (.int ((a % b : Nat) : Int))]) μ := by
          simp [binD_mod (a : Int) b (by omega), setPar]
        dsimp only
        rw [e2]
        dsimp only
        have hl : a % b < b := Nat.mod_lt _ (by omega)
        rw [ih (a % b) hl b m (by omega)]
        have : Nat.gcd b (a % b) = Nat.gcd a b := by rw [Nat.gcd_comm a b, Nat.gcd_rec b a, Nat.gcd_comm]
        rw [this]
theorem whileMost_eq : whileMost = 1000000000000 := rfl
theorem div_run (a b : Nat) (hb : b < 1000000000000) : fnR (evS C divS [.sh (.int a), .sh (.int b)] μ) = .ok (.int (Nat.gcd a b : Nat)) μ := by
  have e := div_loop (C := C) (μ := μ) b a whileMost (by rw [whileMost_eq]; exact hb)
  have e' : evS C (.whl (.cmp .ne (.var 1) (.int 0)) (.seq (.par [0, 1] (.cons (.var 1) (.cons (.bin .mod (.var 0) (.var 1)) .nil))) .skip)) [.sh (.int (a : Int)), .sh (.int (b : Int))] μ = _ := e
  have ab : biD .abs [.int ((Nat.gcd a b : Nat) : Int)] = some (.int ((Nat.gcd a b : Nat) : Int)) := by
    show some (D.int (if ((Nat.gcd a b : Nat) : Int) < 0 then _ else _)) = _
    rw [if_neg (by omega)]
  simp [divS, e', ab]
/-- .. of any number and one above 0 -/
theorem div_runI (a : Int) (b : Nat) (hb0 : 0 < b) (hb : b < 1000000000000) : fnR (evS C divS [.sh (.int a), .sh (.int b)] μ) = .ok (.int (Nat.gcd a.natAbs b : Nat)) μ := by
  obtain ⟨r, hr⟩ : ∃ r : Nat, (r : Int) = a % (b : Int) := ⟨(a % (b : Int)).toNat, by have := Int.emod_nonneg a (show (b : Int) ≠ 0 by omega); omega⟩
  have hrb : r < b := by have := Int.emod_lt_of_pos a (show 0 < (b : Int) by omega); omega
  have e := div_loop (C := C) (μ := μ) r b (whileMost - 1) (by rw [whileMost_eq]; omega)
  have hg : Nat.gcd b r = Nat.gcd a.natAbs b := by
    have h1 : Int.gcd (b : Int) (a % (b : Int)) = Int.gcd a b := by
      rw [Int.gcd_comm a b]
      rw [Int.emod_def, Int.gcd_sub_mul_left_right]
    rw [← hr] at h1
    have h2 : Int.gcd (b : Int) (r : Int) = Nat.gcd b r := rfl
    have h3 : Int.gcd a (b : Int) = Nat.gcd a.natAbs b := rfl
    rw [← h2, ← h3, h1]
  have e' : evS C (.whl (.cmp .ne (.var 1) (.int 0)) (.seq (.par [0, 1] (.cons (.var 1) (.cons (.bin .mod (.var 0) (.var 1)) .nil))) .skip)) [.sh (.int a), .sh (.int (b : Int))] μ = .ok (.nx [.sh (.int (Nat.gcd a.natAbs b : Nat)), .sh (.int 0)]) μ := by
    show whlL _ _ whileMost _ _ = _
    have hw : whileMost = (whileMost - 1) + 1 := rfl
    rw [hw]
    unfold whlL
    have e1 : evE C (.cmp .ne (.var 1) (.int 0)) [.sh (.int a), .sh (.int (b : Int))] μ = .ok (.bl true) μ := by simp [cmpD_neI]; omega
    rw [e1]
    have e2 : evS C (.seq (.par [0, 1] (.cons (.var 1) (.cons (.bin .mod (.var 0) (.var 1)) .nil))) .skip) [.sh (.int a), .sh (.int (b : Int))] μ = .ok (.nx [.sh (.int (b : Int)), .sh (.int (r : Int))]) μ := by
      simp [binD_mod a b (by omega), setPar, hr]
    dsimp only
    rw [e2]
    dsimp only
    rw [e, hg]
  have ab : biD .abs [.int ((Nat.gcd a.natAbs b : Nat) : Int)] = some (.int ((Nat.gcd a.natAbs b : Nat) : Int)) := by
    show some (D.int (if ((Nat.gcd a.natAbs b : Nat) : Int) < 0 then _ else _)) = _
    rw [if_neg (by omega)]
  simp [divS, e', ab]
def HDiv (C : Fns) (f : Nat) : Prop := ∀ (a b : Nat) μ, b < 1000000000000 → C.call f [.int a, .int b] μ = .ok (.int (Nat.gcd a b : Nat)) μ
def HDivI (C : Fns) (f : Nat) : Prop := ∀ (a : Int) (b : Nat) μ, 0 < b → b < 1000000000000 → C.call f [.int a, .int b] μ = .ok (.int (Nat.gcd a.natAbs b : Nat)) μ
def mulS (f : Nat) : S := (.seq (.ret (.bin .mul (.bin .fdiv (.var 0) (.call f (.cons (.var 0) (.cons (.var 1) .nil)))) (.var 1))) .skip)
theorem mul_run {f : Nat} (hf : HDiv C f) (a b : Nat) (ha : 0 < a) (ha2 : a < 1000000000) (hb : b < 1000000000) : fnR (evS C (mulS f) [.sh (.int a), .sh (.int b)] μ) = .ok (.int (Nat.lcm a b : Nat)) μ := by
  have g0 : 0 < Nat.gcd a b := Nat.gcd_pos_of_pos_left _ ha
  have g1 : Nat.gcd a b ≤ a := Nat.gcd_le_left _ ha
  have fd := binD_fdiv (a : Int) (Nat.gcd a b : Nat) (by omega) (log2_small _ (by omega) (Int.lt_trans (show ((Nat.gcd a b : Nat) : Int) < 1000000000 by omega) (by decide)))
  have ml := mulOk_r (i := (a : Int) / (Nat.gcd a b : Nat)) (j := (b : Int)) (by omega)
  have : Nat.lcm a b = a / Nat.gcd a b * b := by
    unfold Nat.lcm
    rw [Nat.mul_comm, Nat.mul_div_assoc _ (Nat.gcd_dvd_left a b), Nat.mul_comm]
  simp [mulS, hf a b μ (by omega), fd, binD_mul _ _ ml]
  rw [this]
  push_cast
  rfl
def fracS (f : Nat) : S := (.seq (.asg false (.name 2) (.call f (.cons (.var 0) (.cons (.var 1) .nil)))) (.seq (.ret (.tup (.cons (.bin .fdiv (.var 0) (.var 2)) (.cons (.bin .fdiv (.var 1) (.var 2)) .nil)))) .skip))
theorem frac_run {f : Nat} (hf : HDivI C f) (a : Int) (b : Nat) (hb0 : 0 < b) (hb : b < 1000000000) : fnR (evS C (fracS f) [.sh (.int a), .sh (.int b), .un] μ) = .ok (.tup [.int (a / (Nat.gcd a.natAbs b : Nat)), .int ((b : Int) / (Nat.gcd a.natAbs b : Nat))]) μ := by
  have g0 : 0 < Nat.gcd a.natAbs b := Nat.gcd_pos_of_pos_right _ hb0
  have g1 : Nat.gcd a.natAbs b ≤ b := Nat.gcd_le_right _ hb0
  have fd := fun z => binD_fdiv z (Nat.gcd a.natAbs b : Nat) (by omega) (log2_small _ (by omega) (Int.lt_trans (show ((Nat.gcd a.natAbs b : Nat) : Int) < 1000000000 by omega) (by decide)))
  simp [fracS, hf a b μ hb0 (by omega), newSlot, fd]
end
end Pg
end

section
set_option Elab.async false
set_option linter.all false
set_option maxRecDepth 100000
set_option maxHeartbeats 4000000
namespace Pg
open PySem PySem.Spec PyProof.Rows L2 Ev Mt
def mD (P : Nat) (Q : Int) (t : List Int) : D := .tup [.int P, .int Q, .tup (t.map .int)]
def leZ : D → Bool
  | .tup [.int a, .int b] => decide (a ≤ b)
  | _ => false
def adj (t : List Int) : Bool := (zip2 (t.map .int) ((t.drop 1).map .int)).all leZ
def lastZ (t : List Int) : Int := t.getLastD 0
def headZ (t : List Int) : Int := t.headD 0
def tabOk (Q : Int) (t : List Int) : Bool := decide (lastZ t ≤ headZ t + Q) && adj t
theorem intsOf_map : ∀ us : List Int, intsOf (us.map .int) = us
  | [] => rfl
  | u :: r => by
    show u :: intsOf (r.map .int) = _
    rw [intsOf_map r]
def isMapD (x : D) : Bool := match x with
  | .tup [.int P, .int Q, .tup ts] => (decide (1 ≤ P) && decide (P ≤ 2000)) && (decide (0 ≤ Q) && (ts.all isIntD && (decide ((ts.length : Int) = P) && tabOk Q (intsOf ts))))
  | _ => false
theorem zip2_memI : ∀ (xs ys : List Int), ∀ d ∈ zip2 (xs.map D.int) (ys.map D.int), ∃ x y, d = .tup [.int x, .int y]
  | [], ys, d, h => by simp [zip2] at h
  | x :: xs, [], d, h => by simp [zip2] at h
  | x :: xs, y :: ys, d, h => by
    rcases List.mem_cons.mp (show d ∈ D.tup [.int x, .int y] :: zip2 (xs.map D.int) (ys.map D.int) from h) with rfl | h
    · exact ⟨x, y, rfl⟩
    · exact zip2_memI xs ys d h
theorem zip2_lenI : ∀ (xs ys : List D), (zip2 xs ys).length ≤ xs.length
  | [], ys => by simp [zip2]
  | x :: xs, [] => by simp [zip2]
  | x :: xs, y :: ys => by
    show (_ :: zip2 xs ys).length ≤ _
    have := zip2_lenI xs ys
    simp
    omega
theorem ixT_last (t : List Int) (h : t ≠ []) : ixD (.tup (t.map .int)) (.int (-1)) = some (.int (lastZ t)) := by
  unfold lastZ
  obtain ⟨is, l, rfl⟩ : ∃ is l, t = is ++ [l] := ⟨t.dropLast, t.getLast h, (List.dropLast_concat_getLast h).symm⟩
  show atI _ _ = _
  unfold atI ixN
  have e : (-1 + ((is.length : Int) + 1)).toNat = is.length := by omega
  simp [show (1 : Int) ≤ (is.length : Int) + 1 by omega, e]
theorem ixT_nat (t : List Int) (i : Nat) (h : i < t.length) : ixD (.tup (t.map .int)) (.int i) = some (.int (t.getD i 0)) := by
  show atI _ _ = _
  unfold atI ixN
  simp [h]
theorem ixT_at (t : List Int) (x : Int) (h0 : 0 ≤ x) (h : x < t.length) : ixD (.tup (t.map .int)) (.int x) = some (.int (t.getD x.toNat 0)) := by
  obtain ⟨i, rfl⟩ : ∃ i : Nat, x = (i : Int) := ⟨x.toNat, by omega⟩
  exact ixT_nat t i (by omega)
theorem ix3_0 (a b c : D) : ixD (.tup [a, b, c]) (.int 0) = some a := rfl
theorem ix3_1 (a b c : D) : ixD (.tup [a, b, c]) (.int 1) = some b := rfl
theorem ix3_2 (a b c : D) : ixD (.tup [a, b, c]) (.int 2) = some c := rfl
section
variable {C : Fns} {μ : Mu}
def isMapS (f0 f1 f2 c : Nat) : S := (.seq (.cond (.or (.not (.isi (.var 0) .tuple)) (.or (.cmp .ne (.bi .len (.cons (.var 0) .nil)) (.int 3)) (.or1 (.not (.call f1 (.cons (.idx (.var 0) (.int 0)) (.cons (.int 1) (.cons (.gc c) .nil)))))))) (.seq (.ret (.bl false)) .skip) .skip) (.seq (.asg false (.tup (.cons (.name 1) (.cons (.name 2) (.cons (.name 3) .nil)))) (.var 0)) (.seq (.cond (.or (.not (.call f0 (.cons (.var 2) .nil))) (.or (.cmp .lt (.var 2) (.int 0)) (.or (.not (.call f2 (.cons (.var 3) .nil))) (.or1 (.cmp .ne (.bi .len (.cons (.var 3) .nil)) (.var 1)))))) (.seq (.ret (.bl false)) .skip) .skip) (.seq (.ret (.and (.cmp .le (.idx (.var 3) (.neg (.int 1))) (.bin .add (.idx (.var 3) (.int 0)) (.var 2))) (.and1 (.bi .all (.cons (.comp (.tup (.cons (.name 4) (.cons (.name 5) .nil))) (.zip (.cons (.var 3) (.cons (.sl (.var 3) (.int 1) .nil) .nil))) (.cmp .le (.var 4) (.var 5)) .nil) .nil))))) .skip))))
theorem comp_adj (x a b : D) (t : List Int) (hl : t.length ≤ 10000) : evE C (.comp (.tup (.cons (.name 4) (.cons (.name 5) .nil))) (.zip (.cons (.var 3) (.cons (.sl (.var 3) (.int 1) .nil) .nil))) (.cmp .le (.var 4) (.var 5)) .nil) [.sh x, .sh a, .sh b, .sh (.tup (t.map .int)), .un, .un] μ = .ok (.lst ((zip2 (t.map .int) ((t.drop 1).map .int)).map fun d => .bl (leZ d))) μ := by
  have e1 : slD (.tup (t.map D.int)) (some 1) none = some (.tup ((t.drop 1).map .int)) := by
    rw [List.map_drop]
    exact slD_from _ 1
  exact comp_map (x := .lst (zip2 (t.map .int) ((t.drop 1).map .int))) (by simp only [vE_zip, vE_cons, vE_nil, vE_var, vE_sl, vE_int, List.getElem?_cons_succ, List.getElem?_cons_zero, R.bind_ok, partE, R.of_some, e1]) rfl (by have := zip2_lenI (t.map D.int) ((t.drop 1).map D.int); simp [sizeLine] at *; omega) fun d hd => by
    obtain ⟨u, v, rfl⟩ := zip2_memI _ _ d hd
    refine ⟨[.sh x, .sh a, .sh b, .sh (.tup (t.map .int)), .sh (.int u), .sh (.int v)], rfl, ?_⟩
    simp [cmpD_le, leZ]
theorem isMap_run {f0 f1 f2 c : Nat} (h0 : HInt C f0) (h1 : HIn C f1) (h2 : HInts C f2) (hc : C.con c = .int 2000) (x : D) (h : okM x = true) : fnR (evS C (isMapS f0 f1 f2 c) [.sh x, .un, .un, .un, .un, .un] μ) = .ok (.bl (isMapD x)) μ := by
  cases x with
  | tup ds =>
    simp only [okM, Bool.and_eq_true, List.all_eq_true, decide_eq_true_eq] at h
    obtain ⟨hm, hl⟩ := h
    match ds, hm, hl with
    | [], _, _ => simp [isMapS, isTy, biD_lenT, cmpD_neI, isMapD]
    | [a], _, _ => simp [isMapS, isTy, biD_lenT, cmpD_neI, isMapD]
    | [a, b], _, _ => simp [isMapS, isTy, biD_lenT, cmpD_neI, isMapD]
    | a :: b :: c' :: d :: r, _, _ =>
      have e : ¬ ((r.length : Int) + 1 + 1 + 1 + 1 = 3) := by omega
      simp [isMapS, isTy, biD_lenT, cmpD_neI, isMapD, e]
    | [a, b, t], hm, hl3 =>
      have ka := okT_D (hm a (by simp))
      have kb := okT_D (hm b (by simp))
      have kt := hm t (by simp)
      cases q1 : inD 1 2000 a with
      | false =>
        have : isMapD (.tup [a, b, t]) = false := by
          cases a <;> first | rfl | skip
          cases b <;> first | rfl | skip
          cases t <;> first | rfl | skip
          simp only [inD] at q1
          simp only [isMapD, q1, Bool.false_and]
        simp [isMapS, isTy, biD_lenT, cmpD_neI, ixM_tup, ix3_0, hc, h1 a 1 2000 μ ka, q1, this]
      | true =>
        cases a <;> first | cases q1 | skip
        rename_i P
        have q1' : (decide (1 ≤ P) && decide (P ≤ 2000)) = true := q1
        have q1p : 1 ≤ P ∧ P ≤ 2000 := by simpa using q1'
        have hrb : ∀ b, isIntD b = false → isMapD (.tup [.int P, b, t]) = false := fun b hb => by cases b <;> first | rfl | cases hb
        cases b with
        | int Q =>
          by_cases q2 : Q < 0
          · have : isMapD (.tup [.int P, .int Q, t]) = false := by
              cases t <;> first | rfl | skip
              simp [isMapD, Int.not_le.mpr q2]
            simp [isMapS, isTy, biD_lenT, cmpD_neI, ixM_tup, ix3_0, hc, h1 _ 1 2000 μ ka, q1, this, setTg, h0 _ μ kb, isIntD, cmpD_lt, q2]
          · cases q3 : isIntsD t with
            | false =>
              have : isMapD (.tup [.int P, .int Q, t]) = false := by
                cases t <;> first | rfl | skip
                have q3' : (List.all _ isIntD) = false := q3
                simp [isMapD, q3']
              simp [isMapS, isTy, biD_lenT, cmpD_neI, ixM_tup, ix3_0, hc, h1 _ 1 2000 μ ka, q1, this, setTg, h0 _ μ kb, isIntD, cmpD_lt, q2, h2 t μ kt, q3]
            | true =>
              cases t <;> first | cases q3 | skip
              rename_i ts
              have q3' : ts.all isIntD = true := q3
              obtain ⟨us, rfl⟩ : ∃ us : List Int, ts = us.map .int := ⟨_, ints_all q3'⟩
              have eu : intsOf (us.map .int) = us := intsOf_map us
              have hlu : us.length ≤ 10000 := by
                simp only [okT, Bool.and_eq_true, decide_eq_true_eq] at kt
                simpa using kt.2
              by_cases q4 : (us.length : Int) = P
              · have hne : us ≠ [] := fun z => by rw [z] at q4; simp at q4; omega
                have e0 : ixD (.tup (us.map .int)) (.int 0) = some (.int (headZ us)) := by
                  unfold headZ
                  cases us with
                  | nil => exact absurd rfl hne
                  | cons u r => show atI _ _ = _; unfold atI ixN; simp
                have ca := comp_adj (C := C) (μ := μ) (.tup [.int P, .int Q, .tup (us.map .int)]) (.int P) (.int Q) us hlu
                have hr : isMapD (.tup [.int P, .int Q, .tup (us.map .int)]) = tabOk Q us := by
                  have e : (decide (1 ≤ P) && decide (P ≤ 2000)) = true := q1'
                  simp only [isMapD, e, q3', eu, List.length_map, q4, decide_true, Bool.true_and, Int.not_lt.mp q2]
                by_cases q5 : lastZ us ≤ headZ us + Q
                · simp [isMapS, isTy, biD_lenT, cmpD_neI, ixM_tup, ix3_0, hc, h1 _ 1 2000 μ ka, q1, hr, setTg, h0 _ μ kb, isIntD, cmpD_lt, q2, h2 _ μ kt, q3, q4, negD, ixT_last us hne, e0, binD_add, cmpD_le, q5, ca, biD_all, tabOk, adj]
                · simp [isMapS, isTy, biD_lenT, cmpD_neI, ixM_tup, ix3_0, hc, h1 _ 1 2000 μ ka, q1, hr, setTg, h0 _ μ kb, isIntD, cmpD_lt, q2, h2 _ μ kt, q3, q4, negD, ixT_last us hne, e0, binD_add, cmpD_le, q5, tabOk]
              · have hr : isMapD (.tup [.int P, .int Q, .tup (us.map .int)]) = false := by
                  simp [isMapD, q4]
                simp [isMapS, isTy, biD_lenT, cmpD_neI, ixM_tup, ix3_0, hc, h1 _ 1 2000 μ ka, q1, hr, setTg, h0 _ μ kb, isIntD, cmpD_lt, q2, h2 _ μ kt, q3, q4]
        | _ =>
          first
          | (cases kb; done)
          | (simp [isMapS, isTy, biD_lenT, cmpD_neI, ixM_tup, ix3_0, hc, h1 _ 1 2000 μ ka, q1, setTg, h0 _ μ kb, isIntD]
             exact hrb _ rfl)
  | _ => first | rfl | (cases h; done)
end
end Pg
end

section
set_option Elab.async false
set_option linter.all false
set_option maxRecDepth 100000
set_option maxHeartbeats 4000000
namespace Pg
open PySem PySem.Spec PyProof.Rows L2 Ev Mt
/-- a period fit to reckon with -/
structure Ok3 (P : Nat) (Q : Int) (t : List Int) : Prop where
  p0 : 0 < P
  p1 : P ≤ 1000000
  q : Q.natAbs < 1000000000000000000
  l : t.length = P
theorem log2_nat {P : Nat} (h : 0 < P) (h2 : P ≤ 1000000000) : (P : Int).natAbs.log2 < 9000 := log2_small _ (by omega) (Int.lt_trans (show (P : Int) < 10000000000 by omega) (by decide))
section
variable {C : Fns} {μ : Mu}
def valueS : S := (.seq (.asg false (.tup (.cons (.name 2) (.cons (.name 3) (.cons (.name 4) .nil)))) (.var 0)) (.seq (.ret (.bin .add (.idx (.var 4) (.bin .mod (.var 1) (.var 2))) (.bin .mul (.bin .fdiv (.var 1) (.var 2)) (.var 3)))) .skip))
theorem ix_mod {P : Nat} {t : List Int} (h0 : 0 < P) (hl : t.length = P) (x : Int) : ixD (.tup (t.map .int)) (.int (x % P)) = some (.int (t.getD (x % P).toNat 0)) :=
  ixT_at t _ (Int.emod_nonneg _ (by omega)) (by rw [hl]; exact Int.emod_lt_of_pos _ (by omega))
theorem q64 {q : Int} (h : q.natAbs < 1000000000000000000) : q.natAbs < 2 ^ 64 := Nat.lt_trans h (by decide)
theorem value_run {P : Nat} {Q : Int} {t : List Int} (o : Ok3 P Q t) (x : Int) : fnR (evS C valueS [.sh (mD P Q t), .sh (.int x), .un, .un, .un] μ) = .ok (.int (vl P Q t x)) μ := by
  have p0 := o.p0
  have fd := fun z => binD_fdiv z (P : Int) (by omega) (log2_nat o.p0 (Nat.le_trans o.p1 (by decide)))
  have mq := fun z => binD_mul z Q (mulOk_r (q64 o.q))
  simp [valueS, mD, setTg, binD_mod x P (by omega), ixM_tup, ix_mod o.p0 o.l x, fd, mq, binD_add, vl]
/-- the law's own: step[2][int(x) % step[0]] + x // step[0] * step[1] -/
def lvalueS : S := (.seq (.ret (.bin .add (.idx (.idx (.var 0) (.int 2)) (.bin .mod (.bi .int (.cons (.var 1) .nil)) (.idx (.var 0) (.int 0)))) (.bin .mul (.bin .fdiv (.var 1) (.idx (.var 0) (.int 0))) (.idx (.var 0) (.int 1))))) .skip)
theorem lvalue_run {P : Nat} {Q : Int} {t : List Int} (o : Ok3 P Q t) (x : Int) : fnR (evS C lvalueS [.sh (mD P Q t), .sh (.int x)] μ) = .ok (.int (vl P Q t x)) μ := by
  have p0 := o.p0
  have fd := fun z => binD_fdiv z (P : Int) (by omega) (log2_nat o.p0 (Nat.le_trans o.p1 (by decide)))
  have mq := fun z => binD_mul z Q (mulOk_r (q64 o.q))
  simp [lvalueS, mD, biD_int, binD_mod x P (by omega), ixM_tup, ix3_0, ix3_1, ix3_2, ix_mod o.p0 o.l x, fd, mq, binD_add, vl]
def HVal (C : Fns) (f : Nat) : Prop := ∀ {P : Nat} {Q : Int} {t : List Int} (_ : Ok3 P Q t) (x : Int) μ, C.call f [mD P Q t, .int x] μ = .ok (.int (vl P Q t x)) μ
def hasPS : S := (.seq (.asg false (.tup (.cons (.name 3) (.cons (.name 4) (.cons (.name 5) .nil)))) (.var 0)) (.seq (.cond (.cmp .ne (.bin .mod (.bin .mul (.var 4) (.var 1)) (.var 3)) (.int 0)) (.seq (.ret (.bl false)) .skip) .skip) (.seq (.asg false (.name 2) (.bin .fdiv (.bin .mul (.var 4) (.var 1)) (.var 3))) (.seq (.ret (.bi .all (.cons (.comp (.name 6) (.rng (.cons (.bin .sub (.var 3) (.var 1)) .nil)) (.cmp .eq (.idx (.var 5) (.bin .add (.var 6) (.var 1))) (.bin .add (.idx (.var 5) (.var 6)) (.var 2))) .nil) .nil))) .skip))))
theorem rngL_nat (n : Nat) : rngL 0 (n : Int) = (List.range n).map fun i => .int ((i : Nat) : Int) := by
  unfold rngL
  simp
theorem comp_has {ρ : Ev.Env} {i j : Nat} (it elt : E) {P : Nat} {t : List Int} (s : Nat) (q : Int) (hs : s ≤ P) (hP : P ≤ 1000000) (hl : t.length = P) (ρ' : Nat → Ev.Env)
    (hit : evE C it ρ μ = .ok (.rng 0 ((P - s : Nat) : Int)) μ) (hi : ∀ d, itemsE it (.rng 0 d) = some (rngL 0 d)) (k : Nat) (ht : ∀ a : Nat, setTg (.name k) (.int (a : Int)) (wipeE ρ (Tg.name k).slots) = some (ρ' a))
    (he : ∀ a : Nat, a < P - s → evE C elt (ρ' a) μ = .ok (.bl (decide (t.getD (a + s) 0 = t.getD a 0 + q))) μ) :
    evE C (.comp (.name k) it elt .nil) ρ μ = .ok (.lst ((List.range (P - s)).map fun a => .bl (decide (t.getD (a + s) 0 = t.getD a 0 + q)))) μ := by
  have z := comp_map (C := C) (t := .name k) (it := it) (elt := elt) (ρ := ρ) (μ := μ) (μ' := μ) (x := .rng 0 ((P - s : Nat) : Int)) (ds := (List.range (P - s)).map fun i => .int ((i : Nat) : Int)) (g := fun d => match d with | .int z => .bl (decide (t.getD (z.toNat + s) 0 = t.getD z.toNat 0 + q)) | d => d) hit (by rw [hi, rngL_nat]) (by simp [sizeLine]; omega) (fun d hd => by
    obtain ⟨a, ha, rfl⟩ := List.mem_map.mp hd
    rw [List.mem_range] at ha
    exact ⟨_, ht a, by rw [he a ha]; simp⟩)
  rw [z, List.map_map]
  rfl
theorem hasP_run {P : Nat} {Q : Int} {t : List Int} (o : Ok3 P Q t) (s : Nat) (hs0 : 0 < s) (hs : s ≤ P) : fnR (evS C hasPS [.sh (mD P Q t), .sh (.int s), .un, .un, .un, .un, .un] μ) = .ok (.bl (hpB P Q t s)) μ := by
  have p0 := o.p0
  have p1 := o.p1
  have fd := fun z => binD_fdiv z (P : Int) (by omega) (log2_nat o.p0 (Nat.le_trans o.p1 (by decide)))
  have mq := fun z => binD_mul Q z (mulOk_l (q64 o.q))
  have md := fun z => binD_mod z (P : Int) (by omega)
  have esub : binD .sub (.int (P : Int)) (.int (s : Int)) = some (.int ((P - s : Nat) : Int)) := by
    rw [binD_sub]
    congr 2
    omega
  by_cases h1 : Q * s % P = 0
  · have cm := comp_has (C := C) (μ := μ) (ρ := [.sh (mD P Q t), .sh (.int s), .sh (.int (Q * s / P)), .sh (.int P), .sh (.int Q), .sh (.tup (t.map .int)), .un]) (i := 0) (j := 0) (.rng (.cons (.bin .sub (.var 3) (.var 1)) .nil)) (.cmp .eq (.idx (.var 5) (.bin .add (.var 6) (.var 1))) (.bin .add (.idx (.var 5) (.var 6)) (.var 2))) s (Q * s / P) hs o.p1 o.l
      (fun a => [.sh (mD P Q t), .sh (.int s), .sh (.int (Q * s / P)), .sh (.int P), .sh (.int Q), .sh (.tup (t.map .int)), .sh (.int (a : Int))])
      (rng1_ok (by simp [esub]) (by omega) (by omega)) (fun _ => rfl) 6 (fun _ => rfl) (fun a ha => by
        have e1 : ixD (.tup (t.map .int)) (.int ((a : Int) + s)) = some (.int (t.getD (a + s) 0)) := by
          have := ixT_nat t (a + s) (by have := o.l; omega)
          push_cast at this
          exact this
        have e2 := ixT_nat t a (by have := o.l; omega)
        simp only [vE_cmp, vE_idx, vE_var, vE_bin, List.getElem?_cons_succ, List.getElem?_cons_zero, R.bind_ok, binD_add, R.of_some, ixM_tup, e1, e2, cmpD_eqI, Option.map_some])
    have ba : biD .all [.lst ((List.range (P - s)).map fun a => .bl (decide (t.getD (a + s) 0 = t.getD a 0 + Q * s / P)))] = some (.bl (hpB P Q t s)) := by
      rw [biD_all]
      congr 2
      unfold hpB
      rw [decide_eq_true h1, Bool.true_and]
    simp only [hasPS, mD, vS_seq, vS_asgT, vE_var, List.getElem?_cons_zero, R.bind_ok]
    simp only [mD] at cm
    generalize (List.range (P - s)).map (fun a => D.bl (decide (t.getD (a + s) 0 = t.getD a 0 + Q * s / P))) = zs at cm ba
    simp [setTg, mq, md, cmpD_neI, h1, fd, newSlot, cm, ba]
  · have hf : hpB P Q t s = false := by simp [hpB, h1]
    simp only [hasPS, mD, vS_seq, vS_asgT, vE_var, List.getElem?_cons_zero, R.bind_ok]
    simp [setTg, mq, md, cmpD_neI, h1, hf]
def HHas (C : Fns) (f : Nat) : Prop := ∀ {P : Nat} {Q : Int} {t : List Int} (_ : Ok3 P Q t) (s : Nat) μ, 0 < s → s ≤ P → C.call f [mD P Q t, .int s] μ = .ok (.bl (hpB P Q t s)) μ
def nD (m : Nat × Int × List Int) : D := mD m.1 m.2.1 m.2.2
def nBody (f : Nat) : S := (.seq (.cond (.and (.cmp .eq (.bin .mod (.var 2) (.var 1)) (.int 0)) (.and1 (.call f (.cons (.var 0) (.cons (.var 1) .nil))))) (.seq (.ret (.tup (.cons (.var 1) (.cons (.bin .fdiv (.bin .mul (.var 3) (.var 1)) (.var 2)) (.cons (.sl (.var 4) .nil (.var 1)) .nil))))) .skip) .skip) .skip)
def normS (f : Nat) : S := (.seq (.asg false (.tup (.cons (.name 2) (.cons (.name 3) (.cons (.name 4) .nil)))) (.var 0)) (.seq (.for_ (.name 1) (.rng (.cons (.int 1) (.cons (.var 2) .nil))) (nBody f)) (.seq (.ret (.var 0)) .skip)))
theorem norm_loop {f : Nat} (hf : HHas C f) {P : Nat} {Q : Int} {t : List Int} (o : Ok3 P Q t) : ∀ (k a : Nat) (s1 : Ev.Slot), 0 < a → a + k = P →
    ∃ s1', forL (fun d ρ μ => (R.of (setTg (.name 1) d ρ) μ).bind fun ρ μ => evS C (nBody f) ρ μ) ((List.range' a k).map fun i => .int ((i : Nat) : Int)) [.sh (mD P Q t), s1, .sh (.int P), .sh (.int Q), .sh (.tup (t.map .int))] μ =
      (if (List.range' a k).any (fun s => decide (P % s = 0) && hpB P Q t s) = true then .ok (.rt (nD (nrmF P Q t (List.range' a k)))) μ else .ok (.nx [.sh (mD P Q t), s1', .sh (.int P), .sh (.int Q), .sh (.tup (t.map .int))]) μ) ∧
      ((List.range' a k).any (fun s => decide (P % s = 0) && hpB P Q t s) = false → nrmF P Q t (List.range' a k) = (P, Q, t))
  | 0, a, s1, _, _ => ⟨s1, rfl, fun _ => rfl⟩
  | k + 1, a, s1, ha, hk => by
    have p0 := o.p0
    have p1 := o.p1
    obtain ⟨s1', ih, ih2⟩ := norm_loop hf o k (a + 1) (.sh (.int a)) (by omega) (by omega)
    have fd := fun z => binD_fdiv z (P : Int) (by omega) (log2_nat o.p0 (Nat.le_trans o.p1 (by decide)))
    have mq := fun z => binD_mul Q z (mulOk_l (q64 o.q))
    have md := binD_mod (P : Int) (a : Int) (by omega)
    have hc := hf o a μ ha (by omega)
    have emod : ((P : Int) % (a : Int) = 0) ↔ P % a = 0 := by omega
    rw [List.range'_succ]
    refine ⟨s1', ?_, ?_⟩
    · rw [List.map_cons]
      unfold forL
      have st : (R.of (setTg (.name 1) (.int ((a : Nat) : Int)) [.sh (mD P Q t), s1, .sh (.int P), .sh (.int Q), .sh (.tup (t.map .int))]) μ).bind (fun ρ μ => evS C (nBody f) ρ μ) =
          if (decide (P % a = 0) && hpB P Q t a) = true then .ok (.rt (nD (a, Q * a / P, t.take a))) μ else .ok (.nx [.sh (mD P Q t), .sh (.int a), .sh (.int P), .sh (.int Q), .sh (.tup (t.map .int))]) μ := by
        have en : nD (a, Q * a / P, t.take a) = .tup [.int a, .int (Q * a / P), .tup ((t.map .int).take a)] := by simp [nD, mD, List.map_take]
        rw [en]
        by_cases h1 : P % a = 0
        · cases h2 : hpB P Q t a with
          | true => simp [nBody, setTg, md, cmpD_eqI, emod, h1, hc, h2, mq, fd, partE, slD_to]
          | false => simp [nBody, setTg, md, cmpD_eqI, emod, h1, hc, h2]
        · simp [nBody, setTg, md, cmpD_eqI, emod, h1]
      rw [st]
      by_cases h3 : (decide (P % a = 0) && hpB P Q t a) = true
      · rw [if_pos h3]
        dsimp only
        rw [if_pos (by rw [List.any_cons, h3]; rfl)]
        unfold nrmF
        rw [if_pos h3]
      · rw [if_neg h3]
        dsimp only
        rw [ih, List.any_cons, (by simpa using h3 : (decide (P % a = 0) && hpB P Q t a) = false), Bool.false_or]
        unfold nrmF
        rw [if_neg h3]
        cases k <;> rfl
    · intro h
      rw [List.any_cons, Bool.or_eq_false_iff] at h
      unfold nrmF
      rw [if_neg (by rw [h.1]; decide)]
      exact ih2 h.2
theorem norm_run {f : Nat} (hf : HHas C f) {P : Nat} {Q : Int} {t : List Int} (o : Ok3 P Q t) : fnR (evS C (normS f) [.sh (mD P Q t), .un, .un, .un, .un] μ) = .ok (nD (nrm P Q t)) μ := by
  have p0 := o.p0
  have p1 := o.p1
  obtain ⟨s1', e, e2⟩ := norm_loop (C := C) (μ := μ) hf o (P - 1) 1 .un (by decide) (by omega)
  have hx : itemsE (.rng (.cons (.int 1) (.cons (.var 2) .nil))) (.rng 1 (P : Int)) = some ((List.range' 1 (P - 1)).map fun i => .int ((i : Nat) : Int)) := by
    show some (rngL 1 (P : Int)) = _
    unfold rngL
    congr 1
    have e : ((P : Int) - 1).toNat = P - 1 := by omega
    rw [e, List.range'_eq_map_range, List.map_map]
    apply List.map_congr_left
    intro i _
    simp
  have e' := for_ok (C := C) (μ := μ) (it := .rng (.cons (.int 1) (.cons (.var 2) .nil))) (x := .rng 1 (P : Int)) (ρ := [.sh (mD P Q t), .un, .sh (.int P), .sh (.int Q), .sh (.tup (t.map .int))]) (rng2_ok (by simp) (by decide) (by decide) (by omega) (by omega)) hx e
  have hn : nrm P Q t = nrmF P Q t (List.range' 1 (P - 1)) := rfl
  rw [hn]
  generalize nrmF P Q t (List.range' 1 (P - 1)) = m at e' e2
  generalize (List.range' 1 (P - 1)).any (fun s => decide (P % s = 0) && hpB P Q t s) = c at e' e2
  have es : evS C (.asg false (.tup (.cons (.name 2) (.cons (.name 3) (.cons (.name 4) .nil)))) (.var 0)) [.sh (mD P Q t), .un, .un, .un, .un] μ = .ok (.nx [.sh (mD P Q t), .un, .sh (.int P), .sh (.int Q), .sh (.tup (t.map .int))]) μ := by
    simp [mD, setTg]
  rw [normS, vS_seq, es, R.thn_nx, vS_seq, e']
  cases c with
  | true => rfl
  | false => rw [e2 rfl]; rfl
end
end Pg
end

section
set_option Elab.async false
set_option linter.all false
set_option maxRecDepth 100000
set_option maxHeartbeats 4000000
namespace Ev
open PySem PySem.Spec PyProof.Rows L2
/-- the hand, cell 0; numbers of any size -/
def HandG (μ : Mu) : Prop := ∃ (cells : List Int) (pos big seed cnt : Int), μ = handM cells pos big seed cnt ∧ (∀ c ∈ cells, 0 ≤ c) ∧ 0 ≤ pos ∧ 0 ≤ big ∧ 0 ≤ seed ∧ seed < 2147483629
def drawSG (ca cc cm : Int) : S := (.seq (.cond (.and (.cmp .eq (.idx (.var 0) (.int 2)) (.int 0)) (.and1 (.cmp .lt (.idx (.var 0) (.int 1)) (.bi .len (.cons (.idx (.var 0) (.int 0)) .nil))))) (.seq (.asg false (.name 3) (.idx (.idx (.var 0) (.int 0)) (.idx (.var 0) (.int 1)))) (.seq (.sub (.var 0) (.int 1) (.bin .add (.idx (.var 0) (.int 1)) (.int 1))) (.seq (.sub (.var 0) (.int 3) (.bin .mod (.bi .int (.cons (.bin .add (.bin .add (.bin .mul (.idx (.var 0) (.int 3)) (.int 69621)) (.bin .mul (.var 3) (.int ca))) (.int cc)) .nil)) (.int 2147483629))) (.seq (.cond (.cmp .ge (.var 3) (.bin .pow (.int 10) (.int 18))) (.seq (.sub (.var 0) (.int 2) (.var 3)) .skip) .skip) .skip)))) .skip) (.seq (.cond (.cmp .gt (.idx (.var 0) (.int 2)) (.int 0)) (.seq (.asg false (.name 4) (.bin .mod (.bi .int (.cons (.idx (.var 0) (.int 2)) .nil)) (.var 1))) (.seq (.sub (.var 0) (.int 2) (.bin .fdiv (.idx (.var 0) (.int 2)) (.var 1))) (.seq (.ret (.var 4)) .skip))) .skip) (.seq (.sub (.var 0) (.int 4) (.bin .add (.idx (.var 0) (.int 4)) (.int 1))) (.seq (.asg false (.name 2) (.bin .mod (.bi .int (.cons (.bin .mul (.bi .int (.cons (.bin .add (.idx (.var 0) (.int 3)) (.bin .mul (.int 7919) (.idx (.var 0) (.int 4)))) .nil)) (.int cm)) .nil)) (.int 2147483647))) (.seq (.asg false (.name 2) (.bin .mod (.bi .int (.cons (.bin .mul (.var 2) (.bin .add (.bin .fdiv (.var 2) (.int 1009)) (.int 69621))) .nil)) (.int 2147483647))) (.seq (.asg false (.name 2) (.bin .mod (.bi .int (.cons (.bin .mul (.var 2) (.bin .add (.bin .fdiv (.var 2) (.int 2003)) (.int 40014))) .nil)) (.int 2147483563))) (.seq (.ret (.bin .mod (.bi .int (.cons (.bin .fdiv (.var 2) (.int 16)) .nil)) (.var 1))) .skip)))))))
def drawTG (ca cc cm : Int) : S := match drawSG ca cc cm with
  | .seq _ t => t
  | s => s
def drawHG (ca cc cm : Int) : S := match drawSG ca cc cm with
  | .seq h _ => h
  | s => s
variable {C : Fns} {ca cc cm : Int}
theorem drawG_head {many : Int} {s2 s3 s4 : Slot} {μ : Mu} (h : HandG μ) (hca : ca.natAbs < 2 ^ 64) : Wp (evS C (drawHG ca cc cm) [.sh (.cell 0), .sh (.int many), s2, s3, s4] μ) (fun fl μ' => ∃ s3, fl = .nx [.sh (.cell 0), .sh (.int many), s2, s3, s4] ∧ HandG μ') := by
  obtain ⟨cells, pos, big, seed, cnt, rfl, hc, hp, hb0, h0, h1⟩ := h
  have mca := fun i => binD_mul i ca (mulOk_r hca)
  show Wp (evS C (.cond _ _ _) _ _) _
  simp only [vS_cond, vE_and, vE_and1, vE_cmp, vE_idx, vE_var, vE_int, List.getElem?_cons_zero, List.getElem?_cons_succ, R.bind_ok, hd0, hd1, hd2, hd3, hd4, R.of_some, cmpD_eqI, Option.map_some]
  by_cases hbig : big = 0
  · subst hbig
    simp [hd1, cmpD_lt, biD_len, hd0]
    by_cases hpos : pos < (cells.length : Int)
    · obtain ⟨c, hcm, hce⟩ := atI_map hp hpos
      have hc0 := hc c hcm
      simp [hpos, hd0, hd1, hd3, ixM_lst, hce, newSlot, hs1, hs2, hs3, binD_add, mca, binD_mul, binD_mod, mulOk_r, biD_int, binD_pow, cmpD_ge]
      split
      · simp [hs2, Wp]
        exact ⟨_, _, _, _, _, rfl, hc, by omega, hc0, by omega, by omega⟩
      · simp [Wp]
        exact ⟨_, _, _, _, _, rfl, hc, by omega, by omega, by omega, by omega⟩
    · simp [hpos, Wp]
      exact ⟨_, _, _, _, _, rfl, hc, by omega, by omega, by omega, by omega⟩
  · simp [hbig, Wp]
    exact ⟨_, _, _, _, _, rfl, hc, by omega, by omega, by omega, by omega⟩
theorem drawG_tail {many : Int} {s2 s3 s4 : Slot} {μ : Mu} (h : HandG μ) (hm : 0 < many) (hm2 : many < 2 ^ 200) (hcm : cm.natAbs < 2 ^ 64) : Wp (evS C (drawTG ca cc cm) [.sh (.cell 0), .sh (.int many), s2, s3, s4] μ) (fun fl μ' => ∃ v, fl = .rt (.int v) ∧ 0 ≤ v ∧ v < many ∧ HandG μ') := by
  obtain ⟨cells, pos, big, seed, cnt, rfl, hc, hp, hb0, h0, h1⟩ := h
  have mcm := fun i => binD_mul i cm (mulOk_r hcm)
  have hl := log2_small many hm hm2
  show Wp (evS C (.seq (.cond _ _ _) _) _ _) _
  simp only [vS_seq, vS_cond, vE_cmp, vE_idx, vE_var, vE_int, List.getElem?_cons_zero, List.getElem?_cons_succ, R.bind_ok, hd0, hd1, hd2, hd3, hd4, R.of_some, cmpD_gt, Option.map_some]
  by_cases hbig : 0 < big
  · simp [hbig, hd2, newSlot, hs2, binD_mod _ _ hm, binD_fdiv _ _ hm hl, biD_int, Wp]
    exact ⟨Int.emod_nonneg _ (by omega), Int.emod_lt_of_pos _ hm, _, _, _, _, _, rfl, hc, by omega, Int.ediv_nonneg hb0 (by omega), by omega, by omega⟩
  · have n1 : ∀ a : Int, a % 2147483647 < 2147483647 := fun a => by omega
    have n2 : ∀ a : Int, 0 ≤ a % 2147483647 := fun a => by omega
    have mk : ∀ a b : Int, mulOk (a % 2147483647) b = true := fun a b => mulOk_l (by omega)
    have f1 := fun a => binD_fdiv a 1009 (by decide) (log2_small _ (by decide) (by decide))
    have f2 := fun a => binD_fdiv a 2003 (by decide) (log2_small _ (by decide) (by decide))
    have f3 := fun a => binD_fdiv a 16 (by decide) (log2_small _ (by decide) (by decide))
    simp [hbig, hd3, hd4, newSlot, hs4, binD_add, mcm, binD_mul, binD_mod, f1, f2, f3, mulOk_l, mulOk_r, biD_int, Wp, hm, mk]
    exact ⟨Int.emod_nonneg _ (by omega), Int.emod_lt_of_pos _ hm, _, _, _, _, _, rfl, hc, by omega, by omega, by omega, by omega⟩
def HDr (C : Fns) (f : Nat) : Prop := ∀ {many : Int} {μ : Mu}, HandG μ → 0 < many → many < 1000000000000000000 → ∃ v μ', C.call f [.cell 0, .int many] μ = .ok (.int v) μ' ∧ 0 ≤ v ∧ v < many ∧ HandG μ'
theorem draw_run {many : Int} {μ : Mu} (hca : ca.natAbs < 2 ^ 64) (hcm : cm.natAbs < 2 ^ 64) (h : HandG μ) (hm : 0 < many) (hm2 : many < 1000000000000000000) :
    ∃ v μ', fnR (evS C (drawSG ca cc cm) [.sh (.cell 0), .sh (.int many), .un, .un, .un] μ) = .ok (.int v) μ' ∧ 0 ≤ v ∧ v < many ∧ HandG μ' := by
  have es : drawSG ca cc cm = .seq (drawHG ca cc cm) (drawTG ca cc cm) := rfl
  rw [es, vS_seq]
  obtain ⟨a, μ1, e1, s3, rfl, h1⟩ := (drawG_head (C := C) (cc := cc) (cm := cm) (many := many) (s2 := .un) (s3 := .un) (s4 := .un) h hca).get
  rw [e1, R.thn_nx]
  obtain ⟨a, μ2, e2, v, rfl, q1, q2, q3⟩ := (drawG_tail (C := C) (ca := ca) (cc := cc) (s2 := .un) (s3 := s3) (s4 := .un) h1 hm (Int.lt_trans hm2 (by decide)) hcm).get
  rw [e2]
  exact ⟨v, μ2, rfl, q1, q2, q3⟩
theorem any_run {f : Nat} (hf : HDr C f) {xs : List D} {μ : Mu} (h : HandG μ) (hm : 0 < xs.length) (hm2 : xs.length < 1000000) : ∃ v ∈ xs, ∃ μ', fnR (evS C (anyS f) [.sh (.cell 0), .sh (.lst xs)] μ) = .ok v μ' ∧ HandG μ' := by
  obtain ⟨v, μ', e1, v0, v1, hh⟩ := hf (many := (xs.length : Int)) h (by omega) (by omega)
  obtain ⟨x, hx, ex⟩ := ixD_nat (xs := xs) v0 v1
  refine ⟨x, hx, μ', ?_, hh⟩
  simp [anyS, biD_len, e1, ixM_lst, ex]
end Ev
end

section
set_option Elab.async false
set_option linter.all false
set_option maxRecDepth 100000
set_option maxHeartbeats 4000000
namespace Pg
open PySem PySem.Spec PyProof.Rows L2 Ev Mt
section
variable {C : Fns} {μ : Mu}
def handS (a b : Int) : S := (.seq (.asg false (.name 1) (.comp (.name 2) (.sl (.var 0) .nil (.int 63)) (.bin .mod (.bi .int (.cons (.bi .abs (.cons (.bi .int (.cons (.var 2) .nil)) .nil)) .nil)) (.bin .pow (.int 10) (.int 36))) .nil)) (.seq (.ret (.lst (.cons (.var 1) (.cons (.int 0) (.cons (.int 0) (.cons (.bin .add (.int a) (.bin .mul (.int b) (.bi .len (.cons (.var 1) .nil)))) (.cons (.int 0) .nil))))))) .skip))
def cellsOf (xs : List Int) : List Int := xs.map fun z => (if z < 0 then -z else z) % 10 ^ 36
theorem hand_run (a b : Int) (hb : b.natAbs < 2 ^ 64) (xs : List Int) (hl : xs.length ≤ 63) : fnR (evS C (handS a b) [.sh (.scr xs), .un, .un] μ) = .ok (.lst [.lst ((cellsOf xs).map .int), .int 0, .int 0, .int (a + b * (xs.length : Int)), .int 0]) μ := by
  have e1 : slD (.scr xs) none (some 63) = some (.lst (xs.map .int)) := by
    show some (D.lst ((cut xs none (some ((63 : Nat) : Int))).map .int)) = _
    rw [cut_to, List.take_of_length_le (by omega)]
  have e : evE C (.comp (.name 2) (.sl (.var 0) .nil (.int 63)) (.bin .mod (.bi .int (.cons (.bi .abs (.cons (.bi .int (.cons (.var 2) .nil)) .nil)) .nil)) (.bin .pow (.int 10) (.int 36))) .nil) [.sh (.scr xs), .un, .un] μ = .ok (.lst ((xs.map D.int).map fun d => match d with | .int z => .int ((if z < 0 then -z else z) % 10 ^ 36) | d => d)) μ :=
    comp_map (x := .lst (xs.map .int)) (by simp [partE, e1]) rfl (by simp [sizeLine]; omega) fun d hd => by
      obtain ⟨z, _, rfl⟩ := List.mem_map.mp hd
      refine ⟨[.sh (.scr xs), .un, .sh (.int z)], rfl, ?_⟩
      have a : biD .abs [.int z] = some (.int (if z < 0 then -z else z)) := rfl
      simp [biD_int, a, binD_pow, binD_mod]
  have e2 : ((xs.map D.int).map fun d => match d with | .int z => D.int ((if z < 0 then -z else z) % 10 ^ 36) | d => d) = (cellsOf xs).map .int := by simp [cellsOf]
  rw [e2] at e
  have hl2 : (cellsOf xs).length = xs.length := by simp [cellsOf]
  simp [handS, e, newSlot, biD_len, hl2, binD_mul b _ (mulOk_l hb), binD_add]
theorem handG0 {a b : Int} (xs : List Int) (hl : xs.length ≤ 63) (ha : 0 ≤ a) (ha2 : a ≤ 1000000) (hb : 0 ≤ b) (hb2 : b ≤ 1000000) : HandG [[.lst ((cellsOf xs).map .int), .int 0, .int 0, .int (a + b * (xs.length : Int)), .int 0]] := by
  have h1 : 0 ≤ b * (xs.length : Int) := Int.mul_nonneg hb (by omega)
  have h2 : b * (xs.length : Int) ≤ 1000000 * 63 := Int.le_trans (Int.mul_le_mul_of_nonneg_right hb2 (by omega)) (by omega)
  refine ⟨cellsOf xs, 0, 0, _, 0, rfl, fun c hc => ?_, by omega, by omega, by omega, by omega⟩
  obtain ⟨z, _, rfl⟩ := List.mem_map.mp hc
  exact Int.emod_nonneg _ (by decide)
def lnBody : S := (.seq (.cond (.and (.cmp .eq (.bin .mod (.bi .int (.cons (.var 0) .nil)) (.var 3)) (.int 0)) (.and1 (.cmp .eq (.bin .mod (.bi .int (.cons (.bin .mul (.var 1) (.var 3)) .nil)) (.var 0)) (.int 0)))) (.seq (.asg false (.name 4) (.bin .fdiv (.bin .mul (.var 1) (.var 3)) (.var 0))) (.seq (.cond (.bi .all (.cons (.comp (.name 5) (.rng (.cons (.bin .sub (.var 0) (.var 3)) .nil)) (.cmp .eq (.idx (.var 2) (.bin .add (.var 5) (.var 3))) (.bin .add (.idx (.var 2) (.var 5)) (.var 4))) .nil) .nil)) (.seq (.ret (.tup (.cons (.var 3) (.cons (.var 4) (.cons (.bi .tuple (.cons (.sl (.var 2) .nil (.var 3)) .nil)) .nil))))) .skip) .skip) .skip)) .skip) .skip)
def lnormS : S := (.seq (.for_ (.name 3) (.rng (.cons (.int 1) (.cons (.bin .add (.var 0) (.int 1)) .nil))) lnBody) (.seq (.ret (.tup (.cons (.var 0) (.cons (.var 1) (.cons (.bi .tuple (.cons (.var 2) .nil)) .nil))))) .skip))
theorem ln_turn {P : Nat} {Q : Int} {t : List Int} (o : Ok3 P Q t) (a : Nat) (ha : 0 < a) (haP : a ≤ P) (s3 s4 : Ev.Slot) : ∃ s4', (R.of (setTg (.name 3) (.int ((a : Nat) : Int)) [.sh (.int P), .sh (.int Q), .sh (.tup (t.map .int)), s3, s4, .un]) μ).bind (fun ρ μ => evS C lnBody ρ μ) =
    if (decide (P % a = 0) && hpB P Q t a) = true then .ok (.rt (nD (a, Q * a / P, t.take a))) μ else .ok (.nx [.sh (.int P), .sh (.int Q), .sh (.tup (t.map .int)), .sh (.int a), s4', .un]) μ := by
  have p0 := o.p0
  have p1 := o.p1
  have fd := fun z => binD_fdiv z (P : Int) (by omega) (log2_nat o.p0 (Nat.le_trans o.p1 (by decide)))
  have mq := fun z => binD_mul Q z (mulOk_l (q64 o.q))
  have md := binD_mod (P : Int) (a : Int) (by omega)
  have mdP := fun z => binD_mod z (P : Int) (by omega)
  have emod : ((P : Int) % (a : Int) = 0) ↔ P % a = 0 := by omega
  have en : nD (a, Q * a / P, t.take a) = .tup [.int a, .int (Q * a / P), .tup ((t.map .int).take a)] := by simp [nD, mD, List.map_take]
  rw [en]
  have esub : binD .sub (.int (P : Int)) (.int (a : Int)) = some (.int ((P - a : Nat) : Int)) := by
    rw [binD_sub]
    congr 2
    omega
  by_cases h1 : P % a = 0
  · by_cases h2 : Q * a % P = 0
    · have cm := comp_has (C := C) (μ := μ) (ρ := [.sh (.int P), .sh (.int Q), .sh (.tup (t.map .int)), .sh (.int a), .sh (.int (Q * a / P)), .un]) (i := 0) (j := 0) (.rng (.cons (.bin .sub (.var 0) (.var 3)) .nil)) (.cmp .eq (.idx (.var 2) (.bin .add (.var 5) (.var 3))) (.bin .add (.idx (.var 2) (.var 5)) (.var 4))) a (Q * a / P) haP o.p1 o.l
        (fun z => [.sh (.int P), .sh (.int Q), .sh (.tup (t.map .int)), .sh (.int a), .sh (.int (Q * a / P)), .sh (.int (z : Int))])
        (rng1_ok (by simp [esub]) (by omega) (by omega)) (fun _ => rfl) 5 (fun _ => rfl) (fun z hz => by
          have e1 : ixD (.tup (t.map .int)) (.int ((z : Int) + a)) = some (.int (t.getD (z + a) 0)) := by
            have := ixT_nat t (z + a) (by have := o.l; omega)
            push_cast at this
            exact this
          have e2 := ixT_nat t z (by have := o.l; omega)
          simp only [vE_cmp, vE_idx, vE_var, vE_bin, List.getElem?_cons_succ, List.getElem?_cons_zero, R.bind_ok, binD_add, R.of_some, ixM_tup, e1, e2, cmpD_eqI, Option.map_some])
      have ba : biD .all [.lst ((List.range (P - a)).map fun z => .bl (decide (t.getD (z + a) 0 = t.getD z 0 + Q * a / P)))] = some (.bl (hpB P Q t a)) := by
        rw [biD_all]
        congr 2
        unfold hpB
        rw [decide_eq_true h2, Bool.true_and]
      generalize (List.range (P - a)).map (fun z => D.bl (decide (t.getD (z + a) 0 = t.getD z 0 + Q * a / P))) = zs at cm ba
      refine ⟨.sh (.int (Q * a / P)), ?_⟩
      cases h3 : hpB P Q t a with
      | true => simp [lnBody, setTg, biD_int, md, cmpD_eqI, emod, h1, mq, mdP, h2, fd, newSlot, cm, ba, h3, partE, slD_to, biD_tupT]
      | false => simp [lnBody, setTg, biD_int, md, cmpD_eqI, emod, h1, mq, mdP, h2, fd, newSlot, cm, ba, h3]
    · have hf : hpB P Q t a = false := by simp [hpB, h2]
      refine ⟨s4, ?_⟩
      simp [lnBody, setTg, biD_int, md, cmpD_eqI, emod, h1, mq, mdP, h2, hf]
  · refine ⟨s4, ?_⟩
    simp [lnBody, setTg, biD_int, md, cmpD_eqI, emod, h1]
theorem hpB_all {P : Nat} {Q : Int} {t : List Int} : hpB P Q t P = true := by
  simp [hpB]
theorem ln_loop {P : Nat} {Q : Int} {t : List Int} (o : Ok3 P Q t) : ∀ (k a : Nat) (s3 s4 : Ev.Slot), 0 < a → a + k = P →
    forL (fun d ρ μ => (R.of (setTg (.name 3) d ρ) μ).bind fun ρ μ => evS C lnBody ρ μ) ((List.range' a (k + 1)).map fun i => .int ((i : Nat) : Int)) [.sh (.int P), .sh (.int Q), .sh (.tup (t.map .int)), s3, s4, .un] μ = .ok (.rt (nD (nrmF P Q t (List.range' a k)))) μ
  | 0, a, s3, s4, ha, hk => by
    obtain ⟨s4', e⟩ := ln_turn (C := C) (μ := μ) o a ha (by omega) s3 s4
    have hP : a = P := by omega
    subst hP
    rw [List.range'_succ, List.map_cons]
    unfold forL
    rw [e, if_pos (by rw [hpB_all]; simp)]
    have p0 : (a : Int) ≠ 0 := by omega
    show Ev.R.ok (Fl.rt (nD (a, Q * a / a, t.take a))) μ = Ev.R.ok (Fl.rt (nD (a, Q, t))) μ
    rw [Int.mul_ediv_cancel _ p0, List.take_of_length_le (by rw [o.l]; omega)]
  | k + 1, a, s3, s4, ha, hk => by
    obtain ⟨s4', e⟩ := ln_turn (C := C) (μ := μ) o a ha (by omega) s3 s4
    have ih := ln_loop o k (a + 1) (.sh (.int a)) s4' (by omega) (by omega)
    rw [List.range'_succ, List.map_cons]
    unfold forL
    rw [e]
    by_cases h3 : (decide (P % a = 0) && hpB P Q t a) = true
    · rw [if_pos h3]
      dsimp only
      rw [List.range'_succ]
      unfold nrmF
      rw [if_pos h3]
    · rw [if_neg h3]
      dsimp only
      rw [ih, List.range'_succ (s := a)]
      conv => rhs; unfold nrmF
      rw [if_neg h3]
theorem lnorm_run {P : Nat} {Q : Int} {t : List Int} (o : Ok3 P Q t) : fnR (evS C lnormS [.sh (.int P), .sh (.int Q), .sh (.tup (t.map .int)), .un, .un, .un] μ) = .ok (nD (nrm P Q t)) μ := by
  have p0 := o.p0
  have p1 := o.p1
  have e := ln_loop (C := C) (μ := μ) o (P - 1) 1 .un .un (by decide) (by omega)
  have hx : itemsE (.rng (.cons (.int 1) (.cons (.bin .add (.var 0) (.int 1)) .nil))) (.rng 1 ((P : Int) + 1)) = some ((List.range' 1 (P - 1 + 1)).map fun i => .int ((i : Nat) : Int)) := by
    show some (rngL 1 ((P : Int) + 1)) = _
    unfold rngL
    congr 1
    have e : ((P : Int) + 1 - 1).toNat = P - 1 + 1 := by omega
    rw [e, List.range'_eq_map_range, List.map_map]
    apply List.map_congr_left
    intro i _
    simp
  have e' := for_ok (C := C) (μ := μ) (it := .rng (.cons (.int 1) (.cons (.bin .add (.var 0) (.int 1)) .nil))) (x := .rng 1 ((P : Int) + 1)) (ρ := [.sh (.int P), .sh (.int Q), .sh (.tup (t.map .int)), .un, .un, .un]) (rng2_ok (by simp [binD_add]) (by decide) (by decide) (by omega) (by omega)) hx e
  rw [lnormS, vS_seq, e']
  rfl
def HLn (C : Fns) (f : Nat) : Prop := ∀ {P : Nat} {Q : Int} {t : List Int} (_ : Ok3 P Q t) μ, C.call f [.int P, .int Q, .tup (t.map .int)] μ = .ok (nD (nrm P Q t)) μ
def HNorm (C : Fns) (f : Nat) : Prop := ∀ {P : Nat} {Q : Int} {t : List Int} (_ : Ok3 P Q t) μ, C.call f [mD P Q t] μ = .ok (nD (nrm P Q t)) μ
def lcomS : S := (.seq (.whl (.cmp .gt (.var 1) (.int 0)) (.seq (.par [0, 1] (.cons (.var 1) (.cons (.bin .mod (.bi .int (.cons (.var 0) .nil)) (.var 1)) .nil))) .skip)) (.seq (.ret (.var 0)) .skip))
theorem lcom_loop : ∀ (b a m : Nat), b < m → whlL (evE C (.cmp .gt (.var 1) (.int 0))) (evS C (.seq (.par [0, 1] (.cons (.var 1) (.cons (.bin .mod (.bi .int (.cons (.var 0) .nil)) (.var 1)) .nil))) .skip)) m [.sh (.int (a : Int)), .sh (.int (b : Int))] μ = .ok (.nx [.sh (.int (Nat.gcd a b : Nat)), .sh (.int 0)]) μ := by
  intro b
  induction b using Nat.strongRecOn with
  | _ b ih =>
    intro a m hm
    match m, hm with
    | m + 1, hm =>
      unfold whlL
      by_cases hb : b = 0
      · subst hb
        have e : evE C (.cmp .gt (.var 1) (.int 0)) [.sh (.int (a : Int)), .sh (.int ((0 : Nat) : Int))] μ = .ok (.bl false) μ := by simp [cmpD_gt]
        rw [e]
        simp
      · have e : evE C (.cmp .gt (.var 1) (.int 0)) [.sh (.int (a : Int)), .sh (.int (b : Int))] μ = .ok (.bl true) μ := by simp [cmpD_gt]; omega
        rw [e]
        have e2 : evS C (.seq (.par [0, 1] (.cons (.var 1) (.cons (.bin .mod (.bi .int (.cons (.var 0) .nil)) (.var 1)) .nil))) .skip) [.sh (.int (a : Int)), .sh (.int (b : Int))] μ = .ok (.nx [.sh (.int (b : Int)), .sh (.int ((a % b : Nat) : Int))]) μ := by
          simp [biD_int, binD_mod (a : Int) b (by omega), setPar]
        dsimp only
        rw [e2]
        dsimp only
        have hl : a % b < b := Nat.mod_lt _ (by omega)
        rw [ih (a % b) hl b m (by omega)]
        have : Nat.gcd b (a % b) = Nat.gcd a b := by rw [Nat.gcd_comm a b, Nat.gcd_rec b a, Nat.gcd_comm]
        rw [this]
theorem lcom_run (a b : Nat) (hb : b < 1000000000000) : fnR (evS C lcomS [.sh (.int a), .sh (.int b)] μ) = .ok (.int (Nat.gcd a b : Nat)) μ := by
  have e := lcom_loop (C := C) (μ := μ) b a whileMost (by rw [whileMost_eq]; exact hb)
  have e' : evS C (.whl (.cmp .gt (.var 1) (.int 0)) (.seq (.par [0, 1] (.cons (.var 1) (.cons (.bin .mod (.bi .int (.cons (.var 0) .nil)) (.var 1)) .nil))) .skip)) [.sh (.int (a : Int)), .sh (.int (b : Int))] μ = _ := e
  simp [lcomS, e']
end
end Pg
end

section
set_option Elab.async false
set_option linter.all false
set_option maxRecDepth 100000
set_option maxHeartbeats 1000000
namespace Mt
open Pg Ev
/-- the map tells f -/
structure Rp (f : Int → Int) (P : Nat) (Q : Int) (t : List Int) : Prop where
  p0 : 0 < P
  l : t.length = P
  v : ∀ x, vl P Q t x = f x
section
variable {f : Int → Int} {P P' : Nat} {Q Q' : Int} {t t' : List Int}
theorem Rp.of (h0 : 0 < P) (hl : t.length = P) : Rp (vl P Q t) P Q t := ⟨h0, hl, fun _ => rfl⟩
theorem Rp.eq (r : Rp f P Q t) (r' : Rp f P' Q' t') : nrm P Q t = nrm P' Q' t' := nrm_eq r.p0 r.l r'.p0 r'.l fun x => by rw [r.v, r'.v]
theorem Rp.per (r : Rp f P Q t) : Mt.per f P Q := fun x => by
  have := vl_per r.p0 Q t x
  rw [r.v, r.v] at this
  exact this
theorem Rp.tab (h0 : 0 < P) (h : Mt.per f P Q) : Rp f P Q (tab f P) := ⟨h0, tab_len f P, vl_tab h0 h⟩
theorem Rp.nrm (r : Rp f P Q t) : Rp f (nrm P Q t).1 (nrm P Q t).2.1 (nrm P Q t).2.2 := by
  have n := nrm_spec (Q := Q) r.p0 r.l
  exact ⟨n.pos, n.len, fun x => by rw [n.vl, r.v]⟩
theorem Rp.dvd (r : Rp f P Q t) : (Mt.nrm P Q t).1 ∣ P := (nrm_spec r.p0 r.l).dvd
theorem Rp.nrm_le (r : Rp f P Q t) : (Mt.nrm P Q t).1 ≤ P := Nat.le_of_dvd r.p0 r.dvd
/-- the rise by the period -/
theorem per_rise {p q p' q' : Int} (h : Mt.per f p q) (h' : Mt.per f p' q') : q * p' = q' * p := by
  have a := per_int h p' 0
  have b := per_int h' p 0
  have e : (0 : Int) + p' * p = 0 + p * p' := by rw [Int.mul_comm]
  rw [e] at a
  have h1 : q * p' = p' * q := Int.mul_comm _ _
  have h2 : q' * p = p * q' := Int.mul_comm _ _
  omega
theorem Rp.rise (r : Rp f P Q t) (hQ : 0 ≤ Q) : 0 ≤ (Mt.nrm P Q t).2.1 ∧ (Mt.nrm P Q t).2.1 ≤ Q := by
  have e := per_rise r.nrm.per r.per
  have p0 := r.p0
  have q0 := r.nrm.p0
  have hle := r.nrm_le
  generalize (Mt.nrm P Q t).1 = p at *
  generalize (Mt.nrm P Q t).2.1 = q at *
  constructor
  · rcases Int.lt_or_le q 0 with z | z
    · have h1 : q * P < 0 := Int.mul_neg_of_neg_of_pos z (by omega)
      have h2 : 0 ≤ Q * (p : Int) := Int.mul_nonneg hQ (by omega)
      omega
    · exact z
  · have h3 : Q * (p : Int) ≤ Q * (P : Int) := Int.mul_le_mul_of_nonneg_left (by omega) hQ
    rw [← e] at h3
    exact Int.le_of_mul_le_mul_right h3 (by omega)
end
def Mono (f : Int → Int) : Prop := ∀ x, f x ≤ f (x + 1)
theorem Mono.le {f : Int → Int} (h : Mono f) : ∀ (n : Nat) (x : Int), f x ≤ f (x + n)
  | 0, x => by simp
  | n + 1, x => by
    have := h.le n x
    have h2 := h (x + n)
    have e : x + ((n + 1 : Nat) : Int) = x + n + 1 := by omega
    rw [e]
    omega
theorem Mono.le' {f : Int → Int} (h : Mono f) {x y : Int} (hxy : x ≤ y) : f x ≤ f y := by
  have := h.le (y - x).toNat x
  have e : x + ((y - x).toNat : Int) = y := by omega
  rw [e] at this
  exact this
theorem adj_iff : ∀ t : List Int, adj t = true ↔ ∀ i, i + 1 < t.length → t.getD i 0 ≤ t.getD (i + 1) 0
  | [] => by simp [adj, zip2]
  | [a] => by simp [adj, zip2]
  | a :: b :: r => by
    have ih := adj_iff (b :: r)
    have e : adj (a :: b :: r) = (decide (a ≤ b) && adj (b :: r)) := rfl
    rw [e, Bool.and_eq_true, decide_eq_true_eq, ih]
    constructor
    · rintro ⟨h1, h2⟩ i hi
      cases i with
      | zero => simpa using h1
      | succ i =>
        have := h2 i (by simp at hi ⊢; omega)
        simpa using this
    · intro h
      refine ⟨by simpa using h 0 (by simp), fun i hi => ?_⟩
      have := h (i + 1) (by simp at hi ⊢; omega)
      simpa using this
theorem lastZ_get {t : List Int} {P : Nat} (h0 : 0 < P) (hl : t.length = P) : lastZ t = t.getD (P - 1) 0 := by
  unfold lastZ
  obtain ⟨is, l, rfl⟩ : ∃ is l, t = is ++ [l] := ⟨t.dropLast, t.getLast (by intro z; rw [z] at hl; simp at hl; omega), (List.dropLast_concat_getLast _).symm⟩
  simp at hl
  have e : P - 1 = is.length := by omega
  rw [e]
  simp
theorem headZ_get {t : List Int} : headZ t = t.getD 0 0 := by
  unfold headZ
  cases t <;> simp
theorem tabOk_mono {P : Nat} {Q : Int} {t : List Int} (h0 : 0 < P) (hl : t.length = P) : tabOk Q t = true ↔ Mono (vl P Q t) := by
  unfold tabOk
  rw [Bool.and_eq_true, decide_eq_true_eq, adj_iff, lastZ_get h0 hl, headZ_get]
  constructor
  · rintro ⟨h1, h2⟩ x
    obtain ⟨r, b, hr, rfl⟩ := split_x h0 x
    rw [vl_at r b hr]
    by_cases hr2 : r + 1 < P
    · have e : (r : Int) + b * P + 1 = ((r + 1 : Nat) : Int) + b * P := by push_cast; omega
      rw [e, vl_at _ b hr2]
      have := h2 r (by omega)
      omega
    · have e : (r : Int) + b * P + 1 = ((0 : Nat) : Int) + (b + 1) * P := by
        rw [Int.add_mul]
        push_cast
        omega
      rw [e, vl_at _ _ h0, Int.add_mul]
      have er : r = P - 1 := by omega
      rw [er]
      omega
  · intro h
    constructor
    · have h1 := h ((P - 1 : Nat) : Int)
      rw [vl_small (by omega)] at h1
      have e : (((P - 1 : Nat) : Int) + 1) = ((0 : Nat) : Int) + 1 * P := by omega
      rw [e, vl_at _ _ h0] at h1
      omega
    · intro i hi
      have h1 := h (i : Nat)
      rw [vl_small (by omega)] at h1
      have e : ((i : Nat) : Int) + 1 = ((i + 1 : Nat) : Int) := by push_cast; rfl
      rw [e, vl_small (by omega)] at h1
      exact h1
/-- a map as is_map has it -/
structure Mp (f : Int → Int) (P : Nat) (Q : Int) (t : List Int) : Prop extends Rp f P Q t where
  p1 : P ≤ 2000
  q0 : 0 ≤ Q
  m : Mono f
section
variable {f : Int → Int} {P P' : Nat} {Q Q' : Int} {t t' : List Int}
theorem Mp.isMap (m : Mp f P Q t) : isMapD (mD P Q t) = true := by
  have p0 := m.p0
  have h : Mono (vl P Q t) := by
    have : vl P Q t = f := funext m.v
    rw [this]
    exact m.m
  have e := (tabOk_mono (Q := Q) m.p0 m.l).mpr h
  have a : (t.map D.int).all isIntD = true := by simp [isIntD]
  have hl := m.l
  have p1 := m.p1
  have q0 := m.q0
  simp only [isMapD, mD, intsOf_map, e, a, List.length_map, hl]
  simp
  omega
theorem Mp.okM (m : Mp f P Q t) : okM (mD P Q t) = true := by
  have hl := m.l
  have p1 := m.p1
  simp [Pg.okM, mD, okT, okD]
  omega
theorem Mp.nrm (m : Mp f P Q t) : Mp f (nrm P Q t).1 (nrm P Q t).2.1 (nrm P Q t).2.2 :=
  ⟨m.toRp.nrm, Nat.le_trans m.toRp.nrm_le m.p1, (m.toRp.rise m.q0).1, m.m⟩
theorem Mp.ok3 (m : Mp f P Q t) (h : Q < 1000000000000000000) : Ok3 P Q t := ⟨m.p0, Nat.le_trans m.p1 (by decide), by have := m.q0; omega, m.l⟩
end
theorem isort_len (x : Int) : ∀ l : List Int, (isort x l).length = l.length + 1
  | [] => rfl
  | y :: r => by
    unfold isort
    split
    · rfl
    · simp [isort_len x r]
theorem sortI_len : ∀ l : List Int, (sortI l).length = l.length
  | [] => rfl
  | x :: r => by
    show (isort x (sortI r)).length = _
    rw [isort_len, sortI_len r]
    rfl
theorem isort_mem (x : Int) : ∀ (l : List Int) (z : Int), z ∈ isort x l ↔ z = x ∨ z ∈ l
  | [], z => by simp [isort]
  | y :: r, z => by
    unfold isort
    split
    · simp
    · simp only [List.mem_cons, isort_mem x r]
      constructor
      · rintro (h | h | h) <;> simp [h]
      · rintro (h | h | h) <;> simp [h]
theorem sortI_mem : ∀ (l : List Int) (z : Int), z ∈ sortI l ↔ z ∈ l
  | [], z => by simp [sortI]
  | x :: r, z => by
    show z ∈ isort x (sortI r) ↔ _
    rw [isort_mem, sortI_mem r]
    simp
/-- rising, by neighbours -/
def Srt : List Int → Prop
  | [] => True
  | x :: r => (∀ z ∈ r, x ≤ z) ∧ Srt r
theorem isort_srt (x : Int) : ∀ l : List Int, Srt l → Srt (isort x l)
  | [], _ => ⟨fun _ h => (nomatch h), trivial⟩
  | y :: r, ⟨h1, h2⟩ => by
    unfold isort
    split
    · rename_i hx
      refine ⟨fun z hz => ?_, h1, h2⟩
      rcases List.mem_cons.mp hz with rfl | q
      · exact hx
      · exact Int.le_trans hx (h1 z q)
    · rename_i hx
      refine ⟨fun z hz => ?_, isort_srt x r h2⟩
      rcases (isort_mem x r z).mp hz with rfl | q
      · omega
      · exact h1 z q
theorem sortI_srt : ∀ l : List Int, Srt (sortI l)
  | [] => trivial
  | x :: r => isort_srt x _ (sortI_srt r)
theorem Srt.adj : ∀ {t : List Int}, Srt t → adj t = true
  | [], _ => rfl
  | [a], _ => rfl
  | a :: b :: r, ⟨h1, h2⟩ => by
    have e : Pg.adj (a :: b :: r) = (decide (a ≤ b) && Pg.adj (b :: r)) := rfl
    rw [e, Srt.adj h2, decide_eq_true (h1 b (by simp))]
    rfl
end Mt
end

section
set_option Elab.async false
set_option linter.all false
set_option maxRecDepth 100000
set_option maxHeartbeats 4000000
namespace Pg
open PySem PySem.Spec PyProof.Rows L2 Ev Mt
theorem toPy_mD (P : Nat) (Q : Int) (t : List Int) : toPy (mD P Q t) = some (.tuple [.int P, .int Q, .tuple (t.map .int)]) := by
  show (toPys [.int P, .int Q, .tup (t.map .int)]).map PyData.tuple = _
  simp [toPys, toPy_int, toPy_ints]
theorem shaped_mD (P : Nat) (Q : Int) (t : List Int) : SeqAt.shaped (.tuple [.int P, .int Q, .tuple (t.map .int)]) = true := by
  have h1 := lay_ints t
  have h2 := depth_ints t
  simp [SeqAt.shaped, PyData.canLay0, PyData.canLayAll0, h1, PyData.depth, PyData.depthAll]
  omega
theorem ne_mD (P : Nat) (Q : Int) (t : List Int) : cmpD .ne (mD P Q t) (mD P Q t) = some false := neD_self (toPy_mD P Q t) (shaped_mD P Q t)
theorem eq_mD (P : Nat) (Q : Int) (t : List Int) : cmpD .eq (mD P Q t) (mD P Q t) = some true := eqD_self (toPy_mD P Q t) (shaped_mD P Q t)
theorem ne_nD (m : Nat × Int × List Int) : cmpD .ne (nD m) (nD m) = some false := ne_mD _ _ _
theorem eq_nD (m : Nat × Int × List Int) : cmpD .eq (nD m) (nD m) = some true := eq_mD _ _ _
theorem lastZ_mem : ∀ {t : List Int}, t ≠ [] → lastZ t ∈ t := fun {t} h => by
  obtain ⟨is, l, rfl⟩ : ∃ is l, t = is ++ [l] := ⟨t.dropLast, t.getLast h, (List.dropLast_concat_getLast h).symm⟩
  simp [lastZ]
theorem Srt_shift (h : Int) : ∀ {zs : List Int}, Srt zs → Srt (zs.map (h + ·))
  | [], _ => trivial
  | z :: r, ⟨h1, h2⟩ => ⟨fun w hw => by
      obtain ⟨y, hy, rfl⟩ := List.mem_map.mp hw
      have := h1 y hy
      show h + z ≤ h + y
      omega, Srt_shift h h2⟩
theorem tab_ok {h Q : Int} {zs : List Int} (hs : Srt zs) (hb : ∀ z ∈ zs, 0 ≤ z ∧ z ≤ Q) (hQ : 0 ≤ Q) : tabOk Q (h :: zs.map (h + ·)) = true := by
  have s : Srt (h :: zs.map (h + ·)) := ⟨fun w hw => by
    obtain ⟨y, hy, rfl⟩ := List.mem_map.mp hw
    have := hb y hy
    show h ≤ h + y
    omega, Srt_shift h hs⟩
  unfold tabOk
  rw [s.adj, Bool.and_true, decide_eq_true_eq]
  have hm := lastZ_mem (t := h :: zs.map (h + ·)) (by simp)
  show _ ≤ h + Q
  rcases List.mem_cons.mp hm with e | e
  · omega
  · obtain ⟨y, hy, e⟩ := List.mem_map.mp e
    have := hb y hy
    omega
section
variable {C : Fns} {μ : Mu}
def tableS (f : Nat) : S := (.seq (.asg false (.name 3) (.bin .sub (.call f (.cons (.var 0) (.cons (.int 9) .nil))) (.int 4))) (.seq (.asg false (.name 4) (.bi .sorted (.cons (.comp (.name 5) (.rng (.cons (.bin .sub (.var 1) (.int 1)) .nil)) (.call f (.cons (.var 0) (.cons (.bin .add (.var 2) (.int 1)) .nil))) .nil) .nil))) (.seq (.ret (.tup (.cons (.var 1) (.cons (.var 2) (.cons (.bi .tuple (.cons (.bin .add (.lst (.cons (.var 3) .nil)) (.comp (.name 6) (.var 4) (.bin .add (.var 3) (.var 6)) .nil)) .nil)) .nil))))) .skip)))
theorem sorted_ints (xs : List Int) : biD .sorted [.lst (xs.map .int)] = some (.lst ((sortI xs).map .int)) := by
  show (asInts (xs.map .int)).map _ = _
  rw [asInts_f]
  rfl
theorem table_run {f : Nat} (hf : HDr C f) {P : Nat} {Q : Int} (h0 : 0 < P) (h1 : P ≤ 1000) (hq : 0 ≤ Q) (hq2 : Q < 100000000000000000) (h : HandG μ) :
    ∃ t μ', fnR (evS C (tableS f) [.sh (.cell 0), .sh (.int P), .sh (.int Q), .un, .un, .un, .un] μ) = .ok (mD P Q t) μ' ∧ HandG μ' ∧ Mp (vl P Q t) P Q t := by
  obtain ⟨a, μ1, e1, a0, a1, hh1⟩ := hf (many := 9) h (by decide) (by decide)
  have esub : binD .sub (.int (P : Int)) (.int 1) = some (.int ((P - 1 : Nat) : Int)) := by
    rw [binD_sub]
    congr 2
    omega
  obtain ⟨ys, μ2, e2, q1, q2, q3⟩ := comp_wp (C := C) (t := .name 5) (it := .rng (.cons (.bin .sub (.var 1) (.int 1)) .nil)) (elt := .call f (.cons (.var 0) (.cons (.bin .add (.var 2) (.int 1)) .nil))) (ρ := [.sh (.cell 0), .sh (.int P), .sh (.int Q), .sh (.int (a - 4)), .un, .un, .un]) (μ := μ1) (μ' := μ1) (x := .rng 0 ((P - 1 : Nat) : Int)) (ds := rngL 0 ((P - 1 : Nat) : Int)) HandG (fun y => ∃ i, y = .int i ∧ 0 ≤ i ∧ i ≤ Q)
    (rng1_ok (by simp [esub]) (by omega) (by omega)) rfl (by rw [rngL_nat]; simp [sizeLine]; omega) hh1 (fun d hd μ hm => by
      obtain ⟨v, μ', e, v0, v1, hh⟩ := hf (many := Q + 1) hm (by omega) (by omega)
      refine ⟨[.sh (.cell 0), .sh (.int P), .sh (.int Q), .sh (.int (a - 4)), .un, .sh d, .un], rfl, ?_⟩
      simp [e, binD_add, Wp, hh]
      omega)
  obtain ⟨xs, rfl, hx⟩ := allInts q3
  have hlen : xs.length = P - 1 := by
    rw [rngL_nat] at q2
    simpa using q2
  have e3 : evE C (.comp (.name 6) (.var 4) (.bin .add (.var 3) (.var 6)) .nil) [.sh (.cell 0), .sh (.int P), .sh (.int Q), .sh (.int (a - 4)), .sh (.lst ((sortI xs).map .int)), .un, .un] μ2 = .ok (.lst (((sortI xs).map D.int).map fun d => match d with | .int z => .int (a - 4 + z) | d => d)) μ2 :=
    comp_map (x := .lst ((sortI xs).map .int)) rfl rfl (by simp [sizeLine, sortI_len]; omega) fun d hd => by
      obtain ⟨z, _, rfl⟩ := List.mem_map.mp hd
      refine ⟨[.sh (.cell 0), .sh (.int P), .sh (.int Q), .sh (.int (a - 4)), .sh (.lst ((sortI xs).map .int)), .un, .sh (.int z)], rfl, ?_⟩
      simp [binD_add]
  have e4 : (((sortI xs).map D.int).map fun d => match d with | .int z => D.int (a - 4 + z) | d => d) = ((sortI xs).map (a - 4 + ·)).map .int := by simp
  rw [e4] at e3
  have ad : binD .add (.lst [.int (a - 4)]) (.lst (((sortI xs).map (a - 4 + ·)).map .int)) = some (.lst (.int (a - 4) :: ((sortI xs).map (a - 4 + ·)).map .int)) := if_pos (by simp [sizeLine, sortI_len]; omega)
  have hT : tabOk Q ((a - 4) :: (sortI xs).map (a - 4 + ·)) = true := tab_ok (sortI_srt xs) (fun z hz => hx z ((sortI_mem xs z).mp hz)) hq
  have hl : ((a - 4) :: (sortI xs).map (a - 4 + ·)).length = P := by simp [sortI_len]; omega
  refine ⟨(a - 4) :: (sortI xs).map (a - 4 + ·), μ2, ?_, q1, ⟨Rp.of h0 hl, by omega, hq, (tabOk_mono h0 hl).mp hT⟩⟩
  generalize (sortI xs).map (a - 4 + ·) = zs at *
  simp [tableS, e1, binD_sub, newSlot, e2, sorted_ints, e3, ad, biD_tupL, mD]
end
end Pg
end

section
set_option Elab.async false
set_option linter.all false
set_option maxRecDepth 100000
set_option maxHeartbeats 4000000
namespace Pg
open PySem PySem.Spec PyProof.Rows L2 Ev Mt
section
variable {C : Fns} {μ : Mu}
theorem comp_tab {ρ : Ev.Env} {it elt : E} {n k : Nat} {g : Int → Int} (hit : evE C it ρ μ = .ok (.rng 0 (n : Int)) μ) (hi : ∀ d, itemsE it (.rng 0 d) = some (rngL 0 d)) (hn : n ≤ 10000000) (ρ' : Nat → Ev.Env)
    (ht : ∀ i : Nat, setTg (.name k) (.int (i : Int)) (wipeE ρ (Tg.name k).slots) = some (ρ' i)) (he : ∀ i : Nat, i < n → evE C elt (ρ' i) μ = .ok (.int (g i)) μ) :
    evE C (.comp (.name k) it elt .nil) ρ μ = .ok (.lst ((tab g n).map .int)) μ := by
  have z := comp_map (C := C) (t := .name k) (it := it) (elt := elt) (ρ := ρ) (μ := μ) (μ' := μ) (x := .rng 0 (n : Int)) (ds := (List.range n).map fun i => .int ((i : Nat) : Int)) (g := fun d => match d with | .int z => .int (g z) | d => d) hit (by rw [hi, rngL_nat]) (by simp [sizeLine]; omega) (fun d hd => by
    obtain ⟨a, ha, rfl⟩ := List.mem_map.mp hd
    rw [List.mem_range] at ha
    exact ⟨_, ht a, he a ha⟩)
  rw [z, List.map_map]
  simp [tab]
def HMul (C : Fns) (f : Nat) : Prop := ∀ (a b : Nat) μ, 0 < a → a < 1000000000 → b < 1000000000 → C.call f [.int a, .int b] μ = .ok (.int (Nat.lcm a b : Nat)) μ
def HChP (C : Fns) (f : Nat) : Prop := ∀ (p : Int) μ, C.call f [.int p] μ = if 2000 < p then .ex ⟨5, some (.int 2000)⟩ μ else .ok .non μ
def chPS (c e : Nat) : S := (.seq (.cond (.cmp .gt (.var 0) (.gc c)) (.seq (.rse e (.cons (.gc c) .nil)) .skip) .skip) .skip)
theorem chP_run {c : Nat} (hc : C.con c = .int 2000) (p : Int) : fnR (evS C (chPS c 5) [.sh (.int p)] μ) = if 2000 < p then .ex ⟨5, some (.int 2000)⟩ μ else .ok .non μ := by
  by_cases h : 2000 < p <;> simp [chPS, cmpD_gt, hc, h]
theorem ixM3 (a b c : D) : ixM μ (.tup [a, b, c]) (.int 0) = some a ∧ ixM μ (.tup [a, b, c]) (.int 1) = some b ∧ ixM μ (.tup [a, b, c]) (.int 2) = some c := ⟨rfl, rfl, rfl⟩
theorem ixM_0 (P : Nat) (Q : Int) (t : List Int) : ixM μ (mD P Q t) (.int 0) = some (.int P) := rfl
theorem ixM_1 (P : Nat) (Q : Int) (t : List Int) : ixM μ (mD P Q t) (.int 1) = some (.int Q) := rfl
theorem ixM_2 (P : Nat) (Q : Int) (t : List Int) : ixM μ (mD P Q t) (.int 2) = some (.tup (t.map .int)) := rfl
def comS (fm fc : Nat) : S := (.seq (.asg false (.name 2) (.call fm (.cons (.idx (.var 0) (.int 0)) (.cons (.idx (.var 1) (.int 0)) .nil)))) (.seq (.exp (.call fc (.cons (.var 2) .nil))) (.seq (.ret (.var 2)) .skip)))
def HCom (C : Fns) (f : Nat) : Prop := ∀ {P P' : Nat} (Q Q' : Int) (t t' : List Int) μ, 0 < P → P ≤ 1000000 → P' ≤ 1000000 → C.call f [mD P Q t, mD P' Q' t'] μ = if 2000 < Nat.lcm P P' then .ex ⟨5, some (.int 2000)⟩ μ else .ok (.int (Nat.lcm P P' : Nat)) μ
theorem com_run {fm fc : Nat} (hm : HMul C fm) (hc : HChP C fc) {P P' : Nat} (Q Q' : Int) (t t' : List Int) (h0 : 0 < P) (h1 : P ≤ 1000000) (h2 : P' ≤ 1000000) :
    fnR (evS C (comS fm fc) [.sh (mD P Q t), .sh (mD P' Q' t'), .un] μ) = if 2000 < Nat.lcm P P' then .ex ⟨5, some (.int 2000)⟩ μ else .ok (.int (Nat.lcm P P' : Nat)) μ := by
  by_cases h : 2000 < Nat.lcm P P'
  · have h' : (2000 : Int) < ((Nat.lcm P P' : Nat) : Int) := by omega
    simp [comS, ixM_0, hm P P' μ h0 (by omega) (by omega), newSlot, hc _ μ, h, h']
  · have h' : ¬ (2000 : Int) < ((Nat.lcm P P' : Nat) : Int) := by omega
    simp [comS, ixM_0, hm P P' μ h0 (by omega) (by omega), newSlot, hc _ μ, h, h']
/-- the rise of a period that holds all of one -/
theorem per_mul {v : Int → Int} {P : Nat} {Q : Int} {L : Nat} (h : Mt.per v P Q) (hd : P ∣ L) : Mt.per v L (Q * ((L / P : Nat) : Int)) := fun x => by
  have := per_nat h (L / P) x
  have e : ((L / P : Nat) : Int) * (P : Int) = (L : Int) := by
    rw [← Int.natCast_mul, Nat.div_mul_cancel hd]
  rw [e] at this
  rw [this, Int.mul_comm]
def sumR (P P' : Nat) (Q Q' : Int) : Int := Q * ((Nat.lcm P P' / P : Nat) : Int) + Q' * ((Nat.lcm P P' / P' : Nat) : Int)
theorem sum_per {v v' : Int → Int} {P P' : Nat} {Q Q' : Int} (h : Mt.per v P Q) (h' : Mt.per v' P' Q') : Mt.per (fun x => v x + v' x) (Nat.lcm P P') (sumR P P' Q Q') := fun x => by
  have a := per_mul (L := Nat.lcm P P') h (Nat.dvd_lcm_left _ _) x
  have b := per_mul (L := Nat.lcm P P') h' (Nat.dvd_lcm_right _ _) x
  show v _ + v' _ = v x + v' x + _
  unfold sumR
  omega
def sumM (P P' : Nat) (Q Q' : Int) (t t' : List Int) : Nat × Int × List Int := nrm (Nat.lcm P P') (sumR P P' Q Q') (tab (fun x => vl P Q t x + vl P' Q' t' x) (Nat.lcm P P'))
theorem sumR_le {P P' : Nat} {Q Q' : Int} {B : Nat} (h0 : 0 < P) (h0' : 0 < P') (hq : 0 ≤ Q ∧ Q ≤ B) (hq' : 0 ≤ Q' ∧ Q' ≤ B) (hL : Nat.lcm P P' ≤ 2000) : 0 ≤ sumR P P' Q Q' ∧ sumR P P' Q Q' ≤ 4000 * B := by
  have d1 : Nat.lcm P P' / P ≤ 2000 := Nat.le_trans (Nat.div_le_self _ _) hL
  have d2 : Nat.lcm P P' / P' ≤ 2000 := Nat.le_trans (Nat.div_le_self _ _) hL
  unfold sumR
  generalize Nat.lcm P P' / P = a at *
  generalize Nat.lcm P P' / P' = b at *
  have h1 : 0 ≤ Q * (a : Int) := Int.mul_nonneg hq.1 (by omega)
  have h2 : 0 ≤ Q' * (b : Int) := Int.mul_nonneg hq'.1 (by omega)
  have h3 : Q * (a : Int) ≤ B * 2000 := Int.mul_le_mul hq.2 (by omega) (by omega) (by omega)
  have h4 : Q' * (b : Int) ≤ B * 2000 := Int.mul_le_mul hq'.2 (by omega) (by omega) (by omega)
  omega
def addS (fc fv fn : Nat) : S := (.seq (.asg false (.name 2) (.call fc (.cons (.var 0) (.cons (.var 1) .nil)))) (.seq (.asg false (.name 3) (.bin .add (.bin .mul (.idx (.var 0) (.int 1)) (.bin .fdiv (.var 2) (.idx (.var 0) (.int 0)))) (.bin .mul (.idx (.var 1) (.int 1)) (.bin .fdiv (.var 2) (.idx (.var 1) (.int 0)))))) (.seq (.ret (.call fn (.cons (.tup (.cons (.var 2) (.cons (.var 3) (.cons (.bi .tuple (.cons (.comp (.name 4) (.rng (.cons (.var 2) .nil)) (.bin .add (.call fv (.cons (.var 0) (.cons (.var 4) .nil))) (.call fv (.cons (.var 1) (.cons (.var 4) .nil)))) .nil) .nil)) .nil)))) .nil))) .skip)))
theorem add_step {fc fv fn : Nat} (a b : D) (L q q' p p' u v : Int) (T : List D) (res : D) (h1 : C.call fc [a, b] μ = .ok (.int L) μ) (a0 : ixM μ a (.int 0) = some (.int p)) (a1 : ixM μ a (.int 1) = some (.int q)) (b0 : ixM μ b (.int 0) = some (.int p')) (b1 : ixM μ b (.int 1) = some (.int q'))
    (f1 : binD .fdiv (.int L) (.int p) = some (.int u)) (f2 : binD .fdiv (.int L) (.int p') = some (.int v)) (m1 : binD .mul (.int q) (.int u) = some (.int (q * u))) (m2 : binD .mul (.int q') (.int v) = some (.int (q' * v)))
    (cm : evE C (.comp (.name 4) (.rng (.cons (.var 2) .nil)) (.bin .add (.call fv (.cons (.var 0) (.cons (.var 4) .nil))) (.call fv (.cons (.var 1) (.cons (.var 4) .nil)))) .nil) [.sh a, .sh b, .sh (.int L), .sh (.int (q * u + q' * v)), .un] μ = .ok (.lst T) μ)
    (hN : C.call fn [.tup [.int L, .int (q * u + q' * v), .tup T]] μ = .ok res μ) : fnR (evS C (addS fc fv fn) [.sh a, .sh b, .un, .un, .un] μ) = .ok res μ := by
  simp [addS, h1, newSlot, a0, a1, b0, b1, f1, f2, m1, m2, binD_add, cm, biD_tupL, hN]
theorem add_run {fc fv fn : Nat} (hc : HCom C fc) (hv : HVal C fv) (hn : HNorm C fn) {P P' : Nat} {Q Q' : Int} {t t' : List Int} (o : Ok3 P Q t) (o' : Ok3 P' Q' t') (hq : 0 ≤ Q ∧ Q ≤ 1000000000) (hq' : 0 ≤ Q' ∧ Q' ≤ 1000000000) :
    fnR (evS C (addS fc fv fn) [.sh (mD P Q t), .sh (mD P' Q' t'), .un, .un, .un] μ) = if 2000 < Nat.lcm P P' then .ex ⟨5, some (.int 2000)⟩ μ else .ok (nD (sumM P P' Q Q' t t')) μ := by
  have p0 := o.p0
  have p0' := o'.p0
  have hc1 := hc Q Q' t t' μ p0 o.p1 o'.p1
  by_cases h : 2000 < Nat.lcm P P'
  · simp [addS, hc1, h]
  · have L0 : 0 < Nat.lcm P P' := Nat.lcm_pos p0 p0'
    have bR := sumR_le (B := 1000000000) p0 p0' hq hq' (by omega)
    have fd1 : binD .fdiv (.int ((Nat.lcm P P' : Nat) : Int)) (.int (P : Int)) = some (.int ((Nat.lcm P P' / P : Nat) : Int)) := by
      rw [binD_fdiv _ (P : Int) (by omega) (log2_nat o.p0 (Nat.le_trans o.p1 (by decide)))]
      rfl
    have fd2 : binD .fdiv (.int ((Nat.lcm P P' : Nat) : Int)) (.int (P' : Int)) = some (.int ((Nat.lcm P P' / P' : Nat) : Int)) := by
      rw [binD_fdiv _ (P' : Int) (by omega) (log2_nat o'.p0 (Nat.le_trans o'.p1 (by decide)))]
      rfl
    have mq1 := fun z => binD_mul Q z (mulOk_l (q64 o.q))
    have mq2 := fun z => binD_mul Q' z (mulOk_l (q64 o'.q))
    have cm := comp_tab (C := C) (μ := μ) (ρ := [.sh (mD P Q t), .sh (mD P' Q' t'), .sh (.int ((Nat.lcm P P' : Nat) : Int)), .sh (.int (sumR P P' Q Q')), .un]) (it := .rng (.cons (.var 2) .nil)) (elt := .bin .add (.call fv (.cons (.var 0) (.cons (.var 4) .nil))) (.call fv (.cons (.var 1) (.cons (.var 4) .nil)))) (n := Nat.lcm P P') (k := 4) (g := fun x => vl P Q t x + vl P' Q' t' x)
      (rng1_ok (by simp) (by omega) (by omega)) (fun _ => rfl) (by omega) (fun i => [.sh (mD P Q t), .sh (mD P' Q' t'), .sh (.int ((Nat.lcm P P' : Nat) : Int)), .sh (.int (sumR P P' Q Q')), .sh (.int (i : Int))]) (fun _ => rfl) (fun i _ => by
        simp [hv o, hv o', binD_add])
    have hN := hn (P := Nat.lcm P P') (Q := sumR P P' Q Q') (t := tab (fun x => vl P Q t x + vl P' Q' t' x) (Nat.lcm P P')) ⟨L0, by omega, by omega, tab_len _ _⟩ μ
    rw [if_neg h] at hc1 ⊢
    exact add_step (mD P Q t) (mD P' Q' t') _ Q Q' P P' _ _ _ _ hc1 rfl rfl rfl rfl fd1 fd2 (mq1 _) (mq2 _) cm hN
end
end Pg
end

section
set_option Elab.async false
set_option linter.all false
set_option maxRecDepth 100000
set_option maxHeartbeats 4000000
namespace Pg
open PySem PySem.Spec PyProof.Rows L2 Ev Mt
/-- the normal form of f, within bounds -/
structure Nm (f : Int → Int) (bp : Nat) (bq : Int) (m : Nat × Int × List Int) : Prop where
  nf : ∃ P Q t, Rp f P Q t ∧ m = nrm P Q t
  hp : m.1 ≤ bp
  hq : 0 ≤ m.2.1 ∧ m.2.1 ≤ bq
theorem Nm.of {f : Int → Int} {P : Nat} {Q : Int} {t : List Int} {bp : Nat} {bq : Int} (r : Rp f P Q t) (h1 : P ≤ bp) (h2 : 0 ≤ Q ∧ Q ≤ bq) : Nm f bp bq (nrm P Q t) :=
  ⟨⟨P, Q, t, r, rfl⟩, Nat.le_trans r.nrm_le h1, (r.rise h2.1).1, Int.le_trans (r.rise h2.1).2 h2.2⟩
theorem Nm.rp {f : Int → Int} {bp : Nat} {bq : Int} {m : Nat × Int × List Int} (n : Nm f bp bq m) : Rp f m.1 m.2.1 m.2.2 := by
  obtain ⟨P, Q, t, r, rfl⟩ := n.nf
  exact r.nrm
theorem Nm.eq {f g : Int → Int} {bp bp' : Nat} {bq bq' : Int} {m m' : Nat × Int × List Int} (n : Nm f bp bq m) (n' : Nm g bp' bq' m') (h : ∀ x, f x = g x) : m = m' := by
  obtain ⟨P, Q, t, r, rfl⟩ := n.nf
  obtain ⟨P', Q', t', r', rfl⟩ := n'.nf
  have : f = g := funext h
  subst this
  exact r.eq r'
section
variable {C : Fns} {μ : Mu}
theorem Rp.ok3 {f : Int → Int} {P : Nat} {Q : Int} {t : List Int} (r : Rp f P Q t) (h : P ≤ 1000000) (hq : 0 ≤ Q) (hq2 : Q < 1000000000000000000) : Ok3 P Q t := ⟨r.p0, h, by omega, r.l⟩
theorem fdivN (L : Int) {P : Nat} (h : 0 < P) (h1 : P ≤ 1000000) : binD .fdiv (.int L) (.int (P : Int)) = some (.int (L / P)) := binD_fdiv _ (P : Int) (by omega) (log2_nat h (Nat.le_trans h1 (by decide)))
def lsumS (fm fv fn : Nat) : S := (.seq (.asg false (.name 2) (.call fm (.cons (.idx (.var 0) (.int 0)) (.cons (.idx (.var 1) (.int 0)) .nil)))) (.seq (.asg false (.name 3) (.bin .add (.bin .fdiv (.bin .mul (.idx (.var 0) (.int 1)) (.var 2)) (.idx (.var 0) (.int 0))) (.bin .fdiv (.bin .mul (.idx (.var 1) (.int 1)) (.var 2)) (.idx (.var 1) (.int 0))))) (.seq (.ret (.call fn (.cons (.var 2) (.cons (.var 3) (.cons (.bi .tuple (.cons (.comp (.name 4) (.rng (.cons (.var 2) .nil)) (.bin .add (.call fv (.cons (.var 0) (.cons (.var 4) .nil))) (.call fv (.cons (.var 1) (.cons (.var 4) .nil)))) .nil) .nil)) .nil))))) .skip)))
theorem lsum_step {fm fv fn : Nat} (a b : D) (L q q' p p' u v : Int) (T : List D) (res : D) (h1 : C.call fm [.int p, .int p'] μ = .ok (.int L) μ) (a0 : ixM μ a (.int 0) = some (.int p)) (a1 : ixM μ a (.int 1) = some (.int q)) (b0 : ixM μ b (.int 0) = some (.int p')) (b1 : ixM μ b (.int 1) = some (.int q'))
    (m1 : binD .mul (.int q) (.int L) = some (.int (q * L))) (m2 : binD .mul (.int q') (.int L) = some (.int (q' * L))) (f1 : binD .fdiv (.int (q * L)) (.int p) = some (.int u)) (f2 : binD .fdiv (.int (q' * L)) (.int p') = some (.int v))
    (cm : evE C (.comp (.name 4) (.rng (.cons (.var 2) .nil)) (.bin .add (.call fv (.cons (.var 0) (.cons (.var 4) .nil))) (.call fv (.cons (.var 1) (.cons (.var 4) .nil)))) .nil) [.sh a, .sh b, .sh (.int L), .sh (.int (u + v)), .un] μ = .ok (.lst T) μ)
    (hN : C.call fn [.int L, .int (u + v), .tup T] μ = .ok res μ) : fnR (evS C (lsumS fm fv fn) [.sh a, .sh b, .un, .un, .un] μ) = .ok res μ := by
  simp [lsumS, h1, newSlot, a0, a1, b0, b1, f1, f2, m1, m2, binD_add, cm, biD_tupL, hN]
theorem comp_sum {fv : Nat} (hv : HVal C fv) {P P' : Nat} {Q Q' : Int} {t t' : List Int} (o : Ok3 P Q t) (o' : Ok3 P' Q' t') (L : Nat) (hL : L ≤ 1000000) (R : Int) :
    evE C (.comp (.name 4) (.rng (.cons (.var 2) .nil)) (.bin .add (.call fv (.cons (.var 0) (.cons (.var 4) .nil))) (.call fv (.cons (.var 1) (.cons (.var 4) .nil)))) .nil) [.sh (mD P Q t), .sh (mD P' Q' t'), .sh (.int L), .sh (.int R), .un] μ = .ok (.lst ((tab (fun x => vl P Q t x + vl P' Q' t' x) L).map .int)) μ :=
  comp_tab (C := C) (μ := μ) (n := L) (k := 4) (g := fun x => vl P Q t x + vl P' Q' t' x)
      (rng1_ok (by simp) (by omega) (by omega)) (fun _ => rfl) (by omega) (fun i => [.sh (mD P Q t), .sh (mD P' Q' t'), .sh (.int L), .sh (.int R), .sh (.int (i : Int))]) (fun _ => rfl) (fun i _ => by
        simp [hv o, hv o', binD_add])
theorem sum_ediv {L P : Nat} (Q : Int) (h : P ∣ L) : Q * (L : Int) / (P : Int) = Q * ((L / P : Nat) : Int) := by
  rw [Int.mul_ediv_assoc _ (Int.natCast_dvd_natCast.mpr h), Int.natCast_ediv]
theorem lsum_run {fm fv fn : Nat} (hm : HMul C fm) (hv : HVal C fv) (hn : HLn C fn) {P P' : Nat} {Q Q' : Int} {t t' : List Int} (o : Ok3 P Q t) (o' : Ok3 P' Q' t') (hq : 0 ≤ Q ∧ Q ≤ 1000000000) (hq' : 0 ≤ Q' ∧ Q' ≤ 1000000000) (hL : Nat.lcm P P' ≤ 2000) :
    fnR (evS C (lsumS fm fv fn) [.sh (mD P Q t), .sh (mD P' Q' t'), .un, .un, .un] μ) = .ok (nD (sumM P P' Q Q' t t')) μ := by
  have p0 := o.p0
  have p0' := o'.p0
  have p1 := o.p1
  have p1' := o'.p1
  have L0 : 0 < Nat.lcm P P' := Nat.lcm_pos p0 p0'
  have bR := sumR_le (B := 1000000000) p0 p0' hq hq' (by omega)
  have er : Q * ((Nat.lcm P P' : Nat) : Int) / (P : Int) + Q' * ((Nat.lcm P P' : Nat) : Int) / (P' : Int) = sumR P P' Q Q' := by
    rw [sum_ediv Q (Nat.dvd_lcm_left _ _), sum_ediv Q' (Nat.dvd_lcm_right _ _)]
    rfl
  have hN := hn (P := Nat.lcm P P') (Q := sumR P P' Q Q') (t := tab (fun x => vl P Q t x + vl P' Q' t' x) (Nat.lcm P P')) ⟨L0, by omega, by omega, tab_len _ _⟩ μ
  rw [← er] at hN
  have cm := comp_sum (μ := μ) hv o o' (Nat.lcm P P') (by omega) (Q * ((Nat.lcm P P' : Nat) : Int) / (P : Int) + Q' * ((Nat.lcm P P' : Nat) : Int) / (P' : Int))
  have e1 : nD (sumM P P' Q Q' t t') = nD (nrm (Nat.lcm P P') (Q * ((Nat.lcm P P' : Nat) : Int) / (P : Int) + Q' * ((Nat.lcm P P' : Nat) : Int) / (P' : Int)) (tab (fun x => vl P Q t x + vl P' Q' t' x) (Nat.lcm P P'))) := by rw [er]; rfl
  rw [e1]
  exact lsum_step (mD P Q t) (mD P' Q' t') _ Q Q' P P' _ _ _ _ (hm P P' μ p0 (by omega) (by omega)) rfl rfl rfl rfl (binD_mul Q _ (mulOk_l (q64 o.q))) (binD_mul Q' _ (mulOk_l (q64 o'.q))) (fdivN _ p0 p1) (fdivN _ p0' p1') cm hN
theorem sum_rp {f g : Int → Int} {P P' : Nat} {Q Q' : Int} {t t' : List Int} (r : Rp f P Q t) (r' : Rp g P' Q' t') : Rp (fun x => f x + g x) (Nat.lcm P P') (sumR P P' Q Q') (tab (fun x => vl P Q t x + vl P' Q' t' x) (Nat.lcm P P')) := by
  have e : (fun x => vl P Q t x + vl P' Q' t' x) = fun x => f x + g x := funext fun x => by rw [r.v, r'.v]
  rw [e]
  exact Rp.tab (Nat.lcm_pos r.p0 r'.p0) (sum_per r.per r'.per)
def partN (k : Nat) (Q : Int) : Nat := k / Nat.gcd k Q.toNat
theorem part_dvd (k : Nat) {Q : Int} (hq : 0 ≤ Q) (hk : 0 < k) : (k : Int) ∣ Q * (partN k Q : Int) := by
  obtain ⟨n, rfl⟩ : ∃ n : Nat, Q = (n : Int) := ⟨Q.toNat, by omega⟩
  unfold partN
  rw [Int.toNat_natCast, ← Int.natCast_mul, Int.natCast_dvd_natCast]
  obtain ⟨a, ha⟩ := Nat.gcd_dvd_right k n
  obtain ⟨b, hb⟩ := Nat.gcd_dvd_left k n
  have g0 : 0 < Nat.gcd k n := Nat.gcd_pos_of_pos_left _ hk
  have e : k / Nat.gcd k n = b := Nat.div_eq_of_eq_mul_right g0 hb
  rw [e]
  exact ⟨a, by
    have h1 : n * b = Nat.gcd k n * a * b := by rw [← ha]
    have h2 : k * a = Nat.gcd k n * b * a := by rw [← hb]
    rw [h1, h2, Nat.mul_assoc, Nat.mul_assoc, Nat.mul_comm a b]⟩
theorem div_shift {k : Int} (hk : 0 < k) {f : Int → Int} {p q : Int} (h : Mt.per f p q) (hd : k ∣ q) : Mt.per (fun x => f x / k) p (q / k) := fun x => by
  show f (x + p) / k = f x / k + q / k
  rw [h x]
  obtain ⟨c, rfl⟩ := hd
  rw [Int.mul_ediv_cancel_left _ (by omega), Int.add_mul_ediv_left _ _ (by omega)]
theorem part_per {f : Int → Int} {P : Nat} {Q : Int} {k : Nat} (hk : 0 < k) (hq : 0 ≤ Q) (h : Mt.per f P Q) : Mt.per (fun x => f x / (k : Int)) ((P * partN k Q : Nat) : Int) (Q * (partN k Q : Int) / (k : Int)) := by
  have a : Mt.per f ((P * partN k Q : Nat) : Int) (Q * (partN k Q : Int)) := fun x => by
    have := per_nat h (partN k Q) x
    rw [Int.mul_comm Q, Int.natCast_mul, Int.mul_comm (P : Int)]
    exact this
  exact div_shift (by omega) a (part_dvd k hq hk)
def divOfS (fg fc fv fn : Nat) : S := (.seq (.asg false (.name 2) (.bin .fdiv (.var 1) (.call fg (.cons (.var 1) (.cons (.idx (.var 0) (.int 1)) .nil))))) (.seq (.asg false (.name 3) (.bin .mul (.idx (.var 0) (.int 0)) (.var 2))) (.seq (.exp (.call fc (.cons (.var 3) .nil))) (.seq (.ret (.call fn (.cons (.tup (.cons (.var 3) (.cons (.bin .fdiv (.bin .mul (.idx (.var 0) (.int 1)) (.var 2)) (.var 1)) (.cons (.bi .tuple (.cons (.comp (.name 4) (.rng (.cons (.var 3) .nil)) (.bin .fdiv (.call fv (.cons (.var 0) (.cons (.var 4) .nil))) (.var 1)) .nil) .nil)) .nil)))) .nil))) .skip))))
theorem divOf_step {fg fc fv fn : Nat} (a : D) (k g u p q L R : Int) (T : List D) (res : D) (a0 : ixM μ a (.int 0) = some (.int p)) (a1 : ixM μ a (.int 1) = some (.int q)) (h1 : C.call fg [.int k, .int q] μ = .ok (.int g) μ) (f1 : binD .fdiv (.int k) (.int g) = some (.int u))
    (m1 : binD .mul (.int p) (.int u) = some (.int L)) (hc : C.call fc [.int L] μ = .ok .non μ) (m2 : binD .mul (.int q) (.int u) = some (.int (q * u))) (f2 : binD .fdiv (.int (q * u)) (.int k) = some (.int R))
    (cm : evE C (.comp (.name 4) (.rng (.cons (.var 3) .nil)) (.bin .fdiv (.call fv (.cons (.var 0) (.cons (.var 4) .nil))) (.var 1)) .nil) [.sh a, .sh (.int k), .sh (.int u), .sh (.int L), .un] μ = .ok (.lst T) μ)
    (hN : C.call fn [.tup [.int L, .int R, .tup T]] μ = .ok res μ) : fnR (evS C (divOfS fg fc fv fn) [.sh a, .sh (.int k), .un, .un, .un] μ) = .ok res μ := by
  simp [divOfS, a0, a1, h1, f1, newSlot, m1, hc, m2, f2, cm, biD_tupL, hN]
theorem partN_le {k : Nat} (Q : Int) : partN k Q ≤ k := Nat.div_le_self _ _
theorem partN_pos {k : Nat} (hk : 0 < k) (Q : Int) : 0 < partN k Q := Nat.div_pos (Nat.gcd_le_left _ hk) (Nat.gcd_pos_of_pos_left _ hk)
theorem divOf_run {fg fc fv fn : Nat} (hg : HDiv C fg) (hc : HChP C fc) (hv : HVal C fv) (hn : HNorm C fn) {f : Int → Int} {P : Nat} {Q : Int} {t : List Int} (r : Rp f P Q t) (hP : P ≤ 1000000) (hq : 0 ≤ Q) (hq2 : Q ≤ 1000000000) (k : Nat) (hk : 0 < k) (hk2 : k ≤ 1000) (hPk : P * k ≤ 2000) :
    ∃ m, fnR (evS C (divOfS fg fc fv fn) [.sh (mD P Q t), .sh (.int k), .un, .un, .un] μ) = .ok (nD m) μ ∧ Nm (fun x => f x / (k : Int)) 2000 Q m := by
  have o := Rp.ok3 r hP hq (by omega)
  have ul := partN_le (k := k) Q
  have u0 := partN_pos hk Q
  have Lle : P * partN k Q ≤ P * k := Nat.mul_le_mul_left _ ul
  have L0 : 0 < P * partN k Q := Nat.mul_pos r.p0 u0
  have pp := part_per hk hq r.per
  have e : (fun x => vl P Q t x / (k : Int)) = fun x => f x / (k : Int) := funext fun x => by rw [r.v]
  have rp : Rp (fun x => f x / (k : Int)) (P * partN k Q) (Q * (partN k Q : Int) / (k : Int)) (tab (fun x => vl P Q t x / (k : Int)) (P * partN k Q)) := by
    rw [e]
    exact Rp.tab L0 pp
  have R0 : 0 ≤ Q * (partN k Q : Int) / (k : Int) := Int.ediv_nonneg (Int.mul_nonneg hq (by omega)) (by omega)
  have R1 : Q * (partN k Q : Int) / (k : Int) ≤ Q := by
    have : Q * (partN k Q : Int) ≤ Q * (k : Int) := Int.mul_le_mul_of_nonneg_left (by omega) hq
    calc Q * (partN k Q : Int) / (k : Int) ≤ Q * (k : Int) / (k : Int) := Int.ediv_le_ediv (by omega) this
      _ = Q := Int.mul_ediv_cancel _ (by omega)
  refine ⟨nrm (P * partN k Q) (Q * (partN k Q : Int) / (k : Int)) (tab (fun x => vl P Q t x / (k : Int)) (P * partN k Q)), ?_, Nm.of rp (by omega) ⟨R0, R1⟩⟩
  have hN := hn (Rp.ok3 rp (by omega) R0 (by omega)) μ
  have hG : C.call fg [.int (k : Int), .int Q] μ = .ok (.int (Nat.gcd k Q.toNat : Nat)) μ := by
    have := hg k Q.toNat μ (by omega)
    have e : ((Q.toNat : Nat) : Int) = Q := by omega
    rw [e] at this
    exact this
  have g0 : 0 < Nat.gcd k Q.toNat := Nat.gcd_pos_of_pos_left _ hk
  have gle : Nat.gcd k Q.toNat ≤ k := Nat.gcd_le_left _ hk
  have f1 : binD .fdiv (.int (k : Int)) (.int ((Nat.gcd k Q.toNat : Nat) : Int)) = some (.int (partN k Q : Int)) := by
    rw [fdivN _ g0 (by omega)]
    unfold partN
    rw [Int.natCast_ediv]
  have m1 : binD .mul (.int (P : Int)) (.int (partN k Q : Int)) = some (.int ((P * partN k Q : Nat) : Int)) := by
    rw [binD_mul _ _ (mulOk_l (by omega)), Int.natCast_mul]
  have cm := comp_tab (C := C) (μ := μ) (ρ := [.sh (mD P Q t), .sh (.int (k : Int)), .sh (.int (partN k Q : Int)), .sh (.int ((P * partN k Q : Nat) : Int)), .un]) (it := .rng (.cons (.var 3) .nil)) (elt := .bin .fdiv (.call fv (.cons (.var 0) (.cons (.var 4) .nil))) (.var 1)) (n := P * partN k Q) (k := 4) (g := fun x => vl P Q t x / (k : Int))
      (rng1_ok (by simp) (by omega) (by omega)) (fun _ => rfl) (by omega) (fun i => [.sh (mD P Q t), .sh (.int (k : Int)), .sh (.int (partN k Q : Int)), .sh (.int ((P * partN k Q : Nat) : Int)), .sh (.int (i : Int))]) (fun _ => rfl) (fun i _ => by
        have := fdivN (vl P Q t i) hk (by omega)
        simp [hv o, this])
  have hC : C.call fc [.int ((P * partN k Q : Nat) : Int)] μ = .ok .non μ := by rw [hc _ μ, if_neg (by omega)]
  exact divOf_step (mD P Q t) (k : Int) _ _ (P : Int) Q _ _ _ _ rfl rfl hG f1 m1 hC (binD_mul Q _ (mulOk_l (q64 o.q))) (fdivN _ hk (by omega)) cm hN
/-- the own part -/
def lpartS (fv fn : Nat) : S := (.seq (.ret (.call fn (.cons (.bin .mul (.idx (.var 0) (.int 0)) (.var 1)) (.cons (.idx (.var 0) (.int 1)) (.cons (.bi .tuple (.cons (.comp (.name 2) (.rng (.cons (.bin .mul (.idx (.var 0) (.int 0)) (.var 1)) .nil)) (.bin .fdiv (.call fv (.cons (.var 0) (.cons (.var 2) .nil))) (.var 1)) .nil) .nil)) .nil))))) .skip)
theorem lpart_step {fv fn : Nat} (a : D) (k p q L : Int) (T : List D) (res : D) (a0 : ixM μ a (.int 0) = some (.int p)) (a1 : ixM μ a (.int 1) = some (.int q)) (m1 : binD .mul (.int p) (.int k) = some (.int L))
    (cm : evE C (.comp (.name 2) (.rng (.cons (.bin .mul (.idx (.var 0) (.int 0)) (.var 1)) .nil)) (.bin .fdiv (.call fv (.cons (.var 0) (.cons (.var 2) .nil))) (.var 1)) .nil) [.sh a, .sh (.int k), .un] μ = .ok (.lst T) μ)
    (hN : C.call fn [.int L, .int q, .tup T] μ = .ok res μ) : fnR (evS C (lpartS fv fn) [.sh a, .sh (.int k), .un] μ) = .ok res μ := by
  simp [lpartS, a0, a1, m1, cm, biD_tupL, hN]
theorem lpart_run {fv fn : Nat} (hv : HVal C fv) (hn : HLn C fn) {f : Int → Int} {P : Nat} {Q : Int} {t : List Int} (r : Rp f P Q t) (hP : P ≤ 1000000) (hq : 0 ≤ Q) (hq2 : Q ≤ 1000000000) (k : Nat) (hk : 0 < k) (hk2 : k ≤ 1000) (hPk : P * k ≤ 2000) :
    ∃ m, fnR (evS C (lpartS fv fn) [.sh (mD P Q t), .sh (.int k), .un] μ) = .ok (nD m) μ ∧ Nm (fun x => f x / (k : Int)) 2000 Q m := by
  have o := Rp.ok3 r hP hq (by omega)
  have L0 : 0 < P * k := Nat.mul_pos r.p0 hk
  have e : (fun x => vl P Q t x / (k : Int)) = fun x => f x / (k : Int) := funext fun x => by rw [r.v]
  have pr : Mt.per (fun x => f x / (k : Int)) ((P * k : Nat) : Int) Q := by
    have a : Mt.per f ((P * k : Nat) : Int) ((k : Int) * Q) := fun x => by
      have := per_nat r.per k x
      rw [Int.natCast_mul, Int.mul_comm (P : Int)]
      exact this
    have := div_shift (k := (k : Int)) (by omega) a ⟨Q, rfl⟩
    rw [Int.mul_ediv_cancel_left _ (by omega)] at this
    exact this
  have rp : Rp (fun x => f x / (k : Int)) (P * k) Q (tab (fun x => vl P Q t x / (k : Int)) (P * k)) := by
    rw [e]
    exact Rp.tab L0 pr
  have m1 : binD .mul (.int (P : Int)) (.int (k : Int)) = some (.int ((P * k : Nat) : Int)) := by
    rw [binD_mul _ _ (mulOk_l (by omega)), Int.natCast_mul]
  have cm := comp_tab (C := C) (μ := μ) (ρ := [.sh (mD P Q t), .sh (.int (k : Int)), .un]) (it := .rng (.cons (.bin .mul (.idx (.var 0) (.int 0)) (.var 1)) .nil)) (elt := .bin .fdiv (.call fv (.cons (.var 0) (.cons (.var 2) .nil))) (.var 1)) (n := P * k) (k := 2) (g := fun x => vl P Q t x / (k : Int))
      (rng1_ok (by simp [ixM_0, m1]) (by omega) (by omega)) (fun _ => rfl) (by omega) (fun i => [.sh (mD P Q t), .sh (.int (k : Int)), .sh (.int (i : Int))]) (fun _ => rfl) (fun i _ => by
        have := fdivN (vl P Q t i) hk (by omega)
        simp [hv o, this])
  exact ⟨_, lpart_step (mD P Q t) (k : Int) (P : Int) Q _ _ _ rfl rfl m1 cm (hn (Rp.ok3 rp (by omega) hq (by omega)) μ), Nm.of rp (by omega) ⟨hq, Int.le_refl _⟩⟩
theorem vl_times (P : Nat) (Q : Int) (t : List Int) (k x : Int) (h0 : 0 < P) (hl : t.length = P) : vl P (Q * k) (t.map (· * k)) x = vl P Q t x * k := by
  obtain ⟨r, b, hr, rfl⟩ := split_x h0 x
  rw [vl_at r b hr, vl_at r b hr]
  have e : (t.map (· * k)).getD r 0 = t.getD r 0 * k := by
    simp only [List.getD_eq_getElem?_getD, List.getElem?_map]
    rw [List.getElem?_eq_getElem (by omega)]
    rfl
  rw [e, Int.add_mul, Int.mul_assoc]
theorem times_rp {f : Int → Int} {P : Nat} {Q : Int} {t : List Int} (r : Rp f P Q t) (k : Int) : Rp (fun x => f x * k) P (Q * k) (t.map (· * k)) :=
  ⟨r.p0, by rw [List.length_map, r.l], fun x => by rw [vl_times P Q t k x r.p0 r.l, r.v]⟩
end
end Pg
end

section
set_option Elab.async false
set_option linter.all false
set_option maxRecDepth 100000
set_option maxHeartbeats 1000000
namespace Mt
open Pg Ev
def isum : List Int → Int
  | [] => 0
  | x :: r => x + isum r
theorem isum_app : ∀ a b : List Int, isum (a ++ b) = isum a + isum b
  | [], b => by simp [isum]
  | x :: a, b => by
    show x + isum (a ++ b) = x + isum a + isum b
    rw [isum_app a b]
    omega
theorem isum_take {t : List Int} {r : Nat} (h : r < t.length) : isum (t.take (r + 1)) = isum (t.take r) + t.getD r 0 := by
  rw [List.take_succ, isum_app]
  congr 1
  simp [List.getD_eq_getElem?_getD, h, isum]
def sumTo (P : Nat) (Q : Int) (t : List Int) (x : Int) : Int := x / P * isum t + Q * P * (x / P * (x / P - 1) / 2) + isum (t.take (x % P).toNat) + x % P * (x / P) * Q
theorem tri (b : Int) : (b + 1) * (b + 1 - 1) / 2 = b * (b - 1) / 2 + b := by
  have e : (b + 1) * (b + 1 - 1) = b * (b - 1) + b * 2 := by
    rw [Int.add_sub_cancel, Int.add_mul, Int.mul_sub]
    omega
  rw [e, Int.add_mul_ediv_right _ _ (by decide)]
theorem sumTo_at {P : Nat} {Q : Int} {t : List Int} (r : Nat) (b : Int) (h : r < P) : sumTo P Q t (r + b * P) = b * isum t + Q * P * (b * (b - 1) / 2) + isum (t.take r) + r * b * Q := by
  unfold sumTo
  have h0 : (P : Int) ≠ 0 := by omega
  have e1 : ((r : Int) + b * P) / P = b := by
    rw [Int.add_mul_ediv_right _ _ h0, Int.ediv_eq_zero_of_lt (by omega) (by omega)]
    omega
  have e2 : ((r : Int) + b * P) % P = r := by
    rw [Int.add_mul_emod_self_right]
    exact Int.emod_eq_of_lt (by omega) (by omega)
  rw [e1, e2, Int.toNat_natCast]
theorem sumTo_succ {P : Nat} {Q : Int} {t : List Int} (h0 : 0 < P) (hl : t.length = P) (x : Int) : sumTo P Q t (x + 1) = sumTo P Q t x + vl P Q t x := by
  obtain ⟨r, b, hr, rfl⟩ := split_x h0 x
  rw [vl_at r b hr, sumTo_at r b hr]
  by_cases hr2 : r + 1 < P
  · have e : (r : Int) + b * P + 1 = ((r + 1 : Nat) : Int) + b * P := by push_cast; omega
    rw [e, sumTo_at _ b hr2, isum_take (by omega)]
    have e3 : ((r + 1 : Nat) : Int) * b * Q = r * b * Q + b * Q := by
      push_cast
      rw [Int.add_mul, Int.one_mul, Int.add_mul]
    omega
  · have e : (r : Int) + b * P + 1 = ((0 : Nat) : Int) + (b + 1) * P := by
      rw [Int.add_mul]
      push_cast
      omega
    rw [e, sumTo_at _ (b + 1) h0, tri]
    have hs : isum t = isum (t.take r) + t.getD r 0 := by
      rw [← isum_take (by omega), List.take_of_length_le (by omega)]
    have e4 : Q * P * (b * (b - 1) / 2 + b) = Q * P * (b * (b - 1) / 2) + Q * P * b := Int.mul_add _ _ _
    have e5 : (r : Int) * b * Q + b * Q = Q * P * b := by
      have : (r : Int) * b * Q + b * Q = (r + 1) * (b * Q) := by
        rw [Int.add_mul, Int.one_mul, Int.mul_assoc]
      rw [this, show (r : Int) + 1 = P by omega, Int.mul_comm Q P, Int.mul_assoc, Int.mul_comm b Q]
    have e6 : (b + 1) * isum t = b * isum t + isum t := by rw [Int.add_mul, Int.one_mul]
    rw [e4, e6]
    have e7 : isum (t.take 0) = 0 := rfl
    rw [e7]
    simp only [Int.natCast_zero, Int.zero_mul]
    omega
/-- values from x on, n of them, together -/
def psum (f : Int → Int) (x : Int) : Nat → Int
  | 0 => 0
  | n + 1 => psum f x n + f (x + n)
theorem sumTo_psum {P : Nat} {Q : Int} {t : List Int} (h0 : 0 < P) (hl : t.length = P) (x : Int) : ∀ n : Nat, sumTo P Q t (x + n) - sumTo P Q t x = psum (vl P Q t) x n
  | 0 => by simp [psum]
  | n + 1 => by
    have ih := sumTo_psum (Q := Q) h0 hl x n
    have e : x + ((n + 1 : Nat) : Int) = x + n + 1 := by omega
    rw [e, sumTo_succ h0 hl]
    unfold psum
    omega
def IsMin (l : List Int) (m : Int) : Prop := m ∈ l ∧ ∀ z ∈ l, m ≤ z
def IsMax (l : List Int) (m : Int) : Prop := m ∈ l ∧ ∀ z ∈ l, z ≤ m
theorem mnI_spec : ∀ (l : List Int) (m : Int), IsMin (m :: l) (mnI m l)
  | [], m => ⟨by simp [mnI], by simp [mnI]⟩
  | x :: r, m => by
    unfold mnI
    by_cases h : x < m
    · obtain ⟨h1, h2⟩ := mnI_spec r x
      rw [if_pos h]
      refine ⟨by simp at h1 ⊢; rcases h1 with h1 | h1 <;> simp [h1], fun z hz => ?_⟩
      rcases List.mem_cons.mp hz with rfl | hz
      · have := h2 x (by simp)
        omega
      · exact h2 z hz
    · obtain ⟨h1, h2⟩ := mnI_spec r m
      rw [if_neg h]
      refine ⟨by simp at h1 ⊢; rcases h1 with h1 | h1 <;> simp [h1], fun z hz => ?_⟩
      rcases List.mem_cons.mp hz with rfl | hz
      · exact h2 _ (by simp)
      · rcases List.mem_cons.mp hz with rfl | hz
        · have := h2 m (by simp)
          omega
        · exact h2 z (by simp [hz])
theorem mxI_spec : ∀ (l : List Int) (m : Int), IsMax (m :: l) (mxI m l)
  | [], m => ⟨by simp [mxI], by simp [mxI]⟩
  | x :: r, m => by
    unfold mxI
    by_cases h : m < x
    · obtain ⟨h1, h2⟩ := mxI_spec r x
      rw [if_pos h]
      refine ⟨by simp at h1 ⊢; rcases h1 with h1 | h1 <;> simp [h1], fun z hz => ?_⟩
      rcases List.mem_cons.mp hz with rfl | hz
      · have := h2 x (by simp)
        omega
      · exact h2 z hz
    · obtain ⟨h1, h2⟩ := mxI_spec r m
      rw [if_neg h]
      refine ⟨by simp at h1 ⊢; rcases h1 with h1 | h1 <;> simp [h1], fun z hz => ?_⟩
      rcases List.mem_cons.mp hz with rfl | hz
      · exact h2 _ (by simp)
      · rcases List.mem_cons.mp hz with rfl | hz
        · have := h2 m (by simp)
          omega
        · exact h2 z (by simp [hz])
theorem IsMin.uniq {l l' : List Int} {m m' : Int} (h : IsMin l m) (h' : IsMin l' m') (e : ∀ z, z ∈ l ↔ z ∈ l') : m = m' := by
  have := h.2 m' ((e m').mpr h'.1)
  have := h'.2 m ((e m).mp h.1)
  omega
theorem IsMax.uniq {l l' : List Int} {m m' : Int} (h : IsMax l m) (h' : IsMax l' m') (e : ∀ z, z ∈ l ↔ z ∈ l') : m = m' := by
  have := h.2 m' ((e m').mpr h'.1)
  have := h'.2 m ((e m).mp h.1)
  omega
theorem tab_mem {g : Int → Int} {n : Nat} {z : Int} : z ∈ tab g n ↔ ∃ i : Nat, i < n ∧ z = g i := by
  simp [tab]
  constructor
  · rintro ⟨i, h, rfl⟩; exact ⟨i, h, rfl⟩
  · rintro ⟨i, h, rfl⟩; exact ⟨i, h, rfl⟩
theorem tab_round {g : Int → Int} {n m : Nat} (hn : 0 < n) (hm : 0 < m) (h : per g n 0) (z : Int) : z ∈ tab g (m * n) ↔ z ∈ tab g n := by
  rw [tab_mem, tab_mem]
  constructor
  · rintro ⟨i, hi, rfl⟩
    refine ⟨i % n, Nat.mod_lt _ hn, ?_⟩
    have := per_nat h (i / n) ((i % n : Nat) : Int)
    have e : ((i % n : Nat) : Int) + ((i / n : Nat) : Int) * (n : Int) = (i : Int) := by
      have := Nat.mod_add_div i n
      rw [Nat.mul_comm] at this
      exact_mod_cast this
    rw [e] at this
    simpa using this
  · rintro ⟨i, hi, rfl⟩
    exact ⟨i, Nat.lt_of_lt_of_le hi (Nat.le_mul_of_pos_left _ hm), rfl⟩
theorem tab_succ (g : Int → Int) (n : Nat) : tab g (n + 1) = tab g n ++ [g n] := by
  simp [tab, List.range_succ]
theorem isum_tab (g : Int → Int) : ∀ n : Nat, isum (tab g n) = psum g 0 n
  | 0 => rfl
  | n + 1 => by
    rw [tab_succ, isum_app, isum_tab g n]
    show _ + (g n + 0) = psum g 0 n + g (0 + n)
    rw [Int.zero_add, Int.add_zero]
theorem psum_per {g : Int → Int} {n : Nat} (h : per g n 0) : ∀ (k : Nat) (x : Int), psum g (x + n) k = psum g x k
  | 0, x => rfl
  | k + 1, x => by
    unfold psum
    rw [psum_per h k x]
    have e : x + n + (k : Int) = (x + k) + n := by omega
    rw [e, h]
    omega
theorem psum_app (g : Int → Int) (x : Int) (a : Nat) : ∀ b : Nat, psum g x (a + b) = psum g x a + psum g (x + a) b
  | 0 => by simp [psum]
  | b + 1 => by
    have e : a + (b + 1) = (a + b) + 1 := by omega
    rw [e]
    show psum g x (a + b) + g (x + ((a + b : Nat) : Int)) = psum g x a + (psum g (x + a) b + g (x + a + (b : Int)))
    rw [psum_app g x a b]
    have e : x + ((a + b : Nat) : Int) = x + a + b := by push_cast; omega
    rw [e]
    omega
theorem psum_round {g : Int → Int} {n : Nat} (h : per g n 0) (x : Int) : ∀ m : Nat, psum g x (m * n) = m * psum g x n
  | 0 => by simp [psum]
  | m + 1 => by
    rw [Nat.succ_mul, psum_app, psum_round h x m]
    have e : psum g (x + ((m * n : Nat) : Int)) n = psum g x n := by
      have : ∀ m : Nat, psum g (x + ((m * n : Nat) : Int)) n = psum g x n := fun m => by
        induction m with
        | zero => simp
        | succ m ih =>
          have e : x + (((m + 1) * n : Nat) : Int) = (x + ((m * n : Nat) : Int)) + n := by
            rw [Nat.succ_mul]
            push_cast
            omega
          rw [e, psum_per h, ih]
      exact this m
    rw [e]
    push_cast
    rw [Int.add_mul]
    omega
def frac (a : Int) (b : Nat) : Int × Int := (a / (Nat.gcd a.natAbs b : Nat), (b : Int) / (Nat.gcd a.natAbs b : Nat))
theorem frac_mul (a : Int) {b m : Nat} (hm : 0 < m) (hb : 0 < b) : frac (m * a) (m * b) = frac a b := by
  unfold frac
  have e : Nat.gcd ((m : Int) * a).natAbs (m * b) = m * Nat.gcd a.natAbs b := by
    rw [Int.natAbs_mul, Int.natAbs_natCast, Nat.gcd_mul_left]
  have g0 : 0 < Nat.gcd a.natAbs b := Nat.gcd_pos_of_pos_right _ hb
  rw [e, Int.natCast_mul, Int.natCast_mul, Int.mul_ediv_mul_of_pos _ _ (by omega), Int.mul_ediv_mul_of_pos _ _ (by omega)]
theorem frac_eq_iff {a c : Int} {b d : Nat} (hb : 0 < b) (hd : 0 < d) (ha : 0 ≤ a) (hc : 0 ≤ c) : frac a b = frac c d ↔ a * d = c * b := by
  obtain ⟨a, rfl⟩ : ∃ n : Nat, a = (n : Int) := ⟨a.toNat, by omega⟩
  obtain ⟨c, rfl⟩ : ∃ n : Nat, c = (n : Int) := ⟨c.toNat, by omega⟩
  unfold frac
  simp only [Int.natAbs_natCast]
  obtain ⟨u, hu⟩ := Nat.gcd_dvd_left a b
  obtain ⟨v, hv⟩ := Nat.gcd_dvd_right a b
  obtain ⟨w, hw⟩ := Nat.gcd_dvd_left c d
  obtain ⟨z, hz⟩ := Nat.gcd_dvd_right c d
  have g1 : 0 < Nat.gcd a b := Nat.gcd_pos_of_pos_right _ hb
  have g2 : 0 < Nat.gcd c d := Nat.gcd_pos_of_pos_right _ hd
  have k1 : Nat.Coprime u v := by
    have := Nat.gcd_mul_left (Nat.gcd a b) u v
    rw [← hu, ← hv] at this
    exact Nat.eq_of_mul_eq_mul_left g1 (by rw [← this, Nat.mul_one])
  have k2 : Nat.Coprime w z := by
    have := Nat.gcd_mul_left (Nat.gcd c d) w z
    rw [← hw, ← hz] at this
    exact Nat.eq_of_mul_eq_mul_left g2 (by rw [← this, Nat.mul_one])
  generalize Nat.gcd a b = g at *
  generalize Nat.gcd c d = h at *
  subst hu hv hw hz
  have q : ∀ n : Nat, ((g * n : Nat) : Int) / (g : Int) = n := fun n => by
    rw [Int.natCast_mul]
    exact Int.mul_ediv_cancel_left _ (by omega)
  have q' : ∀ n : Nat, ((h * n : Nat) : Int) / (h : Int) = n := fun n => by
    rw [Int.natCast_mul]
    exact Int.mul_ediv_cancel_left _ (by omega)
  rw [q, q, q', q', Prod.mk.injEq]
  constructor
  · rintro ⟨e1, e2⟩
    have e1 : u = w := by exact_mod_cast e1
    have e2 : v = z := by exact_mod_cast e2
    subst e1 e2
    rw [← Int.natCast_mul, ← Int.natCast_mul]
    congr 1
    simp [Nat.mul_comm, Nat.mul_left_comm]
  · intro e
    have e : g * u * (h * z) = h * w * (g * v) := by exact_mod_cast e
    have e2 : u * z = w * v := by
      have : (g * h) * (u * z) = (g * h) * (w * v) := by
        have a1 : g * u * (h * z) = (g * h) * (u * z) := by simp [Nat.mul_comm, Nat.mul_left_comm]
        have a2 : h * w * (g * v) = (g * h) * (w * v) := by simp [Nat.mul_comm, Nat.mul_left_comm]
        rw [← a1, ← a2, e]
      exact Nat.eq_of_mul_eq_mul_left (Nat.mul_pos g1 g2) this
    have d1 : v ∣ z := k1.symm.dvd_of_dvd_mul_left (⟨w, by rw [e2, Nat.mul_comm]⟩)
    have d2 : z ∣ v := k2.symm.dvd_of_dvd_mul_left (⟨u, by rw [← e2, Nat.mul_comm]⟩)
    have ev : v = z := Nat.dvd_antisymm d1 d2
    subst ev
    have v0 : 0 < v := Nat.pos_of_mul_pos_left hb
    have eu : u = w := Nat.eq_of_mul_eq_mul_right v0 e2
    exact ⟨by rw [eu], rfl⟩
end Mt
end

section
set_option Elab.async false
set_option linter.all false
set_option maxRecDepth 100000
set_option maxHeartbeats 4000000
namespace Pg
open PySem PySem.Spec PyProof.Rows L2 Ev Mt
theorem sum_isum : ∀ l : List Int, l.sum = isum l
  | [] => rfl
  | x :: r => by
    rw [List.sum_cons, sum_isum r]
    rfl
theorem sum_lst (xs : List Int) : biD .sum [.lst (xs.map .int)] = some (.int (isum xs)) := by
  show (asInts (xs.map .int)).map _ = _
  rw [asInts_f, Option.map_some, sum_isum]
theorem sum_tup (xs : List Int) : biD .sum [.tup (xs.map .int)] = some (.int (isum xs)) := by
  show (asInts (xs.map .int)).map _ = _
  rw [asInts_f, Option.map_some, sum_isum]
theorem min_lst {xs : List Int} (h : xs ≠ []) : ∃ m, biD .min [.lst (xs.map .int)] = some (.int m) ∧ IsMin xs m := by
  cases xs with
  | nil => exact absurd rfl h
  | cons x r =>
    refine ⟨mnI x r, ?_, mnI_spec r x⟩
    show (match asInts ((x :: r).map .int) with
      | some (m :: r) => some (D.int (mnI m r))
      | _ => none) = _
    rw [asInts_f]
theorem max_lst {xs : List Int} (h : xs ≠ []) : ∃ m, biD .max [.lst (xs.map .int)] = some (.int m) ∧ IsMax xs m := by
  cases xs with
  | nil => exact absurd rfl h
  | cons x r =>
    refine ⟨mxI x r, ?_, mxI_spec r x⟩
    show (match asInts ((x :: r).map .int) with
      | some (m :: r) => some (D.int (mxI m r))
      | _ => none) = _
    rw [asInts_f]
section
variable {C : Fns} {μ : Mu}
def sumToS : S := (.seq (.asg false (.tup (.cons (.name 3) (.cons (.name 4) (.cons (.name 5) .nil)))) (.var 0)) (.seq (.par [6, 7] (.cons (.bin .fdiv (.var 1) (.var 3)) (.cons (.bin .mod (.var 1) (.var 3)) .nil))) (.seq (.asg false (.name 2) (.bin .add (.bin .mul (.var 6) (.bi .sum (.cons (.var 5) .nil))) (.bin .mul (.bin .mul (.var 4) (.var 3)) (.bin .fdiv (.bin .mul (.var 6) (.bin .sub (.var 6) (.int 1))) (.int 2))))) (.seq (.ret (.bin .add (.bin .add (.var 2) (.bi .sum (.cons (.sl (.var 5) .nil (.var 7)) .nil))) (.bin .mul (.bin .mul (.var 7) (.var 6)) (.var 4)))) .skip))))
theorem sumTo_step (p q x b r : Int) (t : List D) (S1 S2 u : Int) (f1 : binD .fdiv (.int x) (.int p) = some (.int b)) (f2 : binD .mod (.int x) (.int p) = some (.int r)) (s1 : biD .sum [.tup t] = some (.int S1)) (m1 : binD .mul (.int b) (.int S1) = some (.int (b * S1))) (m2 : binD .mul (.int q) (.int p) = some (.int (q * p)))
    (m3 : binD .mul (.int b) (.int (b - 1)) = some (.int (b * (b - 1)))) (f3 : binD .fdiv (.int (b * (b - 1))) (.int 2) = some (.int u)) (m4 : binD .mul (.int (q * p)) (.int u) = some (.int (q * p * u))) (sl : ∃ t', slD (.tup t) none (some r) = some (.tup t') ∧ biD .sum [.tup t'] = some (.int S2))
    (m5 : binD .mul (.int r) (.int b) = some (.int (r * b))) (m6 : binD .mul (.int (r * b)) (.int q) = some (.int (r * b * q))) :
    fnR (evS C sumToS [.sh (.tup [.int p, .int q, .tup t]), .sh (.int x), .un, .un, .un, .un, .un, .un] μ) = .ok (.int (b * S1 + q * p * u + S2 + r * b * q)) μ := by
  obtain ⟨t', sl, s2⟩ := sl
  simp [sumToS, setTg, f1, f2, setPar, s1, m1, m2, binD_sub, m3, f3, m4, binD_add, newSlot, partE, sl, s2, m5, m6]
theorem sumTo_run {P : Nat} {Q : Int} {t : List Int} (o : Ok3 P Q t) (x : Int) (hx : x.natAbs < 1000000000) : fnR (evS C sumToS [.sh (mD P Q t), .sh (.int x), .un, .un, .un, .un, .un, .un] μ) = .ok (.int (sumTo P Q t x)) μ := by
  have p0 := o.p0
  have p1 := o.p1
  have hq := q64 o.q
  have r0 := Int.emod_nonneg x (show (P : Int) ≠ 0 by omega)
  have r1 := Int.emod_lt_of_pos x (show 0 < (P : Int) by omega)
  have hb : (x / (P : Int)).natAbs ≤ x.natAbs := by
    have := Int.natAbs_ediv_le_natAbs x (P : Int)
    exact this
  have bq := Nat.lt_of_le_of_lt hb hx
  refine sumTo_step P Q x (x / P) (x % P) _ _ _ _ (fdivN x p0 p1) (binD_mod x P (by omega)) (sum_tup t) (binD_mul _ _ (mulOk_l (Nat.lt_trans bq (by decide)))) (binD_mul _ _ (mulOk_l hq)) (binD_mul _ _ (mulOk_l (Nat.lt_trans bq (by decide)))) (binD_fdiv _ 2 (by decide) (log2_small 2 (by decide) (by decide))) ?_ ⟨(t.take (x % P).toNat).map .int, ?_, sum_tup _⟩ (binD_mul _ _ (mulOk_r (Nat.lt_trans bq (by decide)))) (binD_mul _ _ (mulOk_r hq))
  · refine binD_mul _ _ (mulOk_r ?_)
    generalize x / (P : Int) = b at *
    have h1 : (b * (b - 1)).natAbs ≤ 1000000000 * 1000000001 := by
      rw [Int.natAbs_mul]
      exact Nat.mul_le_mul (by omega) (by omega)
    have h2 := Int.natAbs_ediv_le_natAbs (b * (b - 1)) 2
    exact Nat.lt_of_le_of_lt (Nat.le_trans h2 h1) (by decide)
  · have e : x % (P : Int) = (((x % (P : Int)).toNat : Nat) : Int) := by omega
    rw [e, slD_to, List.map_take]
    rw [Int.toNat_natCast]
def lgapS (fm fv fc : Nat) : S := (.seq (.asg false (.name 2) (.call fm (.cons (.idx (.var 0) (.int 0)) (.cons (.idx (.var 1) (.int 0)) .nil)))) (.seq (.asg false (.name 3) (.comp (.name 5) (.rng (.cons (.var 2) .nil)) (.bin .sub (.call fv (.cons (.var 1) (.cons (.var 5) .nil))) (.call fv (.cons (.var 0) (.cons (.var 5) .nil)))) .nil)) (.seq (.asg false (.name 4) (.call fc (.cons (.bi .abs (.cons (.bi .sum (.cons (.var 3) .nil)) .nil)) (.cons (.var 2) .nil)))) (.seq (.ret (.tup (.cons (.bi .min (.cons (.var 3) .nil)) (.cons (.bi .max (.cons (.var 3) .nil)) (.cons (.tup (.cons (.bin .fdiv (.bi .sum (.cons (.var 3) .nil)) (.var 4)) (.cons (.bin .fdiv (.var 2) (.var 4)) .nil))) .nil))))) .skip))))
theorem lgap_step {fm fv fc : Nat} (a b : D) (p p' L g s mn mx u v : Int) (T : List D) (a0 : ixM μ a (.int 0) = some (.int p)) (b0 : ixM μ b (.int 0) = some (.int p')) (h1 : C.call fm [.int p, .int p'] μ = .ok (.int L) μ)
    (cm : evE C (.comp (.name 5) (.rng (.cons (.var 2) .nil)) (.bin .sub (.call fv (.cons (.var 1) (.cons (.var 5) .nil))) (.call fv (.cons (.var 0) (.cons (.var 5) .nil)))) .nil) [.sh a, .sh b, .sh (.int L), .un, .un, .un] μ = .ok (.lst T) μ)
    (hs : biD .sum [.lst T] = some (.int s)) (hg : ∃ z, biD .abs [.int s] = some (.int z) ∧ C.call fc [.int z, .int L] μ = .ok (.int g) μ) (hmn : biD .min [.lst T] = some (.int mn)) (hmx : biD .max [.lst T] = some (.int mx)) (f1 : binD .fdiv (.int s) (.int g) = some (.int u)) (f2 : binD .fdiv (.int L) (.int g) = some (.int v)) :
    fnR (evS C (lgapS fm fv fc) [.sh a, .sh b, .un, .un, .un, .un] μ) = .ok (.tup [.int mn, .int mx, .tup [.int u, .int v]]) μ := by
  obtain ⟨z, hz, hg⟩ := hg
  simp [lgapS, a0, b0, h1, newSlot, cm, hs, hz, hg, hmn, hmx, f1, f2]
def gapS (fc fv ff : Nat) : S := (.seq (.asg false (.name 2) (.call fc (.cons (.var 0) (.cons (.var 1) .nil)))) (.seq (.asg false (.name 3) (.comp (.name 4) (.rng (.cons (.var 2) .nil)) (.bin .sub (.call fv (.cons (.var 1) (.cons (.var 4) .nil))) (.call fv (.cons (.var 0) (.cons (.var 4) .nil)))) .nil)) (.seq (.ret (.tup (.cons (.bi .min (.cons (.var 3) .nil)) (.cons (.bi .max (.cons (.var 3) .nil)) (.cons (.call ff (.cons (.bi .sum (.cons (.var 3) .nil)) (.cons (.var 2) .nil))) .nil))))) .skip)))
theorem gap_step {fc fv ff : Nat} (a b : D) (L s mn mx u v : Int) (T : List D) (h1 : C.call fc [a, b] μ = .ok (.int L) μ)
    (cm : evE C (.comp (.name 4) (.rng (.cons (.var 2) .nil)) (.bin .sub (.call fv (.cons (.var 1) (.cons (.var 4) .nil))) (.call fv (.cons (.var 0) (.cons (.var 4) .nil)))) .nil) [.sh a, .sh b, .sh (.int L), .un, .un] μ = .ok (.lst T) μ)
    (hs : biD .sum [.lst T] = some (.int s)) (hmn : biD .min [.lst T] = some (.int mn)) (hmx : biD .max [.lst T] = some (.int mx)) (hf : C.call ff [.int s, .int L] μ = .ok (.tup [.int u, .int v]) μ) :
    fnR (evS C (gapS fc fv ff) [.sh a, .sh b, .un, .un, .un] μ) = .ok (.tup [.int mn, .int mx, .tup [.int u, .int v]]) μ := by
  simp [gapS, h1, newSlot, cm, hs, hmn, hmx, hf]
/-- what the gaps of f ahead of g are -/
structure Gap (h : Int → Int) (mn mx u v : Int) (N : Nat) : Prop where
  n0 : 0 < N
  per : Mt.per h N 0
  a : IsMin (tab h N) mn
  b : IsMax (tab h N) mx
  c : (u, v) = frac (psum h 0 N) N
theorem psum_frac {h : Int → Int} {N : Nat} (n0 : 0 < N) (p : Mt.per h N 0) {m : Nat} (hm : 0 < m) : frac (psum h 0 (m * N)) (m * N) = frac (psum h 0 N) N := by
  rw [psum_round p, frac_mul _ hm n0]
theorem Gap.eq {h : Int → Int} {mn mx u v mn' mx' u' v' : Int} {N N' : Nat} (g : Gap h mn mx u v N) (g' : Gap h mn' mx' u' v' N') : mn = mn' ∧ mx = mx' ∧ u = u' ∧ v = v' := by
  have e1 : ∀ z, z ∈ tab h (N' * N) ↔ z ∈ tab h N := tab_round g.n0 g'.n0 g.per
  have e2 : ∀ z, z ∈ tab h (N * N') ↔ z ∈ tab h N' := tab_round g'.n0 g.n0 g'.per
  have e : ∀ z, z ∈ tab h N ↔ z ∈ tab h N' := fun z => by rw [← e1, ← e2, Nat.mul_comm]
  have f : frac (psum h 0 N) N = frac (psum h 0 N') N' := by
    rw [← psum_frac g.n0 g.per g'.n0, ← psum_frac g'.n0 g'.per g.n0, Nat.mul_comm]
  have := g.c.trans (f.trans g'.c.symm)
  injection this with e3 e4
  exact ⟨g.a.uniq g'.a e, g.b.uniq g'.b e, e3, e4⟩
theorem gap_per {f g : Int → Int} {P P' : Nat} {Q Q' : Int} {t t' : List Int} (r : Rp f P Q t) (r' : Rp g P' Q' t') (he : Q * P' = Q' * P) : Mt.per (fun x => g x - f x) (Nat.lcm P P') 0 := fun x => by
  have a := per_mul (L := Nat.lcm P P') r.per (Nat.dvd_lcm_left _ _) x
  have b := per_mul (L := Nat.lcm P P') r'.per (Nat.dvd_lcm_right _ _) x
  show g _ - f _ = g x - f x + 0
  have e : Q * ((Nat.lcm P P' / P : Nat) : Int) = Q' * ((Nat.lcm P P' / P' : Nat) : Int) := by
    have p0 : (P : Int) ≠ 0 := by have := r.p0; omega
    have p0' : (P' : Int) ≠ 0 := by have := r'.p0; omega
    have d1 : ((Nat.lcm P P' / P : Nat) : Int) * P = (Nat.lcm P P' : Nat) := by rw [← Int.natCast_mul, Nat.div_mul_cancel (Nat.dvd_lcm_left _ _)]
    have d2 : ((Nat.lcm P P' / P' : Nat) : Int) * P' = (Nat.lcm P P' : Nat) := by rw [← Int.natCast_mul, Nat.div_mul_cancel (Nat.dvd_lcm_right _ _)]
    generalize ((Nat.lcm P P' / P : Nat) : Int) = u at *
    generalize ((Nat.lcm P P' / P' : Nat) : Int) = v at *
    have h : Q * u * (P * P') = Q' * v * (P * P') := by
      have h1 : Q * u * (P * P') = (Q * P') * (u * P) := by ac_rfl
      have h2 : Q' * v * (P * P') = (Q' * P) * (v * P') := by ac_rfl
      rw [h1, h2, he, d1, d2]
    exact Int.eq_of_mul_eq_mul_right (Int.mul_ne_zero p0 p0') h
  omega
end
end Pg
end

section
set_option Elab.async false
set_option linter.all false
set_option maxRecDepth 100000
set_option maxHeartbeats 1000000
namespace Mt
open Pg Ev
def IsSoon (v : Int → Int) (y x : Int) : Prop := y ≤ v x ∧ v (x - 1) < y
theorem IsSoon.uniq {v : Int → Int} (m : Mono v) {y x x' : Int} (h : IsSoon v y x) (h' : IsSoon v y x') : x = x' := by
  obtain ⟨h1, h2⟩ := h
  obtain ⟨h3, h4⟩ := h'
  rcases Int.lt_trichotomy x x' with q | q | q
  · have := m.le' (show x ≤ x' - 1 by omega)
    omega
  · exact q
  · have := m.le' (show x' ≤ x - 1 by omega)
    omega
theorem IsSoon.lt {v : Int → Int} (m : Mono v) {y x z : Int} (h : IsSoon v y x) : z < x ↔ v z < y := by
  obtain ⟨h1, h2⟩ := h
  constructor
  · intro q
    have := m.le' (show z ≤ x - 1 by omega)
    omega
  · intro q
    rcases Int.lt_or_le z x with p | p
    · exact p
    · have := m.le' p
      omega
def dd (v : Int → Int) (x : Int) : Int := if v x < v (x + 1) then 1 else 0
theorem dd_01 (v : Int → Int) (x : Int) : dd v x = 0 ∨ dd v x = 1 := by unfold dd; split <;> simp
theorem dd_per {v : Int → Int} {P : Nat} {Q : Int} (h : per v P Q) : per (dd v) P 0 := fun x => by
  unfold dd
  have e : x + (P : Int) + 1 = (x + 1) + P := by omega
  rw [e, h, h]
  by_cases q : v x < v (x + 1)
  · rw [if_pos (by omega), if_pos q]; rfl
  · rw [if_neg (by omega), if_neg q]; rfl
/-- rises from 0 on -/
def cn (v : Int → Int) (k : Nat) : Int := psum (dd v) 0 k
theorem cn_succ (v : Int → Int) (k : Nat) : cn v (k + 1) = cn v k + dd v k := by
  show psum (dd v) 0 k + dd v (0 + k) = _
  rw [Int.zero_add]
  rfl
theorem cn_mono (v : Int → Int) (a : Nat) : ∀ b : Nat, cn v a ≤ cn v (a + b)
  | 0 => Int.le_refl _
  | b + 1 => by
    have := cn_mono v a b
    have e : a + (b + 1) = (a + b) + 1 := by omega
    rw [e, cn_succ]
    have := dd_01 v ((a + b : Nat) : Int)
    omega
theorem cn_nn (v : Int → Int) (k : Nat) : 0 ≤ cn v k := by
  have := cn_mono v 0 k
  rw [Nat.zero_add] at this
  exact this
theorem cn_le {v : Int → Int} {a b : Nat} (h : a ≤ b) : cn v a ≤ cn v b := by
  have := cn_mono v a (b - a)
  rw [show a + (b - a) = b by omega] at this
  exact this
def cnF (v : Int → Int) (i : Int) : Int := cn v i.toNat
theorem cnF_nat (v : Int → Int) (k : Nat) : cnF v (k : Int) = cn v k := by unfold cnF; rw [Int.toNat_natCast]
/-- the map that counts -/
def cc (v : Int → Int) (P : Nat) : Int → Int := vl P (cn v P) (tab (cnF v) P)
theorem cc_at {v : Int → Int} {P : Nat} (r : Nat) (b : Int) (h : r < P) : cc v P (r + b * P) = cn v r + b * cn v P := by
  unfold cc
  rw [vl_at r b h, tab_get _ h, cnF_nat]
theorem cc_succ {v : Int → Int} {P : Nat} {Q : Int} (h0 : 0 < P) (h : per v P Q) (x : Int) : cc v P (x + 1) = cc v P x + dd v x := by
  obtain ⟨r, b, hr, rfl⟩ := split_x h0 x
  have hd : dd v (r + b * P) = dd v r := by
    have := per_int (dd_per h) b r
    rw [this]
    omega
  rw [cc_at r b hr, hd]
  by_cases hr2 : r + 1 < P
  · have e : (r : Int) + b * P + 1 = ((r + 1 : Nat) : Int) + b * P := by push_cast; omega
    rw [e, cc_at _ b hr2, cn_succ]
    omega
  · have e : (r : Int) + b * P + 1 = ((0 : Nat) : Int) + (b + 1) * P := by
      rw [Int.add_mul]
      push_cast
      omega
    have er : r + 1 = P := by omega
    rw [e, cc_at _ _ h0, Int.add_mul]
    have : cn v P = cn v r + dd v r := by rw [← er, cn_succ]
    have e0 : cn v 0 = 0 := rfl
    rw [e0]
    omega
theorem cc_per {v : Int → Int} {P : Nat} (h0 : 0 < P) : per (cc v P) P (cn v P) := vl_per h0 _ _
/-- the values, as they come -/
def vs (v : Int → Int) : Nat → List Int
  | 0 => [v 0]
  | k + 1 => vs v k ++ (if v k < v ((k : Int) + 1) then [v ((k : Int) + 1)] else [])
theorem vs_len (v : Int → Int) : ∀ k : Nat, ((vs v k).length : Int) = cn v k + 1
  | 0 => rfl
  | k + 1 => by
    have ih := vs_len v k
    rw [cn_succ]
    unfold dd
    show ((vs v k ++ (if v k < v ((k : Int) + 1) then [v ((k : Int) + 1)] else [])).length : Int) = _
    rw [List.length_append]
    split <;> simp <;> omega
theorem vs_get {v : Int → Int} (m : Mono v) : ∀ (k i : Nat), i ≤ k → (vs v k).getD (cn v i).toNat 0 = v i
  | 0, i, h => by
    have : i = 0 := by omega
    subst this
    rfl
  | k + 1, i, h => by
    have hl := vs_len v k
    have hn := cn_nn v i
    have e : vs v (k + 1) = vs v k ++ (if v k < v ((k : Int) + 1) then [v ((k : Int) + 1)] else []) := rfl
    rw [e]
    by_cases hi : i ≤ k
    · have := cn_le (v := v) hi
      have lt : (cn v i).toNat < (vs v k).length := by omega
      rw [List.getD_eq_getElem?_getD, List.getElem?_append_left lt, ← List.getD_eq_getElem?_getD]
      exact vs_get m k i hi
    · have ei : i = k + 1 := by omega
      subst ei
      have hs := cn_succ v k
      by_cases q : v k < v ((k : Int) + 1)
      · have hd : dd v k = 1 := if_pos q
        have lt : (cn v (k + 1)).toNat = (vs v k).length := by omega
        rw [if_pos q, List.getD_eq_getElem?_getD, lt, List.getElem?_append_right (Nat.le_refl _)]
        simp
      · have hd : dd v k = 0 := if_neg q
        have ec : cn v (k + 1) = cn v k := by omega
        rw [if_neg q, List.append_nil, ec, vs_get m k k (Nat.le_refl _)]
        have := m k
        push_cast
        omega
/-- the map of the values -/
def ww (v : Int → Int) (P : Nat) (Q : Int) : Int → Int := vl (cn v P).toNat Q ((vs v P).take (cn v P).toNat)
theorem cn_pos {v : Int → Int} {P : Nat} {Q : Int} (m : Mono v) (h : per v P Q) (hq : 0 < Q) : 0 < cn v P := by
  rcases Int.lt_or_le 0 (cn v P) with q | q
  · exact q
  · have h0 := cn_nn v P
    have e : cn v P = cn v 0 := by
      have : cn v 0 = 0 := rfl
      omega
    have a := vs_get m P P (Nat.le_refl _)
    have b := vs_get m P 0 (Nat.zero_le _)
    rw [e] at a
    have := h 0
    rw [Int.zero_add] at this
    simp only [Int.natCast_zero] at b
    omega
theorem ww_len {v : Int → Int} {P : Nat} : ((vs v P).take (cn v P).toNat).length = (cn v P).toNat := by
  have := vs_len v P
  have := cn_nn v P
  rw [List.length_take]
  omega
theorem ww_cc {v : Int → Int} {P : Nat} {Q : Int} (h0 : 0 < P) (m : Mono v) (h : per v P Q) (hq : 0 < Q) (x : Int) : ww v P Q (cc v P x) = v x := by
  have hp := cn_pos m h hq
  obtain ⟨r, b, hr, rfl⟩ := split_x h0 x
  rw [cc_at r b hr]
  have n0 : 0 < (cn v P).toNat := by omega
  have hw : per (ww v P Q) (cn v P) Q := by
    have := vl_per n0 Q ((vs v P).take (cn v P).toNat)
    rw [show (((cn v P).toNat : Nat) : Int) = cn v P by omega] at this
    exact this
  rw [per_int hw, per_int h]
  congr 1
  have hle : cn v r ≤ cn v P := cn_le (by omega)
  have hn := cn_nn v r
  have hl := vs_len v P
  by_cases q : cn v r < cn v P
  · unfold ww
    have e : cn v r = (((cn v r).toNat : Nat) : Int) := by omega
    rw [e, vl_small (by omega)]
    rw [List.getD_eq_getElem?_getD, List.getElem?_take, if_pos (by omega), ← List.getD_eq_getElem?_getD]
    exact vs_get m P r (by omega)
  · have e : cn v r = cn v P := by omega
    have a := vs_get m P r (by omega)
    have b := vs_get m P P (Nat.le_refl _)
    rw [e] at a
    have e1 : cn v P = 0 + cn v P := by omega
    rw [e, e1, hw]
    have w0 : ww v P Q 0 = v 0 := by
      unfold ww
      have := vl_small (P := (cn v P).toNat) (Q := Q) (t := (vs v P).take (cn v P).toNat) (r := 0) n0
      rw [Int.natCast_zero] at this
      rw [this, List.getD_eq_getElem?_getD, List.getElem?_take, if_pos n0, ← List.getD_eq_getElem?_getD]
      exact vs_get m P 0 (Nat.zero_le _)
    rw [w0]
    have := h 0
    rw [Int.zero_add] at this
    omega
/-- each number of a value is met, and the next one next -/
theorem cc_onto {v : Int → Int} {P : Nat} {Q : Int} (h0 : 0 < P) (m : Mono v) (h : per v P Q) (hq : 0 < Q) (j : Int) : ∃ x, cc v P x = j ∧ dd v x = 1 := by
  have hp := cn_pos m h hq
  have k0 : ∀ b : Int, cc v P (b * P) = b * cn v P := fun b => by
    have := cc_at (v := v) (P := P) 0 b h0
    rw [Int.natCast_zero, Int.zero_add] at this
    rw [this]
    have e0 : cn v 0 = 0 := rfl
    rw [e0]
    omega
  -- from x on, n steps: if c x <= j < c (x + n) then it is met
  have go : ∀ (n : Nat) (x : Int), cc v P x ≤ j → j < cc v P (x + n) → ∃ z, cc v P z = j ∧ dd v z = 1 := fun n => by
    induction n with
    | zero => intro x a b; simp at b; omega
    | succ n ih =>
      intro x a b
      have hs := cc_succ h0 h x
      have h1 := dd_01 v x
      by_cases q : cc v P (x + 1) ≤ j
      · refine ih (x + 1) q ?_
        have e : x + 1 + (n : Int) = x + ((n + 1 : Nat) : Int) := by push_cast; omega
        rw [e]
        exact b
      · exact ⟨x, by omega, by omega⟩
  have hd := Int.emod_add_mul_ediv j (cn v P)
  have hm0 := Int.emod_nonneg j (show cn v P ≠ 0 by omega)
  have hm1 := Int.emod_lt_of_pos j hp
  have hc : cn v P * (j / cn v P) = j / cn v P * cn v P := Int.mul_comm _ _
  refine go P (j / cn v P * P) ?_ ?_
  · rw [k0]
    omega
  · have e : j / cn v P * (P : Int) + P = (j / cn v P + 1) * P := by rw [Int.add_mul, Int.one_mul]
    rw [e, k0, Int.add_mul, Int.one_mul]
    omega
theorem ww_lt {v : Int → Int} {P : Nat} {Q : Int} (h0 : 0 < P) (m : Mono v) (h : per v P Q) (hq : 0 < Q) (j : Int) : ww v P Q j < ww v P Q (j + 1) := by
  obtain ⟨x, hx, hd⟩ := cc_onto h0 m h hq j
  have a := ww_cc h0 m h hq x
  have b := ww_cc h0 m h hq (x + 1)
  rw [cc_succ h0 h, hx, hd] at b
  rw [hx] at a
  rw [a, b]
  unfold dd at hd
  split at hd
  · assumption
  · cases hd
theorem ww_add {v : Int → Int} {P : Nat} {Q : Int} (h0 : 0 < P) (m : Mono v) (h : per v P Q) (hq : 0 < Q) (j : Int) : ∀ n : Nat, ww v P Q j + n ≤ ww v P Q (j + n)
  | 0 => by simp
  | n + 1 => by
    have ih := ww_add h0 m h hq j n
    have := ww_lt h0 m h hq (j + n)
    have e : j + ((n + 1 : Nat) : Int) = j + n + 1 := by push_cast; omega
    rw [e]
    push_cast
    omega
theorem ww_mono {v : Int → Int} {P : Nat} {Q : Int} (h0 : 0 < P) (m : Mono v) (h : per v P Q) (hq : 0 < Q) : Mono (ww v P Q) := fun j => Int.le_of_lt (ww_lt h0 m h hq j)
theorem cc_mono {v : Int → Int} {P : Nat} {Q : Int} (h0 : 0 < P) (h : per v P Q) : Mono (cc v P) := fun x => by
  rw [cc_succ h0 h]
  have := dd_01 v x
  omega
/-- a value below y is one of a number below that of the least x from y on -/
theorem ww_soon {v : Int → Int} {P : Nat} {Q : Int} (h0 : 0 < P) (m : Mono v) (h : per v P Q) (hq : 0 < Q) {y x : Int} (s : IsSoon v y x) (j : Int) : ww v P Q j < y ↔ j < cc v P x := by
  have wm := ww_mono h0 m h hq
  have a := ww_cc h0 m h hq x
  have b := ww_cc h0 m h hq (x - 1)
  have hs := cc_succ h0 h (x - 1)
  rw [Int.sub_add_cancel] at hs
  obtain ⟨s1, s2⟩ := s
  have hd : dd v (x - 1) = 1 := if_pos (by rw [Int.sub_add_cancel]; omega)
  constructor
  · intro q
    rcases Int.lt_or_le j (cc v P x) with p | p
    · exact p
    · have := wm.le' p
      omega
  · intro q
    have := wm.le' (show j ≤ cc v P (x - 1) by omega)
    omega
end Mt
end

section
set_option Elab.async false
set_option linter.all false
set_option maxRecDepth 100000
set_option maxHeartbeats 4000000
namespace Pg
open PySem PySem.Spec PyProof.Rows L2 Ev Mt
section
variable {C : Fns} {μ : Mu}
def sooW : S := (.whl (.cmp .gt (.bin .sub (.var 8) (.var 7)) (.int 1)) (.seq (.asg false (.name 9) (.bin .fdiv (.bin .add (.var 7) (.var 8)) (.int 2))) (.seq (.cond (.cmp .ge (.idx (.var 6) (.var 9)) (.var 3)) (.seq (.asg false (.name 8) (.var 9)) .skip) (.seq (.asg false (.name 7) (.var 9)) .skip)) .skip)))
def sooS : S := (.seq (.asg false (.tup (.cons (.name 4) (.cons (.name 5) (.cons (.name 6) .nil)))) (.var 0)) (.seq (.asg false (.name 2) (.bin .sub (.int 0) (.bin .fdiv (.bin .sub (.idx (.var 6) (.neg (.int 1))) (.var 1)) (.var 5)))) (.seq (.asg false (.name 3) (.bin .sub (.var 1) (.bin .mul (.var 2) (.var 5)))) (.seq (.par [7, 8] (.cons (.neg (.int 1)) (.cons (.bin .sub (.var 4) (.int 1)) .nil))) (.seq sooW (.seq (.ret (.bin .add (.bin .mul (.var 2) (.var 4)) (.var 8))) .skip))))))
abbrev envS (a b c : Ev.Slot) (due : Int) (d e : Ev.Slot) (T : D) (lo hi : Int) (s : Ev.Slot) : Ev.Env := [a, b, c, .sh (.int due), d, e, .sh T, .sh (.int lo), .sh (.int hi), s]
theorem soo_c (a b c d e s : Ev.Slot) (due lo hi : Int) (T : D) : evE C (.cmp .gt (.bin .sub (.var 8) (.var 7)) (.int 1)) (envS a b c due d e T lo hi s) μ = .ok (.bl (decide (1 < hi - lo))) μ := by
  simp [binD_sub, cmpD_gt]
theorem soo_b (a b c d e s : Ev.Slot) (due lo hi w : Int) (T : D) (hw : ixM μ T (.int ((lo + hi) / 2)) = some (.int w)) :
    evS C (.seq (.asg false (.name 9) (.bin .fdiv (.bin .add (.var 7) (.var 8)) (.int 2))) (.seq (.cond (.cmp .ge (.idx (.var 6) (.var 9)) (.var 3)) (.seq (.asg false (.name 8) (.var 9)) .skip) (.seq (.asg false (.name 7) (.var 9)) .skip)) .skip)) (envS a b c due d e T lo hi s) μ =
      .ok (.nx (if due ≤ w then envS a b c due d e T lo ((lo + hi) / 2) (.sh (.int ((lo + hi) / 2))) else envS a b c due d e T ((lo + hi) / 2) hi (.sh (.int ((lo + hi) / 2))))) μ := by
  have f2 := binD_fdiv (lo + hi) 2 (by decide) (log2_small 2 (by decide) (by decide))
  by_cases h : due ≤ w <;> simp [binD_add, f2, newSlot, hw, cmpD_ge, h]
theorem soo_loop (a b c d e : Ev.Slot) (due : Int) (t : List Int) : ∀ (k : Nat) (lo hi : Int) (m : Nat) (s : Ev.Slot), hi - lo ≤ (k : Int) + 1 → -1 ≤ lo → lo < hi → hi < (t.length : Int) → (lo = -1 ∨ t.getD lo.toNat 0 < due) → due ≤ t.getD hi.toNat 0 → k < m →
    ∃ (r : Nat) (s' : Ev.Slot), whlL (evE C (.cmp .gt (.bin .sub (.var 8) (.var 7)) (.int 1))) (evS C (.seq (.asg false (.name 9) (.bin .fdiv (.bin .add (.var 7) (.var 8)) (.int 2))) (.seq (.cond (.cmp .ge (.idx (.var 6) (.var 9)) (.var 3)) (.seq (.asg false (.name 8) (.var 9)) .skip) (.seq (.asg false (.name 7) (.var 9)) .skip)) .skip))) m (envS a b c due d e (.tup (t.map .int)) lo hi s) μ =
      .ok (.nx (envS a b c due d e (.tup (t.map .int)) ((r : Int) - 1) (r : Int) s')) μ ∧ r < t.length ∧ due ≤ t.getD r 0 ∧ (r = 0 ∨ t.getD (r - 1) 0 < due)
  | k, lo, hi, 0, s, _, _, _, _, _, _, hm => by omega
  | k, lo, hi, m + 1, s, hk, hl, hlh, hh, i1, i2, hm => by
    unfold whlL
    rw [soo_c]
    by_cases q : 1 < hi - lo
    · have k1 : 0 < k := by omega
      obtain ⟨k, rfl⟩ : ∃ j, k = j + 1 := ⟨k - 1, by omega⟩
      rw [decide_eq_true q]
      have hmid : lo < (lo + hi) / 2 ∧ (lo + hi) / 2 < hi := by omega
      have hw := ixT_at t ((lo + hi) / 2) (by omega) (by omega)
      dsimp only
      rw [soo_b a b c d e s due lo hi _ _ (show ixM μ (.tup (t.map .int)) _ = _ from hw)]
      dsimp only
      by_cases p : due ≤ t.getD ((lo + hi) / 2).toNat 0
      · rw [if_pos p]
        exact soo_loop a b c d e due t k lo ((lo + hi) / 2) m _ (by omega) hl hmid.1 (by omega) i1 p (by omega)
      · rw [if_neg p]
        exact soo_loop a b c d e due t k ((lo + hi) / 2) hi m _ (by omega) (by omega) hmid.2 hh (.inr (by omega)) i2 (by omega)
    · rw [decide_eq_false q]
      refine ⟨hi.toNat, s, ?_, by omega, i2, ?_⟩
      · have e1 : ((hi.toNat : Nat) : Int) = hi := by omega
        have e2 : ((hi.toNat : Nat) : Int) - 1 = lo := by omega
        rw [e2, e1]
      · rcases i1 with z | z
        · exact .inl (by omega)
        · by_cases h0 : hi.toNat = 0
          · exact .inl h0
          · have e : hi.toNat - 1 = lo.toNat := by omega
            rw [e]
            exact .inr z
theorem soo_step (p q y last blk due : Int) (t : List D) (hl : ixM μ (.tup t) (.int (-1)) = some (.int last)) (f1 : binD .fdiv (.int (last - y)) (.int q) = some (.int (-blk))) (m1 : binD .mul (.int blk) (.int q) = some (.int (y - due))) (r lo : Int) (s' : Ev.Slot) (bp : Int)
    (w : evS C sooW (envS (.sh (.tup [.int p, .int q, .tup t])) (.sh (.int y)) (.sh (.int blk)) due (.sh (.int p)) (.sh (.int q)) (.tup t) (-1) (p - 1) .un) μ = .ok (.nx (envS (.sh (.tup [.int p, .int q, .tup t])) (.sh (.int y)) (.sh (.int blk)) due (.sh (.int p)) (.sh (.int q)) (.tup t) lo r s')) μ) (m2 : binD .mul (.int blk) (.int p) = some (.int bp)) :
    fnR (evS C sooS [.sh (.tup [.int p, .int q, .tup t]), .sh (.int y), .un, .un, .un, .un, .un, .un, .un, .un] μ) = .ok (.int (bp + r)) μ := by
  have e1 : (0 : Int) - -blk = blk := by omega
  have e2 : y - (y - due) = due := by omega
  have w' : evS C sooW [.sh (.tup [.int p, .int q, .tup t]), .sh (.int y), .sh (.int blk), .sh (.int due), .sh (.int p), .sh (.int q), .sh (.tup t), .sh (.int (-1)), .sh (.int (p - 1)), .un] μ = _ := w
  simp [sooS, setTg, negD, hl, binD_sub, f1, e1, newSlot, m1, e2, setPar, w', m2, binD_add]
/-- the least x with a value not below y -/
theorem soo_run {f : Int → Int} {P : Nat} {Q : Int} {t : List Int} (m : Mp f P Q t) (hq : 0 < Q) (hq2 : Q ≤ 1000000000) (y : Int) : ∃ x, fnR (evS C sooS [.sh (mD P Q t), .sh (.int y), .un, .un, .un, .un, .un, .un, .un, .un] μ) = .ok (.int x) μ ∧ IsSoon f y x := by
  have p0 := m.p0
  have p1 := m.p1
  have hl := m.l
  have hz : lastZ t = t.getD (P - 1) 0 := lastZ_get m.p0 m.l
  -- the block
  obtain ⟨B, hB⟩ : ∃ B : Int, B = -((lastZ t - y) / Q) := ⟨_, rfl⟩
  have hmod := Int.emod_add_mul_ediv (lastZ t - y) Q
  have hm0 := Int.emod_nonneg (lastZ t - y) (show Q ≠ 0 by omega)
  have hm1 := Int.emod_lt_of_pos (lastZ t - y) hq
  have hBQ : Q * ((lastZ t - y) / Q) = -(B * Q) := by rw [hB, Int.neg_mul, Int.neg_neg, Int.mul_comm]
  have i2 : y - B * Q ≤ lastZ t := by omega
  have i3 : lastZ t - Q < y - B * Q := by omega
  have w := soo_loop (C := C) (μ := μ) (.sh (mD P Q t)) (.sh (.int y)) (.sh (.int B)) (.sh (.int P)) (.sh (.int Q)) (y - B * Q) t (P - 1) (-1) ((P : Int) - 1) whileMost .un (by omega) (by omega) (by omega) (by omega) (.inl rfl) (by
    have e : ((P : Int) - 1).toNat = P - 1 := by omega
    rw [e, ← hz]; exact i2) (by rw [whileMost_eq]; omega)
  obtain ⟨r, s', w, hr, hr1, hr2⟩ := w
  rw [hl] at hr
  refine ⟨B * P + r, soo_step (P : Int) Q y (lastZ t) B (y - B * Q) (t.map .int) (ixT_last t (by intro z; rw [z] at hl; simp at hl; omega)) (by
    rw [binD_fdiv _ Q hq (log2_small Q hq (Int.lt_of_le_of_lt hq2 (by decide))), hB, Int.neg_neg]) (by
    rw [binD_mul _ _ (mulOk_r (by omega))]
    congr 2
    omega) r _ s' (B * P) w (binD_mul _ _ (mulOk_r (by omega))), ?_⟩
  have fe := m.v
  constructor
  · rw [← fe, Int.add_comm, vl_at r B hr]
    omega
  · rw [← fe]
    rcases hr2 with z | z
    · have e : B * (P : Int) + r - 1 = ((P - 1 : Nat) : Int) + (B - 1) * P := by
        rw [Int.sub_mul]
        omega
      rw [e, vl_at _ _ (by omega), ← hz, Int.sub_mul]
      omega
    · by_cases h0 : r = 0
      · have e : B * (P : Int) + r - 1 = ((P - 1 : Nat) : Int) + (B - 1) * P := by
          rw [Int.sub_mul]
          omega
        rw [e, vl_at _ _ (by omega), ← hz, Int.sub_mul]
        omega
      · have e : B * (P : Int) + r - 1 = ((r - 1 : Nat) : Int) + B * P := by omega
        rw [e, vl_at _ _ (by omega)]
        omega
end
end Pg
end

section
set_option Elab.async false
set_option linter.all false
set_option maxRecDepth 100000
set_option maxHeartbeats 4000000
namespace Pg
open PySem PySem.Spec PyProof.Rows L2 Ev Mt
theorem max_tup {xs : List Int} (h : xs ≠ []) : ∃ m, biD .max [.tup (xs.map .int)] = some (.int m) ∧ IsMax xs m := by
  cases xs with
  | nil => exact absurd rfl h
  | cons x r =>
    refine ⟨mxI x r, ?_, mxI_spec r x⟩
    show (match asInts ((x :: r).map .int) with
      | some (m :: r) => some (D.int (mxI m r))
      | _ => none) = _
    rw [asInts_f]
section
variable {C : Fns} {μ : Mu}
theorem soon_ex {f : Int → Int} {P : Nat} {Q : Int} {t : List Int} (m : Mp f P Q t) (hq : 0 < Q) (hq2 : Q ≤ 1000000000) (y : Int) : ∃ x, IsSoon f y x := by
  obtain ⟨x, _, h⟩ := soo_run (C := fns0 fun _ => .non) (μ := []) m hq hq2 y
  exact ⟨x, h⟩
def lsooB : S := (.seq (.asg false (.name 2) (.bin .add (.var 2) (.int 1))) .skip)
def lsooS (fv : Nat) : S := (.seq (.asg false (.name 2) (.bin .mul (.bin .sub (.bin .fdiv (.bin .sub (.var 1) (.bi .max (.cons (.idx (.var 0) (.int 2)) .nil))) (.idx (.var 0) (.int 1))) (.int 1)) (.idx (.var 0) (.int 0)))) (.seq (.whl (.cmp .lt (.call fv (.cons (.var 0) (.cons (.var 2) .nil))) (.var 1)) lsooB) (.seq (.ret (.var 2)) .skip)))
theorem lsoo_c {fv : Nat} (a : D) (x y w : Int) (h : C.call fv [a, .int x] μ = .ok (.int w) μ) : evE C (.cmp .lt (.call fv (.cons (.var 0) (.cons (.var 2) .nil))) (.var 1)) [.sh a, .sh (.int y), .sh (.int x)] μ = .ok (.bl (decide (w < y))) μ := by
  simp [h, cmpD_lt]
theorem lsoo_b (a : D) (x y : Int) : evS C lsooB [.sh a, .sh (.int y), .sh (.int x)] μ = .ok (.nx [.sh a, .sh (.int y), .sh (.int (x + 1))]) μ := by
  simp [lsooB, binD_add, newSlot]
theorem lsoo_loop {fv : Nat} {f : Int → Int} (a : D) (hv : ∀ x, C.call fv [a, .int x] μ = .ok (.int (f x)) μ) (mo : Mono f) {y X : Int} (s : IsSoon f y X) : ∀ (k m : Nat), k < m →
    whlL (evE C (.cmp .lt (.call fv (.cons (.var 0) (.cons (.var 2) .nil))) (.var 1))) (evS C lsooB) m [.sh a, .sh (.int y), .sh (.int (X - k))] μ = .ok (.nx [.sh a, .sh (.int y), .sh (.int X)]) μ
  | k, 0, h => by omega
  | 0, m + 1, _ => by
    unfold whlL
    rw [lsoo_c a _ y _ (hv _), decide_eq_false (by rw [← s.lt mo]; omega)]
    simp
  | k + 1, m + 1, h => by
    unfold whlL
    rw [lsoo_c a _ y _ (hv _), decide_eq_true ((s.lt mo).mp (by omega))]
    dsimp only
    rw [lsoo_b]
    dsimp only
    have e : X - ((k + 1 : Nat) : Int) + 1 = X - (k : Nat) := by omega
    rw [e]
    exact lsoo_loop a hv mo s k m (by omega)
theorem lsoo_step {fv : Nat} (a T : D) (p q y M u x0 X : Int) (i0 : ixM μ a (.int 0) = some (.int p)) (i1 : ixM μ a (.int 1) = some (.int q)) (i2 : ixM μ a (.int 2) = some T) (hM : biD .max [T] = some (.int M)) (f1 : binD .fdiv (.int (y - M)) (.int q) = some (.int u)) (m1 : binD .mul (.int (u - 1)) (.int p) = some (.int x0))
    (w : evS C (.whl (.cmp .lt (.call fv (.cons (.var 0) (.cons (.var 2) .nil))) (.var 1)) lsooB) [.sh a, .sh (.int y), .sh (.int x0)] μ = .ok (.nx [.sh a, .sh (.int y), .sh (.int X)]) μ) :
    fnR (evS C (lsooS fv) [.sh a, .sh (.int y), .un] μ) = .ok (.int X) μ := by
  simp [lsooS, i0, i1, i2, hM, binD_sub, f1, m1, newSlot, w]
theorem lsoo_run {fv : Nat} (hv : HVal C fv) {f : Int → Int} {P : Nat} {Q : Int} {t : List Int} (m : Mp f P Q t) (hq : 0 < Q) (hq2 : Q ≤ 1000000000) {y X : Int} (s : IsSoon f y X) : fnR (evS C (lsooS fv) [.sh (mD P Q t), .sh (.int y), .un] μ) = .ok (.int X) μ := by
  have p0 := m.p0
  have p1 := m.p1
  have hl := m.l
  have fe : vl P Q t = f := funext m.v
  have hne : t ≠ [] := by intro z; rw [z] at hl; simp at hl; omega
  obtain ⟨M, hM, hM1, hM2⟩ := max_tup hne
  have at_ : ∀ i : Nat, i < P → f i = t.getD i 0 := fun i hi => by rw [← fe, vl_small hi]
  have h0 : f 0 ≤ M := by
    have := at_ 0 p0
    rw [Int.natCast_zero] at this
    rw [this]
    apply hM2
    rw [List.getD_eq_getElem?_getD, List.getElem?_eq_getElem (by omega)]
    exact List.getElem_mem _
  have h1 : M ≤ f 0 + Q := by
    obtain ⟨i, hi, e⟩ := List.getElem_of_mem hM1
    have := at_ i (by omega)
    rw [List.getD_eq_getElem?_getD, List.getElem?_eq_getElem hi] at this
    have e2 : f i = M := by rw [this]; exact e
    have e3 := m.m.le' (show (i : Int) ≤ 0 + (P : Int) by omega)
    have e4 := m.toRp.per 0
    omega
  have hmod := Int.emod_add_mul_ediv (y - M) Q
  have hm0 := Int.emod_nonneg (y - M) (show Q ≠ 0 by omega)
  have hm1 := Int.emod_lt_of_pos (y - M) hq
  have hcm : Q * ((y - M) / Q) = (y - M) / Q * Q := Int.mul_comm _ _
  have v0 := per_int m.toRp.per ((y - M) / Q - 1) 0
  rw [Int.zero_add, Int.sub_mul ((y - M) / Q) 1 Q, Int.one_mul] at v0
  have lo : ((y - M) / Q - 1) * (P : Int) < X := (s.lt m.m).mpr (by omega)
  have v3 := per_int m.toRp.per 3 (((y - M) / Q - 1) * (P : Int))
  have hi : X ≤ ((y - M) / Q - 1) * (P : Int) + 3 * P := by
    have := s.lt (z := ((y - M) / Q - 1) * (P : Int) + 3 * P) m.m
    have hn : ¬ f (((y - M) / Q - 1) * (P : Int) + 3 * P) < y := by omega
    have := mt this.mp hn
    omega
  have o := m.ok3 (by omega)
  have hv' : ∀ x, C.call fv [mD P Q t, .int x] μ = .ok (.int (f x)) μ := fun x => by rw [hv o x μ, fe]
  obtain ⟨k, hk⟩ : ∃ k : Nat, (k : Int) = X - ((y - M) / Q - 1) * (P : Int) := ⟨(X - ((y - M) / Q - 1) * (P : Int)).toNat, by omega⟩
  have w := lsoo_loop (mD P Q t) hv' m.m s k whileMost (by rw [whileMost_eq]; omega)
  have e : X - (k : Int) = ((y - M) / Q - 1) * (P : Int) := by omega
  rw [e] at w
  exact lsoo_step (mD P Q t) _ P Q y M _ _ X rfl rfl rfl hM (binD_fdiv _ Q hq (log2_small Q hq (Int.lt_of_le_of_lt hq2 (by decide)))) (binD_mul _ _ (mulOk_r (by omega))) w
def risesS (fv : Nat) : S := (.seq (.ret (.comp (.name 1) (.rng (.cons (.idx (.var 0) (.int 0)) .nil)) (.bin .sub (.call fv (.cons (.var 0) (.cons (.bin .add (.var 1) (.int 1)) .nil))) (.call fv (.cons (.var 0) (.cons (.var 1) .nil)))) .nil)) .skip)
def riseF (f : Int → Int) (x : Int) : Int := f (x + 1) - f x
theorem rises_run {fv : Nat} (hv : HVal C fv) {f : Int → Int} {P : Nat} {Q : Int} {t : List Int} (m : Mp f P Q t) (hq2 : Q ≤ 1000000000) : fnR (evS C (risesS fv) [.sh (mD P Q t), .un] μ) = .ok (.lst ((tab (riseF f) P).map .int)) μ := by
  have o := m.ok3 (by omega)
  have p1 := m.p1
  have fe : vl P Q t = f := funext m.v
  have cm := comp_tab (C := C) (μ := μ) (ρ := [.sh (mD P Q t), .un]) (it := .rng (.cons (.idx (.var 0) (.int 0)) .nil)) (elt := .bin .sub (.call fv (.cons (.var 0) (.cons (.bin .add (.var 1) (.int 1)) .nil))) (.call fv (.cons (.var 0) (.cons (.var 1) .nil)))) (n := P) (k := 1) (g := riseF f)
    (rng1_ok (by simp [ixM_0]) (by omega) (by omega)) (fun _ => rfl) (by omega) (fun i => [.sh (mD P Q t), .sh (.int (i : Int))]) (fun _ => rfl) (fun i _ => by
      have h1 := hv o ((i : Int) + 1) μ
      have h2 := hv o (i : Int) μ
      rw [fe] at h1 h2
      unfold riseF
      generalize (i : Int) = z at *
      simp [binD_add, h1, h2, binD_sub])
  simp only [risesS, vS_seq, vS_ret]
  rw [cm]
  rfl
def parB : S := (.seq (.app 3 (.bin .add (.idx (.pk 3) (.neg (.int 1))) (.ite (.cmp .gt (.var 6) (.int 0)) (.int 1) (.int 0)))) (.seq (.cond (.cmp .gt (.var 6) (.int 0)) (.seq (.app 4 (.bin .add (.idx (.pk 4) (.neg (.int 1))) (.var 6))) .skip) .skip) .skip))
def parS (fr fn : Nat) : S := (.seq (.asg false (.name 1) (.call fr (.cons (.var 0) .nil))) (.seq (.xas [true, true] [3, 4] (.cons (.lst (.cons (.int 0) .nil)) (.cons (.lst (.cons (.idx (.idx (.var 0) (.int 2)) (.int 0)) .nil)) .nil))) (.seq (.for_ (.tup (.cons (.name 5) (.cons (.name 6) .nil))) (.enm (.var 1)) parB) (.seq (.asg false (.name 2) (.idx (.pk 3) (.neg (.int 1)))) (.seq (.ret (.tup (.cons (.call fn (.cons (.tup (.cons (.idx (.var 0) (.int 0)) (.cons (.var 2) (.cons (.bi .tuple (.cons (.sl (.pk 3) .nil (.neg (.int 1))) .nil)) .nil)))) .nil)) (.cons (.call fn (.cons (.tup (.cons (.var 2) (.cons (.idx (.var 0) (.int 1)) (.cons (.bi .tuple (.cons (.sl (.pk 4) .nil (.var 2)) .nil)) .nil)))) .nil)) .nil)))) .skip)))))
theorem ixL_lst (is : List Int) (l : Int) : ixD (.lst ((is ++ [l]).map .int)) (.int (-1)) = some (.int l) := by
  show atI _ _ = _
  unfold atI ixN
  have e : (-1 + ((is.length : Int) + 1)).toNat = is.length := by omega
  simp [show (1 : Int) ≤ (is.length : Int) + 1 by omega, e]
theorem par_turn (a b c : Ev.Slot) (s5 s6 : Ev.Slot) (K V : List D) (x r ck vk : Int) (hK : ixD (.lst K) (.int (-1)) = some (.int ck)) (hV : ixD (.lst V) (.int (-1)) = some (.int vk)) (lK : K.length < sizeLine) (lV : V.length < sizeLine) :
    (R.of (setTg (.tup (.cons (.name 5) (.cons (.name 6) .nil))) (.tup [.int x, .int r]) [a, b, c, .own K, .own V, s5, s6]) μ).bind (fun ρ μ => evS C parB ρ μ) =
      .ok (.nx [a, b, c, .own (K ++ [.int (ck + (if 0 < r then 1 else 0))]), .own (if 0 < r then V ++ [.int (vk + r)] else V), .sh (.int x), .sh (.int r)]) μ := by
  by_cases h : 0 < r <;> simp [parB, setTg, negD, ixM_lst, hK, hV, cmpD_gt, h, binD_add, lK, lV]
theorem vs_last {v : Int → Int} (m : Mono v) : ∀ k : Nat, ∃ is, vs v k = is ++ [v k]
  | 0 => ⟨[], rfl⟩
  | k + 1 => by
    by_cases h : v k < v ((k : Int) + 1)
    · refine ⟨vs v k, ?_⟩
      show vs v k ++ _ = _
      rw [if_pos h]
      congr 1
    · obtain ⟨is, e⟩ := vs_last m k
      refine ⟨is, ?_⟩
      show vs v k ++ _ = _
      rw [if_neg h, List.append_nil, e]
      have := m k
      have e2 : v ((k + 1 : Nat) : Int) = v k := by push_cast; omega
      rw [e2]
theorem par_loop {f : Int → Int} (mo : Mono f) (a b c : Ev.Slot) : ∀ (n k : Nat) (s5 s6 : Ev.Slot), k + n ≤ 10000 →
    ∃ s5' s6', forL (fun d ρ μ => (R.of (setTg (.tup (.cons (.name 5) (.cons (.name 6) .nil))) d ρ) μ).bind fun ρ μ => evS C parB ρ μ) ((List.range' k n).map fun i => .tup [.int ((i : Nat) : Int), .int (riseF f ((i : Nat) : Int))]) [a, b, c, .own ((tab (cnF f) (k + 1)).map .int), .own ((vs f k).map .int), s5, s6] μ =
      .ok (.nx [a, b, c, .own ((tab (cnF f) (k + n + 1)).map .int), .own ((vs f (k + n)).map .int), s5', s6']) μ
  | 0, k, s5, s6, _ => ⟨s5, s6, rfl⟩
  | n + 1, k, s5, s6, hk => by
    obtain ⟨s5', s6', ih⟩ := par_loop mo a b c n (k + 1) (.sh (.int (k : Int))) (.sh (.int (riseF f (k : Int)))) (by omega)
    refine ⟨s5', s6', ?_⟩
    obtain ⟨is, e⟩ := vs_last mo k
    have hV : ixD (.lst ((vs f k).map .int)) (.int (-1)) = some (.int (f k)) := by rw [e]; exact ixL_lst _ _
    have hK : ixD (.lst ((tab (cnF f) (k + 1)).map .int)) (.int (-1)) = some (.int (cn f k)) := by
      rw [tab_succ]
      have := ixL_lst (tab (cnF f) k) (cnF f (k : Int))
      rw [cnF_nat] at this ⊢
      exact this
    have lV : ((vs f k).map D.int).length < sizeLine := by
      have h1 := vs_len f k
      have h2 : cn f k ≤ (k : Int) := by
        have : ∀ j : Nat, cn f j ≤ (j : Int) := fun j => by
          induction j with
          | zero => exact Int.le_refl _
          | succ j ih =>
            rw [cn_succ]
            have := dd_01 f j
            push_cast
            omega
        exact this k
      simp [sizeLine]
      omega
    have st := par_turn (C := C) (μ := μ) a b c s5 s6 _ _ (k : Int) (riseF f k) _ _ hK hV (by simp [sizeLine, tab]; omega) lV
    rw [List.range'_succ, List.map_cons]
    unfold forL
    rw [st]
    dsimp only
    have eK : (tab (cnF f) (k + 1)).map D.int ++ [D.int (cn f k + (if 0 < riseF f (k : Int) then 1 else 0))] = (tab (cnF f) (k + 1 + 1)).map .int := by
      rw [tab_succ (cnF f) (k + 1), List.map_append, List.map_cons, List.map_nil, cnF_nat, cn_succ]
      congr 4
      unfold dd riseF
      by_cases q : f (k : Int) < f ((k : Int) + 1)
      · rw [if_pos q, if_pos (by omega)]
      · rw [if_neg q, if_neg (by omega)]
    have eV : (if 0 < riseF f (k : Int) then (vs f k).map D.int ++ [D.int (f k + riseF f (k : Int))] else (vs f k).map .int) = (vs f (k + 1)).map .int := by
      have e3 : vs f (k + 1) = vs f k ++ (if f k < f ((k : Int) + 1) then [f ((k : Int) + 1)] else []) := rfl
      rw [e3]
      unfold riseF
      by_cases q : f (k : Int) < f ((k : Int) + 1)
      · rw [if_pos q, if_pos (by omega), List.map_append]
        congr 3
        omega
      · rw [if_neg q, if_neg (by omega), List.append_nil]
    rw [eK, eV, ih]
    have : k + 1 + n = k + (n + 1) := by omega
    rw [this]
end
end Pg
end

section
set_option Elab.async false
set_option linter.all false
set_option maxRecDepth 100000
set_option maxHeartbeats 4000000
namespace Pg
open PySem PySem.Spec PyProof.Rows L2 Ev Mt
theorem enum_tab (g : Int → Int) : ∀ (n k : Nat), enum2 ((List.range' k n).map fun i => D.int (g ((i : Nat) : Int))) (k : Int) = (List.range' k n).map fun i => .tup [.int ((i : Nat) : Int), .int (g ((i : Nat) : Int))]
  | 0, k => rfl
  | n + 1, k => by
    rw [List.range'_succ, List.map_cons, List.map_cons]
    show D.tup [.int (k : Int), .int (g (k : Int))] :: enum2 _ ((k : Int) + 1) = _
    congr 1
    have := enum_tab g n (k + 1)
    push_cast at this ⊢
    exact this
theorem tab_range (g : Int → Int) (n : Nat) : (tab g n).map D.int = (List.range' 0 n).map fun i => D.int (g ((i : Nat) : Int)) := by
  unfold tab
  rw [List.map_map, List.range_eq_range']
  rfl
section
variable {C : Fns} {μ : Mu}
theorem par_step {fr fn : Nat} (a T v0 p q : D) (R K V K' V' : List D) (ck : Int) (r1 r2 : D) (s5 s6 : Ev.Slot) (h1 : C.call fr [a] μ = .ok (.lst R) μ) (i0 : ixM μ a (.int 0) = some p) (i1 : ixM μ a (.int 1) = some q) (i2 : ixM μ a (.int 2) = some T) (i3 : ixM μ T (.int 0) = some v0)
    (w : evS C (.for_ (.tup (.cons (.name 5) (.cons (.name 6) .nil))) (.enm (.var 1)) parB) [.sh a, .sh (.lst R), .un, .own [.int 0], .own [v0], .un, .un] μ = .ok (.nx [.sh a, .sh (.lst R), .un, .own K, .own V, s5, s6]) μ)
    (hk : ixD (.lst K) (.int (-1)) = some (.int ck)) (c1 : slD (.lst K) none (some (-1)) = some (.lst K')) (n1 : C.call fn [.tup [p, .int ck, .tup K']] μ = .ok r1 μ) (c2 : slD (.lst V) none (some ck) = some (.lst V')) (n2 : C.call fn [.tup [.int ck, q, .tup V']] μ = .ok r2 μ) :
    fnR (evS C (parS fr fn) [.sh a, .un, .un, .un, .un, .un, .un] μ) = .ok (.tup [r1, r2]) μ := by
  simp [parS, h1, newSlot, i0, i1, i2, i3, setX, w, negD, ixM_lst, hk, partE, c1, biD_tupL, n1, c2, n2]
theorem cn_leP (v : Int → Int) (k : Nat) : cn v k ≤ (k : Int) := by
  induction k with
  | zero => exact Int.le_refl _
  | succ j ih =>
    rw [cn_succ]
    have := dd_01 v j
    push_cast
    omega
def m1F (f : Int → Int) (P : Nat) : Nat × Int × List Int := nrm P (cn f P) (tab (cnF f) P)
def m2F (f : Int → Int) (P : Nat) (Q : Int) : Nat × Int × List Int := nrm (cn f P).toNat Q ((vs f P).take (cn f P).toNat)
theorem m1_rp {f : Int → Int} {P : Nat} (h0 : 0 < P) : Rp (cc f P) P (cn f P) (tab (cnF f) P) := ⟨h0, tab_len _ _, fun _ => rfl⟩
theorem m2_rp {f : Int → Int} {P : Nat} {Q : Int} (m : Mono f) (h : Mt.per f P Q) (hq : 0 < Q) : Rp (ww f P Q) (cn f P).toNat Q ((vs f P).take (cn f P).toNat) := ⟨by have := cn_pos m h hq; omega, ww_len, fun _ => rfl⟩
theorem par_run {fr fv fn : Nat} (hr : ∀ {f : Int → Int} {P : Nat} {Q : Int} {t : List Int} (_ : Mp f P Q t) (_ : Q ≤ 1000000000) μ, C.call fr [mD P Q t] μ = .ok (.lst ((tab (riseF f) P).map .int)) μ) (hn : HNorm C fn) {f : Int → Int} {P : Nat} {Q : Int} {t : List Int} (m : Mp f P Q t) (hq : 0 < Q) (hq2 : Q ≤ 1000000000) :
    fnR (evS C (parS fr fn) [.sh (mD P Q t), .un, .un, .un, .un, .un, .un] μ) = .ok (.tup [nD (m1F f P), nD (m2F f P Q)]) μ := by
  have p0 := m.p0
  have p1 := m.p1
  have fe : vl P Q t = f := funext m.v
  have cp := cn_pos m.m m.toRp.per hq
  have cl := cn_leP f P
  obtain ⟨s5, s6, w⟩ := par_loop (C := C) (μ := μ) m.m (.sh (mD P Q t)) (.sh (.lst ((tab (riseF f) P).map .int))) .un P 0 .un .un (by omega)
  rw [show 0 + P = P from Nat.zero_add P] at w
  have w' := for_ok (C := C) (μ := μ) (it := .enm (.var 1)) (x := .lst (enum2 ((tab (riseF f) P).map .int) 0)) (ρ := [.sh (mD P Q t), .sh (.lst ((tab (riseF f) P).map .int)), .un, .own ((tab (cnF f) (0 + 1)).map .int), .own ((vs f 0).map .int), .un, .un]) rfl (by
    show some _ = _
    rw [tab_range]
    have := enum_tab (riseF f) P 0
    rw [Int.natCast_zero] at this
    rw [this]) w
  have e0 : ixM μ (.tup (t.map .int)) (.int 0) = some (.int (f 0)) := by
    have := ixT_nat t 0 (by have := m.l; omega)
    have e := vl_small (Q := Q) (t := t) p0
    rw [Int.natCast_zero, fe] at e
    rw [e]
    exact this
  have hk : ixD (.lst ((tab (cnF f) (P + 1)).map .int)) (.int (-1)) = some (.int (cn f P)) := by
    rw [tab_succ]
    have := ixL_lst (tab (cnF f) P) (cnF f (P : Int))
    rw [cnF_nat] at this ⊢
    exact this
  have c1 : slD (.lst ((tab (cnF f) (P + 1)).map D.int)) none (some (-1)) = some (.lst ((tab (cnF f) P).map .int)) := by
    rw [slD_m1L, tab_succ, List.map_append, List.map_cons, List.map_nil, List.dropLast_concat]
  have c2 : slD (.lst ((vs f P).map D.int)) none (some (cn f P)) = some (.lst (((vs f P).take (cn f P).toNat).map .int)) := by
    have e : cn f P = (((cn f P).toNat : Nat) : Int) := by omega
    rw [e]
    show some (D.lst (cut _ none (some (((cn f P).toNat : Nat) : Int)))) = _
    rw [cut_to, List.map_take, Int.toNat_natCast]
  have n1 := hn (Rp.ok3 (m1_rp (f := f) p0) (by omega) (cn_nn f P) (by omega)) μ
  have n2 := hn (Rp.ok3 (m2_rp m.m m.toRp.per hq) (by omega) (by omega) (by omega)) μ
  have n2' : C.call fn [.tup [.int (cn f P), .int Q, .tup (((vs f P).take (cn f P).toNat).map .int)]] μ = .ok (nD (m2F f P Q)) μ := by
    have e : cn f P = (((cn f P).toNat : Nat) : Int) := by omega
    have e2 : D.tup [.int (cn f P), .int Q, .tup (((vs f P).take (cn f P).toNat).map .int)] = mD (cn f P).toNat Q ((vs f P).take (cn f P).toNat) := by
      unfold mD
      rw [← e]
    rw [e2]
    exact n2
  exact par_step (mD P Q t) (.tup (t.map .int)) (.int (f 0)) (.int P) (.int Q) _ _ _ _ _ _ _ _ s5 s6 (hr m hq2 μ) rfl rfl rfl e0 w' hk c1 n1 c2 n2'
def lvB (fv : Nat) : S := (.seq (.asg false (.name 5) (.call fv (.cons (.var 0) (.cons (.var 3) .nil)))) (.seq (.cond (.or (.cmp .eq (.pk 4) (.lst .nil)) (.or1 (.cmp .ne (.var 5) (.idx (.pk 4) (.neg (.int 1)))))) (.seq (.app 4 (.var 5)) .skip) .skip) (.seq (.asg false (.name 3) (.bin .add (.var 3) (.int 1))) .skip)))
def lvW (fv : Nat) : S := (.whl (.cmp .lt (.bi .len (.cons (.pk 4) .nil)) (.var 2)) (lvB fv))
def lvS (fs fv : Nat) : S := (.seq (.xas [false, true] [3, 4] (.cons (.call fs (.cons (.var 0) (.cons (.var 1) .nil))) (.cons (.lst .nil) .nil))) (.seq (lvW fv) (.seq (.retO 4) .skip)))
theorem lv_c (a b s5 : Ev.Slot) (many x : Int) (L : List D) : evE C (.cmp .lt (.bi .len (.cons (.pk 4) .nil)) (.var 2)) [a, b, .sh (.int many), .sh (.int x), .own L, s5] μ = .ok (.bl (decide ((L.length : Int) < many))) μ := by
  simp [biD_len, cmpD_lt]
theorem lv_b0 {fv : Nat} (a : D) (b s5 : Ev.Slot) (many : Ev.Slot) (x v : Int) (h : C.call fv [a, .int x] μ = .ok (.int v) μ) (hn : cmpD .eq (.lst []) (.lst []) = some true) :
    evS C (lvB fv) [.sh a, b, many, .sh (.int x), .own [], s5] μ = .ok (.nx [.sh a, b, many, .sh (.int (x + 1)), .own [.int v], .sh (.int v)]) μ := by
  have sz : (0 : Nat) < sizeLine := by simp [sizeLine]
  simp [lvB, h, newSlot, hn, sz, binD_add]
theorem lv_b1 {fv : Nat} (a : D) (b s5 : Ev.Slot) (many : Ev.Slot) (x v u : Int) (L : List D) (h : C.call fv [a, .int x] μ = .ok (.int v) μ) (hn : cmpD .eq (.lst L) (.lst []) = some false) (hl : ixD (.lst L) (.int (-1)) = some (.int u)) (sz : L.length < sizeLine) :
    evS C (lvB fv) [.sh a, b, many, .sh (.int x), .own L, s5] μ = .ok (.nx [.sh a, b, many, .sh (.int (x + 1)), .own (if v = u then L else L ++ [.int v]), .sh (.int v)]) μ := by
  by_cases q : v = u <;> simp [lvB, h, newSlot, hn, negD, ixM_lst, hl, cmpD_neI, q, sz, binD_add]
def wlF (w : Int → Int) (c0 : Int) (j : Int) : Int := w (c0 + j)
theorem eq_nilL (xs : List Int) : cmpD .eq (.lst (xs.map .int)) (.lst []) = some (decide (xs = [])) := by
  show eqD (.lst (xs.map .int)) (.lst (([] : List Int).map .int)) = _
  have h1 := depth_ints xs
  have s1 : SeqAt.shaped (.list (xs.map .int)) = true := by
    simp [SeqAt.shaped, PyData.canLay0, lay_ints, PyData.depth]
    omega
  have t1 : ∀ ys : List Int, toPy (.lst (ys.map .int)) = some (.list (ys.map .int)) := fun ys => by
    show (toPys (ys.map .int)).map PyData.list = _
    rw [toPys_ints]
    rfl
  have s0 : SeqAt.shaped (.list (([] : List Int).map .int)) = true := rfl
  unfold eqD
  rw [t1, t1]
  simp only [s1, s0, Bool.and_self, if_true]
  show some (PyData.eqvAll _ _) = _
  rw [eqv_ints]
/-- from the second turn on -/
theorem lv_loop {fv : Nat} {f : Int → Int} {P : Nat} {Q : Int} (a : D) (hv : ∀ x, C.call fv [a, .int x] μ = .ok (.int (f x)) μ) (h0 : 0 < P) (mo : Mono f) (hp : Mt.per f P Q) (hq : 0 < Q) (b : Ev.Slot) (many : Nat) (hmany : many ≤ 1000) (c0 : Int) :
    ∀ (k : Nat) (x : Int) (m : Nat) (s5 : Ev.Slot) (len : Nat), 1 ≤ len → len ≤ many → cc f P (x - 1) = c0 + (len : Int) - 1 → c0 + (many : Int) - 1 ≤ cc f P (x - 1 + k) → k < m →
    ∃ x' s5', whlL (evE C (.cmp .lt (.bi .len (.cons (.pk 4) .nil)) (.var 2))) (evS C (lvB fv)) m [.sh a, b, .sh (.int many), .sh (.int x), .own ((tab (wlF (ww f P Q) c0) len).map .int), s5] μ = .ok (.nx [.sh a, b, .sh (.int many), x', .own ((tab (wlF (ww f P Q) c0) many).map .int), s5']) μ
  | k, x, 0, _, _, _, _, _, _, h => by omega
  | k, x, m + 1, s5, len, l1, l2, hc, hk, hm => by
    unfold whlL
    rw [lv_c]
    have hlen : ((tab (wlF (ww f P Q) c0) len).map D.int).length = len := by simp [tab]
    rw [hlen]
    by_cases q : (len : Int) < (many : Int)
    · rw [decide_eq_true q]
      dsimp only
      have k0 : 0 < k := by
        rcases Nat.eq_zero_or_pos k with z | z
        · subst z
          simp at hk
          omega
        · exact z
      obtain ⟨k, rfl⟩ : ∃ j, k = j + 1 := ⟨k - 1, by omega⟩
      obtain ⟨len, rfl⟩ : ∃ j, len = j + 1 := ⟨len - 1, by omega⟩
      have ne : cmpD .eq (.lst ((tab (wlF (ww f P Q) c0) (len + 1)).map .int)) (.lst []) = some false := by
        rw [eq_nilL, decide_eq_false]
        intro z
        have := tab_len (wlF (ww f P Q) c0) (len + 1)
        rw [z] at this
        simp at this
      have hl : ixD (.lst ((tab (wlF (ww f P Q) c0) (len + 1)).map .int)) (.int (-1)) = some (.int (f (x - 1))) := by
        rw [tab_succ]
        have := ixL_lst (tab (wlF (ww f P Q) c0) len) (wlF (ww f P Q) c0 (len : Int))
        have e : wlF (ww f P Q) c0 (len : Int) = f (x - 1) := by
          have e1 := ww_cc h0 mo hp hq (x - 1)
          rw [← e1, hc]
          unfold wlF
          congr 1
          push_cast
          omega
        rw [e] at this ⊢
        exact this
      rw [lv_b1 a b s5 _ x (f x) (f (x - 1)) _ (hv x) ne hl (by simp [tab, sizeLine]; omega)]
      dsimp only
      have hs := cc_succ h0 hp (x - 1)
      rw [Int.sub_add_cancel] at hs
      have ek : x + 1 - 1 + (k : Int) = x - 1 + ((k + 1 : Nat) : Int) := by push_cast; omega
      by_cases p : f x = f (x - 1)
      · rw [if_pos p]
        have hd : dd f (x - 1) = 0 := if_neg (by rw [Int.sub_add_cancel]; omega)
        exact lv_loop a hv h0 mo hp hq b many hmany c0 k (x + 1) m _ (len + 1) l1 l2 (by rw [Int.add_sub_cancel, hs, hd, hc]; omega) (by rw [ek]; exact hk) (by omega)
      · rw [if_neg p]
        have hlt : f (x - 1) < f x := by
          have := mo (x - 1)
          rw [Int.sub_add_cancel] at this
          omega
        have hd : dd f (x - 1) = 1 := if_pos (by rw [Int.sub_add_cancel]; exact hlt)
        have et : (tab (wlF (ww f P Q) c0) (len + 1)).map D.int ++ [D.int (f x)] = (tab (wlF (ww f P Q) c0) (len + 1 + 1)).map .int := by
          rw [tab_succ (wlF (ww f P Q) c0) (len + 1), List.map_append, List.map_cons, List.map_nil]
          congr 3
          have e1 := ww_cc h0 mo hp hq x
          rw [← e1, hs, hd, hc]
          unfold wlF
          congr 1
          push_cast
          omega
        rw [et]
        exact lv_loop a hv h0 mo hp hq b many hmany c0 k (x + 1) m _ (len + 1 + 1) (by omega) (by omega) (by rw [Int.add_sub_cancel, hs, hd, hc]; push_cast; omega) (by rw [ek]; exact hk) (by omega)
    · rw [decide_eq_false q]
      have e : len = many := by omega
      subst e
      exact ⟨_, _, rfl⟩
end
end Pg
end

section
set_option Elab.async false
set_option linter.all false
set_option maxRecDepth 100000
set_option maxHeartbeats 1000000
namespace Mt
open Pg Ev
theorem tab_all {g : Int → Int} {N : Nat} (h0 : 0 < N) (h : per g N 0) {z : Int} : z ∈ tab g N ↔ ∃ x, z = g x := by
  rw [tab_mem]
  constructor
  · rintro ⟨i, _, e⟩
    exact ⟨_, e⟩
  · rintro ⟨x, e⟩
    obtain ⟨r, b, hr, rfl⟩ := split_x h0 x
    refine ⟨r, hr, ?_⟩
    rw [e, per_int h b, Int.mul_zero, Int.add_zero]
/-- the leans -/
def ln (f : Int → Int) (p : Nat) (q x : Int) : Int := p * f x - q * x
/-- the values of a gear -/
def gr (q b : Int) (p : Nat) (x : Int) : Int := (q * x + b) / p
theorem ln_per {f : Int → Int} {p : Nat} {q : Int} (h : per f p q) : per (ln f p q) p 0 := fun x => by
  unfold ln
  rw [h, Int.mul_add, Int.mul_add, Int.mul_comm q (p : Int)]
  omega
theorem gr_per {p : Nat} (h0 : 0 < p) (q b : Int) : per (gr q b p) p q := fun x => by
  unfold gr
  have e : q * (x + p) + b = q * x + b + q * p := by rw [Int.mul_add]; omega
  rw [e, Int.add_mul_ediv_right _ _ (by omega)]
theorem gap_eq {p : Nat} (h0 : 0 < p) (f : Int → Int) (q b x : Int) : gr q b p x - f x = (b - ln f p q x) / p := by
  unfold gr ln
  have e : b - (p * f x - q * x) = q * x + b + -f x * p := by
    rw [Int.neg_mul, Int.mul_comm (f x)]
    omega
  rw [e, Int.add_mul_ediv_right _ _ (by omega)]
  omega
def ab (z : Int) : Int := if z < 0 then -z else z
/-- the least and the greatest lean -/
structure Ln (f : Int → Int) (p : Nat) (q mn mx : Int) : Prop where
  p0 : 0 < p
  h : per f p q
  lo : ∀ x, mn ≤ ln f p q x
  hi : ∀ x, ln f p q x ≤ mx
  elo : ∃ x, ln f p q x = mn
  ehi : ∃ x, ln f p q x = mx
theorem Ln.of {f : Int → Int} {p : Nat} {q mn mx : Int} (h0 : 0 < p) (h : per f p q) (h1 : IsMin (tab (ln f p q) p) mn) (h2 : IsMax (tab (ln f p q) p) mx) : Ln f p q mn mx := by
  have a := fun z => tab_all (z := z) h0 (ln_per h)
  refine ⟨h0, h, fun x => h1.2 _ ((a _).mpr ⟨x, rfl⟩), fun x => h2.2 _ ((a _).mpr ⟨x, rfl⟩), ?_, ?_⟩
  · obtain ⟨x, e⟩ := (a _).mp h1.1
    exact ⟨x, e.symm⟩
  · obtain ⟨x, e⟩ := (a _).mp h2.1
    exact ⟨x, e.symm⟩
section
variable {f : Int → Int} {p : Nat} {q mn mx : Int}
theorem Ln.le (l : Ln f p q mn mx) : mn ≤ mx := by
  obtain ⟨x, e⟩ := l.elo
  have := l.hi x
  omega
def fA (p : Nat) (mx b : Int) : Int := 0 - (b - mx) / p
def fB (p : Nat) (mn b : Int) : Int := (b - mn) / p
def fM (p : Nat) (mn mx b : Int) : Int := max (fA p mx b) (fB p mn b)
theorem fA_anti (h0 : 0 < p) (mx : Int) {b b' : Int} (h : b ≤ b') : fA p mx b' ≤ fA p mx b := by
  unfold fA
  have := Int.ediv_le_ediv (c := (p : Int)) (by omega) (show b - mx ≤ b' - mx by omega)
  omega
theorem fB_mono (h0 : 0 < p) (mn : Int) {b b' : Int} (h : b ≤ b') : fB p mn b ≤ fB p mn b' := by
  unfold fB
  exact Int.ediv_le_ediv (by omega) (by omega)
theorem fAB (h0 : 0 < p) (h : mn ≤ mx) (b : Int) : 0 ≤ fA p mx b + fB p mn b := by
  unfold fA fB
  have := Int.ediv_le_ediv (c := (p : Int)) (by omega) (show b - mx ≤ b - mn by omega)
  omega
/-- the gaps lie between -fA and fB, and reach both -/
theorem gap_lo (l : Ln f p q mn mx) (b x : Int) : 0 - fA p mx b ≤ gr q b p x - f x := by
  rw [gap_eq l.p0]
  unfold fA
  have := Int.ediv_le_ediv (c := (p : Int)) (by have := l.p0; omega) (show b - mx ≤ b - ln f p q x by have := l.hi x; omega)
  omega
theorem gap_hi (l : Ln f p q mn mx) (b x : Int) : gr q b p x - f x ≤ fB p mn b := by
  rw [gap_eq l.p0]
  exact Int.ediv_le_ediv (by have := l.p0; omega) (by have := l.lo x; omega)
theorem gap_elo (l : Ln f p q mn mx) (b : Int) : ∃ x, gr q b p x - f x = 0 - fA p mx b := by
  obtain ⟨x, e⟩ := l.ehi
  refine ⟨x, ?_⟩
  rw [gap_eq l.p0, e]
  unfold fA
  omega
theorem gap_ehi (l : Ln f p q mn mx) (b : Int) : ∃ x, gr q b p x - f x = fB p mn b := by
  obtain ⟨x, e⟩ := l.elo
  refine ⟨x, ?_⟩
  rw [gap_eq l.p0, e]
  rfl
theorem gg_per (l : Ln f p q mn mx) (b : Int) : per (fun x => gr q b p x - f x) p 0 := fun x => by
  show gr q b p (x + p) - f (x + p) = _
  rw [gr_per l.p0, l.h]
  show gr q b p x + q - (f x + q) = gr q b p x - f x + 0
  omega
theorem gap_max (l : Ln f p q mn mx) (b : Int) : IsMax (tab (fun x => gr q b p x - f x) p) (fB p mn b) := by
  have a := fun z => tab_all (z := z) l.p0 (gg_per l b)
  refine ⟨(a _).mpr ?_, fun z hz => ?_⟩
  · obtain ⟨x, e⟩ := gap_ehi l b
    exact ⟨x, e.symm⟩
  · obtain ⟨x, rfl⟩ := (a _).mp hz
    exact gap_hi l b x
theorem gap_min (l : Ln f p q mn mx) (b : Int) : IsMin (tab (fun x => gr q b p x - f x) p) (0 - fA p mx b) := by
  have a := fun z => tab_all (z := z) l.p0 (gg_per l b)
  refine ⟨(a _).mpr ?_, fun z hz => ?_⟩
  · obtain ⟨x, e⟩ := gap_elo l b
    exact ⟨x, e.symm⟩
  · obtain ⟨x, rfl⟩ := (a _).mp hz
    exact gap_lo l b x
theorem ab_max {g : Int → Int} {S : Int → Prop} {A B : Int} (lo : ∀ x, 0 - A ≤ g x) (hi : ∀ x, g x ≤ B) (elo : ∃ x, g x = 0 - A) (ehi : ∃ x, g x = B) : (∀ x, ab (g x) ≤ max A B) ∧ ∃ x, ab (g x) = max A B := by
  refine ⟨fun x => ?_, ?_⟩
  · have := lo x
    have := hi x
    unfold ab
    split <;> omega
  · obtain ⟨x, e⟩ := elo
    obtain ⟨y, e'⟩ := ehi
    have := hi x
    rcases Int.le_total A B with z | z
    · refine ⟨y, ?_⟩
      unfold ab
      split <;> omega
    · refine ⟨x, ?_⟩
      unfold ab
      split <;> omega
theorem far_max (l : Ln f p q mn mx) (b : Int) : (∀ x, ab (gr q b p x - f x) ≤ fM p mn mx b) ∧ ∃ x, ab (gr q b p x - f x) = fM p mn mx b :=
  ab_max (S := fun _ => True) (gap_lo l b) (gap_hi l b) (gap_elo l b) (gap_ehi l b)
/-- the nearest gear: the least distance, and the least number with it -/
structure IsNear (p : Nat) (mn mx v b : Int) : Prop where
  e : fM p mn mx b = v
  le : ∀ b', v ≤ fM p mn mx b'
  lt : ∀ b', b' < b → v < fM p mn mx b'
theorem IsNear.uniq {v b v' b' : Int} (h : IsNear p mn mx v b) (h' : IsNear p mn mx v' b') : v = v' ∧ b = b' := by
  have ev : v = v' := by
    have h1 := h.le b'
    have h2 := h'.le b
    rw [h'.e] at h1
    rw [h.e] at h2
    omega
  refine ⟨ev, ?_⟩
  rcases Int.lt_trichotomy b b' with z | z | z
  · have := h'.lt b z
    rw [h.e] at this
    omega
  · exact z
  · have := h.lt b' z
    rw [h'.e] at this
    omega
/-- what the two searches end with -/
theorem near_of (h0 : 0 < p) (hm : mn ≤ mx) {low far last last0 : Int} (k1 : fB p mn low < fA p mx low) (k2 : fA p mx (low + 1) ≤ fB p mn (low + 1)) (hf : far = min (fM p mn mx (low + 1)) (fM p mn mx low)) (hl0 : last0 = if fM p mn mx low ≤ far then low else low + 1)
    (hl : last ≤ last0) (k3 : far < fM p mn mx (last - 1)) (k4 : fM p mn mx last ≤ far) : IsNear p mn mx far last := by
  have le : ∀ b', far ≤ fM p mn mx b' := fun b' => by
    rcases Int.lt_or_le low b' with z | z
    · have := fB_mono h0 mn (show low + 1 ≤ b' by omega)
      unfold fM at *
      omega
    · have := fA_anti h0 mx z
      unfold fM at *
      omega
  refine ⟨?_, le, fun b' hb => ?_⟩
  · have := le last
    omega
  · have hll : last - 1 ≤ low := by
      split at hl0 <;> omega
    have a1 := fA_anti h0 mx (show b' ≤ last - 1 by omega)
    have a2 := fA_anti h0 mx hll
    have a3 := fB_mono h0 mn hll
    unfold fM at *
    omega
/-- below the first bound all is far -/
theorem far_below (h0 : 0 < p) (hm : mn ≤ mx) {far : Int} (le : ∀ b', far ≤ fM p mn mx b') : far < fM p mn mx (mn - p) := by
  have h1 := le mn
  have e1 : fA p mx (mn - p) = fA p mx mn + 1 := by
    unfold fA
    have : mn - p - mx = mn - mx + (-1) * p := by omega
    rw [this, Int.add_mul_ediv_right _ _ (by omega)]
    omega
  have e2 : fB p mn mn = 0 := by
    unfold fB
    rw [Int.sub_self, Int.zero_ediv]
  have e3 : 0 ≤ fA p mx mn := by
    unfold fA
    have := Int.ediv_le_ediv (c := (p : Int)) (by omega) (show mn - mx ≤ 0 by omega)
    rw [Int.zero_ediv] at this
    omega
  unfold fM at *
  omega
theorem start_lo (h0 : 0 < p) (hm : mn ≤ mx) : fB p mn (mn - p) < fA p mx (mn - p) := by
  have e1 : fA p mx (mn - p) = fA p mx mn + 1 := by
    unfold fA
    have : mn - p - mx = mn - mx + (-1) * p := by omega
    rw [this, Int.add_mul_ediv_right _ _ (by omega)]
    omega
  have e3 : 0 ≤ fA p mx mn := by
    unfold fA
    have := Int.ediv_le_ediv (c := (p : Int)) (by omega) (show mn - mx ≤ 0 by omega)
    rw [Int.zero_ediv] at this
    omega
  have e2 : fB p mn (mn - p) = -1 := by
    unfold fB
    have : mn - p - mn = 0 + (-1) * p := by omega
    rw [this, Int.add_mul_ediv_right _ _ (by omega)]
    simp
  omega
theorem start_hi (h0 : 0 < p) (hm : mn ≤ mx) : fA p mx (mx + p) ≤ fB p mn (mx + p) := by
  have e1 : fA p mx (mx + p) = -1 := by
    unfold fA
    have : mx + p - mx = 0 + 1 * p := by omega
    rw [this, Int.add_mul_ediv_right _ _ (by omega)]
    simp
  have e2 := fB_mono h0 mn (show mn ≤ mx + p by omega)
  have e3 : fB p mn mn = 0 := by
    unfold fB
    rw [Int.sub_self, Int.zero_ediv]
  omega
theorem under_iff (h0 : 0 < p) (b : Int) : fB p mn b ≤ 0 ↔ b ≤ mn + p - 1 := by
  unfold fB
  have := Int.ediv_lt_iff_lt_mul (a := b - mn) (b := 1) (c := (p : Int)) (by omega)
  omega
theorem over_iff (h0 : 0 < p) (b : Int) : 0 ≤ 0 - fA p mx b ↔ mx ≤ b := by
  unfold fA
  have := Int.le_ediv_iff_mul_le (a := 0) (b := b - mx) (c := (p : Int)) (by omega)
  omega
/-- a map that is a gear -/
theorem gear_leans {a c b : Int} {cn : Nat} (hc : c = cn) (l : Ln f p q mn mx) (hf : ∀ x, f x = gr a b cn x) (c0 : 0 < cn) (hq : q * c = a * p) : mx - mn < p := by
  obtain ⟨x, ex⟩ := l.ehi
  obtain ⟨y, ey⟩ := l.elo
  have p0 := l.p0
  subst hc
  -- c * lean in (b p - c p, b p]
  have key : ∀ x, (cn : Int) * ln f p q x ≤ b * p ∧ b * p < cn * ln f p q x + cn * p := fun x => by
    have h1 := Int.mul_ediv_self_le (x := a * x + b) (k := (cn : Int)) (by omega)
    have h2 := Int.lt_mul_ediv_self_add (x := a * x + b) (k := (cn : Int)) (by omega)
    have e : (cn : Int) * ln f p q x = p * (cn * f x) - (a * x) * p := by
      unfold ln
      rw [Int.mul_sub]
      congr 1
      · ac_rfl
      · have : (cn : Int) * (q * x) = (q * cn) * x := by ac_rfl
        rw [this, hq]
        ac_rfl
    rw [e, hf]
    unfold gr
    generalize (a * x + b) / (cn : Int) = w at h1 h2
    have m1 := Int.mul_le_mul_of_nonneg_right h1 (show 0 ≤ (p : Int) by omega)
    have m2 := Int.mul_lt_mul_of_pos_right h2 (show 0 < (p : Int) by omega)
    have e1 : (p : Int) * (cn * w) = cn * w * p := by ac_rfl
    rw [e1]
    rw [Int.add_mul] at m1 m2
    rw [Int.add_mul] at m2
    omega
  have k1 := (key x).1
  have k2 := (key y).2
  rw [ex] at k1
  rw [ey] at k2
  have : (cn : Int) * mx < cn * (mn + p) := by rw [Int.mul_add]; omega
  have := Int.lt_of_mul_lt_mul_left this (by omega)
  omega
theorem zero_far (l : Ln f p q mn mx) {b : Int} (h : fM p mn mx b = 0) (x : Int) : gr q b p x = f x := by
  have h1 := gap_lo l b x
  have h2 := gap_hi l b x
  have h3 := fAB l.p0 l.le b
  unfold fM at h
  omega
theorem near_zero (h0 : 0 < p) (hm : mn ≤ mx) (hg : mx - mn < p) {v b : Int} (h : IsNear p mn mx v b) : v = 0 := by
  have h1 := h.le mx
  have h2 := fAB h0 hm b
  have h3 := h.e
  have e1 : fA p mx mx = 0 := by unfold fA; rw [Int.sub_self, Int.zero_ediv]; rfl
  have e2 : fB p mn mx ≤ 0 := (under_iff h0 mx).mpr (by omega)
  unfold fM at *
  omega
theorem under_zero (h0 : 0 < p) (hm : mn ≤ mx) (hg : mx - mn < p) : fM p mn mx (mn + p - 1) = 0 := by
  have h1 := fAB h0 hm (mn + p - 1)
  have e1 := (over_iff (mx := mx) h0 (mn + p - 1)).mpr (by omega)
  have e2 := (under_iff (mn := mn) h0 (mn + p - 1)).mpr (by omega)
  unfold fM
  omega
theorem over_zero (h0 : 0 < p) (hm : mn ≤ mx) (hg : mx - mn < p) : fM p mn mx mx = 0 := by
  have h1 := fAB h0 hm mx
  have e1 := (over_iff (mx := mx) h0 mx).mpr (by omega)
  have e2 := (under_iff (mn := mn) h0 mx).mpr (by omega)
  unfold fM
  omega
end
end Mt
end

section
set_option Elab.async false
set_option linter.all false
set_option maxRecDepth 100000
set_option maxHeartbeats 1000000
namespace Mt
open Pg Ev
theorem ab_sub (a b : Int) : ab (a - b) = ab (b - a) := by
  unfold ab
  split <;> split <;> omega
theorem ab_nn (a : Int) : 0 ≤ ab a := by
  unfold ab
  split <;> omega
structure IsFar (f g : Int → Int) (m : Int) : Prop where
  le : ∀ x, ab (f x - g x) ≤ m
  e : ∃ x, ab (f x - g x) = m
theorem IsFar.uniq {f g : Int → Int} {m m' : Int} (h : IsFar f g m) (h' : IsFar f g m') : m = m' := by
  obtain ⟨x, e⟩ := h.e
  obtain ⟨y, e'⟩ := h'.e
  have := h.le y
  have := h'.le x
  omega
theorem IsFar.symm {f g : Int → Int} {m : Int} (h : IsFar f g m) : IsFar g f m :=
  ⟨fun x => by rw [ab_sub]; exact h.le x, by obtain ⟨x, e⟩ := h.e; exact ⟨x, by rw [ab_sub]; exact e⟩⟩
theorem IsFar.of {f g : Int → Int} {N : Nat} {m : Int} (h0 : 0 < N) (hp : per (fun x => f x - g x) N 0) (h : IsMax (tab (fun x => ab (f x - g x)) N) m) : IsFar f g m := by
  have hp' : per (fun x => ab (f x - g x)) N 0 := fun x => by
    have := hp x
    show ab (f (x + N) - g (x + N)) = ab (f x - g x) + 0
    have e : f (x + N) - g (x + N) = f x - g x := by simpa using this
    rw [e, Int.add_zero]
  have a := fun z => tab_all (z := z) h0 hp'
  refine ⟨fun x => h.2 _ ((a _).mpr ⟨x, rfl⟩), ?_⟩
  obtain ⟨x, e⟩ := (a _).mp h.1
  exact ⟨x, e.symm⟩
theorem per_times {h : Int → Int} {N : Nat} (p : per h N 0) (k : Nat) : per h ((k * N : Nat) : Int) 0 := fun x => by
  have := per_nat p k x
  rw [Int.natCast_mul, this]
  omega
theorem IsFar.add (f : Int → Int) {g : Int → Int} {k : Int} (hk : 0 ≤ k) (h : ∀ x, g x = f x + k) : IsFar f g k := by
  have e : ∀ x, ab (f x - g x) = k := fun x => by
    rw [h, ab_sub, show f x + k - f x = k by omega]
    unfold ab
    split <;> omega
  exact ⟨fun x => by rw [e]; exact Int.le_refl _, 0, e 0⟩
theorem asPrs_map : ∀ ps : List (Int × Int), asPrs (ps.map prD) = some ps
  | [] => rfl
  | (a, b) :: r => by
    show (asPrs (r.map prD)).map ((a, b) :: ·) = _
    rw [asPrs_map r]
    rfl
theorem prLt_iff (x y : Int × Int) : prLt x y = false ↔ y.1 < x.1 ∨ (y.1 = x.1 ∧ y.2 ≤ x.2) := by
  unfold prLt
  rw [decide_eq_false_iff_not]
  omega
theorem mnP_spec : ∀ (l : List (Int × Int)) (m : Int × Int), mnP m l ∈ m :: l ∧ ∀ z ∈ m :: l, prLt z (mnP m l) = false
  | [], m => ⟨by simp [mnP], fun z h => by
    rw [List.mem_singleton] at h
    subst h
    rw [prLt_iff]
    unfold mnP
    omega⟩
  | x :: r, m => by
    unfold mnP
    by_cases h : prLt x m = true
    · rw [if_pos h]
      obtain ⟨h1, h2⟩ := mnP_spec r x
      refine ⟨List.mem_cons_of_mem _ h1, fun z hz => ?_⟩
      rcases List.mem_cons.mp hz with rfl | hz
      · have a := h2 x List.mem_cons_self
        rw [prLt_iff] at a ⊢
        simp only [prLt, decide_eq_true_eq] at h
        omega
      · exact h2 z hz
    · rw [if_neg h]
      obtain ⟨h1, h2⟩ := mnP_spec r m
      refine ⟨?_, fun z hz => ?_⟩
      · rcases List.mem_cons.mp h1 with e | e
        · rw [e]; exact List.mem_cons_self
        · exact List.mem_cons_of_mem _ (List.mem_cons_of_mem _ e)
      · rcases List.mem_cons.mp hz with rfl | hz
        · exact h2 _ List.mem_cons_self
        · rcases List.mem_cons.mp hz with rfl | hz
          · have a := h2 m List.mem_cons_self
            have h' : prLt z m = false := by simpa using h
            rw [prLt_iff] at a h' ⊢
            omega
          · exact h2 z (List.mem_cons_of_mem _ hz)
theorem min_prs {ps : List (Int × Int)} (h : ps ≠ []) : ∃ m, biD .min [.lst (ps.map prD)] = some (prD m) ∧ m ∈ ps ∧ ∀ z ∈ ps, prLt z m = false := by
  cases ps with
  | nil => exact absurd rfl h
  | cons x r =>
    obtain ⟨h1, h2⟩ := mnP_spec r x
    refine ⟨mnP x r, ?_, h1, h2⟩
    have e1 : asInts ((x :: r).map prD) = none := rfl
    have e2 := asPrs_map (x :: r)
    show (match asInts ((x :: r).map prD) with
      | some (m :: r) => some (D.int (mnI m r))
      | _ => match asPrs ((x :: r).map prD) with
        | some (m :: r) => some (prD (mnP m r))
        | _ => none) = _
    rw [e1, e2]
/-- the least pair of a distance and a number is the nearest gear -/
theorem near_min {p : Nat} {mn mx v b : Int} (h : IsNear p mn mx v b) {bs : List Int} (hb : b ∈ bs) {m : Int × Int} (h1 : m ∈ bs.map fun b => (fM p mn mx b, b)) (h2 : ∀ z ∈ bs.map (fun b => (fM p mn mx b, b)), prLt z m = false) : m = (v, b) := by
  obtain ⟨c, _, rfl⟩ := List.mem_map.mp h1
  have a := h2 (fM p mn mx b, b) (List.mem_map.mpr ⟨b, hb, rfl⟩)
  rw [prLt_iff] at a
  have e := h.e
  have l := h.le c
  simp only at a
  rw [e] at a
  rcases a with a | ⟨a, a'⟩
  · omega
  · rcases Int.lt_or_le c b with q | q
    · have := h.lt c q
      omega
    · have : c = b := by omega
      rw [← a, this]
def fromI (lo : Int) (k : Nat) : List Int := (List.range k).map fun i => lo + (i : Nat)
theorem fromI_mem {lo : Int} {k : Nat} {b : Int} : b ∈ fromI lo k ↔ lo ≤ b ∧ b < lo + k := by
  unfold fromI
  rw [List.mem_map]
  constructor
  · rintro ⟨i, hi, rfl⟩
    rw [List.mem_range] at hi
    omega
  · rintro ⟨h1, h2⟩
    exact ⟨(b - lo).toNat, by rw [List.mem_range]; omega, by omega⟩
theorem max_filter {l : List Int} {c : Int → Bool} {B m : Int} (hc : ∀ b, c b = true ↔ b ≤ B) (hB : B ∈ l) (h : IsMax (l.filter c) m) : m = B := by
  have a := h.2 B (List.mem_filter.mpr ⟨hB, (hc B).mpr (Int.le_refl _)⟩)
  have b := (hc m).mp (List.mem_filter.mp h.1).2
  omega
theorem min_filter {l : List Int} {c : Int → Bool} {B m : Int} (hc : ∀ b, c b = true ↔ B ≤ b) (hB : B ∈ l) (h : IsMin (l.filter c) m) : m = B := by
  have a := h.2 B (List.mem_filter.mpr ⟨hB, (hc B).mpr (Int.le_refl _)⟩)
  have b := (hc m).mp (List.mem_filter.mp h.1).2
  omega
end Mt
end

section
set_option Elab.async false
set_option linter.all false
set_option maxRecDepth 100000
set_option maxHeartbeats 4000000
namespace Pg
open PySem PySem.Spec PyProof.Rows L2 Ev Mt
theorem tab_of {f : Int → Int} {P : Nat} {Q : Int} {t : List Int} (r : Rp f P Q t) : t = tab f P := by
  refine list_eq_of_getD (by rw [r.l, tab_len]) fun i hi => ?_
  rw [r.l] at hi
  rw [tab_get f hi, ← r.v, vl_small hi]
section
variable {C : Fns} {μ : Mu}
theorem comp_enm {ρ : Ev.Env} {it elt : E} {i j n : Nat} {f g : Int → Int} (hit : evE C it ρ μ = .ok (.tup ((tab f n).map .int)) μ) (hn : n ≤ 10000000) (ρ' : Int → Int → Ev.Env)
    (ht : ∀ a b : Int, setTg (.tup (.cons (.name i) (.cons (.name j) .nil))) (.tup [.int a, .int b]) (wipeE ρ (Tg.slots (.tup (.cons (.name i) (.cons (.name j) .nil))))) = some (ρ' a b)) (he : ∀ k : Nat, k < n → evE C elt (ρ' k (f k)) μ = .ok (.int (g k)) μ) :
    evE C (.comp (.tup (.cons (.name i) (.cons (.name j) .nil))) (.enm it) elt .nil) ρ μ = .ok (.lst ((tab g n).map .int)) μ := by
  have hi : evE C (.enm it) ρ μ = .ok (.lst ((List.range' 0 n).map fun i => D.tup [.int ((i : Nat) : Int), .int (f ((i : Nat) : Int))])) μ := by
    rw [vE_enm, hit]
    show Ev.R.ok (D.lst (enum2 ((tab f n).map .int) 0)) μ = _
    rw [tab_range]
    have := enum_tab f n 0
    rw [Int.natCast_zero] at this
    rw [this]
  have z := comp_map (C := C) (t := .tup (.cons (.name i) (.cons (.name j) .nil))) (it := .enm it) (elt := elt) (ρ := ρ) (μ := μ) (μ' := μ) (g := fun d => match d with | .tup [.int a, .int _] => .int (g a) | d => d) hi rfl (by simp [sizeLine]; omega) (fun d hd => by
    obtain ⟨a, ha, rfl⟩ := List.mem_map.mp hd
    rw [List.mem_range'_1] at ha
    exact ⟨_, ht _ _, he a (by omega)⟩)
  rw [z, List.map_map, tab_range]
  rfl
def leansS : S := (.seq (.ret (.comp (.tup (.cons (.name 1) (.cons (.name 2) .nil))) (.enm (.idx (.var 0) (.int 2))) (.bin .sub (.bin .mul (.idx (.var 0) (.int 0)) (.var 2)) (.bin .mul (.idx (.var 0) (.int 1)) (.var 1))) .nil)) .skip)
theorem leans_run {f : Int → Int} {P : Nat} {Q : Int} {t : List Int} (r : Rp f P Q t) (hP : P ≤ 1000000) (hq : Q.natAbs < 1000000000000000000) : fnR (evS C leansS [.sh (mD P Q t), .un, .un] μ) = .ok (.lst ((tab (ln f P Q) P).map .int)) μ := by
  have et := tab_of r
  have q64 := q64 hq
  have cm := comp_enm (C := C) (μ := μ) (ρ := [.sh (mD P Q t), .un, .un]) (it := .idx (.var 0) (.int 2)) (elt := .bin .sub (.bin .mul (.idx (.var 0) (.int 0)) (.var 2)) (.bin .mul (.idx (.var 0) (.int 1)) (.var 1))) (i := 1) (j := 2) (n := P) (f := f) (g := ln f P Q)
    (by simp [ixM_2, ← et]) (by omega) (fun a b => [.sh (mD P Q t), .sh (.int a), .sh (.int b)]) (fun _ _ => rfl) (fun k _ => by
      have h1 := binD_mul (P : Int) (f k) (mulOk_l (by omega))
      have h2 := binD_mul Q (k : Int) (mulOk_l q64)
      unfold ln
      generalize (k : Int) = z at *
      simp [ixM_0, ixM_1, h1, h2, binD_sub])
  simp only [leansS, vS_seq, vS_ret]
  rw [cm]
  rfl
theorem bis_loop {J : Type} {c : E} {b : S} (env : Int → Int → J → Ev.Env) (K : Int → Prop) (hc : ∀ lo hi j, evE C c (env lo hi j) μ = .ok (.bl (decide (1 < hi - lo))) μ)
    (hb : ∀ lo hi j, ∃ j', (K ((lo + hi) / 2) ∧ evS C b (env lo hi j) μ = .ok (.nx (env lo ((lo + hi) / 2) j')) μ) ∨ (¬ K ((lo + hi) / 2) ∧ evS C b (env lo hi j) μ = .ok (.nx (env ((lo + hi) / 2) hi j')) μ)) :
    ∀ (k m : Nat) (lo hi : Int) (j : J), hi - lo ≤ (k : Int) + 1 → lo < hi → ¬ K lo → K hi → k < m → ∃ lo' j', whlL (evE C c) (evS C b) m (env lo hi j) μ = .ok (.nx (env lo' (lo' + 1) j')) μ ∧ ¬ K lo' ∧ K (lo' + 1) ∧ lo ≤ lo' ∧ lo' + 1 ≤ hi
  | k, 0, _, _, _, _, _, _, _, h => absurd h (Nat.not_lt_zero _)
  | k, m + 1, lo, hi, j, h1, h2, h3, h4, h5 => by
    unfold whlL
    rw [hc]
    by_cases h : 1 < hi - lo
    · simp only [decide_eq_true h]
      obtain ⟨j', ⟨kk, e⟩ | ⟨kk, e⟩⟩ := hb lo hi j
      · rw [e]
        have hk : 0 < k := by omega
        obtain ⟨lo', j2, w, a1, a2, a3, a4⟩ := bis_loop env K hc hb (k - 1) m lo ((lo + hi) / 2) j' (by omega) (by omega) h3 kk (by omega)
        exact ⟨lo', j2, w, a1, a2, a3, by omega⟩
      · rw [e]
        have hk : 0 < k := by omega
        obtain ⟨lo', j2, w, a1, a2, a3, a4⟩ := bis_loop env K hc hb (k - 1) m ((lo + hi) / 2) hi j' (by omega) (by omega) kk h4 (by omega)
        exact ⟨lo', j2, w, a1, a2, by omega, a4⟩
    · have e : hi = lo + 1 := by omega
      subst e
      refine ⟨lo, j, ?_, h3, h4, Int.le_refl _, Int.le_refl _⟩
      rw [decide_eq_false h]
def farS (fl : Nat) : S := (.seq (.asg false (.name 2) (.call fl (.cons (.var 0) .nil))) (.seq (.asg false (.name 3) (.bin .sub (.int 0) (.bin .fdiv (.bin .sub (.var 1) (.bi .max (.cons (.var 2) .nil))) (.idx (.var 0) (.int 0))))) (.seq (.asg false (.name 4) (.bin .sub (.int 0) (.bin .fdiv (.bin .sub (.var 1) (.bi .min (.cons (.var 2) .nil))) (.idx (.var 0) (.int 0))))) (.seq (.ret (.bi .max (.cons (.var 3) (.cons (.bin .sub (.int 0) (.var 4)) .nil)))) .skip))))
theorem max_two (a b : Int) : biD .max [.int a, .int b] = some (.int (max a b)) := by
  show some (D.int (if b > a then b else a)) = _
  congr 2
  split <;> omega
theorem min_two (a b : Int) : biD .min [.int a, .int b] = some (.int (min a b)) := by
  show some (D.int (if b < a then b else a)) = _
  congr 2
  split <;> omega
theorem far_run {fl : Nat} (s : D) (T : List D) (p mn mx b : Int) (hl : C.call fl [s] μ = .ok (.lst T) μ) (h1 : biD .min [.lst T] = some (.int mn)) (h2 : biD .max [.lst T] = some (.int mx)) (i0 : ixM μ s (.int 0) = some (.int p)) (fd : ∀ z, binD .fdiv (.int z) (.int p) = some (.int (z / p))) :
    fnR (evS C (farS fl) [.sh s, .sh (.int b), .un, .un, .un] μ) = .ok (.int (max (0 - (b - mx) / p) ((b - mn) / p))) μ := by
  have e : (0 : Int) - (0 - (b - mn) / p) = (b - mn) / p := by omega
  simp [farS, hl, newSlot, h1, h2, binD_sub, i0, fd, max_two]
def neW1 (fl : Nat) : S := (.seq (.asg false (.name 4) (.bin .fdiv (.bin .add (.var 2) (.var 3)) (.int 2))) (.seq (.asg false (.name 5) (.call fl (.cons (.var 0) .nil))) (.seq (.cond (.cmp .le (.bin .sub (.int 0) (.bin .fdiv (.bin .sub (.var 4) (.bi .max (.cons (.var 5) .nil))) (.idx (.var 0) (.int 0)))) (.bin .add (.int 0) (.bin .fdiv (.bin .sub (.var 4) (.bi .min (.cons (.var 5) .nil))) (.idx (.var 0) (.int 0))))) (.seq (.asg false (.name 3) (.var 4)) .skip) (.seq (.asg false (.name 2) (.var 4)) .skip)) .skip)))
def neW2 (ff : Nat) : S := (.seq (.asg false (.name 4) (.bin .fdiv (.bin .add (.var 6) (.var 7)) (.int 2))) (.seq (.cond (.cmp .le (.call ff (.cons (.var 0) (.cons (.var 4) .nil))) (.var 1)) (.seq (.asg false (.name 7) (.var 4)) .skip) (.seq (.asg false (.name 6) (.var 4)) .skip)) .skip))
def nearS (fc fl ff : Nat) : S := (.seq (.asg false (.name 0) (.call fc (.cons (.var 0) .nil))) (.seq (.par [2, 3] (.cons (.bin .sub (.bi .min (.cons (.call fl (.cons (.var 0) .nil)) .nil)) (.idx (.var 0) (.int 0))) (.cons (.bin .add (.bi .max (.cons (.call fl (.cons (.var 0) .nil)) .nil)) (.idx (.var 0) (.int 0))) .nil))) (.seq (.whl (.cmp .gt (.bin .sub (.var 3) (.var 2)) (.int 1)) (neW1 fl)) (.seq (.asg false (.name 1) (.bi .min (.cons (.call ff (.cons (.var 0) (.cons (.var 3) .nil))) (.cons (.call ff (.cons (.var 0) (.cons (.var 2) .nil))) .nil)))) (.seq (.par [6, 7] (.cons (.bin .sub (.bi .min (.cons (.call fl (.cons (.var 0) .nil)) .nil)) (.idx (.var 0) (.int 0))) (.cons (.ite (.cmp .le (.call ff (.cons (.var 0) (.cons (.var 2) .nil))) (.var 1)) (.var 2) (.var 3)) .nil))) (.seq (.whl (.cmp .gt (.bin .sub (.var 7) (.var 6)) (.int 1)) (neW2 ff)) (.seq (.ret (.tup (.cons (.var 1) (.cons (.var 7) .nil)))) .skip)))))))
theorem ne_c1 (a b c d e f : Ev.Slot) (lo hi : Int) : evE C (.cmp .gt (.bin .sub (.var 3) (.var 2)) (.int 1)) [a, b, .sh (.int lo), .sh (.int hi), c, d, e, f] μ = .ok (.bl (decide (1 < hi - lo))) μ := by
  simp [binD_sub, cmpD_gt]
theorem ne_c2 (a b c d e f : Ev.Slot) (lo hi : Int) : evE C (.cmp .gt (.bin .sub (.var 7) (.var 6)) (.int 1)) [a, b, c, d, e, f, .sh (.int lo), .sh (.int hi)] μ = .ok (.bl (decide (1 < hi - lo))) μ := by
  simp [binD_sub, cmpD_gt]
theorem ne_b1 {fl : Nat} (s : D) (T : List D) (p mn mx lo hi : Int) (b c d e f : Ev.Slot) (hl : C.call fl [s] μ = .ok (.lst T) μ) (h1 : biD .min [.lst T] = some (.int mn)) (h2 : biD .max [.lst T] = some (.int mx)) (i0 : ixM μ s (.int 0) = some (.int p)) (fd : ∀ z, binD .fdiv (.int z) (.int p) = some (.int (z / p))) (f2 : binD .fdiv (.int (lo + hi)) (.int 2) = some (.int ((lo + hi) / 2))) :
    evS C (neW1 fl) [.sh s, b, .sh (.int lo), .sh (.int hi), c, d, e, f] μ = .ok (.nx (if 0 - ((lo + hi) / 2 - mx) / p ≤ ((lo + hi) / 2 - mn) / p then [.sh s, b, .sh (.int lo), .sh (.int ((lo + hi) / 2)), .sh (.int ((lo + hi) / 2)), .sh (.lst T), e, f] else [.sh s, b, .sh (.int ((lo + hi) / 2)), .sh (.int hi), .sh (.int ((lo + hi) / 2)), .sh (.lst T), e, f])) μ := by
  generalize hm : (lo + hi) / 2 = m at *
  by_cases h : 0 - (m - mx) / p ≤ (m - mn) / p
  · rw [if_pos h]
    have h' : 0 ≤ (m - mn) / p + (m - mx) / p := by omega
    simp [neW1, binD_add, f2, newSlot, hl, h1, h2, binD_sub, i0, fd, cmpD_le, show -((m - mx) / p) ≤ (m - mn) / p by omega]
  · rw [if_neg h]
    simp [neW1, binD_add, f2, newSlot, hl, h1, h2, binD_sub, i0, fd, cmpD_le, show ¬ (-((m - mx) / p) ≤ (m - mn) / p) by omega]
theorem ne_b2 {ff : Nat} (s : D) (w far lo hi : Int) (b c d e : Ev.Slot) (hf : C.call ff [s, .int ((lo + hi) / 2)] μ = .ok (.int w) μ) (f2 : binD .fdiv (.int (lo + hi)) (.int 2) = some (.int ((lo + hi) / 2))) :
    evS C (neW2 ff) [.sh s, .sh (.int far), b, c, d, e, .sh (.int lo), .sh (.int hi)] μ = .ok (.nx (if w ≤ far then [.sh s, .sh (.int far), b, c, .sh (.int ((lo + hi) / 2)), e, .sh (.int lo), .sh (.int ((lo + hi) / 2))] else [.sh s, .sh (.int far), b, c, .sh (.int ((lo + hi) / 2)), e, .sh (.int ((lo + hi) / 2)), .sh (.int hi)])) μ := by
  generalize hm : (lo + hi) / 2 = m at *
  by_cases h : w ≤ far <;> simp [neW2, binD_add, f2, newSlot, hf, cmpD_le, h]
theorem fdiv2 (z : Int) : binD .fdiv (.int z) (.int 2) = some (.int (z / 2)) := binD_fdiv _ 2 (by decide) (log2_small 2 (by decide) (by decide))
theorem near_head {fc fl ff : Nat} (s0 s : D) (T : List D) (p mn mx lo M0 M1 : Int) (c1 d1 c2 : Ev.Slot) (lo2 : Int) (e2 : Ev.Slot) (r : Ev.Slot) (far first last0 : Int) (last : Int) (hc : C.call fc [s0] μ = .ok s μ) (hl : C.call fl [s] μ = .ok (.lst T) μ) (h1 : biD .min [.lst T] = some (.int mn)) (h2 : biD .max [.lst T] = some (.int mx)) (i0 : ixM μ s (.int 0) = some (.int p))
    (w1 : evS C (.whl (.cmp .gt (.bin .sub (.var 3) (.var 2)) (.int 1)) (neW1 fl)) [.sh s, .un, .sh (.int (mn - p)), .sh (.int (mx + p)), .un, .un, .un, .un] μ = .ok (.nx [.sh s, .un, .sh (.int lo), .sh (.int (lo + 1)), c1, d1, .un, .un]) μ)
    (f1 : C.call ff [s, .int (lo + 1)] μ = .ok (.int M1) μ) (f0 : C.call ff [s, .int lo] μ = .ok (.int M0) μ) (hfar : far = min M1 M0) (hl0 : last0 = if M0 ≤ far then lo else lo + 1)
    (w2 : evS C (.whl (.cmp .gt (.bin .sub (.var 7) (.var 6)) (.int 1)) (neW2 ff)) [.sh s, .sh (.int far), .sh (.int lo), .sh (.int (lo + 1)), c1, d1, .sh (.int (mn - p)), .sh (.int last0)] μ = .ok (.nx [.sh s, .sh (.int far), .sh (.int lo), .sh (.int (lo + 1)), c2, d1, .sh (.int lo2), .sh (.int last)]) μ) :
    fnR (evS C (nearS fc fl ff) [.sh s0, .un, .un, .un, .un, .un, .un, .un] μ) = .ok (.tup [.int far, .int last]) μ := by
  subst hfar
  by_cases h : M0 ≤ min M1 M0
  · rw [if_pos h] at hl0
    subst hl0
    simp only [nearS, vS_seq]
    simp [hc, newSlot, hl, h1, h2, binD_sub, binD_add, i0, setPar, w1, f1, f0, min_two, cmpD_le, h, w2]
  · rw [if_neg h] at hl0
    subst hl0
    simp only [nearS, vS_seq]
    simp [hc, newSlot, hl, h1, h2, binD_sub, binD_add, i0, setPar, w1, f1, f0, min_two, cmpD_le, h, w2]
theorem near_run {fc fl ff : Nat} (s0 s : D) (T : List D) (p : Nat) (mn mx : Int) (h0 : 0 < p) (hm : mn ≤ mx) (hb : mx - mn + 2 * p ≤ 100000000000) (hc : C.call fc [s0] μ = .ok s μ) (hl : C.call fl [s] μ = .ok (.lst T) μ) (h1 : biD .min [.lst T] = some (.int mn)) (h2 : biD .max [.lst T] = some (.int mx)) (i0 : ixM μ s (.int 0) = some (.int p)) (fd : ∀ z, binD .fdiv (.int z) (.int p) = some (.int (z / p)))
    (hf : ∀ b, C.call ff [s, .int b] μ = .ok (.int (fM p mn mx b)) μ) : ∃ v b, fnR (evS C (nearS fc fl ff) [.sh s0, .un, .un, .un, .un, .un, .un, .un] μ) = .ok (.tup [.int v, .int b]) μ ∧ IsNear p mn mx v b ∧ mn - p < b ∧ b ≤ mx + p := by
  have hw : whileMost = 1000000000000 := rfl
  obtain ⟨lo, ⟨c1, d1⟩, w1, k1, k2, r1, r2⟩ := bis_loop (C := C) (μ := μ) (J := Ev.Slot × Ev.Slot) (c := .cmp .gt (.bin .sub (.var 3) (.var 2)) (.int 1)) (b := neW1 fl) (fun lo hi j => [.sh s, .un, .sh (.int lo), .sh (.int hi), j.1, j.2, .un, .un]) (fun b => fA p mx b ≤ fB p mn b) (fun lo hi j => ne_c1 _ _ _ _ _ _ lo hi)
    (fun lo hi j => by
      refine ⟨(.sh (.int ((lo + hi) / 2)), .sh (.lst T)), ?_⟩
      have e := ne_b1 (C := C) (μ := μ) s T p mn mx lo hi .un j.1 j.2 .un .un hl h1 h2 i0 fd (fdiv2 _)
      by_cases k : fA p mx ((lo + hi) / 2) ≤ fB p mn ((lo + hi) / 2)
      · left
        refine ⟨k, ?_⟩
        rw [if_pos (show 0 - ((lo + hi) / 2 - mx) / (p : Int) ≤ ((lo + hi) / 2 - mn) / (p : Int) from k)] at e
        exact e
      · right
        refine ⟨k, ?_⟩
        rw [if_neg (show ¬ 0 - ((lo + hi) / 2 - mx) / (p : Int) ≤ ((lo + hi) / 2 - mn) / (p : Int) from k)] at e
        exact e) (mx - mn + 2 * p).toNat whileMost (mn - p) (mx + p) (.un, .un) (by omega) (by omega) (by have := start_lo h0 hm; omega) (start_hi h0 hm) (by rw [hw]; omega)
  generalize hfar : min (fM p mn mx (lo + 1)) (fM p mn mx lo) = far
  generalize hl0 : (if fM p mn mx lo ≤ far then lo else lo + 1) = last0
  have le : ∀ b', far ≤ fM p mn mx b' := fun b' => by
    rcases Int.lt_or_le lo b' with z | z
    · have := fB_mono h0 mn (show lo + 1 ≤ b' by omega)
      unfold fM at *
      omega
    · have := fA_anti h0 mx z
      unfold fM at *
      omega
  have fb := far_below h0 hm le
  have kl : fM p mn mx last0 ≤ far := by
    rw [← hl0]
    split
    · assumption
    · omega
  have hlast : last0 = lo ∨ last0 = lo + 1 := by
    rw [← hl0]
    split
    · exact .inl rfl
    · exact .inr rfl
  have hlt : mn - p < last0 := by
    rcases Int.lt_or_le (mn - p) last0 with z | z
    · exact z
    · have e : last0 = mn - p := by omega
      rw [e] at kl
      omega
  obtain ⟨lo2, c2, w2, m1, m2, n1, n2⟩ := bis_loop (C := C) (μ := μ) (J := Ev.Slot) (c := .cmp .gt (.bin .sub (.var 7) (.var 6)) (.int 1)) (b := neW2 ff) (fun a b j => [.sh s, .sh (.int far), .sh (.int lo), .sh (.int (lo + 1)), j, d1, .sh (.int a), .sh (.int b)]) (fun b => fM p mn mx b ≤ far) (fun lo hi j => ne_c2 _ _ _ _ _ _ lo hi)
    (fun a b j => by
      refine ⟨.sh (.int ((a + b) / 2)), ?_⟩
      have e := ne_b2 (C := C) (μ := μ) s _ far a b (.sh (.int lo)) (.sh (.int (lo + 1))) j d1 (hf _) (fdiv2 _)
      by_cases k : fM p mn mx ((a + b) / 2) ≤ far
      · left
        rw [if_pos k] at e
        exact ⟨k, e⟩
      · right
        rw [if_neg k] at e
        exact ⟨k, e⟩) (mx - mn + 2 * p).toNat whileMost (mn - p) last0 c1 (by omega) hlt (by omega) kl (by rw [hw]; omega)
  refine ⟨far, lo2 + 1, near_head s0 s T p mn mx lo _ _ c1 d1 c2 lo2 .un .un far (mn - p) last0 (lo2 + 1) hc hl h1 h2 i0 w1 (hf _) (hf _) hfar.symm hl0.symm w2, ?_, by omega, by omega⟩
  exact near_of h0 hm (by omega) k2 hfar.symm hl0.symm n2 (by rw [show lo2 + 1 - 1 = lo2 by omega]; omega) m2
end
end Pg
end

section
set_option Elab.async false
set_option linter.all false
set_option maxRecDepth 100000
set_option maxHeartbeats 4000000
namespace Pg
open PySem PySem.Spec PyProof.Rows L2 Ev Mt
theorem ixL_nat (t : List Int) (i : Nat) (h : i < t.length) : ixD (.lst (t.map .int)) (.int i) = some (.int (t.getD i 0)) := by
  show atI _ _ = _
  unfold atI ixN
  simp [h]
theorem slD_toL (xs : List D) (k : Nat) : slD (.lst xs) none (some (k : Int)) = some (.lst (xs.take k)) := by
  show some (D.lst (cut xs none (some (k : Int)))) = _
  rw [cut_to]
section
variable {C : Fns} {μ : Mu}
def ln2Body : S := (.seq (.cond (.and (.cmp .eq (.bin .mod (.bi .int (.cons (.var 2) .nil)) (.var 3)) (.int 0)) (.and1 (.cmp .eq (.bin .mod (.bi .int (.cons (.bin .mul (.var 1) (.var 3)) .nil)) (.var 2)) (.int 0)))) (.seq (.asg false (.name 4) (.bin .fdiv (.bin .mul (.var 1) (.var 3)) (.var 2))) (.seq (.cond (.bi .all (.cons (.comp (.name 5) (.rng (.cons (.bin .sub (.var 2) (.var 3)) .nil)) (.cmp .eq (.idx (.var 0) (.bin .add (.var 5) (.var 3))) (.bin .add (.idx (.var 0) (.var 5)) (.var 4))) .nil) .nil)) (.seq (.ret (.tup (.cons (.var 3) (.cons (.var 4) (.cons (.bi .tuple (.cons (.sl (.var 0) .nil (.var 3)) .nil)) .nil))))) .skip) .skip) .skip)) .skip) .skip)
def lnorm2S : S := (.seq (.asg false (.name 2) (.bi .len (.cons (.var 0) .nil))) (.seq (.for_ (.name 3) (.rng (.cons (.int 1) (.cons (.var 2) .nil))) ln2Body) (.seq (.ret (.tup (.cons (.var 2) (.cons (.var 1) (.cons (.bi .tuple (.cons (.var 0) .nil)) .nil))))) .skip)))
theorem ln2_turn {P : Nat} {Q : Int} {t : List Int} (o : Ok3 P Q t) (a : Nat) (ha : 0 < a) (haP : a ≤ P) (s3 s4 : Ev.Slot) : ∃ s4', (R.of (setTg (.name 3) (.int ((a : Nat) : Int)) [.sh (.lst (t.map .int)), .sh (.int Q), .sh (.int P), s3, s4, .un]) μ).bind (fun ρ μ => evS C ln2Body ρ μ) =
    if (decide (P % a = 0) && hpB P Q t a) = true then .ok (.rt (nD (a, Q * a / P, t.take a))) μ else .ok (.nx [.sh (.lst (t.map .int)), .sh (.int Q), .sh (.int P), .sh (.int a), s4', .un]) μ := by
  have p0 := o.p0
  have p1 := o.p1
  have fd := fun z => binD_fdiv z (P : Int) (by omega) (log2_nat o.p0 (Nat.le_trans o.p1 (by decide)))
  have mq := fun z => binD_mul Q z (mulOk_l (q64 o.q))
  have md := binD_mod (P : Int) (a : Int) (by omega)
  have mdP := fun z => binD_mod z (P : Int) (by omega)
  have emod : ((P : Int) % (a : Int) = 0) ↔ P % a = 0 := by omega
  have en : nD (a, Q * a / P, t.take a) = .tup [.int a, .int (Q * a / P), .tup ((t.map .int).take a)] := by simp [nD, mD, List.map_take]
  rw [en]
  have esub : binD .sub (.int (P : Int)) (.int (a : Int)) = some (.int ((P - a : Nat) : Int)) := by
    rw [binD_sub]
    congr 2
    omega
  by_cases h1 : P % a = 0
  · by_cases h2 : Q * a % P = 0
    · have cm := comp_has (C := C) (μ := μ) (ρ := [.sh (.lst (t.map .int)), .sh (.int Q), .sh (.int P), .sh (.int a), .sh (.int (Q * a / P)), .un]) (i := 0) (j := 0) (.rng (.cons (.bin .sub (.var 2) (.var 3)) .nil)) (.cmp .eq (.idx (.var 0) (.bin .add (.var 5) (.var 3))) (.bin .add (.idx (.var 0) (.var 5)) (.var 4))) a (Q * a / P) haP o.p1 o.l
        (fun z => [.sh (.lst (t.map .int)), .sh (.int Q), .sh (.int P), .sh (.int a), .sh (.int (Q * a / P)), .sh (.int (z : Int))])
        (rng1_ok (by simp [esub]) (by omega) (by omega)) (fun _ => rfl) 5 (fun _ => rfl) (fun z hz => by
          have e1 : ixD (.lst (t.map .int)) (.int ((z : Int) + a)) = some (.int (t.getD (z + a) 0)) := by
            have := ixL_nat t (z + a) (by have := o.l; omega)
            push_cast at this
            exact this
          have e2 := ixL_nat t z (by have := o.l; omega)
          simp only [vE_cmp, vE_idx, vE_var, vE_bin, List.getElem?_cons_succ, List.getElem?_cons_zero, R.bind_ok, binD_add, R.of_some, ixM_lst, e1, e2, cmpD_eqI, Option.map_some])
      have ba : biD .all [.lst ((List.range (P - a)).map fun z => .bl (decide (t.getD (z + a) 0 = t.getD z 0 + Q * a / P)))] = some (.bl (hpB P Q t a)) := by
        rw [biD_all]
        congr 2
        unfold hpB
        rw [decide_eq_true h2, Bool.true_and]
      generalize (List.range (P - a)).map (fun z => D.bl (decide (t.getD (z + a) 0 = t.getD z 0 + Q * a / P))) = zs at cm ba
      refine ⟨.sh (.int (Q * a / P)), ?_⟩
      cases h3 : hpB P Q t a with
      | true => simp [ln2Body, setTg, biD_int, md, cmpD_eqI, emod, h1, mq, mdP, h2, fd, newSlot, cm, ba, h3, partE, slD_toL, biD_tupL]
      | false => simp [ln2Body, setTg, biD_int, md, cmpD_eqI, emod, h1, mq, mdP, h2, fd, newSlot, cm, ba, h3]
    · have hf : hpB P Q t a = false := by simp [hpB, h2]
      refine ⟨s4, ?_⟩
      simp [ln2Body, setTg, biD_int, md, cmpD_eqI, emod, h1, mq, mdP, h2, hf]
  · refine ⟨s4, ?_⟩
    simp [ln2Body, setTg, biD_int, md, cmpD_eqI, emod, h1]
theorem ln2_loop {P : Nat} {Q : Int} {t : List Int} (o : Ok3 P Q t) : ∀ (k a : Nat) (s3 s4 : Ev.Slot), 0 < a → a + k = P →
    ∃ s3' s4', forL (fun d ρ μ => (R.of (setTg (.name 3) d ρ) μ).bind fun ρ μ => evS C ln2Body ρ μ) ((List.range' a k).map fun i => .int ((i : Nat) : Int)) [.sh (.lst (t.map .int)), .sh (.int Q), .sh (.int P), s3, s4, .un] μ =
      (if (List.range' a k).any (fun s => decide (P % s = 0) && hpB P Q t s) = true then .ok (.rt (nD (nrmF P Q t (List.range' a k)))) μ else .ok (.nx [.sh (.lst (t.map .int)), .sh (.int Q), .sh (.int P), s3', s4', .un]) μ) ∧
      ((List.range' a k).any (fun s => decide (P % s = 0) && hpB P Q t s) = false → nrmF P Q t (List.range' a k) = (P, Q, t))
  | 0, a, s3, s4, _, _ => ⟨s3, s4, rfl, fun _ => rfl⟩
  | k + 1, a, s3, s4, ha, hk => by
    obtain ⟨s4a, st⟩ := ln2_turn (C := C) (μ := μ) o a ha (by omega) s3 s4
    obtain ⟨s3', s4', ih, ih2⟩ := ln2_loop o k (a + 1) (.sh (.int a)) s4a (by omega) (by omega)
    rw [List.range'_succ]
    refine ⟨s3', s4', ?_, ?_⟩
    · rw [List.map_cons]
      unfold forL
      rw [st]
      by_cases h3 : (decide (P % a = 0) && hpB P Q t a) = true
      · rw [if_pos h3]
        dsimp only
        rw [if_pos (by rw [List.any_cons, h3]; rfl)]
        unfold nrmF
        rw [if_pos h3]
      · rw [if_neg h3]
        dsimp only
        rw [ih, List.any_cons, (by simpa using h3 : (decide (P % a = 0) && hpB P Q t a) = false), Bool.false_or]
        unfold nrmF
        rw [if_neg h3]
        cases k <;> rfl
    · intro h
      rw [List.any_cons, Bool.or_eq_false_iff] at h
      unfold nrmF
      rw [if_neg (by rw [h.1]; decide)]
      exact ih2 h.2
theorem lnorm2_run {P : Nat} {Q : Int} {t : List Int} (o : Ok3 P Q t) : fnR (evS C lnorm2S [.sh (.lst (t.map .int)), .sh (.int Q), .un, .un, .un, .un] μ) = .ok (nD (nrm P Q t)) μ := by
  have p0 := o.p0
  have p1 := o.p1
  obtain ⟨s3', s4', e, e2⟩ := ln2_loop (C := C) (μ := μ) o (P - 1) 1 .un .un (by decide) (by omega)
  have hx : itemsE (.rng (.cons (.int 1) (.cons (.var 2) .nil))) (.rng 1 (P : Int)) = some ((List.range' 1 (P - 1)).map fun i => .int ((i : Nat) : Int)) := by
    show some (rngL 1 (P : Int)) = _
    unfold rngL
    congr 1
    have e : ((P : Int) - 1).toNat = P - 1 := by omega
    rw [e, List.range'_eq_map_range, List.map_map]
    apply List.map_congr_left
    intro i _
    simp
  have e' := for_ok (C := C) (μ := μ) (it := .rng (.cons (.int 1) (.cons (.var 2) .nil))) (x := .rng 1 (P : Int)) (ρ := [.sh (.lst (t.map .int)), .sh (.int Q), .sh (.int P), .un, .un, .un]) (rng2_ok (by simp) (by decide) (by decide) (by omega) (by omega)) hx e
  have hn : nrm P Q t = nrmF P Q t (List.range' 1 (P - 1)) := rfl
  rw [hn]
  generalize nrmF P Q t (List.range' 1 (P - 1)) = m at e' e2
  generalize (List.range' 1 (P - 1)).any (fun s => decide (P % s = 0) && hpB P Q t s) = c at e' e2
  have es : evS C (.asg false (.name 2) (.bi .len (.cons (.var 0) .nil))) [.sh (.lst (t.map .int)), .sh (.int Q), .un, .un, .un, .un] μ = .ok (.nx [.sh (.lst (t.map .int)), .sh (.int Q), .sh (.int P), .un, .un, .un]) μ := by
    have : biD .len [.lst (t.map .int)] = some (.int (P : Int)) := by rw [biD_len, List.length_map, o.l]
    simp [this, newSlot]
  rw [lnorm2S, vS_seq, es, R.thn_nx, vS_seq, e']
  cases c with
  | true => rfl
  | false => rw [e2 rfl]; rfl
def latS : S := (.seq (.asg false (.tup (.cons (.name 2) (.cons (.name 3) (.cons (.name 4) .nil)))) (.var 0)) (.seq (.ret (.bin .add (.idx (.var 4) (.bin .mod (.bi .int (.cons (.var 1) .nil)) (.var 2))) (.bin .mul (.bin .fdiv (.var 1) (.var 2)) (.var 3)))) .skip))
theorem lat_run {P : Nat} {Q : Int} {t : List Int} (o : Ok3 P Q t) (x : Int) : fnR (evS C latS [.sh (mD P Q t), .sh (.int x), .un, .un, .un] μ) = .ok (.int (vl P Q t x)) μ := by
  have p0 := o.p0
  have fd := fun z => binD_fdiv z (P : Int) (by omega) (log2_nat o.p0 (Nat.le_trans o.p1 (by decide)))
  have mq := fun z => binD_mul z Q (mulOk_r (q64 o.q))
  simp [latS, mD, setTg, biD_int, binD_mod x P (by omega), ixM_tup, ix_mod o.p0 o.l x, fd, mq, binD_add, vl]
theorem tab_okS {Q : Int} {zs : List Int} {h : Int} (hs : Srt zs) (hb : ∀ z ∈ zs, h ≤ z ∧ z ≤ h + Q) (hn : zs ≠ []) : tabOk Q zs = true := by
  cases zs with
  | nil => exact absurd rfl hn
  | cons x r =>
    unfold tabOk
    rw [Bool.and_eq_true]
    refine ⟨decide_eq_true ?_, hs.adj⟩
    have h1 := hb (lastZ (x :: r)) (lastZ_mem (by simp))
    have h2 := hb x (by simp)
    show lastZ (x :: r) ≤ x + Q
    omega
def dmapS (f : Nat) : S := (.seq (.asg false (.name 3) (.bin .sub (.call f (.cons (.var 0) (.cons (.int 9) .nil))) (.int 4))) (.seq (.ret (.tup (.cons (.var 1) (.cons (.var 2) (.cons (.bi .tuple (.cons (.bi .sorted (.cons (.comp (.name 4) (.rng (.cons (.var 1) .nil)) (.bin .add (.var 3) (.call f (.cons (.var 0) (.cons (.bin .add (.var 2) (.int 1)) .nil)))) .nil) .nil)) .nil)) .nil))))) .skip))
theorem dmap_elt {f : Nat} {μ' : Mu} (p : D) (q b v : Int) (d : D) (e : C.call f [.cell 0, .int (q + 1)] μ = .ok (.int v) μ') : evE C (.bin .add (.var 3) (.call f (.cons (.var 0) (.cons (.bin .add (.var 2) (.int 1)) .nil)))) [.sh (.cell 0), .sh p, .sh (.int q), .sh (.int b), .sh d] μ = .ok (.int (b + v)) μ' := by
  simp [binD_add, e]
theorem dmap_step {f : Nat} {μ1 μ2 : Mu} (p : D) (q a : Int) (L L' : List D) (e1 : C.call f [.cell 0, .int 9] μ = .ok (.int a) μ1)
    (e2 : evE C (.comp (.name 4) (.rng (.cons (.var 1) .nil)) (.bin .add (.var 3) (.call f (.cons (.var 0) (.cons (.bin .add (.var 2) (.int 1)) .nil)))) .nil) [.sh (.cell 0), .sh p, .sh (.int q), .sh (.int (a - 4)), .un] μ1 = .ok (.lst L) μ2) (es : biD .sorted [.lst L] = some (.lst L')) :
    fnR (evS C (dmapS f) [.sh (.cell 0), .sh p, .sh (.int q), .un, .un] μ) = .ok (.tup [p, .int q, .tup L']) μ2 := by
  simp [dmapS, e1, binD_sub, newSlot, e2, es, biD_tupL]
theorem dmap_run {f : Nat} (hf : HDr C f) {P : Nat} {Q : Int} (h0 : 0 < P) (h1 : P ≤ 1000) (hq : 0 ≤ Q) (hq2 : Q ≤ 1000000) (h : HandG μ) :
    ∃ t μ', fnR (evS C (dmapS f) [.sh (.cell 0), .sh (.int P), .sh (.int Q), .un, .un] μ) = .ok (mD P Q t) μ' ∧ HandG μ' ∧ Mp (vl P Q t) P Q t ∧ ∀ z ∈ t, -4 ≤ z ∧ z ≤ 4 + Q := by
  obtain ⟨a, μ1, e1, a0, a1, hh1⟩ := hf (many := 9) h (by decide) (by decide)
  obtain ⟨ys, μ2, e2, q1, q2, q3⟩ := comp_wp (C := C) (t := .name 4) (it := .rng (.cons (.var 1) .nil)) (elt := .bin .add (.var 3) (.call f (.cons (.var 0) (.cons (.bin .add (.var 2) (.int 1)) .nil)))) (ρ := [.sh (.cell 0), .sh (.int P), .sh (.int Q), .sh (.int (a - 4)), .un]) (μ := μ1) (μ' := μ1) (x := .rng 0 (P : Int)) (ds := rngL 0 (P : Int)) HandG (fun y => ∃ i, y = .int i ∧ (a - 4 ≤ i ∧ i ≤ a - 4 + Q))
    (rng1_ok rfl (by omega) (by omega)) rfl (by rw [rngL_nat]; simp [sizeLine]; omega) hh1 (fun d hd μ hm => by
      obtain ⟨v, μ', e, v0, v1, hh⟩ := hf (many := Q + 1) hm (by omega) (by omega)
      refine ⟨[.sh (.cell 0), .sh (.int P), .sh (.int Q), .sh (.int (a - 4)), .sh d], rfl, ?_⟩
      rw [dmap_elt _ _ _ v d e]
      exact ⟨hh, _, rfl, by omega, by omega⟩)
  obtain ⟨xs, rfl, hx⟩ := allInts q3
  have hlen : xs.length = P := by
    rw [rngL_nat] at q2
    simpa using q2
  have hl : (sortI xs).length = P := by rw [sortI_len, hlen]
  have hb : ∀ z ∈ sortI xs, a - 4 ≤ z ∧ z ≤ a - 4 + Q := fun z hz => hx z ((sortI_mem xs z).mp hz)
  have hT : tabOk Q (sortI xs) = true := tab_okS (sortI_srt xs) hb (by intro e; rw [e] at hl; simp at hl; omega)
  exact ⟨sortI xs, μ2, dmap_step _ _ _ _ _ e1 e2 (sorted_ints xs), q1, ⟨Rp.of h0 hl, by omega, hq, (tabOk_mono h0 hl).mp hT⟩, fun z hz => by have := hb z hz; omega⟩
end
end Pg
end

section
set_option Elab.async false
set_option linter.all false
set_option maxRecDepth 100000
set_option maxHeartbeats 4000000
namespace Pg
open PySem PySem.Spec PyProof.Rows L2 Ev Mt
theorem biD_absI (z : Int) : biD .abs [.int z] = some (.int (ab z)) := id rfl
section
variable {C : Fns} {μ : Mu}
theorem comp_rngD {ρ : Ev.Env} {it elt : E} {n k : Nat} {h : Nat → D} (hit : evE C it ρ μ = .ok (.rng 0 (n : Int)) μ) (hi : ∀ d, itemsE it (.rng 0 d) = some (rngL 0 d)) (hn : n ≤ 10000000) (ρ' : Nat → Ev.Env)
    (ht : ∀ i : Nat, setTg (.name k) (.int (i : Int)) (wipeE ρ (Tg.name k).slots) = some (ρ' i)) (he : ∀ i : Nat, i < n → evE C elt (ρ' i) μ = .ok (h i) μ) :
    evE C (.comp (.name k) it elt .nil) ρ μ = .ok (.lst ((List.range n).map h)) μ := by
  have z := comp_map (C := C) (t := .name k) (it := it) (elt := elt) (ρ := ρ) (μ := μ) (μ' := μ) (x := .rng 0 (n : Int)) (ds := (List.range n).map fun i => .int ((i : Nat) : Int)) (g := fun d => match d with | .int z => h z.toNat | d => d) hit (by rw [hi, rngL_nat]) (by simp [sizeLine]; omega) (fun d hd => by
    obtain ⟨a, ha, rfl⟩ := List.mem_map.mp hd
    rw [List.mem_range] at ha
    exact ⟨_, ht a, he a ha⟩)
  rw [z, List.map_map]
  rfl
theorem comp_lstI {ρ : Ev.Env} {it elt : E} {k : Nat} {xs : List Int} {g : Int → Int} (hit : evE C it ρ μ = .ok (.lst (xs.map .int)) μ) (hi : itemsE it (.lst (xs.map .int)) = some (xs.map .int)) (hn : xs.length ≤ 10000000) (ρ' : Int → Ev.Env)
    (ht : ∀ i : Int, setTg (.name k) (.int i) (wipeE ρ (Tg.name k).slots) = some (ρ' i)) (he : ∀ i, evE C elt (ρ' i) μ = .ok (.int (g i)) μ) :
    evE C (.comp (.name k) it elt .nil) ρ μ = .ok (.lst ((xs.map g).map .int)) μ := by
  have z := comp_map (C := C) (t := .name k) (it := it) (elt := elt) (ρ := ρ) (μ := μ) (μ' := μ) (g := fun d => match d with | .int z => .int (g z) | d => d) hit hi (by simp [sizeLine]; omega) (fun d hd => by
    obtain ⟨a, ha, rfl⟩ := List.mem_map.mp hd
    exact ⟨_, ht a, he a⟩)
  rw [z, List.map_map, List.map_map]
  rfl
theorem zip2_tab (f g : Int → Int) (n : Nat) : zip2 ((tab f n).map .int) ((tab g n).map .int) = (List.range n).map fun i => D.tup [.int (f ((i : Nat) : Int)), .int (g ((i : Nat) : Int))] := by
  unfold tab
  rw [List.map_map, List.map_map]
  generalize List.range n = l
  induction l with
  | nil => rfl
  | cons x r ih =>
    show D.tup [.int (f ((x : Nat) : Int)), .int (g ((x : Nat) : Int))] :: zip2 (r.map (D.int ∘ fun i => f ((i : Nat) : Int))) (r.map (D.int ∘ fun i => g ((i : Nat) : Int))) = _
    rw [ih]
    rfl
theorem comp_prs {ρ : Ev.Env} {it elt : E} {i j n : Nat} {f g : Int → Int} (hit : evE C it ρ μ = .ok (.lst (zip2 ((tab f n).map .int) ((tab g n).map .int))) μ) (hi : ∀ ds, itemsE it (.lst ds) = some ds) (hn : n ≤ 10000000) (ρ' : Int → Int → Ev.Env)
    (ht : ∀ a b : Int, setTg (.tup (.cons (.name i) (.cons (.name j) .nil))) (.tup [.int a, .int b]) (wipeE ρ (Tg.slots (.tup (.cons (.name i) (.cons (.name j) .nil))))) = some (ρ' a b)) (he : ∀ a b : Int, evE C elt (ρ' a b) μ = .ok (.int (a - b)) μ) :
    evE C (.comp (.tup (.cons (.name i) (.cons (.name j) .nil))) it elt .nil) ρ μ = .ok (.lst ((tab (fun x => f x - g x) n).map .int)) μ := by
  rw [zip2_tab] at hit
  have z := comp_map (C := C) (t := .tup (.cons (.name i) (.cons (.name j) .nil))) (it := it) (elt := elt) (ρ := ρ) (μ := μ) (μ' := μ) (g := fun d => match d with | .tup [.int a, .int b] => .int (a - b) | d => d) hit (hi _) (by simp [sizeLine]; omega) (fun d hd => by
    obtain ⟨a, ha, rfl⟩ := List.mem_map.mp hd
    exact ⟨_, ht _ _, he _ _⟩)
  rw [z, List.map_map]
  unfold tab
  rw [List.map_map]
  rfl
theorem all_range (n : Nat) (p : Nat → Bool) : biD .all [.lst ((List.range n).map fun i => .bl (p i))] = some (.bl ((List.range n).all p)) := biD_all p _
/-- the leans have a least and a greatest -/
theorem ln_ex {f : Int → Int} {P : Nat} {Q : Int} {t : List Int} (r : Rp f P Q t) : ∃ mn mx, Ln f P Q mn mx ∧ biD .min [.lst ((tab (ln f P Q) P).map .int)] = some (.int mn) ∧ biD .max [.lst ((tab (ln f P Q) P).map .int)] = some (.int mx) := by
  have h : tab (ln f P Q) P ≠ [] := fun e => by
    have := tab_len (ln f P Q) P
    rw [e] at this
    have := r.p0
    simp at *
    omega
  obtain ⟨mn, e1, m1⟩ := min_lst h
  obtain ⟨mx, e2, m2⟩ := max_lst h
  exact ⟨mn, mx, Ln.of r.p0 r.per m1 m2, e1, e2⟩
end
end Pg
end

section
set_option Elab.async false
set_option linter.all false
set_option maxRecDepth 100000
set_option maxHeartbeats 1000000
namespace Pr
open PySem PySem.Spec PyProof.Rows L2 Ev Mt Pg
theorem strOk_app (a b : Str) : PyData.strOk (a ++ b) = (PyData.strOk a && PyData.strOk b) := by
  show Array.all (a.cps ++ b.cps) _ = _
  rw [Array.all_append]
  rfl
theorem strOk_join (sep : Str) (hs : PyData.strOk sep = true) : ∀ ts : List Str, (∀ t ∈ ts, PyData.strOk t = true) → PyData.strOk (Str.join sep ts) = true
  | [], _ => by
    show PyData.strOk Str.empty = true
    exact strOk_of ""
  | [x], h => h x (by simp)
  | x :: y :: r, h => by
    show PyData.strOk (x ++ sep ++ Str.join sep (y :: r)) = true
    rw [strOk_app, strOk_app, h x (by simp), hs, strOk_join sep hs (y :: r) (fun t ht => h t (by simp at ht ⊢; exact .inr ht))]
    rfl
/-- what repr tells well -/
structure Sh (p : PyData) (n d : Nat) : Prop where
  s : p.showable = true
  c : p.canLay0 = true
  dp : p.depth ≤ d
  l : p.shown.length ≤ n
  o : PyData.strOk p.shown = true
theorem Sh.up {p : PyData} {n d n' d' : Nat} (h : Sh p n d) (h1 : n ≤ n') (h2 : d ≤ d') : Sh p n' d' := ⟨h.s, h.c, Nat.le_trans h.dp h2, Nat.le_trans h.l h1, h.o⟩
theorem log_small {i : Int} (h : i.natAbs < 1000000000000) : i.natAbs.log2 < 1920 := by
  by_cases z : i.natAbs = 0
  · rw [z]
    decide
  · exact (Nat.log2_lt z).mpr (Nat.lt_trans h (by decide))
theorem Sh.int {i : Int} (h : i.natAbs < 1000000000000) : Sh (.int i) 13 0 :=
  ⟨by simp only [PyData.showable, log_small h, decide_true], rfl, Nat.le_refl _, PyData.shown_int_le h, strOk_of _⟩
theorem all_lay {n d : Nat} : ∀ ps : List PyData, (∀ p ∈ ps, Sh p n d) → PyData.showableAll ps = true ∧ PyData.canLayAll0 ps = true ∧ PyData.depthAll ps ≤ d ∧ ((PyData.shownAll ps).map (·.length)).sum ≤ ps.length * n ∧ (PyData.shownAll ps).length = ps.length ∧ ∀ t ∈ PyData.shownAll ps, PyData.strOk t = true
  | [], _ => ⟨rfl, rfl, Nat.zero_le _, by simp [PyData.shownAll], rfl, fun t h => by simp [PyData.shownAll] at h⟩
  | p :: r, h => by
    obtain ⟨a, b, c, e, f, g⟩ := all_lay r (fun q hq => h q (List.mem_cons_of_mem _ hq))
    have hp := h p List.mem_cons_self
    refine ⟨?_, ?_, ?_, ?_, ?_, ?_⟩
    · show (p.showable && PyData.showableAll r) = true
      rw [hp.s, a]
      rfl
    · show (p.canLay0 && PyData.canLayAll0 r) = true
      rw [hp.c, b]
      rfl
    · show max p.depth (PyData.depthAll r) ≤ d
      have := hp.dp
      omega
    · simp only [PyData.shownAll, List.map_cons, List.sum_cons, List.length_cons]
      have := hp.l
      rw [Nat.add_mul]
      omega
    · simp only [PyData.shownAll, List.length_cons, f]
    · intro t ht
      simp only [PyData.shownAll, List.mem_cons] at ht
      rcases ht with rfl | ht
      · exact hp.o
      · exact g t ht
theorem Sh.tup {ps : List PyData} {n d : Nat} (h : ∀ p ∈ ps, Sh p n d) : Sh (.tuple ps) (ps.length * (n + 2) + 3) (d + 1) := by
  obtain ⟨a, b, c, e, f, g⟩ := all_lay ps h
  refine ⟨a, b, ?_, ?_, ?_⟩
  · show PyData.depthAll ps + 1 ≤ _
    omega
  · have := tupleText_len_le (PyData.shownAll ps)
    rw [f] at this
    show (tupleText (PyData.shownAll ps)).length ≤ _
    rw [Nat.mul_add]
    omega
  · show PyData.strOk (tupleText (PyData.shownAll ps)) = true
    unfold tupleText
    have e1 : PyData.strOk ("(" : Str) = true := strOk_of "("
    have e2 : PyData.strOk (if ((PyData.shownAll ps).length == 1) = true then ((",)" : String) : Str) else ((")" : String) : Str)) = true := by
      split
      · exact strOk_of ",)"
      · exact strOk_of ")"
    rw [strOk_app, strOk_app, e1, strOk_join _ (strOk_of ", ") _ g]
    split <;> exact strOk_of _
theorem Sh.lst {ps : List PyData} {n d : Nat} (h : ∀ p ∈ ps, Sh p n d) (ho : PyData.strOk (listText (PyData.shownAll ps)) = true) : Sh (.list ps) (ps.length * (n + 2) + 3) (d + 1) := by
  obtain ⟨a, b, c, e, f, g⟩ := all_lay ps h
  refine ⟨a, b, ?_, ?_, ho⟩
  · show PyData.depthAll ps + 1 ≤ _
    omega
  · have := listText_len_le (PyData.shownAll ps)
    rw [f] at this
    show (listText (PyData.shownAll ps)).length ≤ _
    rw [Nat.mul_add]
    omega
theorem Sh.map {P : Nat} {Q : Int} {t : List Int} {k : Nat} (h1 : P < 1000000000000) (h2 : Q.natAbs < 1000000000000) (h3 : ∀ z ∈ t, z.natAbs < 1000000000000) (hl : t.length ≤ k) : Sh (.tuple [.int P, .int Q, .tuple (t.map .int)]) (3 * (k * 15 + 15) + 23) 2 := by
  have ht : Sh (.tuple (t.map .int)) (t.length * (13 + 2) + 3) 1 := by
    have := Sh.tup (ps := t.map .int) (n := 13) (d := 0) (fun p hp => by
      obtain ⟨z, hz, rfl⟩ := List.mem_map.mp hp
      exact Sh.int (h3 z hz))
    rw [List.length_map] at this
    exact this
  have := Sh.tup (ps := [.int P, .int Q, .tuple (t.map .int)]) (n := k * 15 + 16) (d := 1) (fun p hp => by
    simp only [List.mem_cons, List.not_mem_nil, or_false] at hp
    rcases hp with rfl | rfl | rfl
    · exact (Sh.int (by omega)).up (by omega) (by omega)
    · exact (Sh.int h2).up (by omega) (by omega)
    · exact ht.up (by omega) (by omega))
  exact this.up (by simp; omega) (Nat.le_refl _)
theorem Sh.word (x : Str) (h1 : PyData.strOk x = true) (h2 : (PyData.shown (.str x)).length ≤ 20) (h3 : PyData.strOk (PyData.shown (.str x)) = true) : Sh (.str x) 20 0 := ⟨rfl, h1, Nat.le_refl _, h2, h3⟩
/-- repr of it -/
structure Rep (d : D) (s : Str) : Prop where
  e : biD .repr [d] = some (.str s)
  ne : cmpD .ne (.str s) (.str s) = some false
  eq : cmpD .eq (.str s) (.str s) = some true
theorem rep_of {d : D} {p : PyData} {n k : Nat} (hp : toPy d = some p) (h : Sh p n k) (hn : n ≤ 10000000) (hk : k ≤ 60) : ∃ s, Rep d s := by
  have hs : SeqAt.shaped p = true := by
    unfold SeqAt.shaped
    rw [h.c, Bool.true_and, decide_eq_true_iff]
    have := h.dp
    omega
  have hz : sizeLine = 16777216 := rfl
  have hq : SeqAt.shaped (.str p.shown) = true := by simp [SeqAt.shaped, PyData.canLay0, PyData.depth, h.o]
  refine ⟨p.shown, ?_, neD_self (p := .str p.shown) rfl hq, eqD_self (d := .str p.shown) (p := .str p.shown) rfl hq⟩
  show (reprD d).map D.str = _
  unfold reprD
  rw [hp]
  have hl : p.shown.length ≤ sizeLine := by have := h.l; omega
  have : (p.showable && (SeqAt.shaped p && decide (p.shown.length ≤ sizeLine))) = true := by
    rw [h.s, hs, decide_eq_true hl]
    rfl
  show Option.map D.str (if (p.showable && (SeqAt.shaped p && decide (p.shown.length ≤ sizeLine))) = true then some p.shown else none) = _
  rw [if_pos this]
  rfl
end Pr
end

section
set_option Elab.async false
set_option linter.all false
set_option maxRecDepth 100000
set_option maxHeartbeats 1000000
namespace Mt
open Pg Ev
/-- u tells the soonest of f -/
structure Bk (f u : Int → Int) : Prop where
  m : Mono f
  s : ∀ y, IsSoon f y (u y)
section
variable {f u g : Int → Int}
theorem Bk.lt (b : Bk f u) (x y : Int) : x < u y ↔ f x < y := (b.s y).lt b.m
theorem Bk.le (b : Bk f u) (x y : Int) : u y ≤ x ↔ y ≤ f x := by
  have := b.lt x y
  omega
theorem Bk.mono (b : Bk f u) : Mono u := fun y => by
  rw [b.le]
  have := (b.le (u (y + 1)) (y + 1)).mp (Int.le_refl _)
  omega
theorem Bk.uniq (b : Bk f u) {y x : Int} (h : IsSoon f y x) : x = u y := h.uniq b.m (b.s y)
theorem Bk.per (b : Bk f u) {p q : Int} (h : per f p q) : per u q p := fun y => by
  symm
  apply b.uniq
  obtain ⟨h1, h2⟩ := b.s y
  constructor
  · rw [h]
    omega
  · have e : u y + p - 1 = u y - 1 + p := by omega
    rw [e, h]
    omega
theorem bk_ex {P : Nat} {Q : Int} {t : List Int} (m : Mp f P Q t) (hq : 0 < Q) (hq2 : Q ≤ 1000000000) : ∃ u, Bk f u := by
  obtain ⟨u, hu⟩ := Classical.axiomOfChoice fun y => soon_ex m hq hq2 y
  exact ⟨u, m.m, hu⟩
/-- the latest -/
def dn (u : Int → Int) (y : Int) : Int := u (y + 1) - 1
theorem Bk.dle (b : Bk f u) (x y : Int) : x ≤ dn u y ↔ f x ≤ y := by
  have := b.lt x (y + 1)
  unfold dn
  omega
theorem Bk.dmono (b : Bk f u) : Mono (dn u) := fun y => by
  have := b.mono (y + 1)
  unfold dn
  omega
theorem Bk.dper (b : Bk f u) {p q : Int} (h : Mt.per f p q) : Mt.per (dn u) q p := fun y => by
  have := b.per h (y + 1)
  unfold dn
  have e : y + q + 1 = y + 1 + q := by omega
  rw [e, this]
  omega
/-- the greatest x with a value not above y -/
def IsLate (f : Int → Int) (y x : Int) : Prop := f x ≤ y ∧ y < f (x + 1)
theorem Bk.late (b : Bk f u) {y x : Int} (h : IsLate f y x) : x = dn u y := by
  have h1 : IsSoon f (y + 1) (x + 1) := by
    obtain ⟨a, c⟩ := h
    refine ⟨by omega, ?_⟩
    rw [Int.add_sub_cancel]
    omega
  have := b.uniq h1
  unfold dn
  omega
theorem partN_zero (k : Nat) (hk : 0 < k) : partN k 0 = 1 := by
  unfold partN
  show k / Nat.gcd k 0 = 1
  rw [Nat.gcd_zero_right, Nat.div_self hk]
theorem comp_per {P P' : Nat} {Q Q' : Int} (hP : 0 < P') (hq : 0 ≤ Q) (h : per f P Q) (h' : per g P' Q') : per (fun x => g (f x)) ((P * partN P' Q : Nat) : Int) (Q * (partN P' Q : Int) / P' * Q') := fun x => by
  have e1 := per_nat h (partN P' Q) x
  obtain ⟨c, hc⟩ := part_dvd P' hq hP
  show g (f (x + ((P * partN P' Q : Nat) : Int))) = g (f x) + _
  rw [Int.natCast_mul, Int.mul_comm (P : Int), e1, Int.mul_comm _ Q, hc, Int.mul_ediv_cancel_left _ (by omega), Int.mul_comm (P' : Int), per_int h']
theorem comp_mono (h : Mono f) (h' : Mono g) : Mono (fun x => g (f x)) := fun x => h'.le' (h x)
theorem comp_rise {P' : Nat} {Q Q' : Int} (hP : 0 < P') (hq : 0 ≤ Q) (hq' : 0 ≤ Q') : 0 ≤ Q * (partN P' Q : Int) / P' * Q' ∧ Q * (partN P' Q : Int) / P' * Q' ≤ Q * Q' := by
  have h1 : 0 ≤ Q * (partN P' Q : Int) / P' := Int.ediv_nonneg (Int.mul_nonneg hq (by omega)) (by omega)
  have h2 : Q * (partN P' Q : Int) / P' ≤ Q := by
    have a : (partN P' Q : Int) ≤ P' := by have := partN_le (k := P') Q; omega
    have b : Q * (partN P' Q : Int) ≤ Q * P' := Int.mul_le_mul_of_nonneg_left a hq
    have c := Int.ediv_le_ediv (c := (P' : Int)) (by omega) b
    rw [Int.mul_ediv_cancel _ (by omega)] at c
    exact c
  exact ⟨Int.mul_nonneg h1 hq', Int.mul_le_mul_of_nonneg_right h2 hq'⟩
end
end Mt
end

section
set_option Elab.async false
set_option linter.all false
set_option maxRecDepth 100000
set_option maxHeartbeats 4000000
namespace Pg
open PySem PySem.Spec PyProof.Rows L2 Ev Mt
/-- the first of a row of numbers that has p -/
structure First (q : Int → Prop) (a : Int) (k : Nat) (x : Int) : Prop where
  lo : a ≤ x
  hi : x < a + k
  p : q x
  no : ∀ y, a ≤ y → y < x → ¬ q y
theorem first_loop {f : D → Ev.Env → Mu → Ev.R Fl} {μ : Mu} (I : Ev.Env → Prop) (p : Int → Prop) (r : Int → D → Prop) :
    ∀ (k : Nat) (lo : Int) (ρ : Ev.Env), I ρ → (∀ x ρ, lo ≤ x → x < lo + k → I ρ → (¬ p x ∧ ∃ ρ', f (.int x) ρ μ = .ok (.nx ρ') μ ∧ I ρ') ∨ (p x ∧ ∃ d, f (.int x) ρ μ = .ok (.rt d) μ ∧ r x d)) →
    (∃ x d, First p lo k x ∧ r x d ∧ forL f ((List.range k).map fun i => .int (lo + (i : Nat))) ρ μ = .ok (.rt d) μ) ∨ ((∀ x, lo ≤ x → x < lo + k → ¬ p x) ∧ ∃ ρ', forL f ((List.range k).map fun i => .int (lo + (i : Nat))) ρ μ = .ok (.nx ρ') μ ∧ I ρ')
  | 0, lo, ρ, hi, h => .inr ⟨fun x h1 h2 => by omega, ρ, rfl, hi⟩
  | k + 1, lo, ρ, hi, h => by
    have e : ((List.range (k + 1)).map fun i => D.int (lo + (i : Nat))) = D.int lo :: ((List.range k).map fun i => D.int (lo + 1 + (i : Nat))) := by
      rw [List.range_succ_eq_map, List.map_cons, List.map_map]
      congr 1
      · simp
      · refine List.map_congr_left fun i _ => ?_
        show D.int (lo + ((i + 1 : Nat) : Int)) = D.int (lo + 1 + (i : Nat))
        congr 1
        omega
    rw [e]
    unfold forL
    rcases h lo ρ (Int.le_refl _) (by omega) hi with ⟨np, ρ', e1, hi'⟩ | ⟨hp, d, e1, hr⟩
    · rw [e1]
      dsimp only
      rcases first_loop I p r k (lo + 1) ρ' hi' (fun x ρ h1 h2 h3 => h x ρ (by omega) (by omega) h3) with ⟨x, d, fx, rx, e2⟩ | ⟨no, ρ2, e2, hi2⟩
      · left
        have a := fx.lo
        have b := fx.hi
        refine ⟨x, d, ⟨by omega, by omega, fx.p, fun y h1 h2 => ?_⟩, rx, e2⟩
        by_cases z : y = lo
        · rw [z]; exact np
        · exact fx.no y (by omega) h2
      · right
        refine ⟨fun x h1 h2 => ?_, ρ2, e2, hi2⟩
        by_cases z : x = lo
        · rw [z]; exact np
        · exact no x (by omega) (by omega)
    · left
      rw [e1]
      exact ⟨lo, d, ⟨Int.le_refl _, by omega, hp, fun y h1 h2 => by omega⟩, hr, rfl⟩
theorem First.uniq {p : Int → Prop} {lo : Int} {k k' : Nat} {x x' : Int} (h : First p lo k x) (h' : First p lo k' x') : x = x' := by
  rcases Int.lt_trichotomy x x' with z | z | z
  · exact absurd h.p (h'.no x h.lo z)
  · exact z
  · exact absurd h'.p (h.no x' h'.lo z)
theorem First.le {p : Int → Prop} {lo : Int} {k k' : Nat} {x : Int} (h : First p lo k x) (hk : k ≤ k') : First p lo k' x := ⟨h.lo, by have := h.hi; omega, h.p, h.no⟩
theorem First.iff {p q : Int → Prop} {lo : Int} {k : Nat} {x : Int} (h : First p lo k x) (e : ∀ x, p x ↔ q x) : First q lo k x := ⟨h.lo, h.hi, (e x).mp h.p, fun y h1 h2 h3 => h.no y h1 h2 ((e y).mpr h3)⟩
theorem least_ex (p : Int → Prop) (lo : Int) : ∀ k : Nat, (∃ x, lo ≤ x ∧ x < lo + k ∧ p x) → ∃ x, First p lo k x
  | 0, ⟨x, h1, h2, _⟩ => by omega
  | k + 1, h => by
    by_cases z : ∃ x, lo ≤ x ∧ x < lo + (k : Int) ∧ p x
    · obtain ⟨x, f⟩ := least_ex p lo k z
      exact ⟨x, f.le (by omega)⟩
    · obtain ⟨x, h1, h2, h3⟩ := h
      refine ⟨x, h1, h2, h3, fun y a b c => z ⟨y, a, by omega, c⟩⟩
theorem none_per {p : Int → Prop} {A : Nat} (h0 : 0 < A) (hp : ∀ x, p (x + A) ↔ p x) (h : ∀ x : Int, 0 ≤ x → x < A → ¬ p x) (x : Int) : ¬ p x := by
  have up : ∀ (n : Nat) (x : Int), p (x + n * A) ↔ p x := fun n => by
    induction n with
    | zero => intro x; simp
    | succ n ih =>
      intro x
      have e : x + ((n + 1 : Nat) : Int) * A = x + n * A + A := by push_cast; rw [Int.add_mul]; omega
      rw [e, hp, ih]
  have hm := Int.emod_add_mul_ediv x A
  have m0 := Int.emod_nonneg x (show (A : Int) ≠ 0 by omega)
  have m1 := Int.emod_lt_of_pos x (show (0 : Int) < A by omega)
  have hn := h (x % A) m0 (by omega)
  rcases Int.le_total 0 (x / A) with z | z
  · have := up (x / A).toNat (x % A)
    rw [show (((x / A).toNat : Nat) : Int) = x / A by omega, Int.mul_comm, hm] at this
    rw [this]
    exact hn
  · have := up (-(x / A)).toNat x
    rw [show (((-(x / A)).toNat : Nat) : Int) = -(x / A) by omega, Int.neg_mul, Int.mul_comm, show x + -(A * (x / A)) = x % A by omega] at this
    rw [← this]
    exact hn
section
variable {C : Fns} {μ : Mu}
/-- for .. in range(lo, hi): the first, or none -/
theorem for_first {i : Nat} {es : E} {b : S} {ρ : Ev.Env} {lo : Int} {k : Nat} (I : Ev.Env → Prop) (p : Int → Prop) (r : Int → D → Prop) (hi : evE C (.rng es) ρ μ = .ok (.rng lo (lo + k)) μ) (h0 : I ρ)
    (h : ∀ x ρ, lo ≤ x → x < lo + k → I ρ → (¬ p x ∧ ∃ ρ', evS C b (ρ.set i (.sh (.int x))) μ = .ok (.nx ρ') μ ∧ I ρ') ∨ (p x ∧ ∃ d, evS C b (ρ.set i (.sh (.int x))) μ = .ok (.rt d) μ ∧ r x d)) :
    (∃ x d, First p lo k x ∧ r x d ∧ evS C (.for_ (.name i) (.rng es) b) ρ μ = .ok (.rt d) μ) ∨ ((∀ x, lo ≤ x → x < lo + k → ¬ p x) ∧ ∃ ρ', evS C (.for_ (.name i) (.rng es) b) ρ μ = .ok (.nx ρ') μ ∧ I ρ') := by
  have ds : itemsE (.rng es) (.rng lo (lo + k)) = some ((List.range k).map fun i => .int (lo + (i : Nat))) := by
    show some (rngL lo (lo + k)) = _
    unfold rngL
    rw [show (lo + (k : Int) - lo).toNat = k by omega]
  rcases first_loop (f := fun d ρ μ => (R.of (setTg (.name i) d ρ) μ).bind fun ρ μ => evS C b ρ μ) (μ := μ) I p r k lo ρ h0 h with ⟨x, d, fx, rx, e⟩ | ⟨no, ρ', e, hi'⟩
  · exact .inl ⟨x, d, fx, rx, for_ok hi ds e⟩
  · exact .inr ⟨no, ρ', for_ok hi ds e, hi'⟩
end
end Pg
end

section
set_option Elab.async false
set_option linter.all false
set_option maxRecDepth 100000
set_option maxHeartbeats 4000000
namespace Pg
open PySem PySem.Spec PyProof.Rows L2 Ev Mt
section
variable {C : Fns} {μ : Mu}
def latB : S := (.seq (.asg false (.name 9) (.bin .fdiv (.bin .add (.var 7) (.var 8)) (.int 2))) (.seq (.cond (.cmp .le (.idx (.var 6) (.var 9)) (.var 3)) (.seq (.asg false (.name 7) (.var 9)) .skip) (.seq (.asg false (.name 8) (.var 9)) .skip)) .skip))
def latS2 : S := (.seq (.asg false (.tup (.cons (.name 4) (.cons (.name 5) (.cons (.name 6) .nil)))) (.var 0)) (.seq (.asg false (.name 2) (.bin .fdiv (.bin .sub (.var 1) (.idx (.var 6) (.int 0))) (.var 5))) (.seq (.asg false (.name 3) (.bin .sub (.var 1) (.bin .mul (.var 2) (.var 5)))) (.seq (.par [7, 8] (.cons (.int 0) (.cons (.var 4) .nil))) (.seq (.whl (.cmp .gt (.bin .sub (.var 8) (.var 7)) (.int 1)) latB) (.seq (.ret (.bin .add (.bin .mul (.var 2) (.var 4)) (.var 7))) .skip))))))
theorem late_b (a b c d e s : Ev.Slot) (due lo hi w : Int) (T : D) (hw : ixM μ T (.int ((lo + hi) / 2)) = some (.int w)) :
    evS C latB (envS a b c due d e T lo hi s) μ = .ok (.nx (if w ≤ due then envS a b c due d e T ((lo + hi) / 2) hi (.sh (.int ((lo + hi) / 2))) else envS a b c due d e T lo ((lo + hi) / 2) (.sh (.int ((lo + hi) / 2))))) μ := by
  have f2 := binD_fdiv (lo + hi) 2 (by decide) (log2_small 2 (by decide) (by decide))
  by_cases h : w ≤ due <;> simp [latB, binD_add, f2, newSlot, hw, cmpD_le, h]
theorem late_loop (a b c d e : Ev.Slot) (due : Int) (t : List Int) : ∀ (k : Nat) (lo hi : Int) (m : Nat) (s : Ev.Slot), hi - lo ≤ (k : Int) + 1 → 0 ≤ lo → lo < hi → hi ≤ (t.length : Int) → t.getD lo.toNat 0 ≤ due → (hi = t.length ∨ due < t.getD hi.toNat 0) → k < m →
    ∃ (r : Nat) (h' : Int) (s' : Ev.Slot), whlL (evE C (.cmp .gt (.bin .sub (.var 8) (.var 7)) (.int 1))) (evS C latB) m (envS a b c due d e (.tup (t.map .int)) lo hi s) μ =
      .ok (.nx (envS a b c due d e (.tup (t.map .int)) (r : Int) h' s')) μ ∧ r < t.length ∧ t.getD r 0 ≤ due ∧ (r + 1 = t.length ∨ due < t.getD (r + 1) 0)
  | k, lo, hi, 0, s, _, _, _, _, _, _, hm => by omega
  | k, lo, hi, m + 1, s, hk, hl, hlh, hh, i1, i2, hm => by
    unfold whlL
    rw [soo_c]
    by_cases q : 1 < hi - lo
    · have k1 : 0 < k := by omega
      obtain ⟨k, rfl⟩ : ∃ j, k = j + 1 := ⟨k - 1, by omega⟩
      rw [decide_eq_true q]
      have hmid : lo < (lo + hi) / 2 ∧ (lo + hi) / 2 < hi := by omega
      have hw := ixT_at t ((lo + hi) / 2) (by omega) (by omega)
      dsimp only
      rw [late_b a b c d e s due lo hi _ _ (show ixM μ (.tup (t.map .int)) _ = _ from hw)]
      dsimp only
      by_cases p : t.getD ((lo + hi) / 2).toNat 0 ≤ due
      · rw [if_pos p]
        exact late_loop a b c d e due t k ((lo + hi) / 2) hi m _ (by omega) (by omega) hmid.2 hh p i2 (by omega)
      · rw [if_neg p]
        exact late_loop a b c d e due t k lo ((lo + hi) / 2) m _ (by omega) hl hmid.1 (by omega) i1 (.inr (by omega)) (by omega)
    · rw [decide_eq_false q]
      refine ⟨lo.toNat, hi, s, ?_, by omega, i1, ?_⟩
      · have e1 : ((lo.toNat : Nat) : Int) = lo := by omega
        rw [e1]
      · rcases i2 with z | z
        · exact .inl (by omega)
        · have e : lo.toNat + 1 = hi.toNat := by omega
          rw [e]
          exact .inr z
theorem late_step (p q y first blk due : Int) (t : List D) (hl : ixM μ (.tup t) (.int 0) = some (.int first)) (f1 : binD .fdiv (.int (y - first)) (.int q) = some (.int blk)) (m1 : binD .mul (.int blk) (.int q) = some (.int (y - due))) (r hi : Int) (s' : Ev.Slot) (bp : Int)
    (w : evS C (.whl (.cmp .gt (.bin .sub (.var 8) (.var 7)) (.int 1)) latB) (envS (.sh (.tup [.int p, .int q, .tup t])) (.sh (.int y)) (.sh (.int blk)) due (.sh (.int p)) (.sh (.int q)) (.tup t) 0 p .un) μ = .ok (.nx (envS (.sh (.tup [.int p, .int q, .tup t])) (.sh (.int y)) (.sh (.int blk)) due (.sh (.int p)) (.sh (.int q)) (.tup t) r hi s')) μ) (m2 : binD .mul (.int blk) (.int p) = some (.int bp)) :
    fnR (evS C latS2 [.sh (.tup [.int p, .int q, .tup t]), .sh (.int y), .un, .un, .un, .un, .un, .un, .un, .un] μ) = .ok (.int (bp + r)) μ := by
  have e2 : y - (y - due) = due := by omega
  have w' : evS C (.whl (.cmp .gt (.bin .sub (.var 8) (.var 7)) (.int 1)) latB) [.sh (.tup [.int p, .int q, .tup t]), .sh (.int y), .sh (.int blk), .sh (.int due), .sh (.int p), .sh (.int q), .sh (.tup t), .sh (.int 0), .sh (.int p), .un] μ = _ := w
  simp [latS2, setTg, negD, hl, binD_sub, f1, newSlot, m1, e2, setPar, w', m2, binD_add]
theorem late_run {f : Int → Int} {P : Nat} {Q : Int} {t : List Int} (m : Mp f P Q t) (hq : 0 < Q) (hq2 : Q ≤ 1000000000) (y : Int) : ∃ x, fnR (evS C latS2 [.sh (mD P Q t), .sh (.int y), .un, .un, .un, .un, .un, .un, .un, .un] μ) = .ok (.int x) μ ∧ IsLate f y x := by
  have p0 := m.p0
  have p1 := m.p1
  have hl := m.l
  obtain ⟨B, hB⟩ : ∃ B : Int, B = (y - t.getD 0 0) / Q := ⟨_, rfl⟩
  have hmod := Int.emod_add_mul_ediv (y - t.getD 0 0) Q
  have hm0 := Int.emod_nonneg (y - t.getD 0 0) (show Q ≠ 0 by omega)
  have hm1 := Int.emod_lt_of_pos (y - t.getD 0 0) hq
  have hBQ : Q * ((y - t.getD 0 0) / Q) = B * Q := by rw [hB, Int.mul_comm]
  have i2 : t.getD 0 0 ≤ y - B * Q := by omega
  have i3 : y - B * Q < t.getD 0 0 + Q := by omega
  have w := late_loop (C := C) (μ := μ) (.sh (mD P Q t)) (.sh (.int y)) (.sh (.int B)) (.sh (.int P)) (.sh (.int Q)) (y - B * Q) t (P - 1) 0 (P : Int) whileMost .un (by omega) (by omega) (by omega) (by omega) i2 (.inl (by omega)) (by rw [whileMost_eq]; omega)
  obtain ⟨r, h', s', w, hr, hr1, hr2⟩ := w
  rw [hl] at hr hr2
  have x0 : ixM μ (.tup (t.map .int)) (.int 0) = some (.int (t.getD 0 0)) := ixT_nat t 0 (by omega)
  refine ⟨B * P + r, late_step (P : Int) Q y (t.getD 0 0) B (y - B * Q) (t.map .int) x0 (by
    rw [binD_fdiv _ Q hq (log2_small Q hq (Int.lt_of_le_of_lt hq2 (by decide))), hB]) (by
    rw [binD_mul _ _ (mulOk_r (by omega))]
    congr 2
    omega) r _ s' (B * P) w (binD_mul _ _ (mulOk_r (by omega))), ?_⟩
  have fe := m.v
  constructor
  · rw [← fe, Int.add_comm, vl_at r B hr]
    omega
  · rw [← fe]
    rcases hr2 with z | z
    · have e : B * (P : Int) + r + 1 = ((0 : Nat) : Int) + (B + 1) * P := by
        rw [Int.add_mul]
        omega
      rw [e, vl_at _ _ p0, Int.add_mul]
      omega
    · by_cases h0 : r + 1 = P
      · have e : B * (P : Int) + r + 1 = ((0 : Nat) : Int) + (B + 1) * P := by
          rw [Int.add_mul]
          omega
        rw [e, vl_at _ _ p0, Int.add_mul]
        omega
      · have e : B * (P : Int) + r + 1 = ((r + 1 : Nat) : Int) + B * P := by omega
        rw [e, vl_at _ _ (by omega)]
        omega
def HSoo (C : Fns) (k : Nat) : Prop := ∀ {f : Int → Int} {P : Nat} {Q : Int} {t : List Int} (_ : Mp f P Q t) (_ : 0 < Q) (_ : Q ≤ 1000000000) (y : Int) μ, ∃ x, C.call k [mD P Q t, .int y] μ = .ok (.int x) μ ∧ IsSoon f y x
def HLate (C : Fns) (k : Nat) : Prop := ∀ {f : Int → Int} {P : Nat} {Q : Int} {t : List Int} (_ : Mp f P Q t) (_ : 0 < Q) (_ : Q ≤ 1000000000) (y : Int) μ, ∃ x, C.call k [mD P Q t, .int y] μ = .ok (.int x) μ ∧ IsLate f y x
def HPok (C : Fns) (k : Nat) : Prop := ∀ (p : Int) μ, p ≤ 2000 → C.call k [.int p] μ = .ok .non μ
theorem HSoo.at {k : Nat} (h : HSoo C k) {f u : Int → Int} {P : Nat} {Q : Int} {t : List Int} (m : Mp f P Q t) (hq : 0 < Q) (hq2 : Q ≤ 1000000000) (b : Bk f u) (y : Int) (μ : Mu) : C.call k [mD P Q t, .int y] μ = .ok (.int (u y)) μ := by
  obtain ⟨x, e, s⟩ := h m hq hq2 y μ
  rw [← b.uniq s]
  exact e
theorem HLate.at {k : Nat} (h : HLate C k) {f u : Int → Int} {P : Nat} {Q : Int} {t : List Int} (m : Mp f P Q t) (hq : 0 < Q) (hq2 : Q ≤ 1000000000) (b : Bk f u) (y : Int) (μ : Mu) : C.call k [mD P Q t, .int y] μ = .ok (.int (dn u y)) μ := by
  obtain ⟨x, e, s⟩ := h m hq hq2 y μ
  rw [← b.late s]
  exact e
def behElt (fv : Nat) : E := (.call fv (.cons (.var 1) (.cons (.call fv (.cons (.var 0) (.cons (.var 5) .nil))) .nil)))
def behS (fd fp fn fv : Nat) : S := (.seq (.asg false (.name 2) (.ite (.cmp .eq (.idx (.var 0) (.int 1)) (.int 0)) (.int 1) (.bin .fdiv (.idx (.var 1) (.int 0)) (.call fd (.cons (.idx (.var 1) (.int 0)) (.cons (.idx (.var 0) (.int 1)) .nil)))))) (.seq (.asg false (.name 3) (.bin .mul (.idx (.var 0) (.int 0)) (.var 2))) (.seq (.exp (.call fp (.cons (.var 3) .nil))) (.seq (.asg false (.name 4) (.bin .mul (.bin .fdiv (.bin .mul (.idx (.var 0) (.int 1)) (.var 2)) (.idx (.var 1) (.int 0))) (.idx (.var 1) (.int 1)))) (.seq (.ret (.call fn (.cons (.tup (.cons (.var 3) (.cons (.var 4) (.cons (.bi .tuple (.cons (.comp (.name 5) (.rng (.cons (.var 3) .nil)) (behElt fv) .nil) .nil)) .nil)))) .nil))) .skip)))))
theorem beh_part {fd : Nat} (a b : D) (p q p' part g : Int) (s2 s3 s4 s5 : Ev.Slot) (a1 : ixM μ a (.int 1) = some (.int q)) (b0 : ixM μ b (.int 0) = some (.int p')) (h : q = 0 ∧ part = 1 ∨ q ≠ 0 ∧ C.call fd [.int p', .int q] μ = .ok (.int g) μ ∧ binD .fdiv (.int p') (.int g) = some (.int part)) :
    evE C (.ite (.cmp .eq (.idx (.var 0) (.int 1)) (.int 0)) (.int 1) (.bin .fdiv (.idx (.var 1) (.int 0)) (.call fd (.cons (.idx (.var 1) (.int 0)) (.cons (.idx (.var 0) (.int 1)) .nil))))) [.sh a, .sh b, s2, s3, s4, s5] μ = .ok (.int part) μ := by
  rcases h with ⟨z, e⟩ | ⟨z, h1, h2⟩
  · subst z
    subst e
    simp [a1, b0, cmpD_eqI]
  · simp [a1, b0, cmpD_eqI, z, h1, h2]
theorem beh_step {fd fp fn fv : Nat} (a b : D) (p q p' q' part L c e R : Int) (T : List D) (res : D) (a0 : ixM μ a (.int 0) = some (.int p)) (a1 : ixM μ a (.int 1) = some (.int q)) (b0 : ixM μ b (.int 0) = some (.int p')) (b1 : ixM μ b (.int 1) = some (.int q'))
    (hp : evE C (.ite (.cmp .eq (.idx (.var 0) (.int 1)) (.int 0)) (.int 1) (.bin .fdiv (.idx (.var 1) (.int 0)) (.call fd (.cons (.idx (.var 1) (.int 0)) (.cons (.idx (.var 0) (.int 1)) .nil))))) [.sh a, .sh b, .un, .un, .un, .un] μ = .ok (.int part) μ)
    (m1 : binD .mul (.int p) (.int part) = some (.int L)) (hc : C.call fp [.int L] μ = .ok .non μ) (m2 : binD .mul (.int q) (.int part) = some (.int c)) (f2 : binD .fdiv (.int c) (.int p') = some (.int e)) (m3 : binD .mul (.int e) (.int q') = some (.int R))
    (cm : evE C (.comp (.name 5) (.rng (.cons (.var 3) .nil)) (behElt fv) .nil) [.sh a, .sh b, .sh (.int part), .sh (.int L), .sh (.int R), .un] μ = .ok (.lst T) μ) (hn : C.call fn [.tup [.int L, .int R, .tup T]] μ = .ok res μ) :
    fnR (evS C (behS fd fp fn fv) [.sh a, .sh b, .un, .un, .un, .un] μ) = .ok res μ := by
  simp only [behS, vS_seq, vS_asgN]
  rw [hp]
  simp [newSlot, a0, m1, hc, a1, m2, b0, f2, b1, m3, cm, biD_tupL, hn]
theorem beh_elt {fv : Nat} (a b part L R : D) (z u v : Int) (h1 : C.call fv [a, .int z] μ = .ok (.int u) μ) (h2 : C.call fv [b, .int u] μ = .ok (.int v) μ) : evE C (behElt fv) [.sh a, .sh b, .sh part, .sh L, .sh R, .sh (.int z)] μ = .ok (.int v) μ := by
  simp [behElt, h1, h2]
theorem beh_run {fd fp fn fv : Nat} (hd : HDiv C fd) (hp : HPok C fp) (hn : HNorm C fn) (hv : HVal C fv) {f g : Int → Int} {P P' : Nat} {Q Q' : Int} {t t' : List Int} (r : Rp f P Q t) (r' : Rp g P' Q' t') (h1 : P ≤ 2000) (h1' : P' ≤ 2000) (hq : 0 ≤ Q) (hq2 : Q ≤ 100000000) (hq' : 0 ≤ Q') (hq2' : Q' ≤ 100000000) (hL : P * partN P' Q ≤ 2000) :
    fnR (evS C (behS fd fp fn fv) [.sh (mD P Q t), .sh (mD P' Q' t'), .un, .un, .un, .un] μ) = .ok (nD (nrm (P * partN P' Q) (Q * (partN P' Q : Int) / P' * Q') (tab (fun x => g (f x)) (P * partN P' Q)))) μ := by
  have p0 := r.p0
  have p0' := r'.p0
  have o := Pg.Rp.ok3 r (by omega) hq (by omega)
  have o' := Pg.Rp.ok3 r' (by omega) hq' (by omega)
  have k0 := partN_pos p0' Q
  have k1 := partN_le (k := P') Q
  have rise := comp_rise p0' hq hq'
  have riseB : Q * Q' ≤ 100000000 * 100000000 := Int.mul_le_mul hq2 hq2' hq' (by decide)
  have bq : Q * (partN P' Q : Int) ≤ 100000000 * 2000 := Int.mul_le_mul hq2 (by omega) (by omega) (by decide)
  have ed : Q * (partN P' Q : Int) / P' ≤ Q * (partN P' Q : Int) := Int.ediv_le_self _ (Int.mul_nonneg hq (by omega))
  have ed0 : 0 ≤ Q * (partN P' Q : Int) / P' := Int.ediv_nonneg (Int.mul_nonneg hq (by omega)) (by omega)
  have part := beh_part (C := C) (μ := μ) (fd := fd) (mD P Q t) (mD P' Q' t') P Q P' (partN P' Q : Nat) (Nat.gcd P' Q.toNat : Nat) .un .un .un .un rfl rfl (by
    by_cases z : Q = 0
    · left
      refine ⟨z, ?_⟩
      rw [z, partN_zero _ p0']
      rfl
    · right
      refine ⟨z, ?_, ?_⟩
      · have := hd P' Q.toNat μ (by omega)
        rw [show ((Q.toNat : Nat) : Int) = Q by omega] at this
        exact this
      · have g0 : 0 < Nat.gcd P' Q.toNat := Nat.gcd_pos_of_pos_left _ p0'
        have g1 : Nat.gcd P' Q.toNat ≤ P' := Nat.gcd_le_left _ p0'
        rw [fdivN _ g0 (by omega)]
        rfl)
  have mL : binD .mul (.int (P : Int)) (.int (partN P' Q : Nat)) = some (.int ((P * partN P' Q : Nat) : Int)) := by
    rw [Int.natCast_mul]
    exact binD_mul _ _ (mulOk_l (by omega))
  have cm := comp_tab (C := C) (μ := μ) (ρ := [.sh (mD P Q t), .sh (mD P' Q' t'), .sh (.int (partN P' Q : Nat)), .sh (.int ((P * partN P' Q : Nat) : Int)), .sh (.int (Q * (partN P' Q : Int) / P' * Q')), .un]) (it := .rng (.cons (.var 3) .nil)) (elt := behElt fv) (k := 5) (n := P * partN P' Q) (g := fun x => g (f x)) (rng1_ok (by simp) (by omega) (by omega)) (fun _ => rfl) (by omega) (fun i => [.sh (mD P Q t), .sh (mD P' Q' t'), .sh (.int (partN P' Q : Nat)), .sh (.int ((P * partN P' Q : Nat) : Int)), .sh (.int (Q * (partN P' Q : Int) / P' * Q')), .sh (.int i)]) (fun _ => rfl)
    (fun i hi => by
      have a := hv o i μ
      rw [r.v] at a
      have b := hv o' (f i) μ
      rw [r'.v] at b
      exact beh_elt _ _ _ _ _ i _ _ a b)
  exact beh_step _ _ P Q P' Q' _ _ _ _ _ _ _ rfl rfl rfl rfl part mL (hp _ μ (by omega)) (binD_mul _ _ (mulOk_l (by omega))) (fdivN _ p0' (by omega)) (binD_mul _ _ (mulOk_l (by omega))) cm
    (hn ⟨Nat.mul_pos p0 k0, by omega, by omega, tab_len _ _⟩ μ)
def backElt (fs : Nat) : E := (.call fs (.cons (.var 0) (.cons (.var 1) .nil)))
def backS (fb fn fp fs : Nat) : S := (.seq (.exp (.call fb (.cons (.var 0) .nil))) (.seq (.asg false (.name 0) (.call fn (.cons (.var 0) .nil))) (.seq (.exp (.call fp (.cons (.idx (.var 0) (.int 1)) .nil))) (.seq (.ret (.call fn (.cons (.tup (.cons (.idx (.var 0) (.int 1)) (.cons (.idx (.var 0) (.int 0)) (.cons (.bi .tuple (.cons (.comp (.name 1) (.rng (.cons (.idx (.var 0) (.int 1)) .nil)) (backElt fs) .nil) .nil)) .nil)))) .nil))) .skip))))
theorem back_step {fb fn fp fs : Nat} (a b : D) (p q : Int) (T : List D) (res : D) (h1 : C.call fb [a] μ = .ok .non μ) (h2 : C.call fn [a] μ = .ok b μ) (b0 : ixM μ b (.int 0) = some (.int p)) (b1 : ixM μ b (.int 1) = some (.int q)) (h3 : C.call fp [.int q] μ = .ok .non μ)
    (cm : evE C (.comp (.name 1) (.rng (.cons (.idx (.var 0) (.int 1)) .nil)) (backElt fs) .nil) [.sh b, .un] μ = .ok (.lst T) μ) (hn : C.call fn [.tup [.int q, .int p, .tup T]] μ = .ok res μ) : fnR (evS C (backS fb fn fp fs) [.sh a, .un] μ) = .ok res μ := by
  simp [backS, h1, h2, newSlot, b0, b1, h3, cm, biD_tupL, hn]
theorem back_run {fb fn fp fs : Nat} (hb : ∀ {P : Nat} {Q : Int} {t : List Int} μ, Q ≠ 0 → C.call fb [mD P Q t] μ = .ok .non μ) (hn : HNorm C fn) (hp : HPok C fp) {f u : Int → Int} {P : Nat} {Q : Int} {t : List Int} (m : Mp f P Q t) (hq : 0 < Q) (hq2 : Q ≤ 2000) (pu : Mt.per u (nrm P Q t).2.1 (nrm P Q t).1)
    (hs : ∀ (y : Int) μ, C.call fs [nD (nrm P Q t), .int y] μ = .ok (.int (u y)) μ) (q0 : 0 < (nrm P Q t).2.1) :
    fnR (evS C (backS fb fn fp fs) [.sh (mD P Q t), .un] μ) = .ok (nD (nrm (nrm P Q t).2.1.toNat (nrm P Q t).1 (tab u (nrm P Q t).2.1.toNat))) μ := by
  have h2 := hn (m.ok3 (by omega)) μ
  have q1 := (m.toRp.rise m.q0).2
  have p1 := Nat.le_trans m.toRp.nrm_le m.p1
  have p0 := m.nrm.p0
  unfold nD at h2 hs
  generalize (nrm P Q t).1 = p at *
  generalize (nrm P Q t).2.1 = q at *
  generalize (nrm P Q t).2.2 = w at *
  obtain ⟨k, rfl⟩ : ∃ k : Nat, q = (k : Int) := ⟨q.toNat, by omega⟩
  rw [Int.toNat_natCast]
  have cm := comp_tab (C := C) (μ := μ) (ρ := [.sh (mD p k w), .un]) (it := .rng (.cons (.idx (.var 0) (.int 1)) .nil)) (elt := backElt fs) (k := 1) (n := k) (g := u) (rng1_ok (by simp [ixM_1]) (by omega) (by omega)) (fun _ => rfl) (by omega) (fun i => [.sh (mD p k w), .sh (.int i)]) (fun _ => rfl)
    (fun i hi => by
      have := hs i μ
      generalize (i : Int) = z at *
      simp [backElt, this])
  exact back_step _ _ p k _ _ (hb μ (by omega)) h2 rfl rfl (hp _ μ (by omega)) cm (hn ⟨by omega, by omega, by omega, tab_len _ _⟩ μ)
end
end Pg
end

section
set_option Elab.async false
set_option linter.all false
set_option maxRecDepth 100000
set_option maxHeartbeats 1000000
namespace Mt
open Pg Ev
section
variable {f g u : Int → Int}
def CL (f g u : Int → Int) (x : Int) : Prop := x < dn u (f x) ∧ g (dn u (f x)) ≠ g x
def OL (f g : Int → Int) (N : Nat) (x : Int) : Prop := ∃ y, x + 1 ≤ y ∧ y < x + 1 + N ∧ f x = f y ∧ g x ≠ g y
theorem cl_ol (b : Bk f u) (mg : Mono g) {P : Nat} {Q : Int} (hp : per f P Q) (hq : 0 < Q) {N : Nat} (hN : P ≤ N) (x : Int) : CL f g u x ↔ OL f g N x := by
  constructor
  · rintro ⟨h1, h2⟩
    have h3 := (b.dle (dn u (f x)) (f x)).mp (Int.le_refl _)
    have h4 := b.m.le' (Int.le_of_lt h1)
    have h5 : dn u (f x) < x + P := by
      rcases Int.lt_or_le (dn u (f x)) (x + P) with z | z
      · exact z
      · have := (b.dle (x + P) (f x)).mp z
        rw [hp] at this
        omega
    exact ⟨dn u (f x), by omega, by omega, by omega, fun e => h2 e.symm⟩
  · rintro ⟨y, h1, _, h3, h4⟩
    have h5 : y ≤ dn u (f x) := (b.dle y (f x)).mpr (by omega)
    have h6 := mg.le' (show x ≤ y by omega)
    have h7 := mg.le' h5
    exact ⟨by omega, by omega⟩
theorem OL_per {N A : Nat} {R R' : Int} (hf : per f A R) (hg : per g A R') (x : Int) : OL f g N (x + A) ↔ OL f g N x := by
  constructor
  · rintro ⟨y, h1, h2, h3, h4⟩
    refine ⟨y - A, by omega, by omega, ?_, ?_⟩
    · have := hf (y - A)
      rw [Int.sub_add_cancel] at this
      have := hf x
      omega
    · have := hg (y - A)
      rw [Int.sub_add_cancel] at this
      have := hg x
      omega
  · rintro ⟨y, h1, h2, h3, h4⟩
    refine ⟨y + A, by omega, by omega, ?_, ?_⟩
    · rw [hf, hf]
      omega
    · rw [hg, hg]
      omega
theorem clash_eq (b : Bk f u) {x : Int} {k k' : Nat} {y y' : Int} (h : First (fun y => g y ≠ g x) (x + 1) k y) (h' : First (fun y => f x = f y ∧ g x ≠ g y) (x + 1) k' y') : y = y' := by
  have a : ¬ y' < y := fun z => h.no y' h'.lo z (fun e => h'.p.2 e.symm)
  have c : ¬ y < y' := fun z => by
    have m1 := b.m.le' (show x ≤ y by have := h.lo; omega)
    have m2 := b.m.le' (Int.le_of_lt z)
    have e := h'.p.1
    exact h'.no y h.lo z ⟨by omega, fun e => h.p e.symm⟩
  omega
def UN (f g u : Int → Int) (x : Int) : Prop := f (u (g x)) ≠ g x
theorem UN_per (b : Bk f u) {p : Nat} {q c : Int} {A : Nat} (hf : per f p q) (hg : per g A (c * q)) (x : Int) : UN f g u (x + A) ↔ UN f g u x := by
  unfold UN
  rw [hg, per_int (b.per hf) c, per_int hf c]
  omega
end
end Mt
end

section
set_option Elab.async false
set_option linter.all false
set_option maxRecDepth 100000
set_option maxHeartbeats 1000000
namespace Mt
open Pg Ev
/-- c tells how many of f are at most y, from 0 on -/
def Ct (f c : Int → Int) : Prop := ∀ k y, f k ≤ y ↔ k < c y
section
variable {f g h c d : Int → Int}
theorem Bk.ct {u : Int → Int} (b : Bk f u) : Ct f (fun y => u (y + 1)) := fun k y => by
  have := b.lt k (y + 1)
  show f k ≤ y ↔ k < u (y + 1)
  omega
theorem Ct.uniq (h1 : Ct f c) (h2 : Ct f d) (y : Int) : c y = d y := by
  have a := h1 (d y) y
  have b := h2 (d y) y
  have a2 := h1 (c y) y
  have b2 := h2 (c y) y
  omega
theorem Ct.eq (h1 : Ct f c) (h2 : Ct g d) (e : ∀ y, c y = d y) (k : Int) : f k = g k := by
  have a := (h1 k (f k)).mp (Int.le_refl _)
  have b := (h2 k (g k)).mp (Int.le_refl _)
  rw [e] at a
  rw [← e] at b
  have a' := (h2 k (f k)).mpr a
  have b' := (h1 k (g k)).mpr b
  omega
theorem Ct.mono (h : Ct f c) : Mono f := fun k => by
  have a := (h (k + 1) (f (k + 1))).mp (Int.le_refl _)
  exact (h k _).mpr (by omega)
theorem Ct.cmono (h : Ct f c) {y z : Int} (hyz : y ≤ z) : c y ≤ c z := by
  have a := h (c y - 1) y
  have b := h (c y - 1) z
  omega
theorem Ct.per (h : Ct f c) {p q : Int} (hp : Mt.per f p q) : Mt.per c q p := fun y => by
  have e : ∀ k, k < c (y + q) ↔ k < c y + p := fun k => by
    rw [← h]
    have e1 : k < c y + p ↔ k - p < c y := by omega
    rw [e1, ← h]
    have := hp (k - p)
    rw [Int.sub_add_cancel] at this
    omega
  have a := e (c y + p)
  have b := e (c (y + q))
  omega
theorem Ct.shift (h : Ct f c) (K : Int) : Ct (fun k => f (k + K)) (fun y => c y - K) := fun k y => by
  show f (k + K) ≤ y ↔ k < c y - K
  rw [h]
  omega
theorem per_c {p q : Int} (h : per c q p) (n y : Int) : c (y + n * q) = c y + n * p := per_int h n y
/-- between two moments not too many -/
theorem Ct.few (h : Ct f c) {p q : Int} (hp : Mt.per f p q) (hq : 0 < q) (hp0 : 0 ≤ p) {y z : Int} (hyz : z ≤ y) : c y ≤ c z + (y - z) * p := by
  have e := per_int (h.per hp) (y - z) z
  have : y - z ≤ (y - z) * q := by
    have := Int.mul_le_mul_of_nonneg_left (show 1 ≤ q by omega) (show 0 ≤ y - z by omega)
    omega
  have := h.cmono (show y ≤ z + (y - z) * q by omega)
  omega
/-- a table that is counted in one round is counted everywhere -/
theorem ct_of {N : Nat} {R s : Int} {t : List Int} (n0 : 0 < N) (hR : 0 < R) (mono : ∀ {y z : Int}, y ≤ z → c y ≤ c z) (hper : per c R N) (h0 : c (s - 1) = 0) (hb : ∀ i, i < N → s ≤ t.getD i 0 ∧ t.getD i 0 < s + R) (hc : ∀ i, i < N → ∀ y, s - 1 ≤ y → y < s + R → (t.getD i 0 ≤ y ↔ (i : Int) < c y)) : Ct (vl N R t) c := fun x y => by
  obtain ⟨r, b, hr, rfl⟩ := split_x n0 x
  rw [vl_at r b hr]
  have e := per_int hper b (y - b * R)
  rw [Int.sub_add_cancel] at e
  have tb := hb r hr
  have e1 : t.getD r 0 + b * R ≤ y ↔ t.getD r 0 ≤ y - b * R := by omega
  rw [e1, e]
  generalize y - b * R = z at *
  have hN : c (s + R - 1) = N := by
    have := hper (s - 1)
    rw [show s - 1 + R = s + R - 1 by omega, h0] at this
    omega
  rcases Int.lt_or_le z (s - 1) with q | q
  · have := mono (show z ≤ s - 1 by omega)
    constructor
    · intro k; omega
    · intro k; omega
  · rcases Int.lt_or_le z (s + R) with q2 | q2
    · have := hc r hr z q q2
      constructor
      · intro k; have := this.mp k; omega
      · intro k; exact this.mpr (by omega)
    · have := mono (show s + R - 1 ≤ z by omega)
      constructor
      · intro k; omega
      · intro k; omega
theorem isort_count (p : Int → Bool) (x : Int) : ∀ l : List Int, (isort x l).countP p = (x :: l).countP p
  | [] => rfl
  | y :: r => by
    unfold isort
    split
    · rfl
    · rw [List.countP_cons, isort_count p x r, List.countP_cons, List.countP_cons, List.countP_cons]
      omega
theorem sortI_count (p : Int → Bool) : ∀ l : List Int, (sortI l).countP p = l.countP p
  | [] => rfl
  | x :: r => by
    show (isort x (sortI r)).countP p = _
    rw [isort_count, List.countP_cons, List.countP_cons, sortI_count p r]
theorem countP_zero {p : Int → Bool} : ∀ {l : List Int}, (∀ z ∈ l, p z = false) → l.countP p = 0
  | [], _ => rfl
  | x :: r, h => by
    rw [List.countP_cons, countP_zero (fun z hz => h z (List.mem_cons_of_mem _ hz)), h x List.mem_cons_self]
    rfl
theorem srt_count (y : Int) : ∀ (t : List Int), Srt t → ∀ i, i < t.length → (t.getD i 0 ≤ y ↔ i < t.countP fun z => decide (z ≤ y))
  | [], _, i, h => by simp at h
  | x :: r, ⟨h1, h2⟩, 0, _ => by
    rw [List.countP_cons]
    show x ≤ y ↔ _
    by_cases z : x ≤ y
    · simp [z]
    · have : r.countP (fun z => decide (z ≤ y)) = 0 := countP_zero fun w hw => decide_eq_false (by have := h1 w hw; omega)
      rw [this]
      simp [z]
  | x :: r, ⟨h1, h2⟩, i + 1, h => by
    rw [List.countP_cons]
    show r.getD i 0 ≤ y ↔ _
    have hi : i < r.length := by simpa using h
    have ih := srt_count y r h2 i hi
    by_cases z : x ≤ y
    · rw [ih]
      simp [z]
    · have e : r.countP (fun z => decide (z ≤ y)) = 0 := countP_zero fun w hw => decide_eq_false (by have := h1 w hw; omega)
      have hm : r.getD i 0 ∈ r := by
        have : r.getD i 0 = r[i] := by simp [List.getD, hi]
        rw [this]
        exact List.getElem_mem _
      have hx := h1 _ hm
      rw [e, if_neg (by simp [z])]
      generalize r.getD i 0 = w at *
      omega
theorem tab_count (h : Ct f c) (a y : Int) : ∀ n : Nat, (((tab (fun i => f (a + i)) n).countP fun z => decide (z ≤ y) : Nat) : Int) = min (max (c y - a) 0) n
  | 0 => by
    show ((0 : Nat) : Int) = _
    omega
  | n + 1 => by
    rw [tab_succ, List.countP_append]
    have ih := tab_count h a y n
    have k := h (a + n) y
    by_cases z : f (a + n) ≤ y
    · have := k.mp z
      have e : ([f (a + (n : Nat))].countP fun z => decide (z ≤ y)) = 1 := by simp [z]
      rw [e]
      push_cast
      omega
    · have : ¬ a + n < c y := fun q => z (k.mpr q)
      have e : ([f (a + (n : Nat))].countP fun z => decide (z ≤ y)) = 0 := by simp [z]
      rw [e]
      push_cast
      omega
def rowsM (f g : Int → Int) (a b : Int) (n m : Nat) : List Int := tab (fun i => f (a + i)) n ++ tab (fun i => g (b + i)) m
theorem rowsM_len (f g : Int → Int) (a b : Int) (n m : Nat) : (sortI (rowsM f g a b n m)).length = n + m := by
  rw [sortI_len]
  unfold rowsM
  rw [List.length_append, tab_len, tab_len]
theorem mg_ct (hf : Ct f c) (hg : Ct g d) {n m : Nat} {R s : Int} (n0 : 0 < n) (hR : 0 < R) (pf : per f n R) (pg : per g m R) : Ct (vl (n + m) R (sortI (rowsM f g (c (s - 1)) (d (s - 1)) n m))) (fun y => c y + d y - (c (s - 1) + d (s - 1))) := by
  have pc := hf.per pf
  have pd := hg.per pg
  have cs := pc (s - 1)
  have ds := pd (s - 1)
  rw [show s - 1 + R = s + R - 1 by omega] at cs ds
  refine ct_of (s := s) (by omega) hR (fun {y z} h => ?_) (fun y => ?_) ?_ (fun i hi => ?_) (fun i hi y h1 h2 => ?_)
  · have := hf.cmono h
    have := hg.cmono h
    show _ - _ ≤ _ - _
    omega
  · have := pc y
    have := pd y
    show c (y + R) + d (y + R) - _ = c y + d y - _ + _
    push_cast
    omega
  · show c (s - 1) + d (s - 1) - (c (s - 1) + d (s - 1)) = 0
    omega
  · have hl := rowsM_len f g (c (s - 1)) (d (s - 1)) n m
    have hm : (sortI (rowsM f g (c (s - 1)) (d (s - 1)) n m)).getD i 0 ∈ sortI (rowsM f g (c (s - 1)) (d (s - 1)) n m) := by
      have hi' : i < (sortI (rowsM f g (c (s - 1)) (d (s - 1)) n m)).length := by omega
      have : (sortI (rowsM f g (c (s - 1)) (d (s - 1)) n m)).getD i 0 = (sortI (rowsM f g (c (s - 1)) (d (s - 1)) n m))[i] := by simp [List.getD, hi']
      rw [this]
      exact List.getElem_mem _
    rw [sortI_mem] at hm
    generalize (sortI (rowsM f g (c (s - 1)) (d (s - 1)) n m)).getD i 0 = X at *
    unfold rowsM at hm
    rcases List.mem_append.mp hm with q | q
    · obtain ⟨j, hj, e⟩ := tab_mem.mp q
      rw [e]
      clear hl
      have a := hf (c (s - 1) + j) (s - 1)
      have b := hf (c (s - 1) + j) (s + R - 1)
      omega
    · obtain ⟨j, hj, e⟩ := tab_mem.mp q
      rw [e]
      have a := hg (d (s - 1) + j) (s - 1)
      have b := hg (d (s - 1) + j) (s + R - 1)
      omega
  · have hl := rowsM_len f g (c (s - 1)) (d (s - 1)) n m
    rw [srt_count y _ (sortI_srt _) i (by omega), sortI_count]
    unfold rowsM
    rw [List.countP_append]
    have e1 := tab_count hf (c (s - 1)) y n
    have e2 := tab_count hg (d (s - 1)) y m
    have a1 := hf.cmono h1
    have a2 := hg.cmono h1
    have b1 := hf.cmono (show y ≤ s + R - 1 by omega)
    have b2 := hg.cmono (show y ≤ s + R - 1 by omega)
    show _ ↔ (i : Int) < c y + d y - (c (s - 1) + d (s - 1))
    omega
/-- it begins with the first one's value at 0 -/
theorem mg_head (hf : Ct f c) (hg : Ct g d) {M : Int → Int} (hM : Ct M (fun y => c y + d y - (c (f 0 - 1) + d (f 0 - 1)))) : M 0 = f 0 := by
  have a := hM 0 (f 0)
  have b := hM 0 (f 0 - 1)
  dsimp only at a b
  have c1 := (hf 0 (f 0)).mp (Int.le_refl _)
  have c2 := hf 0 (f 0 - 1)
  have d1 := hg.cmono (show f 0 - 1 ≤ f 0 by omega)
  omega
/-- the parts of a row that is dealt -/
theorem deal_ct (hf : Ct f c) {m : Nat} (m0 : 0 < m) (i : Int) : Ct (fun k => f (m * k + i)) (fun y => (c y - i + m - 1) / m) := fun k y => by
  show f (m * k + i) ≤ y ↔ k < (c y - i + m - 1) / m
  rw [hf]
  have h := Int.le_ediv_iff_mul_le (a := k + 1) (b := c y - i + m - 1) (c := (m : Int)) (by omega)
  have e : (k + 1) * (m : Int) = m * k + m := by rw [Int.add_mul, Int.mul_comm]; omega
  rw [e] at h
  omega
/-- the least period goes into all -/
theorem nm_dvd {h : Int → Int} {bp : Nat} {bq : Int} {m : Nat × Int × List Int} (N : Nm h bp bq m) {A : Nat} (hA : Per h A) : m.1 ∣ A := by
  have p0 := N.rp.p0
  have g0 : 0 < Nat.gcd m.1 A := Nat.gcd_pos_of_pos_left _ p0
  have hp : Per h (Nat.gcd m.1 A) := Per.gcd ⟨m.2.1, N.rp.per⟩ hA
  obtain ⟨P, Q, t, r, rfl⟩ := N.nf
  have e : vl P Q t = h := funext r.v
  have sp := nrm_spec (Q := Q) r.p0 r.l
  rcases Nat.lt_or_ge (Nat.gcd (nrm P Q t).1 A) (nrm P Q t).1 with z | z
  · exact absurd hp (by
      have := sp.least _ g0 z (Nat.dvd_trans (Nat.gcd_dvd_left _ _) r.dvd)
      rw [e] at this
      exact this)
  · have : Nat.gcd (nrm P Q t).1 A = (nrm P Q t).1 := Nat.le_antisymm (Nat.gcd_le_left _ p0) z
    rw [← this]
    exact Nat.gcd_dvd_right _ _
end
end Mt
end

section
set_option Elab.async false
set_option linter.all false
set_option maxRecDepth 100000
set_option maxHeartbeats 1000000
namespace Mt
open Pg Ev
theorem win_per {h g : Int → Int} {A B : Nat} {R S : Int} (A0 : 0 < A) (B0 : 0 < B) (hA : per h A R) (hB : per g B S) {lo : Int} (w : ∀ x, lo ≤ x → x ≤ lo + A + B → h x = g x) : ∀ x, h x = g x := by
  -- the rises
  have dA : ∀ x, h (x + A + 1) - h (x + A) = h (x + 1) - h x := fun x => by
    have a := hA x
    have b := hA (x + 1)
    rw [show x + 1 + (A : Int) = x + A + 1 by omega] at b
    omega
  have dB : ∀ x, g (x + B + 1) - g (x + B) = g (x + 1) - g x := fun x => by
    have a := hB x
    have b := hB (x + 1)
    rw [show x + 1 + (B : Int) = x + B + 1 by omega] at b
    omega
  have hper : per (fun x => h (x + 1) - h x) A 0 := fun x => by
    have := dA x
    show h (x + A + 1) - h (x + A) = h (x + 1) - h x + 0
    omega
  have gper : per (fun x => g (x + 1) - g x) B 0 := fun x => by
    have := dB x
    show g (x + B + 1) - g (x + B) = g (x + 1) - g x + 0
    omega
  -- the rises of h come round by B
  have hB' : ∀ x, h (x + B + 1) - h (x + B) = h (x + 1) - h x := fun x => by
    obtain ⟨r, c, hr, e⟩ := split_x A0 (x - lo)
    have ex : x = lo + r + c * A := by omega
    have e1 : h (x + B + 1) - h (x + B) = h (lo + r + B + 1) - h (lo + r + B) := by
      have := per_int hper c (lo + r + B)
      rw [show lo + (r : Int) + B + c * A = x + B by omega] at this
      omega
    have e2 : h (x + 1) - h x = h (lo + r + 1) - h (lo + r) := by
      have := per_int hper c (lo + r)
      rw [← ex] at this
      omega
    have w1 := w (lo + r + B + 1) (by omega) (by omega)
    have w2 := w (lo + r + B) (by omega) (by omega)
    have w3 := w (lo + r + 1) (by omega) (by omega)
    have w4 := w (lo + r) (by omega) (by omega)
    have := dB (lo + r)
    omega
  have hper' : per (fun x => h (x + 1) - h x) B 0 := fun x => by
    have := hB' x
    show h (x + B + 1) - h (x + B) = h (x + 1) - h x + 0
    omega
  -- so all rises are alike
  have same : ∀ x, h (x + 1) - h x = g (x + 1) - g x := fun x => by
    obtain ⟨r, c, hr, e⟩ := split_x B0 (x - lo)
    have ex : x = lo + r + c * B := by omega
    have a := per_int hper' c (lo + r)
    have b := per_int gper c (lo + r)
    rw [← ex] at a b
    have w3 := w (lo + r + 1) (by omega) (by omega)
    have w4 := w (lo + r) (by omega) (by omega)
    omega
  have up : ∀ n : Nat, h (lo + n) = g (lo + n) := fun n => by
    induction n with
    | zero => exact w _ (by omega) (by omega)
    | succ n ih =>
      have := same (lo + n)
      rw [show lo + ((n + 1 : Nat) : Int) = lo + n + 1 by omega]
      omega
  have dn : ∀ n : Nat, h (lo - n) = g (lo - n) := fun n => by
    induction n with
    | zero => exact w _ (by omega) (by omega)
    | succ n ih =>
      have := same (lo - (n + 1 : Nat))
      rw [show lo - ((n + 1 : Nat) : Int) + 1 = lo - n by omega] at this
      omega
  intro x
  rcases Int.le_total lo x with z | z
  · have := up (x - lo).toNat
    rw [show lo + (((x - lo).toNat : Nat) : Int) = x by omega] at this
    exact this
  · have := dn (lo - x).toNat
    rw [show lo - (((lo - x).toNat : Nat) : Int) = x by omega] at this
    exact this
/-- when one map behind another is a goal -/
theorem after_rate {f o g : Int → Int} {p a c : Nat} {q b d : Int} (hf : per f p q) (ho : per o a b) (hg : per g c d) (h : ∀ x, o (f x) = g x) : q * b * c = p * a * d := by
  -- both rise over p * a * c
  have e1 : g (0 + (p * a : Nat) * c) = g 0 + (p * a : Nat) * d := per_int hg _ 0
  have e2 : f (0 + (a * c : Nat) * p) = f 0 + (a * c : Nat) * q := per_int hf _ 0
  have e3 : o (f 0 + (c * q) * a) = o (f 0) + (c * q) * b := per_int ho _ _
  have h0 := h 0
  have h1 := h (0 + (a * c : Nat) * p)
  rw [e2] at h1
  have e4 : ((a * c : Nat) : Int) * q = (c * q) * a := by rw [Int.natCast_mul]; ac_rfl
  rw [e4, e3] at h1
  have e5 : (0 : Int) + (a * c : Nat) * p = 0 + (p * a : Nat) * c := by rw [Int.natCast_mul, Int.natCast_mul]; ac_rfl
  rw [e5, e1] at h1
  have e6 : ((p * a : Nat) : Int) * d = p * a * d := by rw [Int.natCast_mul]
  rw [e6] at h1
  have e7 : (c : Int) * q * b = q * b * c := by ac_rfl
  omega
end Mt
end

section
set_option Elab.async false
set_option linter.all false
set_option maxRecDepth 100000
set_option maxHeartbeats 1000000
namespace Pr
open PySem PySem.Spec PyProof.Rows L2 Ev Mt Pg
theorem strOk_from : ∀ (ts : List Str) (k : Nat) (acc : Str), PyData.strOk acc = true → (∀ t ∈ ts, PyData.strOk t = true) → PyData.strOk (textFrom k acc ts) = true
  | [], _, _, h, _ => h
  | t :: r, k, acc, h, ht => by
    show PyData.strOk (textFrom (k + 1) (acc ++ (if k > 0 then ", " else "" : String) ++ t) r) = true
    apply strOk_from r (k + 1) _ _ (fun t ht' => ht t (List.mem_cons_of_mem _ ht'))
    rw [strOk_app, strOk_app, h, ht t List.mem_cons_self]
    split
    · rw [show PyData.strOk ((", " : String) : Str) = true from strOk_of ", "]; rfl
    · rw [show PyData.strOk (("" : String) : Str) = true from strOk_of ""]; rfl
theorem strOk_list (ts : List Str) (ht : ∀ t ∈ ts, PyData.strOk t = true) : PyData.strOk (listText ts) = true := by
  show PyData.strOk (textFrom 0 "[" ts ++ "]") = true
  rw [strOk_app, strOk_from ts 0 "[" (strOk_of "[") ht, show PyData.strOk (("]" : String) : Str) = true from strOk_of "]"]
  rfl
theorem Sh.lstA {ps : List PyData} {n d : Nat} (h : ∀ p ∈ ps, Sh p n d) : Sh (.list ps) (ps.length * (n + 2) + 3) (d + 1) :=
  Sh.lst h (strOk_list _ (all_lay ps h).2.2.2.2.2)
/-- what has a repr, of a length and a depth -/
def Hp (d : D) (n k : Nat) : Prop := ∃ p, toPy d = some p ∧ Sh p n k
theorem Hp.up {d : D} {n k n' k' : Nat} (h : Hp d n k) (h1 : n ≤ n') (h2 : k ≤ k') : Hp d n' k' := by
  obtain ⟨p, a, b⟩ := h
  exact ⟨p, a, b.up h1 h2⟩
theorem Hp.int {i : Int} (h : i.natAbs < 1000000000000) : Hp (.int i) 13 0 := ⟨_, rfl, Sh.int h⟩
theorem Hp.non : Hp .non 13 0 := ⟨_, rfl, rfl, rfl, Nat.le_refl _, by decide +kernel, by decide +kernel⟩
theorem Hp.bl (b : Bool) : Hp (.bl b) 13 0 := ⟨_, rfl, rfl, rfl, Nat.le_refl _, by cases b <;> decide +kernel, by cases b <;> decide +kernel⟩
theorem Hp.q : Hp (.str "?") 13 0 := ⟨_, rfl, rfl, strOk_of _, Nat.le_refl _, by decide +kernel, by decide +kernel⟩
theorem hps {n k : Nat} : ∀ ds : List D, (∀ d ∈ ds, Hp d n k) → ∃ ps, toPys ds = some ps ∧ ps.length = ds.length ∧ ∀ p ∈ ps, Sh p n k
  | [], _ => ⟨[], rfl, rfl, fun p h => by simp at h⟩
  | d :: r, h => by
    obtain ⟨p, e, s⟩ := h d List.mem_cons_self
    obtain ⟨ps, e2, l, s2⟩ := hps r (fun q hq => h q (List.mem_cons_of_mem _ hq))
    refine ⟨p :: ps, ?_, by rw [List.length_cons, List.length_cons, l], fun q hq => ?_⟩
    · unfold toPys
      rw [e, e2]
    · rcases List.mem_cons.mp hq with rfl | hq
      · exact s
      · exact s2 q hq
theorem Hp.tup {ds : List D} {n k : Nat} (h : ∀ d ∈ ds, Hp d n k) : Hp (.tup ds) (ds.length * (n + 2) + 3) (k + 1) := by
  obtain ⟨ps, e, l, s⟩ := hps ds h
  refine ⟨.tuple ps, ?_, ?_⟩
  · show (toPys ds).map PyData.tuple = _
    rw [e]
    rfl
  · rw [← l]
    exact Sh.tup s
theorem Hp.lst {ds : List D} {n k : Nat} (h : ∀ d ∈ ds, Hp d n k) : Hp (.lst ds) (ds.length * (n + 2) + 3) (k + 1) := by
  obtain ⟨ps, e, l, s⟩ := hps ds h
  refine ⟨.list ps, ?_, ?_⟩
  · show (toPys ds).map PyData.list = _
    rw [e]
    rfl
  · rw [← l]
    exact Sh.lstA s
theorem Hp.rep {d : D} {n k : Nat} (h : Hp d n k) (hn : n ≤ 10000000) (hk : k ≤ 60) : ∃ s, Rep d s := by
  obtain ⟨p, a, b⟩ := h
  exact rep_of a b hn hk
theorem rep_dic0 : ∃ s, Rep (.dic [] []) s := by
  have hq : SeqAt.shaped (.str (PyData.shown (.dict []))) = true := by decide +kernel
  exact ⟨PyData.shown (.dict []), rfl, neD_self (p := .str (PyData.shown (.dict []))) rfl hq, eqD_self (d := .str (PyData.shown (.dict []))) (p := .str (PyData.shown (.dict []))) rfl hq⟩
theorem Hp.ints {us : List Int} {k : Nat} (h : ∀ z ∈ us, z.natAbs < 1000000000000) (hl : us.length ≤ k) : Hp (.tup (us.map .int)) (k * 15 + 3) 1 := by
  have z : Hp (.tup (us.map .int)) ((us.map D.int).length * (13 + 2) + 3) (0 + 1) := Hp.tup fun d hd => by
    obtain ⟨i, hi, rfl⟩ := List.mem_map.mp hd
    exact Hp.int (h i hi)
  rw [List.length_map] at z
  exact z.up (by omega) (Nat.le_refl _)
theorem Hp.intsL {us : List Int} {k : Nat} (h : ∀ z ∈ us, z.natAbs < 1000000000000) (hl : us.length ≤ k) : Hp (.lst (us.map .int)) (k * 15 + 3) 1 := by
  have z : Hp (.lst (us.map .int)) ((us.map D.int).length * (13 + 2) + 3) (0 + 1) := Hp.lst fun d hd => by
    obtain ⟨i, hi, rfl⟩ := List.mem_map.mp hd
    exact Hp.int (h i hi)
  rw [List.length_map] at z
  exact z.up (by omega) (Nat.le_refl _)
end Pr
end

section
set_option Elab.async false
set_option linter.all false
set_option maxRecDepth 100000
set_option maxHeartbeats 4000000
namespace Pf
open PySem PySem.Spec PyProof.Rows L2 Ev Mt Pg Pr
abbrev Cn (n : Nat) : Fns := fnsAt La.con (tabOf La.ds) (catsOf La.cs) n
theorem con_n (n i : Nat) : (Cn n).con i = La.con i := by show (fnsAt _ _ _ n).con i = _; rw [fnsAt_con]
theorem stp {C : Fns} {a b : S} {ρ ρ1 : Ev.Env} {μ μ1 : Mu} {r : Ev.R Fl} (h : evS C a ρ μ = .ok (.nx ρ1) μ1) (k : evS C b ρ1 μ1 = r) : evS C (.seq a b) ρ μ = r := by
  rw [vS_seq, h]
  exact k
theorem stpR {C : Fns} {a b : S} {ρ : Ev.Env} {μ μ1 : Mu} {d : D} (h : evS C a ρ μ = .ok (.rt d) μ1) : evS C (.seq a b) ρ μ = .ok (.rt d) μ1 := by
  rw [vS_seq, h]
  rfl
theorem stpX {C : Fns} {a b : S} {ρ : Ev.Env} {μ μ1 : Mu} {e : Exn} (h : evS C a ρ μ = .ex e μ1) : evS C (.seq a b) ρ μ = .ex e μ1 := by
  rw [vS_seq, h]
  rfl
theorem fn_rt {C : Fns} {s : S} {ρ : Ev.Env} {μ μ1 : Mu} {d : D} (h : evS C s ρ μ = .ok (.rt d) μ1) : fnR (evS C s ρ μ) = .ok d μ1 := by
  rw [h]
  rfl
theorem fn_ex {C : Fns} {s : S} {ρ : Ev.Env} {μ μ1 : Mu} {e : Exn} (h : evS C s ρ μ = .ex e μ1) : fnR (evS C s ρ μ) = .ex e μ1 := by
  rw [h]
  rfl
section
variable {n : Nat}
theorem hInt (hn : 1 ≤ n) : HInt (Cn n) 0 := fun x μ h => by rw [call_ge (d := La.d0) hn rfl rfl]; exact isInt_run x h
theorem hIn (hn : 2 ≤ n) : HIn (Cn n) 1 := fun x a b μ h => by rw [call_ge (d := La.d1) (by omega) rfl rfl]; exact within_run (hInt (by omega)) x a b h
theorem hInts (hn : 2 ≤ n) : HInts (Cn n) 2 := fun x μ h => by rw [call_ge (d := La.d2) (by omega) rfl rfl]; exact isInts_run (hInt (by omega)) x h
theorem hChI (hn : 2 ≤ n) (x : D) (μ : Mu) (h : okD x = true) : (Cn n).call 3 [x] μ = if isIntD x = true then .ok .non μ else .ex ⟨3, none⟩ μ := by
  rw [call_ge (d := La.d3) (by omega) rfl rfl]; exact ck_run (hInt (by omega) x μ h)
theorem hDiv (hn : 1 ≤ n) : HDiv (Cn n) 5 := fun a b μ h => by rw [call_ge (d := La.d5) hn rfl rfl]; exact div_run a b h
theorem hDivI (hn : 1 ≤ n) : HDivI (Cn n) 5 := fun a b μ h0 h => by rw [call_ge (d := La.d5) hn rfl rfl]; exact div_runI a b h0 h
theorem hMap (hn : 3 ≤ n) (x : D) (μ : Mu) (h : okM x = true) : (Cn n).call 6 [x] μ = .ok (.bl (isMapD x)) μ := by
  rw [call_ge (d := La.d6) (by omega) rfl rfl]; exact isMap_run (hInt (by omega)) (hIn (by omega)) (hInts (by omega)) (con_n _ 0) x h
theorem hChM (hn : 4 ≤ n) (x : D) (μ : Mu) (h : okM x = true) : (Cn n).call 7 [x] μ = if isMapD x = true then .ok .non μ else .ex ⟨2, none⟩ μ := by
  rw [call_ge (d := La.d7) (by omega) rfl rfl]; exact ck_run (hMap (by omega) x μ h)
theorem hVal (hn : 1 ≤ n) : HVal (Cn n) 8 := fun o x μ => by rw [call_ge (d := La.d8) hn rfl rfl]; exact value_run o x
theorem hHas (hn : 1 ≤ n) : HHas (Cn n) 10 := fun o s μ h0 h1 => by rw [call_ge (d := La.d10) hn rfl rfl]; exact hasP_run o s h0 h1
theorem hNorm (hn : 2 ≤ n) : HNorm (Cn n) 11 := fun o μ => by rw [call_ge (d := La.d11) (by omega) rfl rfl]; exact norm_run (hHas (by omega)) o
theorem hChP (hn : 1 ≤ n) : HChP (Cn n) 13 := fun p μ => by rw [call_ge (d := La.d13) hn rfl rfl]; exact chP_run (con_n _ 0) p
theorem hPok (hn : 1 ≤ n) : HPok (Cn n) 13 := fun p μ h => by rw [hChP hn, if_neg (by omega)]
theorem hBeh (hn : 3 ≤ n) {f g : Int → Int} {P P' : Nat} {Q Q' : Int} {t t' : List Int} (r : Rp f P Q t) (r' : Rp g P' Q' t') (h1 : P ≤ 2000) (h1' : P' ≤ 2000) (hq : 0 ≤ Q) (hq2 : Q ≤ 100000000) (hq' : 0 ≤ Q') (hq2' : Q' ≤ 100000000) (hL : P * partN P' Q ≤ 2000) (μ : Mu) :
    (Cn n).call 14 [mD P Q t, mD P' Q' t'] μ = .ok (nD (nrm (P * partN P' Q) (Q * (partN P' Q : Int) / P' * Q') (tab (fun x => g (f x)) (P * partN P' Q)))) μ := by
  rw [call_ge (d := La.d14) (by omega) rfl rfl]; exact beh_run (hDiv (by omega)) (hPok (by omega)) (hNorm (by omega)) (hVal (by omega)) r r' h1 h1' hq hq2 hq' hq2' hL
theorem hDr (hn : 1 ≤ n) : HDr (Cn n) 24 := fun h h0 h1 => by
  rw [call_ge (d := La.d24) hn rfl rfl]; exact draw_run (ca := 40692) (cc := 409) (cm := 48271) (by decide) (by decide) h h0 h1
theorem hAny (hn : 2 ≤ n) {xs : List D} {μ : Mu} (h : HandG μ) (hm : 0 < xs.length) (hm2 : xs.length < 1000000) : ∃ v ∈ xs, ∃ μ', (Cn n).call 25 [.cell 0, .lst xs] μ = .ok v μ' ∧ HandG μ' := by
  rw [call_ge (d := La.d25) (by omega) rfl rfl]; exact any_run (hDr (by omega)) h hm hm2
theorem hLVal (hn : 1 ≤ n) : HVal (Cn n) 27 := fun o x μ => by rw [call_ge (d := La.d27) hn rfl rfl]; exact lvalue_run o x
theorem hLCom (hn : 1 ≤ n) (a b : Nat) (μ : Mu) (h : b < 1000000000000) : (Cn n).call 28 [.int a, .int b] μ = .ok (.int (Nat.gcd a b : Nat)) μ := by rw [call_ge (d := La.d28) hn rfl rfl]; exact lcom_run a b h
theorem s24 {C : Fns} {μ : Mu} {x : D} {s : Str} (h : Rep x s) : fnR (evS C La.b26 [.sh x, .sh x] μ) = .ok (.bl true) μ := by
  simp [La.b26, h.e, h.eq]
theorem same (hn : 1 ≤ n) {x : D} (h : ∃ s, Rep x s) (μ : Mu) : (Cn n).call 26 [x, x] μ = .ok (.bl true) μ := by
  obtain ⟨s, h⟩ := h
  rw [call_ge (d := La.d26) (by omega) rfl rfl]; exact s24 h
end
structure Tm (f : Int → Int) (bp : Nat) (bq : Int) (P : Nat) (Q : Int) (t : List Int) : Prop where
  m : Mp f P Q t
  q : Q ≤ 100000000
  n : Nm f bp bq (nrm P Q t)
theorem mp_nm {h : Int → Int} {bp : Nat} {bq : Int} {r : Nat × Int × List Int} (N : Nm h bp bq r) (mo : Mono h) (hb : bp ≤ 2000) : Mp h r.1 r.2.1 r.2.2 := ⟨N.rp, by have := N.hp; omega, N.hq.1, mo⟩
theorem Tm.nm {h : Int → Int} {bp : Nat} {bq : Int} {r : Nat × Int × List Int} (N : Nm h bp bq r) (mo : Mono h) (hb : bp ≤ 2000) (hq : bq ≤ 100000000) : Tm h bp bq r.1 r.2.1 r.2.2 where
  m := mp_nm N mo hb
  q := Int.le_trans N.hq.2 hq
  n := ⟨⟨_, _, _, N.rp, rfl⟩, Nat.le_trans N.rp.nrm_le N.hp, (N.rp.rise N.hq.1).1, Int.le_trans (N.rp.rise N.hq.1).2 N.hq.2⟩
section
variable {n : Nat} {f g : Int → Int} {P P' bp cp : Nat} {Q Q' bq cq : Int} {t t' : List Int} {μ : Mu}
theorem chM (hn : 4 ≤ n) (m : Mp f P Q t) (μ : Mu) : (Cn n).call 7 [mD P Q t] μ = .ok .non μ := by rw [hChM hn _ μ m.okM, m.isMap, if_pos rfl]
theorem chMx (hn : 4 ≤ n) (x : D) (h : okM x = true ∧ isMapD x = false) (μ : Mu) : (Cn n).call 7 [x] μ = .ex ⟨2, none⟩ μ := by
  rw [hChM hn x μ h.1, if_neg (by simp [h.2])]
theorem cNorm (hn : 2 ≤ n) (m : Mp f P Q t) (hq : Q < 1000000000000000000) (μ : Mu) : (Cn n).call 11 [mD P Q t] μ = .ok (nD (nrm P Q t)) μ := hNorm hn (m.ok3 hq) μ
theorem lv (hn : 1 ≤ n) (m : Mp f P Q t) (hq : Q ≤ 1000000000) (x : Int) (μ : Mu) : (Cn n).call 27 [mD P Q t, .int x] μ = .ok (.int (f x)) μ := by
  have := hLVal (n := n) hn (m.ok3 (by omega)) x μ
  rw [m.v] at this
  exact this
theorem pv (hn : 1 ≤ n) (m : Mp f P Q t) (hq : Q ≤ 1000000000) (x : Int) (μ : Mu) : (Cn n).call 8 [mD P Q t, .int x] μ = .ok (.int (f x)) μ := by
  have := hVal (n := n) hn (m.ok3 (by omega)) x μ
  rw [m.v] at this
  exact this
theorem s10 {C : Fns} (a v : D) (x : Int) (h1 : C.call 7 [a] μ = .ok .non μ) (h2 : C.call 3 [.int x] μ = .ok .non μ) (h3 : C.call 8 [a, .int x] μ = .ok v μ) : fnR (evS C La.b9 [.sh a, .sh (.int x)] μ) = .ok v μ := by simp [La.b9, h1, h2, h3]
theorem c10 (hn : 5 ≤ n) (m : Mp f P Q t) (hq : Q ≤ 1000000000) (x : Int) (μ : Mu) : (Cn n).call 9 [mD P Q t, .int x] μ = .ok (.int (f x)) μ := by
  rw [call_ge (d := La.d9) (by omega) rfl rfl]
  exact s10 _ _ x (chM (by omega) m μ) (by rw [hChI (by omega) _ μ rfl, if_pos (show isIntD (.int x) = true from rfl)]) (pv (by omega) m hq x μ)
theorem s13 {C : Fns} (a v : D) (h1 : C.call 7 [a] μ = .ok .non μ) (h3 : C.call 11 [a] μ = .ok v μ) : fnR (evS C La.b12 [.sh a] μ) = .ok v μ := by simp [La.b12, h1, h3]
theorem c13 (hn : 5 ≤ n) (m : Mp f P Q t) (hq : Q ≤ 1000000000) (μ : Mu) : (Cn n).call 12 [mD P Q t] μ = .ok (nD (nrm P Q t)) μ := by
  rw [call_ge (d := La.d12) (by omega) rfl rfl]
  exact s13 _ _ (chM (by omega) m μ) (cNorm (by omega) m (by omega) μ)
theorem s17 {C : Fns} (a b x y : D) (r : Ev.R D) (h1 : C.call 7 [a] μ = .ok .non μ) (h2 : C.call 7 [b] μ = .ok .non μ) (h3 : C.call 11 [a] μ = .ok x μ) (h4 : C.call 11 [b] μ = .ok y μ) (h5 : C.call 14 [x, y] μ = r) (hr : (∃ d, r = .ok d μ) ∨ ∃ e, r = .ex e μ) : fnR (evS C La.b15 [.sh a, .sh b] μ) = r := by
  rcases hr with ⟨d, rfl⟩ | ⟨e, rfl⟩ <;> simp [La.b15, h1, h2, h3, h4, h5]
theorem c17 (hn : 5 ≤ n) (a : Tm f bp bq P Q t) (b : Tm g cp cq P' Q' t') (hL : bp * cp ≤ 2000) (hb : bq ≤ 10000) (hc : cq ≤ 10000) (μ : Mu) : ∃ r, (Cn n).call 15 [mD P Q t, mD P' Q' t'] μ = .ok (nD r) μ ∧ Nm (fun x => g (f x)) (bp * cp) (bq * cq) r := by
  have M := a.m.nrm
  have M' := b.m.nrm
  have aq := a.q
  have bq' := b.q
  have a1 := a.n.hp
  have a2 := a.n.hq
  have b1 := b.n.hp
  have b2 := b.n.hq
  have k1 := partN_le (k := (nrm P' Q' t').1) (nrm P Q t).2.1
  have k2 : (nrm P Q t).1 * partN (nrm P' Q' t').1 (nrm P Q t).2.1 ≤ bp * cp := Nat.mul_le_mul a1 (Nat.le_trans (k1) b1)
  have r := comp_rise (Q := (nrm P Q t).2.1) (Q' := (nrm P' Q' t').2.1) M'.p0 M.q0 M'.q0
  have r3 : (nrm P Q t).2.1 * (nrm P' Q' t').2.1 ≤ bq * cq := Int.mul_le_mul a2.2 b2.2 b2.1 (Int.le_trans a2.1 a2.2)
  have e := hBeh (n := n - 1) (by omega) M.toRp M'.toRp M.p1 M'.p1 M.q0 (by omega) M'.q0 (by omega) (by omega) μ
  refine ⟨_, ?_, Nm.of (Rp.tab (Nat.mul_pos M.p0 (partN_pos M'.p0 _)) (comp_per M'.p0 M.q0 M.toRp.per M'.toRp.per)) k2 ⟨r.1, Int.le_trans r.2 r3⟩⟩
  rw [call_ge (d := La.d15) (by omega) rfl rfl]
  exact s17 _ _ _ _ _ (chM (by omega) a.m μ) (chM (by omega) b.m μ) (cNorm (by omega) a.m (by omega) μ) (cNorm (by omega) b.m (by omega) μ) e (.inl ⟨_, rfl⟩)
end
end Pf
end

section
set_option Elab.async false
set_option linter.all false
set_option maxRecDepth 100000
set_option maxHeartbeats 4000000
namespace Pf
open PySem PySem.Spec PyProof.Rows L2 Ev Mt Pg Pr
def xbC : E := (.and (.cmp .eq (.bin .mod (.bi .int (.cons (.var 2) .nil)) (.var 1)) (.int 0)) (.and1 (.cmp .eq (.bin .mod (.bi .int (.cons (.bin .mul (.var 3) (.var 1)) .nil)) (.var 2)) (.int 0))))
def xbM : S := (.asg false (.name 5) (.bin .fdiv (.bin .mul (.var 3) (.var 1)) (.var 2)))
def xbE : E := (.cmp .eq (.call 27 (.cons (.var 0) (.cons (.bin .add (.var 6) (.var 1)) .nil))) (.bin .add (.idx (.var 4) (.var 6)) (.var 5)))
def xbL : E := (.comp (.name 6) (.rng (.cons (.var 2) .nil)) xbE .nil)
def xbR : S := (.cond (.bi .all (.cons xbL .nil)) (.seq (.ret (.tup (.cons (.var 1) (.cons (.var 5) (.cons (.sl (.var 4) .nil (.var 1)) .nil))))) .skip) .skip)
def xbB : S := (.seq (.cond xbC (.seq xbM (.seq xbR .skip)) .skip) .skip)
def xb1 : S := (.asg false (.tup (.cons (.name 2) (.cons (.name 3) (.cons (.name 4) .nil)))) (.var 0))
def xb2 : S := (.for_ (.name 1) (.rng (.cons (.int 1) (.cons (.bin .add (.var 2) (.int 1)) .nil))) xbB)
def xbA : S := (.seq xb1 (.seq xb2 (.seq (.ret (.var 0)) .skip)))
theorem b29_eq : La.b29 = xbA := rfl
abbrev env27 (st : D) (s1 : Ev.Slot) (p q : Int) (T : List D) (s5 s6 : Ev.Slot) : Ev.Env := [.sh st, s1, .sh (.int p), .sh (.int q), .sh (.tup T), s5, s6]
theorem hpA {P : Nat} {Q : Int} {t : List Int} {a : Nat} (h0 : 0 < P) (ha : 0 < a) (hd : a ∣ P) : (List.range P).all (fun i => decide (vl P Q t ((i : Nat) + (a : Nat)) = t.getD i 0 + Q * a / P)) = hpB P Q t a := by
  rw [Bool.eq_iff_iff, List.all_eq_true]
  constructor
  · intro h
    have : per (vl P Q t) a (Q * a / P) := fun x => by
      obtain ⟨r, b, hr, rfl⟩ := split_x h0 x
      have e := of_decide_eq_true (h r (List.mem_range.mpr hr))
      rw [vl_at r b hr, Int.add_right_comm, per_int (vl_per h0 Q t) b, e, Int.add_right_comm]
    exact (per_hp ha hd h0 this).1
  · intro h i hi
    apply decide_eq_true
    rw [hp_per ha hd h0 h, vl_small (List.mem_range.mp hi)]
section
variable {C : Fns} {μ : Mu} {st : D} {s1 s5 s6 : Ev.Slot} {T : List D}
theorem xb_c (p q a r1 m r2 : Int) (h1 : binD .mod (.int p) (.int a) = some (.int r1)) (h2 : binD .mul (.int q) (.int a) = some (.int m)) (h3 : binD .mod (.int m) (.int p) = some (.int r2)) : evE C xbC (env27 st (.sh (.int a)) p q T s5 s6) μ = .ok (.bl (decide (r1 = 0) && decide (r2 = 0))) μ := by
  by_cases k : r1 = 0 <;> simp [xbC, h1, h2, h3, biD_int, cmpD_eqI, k]
theorem xb_no (p q a : Int) (h : evE C xbC (env27 st (.sh (.int a)) p q T s5 s6) μ = .ok (.bl false) μ) : evS C xbB (env27 st (.sh (.int a)) p q T s5 s6) μ = .ok (.nx (env27 st (.sh (.int a)) p q T s5 s6)) μ := by
  simp only [xbB, vS_seq, vS_cond, h]
  rfl
theorem xb_m (p q a m R : Int) (h2 : binD .mul (.int q) (.int a) = some (.int m)) (h3 : binD .fdiv (.int m) (.int p) = some (.int R)) : evS C xbM (env27 st (.sh (.int a)) p q T s5 s6) μ = .ok (.nx (env27 st (.sh (.int a)) p q T (.sh (.int R)) s6)) μ := by
  simp [xbM, h2, h3, newSlot]
theorem xb_e (p q a R x v w : Int) (h1 : C.call 27 [st, .int (x + a)] μ = .ok (.int v) μ) (h2 : ixM μ (.tup T) (.int x) = some (.int w)) : evE C xbE (env27 st (.sh (.int a)) p q T (.sh (.int R)) (.sh (.int x))) μ = .ok (.bl (decide (v = w + R))) μ := by
  simp [xbE, h1, h2, binD_add, cmpD_eqI]
theorem xb_r (p q a R : Int) (L : List D) (k : Bool) (V : List D) (h1 : evE C xbL (env27 st (.sh (.int a)) p q T (.sh (.int R)) s6) μ = .ok (.lst L) μ) (h2 : biD .all [.lst L] = some (.bl k)) (h3 : slD (.tup T) none (some a) = some (.tup V)) : evS C xbR (env27 st (.sh (.int a)) p q T (.sh (.int R)) s6) μ = if k = true then .ok (.rt (.tup [.int a, .int R, .tup V])) μ else .ok (.nx (env27 st (.sh (.int a)) p q T (.sh (.int R)) s6)) μ := by
  cases k <;> simp [xbR, h1, h2, h3, partE]
theorem xb_yes (p q a R : Int) (k : Bool) (V : List D) (hc : evE C xbC (env27 st (.sh (.int a)) p q T s5 s6) μ = .ok (.bl true) μ) (hm : evS C xbM (env27 st (.sh (.int a)) p q T s5 s6) μ = .ok (.nx (env27 st (.sh (.int a)) p q T (.sh (.int R)) s6)) μ)
    (hr : evS C xbR (env27 st (.sh (.int a)) p q T (.sh (.int R)) s6) μ = if k = true then .ok (.rt (.tup [.int a, .int R, .tup V])) μ else .ok (.nx (env27 st (.sh (.int a)) p q T (.sh (.int R)) s6)) μ) :
    evS C xbB (env27 st (.sh (.int a)) p q T s5 s6) μ = if k = true then .ok (.rt (.tup [.int a, .int R, .tup V])) μ else .ok (.nx (env27 st (.sh (.int a)) p q T (.sh (.int R)) s6)) μ := by
  have e : evS C xbB (env27 st (.sh (.int a)) p q T s5 s6) μ = ((evS C (.seq xbM (.seq xbR .skip)) (env27 st (.sh (.int a)) p q T s5 s6) μ).thn fun ρ μ => .ok (.nx ρ) μ) := by
    unfold xbB
    rw [vS_seq, vS_cond, hc]
    rfl
  rw [e]
  cases k with
  | true => rw [stp hm (stpR hr)]; rfl
  | false => rw [stp hm (stp hr rfl)]; rfl
end
section
variable {C : Fns} {μ : Mu}
theorem xb_turn (hv : HVal C 27) {P : Nat} {Q : Int} {t : List Int} (o : Ok3 P Q t) (a : Nat) (ha : 0 < a) (haP : a ≤ P) (s5 : Ev.Slot) : ∃ s5', evS C xbB (env27 (mD P Q t) (.sh (.int a)) P Q (t.map .int) s5 .un) μ =
    if (decide (P % a = 0) && hpB P Q t a) = true then .ok (.rt (nD (a, Q * a / P, t.take a))) μ else .ok (.nx (env27 (mD P Q t) (.sh (.int a)) P Q (t.map .int) s5' .un)) μ := by
  have p0 := o.p0
  have p1 := o.p1
  have c := xb_c (C := C) (μ := μ) (st := mD P Q t) (T := t.map .int) (s5 := s5) (s6 := .un) P Q a _ _ _ (binD_mod (P : Int) (a : Int) (by omega)) (binD_mul Q a (mulOk_l (q64 o.q))) (binD_mod (Q * a) (P : Int) (by omega))
  have emod : ((P : Int) % (a : Int) = 0) ↔ P % a = 0 := by omega
  by_cases h1 : P % a = 0
  · rw [decide_eq_true (emod.mpr h1), Bool.true_and] at c
    rw [decide_eq_true h1, Bool.true_and]
    by_cases h2 : Q * a % P = 0
    · rw [decide_eq_true h2] at c
      have m := xb_m (C := C) (μ := μ) (st := mD P Q t) (T := t.map .int) (s5 := s5) (s6 := .un) P Q a _ _ (binD_mul Q a (mulOk_l (q64 o.q))) (binD_fdiv (Q * a) (P : Int) (by omega) (log2_nat o.p0 (Nat.le_trans o.p1 (by decide))))
      have l := comp_rngD (C := C) (μ := μ) (ρ := env27 (mD P Q t) (.sh (.int a)) P Q (t.map .int) (.sh (.int (Q * a / P))) .un) (it := .rng (.cons (.var 2) .nil)) (elt := xbE) (n := P) (k := 6) (h := fun i => .bl (decide (vl P Q t ((i : Nat) + (a : Nat)) = t.getD i 0 + Q * a / P)))
        (rng1_ok rfl (by omega) (by omega)) (fun _ => rfl) (by omega) (fun i => env27 (mD P Q t) (.sh (.int a)) P Q (t.map .int) (.sh (.int (Q * a / P))) (.sh (.int (i : Nat)))) (fun _ => rfl)
        (fun i hi => xb_e _ _ _ _ _ _ _ (hv o _ μ) (by rw [ixM_tup]; exact ixT_nat t i (by have := o.l; omega)))
      have r := xb_r (C := C) (μ := μ) (st := mD P Q t) (T := t.map .int) (s6 := .un) P Q a (Q * a / P) _ _ _ l (all_range P _) (slD_to _ a)
      have z := xb_yes _ _ _ _ _ _ c m r
      rw [hpA p0 ha (Nat.dvd_of_mod_eq_zero h1)] at z
      refine ⟨.sh (.int (Q * a / P)), z.trans ?_⟩
      rw [← List.map_take]
      rfl
    · rw [decide_eq_false h2] at c
      have hf : hpB P Q t a = false := by simp [hpB, h2]
      rw [hf]
      exact ⟨_, xb_no _ _ _ c⟩
  · rw [decide_eq_false (fun h => h1 (emod.mp h)), Bool.false_and] at c
    rw [decide_eq_false h1, Bool.false_and]
    exact ⟨_, xb_no _ _ _ c⟩
theorem xb_loop (hv : HVal C 27) {P : Nat} {Q : Int} {t : List Int} (o : Ok3 P Q t) : ∀ (k a : Nat) (s1 s5 : Ev.Slot), 0 < a → a + k = P →
    forL (fun d ρ μ => (R.of (setTg (.name 1) d ρ) μ).bind fun ρ μ => evS C xbB ρ μ) ((List.range' a (k + 1)).map fun i => .int ((i : Nat) : Int)) (env27 (mD P Q t) s1 P Q (t.map .int) s5 .un) μ = .ok (.rt (nD (nrmF P Q t (List.range' a k)))) μ
  | 0, a, s1, s5, ha, hk => by
    obtain ⟨s5', e⟩ := xb_turn (μ := μ) hv o a ha (by omega) s5
    have hP : a = P := by omega
    subst hP
    rw [List.range'_succ, List.map_cons]
    unfold forL
    have st : (R.of (setTg (.name 1) (.int (a : Nat)) (env27 (mD a Q t) s1 a Q (t.map .int) s5 .un)) μ).bind (fun ρ μ => evS C xbB ρ μ) = evS C xbB (env27 (mD a Q t) (.sh (.int a)) a Q (t.map .int) s5 .un) μ := rfl
    rw [st, e, if_pos (by rw [hpB_all]; simp)]
    have p0 : (a : Int) ≠ 0 := by omega
    show Ev.R.ok (Fl.rt (nD (a, Q * a / a, t.take a))) μ = Ev.R.ok (Fl.rt (nD (a, Q, t))) μ
    rw [Int.mul_ediv_cancel _ p0, List.take_of_length_le (by rw [o.l]; omega)]
  | k + 1, a, s1, s5, ha, hk => by
    obtain ⟨s5', e⟩ := xb_turn (μ := μ) hv o a ha (by omega) s5
    have ih := xb_loop hv o k (a + 1) (.sh (.int a)) s5' (by omega) (by omega)
    rw [List.range'_succ, List.map_cons]
    unfold forL
    have st : (R.of (setTg (.name 1) (.int (a : Nat)) (env27 (mD P Q t) s1 P Q (t.map .int) s5 .un)) μ).bind (fun ρ μ => evS C xbB ρ μ) = evS C xbB (env27 (mD P Q t) (.sh (.int a)) P Q (t.map .int) s5 .un) μ := rfl
    rw [st, e]
    by_cases h3 : (decide (P % a = 0) && hpB P Q t a) = true
    · rw [if_pos h3]
      dsimp only
      rw [List.range'_succ]
      unfold nrmF
      rw [if_pos h3]
    · rw [if_neg h3]
      dsimp only
      rw [ih, List.range'_succ (s := a)]
      conv => rhs; unfold nrmF
      rw [if_neg h3]
theorem xb_run (hv : HVal C 27) {P : Nat} {Q : Int} {t : List Int} (o : Ok3 P Q t) : fnR (evS C xbA [.sh (mD P Q t), .un, .un, .un, .un, .un, .un] μ) = .ok (nD (nrm P Q t)) μ := by
  have p0 := o.p0
  have p1 := o.p1
  have e := xb_loop (μ := μ) hv o (P - 1) 1 .un .un (by decide) (by omega)
  have hx : itemsE (.rng (.cons (.int 1) (.cons (.bin .add (.var 2) (.int 1)) .nil))) (.rng 1 ((P : Int) + 1)) = some ((List.range' 1 (P - 1 + 1)).map fun i => .int ((i : Nat) : Int)) := by
    show some (rngL 1 ((P : Int) + 1)) = _
    unfold rngL
    congr 1
    have e : ((P : Int) + 1 - 1).toNat = P - 1 + 1 := by omega
    rw [e, List.range'_eq_map_range, List.map_map]
    apply List.map_congr_left
    intro i _
    simp
  have e' := for_ok (C := C) (μ := μ) (it := .rng (.cons (.int 1) (.cons (.bin .add (.var 2) (.int 1)) .nil))) (x := .rng 1 ((P : Int) + 1)) (ρ := env27 (mD P Q t) .un P Q (t.map .int) .un .un) (rng2_ok (by simp [binD_add]) (by decide) (by decide) (by omega) (by omega)) hx e
  have e1 : evS C xb1 [.sh (mD P Q t), .un, .un, .un, .un, .un, .un] μ = .ok (.nx (env27 (mD P Q t) .un P Q (t.map .int) .un .un)) μ := rfl
  unfold xbA
  exact fn_rt (stp e1 (stpR e'))
end
section
variable {n : Nat} {f g : Int → Int} {P P' : Nat} {Q Q' : Int} {t t' : List Int} {μ : Mu}
theorem lN (hn : 2 ≤ n) : HNorm (Cn n) 29 := fun o μ => by rw [call_ge (d := La.d29) (by omega) rfl rfl]; exact xb_run (hLVal (by omega)) o
theorem s28 {C : Fns} (p q r : D) (T : List D) (h : C.call 29 [.tup [p, q, .tup T]] μ = .ok r μ) : fnR (evS C La.b30 [.sh p, .sh q, .sh (.lst T)] μ) = .ok r μ := by simp [La.b30, biD_tupL, h]
theorem c28 (hn : 3 ≤ n) (o : Ok3 P Q t) (μ : Mu) : (Cn n).call 30 [.int P, .int Q, .lst (t.map .int)] μ = .ok (nD (nrm P Q t)) μ := by
  rw [call_ge (d := La.d30) (by omega) rfl rfl]
  exact s28 _ _ _ _ (lN (by omega) o μ)
end
end Pf
end

section
set_option Elab.async false
set_option linter.all false
set_option maxRecDepth 100000
set_option maxHeartbeats 4000000
namespace Pf
open PySem PySem.Spec PyProof.Rows L2 Ev Mt Pg Pr
def xm1 : S := (.asg false (.name 3) (.bin .add (.int 1) (.call 24 (.cons (.var 0) (.cons (.var 1) .nil)))))
def xm2 : S := (.asg false (.name 4) (.call 25 (.cons (.var 0) (.cons (.var 2) .nil))))
def xm3 : S := (.asg false (.name 4) (.ite (.cmp .is_ (.var 4) .non) (.var 3) (.var 4)))
def xm4 : S := (.asg false (.name 5) (.bin .sub (.call 24 (.cons (.var 0) (.cons (.int 21) .nil))) (.int 10)))
def xm5 : S := (.asg false (.name 6) (.bi .sorted (.cons (.comp (.name 7) (.rng (.cons (.var 3) .nil)) (.call 24 (.cons (.var 0) (.cons (.bin .add (.var 4) (.int 1)) .nil))) .nil) .nil)))
def xm6 : S := (.ret (.tup (.cons (.var 3) (.cons (.var 4) (.cons (.bi .tuple (.cons (.comp (.name 8) (.var 6) (.bin .add (.var 5) (.var 8)) .nil) .nil)) .nil)))))
def xmA : S := (.seq xm1 (.seq xm2 (.seq xm3 (.seq xm4 (.seq xm5 (.seq xm6 .skip))))))
def xe1 : S := (.asg false (.tup (.cons (.name 0) (.cons (.name 1) .nil))) (.tup (.cons (.call 29 (.cons (.var 0) .nil)) (.cons (.call 29 (.cons (.var 1) .nil)) .nil))))
def xe2 : S := (.asg false (.name 2) (.ite (.cmp .gt (.idx (.var 0) (.int 1)) (.int 0)) (.bin .fdiv (.idx (.var 1) (.int 0)) (.call 28 (.cons (.idx (.var 1) (.int 0)) (.cons (.idx (.var 0) (.int 1)) .nil)))) (.int 1)))
def xe3 : S := (.asg false (.name 3) (.bin .mul (.idx (.var 0) (.int 0)) (.var 2)))
def xe4 : S := (.cond (.cmp .gt (.var 3) (.int 2000)) (.seq (.ret (.tup (.cons .non (.cons (.var 3) .nil)))) .skip) .skip)
def xe5 : S := (.asg false (.name 4) (.comp (.name 6) (.rng (.cons (.var 3) .nil)) (.call 27 (.cons (.var 1) (.cons (.call 27 (.cons (.var 0) (.cons (.var 6) .nil))) .nil))) .nil))
def xe6 : S := (.asg false (.name 5) (.bin .fdiv (.bin .mul (.bin .mul (.idx (.var 0) (.int 1)) (.var 2)) (.idx (.var 1) (.int 1))) (.idx (.var 1) (.int 0))))
def xe7 : S := (.ret (.tup (.cons (.call 30 (.cons (.var 3) (.cons (.var 5) (.cons (.var 4) .nil)))) (.cons (.var 3) .nil))))
def xeA : S := (.seq xe1 (.seq xe2 (.seq xe3 (.seq xe4 (.seq xe5 (.seq xe6 (.seq xe7 .skip)))))))
theorem b31_eq : La.b31 = xmA := rfl
theorem b34_eq : La.b34 = xeA := rfl
abbrev env29 (m r : D) (s3 s4 s5 s6 : Ev.Slot) : Ev.Env := [.sh (.cell 0), .sh m, .sh r, s3, s4, s5, s6, .un, .un]
section
variable {C : Fns} {μ μ1 : Mu} {m r : D} {s3 s4 s5 s6 : Ev.Slot}
theorem xm1_ (v : Int) (h : C.call 24 [.cell 0, m] μ = .ok (.int v) μ1) : evS C xm1 (env29 m r s3 s4 s5 s6) μ = .ok (.nx (env29 m r (.sh (.int (1 + v))) s4 s5 s6)) μ1 := by simp [xm1, h, binD_add, newSlot]
theorem xm2_ (d : D) (h : C.call 25 [.cell 0, r] μ = .ok d μ1) : evS C xm2 (env29 m r s3 s4 s5 s6) μ = .ok (.nx (env29 m r s3 (.sh d) s5 s6)) μ1 := by simp [xm2, h, newSlot]
theorem xm3n (p : Int) : evS C xm3 (env29 m r (.sh (.int p)) (.sh .non) s5 s6) μ = .ok (.nx (env29 m r (.sh (.int p)) (.sh (.int p)) s5 s6)) μ := rfl
theorem xm3i (p z : Int) : evS C xm3 (env29 m r (.sh (.int p)) (.sh (.int z)) s5 s6) μ = .ok (.nx (env29 m r (.sh (.int p)) (.sh (.int z)) s5 s6)) μ := rfl
theorem xm4_ (v : Int) (h : C.call 24 [.cell 0, .int 21] μ = .ok (.int v) μ1) : evS C xm4 (env29 m r s3 s4 s5 s6) μ = .ok (.nx (env29 m r s3 s4 (.sh (.int (v - 10))) s6)) μ1 := by simp [xm4, h, binD_sub, newSlot]
def xmC : E := (.comp (.name 7) (.rng (.cons (.var 3) .nil)) (.call 24 (.cons (.var 0) (.cons (.bin .add (.var 4) (.int 1)) .nil))) .nil)
theorem xm5_ (L L' : List D) (e : evE C xmC (env29 m r s3 s4 s5 s6) μ = .ok (.lst L) μ1) (es : biD .sorted [.lst L] = some (.lst L')) : evS C xm5 (env29 m r s3 s4 s5 s6) μ = .ok (.nx (env29 m r s3 s4 s5 (.sh (.lst L')))) μ1 := by
  unfold xmC at e
  simp [xm5, e, es, newSlot]
def xmD : E := (.comp (.name 8) (.var 6) (.bin .add (.var 5) (.var 8)) .nil)
theorem xm6_ (p q : D) (L : List D) (e : evE C xmD (env29 m r (.sh p) (.sh q) s5 s6) μ = .ok (.lst L) μ) : evS C xm6 (env29 m r (.sh p) (.sh q) s5 s6) μ = .ok (.rt (.tup [p, q, .tup L])) μ := by
  unfold xmD at e
  simp [xm6, e, biD_tupL]
end
/-- a drawn map -/
structure Dr (P : Nat) (Q : Int) (t : List Int) : Prop where
  m : Mp (vl P Q t) P Q t
  p : P ≤ 6
  q : Q ≤ 7
  v : ∀ z ∈ t, -10 ≤ z ∧ z ≤ 17
section
variable {n : Nat} {f g : Int → Int} {P P' : Nat} {Q Q' : Int} {t t' : List Int} {μ : Mu}
theorem c29 (hn : 3 ≤ n) (most : Int) (m1 : 1 ≤ most) (m5 : most ≤ 6) (rs : List D) (hr : ∀ d ∈ rs, d = .non ∨ ∃ z : Int, d = .int z ∧ 0 ≤ z ∧ z ≤ 7) (r0 : 0 < rs.length) (r1 : rs.length < 1000000) (h : HandG μ) :
    ∃ P Q t μ', (Cn n).call 31 [.cell 0, .int most, .lst rs] μ = .ok (mD P Q t) μ' ∧ HandG μ' ∧ Dr P Q t ∧ (rs = [.non] → Q = (P : Int)) := by
  obtain ⟨k, hk⟩ : ∃ k, k = n - 1 := ⟨_, rfl⟩
  have hn' : 2 ≤ k := by omega
  rw [call_ge (d := La.d31) (by omega) rfl rfl, show La.d31.body = La.b31 from rfl, b31_eq, ← hk]
  have e0 : startE La.d31 [.cell 0, .int most, .lst rs] = env29 (.int most) (.lst rs) .un .un .un .un := rfl
  rw [e0]
  obtain ⟨a, μ1, d1, a0, a1, h1⟩ := hDr (n := k) (by omega) (many := most) h (by omega) (by omega)
  obtain ⟨d, hd, μ2, d2, h2⟩ := hAny (n := k) (by omega) (xs := rs) h1 r0 r1
  obtain ⟨P, hP⟩ : ∃ P : Nat, (P : Int) = 1 + a := ⟨(1 + a).toNat, by omega⟩
  have d1' := xm1_ (m := .int most) (r := .lst rs) (s3 := .un) (s4 := .un) (s5 := .un) (s6 := .un) a d1
  rw [← hP] at d1'
  have h3 : ∃ Q : Int, 0 ≤ Q ∧ Q ≤ 7 ∧ (rs = [.non] → Q = (P : Int)) ∧ evS (Cn k) xm3 (env29 (.int most) (.lst rs) (.sh (.int P)) (.sh d) .un .un) μ2 = .ok (.nx (env29 (.int most) (.lst rs) (.sh (.int P)) (.sh (.int Q)) .un .un)) μ2 := by
    rcases hr d hd with rfl | ⟨z, rfl, z0, z1⟩
    · exact ⟨P, by omega, by omega, fun _ => rfl, xm3n _⟩
    · exact ⟨z, z0, by omega, fun h => by (rw [h] at hd; simp at hd), xm3i _ _⟩
  obtain ⟨Q, q0, q5, qP, d3⟩ := h3
  obtain ⟨b, μ4, d4, b0, b1, h4⟩ := hDr (n := k) (by omega) (many := 21) h2 (by decide) (by decide)
  obtain ⟨ys, μ5, e5, h5, l5, v5⟩ := comp_wp (C := Cn k) (t := .name 7) (it := .rng (.cons (.var 3) .nil)) (elt := .call 24 (.cons (.var 0) (.cons (.bin .add (.var 4) (.int 1)) .nil))) (ρ := env29 (.int most) (.lst rs) (.sh (.int P)) (.sh (.int Q)) (.sh (.int (b - 10))) .un) (μ := μ4) (μ' := μ4) (x := .rng 0 (P : Int)) (ds := rngL 0 (P : Int)) HandG (fun y => ∃ i, y = .int i ∧ 0 ≤ i ∧ i ≤ Q)
    (rng1_ok rfl (by omega) (by omega)) rfl (by rw [rngL_nat]; simp [sizeLine]; omega) h4 (fun d hd μ hm => by
      obtain ⟨v, μ', e, v0, v1, hh⟩ := hDr (n := k) (by omega) (many := Q + 1) hm (by omega) (by omega)
      refine ⟨[.sh (.cell 0), .sh (.int most), .sh (.lst rs), .sh (.int P), .sh (.int Q), .sh (.int (b - 10)), .un, .sh d, .un], rfl, ?_⟩
      simp [e, binD_add, Wp, hh]
      omega)
  obtain ⟨xs, rfl, hx⟩ := allInts v5
  have hlen : xs.length = P := by
    rw [rngL_nat] at l5
    simpa using l5
  have hl : (sortI xs).length = P := by rw [sortI_len, hlen]
  have e6 := comp_lstI (C := Cn k) (μ := μ5) (ρ := env29 (.int most) (.lst rs) (.sh (.int P)) (.sh (.int Q)) (.sh (.int (b - 10))) (.sh (.lst ((sortI xs).map .int)))) (it := .var 6) (elt := .bin .add (.var 5) (.var 8)) (k := 8) (xs := sortI xs) (g := fun z => b - 10 + z) rfl rfl (by omega) (fun z => [.sh (.cell 0), .sh (.int most), .sh (.lst rs), .sh (.int P), .sh (.int Q), .sh (.int (b - 10)), .sh (.lst ((sortI xs).map .int)), .un, .sh (.int z)]) (fun _ => rfl) (fun z => by simp [binD_add])
  have hb : ∀ z ∈ (sortI xs).map (fun z => b - 10 + z), b - 10 ≤ z ∧ z ≤ b - 10 + Q := fun z hz => by
    obtain ⟨y, hy, rfl⟩ := List.mem_map.mp hz
    have := hx y ((sortI_mem xs y).mp hy)
    omega
  have hl2 : ((sortI xs).map (fun z => b - 10 + z)).length = P := by rw [List.length_map, hl]
  have hT : tabOk Q ((sortI xs).map (fun z => b - 10 + z)) = true := tab_okS (Srt_shift _ (sortI_srt xs)) hb (by intro e; rw [e] at hl2; simp at hl2; omega)
  refine ⟨P, Q, (sortI xs).map (fun z => b - 10 + z), μ5, ?_, h5, ⟨⟨Rp.of (by omega) hl2, by omega, q0, (tabOk_mono (by omega) hl2).mp hT⟩, by omega, q5, fun z hz => by have := hb z hz; omega⟩, qP⟩
  unfold xmA
  exact fn_rt (stp d1' (stp (xm2_ d d2) (stp d3 (stp (xm4_ b d4) (stp (xm5_ _ _ e5 (sorted_ints xs)) (stpR (xm6_ _ _ _ e6)))))))
end
section
variable {C : Fns} {μ : Mu} {a b : D} {s2 s3 s4 s5 : Ev.Slot}
abbrev env32 (a b : D) (s2 s3 s4 s5 : Ev.Slot) : Ev.Env := [.sh a, .sh b, s2, s3, s4, s5, .un]
theorem xe1_ (x y : D) (h1 : C.call 29 [a] μ = .ok x μ) (h2 : C.call 29 [b] μ = .ok y μ) : evS C xe1 (env32 a b s2 s3 s4 s5) μ = .ok (.nx (env32 x y s2 s3 s4 s5)) μ := by simp [xe1, h1, h2, setTg]
theorem xe2_ (q p' g w : Int) (a1 : ixM μ a (.int 1) = some (.int q)) (b0 : ixM μ b (.int 0) = some (.int p')) (h : C.call 28 [.int p', .int q] μ = .ok (.int g) μ) (f1 : binD .fdiv (.int p') (.int g) = some (.int w)) (hz : ¬ 0 < q → w = 1) : evS C xe2 (env32 a b s2 s3 s4 s5) μ = .ok (.nx (env32 a b (.sh (.int w)) s3 s4 s5)) μ := by
  by_cases k : 0 < q
  · simp [xe2, a1, b0, cmpD_gt, k, h, f1, newSlot]
  · simp [xe2, a1, cmpD_gt, k, newSlot, hz k]
theorem xe3_ (p w L : Int) (a0 : ixM μ a (.int 0) = some (.int p)) (m1 : binD .mul (.int p) (.int w) = some (.int L)) : evS C xe3 (env32 a b (.sh (.int w)) s3 s4 s5) μ = .ok (.nx (env32 a b (.sh (.int w)) (.sh (.int L)) s4 s5)) μ := by simp [xe3, a0, m1, newSlot]
theorem xe4_ (L : Int) (h : ¬ 2000 < L) : evS C xe4 (env32 a b s2 (.sh (.int L)) s4 s5) μ = .ok (.nx (env32 a b s2 (.sh (.int L)) s4 s5)) μ := by simp [xe4, cmpD_gt, h]
def xeC : E := (.comp (.name 6) (.rng (.cons (.var 3) .nil)) (.call 27 (.cons (.var 1) (.cons (.call 27 (.cons (.var 0) (.cons (.var 6) .nil))) .nil))) .nil)
theorem xe5_ (L : List D) (h : evE C xeC (env32 a b s2 s3 s4 s5) μ = .ok (.lst L) μ) : evS C xe5 (env32 a b s2 s3 s4 s5) μ = .ok (.nx (env32 a b s2 s3 (.sh (.lst L)) s5)) μ := by
  unfold xeC at h
  simp [xe5, h, newSlot]
theorem xe6_ (q q' p' w x y z : Int) (a1 : ixM μ a (.int 1) = some (.int q)) (b1 : ixM μ b (.int 1) = some (.int q')) (b0 : ixM μ b (.int 0) = some (.int p')) (m1 : binD .mul (.int q) (.int w) = some (.int x)) (m2 : binD .mul (.int x) (.int q') = some (.int y)) (f1 : binD .fdiv (.int y) (.int p') = some (.int z)) : evS C xe6 (env32 a b (.sh (.int w)) s3 s4 s5) μ = .ok (.nx (env32 a b (.sh (.int w)) s3 s4 (.sh (.int z)))) μ := by
  simp [xe6, a1, b1, b0, m1, m2, f1, newSlot]
theorem xe7_ (p q l r : D) (h : C.call 30 [p, q, l] μ = .ok r μ) : evS C xe7 (env32 a b s2 (.sh p) (.sh l) (.sh q)) μ = .ok (.rt (.tup [r, p])) μ := by simp [xe7, h]
end
section
variable {n : Nat} {f g : Int → Int} {P P' bp cp : Nat} {Q Q' bq cq : Int} {t t' : List Int} {μ : Mu}
theorem c32 (hn : 4 ≤ n) (a : Tm f bp bq P Q t) (b : Tm g cp cq P' Q' t') (hL : bp * cp ≤ 2000) (hb : bq ≤ 10000) (hc : cq ≤ 10000) (μ : Mu) : ∃ r L, (Cn n).call 34 [mD P Q t, mD P' Q' t'] μ = .ok (.tup [nD r, .int L]) μ ∧ Nm (fun x => g (f x)) (bp * cp) (bq * cq) r := by
  have M := a.m.nrm
  have M' := b.m.nrm
  have aq := a.q
  have bq' := b.q
  have a1 := a.n.hp
  have a2 := a.n.hq
  have b1 := b.n.hp
  have b2 := b.n.hq
  have N1 := lN (n := n - 1) (by omega) (a.m.ok3 (by omega)) μ
  have N2 := lN (n := n - 1) (by omega) (b.m.ok3 (by omega)) μ
  obtain ⟨A, hA⟩ : ∃ A, A = nrm P Q t := ⟨_, rfl⟩
  obtain ⟨B, hB⟩ : ∃ B, B = nrm P' Q' t' := ⟨_, rfl⟩
  rw [← hA] at M a1 a2 N1
  rw [← hB] at M' b1 b2 N2
  obtain ⟨p, q, w⟩ := A
  obtain ⟨p', q', w'⟩ := B
  dsimp only at M M' a1 a2 b1 b2
  have p0 := M.p0
  have p0' := M'.p0
  have p1 := M.p1
  have p1' := M'.p1
  have k1 := partN_le (k := p') q
  have k0 := partN_pos (k := p') p0' q
  have k2 : p * partN p' q ≤ bp * cp := Nat.mul_le_mul a1 (Nat.le_trans k1 b1)
  have gpos : 0 < Nat.gcd p' q.toNat := Nat.gcd_pos_of_pos_left _ p0'
  have gle : Nat.gcd p' q.toNat ≤ p' := Nat.gcd_le_left _ p0'
  have hg := hLCom (n := n - 1) (by omega) p' q.toNat μ (by omega)
  rw [show ((q.toNat : Nat) : Int) = q by omega] at hg
  have dv : q * (partN p' q : Int) * q' / p' = q * (partN p' q : Int) / p' * q' := by
    obtain ⟨c, hc⟩ := part_dvd p' a2.1 p0'
    rw [hc, Int.mul_assoc, Int.mul_ediv_cancel_left _ (by omega), Int.mul_ediv_cancel_left _ (by omega)]
  have r := comp_rise (Q := q) (Q' := q') p0' M.q0 M'.q0
  have r3 : q * q' ≤ bq * cq := Int.mul_le_mul a2.2 b2.2 b2.1 (Int.le_trans a2.1 a2.2)
  have r4 : bq * cq ≤ 10000 * 10000 := Int.mul_le_mul hb hc (Int.le_trans b2.1 b2.2) (by decide)
  have rp := Rp.tab (f := fun x => g (f x)) (Nat.mul_pos p0 k0) (comp_per p0' M.q0 M.toRp.per M'.toRp.per)
  have mqw : (q * (partN p' q : Int)).natAbs < 1000000000000000000 := by
    have : q * (partN p' q : Int) ≤ 10000 * 2000 := Int.mul_le_mul (by omega) (by omega) (by omega) (by decide)
    have := Int.mul_nonneg a2.1 (show (0 : Int) ≤ (partN p' q : Nat) by omega)
    omega
  have E1 := xe1_ (C := Cn (n - 1)) (μ := μ) (s2 := .un) (s3 := .un) (s4 := .un) (s5 := .un) _ _ N1 N2
  have E2 := xe2_ (C := Cn (n - 1)) (μ := μ) (a := nD (p, q, w)) (b := nD (p', q', w')) (s2 := .un) (s3 := .un) (s4 := .un) (s5 := .un) q p' _ (partN p' q : Nat) rfl rfl hg (by
    rw [binD_fdiv _ _ (by omega) (log2_nat gpos (by omega))]
    unfold partN
    congr 2) (fun h => by
    have : q = 0 := by omega
    rw [this, partN_zero p' p0']
    rfl)
  have E3 := xe3_ (C := Cn (n - 1)) (μ := μ) (a := nD (p, q, w)) (b := nD (p', q', w')) (s3 := .un) (s4 := .un) (s5 := .un) p (partN p' q : Nat) ((p * partN p' q : Nat) : Int) rfl (by rw [binD_mul _ _ (mulOk_l (q64 (by omega))), Int.natCast_mul])
  have E4 := xe4_ (C := Cn (n - 1)) (μ := μ) (a := nD (p, q, w)) (b := nD (p', q', w')) (s2 := .sh (.int (partN p' q : Nat))) (s4 := .un) (s5 := .un) ((p * partN p' q : Nat) : Int) (by omega)
  have l := comp_rngD (C := Cn (n - 1)) (μ := μ) (ρ := env32 (nD (p, q, w)) (nD (p', q', w')) (.sh (.int (partN p' q : Nat))) (.sh (.int ((p * partN p' q : Nat) : Int))) .un .un) (it := .rng (.cons (.var 3) .nil)) (elt := (.call 27 (.cons (.var 1) (.cons (.call 27 (.cons (.var 0) (.cons (.var 6) .nil))) .nil)))) (n := p * partN p' q) (k := 6) (h := fun i => .int (g (f ((i : Nat) : Int))))
    (rng1_ok rfl (by omega) (by omega)) (fun _ => rfl) (by omega) (fun i => [.sh (nD (p, q, w)), .sh (nD (p', q', w')), .sh (.int (partN p' q : Nat)), .sh (.int ((p * partN p' q : Nat) : Int)), .un, .un, .sh (.int (i : Nat))]) (fun _ => rfl) (fun i hi => by
      have e1 : (Cn (n - 1)).call 27 [nD (p, q, w), .int ((i : Nat) : Int)] μ = _ := lv (n := n - 1) (by omega) M (by omega) ((i : Nat) : Int) μ
      have e2 : (Cn (n - 1)).call 27 [nD (p', q', w'), .int (f ((i : Nat) : Int))] μ = _ := lv (n := n - 1) (by omega) M' (by omega) (f ((i : Nat) : Int)) μ
      simp [e1, e2])
  have et : (List.range (p * partN p' q)).map (fun i => D.int (g (f ((i : Nat) : Int)))) = (tab (fun x => g (f x)) (p * partN p' q)).map .int := by
    unfold tab
    rw [List.map_map]
    rfl
  rw [et] at l
  have E5 := xe5_ (C := Cn (n - 1)) (μ := μ) _ l
  have E6 := xe6_ (C := Cn (n - 1)) (μ := μ) (a := nD (p, q, w)) (b := nD (p', q', w')) (s3 := .sh (.int ((p * partN p' q : Nat) : Int))) (s4 := .sh (.lst ((tab (fun x => g (f x)) (p * partN p' q)).map .int))) (s5 := .un) q q' p' (partN p' q : Nat) _ _ _ rfl rfl rfl (binD_mul _ _ (mulOk_l (q64 (by omega)))) (binD_mul _ _ (mulOk_l (q64 mqw))) (binD_fdiv _ _ (by omega) (log2_nat p0' (by omega)))
  rw [dv] at E6
  have N3 := c28 (n := n - 1) (by omega) (P := p * partN p' q) (Q := q * (partN p' q : Int) / p' * q') (t := tab (fun x => g (f x)) (p * partN p' q)) ⟨rp.p0, by omega, by omega, rp.l⟩ μ
  have E7 := xe7_ (C := Cn (n - 1)) (μ := μ) (a := nD (p, q, w)) (b := nD (p', q', w')) (s2 := .sh (.int (partN p' q : Nat))) _ _ _ _ N3
  refine ⟨_, ((p * partN p' q : Nat) : Int), ?_, Nm.of rp k2 ⟨r.1, Int.le_trans r.2 r3⟩⟩
  rw [call_ge (d := La.d34) (by omega) rfl rfl, show La.d34.body = La.b34 from rfl, b34_eq]
  unfold xeA
  exact fn_rt (stp E1 (stp E2 (stp E3 (stp E4 (stp E5 (stp E6 (stpR E7)))))))
end
theorem rep0 (p : Int) : rep p [D.int 0] = (List.replicate p.toNat (0 : Int)).map .int := by
  unfold rep
  generalize p.toNat = k
  induction k with
  | zero => rfl
  | succ k ih => simp_all [List.replicate_succ]
def Zs (p : Nat) : List Int := List.replicate p 0
theorem mulT (p : Nat) (h1 : 1 ≤ p) (h2 : p ≤ 5000) : binD .mul (.tup [.int 0]) (.int (p : Int)) = some (.tup ((Zs p).map .int)) := by
  show (if 1 ≤ (p : Int) ∧ (p : Int) < 2 ^ 63 ∧ [D.int 0].length * (p : Int).toNat ≤ sizeLine then some (D.tup (rep p [.int 0])) else none) = _
  have hz : sizeLine = 16777216 := rfl
  have h63 : (5000 : Int) < 2 ^ 63 := by decide
  rw [if_pos ⟨by omega, Int.lt_of_le_of_lt (show (p : Int) ≤ 5000 by omega) h63, by rw [hz]; simp; omega⟩, rep0]
  rfl
def badA : List D := [.non, .int 0, .tup [], .str "map", .tup [.int 1, .int 1], .lst [.int 1, .int 1, .tup [.int 0]], .tup [.int 1, .int 1, .lst [.int 0]], .tup [.int 0, .int 1, .tup []], .tup [.int 1, .int (-1), .tup [.int 0]]]
def badB : List D := [.tup [.int 2, .int 1, .tup [.int 0, .int 2]], .tup [.int 2, .int 1, .tup [.int 1, .int 0]], .tup [.int 1, .bl true, .tup [.int 0]], .tup [.int 1, .int 1, .tup [.non]], .tup [.int 1, .int 1, .tup [.str "0"]], .tup [.int 2, .int 1, .tup [.int 0]]]
def badC (Z : List D) : List D := [.tup [.int 1, .int 1, .tup [.int 0, .int 0]], .dic [] [], .tup [.int 2001, .int 1, .tup Z]]
theorem okT_ints (us : List Int) (h : us.length ≤ 10000) : okT (.tup (us.map .int)) = true := by
  unfold okT
  rw [Bool.and_eq_true]
  refine ⟨?_, decide_eq_true (by simpa using h)⟩
  rw [List.all_eq_true]
  intro d hd
  obtain ⟨z, _, rfl⟩ := List.mem_map.mp hd
  rfl
theorem zeros_no : okM (.tup [.int 2001, .int 1, .tup ((Zs 2001).map .int)]) = true ∧ isMapD (.tup [.int 2001, .int 1, .tup ((Zs 2001).map .int)]) = false := by
  have h := okT_ints (Zs 2001) (by simp [Zs])
  generalize (Zs 2001).map D.int = Z at *
  refine ⟨?_, rfl⟩
  have e : okM (.tup [.int 2001, .int 1, .tup Z]) = ((okT (.int 2001) && (okT (.int 1) && (okT (.tup Z) && true))) && decide (3 ≤ 10000)) := rfl
  rw [e, h]
  rfl
theorem no_map : ∀ x ∈ badA ++ badB ++ badC ((Zs 2001).map .int), okM x = true ∧ isMapD x = false := fun x h => by
  have z := zeros_no
  generalize (Zs 2001).map D.int = Z at *
  simp only [badA, badB, badC, List.cons_append, List.nil_append, List.mem_cons, List.not_mem_nil, or_false] at h
  rcases h with rfl | rfl | rfl | rfl | rfl | rfl | rfl | rfl | rfl | rfl | rfl | rfl | rfl | rfl | rfl | rfl | rfl | rfl <;> first | exact z | exact ⟨by first | rfl | decide, by first | rfl | decide⟩
theorem addL (xs ys : List D) (h : xs.length + ys.length ≤ 1000) : binD .add (.lst xs) (.lst ys) = some (.lst (xs ++ ys)) := by
  show (if xs.length + ys.length ≤ sizeLine then some (D.lst (xs ++ ys)) else none) = _
  have hz : sizeLine = 16777216 := rfl
  rw [if_pos (by omega)]
theorem n32 {C : Fns} {μ μ' : Mu} (Z : List D) (x : D) (hz : binD .mul (.tup [.int 0]) (.int 2001) = some (.tup Z)) (h : C.call 25 [.cell 0, .lst (badA ++ badB ++ badC Z)] μ = .ok x μ') : fnR (evS C La.b32 [.sh (.cell 0), .un] μ) = .ok x μ' := by
  have h1 := addL badA badB (by simp [badA, badB])
  have h2 := addL (badA ++ badB) (badC Z) (by simp [badA, badB, badC])
  generalize hX : badA ++ badB = X at h1 h2
  rw [hX] at h
  generalize hY : X ++ badC Z = Y at h2 h
  unfold badA badB at h1
  unfold badC at h2
  simp [La.b32, newSlot, negD, h1, hz, h2, h]
end Pf
end

section
set_option Elab.async false
set_option linter.all false
set_option maxRecDepth 100000
set_option maxHeartbeats 4000000
namespace Pf
open PySem PySem.Spec PyProof.Rows L2 Ev Mt Pg Pr
def maB : S := (.seq (.cond (.cmp .eq (.bin .mod (.var 1) (.int 2)) (.int 1)) (.seq (.asg false (.name 2) (.call 14 (.cons (.var 2) (.cons (.var 3) .nil)))) .skip) .skip) (.seq (.asg false (.name 1) (.bin .fdiv (.var 1) (.int 2))) (.seq (.cond (.cmp .gt (.var 1) (.int 0)) (.seq (.asg false (.name 3) (.call 14 (.cons (.var 3) (.cons (.var 3) .nil)))) .skip) .skip) .skip)))
def mdB : S := (.seq (.cond (.cmp .eq (.bin .mod (.bi .int (.cons (.var 1) .nil)) (.int 2)) (.int 1)) (.seq (.asg false (.name 3) (.idx (.call 34 (.cons (.var 3) (.cons (.var 4) .nil))) (.int 0))) .skip) .skip) (.seq (.asg false (.name 1) (.bin .fdiv (.var 1) (.int 2))) (.seq (.cond (.cmp .gt (.var 1) (.int 0)) (.seq (.asg false (.name 4) (.idx (.call 34 (.cons (.var 4) (.cons (.var 4) .nil))) (.int 0))) .skip) .skip) .skip)))
def mbB : S := (.seq (.asg false (.name 3) (.call 8 (.cons (.var 0) (.cons (.var 3) .nil)))) .skip)
def meB : S := (.seq (.asg false (.name 1) (.call 27 (.cons (.var 0) (.cons (.var 1) .nil)))) .skip)
def ma1 : S := (.cond (.cmp .gt (.var 1) (.int 1)) (.seq (.exp (.call 17 (.cons (.var 0) .nil))) .skip) .skip)
def ma2 : S := (.par [2, 3] (.cons (.gc 4) (.cons (.call 11 (.cons (.var 0) .nil)) .nil)))
def ma3 : S := (.whl (.cmp .gt (.var 1) (.int 0)) maB)
def ma4 : S := (.ret (.var 2))
def maA : S := (.seq ma1 (.seq ma2 (.seq ma3 (.seq ma4 .skip))))
def mb1 : S := (.exp (.call 7 (.cons (.var 0) .nil)))
def mb2 : S := (.exp (.call 3 (.cons (.var 1) .nil)))
def mb3 : S := (.exp (.call 4 (.cons (.var 2) (.cons (.int 0) (.cons (.gc 1) .nil)))))
def mb4 : S := (.cond (.cmp .gt (.var 2) (.gc 2)) (.seq (.exp (.call 17 (.cons (.var 0) .nil))) .skip) .skip)
def mb5 : S := (.cond (.cmp .gt (.var 2) (.gc 3)) (.seq (.ret (.call 8 (.cons (.call 18 (.cons (.var 0) (.cons (.var 2) .nil))) (.cons (.var 1) .nil)))) .skip) .skip)
def mb6 : S := (.asg false (.name 3) (.var 1))
def mb7 : S := (.for_ (.name 4) (.rng (.cons (.var 2) .nil)) mbB)
def mb8 : S := (.ret (.var 3))
def mbA : S := (.seq mb1 (.seq mb2 (.seq mb3 (.seq mb4 (.seq mb5 (.seq mb6 (.seq mb7 (.seq mb8 .skip))))))))
def mc1 : S := (.asg false (.tup (.cons (.name 3) (.cons (.name 4) (.cons (.name 5) .nil)))) (.var 0))
def mc2 : S := (.ret (.call 11 (.cons (.tup (.cons (.var 3) (.cons (.var 4) (.cons (.bi .tuple (.cons (.comp (.name 6) (.rng (.cons (.var 3) .nil)) (.bin .add (.call 8 (.cons (.var 0) (.cons (.bin .add (.var 6) (.var 1)) .nil))) (.var 2)) .nil) .nil)) .nil)))) .nil)))
def mcA : S := (.seq mc1 (.seq mc2 .skip))
def md1 : S := (.par [3, 4] (.cons (.tup (.cons (.int 1) (.cons (.int 1) (.cons (.tup (.cons (.int 0) .nil)) .nil)))) (.cons (.call 29 (.cons (.var 0) .nil)) .nil)))
def md2 : S := (.for_ (.name 2) (.rng (.cons (.int 110) .nil)) mdB)
def md3 : S := (.ret (.var 3))
def mdA : S := (.seq md1 (.seq md2 (.seq md3 .skip)))
def me1 : S := (.for_ (.name 3) (.rng (.cons (.var 2) .nil)) meB)
def me2 : S := (.ret (.var 1))
def meA : S := (.seq me1 (.seq me2 .skip))
theorem b18_eq : La.b18 = maA := rfl
theorem b20_eq : La.b20 = mbA := rfl
theorem b21_eq : La.b21 = mcA := rfl
theorem b35_eq : La.b35 = mdA := rfl
theorem b36_eq : La.b36 = meA := rfl
def it (f : Int → Int) : Nat → Int → Int
  | 0, x => x
  | k + 1, x => it f k (f x)
theorem it_succ (f : Int → Int) : ∀ (k : Nat) (x : Int), it f (k + 1) x = f (it f k x)
  | 0, x => rfl
  | k + 1, x => by
    show it f (k + 1) (f x) = f (it f k (f x))
    exact it_succ f k (f x)
theorem it_add (f : Int → Int) (b : Nat) : ∀ (a : Nat) (x : Int), it f (a + b) x = it f b (it f a x)
  | 0, x => by rw [Nat.zero_add]; rfl
  | a + 1, x => by
    rw [Nat.add_right_comm]
    show it f (a + b) (f x) = it f b (it f a (f x))
    exact it_add f b a (f x)
theorem it_two (f : Int → Int) : ∀ (k : Nat) (x : Int), it (fun x => f (f x)) k x = it f (2 * k) x
  | 0, x => rfl
  | k + 1, x => by
    show it (fun x => f (f x)) k (f (f x)) = it f (2 * k) (f (f x))
    exact it_two f k _
theorem it_mul (f : Int → Int) (a : Nat) : ∀ (k : Nat) (x : Int), it (it f a) k x = it f (k * a) x
  | 0, x => by rw [Nat.zero_mul]; rfl
  | k + 1, x => by
    show it (it f a) k (it f a x) = _
    rw [it_mul f a k, Nat.add_mul, Nat.one_mul, Nat.add_comm, it_add]
/-- maps that come round with themselves -/
structure Rt (F : Int → Int) (P : Nat) : Prop where
  p : Mt.per F P P
  m : Mono F
theorem Rt.comp {F G : Int → Int} {P : Nat} (a : Rt F P) (b : Rt G P) : Rt (fun x => G (F x)) P := ⟨fun x => by
  show G (F (x + P)) = G (F x) + P
  rw [a.p, b.p], fun x => b.m.le' (a.m x)⟩
theorem Rt.one (P : Nat) : Rt (fun x => x) P := ⟨fun x => rfl, fun x => by show x ≤ x + 1; omega⟩
theorem Rt.it {F : Int → Int} {P : Nat} (a : Rt F P) : ∀ n : Nat, Rt (it F n) P
  | 0 => Rt.one P
  | n + 1 => a.comp (Rt.it a n)
/-- the normal one of these values -/
def nn (F : Int → Int) (P : Nat) : Nat × Int × List Int := nrm P P (tab F P)
section
variable {n : Nat} {F G f : Int → Int} {P : Nat} {t : List Int} {μ : Mu}
theorem Rt.nm (a : Rt F P) (p0 : 0 < P) : Nm F P P (nn F P) := Nm.of (Rp.tab p0 a.p) (Nat.le_refl _) ⟨by omega, Int.le_refl _⟩
theorem Rt.tm (a : Rt F P) (p0 : 0 < P) (p6 : P ≤ 6) : Tm F P P (nn F P).1 (nn F P).2.1 (nn F P).2.2 := Tm.nm (a.nm p0) a.m (by omega) (by omega)
theorem Rt.eq {bp : Nat} {bq : Int} {r : Nat × Int × List Int} (a : Rt F P) (p0 : 0 < P) (N : Nm F bp bq r) : r = nn F P := N.eq (a.nm p0) fun _ => rfl
theorem nn_one (p0 : 0 < P) : nD (nn (fun x => x) P) = .tup [.int 1, .int 1, .tup [.int 0]] := by
  have rp : Rp (fun x => x) 1 1 [0] := ⟨by decide, rfl, fun x => by
    unfold vl
    rw [show x % ((1 : Nat) : Int) = 0 by omega, show x / ((1 : Nat) : Int) = x by omega]
    show 0 + x * 1 = x
    omega⟩
  have e : nn (fun x => x) P = nrm 1 1 [0] := (Rp.tab p0 (Rt.one P).p).eq rp
  rw [e, show nrm 1 1 [0] = (1, 1, [0]) by decide]
  rfl
theorem cB (hn : 3 ≤ n) (a : Rt F P) (b : Rt G P) (p0 : 0 < P) (p6 : P ≤ 6) (μ : Mu) : (Cn n).call 14 [nD (nn F P), nD (nn G P)] μ = .ok (nD (nn (fun x => G (F x)) P)) μ := by
  have A := a.tm p0 p6
  have B := b.tm p0 p6
  have NA := a.nm p0
  have NB := b.nm p0
  have a1 := NA.hp
  have a2 := NA.hq
  have b1 := NB.hp
  have b2 := NB.hq
  have k1 := partN_le (k := (nn G P).1) (nn F P).2.1
  have k2 : (nn F P).1 * partN (nn G P).1 (nn F P).2.1 ≤ 6 * 6 := Nat.mul_le_mul (by omega) (by omega)
  have e := hBeh (n := n) hn A.m.toRp B.m.toRp A.m.p1 B.m.p1 A.m.q0 (by omega) B.m.q0 (by omega) (by omega) μ
  have rp := Rp.tab (f := fun x => G (F x)) (Nat.mul_pos A.m.p0 (partN_pos B.m.p0 (nn F P).2.1)) (comp_per B.m.p0 A.m.q0 A.m.toRp.per B.m.toRp.per)
  rw [rp.eq (Rp.tab p0 (a.comp b).p)] at e
  exact e
theorem cO (hn : 4 ≤ n) (a : Rt F P) (b : Rt G P) (p0 : 0 < P) (p6 : P ≤ 6) (μ : Mu) : ∃ L, (Cn n).call 34 [nD (nn F P), nD (nn G P)] μ = .ok (.tup [nD (nn (fun x => G (F x)) P), .int L]) μ := by
  have pp : P * P ≤ 6 * 6 := Nat.mul_le_mul p6 p6
  obtain ⟨r, L, e, N⟩ := c32 (n := n) hn (a.tm p0 p6) (b.tm p0 p6) (by omega) (by omega) (by omega) μ
  rw [(a.comp b).eq p0 N] at e
  exact ⟨L, e⟩
theorem hChIn (hn : 3 ≤ n) (x : D) (a b : Int) (μ : Mu) (h : okD x = true) : (Cn n).call 4 [x, .int a, .int b] μ = if inD a b x = true then .ok .non μ else .ex ⟨3, none⟩ μ := by
  rw [call_ge (d := La.d4) (by omega) rfl rfl]; exact ckIn_run (hIn (by omega)) h a b
theorem s16' {C : Fns} (a : D) (p q : Int) (a0 : ixM μ a (.int 0) = some (.int p)) (a1 : ixM μ a (.int 1) = some (.int q)) : fnR (evS C La.b16 [.sh a] μ) = .ok (.bl (decide (p = q))) μ := by
  simp [La.b16, a0, a1, cmpD_eqI]
theorem cRound (hn : 2 ≤ n) (P : Nat) (Q : Int) (t : List Int) (μ : Mu) : (Cn n).call 17 [mD P Q t] μ = if (P : Int) = Q then .ok .non μ else .ex ⟨4, none⟩ μ := by
  rw [call_ge (d := La.d17) (by omega) rfl rfl]
  have h : (Cn (n - 1)).call 16 [mD P Q t] μ = .ok (.bl (decide ((P : Int) = Q))) μ := by
    rw [call_ge (d := La.d16) (by omega) rfl rfl]
    exact s16' _ P Q rfl rfl
  have z : fnR (evS (Cn (n - 1)) La.b17 [.sh (mD P Q t)] μ) = if decide ((P : Int) = Q) = true then .ok .non μ else .ex ⟨4, none⟩ μ := by
    cases hk : decide ((P : Int) = Q) <;> rw [hk] at h <;> simp [La.b17, h]
  refine z.trans ?_
  by_cases k : (P : Int) = Q <;> simp [k]
end
section
variable {C : Fns} {μ : Mu} {st : D} {s2 s3 : Ev.Slot}
abbrev env18 (st : D) (m : Int) (s2 s3 : Ev.Slot) : Ev.Env := [.sh st, .sh (.int m), s2, s3]
theorem ma1y (m : Int) (h : m ≤ 1 ∨ C.call 17 [st] μ = .ok .non μ) : evS C ma1 (env18 st m s2 s3) μ = .ok (.nx (env18 st m s2 s3)) μ := by
  by_cases k : 1 < m
  · rcases h with h | h
    · omega
    · simp [ma1, cmpD_gt, k, h]
  · simp [ma1, cmpD_gt, k]
theorem ma1x (m : Int) (e : Exn) (k : 1 < m) (h : C.call 17 [st] μ = .ex e μ) : evS C ma1 (env18 st m s2 s3) μ = .ex e μ := by
  simp [ma1, cmpD_gt, k, h]
theorem ma2_ (m : Int) (x y : D) (h : C.con 4 = x) (h2 : C.call 11 [st] μ = .ok y μ) : evS C ma2 (env18 st m s2 s3) μ = .ok (.nx (env18 st m (.sh x) (.sh y))) μ := by
  simp [ma2, h, h2, setPar]
theorem whl_yes {c : Ev.Env → Mu → Ev.R D} {b : Ev.Env → Mu → Ev.R Fl} {m : Nat} {ρ ρ' : Ev.Env} (h1 : c ρ μ = .ok (.bl true) μ) (h2 : b ρ μ = .ok (.nx ρ') μ) : whlL c b (m + 1) ρ μ = whlL c b m ρ' μ := by
  conv => lhs; unfold whlL
  rw [h1]
  dsimp only
  rw [h2]
theorem whl_no {c : Ev.Env → Mu → Ev.R D} {b : Ev.Env → Mu → Ev.R Fl} {m : Nat} {ρ : Ev.Env} (h1 : c ρ μ = .ok (.bl false) μ) : whlL c b (m + 1) ρ μ = .ok (.nx ρ) μ := by
  unfold whlL
  rw [h1]
theorem maC_ (m : Int) : evE C (.cmp .gt (.var 1) (.int 0)) (env18 st m s2 s3) μ = .ok (.bl (decide (0 < m))) μ := by simp [cmpD_gt]
theorem fd2 (m : Int) : binD .fdiv (.int m) (.int 2) = some (.int (m / 2)) := binD_fdiv _ _ (by decide) (log2_small 2 (by decide) (by decide))
theorem maB_ (m : Int) (x y x' y' : D) (hx : m % 2 = 1 → C.call 14 [x, y] μ = .ok x' μ) (hx' : ¬ m % 2 = 1 → x' = x) (hy : 0 < m / 2 → C.call 14 [y, y] μ = .ok y' μ) (hy' : ¬ 0 < m / 2 → y' = y) : evS C maB (env18 st m (.sh x) (.sh y)) μ = .ok (.nx (env18 st (m / 2) (.sh x') (.sh y'))) μ := by
  have md := binD_mod m 2 (by decide)
  have f2 := fd2 m
  by_cases k : m % 2 = 1
  · by_cases j : 0 < m / 2
    · simp [maB, md, cmpD_eqI, k, hx k, newSlot, f2, cmpD_gt, j, hy j]
    · rw [hy' j]
      simp [maB, md, cmpD_eqI, k, hx k, newSlot, f2, cmpD_gt, j]
  · rw [hx' k]
    by_cases j : 0 < m / 2
    · simp [maB, md, cmpD_eqI, k, newSlot, f2, cmpD_gt, j, hy j]
    · rw [hy' j]
      simp [maB, md, cmpD_eqI, k, newSlot, f2, cmpD_gt, j]
theorem ma_loop {P : Nat} (hB : ∀ {F G : Int → Int}, Rt F P → Rt G P → C.call 14 [nD (nn F P), nD (nn G P)] μ = .ok (nD (nn (fun x => G (F x)) P)) μ) : ∀ (k m : Nat) (F G : Int → Int) (fuel : Nat), Rt F P → Rt G P → m < 2 ^ k → k < fuel → ∃ s3', whlL (evE C (.cmp .gt (.var 1) (.int 0))) (evS C maB) fuel (env18 st (m : Int) (.sh (nD (nn F P))) (.sh (nD (nn G P)))) μ = .ok (.nx (env18 st 0 (.sh (nD (nn (fun x => it G m (F x)) P))) s3')) μ
  | k, m, F, G, 0, _, _, _, hf => by omega
  | 0, m, F, G, fuel + 1, a, b, hm, _ => by
    have m0 : m = 0 := by simpa using hm
    subst m0
    exact ⟨_, whl_no (by rw [maC_]; rfl)⟩
  | k + 1, m, F, G, fuel + 1, a, b, hm, hf => by
    by_cases z : m = 0
    · subst z
      exact ⟨_, whl_no (by rw [maC_]; rfl)⟩
    · have h2 : m / 2 < 2 ^ k := by rw [Nat.pow_succ] at hm; omega
      have em : ((m : Nat) : Int) / 2 = ((m / 2 : Nat) : Int) := by omega
      have body := maB_ (C := C) (μ := μ) (st := st) (m : Int) (nD (nn F P)) (nD (nn G P)) (nD (nn (if m % 2 = 1 then (fun x => G (F x)) else F) P)) (nD (nn (if 0 < m / 2 then (fun x => G (G x)) else G) P)) (fun h => by rw [if_pos (by omega)]; exact hB a b) (fun h => by rw [if_neg (by omega)]) (fun h => by rw [if_pos (by omega)]; exact hB b b) (fun h => by rw [if_neg (by omega)])
      rw [em] at body
      have ra : Rt (if m % 2 = 1 then (fun x => G (F x)) else F) P := by
        split
        · exact a.comp b
        · exact a
      have rb : Rt (if 0 < m / 2 then (fun x => G (G x)) else G) P := by
        split
        · exact b.comp b
        · exact b
      obtain ⟨s3', e⟩ := ma_loop hB k (m / 2) _ _ fuel ra rb h2 (by omega)
      refine ⟨s3', ?_⟩
      rw [whl_yes (by rw [maC_, decide_eq_true (by omega)]) body, e]
      have ef : (fun x => it (if 0 < m / 2 then (fun x => G (G x)) else G) (m / 2) ((if m % 2 = 1 then (fun x => G (F x)) else F) x)) = fun x => it G m (F x) := by
        funext x
        by_cases j : 0 < m / 2
        · rw [if_pos j, it_two]
          by_cases i : m % 2 = 1
          · rw [if_pos i]
            show it G (2 * (m / 2)) (G (F x)) = _
            have : m = 2 * (m / 2) + 1 := by omega
            conv => rhs; rw [this]
            rfl
          · rw [if_neg i, show 2 * (m / 2) = m by omega]
        · have m1 : m = 1 := by omega
          subst m1
          rfl
      rw [ef]
end
section
variable {n : Nat} {f : Int → Int} {P : Nat} {Q : Int} {t : List Int} {μ : Mu}
/-- repeated_of, of rate 1 -/
theorem c18 (hn : 4 ≤ n) (m : Mp f P P t) (p6 : P ≤ 6) (k : Nat) (hk : k < 2 ^ 110) (μ : Mu) : (Cn n).call 18 [mD P P t, .int (k : Nat)] μ = .ok (nD (nn (it f k) P)) μ := by
  have p0 := m.p0
  have a : Rt f P := ⟨m.toRp.per, m.m⟩
  have e0 : startE La.d18 [mD P P t, .int (k : Nat)] = env18 (mD P P t) (k : Nat) .un .un := rfl
  rw [call_ge (d := La.d18) (by omega) rfl rfl, show La.d18.body = La.b18 from rfl, b18_eq, e0]
  have hr := cRound (n := n - 1) (by omega) P P t μ
  rw [if_pos rfl] at hr
  have hnm := cNorm (n := n - 1) (by omega) m (by omega) μ
  rw [show nrm P P t = nn f P from m.toRp.eq (Rp.tab p0 a.p)] at hnm
  have hc : (Cn (n - 1)).con 4 = nD (nn (fun x => x) P) := by rw [nn_one p0]; exact con_n _ 4
  obtain ⟨s3', e⟩ := ma_loop (C := Cn (n - 1)) (μ := μ) (st := mD P P t) (P := P) (fun a b => cB (by omega) a b p0 p6 μ) 110 k (fun x => x) f whileMost (Rt.one P) a hk (by rw [whileMost_eq]; decide)
  unfold maA
  exact fn_rt (stp (ma1y _ (.inr hr)) (stp (ma2_ _ _ _ hc hnm) (stp (show evS (Cn (n - 1)) ma3 _ μ = _ from e) (stpR rfl))))
theorem c18_0 (hn : 4 ≤ n) (m : Mp f P Q t) (hq : Q ≤ 1000000) (μ : Mu) : (Cn n).call 18 [mD P Q t, .int 0] μ = .ok (.tup [.int 1, .int 1, .tup [.int 0]]) μ := by
  have e0 : startE La.d18 [mD P Q t, .int 0] = env18 (mD P Q t) 0 .un .un := rfl
  rw [call_ge (d := La.d18) (by omega) rfl rfl, show La.d18.body = La.b18 from rfl, b18_eq, e0]
  have hnm := cNorm (n := n - 1) (by omega) m (by omega) μ
  have e3 : evS (Cn (n - 1)) ma3 (env18 (mD P Q t) 0 (.sh (.tup [.int 1, .int 1, .tup [.int 0]])) (.sh (nD (nrm P Q t)))) μ = .ok (.nx (env18 (mD P Q t) 0 (.sh (.tup [.int 1, .int 1, .tup [.int 0]])) (.sh (nD (nrm P Q t))))) μ := by
    show whlL _ _ (999999999999 + 1) _ _ = _
    exact whl_no (by rw [maC_]; rfl)
  unfold maA
  exact fn_rt (stp (ma1y _ (.inl (by decide))) (stp (ma2_ _ _ _ (con_n _ 4) hnm) (stp e3 (stpR rfl))))
theorem c18_1 (hn : 4 ≤ n) (m : Mp f P Q t) (p6 : P ≤ 100) (hq : Q ≤ 1000000) (μ : Mu) : (Cn n).call 18 [mD P Q t, .int 1] μ = .ok (nD (nrm P Q t)) μ := by
  have e0 : startE La.d18 [mD P Q t, .int 1] = env18 (mD P Q t) 1 .un .un := rfl
  rw [call_ge (d := La.d18) (by omega) rfl rfl, show La.d18.body = La.b18 from rfl, b18_eq, e0]
  have hnm := cNorm (n := n - 1) (by omega) m (by omega) μ
  have M := m.nrm
  have le := m.toRp.nrm_le
  have ri := m.toRp.rise m.q0
  have r1 : Rp (fun x => x) 1 1 [0] := ⟨by decide, rfl, fun x => by
    unfold vl
    rw [show x % ((1 : Nat) : Int) = 0 by omega, show x / ((1 : Nat) : Int) = x by omega]
    show 0 + x * 1 = x
    omega⟩
  have pl := partN_le (k := (nrm P Q t).1) 1
  have hb := hBeh (n := n - 1) (by omega) r1 M.toRp (by decide) M.p1 (by decide) (by decide) M.q0 (by omega) (by omega) μ
  have rp := Rp.tab (f := fun x => f x) (Nat.mul_pos (show 0 < 1 by decide) (partN_pos M.p0 1)) (comp_per (f := fun x => x) M.p0 (show (0 : Int) ≤ 1 by decide) r1.per M.toRp.per)
  rw [rp.eq m.toRp] at hb
  have body := maB_ (C := Cn (n - 1)) (μ := μ) (st := mD P Q t) 1 (.tup [.int 1, .int 1, .tup [.int 0]]) (nD (nrm P Q t)) (nD (nrm P Q t)) (nD (nrm P Q t)) (fun _ => hb) (fun h => absurd (by decide) h) (fun h => absurd h (by decide)) (fun _ => rfl)
  have e3 : evS (Cn (n - 1)) ma3 (env18 (mD P Q t) 1 (.sh (.tup [.int 1, .int 1, .tup [.int 0]])) (.sh (nD (nrm P Q t)))) μ = .ok (.nx (env18 (mD P Q t) 0 (.sh (nD (nrm P Q t))) (.sh (nD (nrm P Q t))))) μ := by
    show whlL _ _ (999999999998 + 1 + 1) _ _ = _
    rw [whl_yes (by rw [maC_]; rfl) body]
    exact whl_no (by rw [maC_]; rfl)
  unfold maA
  exact fn_rt (stp (ma1y _ (.inl (by decide))) (stp (ma2_ _ _ _ (con_n _ 4) hnm) (stp e3 (stpR rfl))))
theorem c18_x (hn : 4 ≤ n) (m : Mp f P Q t) (h : (P : Int) ≠ Q) (k : Int) (hk : 1 < k) (μ : Mu) : (Cn n).call 18 [mD P Q t, .int k] μ = .ex ⟨4, none⟩ μ := by
  have e0 : startE La.d18 [mD P Q t, .int k] = env18 (mD P Q t) k .un .un := rfl
  rw [call_ge (d := La.d18) (by omega) rfl rfl, show La.d18.body = La.b18 from rfl, b18_eq, e0]
  have hr := cRound (n := n - 1) (by omega) P Q t μ
  rw [if_neg h] at hr
  unfold maA
  exact fn_ex (stpX (ma1x _ _ hk hr))
end
end Pf
end

section
set_option Elab.async false
set_option linter.all false
set_option maxRecDepth 100000
set_option maxHeartbeats 4000000
namespace Pf
open PySem PySem.Spec PyProof.Rows L2 Ev Mt Pg Pr
section
variable {C : Fns} {μ : Mu} {a b c : D}
theorem s19x (e : Exn) (h : C.call 7 [a] μ = .ex e μ) : fnR (evS C La.b19 [.sh a, .sh b] μ) = .ex e μ := by simp [La.b19, h]
theorem s19z (e : Exn) (k : D) (hk : C.con 1 = k) (h : C.call 7 [a] μ = .ok .non μ) (h2 : C.call 4 [b, .int 0, k] μ = .ex e μ) : fnR (evS C La.b19 [.sh a, .sh b] μ) = .ex e μ := by simp [La.b19, hk, h, h2]
theorem s19y (k : D) (r : Ev.R D) (hk : C.con 1 = k) (h : C.call 7 [a] μ = .ok .non μ) (h2 : C.call 4 [b, .int 0, k] μ = .ok .non μ) (h3 : C.call 18 [a, b] μ = r) (hr : (∃ d, r = .ok d μ) ∨ ∃ e, r = .ex e μ) : fnR (evS C La.b19 [.sh a, .sh b] μ) = r := by
  rcases hr with ⟨d, rfl⟩ | ⟨e, rfl⟩ <;> simp [La.b19, hk, h, h2, h3]
theorem s22x (e : Exn) (h : C.call 7 [a] μ = .ex e μ) : fnR (evS C La.b22 [.sh a, .sh b, .sh c] μ) = .ex e μ := by simp [La.b22, h]
theorem s22z (e : Exn) (h : C.call 7 [a] μ = .ok .non μ) (h2 : C.call 3 [b] μ = .ex e μ) : fnR (evS C La.b22 [.sh a, .sh b, .sh c] μ) = .ex e μ := by simp [La.b22, h, h2]
theorem s22w (e : Exn) (h : C.call 7 [a] μ = .ok .non μ) (h2 : C.call 3 [b] μ = .ok .non μ) (h3 : C.call 3 [c] μ = .ex e μ) : fnR (evS C La.b22 [.sh a, .sh b, .sh c] μ) = .ex e μ := by simp [La.b22, h, h2, h3]
theorem s22y (r : D) (h : C.call 7 [a] μ = .ok .non μ) (h2 : C.call 3 [b] μ = .ok .non μ) (h3 : C.call 3 [c] μ = .ok .non μ) (h4 : C.call 21 [a, b, c] μ = .ok r μ) : fnR (evS C La.b22 [.sh a, .sh b, .sh c] μ) = .ok r μ := by simp [La.b22, h, h2, h3, h4]
abbrev env20 (a x m : D) (s3 s4 : Ev.Slot) : Ev.Env := [.sh a, .sh x, .sh m, s3, s4]
variable {x m : D} {s3 s4 : Ev.Slot}
theorem mb1_ (h : C.call 7 [a] μ = .ok .non μ) : evS C mb1 (env20 a x m s3 s4) μ = .ok (.nx (env20 a x m s3 s4)) μ := by simp [mb1, h]
theorem mb1x (e : Exn) (h : C.call 7 [a] μ = .ex e μ) : evS C mb1 (env20 a x m s3 s4) μ = .ex e μ := by simp [mb1, h]
theorem mb2_ (h : C.call 3 [x] μ = .ok .non μ) : evS C mb2 (env20 a x m s3 s4) μ = .ok (.nx (env20 a x m s3 s4)) μ := by simp [mb2, h]
theorem mb2x (e : Exn) (h : C.call 3 [x] μ = .ex e μ) : evS C mb2 (env20 a x m s3 s4) μ = .ex e μ := by simp [mb2, h]
theorem mb3_ (k : D) (hk : C.con 1 = k) (h : C.call 4 [m, .int 0, k] μ = .ok .non μ) : evS C mb3 (env20 a x m s3 s4) μ = .ok (.nx (env20 a x m s3 s4)) μ := by simp [mb3, hk, h]
theorem mb3x (e : Exn) (k : D) (hk : C.con 1 = k) (h : C.call 4 [m, .int 0, k] μ = .ex e μ) : evS C mb3 (env20 a x m s3 s4) μ = .ex e μ := by simp [mb3, hk, h]
theorem mb4_ (k : Int) (hk : C.con 2 = .int 20) (h : k ≤ 20 ∨ C.call 17 [a] μ = .ok .non μ) : evS C mb4 (env20 a x (.int k) s3 s4) μ = .ok (.nx (env20 a x (.int k) s3 s4)) μ := by
  by_cases z : 20 < k
  · rcases h with h | h
    · omega
    · simp [mb4, hk, cmpD_gt, z, h]
  · simp [mb4, hk, cmpD_gt, z]
theorem mb4x (k : Int) (e : Exn) (hk : C.con 2 = .int 20) (z : 20 < k) (h : C.call 17 [a] μ = .ex e μ) : evS C mb4 (env20 a x (.int k) s3 s4) μ = .ex e μ := by simp [mb4, hk, cmpD_gt, z, h]
theorem mb5n (k : Int) (hk : C.con 3 = .int 1000) (z : k ≤ 1000) : evS C mb5 (env20 a x (.int k) s3 s4) μ = .ok (.nx (env20 a x (.int k) s3 s4)) μ := by
  simp [mb5, hk, cmpD_gt, show ¬ 1000 < k by omega]
theorem mb5y (k : Int) (y v : D) (hk : C.con 3 = .int 1000) (z : 1000 < k) (h : C.call 18 [a, .int k] μ = .ok y μ) (h2 : C.call 8 [y, x] μ = .ok v μ) : evS C mb5 (env20 a x (.int k) s3 s4) μ = .ok (.rt v) μ := by
  simp [mb5, hk, cmpD_gt, z, h, h2]
theorem mb6_ (v : Int) : evS C mb6 (env20 a (.int v) m s3 s4) μ = .ok (.nx (env20 a (.int v) m (.sh (.int v)) s4)) μ := rfl
theorem mbB_ (y v : Int) (h : C.call 8 [a, .int y] μ = .ok (.int v) μ) : evS C mbB (env20 a x m (.sh (.int y)) s4) μ = .ok (.nx (env20 a x m (.sh (.int v)) s4)) μ := by simp [mbB, h, newSlot]
theorem mb_loop (f : Int → Int) (h : ∀ y, C.call 8 [a, .int y] μ = .ok (.int (f y)) μ) : ∀ (k lo : Nat) (y : Int) (s4 : Ev.Slot), ∃ s4', forL (fun d ρ μ => (Ev.R.of (setTg (.name 4) d ρ) μ).bind fun ρ μ => evS C mbB ρ μ) ((List.range' lo k).map fun i => .int ((i : Nat) : Int)) (env20 a x m (.sh (.int y)) s4) μ = .ok (.nx (env20 a x m (.sh (.int (it f k y))) s4')) μ
  | 0, lo, y, s4 => ⟨s4, rfl⟩
  | k + 1, lo, y, s4 => by
    obtain ⟨s4', e⟩ := mb_loop f h k (lo + 1) (f y) (.sh (.int (lo : Nat)))
    refine ⟨s4', ?_⟩
    rw [List.range'_succ, List.map_cons]
    unfold forL
    have st : (Ev.R.of (setTg (.name 4) (.int (lo : Nat)) (env20 a x m (.sh (.int y)) s4)) μ).bind (fun ρ μ => evS C mbB ρ μ) = evS C mbB (env20 a x m (.sh (.int y)) (.sh (.int (lo : Nat)))) μ := rfl
    rw [st, mbB_ _ _ (h y)]
    exact e
abbrev env36 (a x m : D) (s3 : Ev.Slot) : Ev.Env := [.sh a, .sh x, .sh m, s3]
theorem meB_ (y v : Int) (h : C.call 27 [a, .int y] μ = .ok (.int v) μ) : evS C meB (env36 a (.int y) m s3) μ = .ok (.nx (env36 a (.int v) m s3)) μ := by simp [meB, h, newSlot]
theorem me_loop (f : Int → Int) (h : ∀ y, C.call 27 [a, .int y] μ = .ok (.int (f y)) μ) : ∀ (k lo : Nat) (y : Int) (s3 : Ev.Slot), ∃ s3', forL (fun d ρ μ => (Ev.R.of (setTg (.name 3) d ρ) μ).bind fun ρ μ => evS C meB ρ μ) ((List.range' lo k).map fun i => .int ((i : Nat) : Int)) (env36 a (.int y) m s3) μ = .ok (.nx (env36 a (.int (it f k y)) m s3')) μ
  | 0, lo, y, s3 => ⟨s3, rfl⟩
  | k + 1, lo, y, s3 => by
    obtain ⟨s3', e⟩ := me_loop f h k (lo + 1) (f y) (.sh (.int (lo : Nat)))
    refine ⟨s3', ?_⟩
    rw [List.range'_succ, List.map_cons]
    unfold forL
    have st : (Ev.R.of (setTg (.name 3) (.int (lo : Nat)) (env36 a (.int y) m s3)) μ).bind (fun ρ μ => evS C meB ρ μ) = evS C meB (env36 a (.int y) m (.sh (.int (lo : Nat)))) μ := rfl
    rw [st, meB_ _ _ (h y)]
    exact e
abbrev env35 (st : D) (m : Int) (s2 s3 s4 : Ev.Slot) : Ev.Env := [.sh st, .sh (.int m), s2, s3, s4]
variable {st : D} {s2 : Ev.Slot}
theorem md1_ (m : Int) (y : D) (h : C.call 29 [st] μ = .ok y μ) : evS C md1 (env35 st m s2 s3 s4) μ = .ok (.nx (env35 st m s2 (.sh (.tup [.int 1, .int 1, .tup [.int 0]])) (.sh y))) μ := by
  simp [md1, h, setPar]
theorem mdB_ (m : Int) (x y x' y' : D) (hx : m % 2 = 1 → ∃ L, C.call 34 [x, y] μ = .ok (.tup [x', .int L]) μ) (hx' : ¬ m % 2 = 1 → x' = x) (hy : 0 < m / 2 → ∃ L, C.call 34 [y, y] μ = .ok (.tup [y', .int L]) μ) (hy' : ¬ 0 < m / 2 → y' = y) : evS C mdB (env35 st m s2 (.sh x) (.sh y)) μ = .ok (.nx (env35 st (m / 2) s2 (.sh x') (.sh y'))) μ := by
  have md := binD_mod m 2 (by decide)
  have f2 := fd2 m
  have i0 : ∀ (z : D) (L : Int), ixM μ (.tup [z, .int L]) (.int 0) = some z := fun _ _ => rfl
  by_cases k : m % 2 = 1
  · obtain ⟨L, e1⟩ := hx k
    by_cases j : 0 < m / 2
    · obtain ⟨L', e2⟩ := hy j
      simp [mdB, md, cmpD_eqI, k, e1, i0, newSlot, f2, cmpD_gt, j, e2, biD_int]
    · rw [hy' j]
      simp [mdB, md, cmpD_eqI, k, e1, i0, newSlot, f2, cmpD_gt, j, biD_int]
  · rw [hx' k]
    by_cases j : 0 < m / 2
    · obtain ⟨L', e2⟩ := hy j
      simp [mdB, md, cmpD_eqI, k, i0, newSlot, f2, cmpD_gt, j, e2, biD_int]
    · rw [hy' j]
      simp [mdB, md, cmpD_eqI, k, newSlot, f2, cmpD_gt, j, biD_int]
theorem md_loop {P : Nat} (hB : ∀ {F G : Int → Int}, Rt F P → Rt G P → ∃ L, C.call 34 [nD (nn F P), nD (nn G P)] μ = .ok (.tup [nD (nn (fun x => G (F x)) P), .int L]) μ) : ∀ (k lo m : Nat) (F G : Int → Int) (s2 : Ev.Slot), Rt F P → Rt G P → m < 2 ^ k → ∃ s2' s4', forL (fun d ρ μ => (Ev.R.of (setTg (.name 2) d ρ) μ).bind fun ρ μ => evS C mdB ρ μ) ((List.range' lo k).map fun i => .int ((i : Nat) : Int)) (env35 st (m : Int) s2 (.sh (nD (nn F P))) (.sh (nD (nn G P)))) μ = .ok (.nx (env35 st 0 s2' (.sh (nD (nn (fun x => it G m (F x)) P))) s4')) μ
  | 0, lo, m, F, G, s2, a, b, hm => by
    have m0 : m = 0 := by simpa using hm
    subst m0
    exact ⟨s2, _, rfl⟩
  | k + 1, lo, m, F, G, s2, a, b, hm => by
    have h2 : m / 2 < 2 ^ k := by rw [Nat.pow_succ] at hm; omega
    have em : ((m : Nat) : Int) / 2 = ((m / 2 : Nat) : Int) := by omega
    have body := mdB_ (C := C) (μ := μ) (st := st) (s2 := .sh (.int (lo : Nat))) (m : Int) (nD (nn F P)) (nD (nn G P)) (nD (nn (if m % 2 = 1 then (fun x => G (F x)) else F) P)) (nD (nn (if 0 < m / 2 then (fun x => G (G x)) else G) P)) (fun h => by rw [if_pos (by omega)]; exact hB a b) (fun h => by rw [if_neg (by omega)]) (fun h => by rw [if_pos (by omega)]; exact hB b b) (fun h => by rw [if_neg (by omega)])
    rw [em] at body
    have ra : Rt (if m % 2 = 1 then (fun x => G (F x)) else F) P := by
      split
      · exact a.comp b
      · exact a
    have rb : Rt (if 0 < m / 2 then (fun x => G (G x)) else G) P := by
      split
      · exact b.comp b
      · exact b
    obtain ⟨s2', s4', e⟩ := md_loop hB k (lo + 1) (m / 2) _ _ (.sh (.int (lo : Nat))) ra rb h2
    refine ⟨s2', s4', ?_⟩
    rw [List.range'_succ, List.map_cons]
    unfold forL
    have stt : (Ev.R.of (setTg (.name 2) (.int (lo : Nat)) (env35 st (m : Int) s2 (.sh (nD (nn F P))) (.sh (nD (nn G P))))) μ).bind (fun ρ μ => evS C mdB ρ μ) = evS C mdB (env35 st (m : Int) (.sh (.int (lo : Nat))) (.sh (nD (nn F P))) (.sh (nD (nn G P)))) μ := rfl
    rw [stt, body]
    dsimp only
    rw [e]
    have ef : (fun x => it (if 0 < m / 2 then (fun x => G (G x)) else G) (m / 2) ((if m % 2 = 1 then (fun x => G (F x)) else F) x)) = fun x => it G m (F x) := by
      funext x
      by_cases j : 0 < m / 2
      · rw [if_pos j, it_two]
        by_cases i : m % 2 = 1
        · rw [if_pos i]
          show it G (2 * (m / 2)) (G (F x)) = _
          have : m = 2 * (m / 2) + 1 := by omega
          conv => rhs; rw [this]
          rfl
        · rw [if_neg i, show 2 * (m / 2) = m by omega]
      · by_cases i : m % 2 = 1
        · have m1 : m = 1 := by omega
          subst m1
          rfl
        · have m0 : m = 0 := by omega
          subst m0
          rfl
    rw [ef]
theorem s39 (W : Ev.R D → Ev.R D) (hcat : ∀ act μ, C.cat 0 act μ = W (act μ)) (d : D) (e : Exn) (h : C.call 20 [a, b, c] μ = .ex e μ) (hw : W (.ex e μ) = .ok d μ) : fnR (evS C La.b39 [.sh a, .sh b, .sh c] μ) = .ok d μ := by
  simp [La.b39, hcat, h, hw]
end
theorem p110 : (1000000000000000000000000000000000 : Nat) < 2 ^ 110 := by decide
theorem inN (k : Nat) (h : k ≤ 1000000000000000000000000000000) : inD 0 1000000000000000000000000000000 (.int (k : Nat)) = true := by
  show (decide (0 ≤ ((k : Nat) : Int)) && decide (((k : Nat) : Int) ≤ 1000000000000000000000000000000)) = true
  rw [decide_eq_true (by omega), decide_eq_true (by omega)]
  rfl
section
variable {n : Nat} {f : Int → Int} {P : Nat} {Q : Int} {t : List Int} {μ : Mu}
theorem cIn (hn : 3 ≤ n) (k : Nat) (h : k ≤ 1000000000000000000000000000000) (μ : Mu) : (Cn n).call 4 [.int (k : Nat), .int 0, .int 1000000000000000000000000000000] μ = .ok .non μ := by
  rw [hChIn hn _ _ _ μ rfl, if_pos (inN k h)]
/-- repeated -/
theorem c19 (hn : 5 ≤ n) (m : Mp f P P t) (p6 : P ≤ 6) (k : Nat) (hk : k ≤ 1000000000000000000000000000000) (μ : Mu) : (Cn n).call 19 [mD P P t, .int (k : Nat)] μ = .ok (nD (nn (it f k) P)) μ := by
  rw [call_ge (d := La.d19) (by omega) rfl rfl]
  exact s19y _ _ (con_n _ 1) (chM (by omega) m μ) (cIn (by omega) k hk μ) (c18 (by omega) m p6 k (by have := p110; omega) μ) (.inl ⟨_, rfl⟩)
theorem c19_0 (hn : 5 ≤ n) (m : Mp f P Q t) (hq : Q ≤ 1000000) (μ : Mu) : (Cn n).call 19 [mD P Q t, .int 0] μ = .ok (.tup [.int 1, .int 1, .tup [.int 0]]) μ := by
  rw [call_ge (d := La.d19) (by omega) rfl rfl]
  exact s19y _ _ (con_n _ 1) (chM (by omega) m μ) (cIn (n := n - 1) (by omega) 0 (by omega) μ) (c18_0 (by omega) m hq μ) (.inl ⟨_, rfl⟩)
theorem c19_1 (hn : 5 ≤ n) (m : Mp f P Q t) (p6 : P ≤ 100) (hq : Q ≤ 1000000) (μ : Mu) : (Cn n).call 19 [mD P Q t, .int 1] μ = .ok (nD (nrm P Q t)) μ := by
  rw [call_ge (d := La.d19) (by omega) rfl rfl]
  exact s19y _ _ (con_n _ 1) (chM (by omega) m μ) (cIn (n := n - 1) (by omega) 1 (by omega) μ) (c18_1 (by omega) m p6 hq μ) (.inl ⟨_, rfl⟩)
theorem c19_x (hn : 5 ≤ n) (m : Mp f P Q t) (h : (P : Int) ≠ Q) (k : Nat) (hk : 1 < k) (hk2 : k ≤ 1000) (μ : Mu) : (Cn n).call 19 [mD P Q t, .int (k : Nat)] μ = .ex ⟨4, none⟩ μ := by
  rw [call_ge (d := La.d19) (by omega) rfl rfl]
  exact s19y _ _ (con_n _ 1) (chM (by omega) m μ) (cIn (by omega) k (by omega) μ) (c18_x (by omega) m h _ (by omega) μ) (.inr ⟨_, rfl⟩)
theorem pvs (hn : 1 ≤ n) (m : Mp f P Q t) (hq : Q ≤ 1000000) (x : Int) (μ : Mu) : (Cn n).call 8 [mD P Q t, .int x] μ = .ok (.int (f x)) μ := pv hn m (by omega) x μ
theorem chI (hn : 2 ≤ n) (x : Int) (μ : Mu) : (Cn n).call 3 [.int x] μ = .ok .non μ := by rw [hChI hn (.int x) μ rfl, if_pos (show isIntD (.int x) = true from rfl)]
/-- after -/
theorem c20w (hn : 6 ≤ n) (m : Mp f P Q t) (hq : Q ≤ 1000000) (x : Int) (k : Nat) (hk : k ≤ 1000) (h : k ≤ 20 ∨ (P : Int) = Q) (μ : Mu) : (Cn n).call 20 [mD P Q t, .int x, .int (k : Nat)] μ = .ok (.int (it f k x)) μ := by
  have e0 : startE La.d20 [mD P Q t, .int x, .int (k : Nat)] = env20 (mD P Q t) (.int x) (.int (k : Nat)) .un .un := rfl
  rw [call_ge (d := La.d20) (by omega) rfl rfl, show La.d20.body = La.b20 from rfl, b20_eq, e0]
  have hr : (k : Int) ≤ 20 ∨ (Cn (n - 1)).call 17 [mD P Q t] μ = .ok .non μ := by
    rcases h with h | h
    · exact .inl (by omega)
    · exact .inr (by rw [cRound (by omega), if_pos h])
  obtain ⟨s4', e⟩ := mb_loop (C := Cn (n - 1)) (μ := μ) (a := mD P Q t) (x := .int x) (m := .int (k : Nat)) f (fun y => pvs (by omega) m hq y μ) k 0 x .un
  have hx : itemsE (.rng (.cons (.var 2) .nil)) (.rng 0 ((k : Nat) : Int)) = some ((List.range' 0 k).map fun i => .int ((i : Nat) : Int)) := by
    show some (rngL _ _) = _
    rw [rngL_nat, List.range_eq_range']
  have e7 : evS (Cn (n - 1)) mb7 (env20 (mD P Q t) (.int x) (.int (k : Nat)) (.sh (.int x)) .un) μ = _ := for_ok (rng1_ok rfl (by omega) (by omega)) hx e
  unfold mbA
  exact fn_rt (stp (mb1_ (chM (by omega) m μ)) (stp (mb2_ (chI (by omega) x μ)) (stp (mb3_ _ (con_n _ 1) (cIn (by omega) k (by omega) μ)) (stp (mb4_ _ (con_n _ 2) hr) (stp (mb5n _ (con_n _ 3) (by omega)) (stp (mb6_ x) (stp e7 (stpR rfl))))))))
theorem c20g (hn : 6 ≤ n) (m : Mp f P P t) (p6 : P ≤ 6) (x : Int) (k : Nat) (hk : k ≤ 1000000000000000000000000000000) (μ : Mu) : (Cn n).call 20 [mD P P t, .int x, .int (k : Nat)] μ = .ok (.int (it f k x)) μ := by
  by_cases z : k ≤ 1000
  · exact c20w hn m (by omega) x k z (.inr rfl) μ
  · have e0 : startE La.d20 [mD P P t, .int x, .int (k : Nat)] = env20 (mD P P t) (.int x) (.int (k : Nat)) .un .un := rfl
    rw [call_ge (d := La.d20) (by omega) rfl rfl, show La.d20.body = La.b20 from rfl, b20_eq, e0]
    have a : Rt f P := ⟨m.toRp.per, m.m⟩
    have T := (a.it k).tm m.p0 p6
    have hr : (Cn (n - 1)).call 17 [mD P P t] μ = .ok .non μ := by rw [cRound (by omega), if_pos rfl]
    have h8 : (Cn (n - 1)).call 8 [nD (nn (it f k) P), .int x] μ = .ok (.int (it f k x)) μ := pvs (by omega) T.m (by have := T.n.hq; have := (a.it k).nm m.p0; have := this.hq; omega) x μ
    unfold mbA
    exact fn_rt (stp (mb1_ (chM (by omega) m μ)) (stp (mb2_ (chI (by omega) x μ)) (stp (mb3_ _ (con_n _ 1) (cIn (by omega) k hk μ)) (stp (mb4_ _ (con_n _ 2) (.inr hr)) (stpR (mb5y _ _ _ (con_n _ 3) (by omega) (c18 (by omega) m p6 k (by have := p110; omega) μ) h8))))))
theorem c20x (hn : 6 ≤ n) (m : Mp f P Q t) (h : (P : Int) ≠ Q) (x : Int) (k : Nat) (hk : 20 < k) (hk2 : k ≤ 1000) (μ : Mu) : (Cn n).call 20 [mD P Q t, .int x, .int (k : Nat)] μ = .ex ⟨4, none⟩ μ := by
  have e0 : startE La.d20 [mD P Q t, .int x, .int (k : Nat)] = env20 (mD P Q t) (.int x) (.int (k : Nat)) .un .un := rfl
  rw [call_ge (d := La.d20) (by omega) rfl rfl, show La.d20.body = La.b20 from rfl, b20_eq, e0]
  have hr : (Cn (n - 1)).call 17 [mD P Q t] μ = .ex ⟨4, none⟩ μ := by rw [cRound (by omega), if_neg h]
  unfold mbA
  exact fn_ex (stp (mb1_ (chM (by omega) m μ)) (stp (mb2_ (chI (by omega) x μ)) (stp (mb3_ _ (con_n _ 1) (cIn (by omega) k (by omega) μ)) (stpX (mb4x _ _ (con_n _ 2) (by omega) hr)))))
/-- own times -/
theorem c36 (hn : 2 ≤ n) (m : Mp f P Q t) (hq : Q ≤ 1000000) (x : Int) (k : Nat) (hk : k ≤ 1000) (μ : Mu) : (Cn n).call 36 [mD P Q t, .int x, .int (k : Nat)] μ = .ok (.int (it f k x)) μ := by
  have e0 : startE La.d36 [mD P Q t, .int x, .int (k : Nat)] = env36 (mD P Q t) (.int x) (.int (k : Nat)) .un := rfl
  rw [call_ge (d := La.d36) (by omega) rfl rfl, show La.d36.body = La.b36 from rfl, b36_eq, e0]
  obtain ⟨s3', e⟩ := me_loop (C := Cn (n - 1)) (μ := μ) (a := mD P Q t) (m := .int (k : Nat)) f (fun y => lv (by omega) m (by omega) y μ) k 0 x .un
  have hx : itemsE (.rng (.cons (.var 2) .nil)) (.rng 0 ((k : Nat) : Int)) = some ((List.range' 0 k).map fun i => .int ((i : Nat) : Int)) := by
    show some (rngL _ _) = _
    rw [rngL_nat, List.range_eq_range']
  have e1 : evS (Cn (n - 1)) me1 (env36 (mD P Q t) (.int x) (.int (k : Nat)) .un) μ = _ := for_ok (rng1_ok rfl (by omega) (by omega)) hx e
  unfold meA
  exact fn_rt (stp e1 (stpR rfl))
/-- own repeated -/
theorem c35 (hn : 5 ≤ n) (m : Mp f P P t) (p6 : P ≤ 6) (k : Nat) (hk : k < 2 ^ 110) (μ : Mu) : (Cn n).call 35 [mD P P t, .int (k : Nat)] μ = .ok (nD (nn (it f k) P)) μ := by
  have p0 := m.p0
  have a : Rt f P := ⟨m.toRp.per, m.m⟩
  have e0 : startE La.d35 [mD P P t, .int (k : Nat)] = env35 (mD P P t) (k : Nat) .un .un .un := rfl
  rw [call_ge (d := La.d35) (by omega) rfl rfl, show La.d35.body = La.b35 from rfl, b35_eq, e0]
  have hnm := lN (n := n - 1) (by omega) (m.ok3 (by omega)) μ
  rw [show nrm P P t = nn f P from m.toRp.eq (Rp.tab p0 a.p)] at hnm
  obtain ⟨s2', s4', e⟩ := md_loop (C := Cn (n - 1)) (μ := μ) (st := mD P P t) (P := P) (fun a b => cO (by omega) a b p0 p6 μ) 110 0 k (fun x => x) f .un (Rt.one P) a hk
  rw [nn_one p0] at e
  have hx : itemsE (.rng (.cons (.int 110) .nil)) (.rng 0 110) = some ((List.range' 0 110).map fun i => .int ((i : Nat) : Int)) := by
    show some (rngL 0 ((110 : Nat) : Int)) = _
    rw [rngL_nat, List.range_eq_range']
  have e2 : evS (Cn (n - 1)) md2 (env35 (mD P P t) (k : Nat) .un (.sh (.tup [.int 1, .int 1, .tup [.int 0]])) (.sh (nD (nn f P)))) μ = _ := for_ok (rng1_ok rfl (by decide) (by decide)) hx e
  unfold mdA
  exact fn_rt (stp (md1_ _ _ hnm) (stp e2 (stpR rfl)))
/-- moved -/
theorem mc2_ {C : Fns} (a : D) (x y : Int) (p q : D) (T : D) (L : List D) (r : D) (h : evE C (.comp (.name 6) (.rng (.cons (.var 3) .nil)) (.bin .add (.call 8 (.cons (.var 0) (.cons (.bin .add (.var 6) (.var 1)) .nil))) (.var 2)) .nil) [.sh a, .sh (.int x), .sh (.int y), .sh p, .sh q, .sh T, .un] μ = .ok (.lst L) μ) (h2 : C.call 11 [.tup [p, q, .tup L]] μ = .ok r μ) : evS C mc2 [.sh a, .sh (.int x), .sh (.int y), .sh p, .sh q, .sh T, .un] μ = .ok (.rt r) μ := by
  simp [mc2, h, biD_tupL, h2]
theorem c21 (hn : 3 ≤ n) (m : Mp f P Q t) (p6 : P ≤ 1000) (hq : Q ≤ 1000000) (x y : Int) (μ : Mu) : (Cn n).call 21 [mD P Q t, .int x, .int y] μ = .ok (nD (nrm P Q (tab (fun j => f (j + x) + y) P))) μ := by
  have q0 := m.q0
  have e0 : startE La.d21 [mD P Q t, .int x, .int y] = [.sh (mD P Q t), .sh (.int x), .sh (.int y), .un, .un, .un, .un] := rfl
  rw [call_ge (d := La.d21) (by omega) rfl rfl, show La.d21.body = La.b21 from rfl, b21_eq, e0]
  have c := comp_rngD (C := Cn (n - 1)) (μ := μ) (ρ := [.sh (mD P Q t), .sh (.int x), .sh (.int y), .sh (.int P), .sh (.int Q), .sh (.tup (t.map .int)), .un]) (it := .rng (.cons (.var 3) .nil)) (elt := (.bin .add (.call 8 (.cons (.var 0) (.cons (.bin .add (.var 6) (.var 1)) .nil))) (.var 2))) (n := P) (k := 6) (h := fun j => .int (f ((j : Nat) + x) + y)) (rng1_ok rfl (by omega) (by omega)) (fun _ => rfl) (by omega) (fun j => [.sh (mD P Q t), .sh (.int x), .sh (.int y), .sh (.int P), .sh (.int Q), .sh (.tup (t.map .int)), .sh (.int (j : Nat))]) (fun _ => rfl) (fun j hj => by
    have h := pvs (n := n - 1) (by omega) m hq ((j : Nat) + x) μ
    simp [binD_add, h])
  have et : (List.range P).map (fun j => D.int (f ((j : Nat) + x) + y)) = (tab (fun j => f (j + x) + y) P).map .int := by
    unfold tab
    rw [List.map_map]
    rfl
  rw [et] at c
  have o : Ok3 P Q (tab (fun j => f (j + x) + y) P) := ⟨m.p0, by omega, by omega, tab_len _ _⟩
  unfold mcA
  exact fn_rt (stp (show evS (Cn (n - 1)) mc1 _ μ = .ok (.nx [.sh (mD P Q t), .sh (.int x), .sh (.int y), .sh (.int P), .sh (.int Q), .sh (.tup (t.map .int)), .un]) μ from rfl) (stpR (mc2_ _ _ _ _ _ _ _ _ c (hNorm (by omega) o μ))))
theorem c22 (hn : 5 ≤ n) (m : Mp f P Q t) (p6 : P ≤ 1000) (hq : Q ≤ 1000000) (x y : Int) (μ : Mu) : (Cn n).call 22 [mD P Q t, .int x, .int y] μ = .ok (nD (nrm P Q (tab (fun j => f (j + x) + y) P))) μ := by
  rw [call_ge (d := La.d22) (by omega) rfl rfl]
  exact s22y _ (chM (by omega) m μ) (chI (by omega) x μ) (chI (by omega) y μ) (c21 (by omega) m p6 hq x y μ)
end
end Pf
end

section
set_option Elab.async false
set_option linter.all false
set_option maxRecDepth 100000
set_option maxHeartbeats 4000000
namespace Pf
open PySem PySem.Spec PyProof.Rows L2 Ev Mt Pg Pr
def mf1 : S := (.par [6, 7] (.cons (.call 24 (.cons (.var 0) (.cons (.int 12) .nil))) (.cons (.bin .add (.bin .mul (.call 24 (.cons (.var 0) (.cons (.bin .pow (.int 10) (.int 9)) .nil))) (.bin .pow (.int 10) (.int 20))) (.call 24 (.cons (.var 0) (.cons (.int 999) .nil)))) .nil)))
def mf2 : S := (.asg false (.name 2) (.call 19 (.cons (.var 1) (.cons (.var 6) .nil))))
def mf3 : S := (.cond (.or (.not (.call 26 (.cons (.var 2) (.cons (.call 35 (.cons (.var 1) (.cons (.var 6) .nil))) .nil)))) (.or1 (.cmp .ne (.call 12 (.cons (.var 2) .nil)) (.var 2)))) (.seq (.ret (.bl false)) .skip) .skip)
def mf4 : S := (.asg false (.name 3) (.bin .sub (.call 24 (.cons (.var 0) (.cons (.int 41) .nil))) (.int 20)))
def mf5 : S := (.asg false (.name 4) (.call 36 (.cons (.var 1) (.cons (.var 3) (.cons (.var 6) .nil)))))
def mf6 : S := (.cond (.or (.cmp .ne (.call 9 (.cons (.var 2) (.cons (.var 3) .nil))) (.var 4)) (.or1 (.not (.call 26 (.cons (.call 20 (.cons (.var 1) (.cons (.var 3) (.cons (.var 6) .nil)))) (.cons (.var 4) .nil)))))) (.seq (.ret (.bl false)) .skip) .skip)
def mf7 : S := (.asg false (.name 5) (.call 19 (.cons (.var 1) (.cons (.var 7) .nil))))
def mf8 : S := (.cond (.or (.not (.call 26 (.cons (.var 5) (.cons (.call 35 (.cons (.var 1) (.cons (.var 7) .nil))) .nil)))) (.or1 (.cmp .ne (.call 20 (.cons (.var 1) (.cons (.var 3) (.cons (.var 7) .nil)))) (.call 9 (.cons (.var 5) (.cons (.var 3) .nil)))))) (.seq (.ret (.bl false)) .skip) .skip)
def mf9 : S := (.cond (.or (.cmp .ne (.call 19 (.cons (.var 1) (.cons (.bin .add (.var 7) (.var 6)) .nil))) (.call 15 (.cons (.var 5) (.cons (.var 2) .nil)))) (.or1 (.cmp .ne (.call 15 (.cons (.var 2) (.cons (.var 5) .nil))) (.call 15 (.cons (.var 5) (.cons (.var 2) .nil)))))) (.seq (.ret (.bl false)) .skip) .skip)
def mf10 : S := (.ret (.cmp .eq (.call 19 (.cons (.call 19 (.cons (.var 1) (.cons (.var 6) .nil))) (.cons (.int 3) .nil))) (.call 19 (.cons (.var 1) (.cons (.bin .mul (.int 3) (.var 6)) .nil)))))
def mfA : S := (.seq mf1 (.seq mf2 (.seq mf3 (.seq mf4 (.seq mf5 (.seq mf6 (.seq mf7 (.seq mf8 (.seq mf9 (.seq mf10 .skip))))))))))
def mg1 : S := (.asg false (.tup (.cons (.name 3) (.cons (.name 4) .nil))) (.tup (.cons (.bin .sub (.call 24 (.cons (.var 0) (.cons (.int 41) .nil))) (.int 20)) (.cons (.call 24 (.cons (.var 0) (.cons (.int 21) .nil))) .nil))))
def mg2 : S := (.cond (.not (.call 26 (.cons (.call 20 (.cons (.var 1) (.cons (.var 3) (.cons (.var 4) .nil)))) (.cons (.call 36 (.cons (.var 1) (.cons (.var 3) (.cons (.var 4) .nil)))) .nil)))) (.seq (.ret (.bl false)) .skip) .skip)
def mg3 : S := (.cond (.or (.cmp .ne (.call 19 (.cons (.var 1) (.cons (.int 0) .nil))) (.tup (.cons (.int 1) (.cons (.int 1) (.cons (.tup (.cons (.int 0) .nil)) .nil))))) (.or1 (.cmp .ne (.call 19 (.cons (.var 1) (.cons (.int 1) .nil))) (.call 12 (.cons (.var 1) .nil))))) (.seq (.ret (.bl false)) .skip) .skip)
def mg4 : S := (.cond (.cmp .ne (.idx (.var 1) (.int 0)) (.idx (.var 1) (.int 1))) (.seq (.asg false (.name 5) (.lst (.cons (.lam 0 (.call 19 (.cons (.var 1) (.cons (.bin .add (.int 2) (.var 4)) .nil)))) (.cons (.call 39 (.cons (.var 1) (.cons (.var 3) (.cons (.bin .add (.int 21) (.var 4)) .nil)))) .nil)))) (.seq (.cond (.cmp .ne (.var 5) (.lst (.cons (.str "round") (.cons (.str "round") .nil)))) (.seq (.ret (.bl false)) .skip) .skip) .skip)) .skip)
def mg5 : S := (.asg false (.tup (.cons (.name 6) (.cons (.name 7) .nil))) (.tup (.cons (.bin .sub (.call 24 (.cons (.var 0) (.cons (.int 41) .nil))) (.int 20)) (.cons (.call 25 (.cons (.var 0) (.cons (.lst (.cons (.bin .sub (.call 24 (.cons (.var 0) (.cons (.int 41) .nil))) (.int 20)) (.cons (.bin .pow (.int 10) (.int 30)) .nil))) .nil))) .nil))))
def mg6 : S := (.asg false (.name 2) (.comp (.name 8) (.rng (.cons (.idx (.var 1) (.int 0)) .nil)) (.bin .add (.call 27 (.cons (.var 1) (.cons (.bin .add (.var 8) (.var 6)) .nil))) (.var 7)) .nil))
def mg7 : S := (.ret (.call 26 (.cons (.call 22 (.cons (.var 1) (.cons (.var 6) (.cons (.var 7) .nil)))) (.cons (.call 30 (.cons (.idx (.var 1) (.int 0)) (.cons (.idx (.var 1) (.int 1)) (.cons (.var 2) .nil)))) .nil))))
def mgA : S := (.seq mg1 (.seq mg2 (.seq mg3 (.seq mg4 (.seq mg5 (.seq mg6 (.seq mg7 .skip)))))))
def mh1 : S := (.asg false (.tup (.cons (.name 4) (.cons (.name 5) .nil))) (.tup (.cons (.call 32 (.cons (.var 0) .nil)) (.cons (.call 33 (.cons (.var 0) .nil)) .nil))))
def mh2 : S := (.asg false (.name 2) (.call 25 (.cons (.var 0) (.cons (.lst (.cons (.neg (.int 1)) (.cons (.bin .add (.bin .pow (.int 10) (.int 30)) (.int 1)) (.cons (.var 5) .nil)))) .nil))))
def mh3 : S := (.asg true (.name 3) (.lst (.cons (.lam 0 (.call 19 (.cons (.var 4) (.cons (.var 2) .nil)))) .nil)))
def mh4 : S := (.app 3 (.lam 0 (.call 20 (.cons (.var 4) (.cons (.var 5) (.cons (.var 2) .nil))))))
def mh5 : S := (.app 3 (.lam 0 (.call 19 (.cons (.var 1) (.cons (.var 2) .nil)))))
def mh6 : S := (.app 3 (.call 39 (.cons (.var 1) (.cons (.var 5) (.cons (.int 1) .nil)))))
def mh7 : S := (.app 3 (.call 39 (.cons (.var 1) (.cons (.int 0) (.cons (.var 2) .nil)))))
def mh8 : S := (.app 3 (.lam 0 (.call 22 (.cons (.var 4) (.cons (.var 5) (.cons (.var 5) .nil))))))
def mh9 : S := (.app 3 (.lam 0 (.call 22 (.cons (.var 1) (.cons (.var 5) (.cons (.int 0) .nil))))))
def mh10 : S := (.app 3 (.lam 0 (.call 22 (.cons (.var 1) (.cons (.int 0) (.cons (.var 5) .nil))))))
def mh11 : S := (.ret (.cmp .eq (.pk 3) (.lst (.cons (.str "map") (.cons (.str "map") (.cons (.str "number") (.cons (.str "number") (.cons (.str "number") (.cons (.str "map") (.cons (.str "number") (.cons (.str "number") .nil)))))))))))
def mhA : S := (.seq mh1 (.seq mh2 (.seq mh3 (.seq mh4 (.seq mh5 (.seq mh6 (.seq mh7 (.seq mh8 (.seq mh9 (.seq mh10 (.seq mh11 .skip)))))))))))
theorem b37_eq : La.b37 = mfA := rfl
theorem b38_eq : La.b38 = mgA := rfl
theorem b40_eq : La.b40 = mhA := rfl
theorem big40 : (10000000000000000000000000000000000000000 : Nat) = 10 ^ 40 := by decide
theorem Hp.big {i : Int} (h : i.natAbs < 10000000000000000000000000000000000000000) : Hp (.int i) 41 0 := by
  rw [big40] at h
  have lg : i.natAbs.log2 < 1920 := by
    by_cases z : i.natAbs = 0
    · rw [z]
      decide
    · have := (Nat.log2_lt (k := 133) z).mpr (Nat.lt_trans h (by decide))
      omega
  refine ⟨_, rfl, by simp only [PyData.showable, lg, decide_true], rfl, Nat.le_refl _, ?_, strOk_of _⟩
  show (Str.ofString (toString i)).length ≤ 41
  rw [PySem.ofString_length]
  exact int_text_length_le10 (by decide) h
theorem nn_hp {F : Int → Int} {P : Nat} (p0 : 0 < P) (p6 : P ≤ 6) {Q : Int} (hp : Mt.per F P Q) (q0 : 0 ≤ Q) (q1 : Q ≤ 1000) (hv : ∀ x : Int, 0 ≤ x → x ≤ 6 → (F x).natAbs < 10000000000000000000000000000000000000000) : Hp (nD (nrm P Q (tab F P))) 1000 2 := by
  have N : Nm F P Q (nrm P Q (tab F P)) := Nm.of (Rp.tab p0 hp) (Nat.le_refl _) ⟨q0, Int.le_refl _⟩
  have rp := N.rp
  have h1 := N.hp
  have h2 := N.hq
  have et := tab_of rp
  generalize nrm P Q (tab F P) = r at *
  obtain ⟨p, q, t⟩ := r
  dsimp only at h1 h2 et rp
  have A : Hp (.tup (t.map .int)) 285 1 := by
    refine (Hp.tup (n := 41) (k := 0) (ds := t.map .int) (fun d hd => ?_)).up (by rw [List.length_map, rp.l]; omega) (by decide)
    obtain ⟨z, hz, rfl⟩ := List.mem_map.mp hd
    rw [et] at hz
    obtain ⟨i, hi, rfl⟩ := tab_mem.mp hz
    exact Hp.big (hv i (by omega) (by omega))
  refine (Hp.tup (n := 285) (k := 1) (ds := [.int p, .int q, .tup (t.map .int)]) (fun d hd => ?_)).up (by simp) (by decide)
  simp only [List.mem_cons, List.not_mem_nil, or_false] at hd
  rcases hd with rfl | rfl | rfl
  · exact (Hp.int (by omega)).up (by decide) (by decide)
  · exact (Hp.int (by omega)).up (by decide) (by decide)
  · exact A
theorem it_near {f : Int → Int} (h : ∀ x, -40 ≤ f x - x ∧ f x - x ≤ 40) : ∀ (k : Nat) (x : Int), -(40 * (k : Int)) ≤ it f k x - x ∧ it f k x - x ≤ 40 * (k : Int)
  | 0, x => by
    show -(40 * ((0 : Nat) : Int)) ≤ x - x ∧ x - x ≤ 40 * ((0 : Nat) : Int)
    omega
  | k + 1, x => by
    have a := it_near h k (f x)
    have b := h x
    show -(40 * ((k + 1 : Nat) : Int)) ≤ it f k (f x) - x ∧ it f k (f x) - x ≤ 40 * ((k + 1 : Nat) : Int)
    omega
theorem it_far {f : Int → Int} (h : ∀ x X : Int, -X ≤ x → x ≤ X → -(8 * X + 20) ≤ f x ∧ f x ≤ 8 * X + 20) : ∀ (k : Nat) (x X : Int), -X ≤ x → x ≤ X → -((8 ^ k : Nat) * (X + 3) : Int) ≤ it f k x ∧ it f k x ≤ (8 ^ k : Nat) * (X + 3)
  | 0, x, X, h1, h2 => by
    show -(((1 : Nat) : Int) * (X + 3)) ≤ x ∧ x ≤ ((1 : Nat) : Int) * (X + 3)
    omega
  | k + 1, x, X, h1, h2 => by
    have a := h x X h1 h2
    have b := it_far h k (f x) (8 * X + 20) a.1 a.2
    have p8 : (8 : Nat) ^ (k + 1) = 8 ^ k * 8 := Nat.pow_succ ..
    rw [p8]
    obtain ⟨A, hA⟩ : ∃ A : Nat, A = 8 ^ k := ⟨_, rfl⟩
    rw [← hA] at b ⊢
    have e : ((A * 8 : Nat) : Int) * (X + 3) = (A : Int) * (8 * X + 20 + 3) + (A : Int) := by
      rw [Int.natCast_mul, Int.mul_assoc]
      rw [show 8 * X + 20 + 3 = ((8 : Nat) : Int) * (X + 3) - 1 by omega, Int.mul_sub, Int.mul_one]
      omega
    show -(((A * 8 : Nat) : Int) * (X + 3)) ≤ it f k (f x) ∧ it f k (f x) ≤ ((A * 8 : Nat) : Int) * (X + 3)
    rw [e]
    omega
theorem dr_near {P : Nat} {t : List Int} (d : Dr P P t) (x : Int) : -40 ≤ vl P P t x - x ∧ vl P P t x - x ≤ 40 := by
  have p0 := d.m.p0
  have l := d.m.l
  have p6 := d.p
  have e0 := Int.emod_nonneg x (show (P : Int) ≠ 0 by omega)
  have e1 := Int.emod_lt_of_pos x (show (0 : Int) < P by omega)
  have e2 := Int.emod_add_mul_ediv x P
  have hm : t.getD (x % (P : Int)).toNat 0 ∈ t := by
    rw [List.getD_eq_getElem?_getD, List.getElem?_eq_getElem (show (x % (P : Int)).toNat < t.length by omega)]
    exact List.getElem_mem _
  have hv := d.v _ hm
  unfold vl
  rw [Int.mul_comm]
  generalize t.getD (x % (P : Int)).toNat 0 = v at hv
  omega
theorem dr_far {P : Nat} {Q : Int} {t : List Int} (d : Dr P Q t) (x X : Int) (h1 : -X ≤ x) (h2 : x ≤ X) : -(8 * X + 20) ≤ vl P Q t x ∧ vl P Q t x ≤ 8 * X + 20 := by
  have p0 := d.m.p0
  have l := d.m.l
  have p6 := d.p
  have q0 := d.m.q0
  have q7 := d.q
  have e0 := Int.emod_nonneg x (show (P : Int) ≠ 0 by omega)
  have e1 := Int.emod_lt_of_pos x (show (0 : Int) < P by omega)
  have hm : t.getD (x % (P : Int)).toNat 0 ∈ t := by
    rw [List.getD_eq_getElem?_getD, List.getElem?_eq_getElem (show (x % (P : Int)).toNat < t.length by omega)]
    exact List.getElem_mem _
  have hv := d.v _ hm
  unfold vl
  generalize t.getD (x % (P : Int)).toNat 0 = v at hv
  have hb : -X ≤ x / (P : Int) ∧ x / (P : Int) ≤ X := by
    rcases (show P = 1 ∨ P = 2 ∨ P = 3 ∨ P = 4 ∨ P = 5 ∨ P = 6 by omega) with rfl | rfl | rfl | rfl | rfl | rfl <;> omega
  generalize x / (P : Int) = b at hb
  rcases (show Q = 0 ∨ Q = 1 ∨ Q = 2 ∨ Q = 3 ∨ Q = 4 ∨ Q = 5 ∨ Q = 6 ∨ Q = 7 by omega) with rfl | rfl | rfl | rfl | rfl | rfl | rfl | rfl <;> omega
def Wd (r : Ev.R D) : Ev.R D := catR (fns0 La.con) La.c0.d r
theorem hcat (n : Nat) (act : Mu → Ev.R D) (μ : Mu) : (Cn n).cat 0 act μ = Wd (act μ) := by
  show (fnsAt La.con (tabOf La.ds) (catsOf La.cs) n).cat 0 act μ = _
  rw [fnsAt_cat]
  rfl
theorem wd2 (μ : Mu) : Wd (.ex ⟨2, none⟩ μ) = .ok (.str "map") μ := by rfl
theorem wd3 (μ : Mu) : Wd (.ex ⟨3, none⟩ μ) = .ok (.str "number") μ := by rfl
theorem wd4 (μ : Mu) : Wd (.ex ⟨4, none⟩ μ) = .ok (.str "round") μ := by rfl
section
variable {C : Fns} {μ μ1 μ2 μ3 : Mu} {a : D} {s2 s3 s4 s5 s6 s7 : Ev.Slot}
abbrev env37 (a : D) (s2 s3 s4 s5 s6 s7 : Ev.Slot) : Ev.Env := [.sh (.cell 0), .sh a, s2, s3, s4, s5, s6, s7]
theorem mf1_ (u v w : Int) (h1 : C.call 24 [.cell 0, .int 12] μ = .ok (.int u) μ1) (h2 : C.call 24 [.cell 0, .int 1000000000] μ1 = .ok (.int v) μ2) (h3 : C.call 24 [.cell 0, .int 999] μ2 = .ok (.int w) μ3) (hv : v.natAbs < 2 ^ 64) : evS C mf1 (env37 a s2 s3 s4 s5 s6 s7) μ = .ok (.nx (env37 a s2 s3 s4 s5 (.sh (.int u)) (.sh (.int (v * 100000000000000000000 + w))))) μ3 := by
  have m := binD_mul v 100000000000000000000 (mulOk_l hv)
  simp [mf1, h1, h2, h3, binD_pow, m, binD_add, setPar]
theorem mf2_ (u : D) (r : D) (h : C.call 19 [a, u] μ = .ok r μ) : evS C mf2 (env37 a s2 s3 s4 s5 (.sh u) s7) μ = .ok (.nx (env37 a (.sh r) s3 s4 s5 (.sh u) s7)) μ := by simp [mf2, h, newSlot]
theorem mf3_ (u r : D) (h : C.call 35 [a, u] μ = .ok r μ) (h2 : C.call 26 [r, r] μ = .ok (.bl true) μ) (h3 : C.call 12 [r] μ = .ok r μ) (ne : cmpD .ne r r = some false) : evS C mf3 (env37 a (.sh r) s3 s4 s5 (.sh u) s7) μ = .ok (.nx (env37 a (.sh r) s3 s4 s5 (.sh u) s7)) μ := by simp [mf3, h, h2, h3, ne]
theorem mf4_ (u : Int) (h : C.call 24 [.cell 0, .int 41] μ = .ok (.int u) μ1) : evS C mf4 (env37 a s2 s3 s4 s5 s6 s7) μ = .ok (.nx (env37 a s2 (.sh (.int (u - 20))) s4 s5 s6 s7)) μ1 := by simp [mf4, h, binD_sub, newSlot]
theorem mf5_ (x u d : D) (h : C.call 36 [a, x, u] μ = .ok d μ) : evS C mf5 (env37 a s2 (.sh x) s4 s5 (.sh u) s7) μ = .ok (.nx (env37 a s2 (.sh x) (.sh d) s5 (.sh u) s7)) μ := by simp [mf5, h, newSlot]
theorem mf6_ (r x u : D) (d : Int) (h1 : C.call 9 [r, x] μ = .ok (.int d) μ) (h2 : C.call 20 [a, x, u] μ = .ok (.int d) μ) (h3 : C.call 26 [.int d, .int d] μ = .ok (.bl true) μ) : evS C mf6 (env37 a (.sh r) (.sh x) (.sh (.int d)) s5 (.sh u) s7) μ = .ok (.nx (env37 a (.sh r) (.sh x) (.sh (.int d)) s5 (.sh u) s7)) μ := by simp [mf6, h1, h2, h3, cmpD_neI]
theorem mf7_ (v w : D) (h : C.call 19 [a, v] μ = .ok w μ) : evS C mf7 (env37 a s2 s3 s4 s5 s6 (.sh v)) μ = .ok (.nx (env37 a s2 s3 s4 (.sh w) s6 (.sh v))) μ := by simp [mf7, h, newSlot]
theorem mf8_ (v w x : D) (d : Int) (h1 : C.call 35 [a, v] μ = .ok w μ) (h2 : C.call 26 [w, w] μ = .ok (.bl true) μ) (h3 : C.call 20 [a, x, v] μ = .ok (.int d) μ) (h4 : C.call 9 [w, x] μ = .ok (.int d) μ) : evS C mf8 (env37 a s2 (.sh x) s4 (.sh w) s6 (.sh v)) μ = .ok (.nx (env37 a s2 (.sh x) s4 (.sh w) s6 (.sh v))) μ := by simp [mf8, h1, h2, h3, h4, cmpD_neI]
theorem mf9_ (u v : Int) (r w z : D) (h1 : C.call 19 [a, .int (v + u)] μ = .ok z μ) (h2 : C.call 15 [w, r] μ = .ok z μ) (h3 : C.call 15 [r, w] μ = .ok z μ) (ne : cmpD .ne z z = some false) : evS C mf9 (env37 a (.sh r) s3 s4 (.sh w) (.sh (.int u)) (.sh (.int v))) μ = .ok (.nx (env37 a (.sh r) s3 s4 (.sh w) (.sh (.int u)) (.sh (.int v)))) μ := by simp [mf9, binD_add, h1, h2, h3, ne]
theorem mf10_ (u : Int) (hu : u.natAbs < 2 ^ 64) (y z : D) (h1 : C.call 19 [a, .int u] μ = .ok y μ) (h2 : C.call 19 [y, .int 3] μ = .ok z μ) (h3 : C.call 19 [a, .int (3 * u)] μ = .ok z μ) (e : cmpD .eq z z = some true) : evS C mf10 (env37 a s2 s3 s4 s5 (.sh (.int u)) s7) μ = .ok (.rt (.bl true)) μ := by
  have m := binD_mul 3 u (mulOk_r hu)
  simp [mf10, h1, h2, m, h3, e]
end
section
variable {n : Nat} {P : Nat} {t : List Int} {μ : Mu}
theorem bh (hn : 5 ≤ n) {F G : Int → Int} (a : Rt F P) (b : Rt G P) (p0 : 0 < P) (p6 : P ≤ 6) (μ : Mu) : (Cn n).call 15 [nD (nn F P), nD (nn G P)] μ = .ok (nD (nn (fun x => G (F x)) P)) μ := by
  have pp : P * P ≤ 6 * 6 := Nat.mul_le_mul p6 p6
  obtain ⟨r, e, N⟩ := c17 (n := n) hn (a.tm p0 p6) (b.tm p0 p6) (by omega) (by omega) (by omega) μ
  rw [(a.comp b).eq p0 N] at e
  exact e
/-- what is asked of a drawn map that comes round with itself -/
theorem c37 (hn : 8 ≤ n) (h : HandG μ) (d : Dr P P t) : ∃ μ', (Cn n).call 37 [.cell 0, mD P P t] μ = .ok (.bl true) μ' ∧ HandG μ' := by
  obtain ⟨k, hk⟩ : ∃ k, k = n - 1 := ⟨_, rfl⟩
  have hn' : 7 ≤ k := by omega
  have e0 : startE La.d37 [.cell 0, mD P P t] = env37 (mD P P t) .un .un .un .un .un .un := rfl
  rw [call_ge (d := La.d37) (by omega) rfl rfl, show La.d37.body = La.b37 from rfl, b37_eq, ← hk, e0]
  have m := d.m
  have p0 := m.p0
  have p6 := d.p
  have near := dr_near d
  generalize vl P P t = f at *
  have a : Rt f P := ⟨m.toRp.per, m.m⟩
  obtain ⟨u, μ1, d1, u0, u1, g1⟩ := hDr (n := k) (by omega) (many := 12) h (by decide) (by decide)
  obtain ⟨v, μ2, d2, v0, v1, g2⟩ := hDr (n := k) (by omega) (many := 1000000000) g1 (by decide) (by decide)
  obtain ⟨w, μ3, d3, w0, w1, g3⟩ := hDr (n := k) (by omega) (many := 999) g2 (by decide) (by decide)
  obtain ⟨x, μ4, d4, x0, x1, g4⟩ := hDr (n := k) (by omega) (many := 41) g3 (by decide) (by decide)
  obtain ⟨U, rfl⟩ : ∃ U : Nat, u = (U : Int) := ⟨u.toNat, by omega⟩
  obtain ⟨V, hV⟩ : ∃ V : Nat, (V : Int) = v * 100000000000000000000 + w := ⟨(v * 100000000000000000000 + w).toNat, by omega⟩
  have hV2 : V ≤ 999999999900000000000000000998 := by omega
  have E1 := mf1_ (C := Cn k) (a := mD P P t) (s2 := .un) (s3 := .un) (s4 := .un) (s5 := .un) (s6 := .un) (s7 := .un) U v w d1 d2 d3 (q64 (by omega))
  rw [← hV] at E1
  have val : ∀ (j : Nat) (y : Int), j ≤ 1000000000000000000000000000000 → -100 ≤ y → y ≤ 100 → (it f j y).natAbs < 10000000000000000000000000000000000000000 := fun j y h1 h2 h3 => by
    have := it_near near j y
    omega
  have rep : ∀ j : Nat, j ≤ 1000000000000000000000000000000 → ∃ s, Rep (nD (nn (it f j) P)) s := fun j hj => (nn_hp p0 p6 (a.it j).p (by omega) (by omega) (fun y h1 h2 => val j y hj (by omega) (by omega))).rep (by decide) (by decide)
  have RU := a.it U
  have RV := a.it V
  have TU := RU.tm p0 p6
  have TV := RV.tm p0 p6
  have qU : (nn (it f U) P).2.1 ≤ 1000 := by have := (RU.nm p0).hq; omega
  have qV : (nn (it f V) P).2.1 ≤ 1000 := by have := (RV.nm p0).hq; omega
  have b19 := c19 (n := k) (by omega) m p6 U (by omega) μ3
  have b35 := c35 (n := k) (by omega) m p6 U (by have := p110; omega) μ3
  have b12 : (Cn k).call 12 [nD (nn (it f U) P)] μ3 = .ok (nD (nn (it f U) P)) μ3 := by
    have := c13 (n := k) (by omega) TU.m (by omega) μ3
    rw [RU.eq p0 TU.n] at this
    exact this
  have E2 := mf2_ (C := Cn k) (s2 := .un) (s3 := .un) (s4 := .un) (s5 := .un) (s7 := .sh (.int V)) _ _ b19
  have E3 := mf3_ (C := Cn k) (s3 := .un) (s4 := .un) (s5 := .un) (s7 := .sh (.int V)) _ _ b35 (same (n := k) (by omega) (rep U (by omega)) μ3) b12 (ne_nD _)
  have E4 := mf4_ (C := Cn k) (a := mD P P t) (s2 := .sh (nD (nn (it f U) P))) (s3 := .un) (s4 := .un) (s5 := .un) (s6 := .sh (.int U)) (s7 := .sh (.int V)) x d4
  have E5 := mf5_ (C := Cn k) (s2 := .sh (nD (nn (it f U) P))) (s4 := .un) (s5 := .un) (s7 := .sh (.int V)) _ _ _ (c36 (n := k) (by omega) m (by omega) (x - 20) U (by omega) μ4)
  have E6 := mf6_ (C := Cn k) (s5 := .un) (s7 := .sh (.int V)) (nD (nn (it f U) P)) (.int (x - 20)) (.int U) _ (c10 (n := k) (by omega) TU.m (by omega) (x - 20) μ4) (c20w (n := k) (by omega) m (by omega) (x - 20) U (by omega) (.inl (by omega)) μ4) (same (n := k) (by omega) ((Hp.big (val U (x - 20) (by omega) (by omega) (by omega))).rep (by decide) (by decide)) μ4)
  have E7 := mf7_ (C := Cn k) (s2 := .sh (nD (nn (it f U) P))) (s3 := .sh (.int (x - 20))) (s4 := .sh (.int (it f U (x - 20)))) (s5 := .un) (s6 := .sh (.int U)) _ _ (c19 (n := k) (by omega) m p6 V (by omega) μ4)
  have E8 := mf8_ (C := Cn k) (s2 := .sh (nD (nn (it f U) P))) (s4 := .sh (.int (it f U (x - 20)))) (s6 := .sh (.int U)) (.int V) (nD (nn (it f V) P)) (.int (x - 20)) _ (c35 (n := k) (by omega) m p6 V (by have := p110; omega) μ4) (same (n := k) (by omega) (rep V (by omega)) μ4) (c20g (n := k) (by omega) m p6 (x - 20) V (by omega) μ4) (c10 (n := k) (by omega) TV.m (by omega) (x - 20) μ4)
  have z1 := c19 (n := k) (by omega) m p6 (V + U) (by omega) μ4
  rw [Int.natCast_add] at z1
  have z2 := bh (n := k) (by omega) RV RU p0 p6 μ4
  have z3 := bh (n := k) (by omega) RU RV p0 p6 μ4
  rw [show (fun x => it f U (it f V x)) = it f (V + U) from funext fun x => (it_add f U V x).symm] at z2
  rw [show (fun x => it f V (it f U x)) = it f (V + U) from funext fun x => by rw [Nat.add_comm, it_add f V U x]] at z3
  have E9 := mf9_ (C := Cn k) (s3 := .sh (.int (x - 20))) (s4 := .sh (.int (it f U (x - 20)))) (U : Int) (V : Int) _ _ _ z1 z2 z3 (ne_nD _)
  have y1 := c19 (n := k) (by omega) m p6 U (by omega) μ4
  have y3 := c19 (n := k) (by omega) m p6 (3 * U) (by omega) μ4
  have y2 : (Cn k).call 19 [nD (nn (it f U) P), .int 3] μ4 = .ok (nD (nn (it f (3 * U)) P)) μ4 := by
    have rise : (nn (it f U) P).2.1 = ((nn (it f U) P).1 : Nat) := by
      have := per_rise TU.m.toRp.per RU.p
      rw [Int.mul_comm (P : Int)] at this
      exact Int.eq_of_mul_eq_mul_right (show (P : Int) ≠ 0 by omega) this
    have pU := (RU.nm p0).hp
    have M := TU.m
    generalize nn (it f U) P = r at rise pU M
    obtain ⟨p, q, s⟩ := r
    dsimp only at rise M pU
    subst rise
    have r3 : Rt (it f U) p := ⟨M.toRp.per, M.m⟩
    have e := c19 (n := k) (by omega) M (by omega) 3 (by omega) μ4
    have q3 := (Rp.tab M.p0 (r3.it 3).p).eq (show Rp (it (it f U) 3) P P (tab (it f (3 * U)) P) by
      rw [show it (it f U) 3 = it f (3 * U) from funext fun x => it_mul f U 3 x]
      exact Rp.tab p0 (a.it (3 * U)).p)
    have q3' : nn (it (it f U) 3) p = nn (it f (3 * U)) P := q3
    rw [q3'] at e
    exact e
  have e3 : ((3 * U : Nat) : Int) = 3 * (U : Int) := by omega
  rw [e3] at y3
  have E10 := mf10_ (C := Cn k) (s2 := .sh (nD (nn (it f U) P))) (s3 := .sh (.int (x - 20))) (s4 := .sh (.int (it f U (x - 20)))) (s5 := .sh (nD (nn (it f V) P))) (s7 := .sh (.int V)) (U : Int) (q64 (by omega)) _ _ y1 y2 y3 (eq_nD _)
  refine ⟨μ4, ?_, g4⟩
  unfold mfA
  exact fn_rt (stp E1 (stp E2 (stp E3 (stp E4 (stp E5 (stp E6 (stp E7 (stp E8 (stp E9 (stpR E10))))))))))
end
end Pf
end

section
set_option Elab.async false
set_option linter.all false
set_option maxRecDepth 100000
set_option maxHeartbeats 4000000
namespace Pf
open PySem PySem.Spec PyProof.Rows L2 Ev Mt Pg Pr
theorem rr_ne : cmpD .ne (.lst [.str "round", .str "round"]) (.lst [.str "round", .str "round"]) = some false := by
  refine neD_self (d := .lst [.str "round", .str "round"]) (p := .list [.str "round", .str "round"]) rfl ?_
  simp [SeqAt.shaped, PyData.canLay0, PyData.canLayAll0, PyData.depth, PyData.depthAll, strOk_of]
section
variable {C : Fns} {μ μ1 μ2 μ3 : Mu} {a : D} {s2 s3 s4 s5 s6 s7 : Ev.Slot}
abbrev env38 (a : D) (s2 s3 s4 s5 s6 s7 : Ev.Slot) : Ev.Env := [.sh (.cell 0), .sh a, s2, s3, s4, s5, s6, s7, .un]
theorem mg1_ (u v : Int) (h1 : C.call 24 [.cell 0, .int 41] μ = .ok (.int u) μ1) (h2 : C.call 24 [.cell 0, .int 21] μ1 = .ok (.int v) μ2) : evS C mg1 (env38 a s2 s3 s4 s5 s6 s7) μ = .ok (.nx (env38 a s2 (.sh (.int (u - 20))) (.sh (.int v)) s5 s6 s7)) μ2 := by
  simp [mg1, h1, h2, binD_sub, setTg]
theorem mg2_ (x u d : D) (h1 : C.call 20 [a, x, u] μ = .ok d μ) (h2 : C.call 36 [a, x, u] μ = .ok d μ) (h3 : C.call 26 [d, d] μ = .ok (.bl true) μ) : evS C mg2 (env38 a s2 (.sh x) (.sh u) s5 s6 s7) μ = .ok (.nx (env38 a s2 (.sh x) (.sh u) s5 s6 s7)) μ := by
  simp [mg2, h1, h2, h3]
theorem mg3_ (z : D) (h1 : C.call 19 [a, .int 0] μ = .ok (.tup [.int 1, .int 1, .tup [.int 0]]) μ) (h2 : C.call 19 [a, .int 1] μ = .ok z μ) (h3 : C.call 12 [a] μ = .ok z μ) (ne : cmpD .ne z z = some false) : evS C mg3 (env38 a s2 s3 s4 s5 s6 s7) μ = .ok (.nx (env38 a s2 s3 s4 s5 s6 s7)) μ := by
  have n1 : cmpD .ne (.tup [.int 1, .int 1, .tup [.int 0]]) (.tup [.int 1, .int 1, .tup [.int 0]]) = some false := ne_mD 1 1 [0]
  simp [mg3, h1, h2, h3, ne, n1]
theorem mg4n (p : Int) (i0 : ixM μ a (.int 0) = some (.int p)) (i1 : ixM μ a (.int 1) = some (.int p)) : evS C mg4 (env38 a s2 s3 s4 s5 s6 s7) μ = .ok (.nx (env38 a s2 s3 s4 s5 s6 s7)) μ := by
  simp [mg4, i0, i1, cmpD_neI]
theorem mg4y (W : Ev.R D → Ev.R D) (hcat : ∀ act μ, C.cat 0 act μ = W (act μ)) (w4 : ∀ μ, W (.ex ⟨4, none⟩ μ) = .ok (.str "round") μ) (p q u : Int) (x : D) (i0 : ixM μ a (.int 0) = some (.int p)) (i1 : ixM μ a (.int 1) = some (.int q)) (ne : p ≠ q) (h1 : C.call 19 [a, .int (2 + u)] μ = .ex ⟨4, none⟩ μ) (h2 : C.call 39 [a, x, .int (21 + u)] μ = .ok (.str "round") μ) : ∃ s5', evS C mg4 (env38 a s2 (.sh x) (.sh (.int u)) s5 s6 s7) μ = .ok (.nx (env38 a s2 (.sh x) (.sh (.int u)) s5' s6 s7)) μ := by
  have e := rr_ne
  refine ⟨.sh (.lst [.str "round", .str "round"]), ?_⟩
  simp [mg4, i0, i1, cmpD_neI, ne, hcat, binD_add, h1, w4, h2, newSlot, e]
theorem mg5_ (u v : Int) (w : D) (h1 : C.call 24 [.cell 0, .int 41] μ = .ok (.int u) μ1) (h2 : C.call 24 [.cell 0, .int 41] μ1 = .ok (.int v) μ2) (h3 : C.call 25 [.cell 0, .lst [.int (v - 20), .int 1000000000000000000000000000000]] μ2 = .ok w μ3) : evS C mg5 (env38 a s2 s3 s4 s5 s6 s7) μ = .ok (.nx (env38 a s2 s3 s4 s5 (.sh (.int (u - 20))) (.sh w))) μ3 := by
  simp [mg5, h1, h2, binD_sub, binD_pow, h3, setTg]
def mgE : E := (.bin .add (.call 27 (.cons (.var 1) (.cons (.bin .add (.var 8) (.var 6)) .nil))) (.var 7))
theorem mg6_ (L : List D) (h : evE C (.comp (.name 8) (.rng (.cons (.idx (.var 1) (.int 0)) .nil)) mgE .nil) (env38 a s2 s3 s4 s5 s6 s7) μ = .ok (.lst L) μ) : evS C mg6 (env38 a s2 s3 s4 s5 s6 s7) μ = .ok (.nx (env38 a (.sh (.lst L)) s3 s4 s5 s6 s7)) μ := by
  unfold mgE at h
  simp [mg6, h, newSlot]
theorem mg7_ (p q x y L z : D) (i0 : ixM μ a (.int 0) = some p) (i1 : ixM μ a (.int 1) = some q) (h1 : C.call 22 [a, x, y] μ = .ok z μ) (h2 : C.call 30 [p, q, L] μ = .ok z μ) (h3 : C.call 26 [z, z] μ = .ok (.bl true) μ) : evS C mg7 (env38 a (.sh L) s3 s4 s5 (.sh x) (.sh y)) μ = .ok (.rt (.bl true)) μ := by
  simp [mg7, i0, i1, h1, h2, h3]
end
section
variable {n : Nat} {P : Nat} {Q : Int} {t : List Int} {f : Int → Int} {μ : Mu}
theorem c38 (hn : 8 ≤ n) (h : HandG μ) (d : Dr P Q t) : ∃ μ', (Cn n).call 38 [.cell 0, mD P Q t] μ = .ok (.bl true) μ' ∧ HandG μ' := by
  obtain ⟨k, hk⟩ : ∃ k, k = n - 1 := ⟨_, rfl⟩
  have hn' : 7 ≤ k := by omega
  have e0 : startE La.d38 [.cell 0, mD P Q t] = env38 (mD P Q t) .un .un .un .un .un .un := rfl
  rw [call_ge (d := La.d38) (by omega) rfl rfl, show La.d38.body = La.b38 from rfl, b38_eq, ← hk, e0]
  have m := d.m
  have p0 := m.p0
  have p6 := d.p
  have q0 := m.q0
  have q7 := d.q
  have far := dr_far d
  generalize vl P Q t = f at *
  obtain ⟨x, μ1, d1, x0, x1, g1⟩ := hDr (n := k) (by omega) (many := 41) h (by decide) (by decide)
  obtain ⟨u, μ2, d2, u0, u1, g2⟩ := hDr (n := k) (by omega) (many := 21) g1 (by decide) (by decide)
  obtain ⟨y, μ3, d3, y0, y1, g3⟩ := hDr (n := k) (by omega) (many := 41) g2 (by decide) (by decide)
  obtain ⟨v, μ4, d4, v0, v1, g4⟩ := hDr (n := k) (by omega) (many := 41) g3 (by decide) (by decide)
  obtain ⟨w, hw, μ5, d5, g5⟩ := hAny (n := k) (by omega) (xs := [.int (v - 20), .int 1000000000000000000000000000000]) g4 (by simp) (by simp)
  have hw' : ∃ z : Int, w = .int z ∧ -100 ≤ z ∧ z ≤ 1000000000000000000000000000000 := by
    simp only [List.mem_cons, List.not_mem_nil, or_false] at hw
    rcases hw with rfl | rfl
    · exact ⟨_, rfl, by omega, by omega⟩
    · exact ⟨_, rfl, by decide, by decide⟩
  obtain ⟨z, rfl, z0, z1⟩ := hw'
  obtain ⟨U, rfl⟩ : ∃ U : Nat, u = (U : Int) := ⟨u.toNat, by omega⟩
  have bd := it_far far U (x - 20) 20 (by omega) (by omega)
  have p8 : 8 ^ U ≤ 8 ^ 20 := Nat.pow_le_pow_right (by decide) (by omega)
  have p9 : (8 : Nat) ^ 20 = 1152921504606846976 := by decide
  have small : (it f U (x - 20)).natAbs < 10000000000000000000000000000000000000000 := by
    rw [p9] at p8
    generalize 8 ^ U = A at *
    omega
  have E1 := mg1_ (C := Cn k) (a := mD P Q t) (s2 := .un) (s3 := .un) (s4 := .un) (s5 := .un) (s6 := .un) (s7 := .un) x U d1 d2
  have E2 := mg2_ (C := Cn k) (s2 := .un) (s5 := .un) (s6 := .un) (s7 := .un) _ _ _ (c20w (n := k) (by omega) m (by omega) (x - 20) U (by omega) (.inl (by omega)) μ2) (c36 (n := k) (by omega) m (by omega) (x - 20) U (by omega) μ2) (same (n := k) (by omega) ((Hp.big small).rep (by decide) (by decide)) μ2)
  have E3 := mg3_ (C := Cn k) (s2 := .un) (s3 := .sh (.int (x - 20))) (s4 := .sh (.int U)) (s5 := .un) (s6 := .un) (s7 := .un) _ (c19_0 (n := k) (by omega) m (by omega) μ2) (c19_1 (n := k) (by omega) m (by omega) (by omega) μ2) (c13 (n := k) (by omega) m (by omega) μ2) (ne_nD _)
  have E4 : ∃ s5', evS (Cn k) mg4 (env38 (mD P Q t) .un (.sh (.int (x - 20))) (.sh (.int U)) .un .un .un) μ2 = .ok (.nx (env38 (mD P Q t) .un (.sh (.int (x - 20))) (.sh (.int U)) s5' .un .un)) μ2 := by
    by_cases ne : (P : Int) = Q
    · exact ⟨_, mg4n (P : Int) rfl (by rw [ne]; rfl)⟩
    · have h1 := c19_x (n := k) (by omega) m ne (2 + U) (by omega) (by omega) μ2
      rw [Int.natCast_add] at h1
      have h2 : (Cn k).call 39 [mD P Q t, .int (x - 20), .int (21 + (U : Int))] μ2 = .ok (.str "round") μ2 := by
        rw [call_ge (d := La.d39) (by omega) rfl rfl]
        have h3 := c20x (n := k - 1) (by omega) m ne (x - 20) (21 + U) (by omega) (by omega) μ2
        rw [Int.natCast_add] at h3
        exact s39 Wd (hcat _) _ _ h3 (wd4 _)
      exact mg4y Wd (hcat k) wd4 P Q U _ rfl rfl ne h1 h2
  obtain ⟨s5', E4⟩ := E4
  have E5 := mg5_ (C := Cn k) (a := mD P Q t) (s2 := .un) (s3 := .sh (.int (x - 20))) (s4 := .sh (.int U)) (s5 := s5') (s6 := .un) (s7 := .un) y v (.int z) d3 d4 d5
  have c := comp_rngD (C := Cn k) (μ := μ5) (ρ := env38 (mD P Q t) .un (.sh (.int (x - 20))) (.sh (.int U)) s5' (.sh (.int (y - 20))) (.sh (.int z))) (it := .rng (.cons (.idx (.var 1) (.int 0)) .nil)) (elt := mgE) (n := P) (k := 8) (h := fun j => .int (f ((j : Nat) + (y - 20)) + z)) (rng1_ok (by
      have i0 : ixM μ5 (mD P Q t) (.int 0) = some (.int P) := rfl
      simp [i0]) (by omega) (by omega)) (fun _ => rfl) (by omega) (fun j => [.sh (.cell 0), .sh (mD P Q t), .un, .sh (.int (x - 20)), .sh (.int U), s5', .sh (.int (y - 20)), .sh (.int z), .sh (.int (j : Nat))]) (fun _ => rfl) (fun j hj => by
    have h := lv (n := k) (by omega) m (by omega) ((j : Nat) + (y - 20)) μ5
    simp [mgE, binD_add, h])
  have et : (List.range P).map (fun j => D.int (f ((j : Nat) + (y - 20)) + z)) = (tab (fun j => f (j + (y - 20)) + z) P).map .int := by
    unfold tab
    rw [List.map_map]
    rfl
  rw [et] at c
  have E6 := mg6_ (C := Cn k) _ c
  have pF : Mt.per (fun j => f (j + (y - 20)) + z) P Q := fun j => by
    have := m.toRp.per (j + (y - 20))
    show f (j + P + (y - 20)) + z = f (j + (y - 20)) + z + Q
    rw [show j + P + (y - 20) = j + (y - 20) + P by omega, this]
    omega
  have rp := (nn_hp p0 p6 pF q0 (by omega) (fun j h1 h2 => by
    have := far (j + (y - 20)) 40 (by omega) (by omega)
    show (f (j + (y - 20)) + z).natAbs < _
    omega)).rep (by decide) (by decide)
  have o : Ok3 P Q (tab (fun j => f (j + (y - 20)) + z) P) := ⟨p0, by omega, by omega, tab_len _ _⟩
  have E7 := mg7_ (C := Cn k) (s3 := .sh (.int (x - 20))) (s4 := .sh (.int U)) (s5 := s5') (.int P) (.int Q) (.int (y - 20)) (.int z) (.lst ((tab (fun j => f (j + (y - 20)) + z) P).map .int)) _ rfl rfl (c22 (n := k) (by omega) m (by omega) (by omega) (y - 20) z μ5) (c28 (n := k) (by omega) o μ5) (same (n := k) (by omega) rp μ5)
  refine ⟨μ5, ?_, g5⟩
  unfold mgA
  exact fn_rt (stp E1 (stp E2 (stp E3 (stp E4 (stp E5 (stp E6 (stpR E7)))))))
end
def noL : List D := [.non, .bl true, .str "1", .tup [.int 1], .lst [.int 1], .dic [] []]
theorem no_num : ∀ x ∈ noL, okD x = true ∧ isIntD x = false ∧ ∀ a b, inD a b x = false := fun x h => by
  simp only [noL, List.mem_cons, List.not_mem_nil, or_false] at h
  rcases h with rfl | rfl | rfl | rfl | rfl | rfl <;> exact ⟨rfl, rfl, fun _ _ => rfl⟩
def w8 : List D := [.str "map", .str "map", .str "number", .str "number", .str "number", .str "map", .str "number", .str "number"]
theorem w8e : cmpD .eq (.lst w8) (.lst w8) = some true := by
  refine eqD_self (d := .lst w8) (p := .list [.str "map", .str "map", .str "number", .str "number", .str "number", .str "map", .str "number", .str "number"]) rfl ?_
  simp [SeqAt.shaped, PyData.canLay0, PyData.canLayAll0, PyData.depth, PyData.depthAll, strOk_of]
section
variable {C : Fns} {μ μ1 μ2 μ3 : Mu} {a : D}
theorem s33 (x : D) (h : C.call 25 [.cell 0, .lst noL] μ = .ok x μ1) : fnR (evS C La.b33 [.sh (.cell 0)] μ) = .ok x μ1 := by
  unfold noL at h
  simp [La.b33, h]
abbrev env40 (a : D) (s2 s3 s4 s5 : Ev.Slot) : Ev.Env := [.sh (.cell 0), .sh a, s2, s3, s4, s5]
theorem mh1_ (no odd : D) (h1 : C.call 32 [.cell 0] μ = .ok no μ1) (h2 : C.call 33 [.cell 0] μ1 = .ok odd μ2) : evS C mh1 (env40 a .un .un .un .un) μ = .ok (.nx (env40 a .un .un (.sh no) (.sh odd))) μ2 := by simp [mh1, h1, h2, setTg]
theorem mh2_ (no odd k : D) (h : C.call 25 [.cell 0, .lst [.int (-1), .int 1000000000000000000000000000001, odd]] μ = .ok k μ1) : evS C mh2 (env40 a .un .un (.sh no) (.sh odd)) μ = .ok (.nx (env40 a (.sh k) .un (.sh no) (.sh odd))) μ1 := by simp [mh2, negD, binD_pow, binD_add, h, newSlot]
theorem mh3_ (W : Ev.R D → Ev.R D) (hcat : ∀ act μ, C.cat 0 act μ = W (act μ)) (w2 : ∀ μ, W (.ex ⟨2, none⟩ μ) = .ok (.str "map") μ) (w3 : ∀ μ, W (.ex ⟨3, none⟩ μ) = .ok (.str "number") μ) (no odd k : D) (h1 : C.call 19 [no, k] μ = .ex ⟨2, none⟩ μ) (h2 : C.call 20 [no, odd, k] μ = .ex ⟨2, none⟩ μ) (h3 : C.call 19 [a, k] μ = .ex ⟨3, none⟩ μ) (h4 : C.call 39 [a, odd, .int 1] μ = .ok (.str "number") μ) (h5 : C.call 39 [a, .int 0, k] μ = .ok (.str "number") μ) (h6 : C.call 22 [no, odd, odd] μ = .ex ⟨2, none⟩ μ) (h7 : C.call 22 [a, odd, .int 0] μ = .ex ⟨3, none⟩ μ) (h8 : C.call 22 [a, .int 0, odd] μ = .ex ⟨3, none⟩ μ) :
    evS C (.seq mh3 (.seq mh4 (.seq mh5 (.seq mh6 (.seq mh7 (.seq mh8 (.seq mh9 (.seq mh10 (.seq mh11 .skip))))))))) (env40 a (.sh k) .un (.sh no) (.sh odd)) μ = .ok (.rt (.bl true)) μ := by
  have e := w8e
  unfold w8 at e
  have z1 : (1 : Nat) < sizeLine := by simp [sizeLine]
  have z2 : (2 : Nat) < sizeLine := by simp [sizeLine]
  have z3 : (3 : Nat) < sizeLine := by simp [sizeLine]
  have z4 : (4 : Nat) < sizeLine := by simp [sizeLine]
  have z5 : (5 : Nat) < sizeLine := by simp [sizeLine]
  have z6 : (6 : Nat) < sizeLine := by simp [sizeLine]
  have z7 : (7 : Nat) < sizeLine := by simp [sizeLine]
  simp [mh3, mh4, mh5, mh6, mh7, mh8, mh9, mh10, mh11, hcat, h1, h2, h3, h4, h5, h6, h7, h8, w2, w3, newSlot, e, z1, z2, z3, z4, z5, z6, z7]
end
section
variable {n : Nat} {P : Nat} {Q : Int} {t : List Int} {f : Int → Int} {μ : Mu}
theorem c32n (hn : 3 ≤ n) (h : HandG μ) : ∃ x μ', (Cn n).call 32 [.cell 0] μ = .ok x μ' ∧ HandG μ' ∧ okM x = true ∧ isMapD x = false := by
  obtain ⟨x, hx, μ1, d1, h1⟩ := hAny (n := n - 1) (by omega) (xs := badA ++ badB ++ badC ((Zs 2001).map .int)) h (by simp [badA]) (by simp [badA, badB, badC])
  refine ⟨x, μ1, ?_, h1, no_map x hx⟩
  rw [call_ge (d := La.d32) (by omega) rfl rfl]
  exact n32 _ _ (mulT 2001 (by decide) (by decide)) d1
theorem c33 (hn : 3 ≤ n) (h : HandG μ) : ∃ x ∈ noL, ∃ μ', (Cn n).call 33 [.cell 0] μ = .ok x μ' ∧ HandG μ' := by
  obtain ⟨x, hx, μ1, d1, h1⟩ := hAny (n := n - 1) (by omega) (xs := noL) h (by decide) (by decide)
  refine ⟨x, hx, μ1, ?_, h1⟩
  rw [call_ge (d := La.d33) (by omega) rfl rfl]
  exact s33 _ d1
theorem chIx (hn : 2 ≤ n) (x : D) (h : okD x = true) (h2 : isIntD x = false) (μ : Mu) : (Cn n).call 3 [x] μ = .ex ⟨3, none⟩ μ := by rw [hChI hn x μ h, if_neg (by rw [h2]; decide)]
theorem c20a (hn : 5 ≤ n) (x b c : D) (h : okM x = true ∧ isMapD x = false) (μ : Mu) : (Cn n).call 20 [x, b, c] μ = .ex ⟨2, none⟩ μ := by
  have e0 : startE La.d20 [x, b, c] = env20 x b c .un .un := rfl
  rw [call_ge (d := La.d20) (by omega) rfl rfl, show La.d20.body = La.b20 from rfl, b20_eq, e0]
  unfold mbA
  exact fn_ex (stpX (mb1x _ (chMx (by omega) x h μ)))
theorem c20b (hn : 5 ≤ n) (m : Mp f P Q t) (b c : D) (h : okD b = true) (h2 : isIntD b = false) (μ : Mu) : (Cn n).call 20 [mD P Q t, b, c] μ = .ex ⟨3, none⟩ μ := by
  have e0 : startE La.d20 [mD P Q t, b, c] = env20 (mD P Q t) b c .un .un := rfl
  rw [call_ge (d := La.d20) (by omega) rfl rfl, show La.d20.body = La.b20 from rfl, b20_eq, e0]
  unfold mbA
  exact fn_ex (stp (mb1_ (chM (by omega) m μ)) (stpX (mb2x _ (chIx (by omega) b h h2 μ))))
theorem c20c (hn : 5 ≤ n) (m : Mp f P Q t) (x : Int) (c : D) (h : okD c = true) (h2 : inD 0 1000000000000000000000000000000 c = false) (μ : Mu) : (Cn n).call 20 [mD P Q t, .int x, c] μ = .ex ⟨3, none⟩ μ := by
  have e0 : startE La.d20 [mD P Q t, .int x, c] = env20 (mD P Q t) (.int x) c .un .un := rfl
  rw [call_ge (d := La.d20) (by omega) rfl rfl, show La.d20.body = La.b20 from rfl, b20_eq, e0]
  have wi : (Cn (n - 1)).call 4 [c, .int 0, .int 1000000000000000000000000000000] μ = .ex ⟨3, none⟩ μ := by rw [hChIn (by omega) c _ _ μ h, if_neg (by rw [h2]; decide)]
  unfold mbA
  exact fn_ex (stp (mb1_ (chM (by omega) m μ)) (stp (mb2_ (chI (by omega) x μ)) (stpX (mb3x _ _ (con_n _ 1) wi))))
theorem c40 (hn : 8 ≤ n) (h : HandG μ) (m : Mp f P Q t) : ∃ μ', (Cn n).call 40 [.cell 0, mD P Q t] μ = .ok (.bl true) μ' ∧ HandG μ' := by
  obtain ⟨k, hk⟩ : ∃ k, k = n - 1 := ⟨_, rfl⟩
  have hn' : 7 ≤ k := by omega
  have e0 : startE La.d40 [.cell 0, mD P Q t] = env40 (mD P Q t) .un .un .un .un := rfl
  rw [call_ge (d := La.d40) (by omega) rfl rfl, show La.d40.body = La.b40 from rfl, b40_eq, ← hk, e0]
  obtain ⟨no, μ1, d1, g1, b1, b2⟩ := c32n (n := k) (by omega) h
  obtain ⟨odd, ho, μ2, d2, g2⟩ := c33 (n := k) (by omega) g1
  obtain ⟨o1, o2, o3⟩ := no_num odd ho
  obtain ⟨x, hx, μ3, d3, g3⟩ := hAny (n := k) (by omega) (xs := [.int (-1), .int 1000000000000000000000000000001, odd]) g2 (by simp) (by simp)
  have nx : okD x = true ∧ inD 0 1000000000000000000000000000000 x = false := by
    simp only [List.mem_cons, List.not_mem_nil, or_false] at hx
    rcases hx with rfl | rfl | rfl
    · exact ⟨rfl, by decide⟩
    · exact ⟨rfl, by decide⟩
    · exact ⟨o1, o3 _ _⟩
  have wi : (Cn (k - 1)).call 4 [x, .int 0, .int 1000000000000000000000000000000] μ3 = .ex ⟨3, none⟩ μ3 := by rw [hChIn (by omega) x _ _ μ3 nx.1, if_neg (by rw [nx.2]; decide)]
  have bm := chMx (n := k - 1) (by omega) no ⟨b1, b2⟩ μ3
  have gm := chM (n := k - 1) (by omega) m μ3
  have h1 : (Cn k).call 19 [no, x] μ3 = .ex ⟨2, none⟩ μ3 := by
    rw [call_ge (d := La.d19) (by omega) rfl rfl]; exact s19x _ bm
  have h3 : (Cn k).call 19 [mD P Q t, x] μ3 = .ex ⟨3, none⟩ μ3 := by
    rw [call_ge (d := La.d19) (by omega) rfl rfl]; exact s19z _ _ (con_n _ 1) gm wi
  have h4 : (Cn k).call 39 [mD P Q t, odd, .int 1] μ3 = .ok (.str "number") μ3 := by
    rw [call_ge (d := La.d39) (by omega) rfl rfl]
    exact s39 Wd (hcat _) _ _ (c20b (n := k - 1) (by omega) m odd (.int 1) o1 o2 μ3) (wd3 _)
  have h5 : (Cn k).call 39 [mD P Q t, .int 0, x] μ3 = .ok (.str "number") μ3 := by
    rw [call_ge (d := La.d39) (by omega) rfl rfl]
    exact s39 Wd (hcat _) _ _ (c20c (n := k - 1) (by omega) m 0 x nx.1 nx.2 μ3) (wd3 _)
  have h6 : (Cn k).call 22 [no, odd, odd] μ3 = .ex ⟨2, none⟩ μ3 := by
    rw [call_ge (d := La.d22) (by omega) rfl rfl]; exact s22x _ bm
  have h7 : (Cn k).call 22 [mD P Q t, odd, .int 0] μ3 = .ex ⟨3, none⟩ μ3 := by
    rw [call_ge (d := La.d22) (by omega) rfl rfl]; exact s22z _ gm (chIx (by omega) odd o1 o2 μ3)
  have h8 : (Cn k).call 22 [mD P Q t, .int 0, odd] μ3 = .ex ⟨3, none⟩ μ3 := by
    rw [call_ge (d := La.d22) (by omega) rfl rfl]; exact s22w _ gm (chI (by omega) 0 μ3) (chIx (by omega) odd o1 o2 μ3)
  refine ⟨μ3, ?_, g3⟩
  unfold mhA
  exact fn_rt (stp (mh1_ _ _ d1 d2) (stp (mh2_ _ _ _ d3) (mh3_ Wd (hcat k) wd2 wd3 no odd x h1 (c20a (n := k) (by omega) no odd x ⟨b1, b2⟩ μ3) h3 h4 h5 h6 h7 h8)))
end
end Pf
end

section
set_option Elab.async false
set_option linter.all false
set_option maxRecDepth 100000
set_option maxHeartbeats 4000000
namespace Pf
open PySem PySem.Spec PyProof.Rows L2 Ev Mt Pg Pr
def miB : S := (.seq (.asg false (.name 3) (.call 31 (.cons (.var 1) (.cons (.int 6) (.cons (.lst (.cons .non .nil)) .nil))))) (.seq (.cond (.not (.call 37 (.cons (.var 1) (.cons (.var 3) .nil)))) (.seq (.ret (.bl false)) .skip) .skip) (.seq (.cond (.not (.call 38 (.cons (.var 1) (.cons (.call 31 (.cons (.var 1) (.cons (.int 6) (.cons (.lst (.cons (.int 0) (.cons (.int 1) (.cons (.int 2) (.cons (.int 7) (.cons .non .nil)))))) .nil)))) .nil)))) (.seq (.ret (.bl false)) .skip) .skip) (.seq (.cond (.not (.call 40 (.cons (.var 1) (.cons (.var 3) .nil)))) (.seq (.ret (.bl false)) .skip) .skip) .skip))))
def mi1 : S := (.box 1 (.call 23 (.cons (.var 0) .nil)))
def mi2 : S := (.cond (.cmp .ne (.call 19 (.cons (.tup (.cons (.int 2) (.cons (.int 2) (.cons (.tup (.cons (.int 0) (.cons (.int 0) .nil))) .nil)))) (.cons (.bin .pow (.int 10) (.int 30)) .nil))) (.tup (.cons (.int 2) (.cons (.int 2) (.cons (.tup (.cons (.int 0) (.cons (.int 0) .nil))) .nil))))) (.seq (.ret (.bl false)) .skip) .skip)
def mi3 : S := (.cond (.cmp .ne (.call 19 (.cons (.tup (.cons (.int 1) (.cons (.int 1) (.cons (.tup (.cons (.int 2) .nil)) .nil)))) (.cons (.bin .pow (.int 10) (.int 30)) .nil))) (.tup (.cons (.int 1) (.cons (.int 1) (.cons (.tup (.cons (.bin .mul (.int 2) (.bin .pow (.int 10) (.int 30))) .nil)) .nil))))) (.seq (.ret (.bl false)) .skip) .skip)
def mi4 : S := (.cond (.or (.cmp .ne (.call 20 (.cons (.tup (.cons (.int 1) (.cons (.int 2) (.cons (.tup (.cons (.int 1) .nil)) .nil)))) (.cons (.int 0) (.cons (.int 5) .nil)))) (.int 31)) (.or1 (.cmp .ne (.call 22 (.cons (.tup (.cons (.int 2) (.cons (.int 1) (.cons (.tup (.cons (.int 0) (.cons (.int 0) .nil))) .nil)))) (.cons (.int 1) (.cons (.int 4) .nil)))) (.tup (.cons (.int 2) (.cons (.int 1) (.cons (.tup (.cons (.int 4) (.cons (.int 5) .nil))) .nil))))))) (.seq (.ret (.bl false)) .skip) .skip)
def mi5 : S := (.for_ (.name 2) (.rng (.cons (.int 5) .nil)) miB)
def mi6 : S := (.ret (.bl true))
def miA : S := (.seq mi1 (.seq mi2 (.seq mi3 (.seq mi4 (.seq mi5 (.seq mi6 .skip))))))
def absOf (xs : List Int) : List Int := xs.map fun z => if z < 0 then -z else z
theorem hand21 {C : Fns} {μ : Mu} (xs : List Int) (hl : xs.length ≤ 63) : fnR (evS C La.b23 [.sh (.scr xs), .un] μ) = .ok (.lst [.lst ((absOf xs).map .int), .int 0, .int 0, .int (449 + 3 * (xs.length : Int)), .int 0]) μ := by
  have e1 : slD (.scr xs) none (some 63) = some (.lst (xs.map .int)) := by
    show some (D.lst ((cut xs none (some ((63 : Nat) : Int))).map .int)) = _
    rw [cut_to, List.take_of_length_le (by omega)]
  have e : evE C (.comp (.name 1) (.sl (.var 0) .nil (.int 63)) (.bi .abs (.cons (.bi .int (.cons (.var 1) .nil)) .nil)) .nil) [.sh (.scr xs), .un] μ = .ok (.lst ((xs.map D.int).map fun d => match d with | .int z => .int (if z < 0 then -z else z) | d => d)) μ :=
    comp_map (x := .lst (xs.map .int)) (by simp [partE, e1]) rfl (by simp [sizeLine]; omega) fun d hd => by
      obtain ⟨z, _, rfl⟩ := List.mem_map.mp hd
      refine ⟨[.sh (.scr xs), .sh (.int z)], rfl, ?_⟩
      have a : biD .abs [.int z] = some (.int (if z < 0 then -z else z)) := rfl
      simp [biD_int, a]
  have e2 : ((xs.map D.int).map fun d => match d with | .int z => D.int (if z < 0 then -z else z) | d => d) = (absOf xs).map .int := by simp [absOf]
  rw [e2] at e
  simp [La.b23, e, e1, partE, biD_len, binD_mul 3 _ (mulOk_l (show (3 : Int).natAbs < 2 ^ 64 by decide)), binD_add]
theorem handA (xs : List Int) (hl : xs.length ≤ 63) : HandG [[.lst ((absOf xs).map .int), .int 0, .int 0, .int (449 + 3 * (xs.length : Int)), .int 0]] := by
  refine ⟨absOf xs, 0, 0, _, 0, rfl, fun c hc => ?_, by omega, by omega, by omega, by omega⟩
  obtain ⟨z, _, rfl⟩ := List.mem_map.mp hc
  split <;> omega
theorem mp_of {P : Nat} {Q : Int} {t : List Int} (p0 : 0 < P) (l : t.length = P) (p1 : P ≤ 2000) (q0 : 0 ≤ Q) (h : tabOk Q t = true) : Mp (vl P Q t) P Q t := ⟨Rp.of p0 l, p1, q0, (tabOk_mono p0 l).mp h⟩
theorem b41_eq : La.b41 = miA := rfl
theorem mHalf : Mp (vl 2 2 [0, 0]) 2 2 [0, 0] := mp_of (by decide) rfl (by decide) (by decide) (by decide)
theorem mTwo : Mp (vl 1 1 [2]) 1 1 [2] := mp_of (by decide) rfl (by decide) (by decide) (by decide)
theorem mDbl : Mp (vl 1 2 [1]) 1 2 [1] := mp_of (by decide) rfl (by decide) (by decide) (by decide)
theorem mH1 : Mp (vl 2 1 [0, 0]) 2 1 [0, 0] := mp_of (by decide) rfl (by decide) (by decide) (by decide)
theorem v1 (q a x : Int) : vl 1 q [a] x = a + x * q := by
  unfold vl
  rw [show x % ((1 : Nat) : Int) = 0 by omega, show x / ((1 : Nat) : Int) = x by omega]
  rfl
theorem vHalf (x : Int) : vl 2 2 [0, 0] x = x / 2 * 2 := by
  unfold vl
  rcases (show x % ((2 : Nat) : Int) = 0 ∨ x % ((2 : Nat) : Int) = 1 by omega) with h | h
  · rw [h]
    show 0 + x / ((2 : Nat) : Int) * 2 = _
    omega
  · rw [h]
    show 0 + x / ((2 : Nat) : Int) * 2 = _
    omega
theorem it_half : ∀ (k : Nat) (x : Int), it (vl 2 2 [0, 0]) (k + 1) x = vl 2 2 [0, 0] x
  | 0, x => rfl
  | k + 1, x => by
    show it (vl 2 2 [0, 0]) (k + 1) (vl 2 2 [0, 0] x) = _
    rw [it_half k, vHalf, vHalf]
    omega
theorem it_plus : ∀ (k : Nat) (x : Int), it (vl 1 1 [2]) k x = x + 2 * k
  | 0, x => by show x = x + 2 * ((0 : Nat) : Int); omega
  | k + 1, x => by
    show it (vl 1 1 [2]) k (vl 1 1 [2] x) = _
    rw [it_plus k, v1]
    omega
section
variable {n : Nat} {μ : Mu}
theorem k1 (hn : 5 ≤ n) (μ : Mu) : (Cn n).call 19 [mD 2 2 [0, 0], .int 1000000000000000000000000000000] μ = .ok (mD 2 2 [0, 0]) μ := by
  have h := c19 (n := n) hn mHalf (by decide) 1000000000000000000000000000000 (by decide) μ
  have e : it (vl 2 2 [0, 0]) 1000000000000000000000000000000 = vl 2 2 [0, 0] := funext fun x => it_half 999999999999999999999999999999 x
  rw [e] at h
  have e2 : nn (vl 2 2 [0, 0]) 2 = (2, 2, [0, 0]) := by decide
  rw [e2] at h
  exact h
theorem k2 (hn : 5 ≤ n) (μ : Mu) : (Cn n).call 19 [mD 1 1 [2], .int 1000000000000000000000000000000] μ = .ok (mD 1 1 [2000000000000000000000000000000]) μ := by
  have h := c19 (n := n) hn mTwo (by decide) 1000000000000000000000000000000 (by decide) μ
  have e2 : nn (it (vl 1 1 [2]) 1000000000000000000000000000000) 1 = (1, 1, [it (vl 1 1 [2]) 1000000000000000000000000000000 ((0 : Nat) : Int)]) := rfl
  rw [e2, it_plus] at h
  exact h
theorem k3 (hn : 6 ≤ n) (μ : Mu) : (Cn n).call 20 [mD 1 2 [1], .int 0, .int 5] μ = .ok (.int 31) μ := by
  have h := c20w (n := n) hn mDbl (by decide) 0 5 (by decide) (.inl (by decide)) μ
  have e : it (vl 1 2 [1]) 5 0 = 31 := by decide
  rw [e] at h
  exact h
theorem k4 (hn : 5 ≤ n) (μ : Mu) : (Cn n).call 22 [mD 2 1 [0, 0], .int 1, .int 4] μ = .ok (mD 2 1 [4, 5]) μ := by
  have h := c22 (n := n) hn mH1 (by decide) (by decide) 1 4 μ
  have e : nrm 2 1 (tab (fun j => vl 2 1 [0, 0] (j + 1) + 4) 2) = (2, 1, [4, 5]) := by decide
  rw [e] at h
  exact h
end
abbrev env41 (s0 s2 s3 : Ev.Slot) : Ev.Env := [s0, .sh (.cell 0), s2, s3]
section
variable {C : Fns} {μ μ1 μ2 μ3 μ4 μ5 μ6 : Mu} {s0 s2 s3 : Ev.Slot}
theorem z1_ (x : D) (ds : List D) (h : C.call 23 [x] [] = .ok (.lst ds) []) : evS C mi1 [.sh x, .un, .un, .un] [] = .ok (.nx (env41 (.sh x) .un .un)) [ds] := by
  simp [mi1, h]
theorem z2_ (h : C.call 19 [mD 2 2 [0, 0], .int 1000000000000000000000000000000] μ = .ok (mD 2 2 [0, 0]) μ) : evS C mi2 (env41 s0 s2 s3) μ = .ok (.nx (env41 s0 s2 s3)) μ := by
  have h' : C.call 19 [.tup [.int 2, .int 2, .tup [.int 0, .int 0]], .int 1000000000000000000000000000000] μ = .ok (mD 2 2 [0, 0]) μ := h
  have ne : cmpD .ne (mD 2 2 [0, 0]) (.tup [.int 2, .int 2, .tup [.int 0, .int 0]]) = some false := ne_mD 2 2 [0, 0]
  simp [mi2, binD_pow, h', ne]
theorem z3_ (h : C.call 19 [mD 1 1 [2], .int 1000000000000000000000000000000] μ = .ok (mD 1 1 [2000000000000000000000000000000]) μ) : evS C mi3 (env41 s0 s2 s3) μ = .ok (.nx (env41 s0 s2 s3)) μ := by
  have h' : C.call 19 [.tup [.int 1, .int 1, .tup [.int 2]], .int 1000000000000000000000000000000] μ = .ok (mD 1 1 [2000000000000000000000000000000]) μ := h
  have ne : cmpD .ne (mD 1 1 [2000000000000000000000000000000]) (.tup [.int 1, .int 1, .tup [.int 2000000000000000000000000000000]]) = some false := ne_mD 1 1 [2000000000000000000000000000000]
  have m := binD_mul 2 1000000000000000000000000000000 (mulOk_l (by decide))
  simp [mi3, binD_pow, h', m, ne]
theorem z4_ (h1 : C.call 20 [mD 1 2 [1], .int 0, .int 5] μ = .ok (.int 31) μ) (h2 : C.call 22 [mD 2 1 [0, 0], .int 1, .int 4] μ = .ok (mD 2 1 [4, 5]) μ) : evS C mi4 (env41 s0 s2 s3) μ = .ok (.nx (env41 s0 s2 s3)) μ := by
  have h1' : C.call 20 [.tup [.int 1, .int 2, .tup [.int 1]], .int 0, .int 5] μ = .ok (.int 31) μ := h1
  have h2' : C.call 22 [.tup [.int 2, .int 1, .tup [.int 0, .int 0]], .int 1, .int 4] μ = .ok (mD 2 1 [4, 5]) μ := h2
  have ne : cmpD .ne (mD 2 1 [4, 5]) (.tup [.int 2, .int 1, .tup [.int 4, .int 5]]) = some false := ne_mD 2 1 [4, 5]
  simp [mi4, h1', h2', cmpD_neI, ne]
theorem zB_ (a b : D) (h1 : C.call 31 [.cell 0, .int 6, .lst [.non]] μ = .ok a μ1) (h2 : C.call 37 [.cell 0, a] μ1 = .ok (.bl true) μ2) (h3 : C.call 31 [.cell 0, .int 6, .lst [.int 0, .int 1, .int 2, .int 7, .non]] μ2 = .ok b μ3) (h4 : C.call 38 [.cell 0, b] μ3 = .ok (.bl true) μ4) (h5 : C.call 40 [.cell 0, a] μ4 = .ok (.bl true) μ5) : evS C miB (env41 s0 s2 s3) μ = .ok (.nx (env41 s0 s2 (.sh a))) μ5 := by
  simp [miB, h1, h2, h3, h4, h5, newSlot]
end
section
variable {n : Nat} {μ : Mu}
theorem turn (hn : 8 ≤ n) (h : HandG μ) (s0 s2 s3 : Ev.Slot) : ∃ s3' μ', evS (Cn n) miB (env41 s0 s2 s3) μ = .ok (.nx (env41 s0 s2 s3')) μ' ∧ HandG μ' := by
  obtain ⟨P, Q, t, μ1, d1, g1, A, eq⟩ := c29 (n := n) (by omega) 6 (by decide) (by decide) [.non] (fun d hd => by
    rw [List.mem_singleton.mp hd]
    exact .inl rfl) (by decide) (by decide) h
  have e := eq rfl
  subst e
  obtain ⟨μ2, d2, g2⟩ := c37 (n := n) hn g1 A
  obtain ⟨P', Q', t', μ3, d3, g3, B, _⟩ := c29 (n := n) (by omega) 6 (by decide) (by decide) [.int 0, .int 1, .int 2, .int 7, .non] (fun d hd => by
    simp only [List.mem_cons, List.not_mem_nil, or_false] at hd
    rcases hd with rfl | rfl | rfl | rfl | rfl
    · exact .inr ⟨_, rfl, by decide, by decide⟩
    · exact .inr ⟨_, rfl, by decide, by decide⟩
    · exact .inr ⟨_, rfl, by decide, by decide⟩
    · exact .inr ⟨_, rfl, by decide, by decide⟩
    · exact .inl rfl) (by decide) (by decide) g2
  obtain ⟨μ4, d4, g4⟩ := c38 (n := n) hn g3 B
  obtain ⟨μ5, d5, g5⟩ := c40 (n := n) hn g4 A.m
  exact ⟨.sh (mD P P t), μ5, zB_ _ _ d1 d2 d3 d4 d5, g5⟩
theorem for41 (hn : 8 ≤ n) (s0 : Ev.Slot) (h : HandG μ) : ∃ s2 s3 μ', evS (Cn n) mi5 (env41 s0 .un .un) μ = .ok (.nx (env41 s0 s2 s3)) μ' ∧ HandG μ' := by
  have z : Wp (forL (fun d ρ μ => (Ev.R.of (setTg (.name 2) d ρ) μ).bind fun ρ μ => evS (Cn n) miB ρ μ) (rngL 0 5) (env41 s0 .un .un) μ) (fun fl μ' => ∃ s2 s3, fl = .nx (env41 s0 s2 s3) ∧ HandG μ') :=
    forL_wp (fun _ ρ μ => ∃ s2 s3, ρ = env41 s0 s2 s3 ∧ HandG μ) _ ⟨_, _, rfl, h⟩
      (fun ρ μ ⟨s2, s3, e, hh⟩ => ⟨s2, s3, by rw [e], hh⟩)
      (fun d r ρ μ ⟨s2, s3, e, hh⟩ => by
        subst e
        obtain ⟨r3, μ', e, hh'⟩ := turn hn hh s0 (.sh d) s3
        have st : (Ev.R.of (setTg (.name 2) d (env41 s0 s2 s3)) μ).bind (fun ρ μ => evS (Cn n) miB ρ μ) = evS (Cn n) miB (env41 s0 (.sh d) s3) μ := rfl
        rw [st, e]
        exact ⟨_, _, rfl, hh'⟩)
  obtain ⟨a, μ', e, s2, s3, rfl, hh⟩ := z.get
  exact ⟨s2, s3, μ', for_ok (rng1_ok rfl (by decide) (by decide)) rfl e, hh⟩
theorem c41 (hn : 9 ≤ n) (xs : List Int) (hl : xs.length ≤ 63) : ∃ μ', (Cn n).call 41 [.scr xs] [] = .ok (.bl true) μ' := by
  have hn' : 8 ≤ n - 1 := by omega
  have H := handA xs hl
  have k23 : (Cn (n - 1)).call 23 [.scr xs] [] = .ok (.lst [.lst ((absOf xs).map .int), .int 0, .int 0, .int (449 + 3 * (xs.length : Int)), .int 0]) [] := by
    rw [call_ge (d := La.d23) (by omega) rfl rfl]
    exact hand21 xs hl
  rw [call_ge (d := La.d41) (by omega) rfl rfl, show La.d41.body = La.b41 from rfl, b41_eq]
  have e0 : startE La.d41 [.scr xs] = [.sh (.scr xs), .un, .un, .un] := rfl
  rw [e0]
  generalize n - 1 = k at *
  obtain ⟨s2, s3, μ1, e, hh⟩ := for41 (n := k) hn' (.sh (.scr xs)) H
  refine ⟨μ1, ?_⟩
  unfold miA
  exact fn_rt (stp (z1_ _ _ k23) (stp (z2_ (k1 (by omega) _)) (stp (z3_ (k2 (by omega) _)) (stp (z4_ (k3 (by omega) _) (k4 (by omega) _)) (stp e (stpR rfl))))))
end
theorem law05 : PySem.Challenge.rw_steprounds_k05_whole_repeated_to_10_30.Holds := La.holds 12 ⟨rfl, by decide, by decide⟩ fun xs hl _ => c41 (by decide) xs hl
end Pf
end

theorem PySem.Challenge.cw_steprounds_k05_whole_repeated_to_10_30_holds : PySem.Challenge.rw_steprounds_k05_whole_repeated_to_10_30.Holds := by
  exact Pf.law05
