import PyProof.Rows.All
import Wide.All
import OpenK.AllK
import Wide.FinOn
import HandS.ForMost
import HandS.More
import HandS.WordsExc
import HandS.Walk
import HandS.Defaults
import HandS.Star
import HandS.ClsMeth
import HandS.IsInst
import HandS.DictComp
import HandS.FStr
import HandS.RaiseMore
import HandS.Style
import HandS.Flow
import HandS.ExcInit
import HandS.HotCalls
import HandS.Lambda
import HandS.EndTab
import HandS.HeadWalk
import HandS.HeadHook4
import HandS.Head2
import HandS.TupSets
import HandS.SetFor
import HandS.OwnIter
import HandS.IterNext
import HandS.ExcField
import HandS.ExcIs
import KE.SortData
import KE.KOpsOwn
import KE.KFmtOwn
import KE.GoesEnum
import PyProof.InstNe
import PySem.Challenge.RW_roomrings_k14_whole_trees_grown
import KE.KExcSuper
import OpenK.KOps
import HandS.SlotsOwn
import HandS.Property
import HandS.Wide
import PyProof.StrLawsRepr
import PyProof.ReprRoads
import KE.DataFind
set_option Elab.async false
set_option linter.all false
-- K14Math
section
set_option maxRecDepth 100000
set_option maxHeartbeats 2000000
namespace K14
open PySem

/-! ### names, their order -/
def nlt (a b : Str) : Prop := a.cps.toList < b.cps.toList
instance nltDec : DecidableRel nlt := fun a b => inferInstanceAs (Decidable (a.cps.toList < b.cps.toList))
theorem cps_inj {a b : Str} (h : a.cps.toList = b.cps.toList) : a = b := by
  obtain ⟨x⟩ := a
  obtain ⟨y⟩ := b
  have e : x = y := Array.toList_inj.mp h
  rw [e]
theorem nlt_irrefl (a : Str) : ¬ nlt a a := List.lt_irrefl _
theorem nlt_trans {a b c : Str} (h : nlt a b) (k : nlt b c) : nlt a c := List.lt_trans h k
theorem nlt_tri (a b : Str) : a = b ∨ nlt a b ∨ nlt b a := by
  by_cases h : nlt a b
  · exact .inr (.inl h)
  · by_cases k : nlt b a
    · exact .inr (.inr k)
    · exact .inl (cps_inj (List.le_antisymm (List.not_lt.mp k) (List.not_lt.mp h)))
theorem nlt_ne {a b : Str} (h : nlt a b) : a ≠ b := fun e => nlt_irrefl b (by rw [e] at h; exact h)
theorem nlt_asymm {a b : Str} (h : nlt a b) : ¬ nlt b a := fun k => nlt_irrefl a (nlt_trans h k)

/-! ### rows, trees -/
abbrev Row := Str × Str × Int
abbrev eS : Str := ("" : Str)
def names (R : List Row) : List Str := R.map (·.1)
def NameOk (x : Str) : Prop := 1 ≤ x.length ∧ x.length ≤ 8 ∧ ∀ c ∈ x.cps.toList, 97 ≤ c ∧ c ≤ 122
def roomLine : Int := 10 ^ 70
structure TreeOk (R : List Row) : Prop where
  ne : R ≠ []
  asc : R.Pairwise fun a b => nlt a.1 b.1
  nm : ∀ r ∈ R, NameOk r.1
  par : ∀ r ∈ R, r.2.1 = eS ∨ r.2.1 ∈ names R
  room : ∀ r ∈ R, 0 ≤ r.2.2 ∧ r.2.2 < roomLine
  rank : ∃ f : Str → Nat, ∀ r ∈ R, r.2.1 ≠ eS → f r.2.1 < f r.1
  few : R.length ≤ 60
theorem eS_length : eS.length = 0 := by decide +kernel
theorem NameOk.ne {x : Str} (h : NameOk x) : x ≠ eS := fun e => by
  have h1 := h.1
  rw [e, eS_length] at h1
  omega
theorem mem_names {R : List Row} {r : Row} (h : r ∈ R) : r.1 ∈ names R := List.mem_map.mpr ⟨r, h, rfl⟩
theorem of_names {R : List Row} {x : Str} (h : x ∈ names R) : ∃ r ∈ R, r.1 = x := by
  obtain ⟨r, a, b⟩ := List.mem_map.mp h
  exact ⟨r, a, b⟩
theorem names_length (R : List Row) : (names R).length = R.length := List.length_map _
theorem TreeOk.self {R : List Row} (T : TreeOk R) : ∀ r ∈ R, r.1 ≠ r.2.1 := fun r h e => by
  obtain ⟨f, hf⟩ := T.rank
  have n : r.2.1 ≠ eS := fun z => (T.nm r h).ne (e.trans z)
  have := hf r h n
  rw [← e] at this
  exact Nat.lt_irrefl _ this
theorem TreeOk.spot {R : List Row} (T : TreeOk R) {r : Row} (h : r ∈ R) : r.2.1 = eS ∨ NameOk r.2.1 := by
  rcases T.par r h with e | e
  · exact .inl e
  · obtain ⟨q, hq, eq⟩ := of_names e
    exact .inr (by rw [← eq]; exact T.nm q hq)
theorem TreeOk.nodup {R : List Row} (T : TreeOk R) : (names R).Nodup := by
  have h : (names R).Pairwise nlt := List.pairwise_map.mpr T.asc
  exact h.imp fun k => nlt_ne k
theorem asc_inj {R : List Row} (h : R.Pairwise fun a b => nlt a.1 b.1) {r q : Row} (hr : r ∈ R) (hq : q ∈ R) (e : r.1 = q.1) : r = q := by
  induction h with
  | nil => cases hr
  | @cons a l h1 _ ih =>
    rcases List.mem_cons.mp hr with z | z
    · rcases List.mem_cons.mp hq with y | y
      · rw [z, y]
      · exact absurd (by rw [← z]; exact e) (nlt_ne (h1 q y))
    · rcases List.mem_cons.mp hq with y | y
      · exact absurd (by rw [← y]; exact e.symm) (nlt_ne (h1 r z))
      · exact ih z y

/-! ### the order of whole rows, one sorted list -/
/-- two ascending lists of the same rows are one -/
theorem asc_perm {R S : List Row} (hR : R.Pairwise fun a b => nlt a.1 b.1) (hS : S.Pairwise fun a b => nlt a.1 b.1) (p : R.Perm S) : R = S :=
  List.Perm.eq_of_pairwise (fun a b _ _ h k => absurd k (nlt_asymm h)) hR hS p
/-- one row put in at its place -/
def ins (r : Row) (R : List Row) : List Row := R.filter (fun q => decide (nlt q.1 r.1)) ++ r :: R.filter (fun q => !decide (nlt q.1 r.1))
theorem ins_perm (r : Row) (R : List Row) : (ins r R).Perm (r :: R) := by
  unfold ins
  refine List.perm_middle.trans (List.Perm.cons _ ?_)
  exact List.filter_append_perm (fun q => decide (nlt q.1 r.1)) R
theorem mem_ins {r q : Row} {R : List Row} : q ∈ ins r R ↔ q = r ∨ q ∈ R := by
  rw [(ins_perm r R).mem_iff, List.mem_cons]
theorem ins_asc {r : Row} {R : List Row} (h : R.Pairwise fun a b => nlt a.1 b.1) (n : r.1 ∉ names R) : (ins r R).Pairwise fun a b => nlt a.1 b.1 := by
  unfold ins
  rw [List.pairwise_append]
  refine ⟨h.sublist List.filter_sublist, ?_, fun a ha b hb => ?_⟩
  · refine List.pairwise_cons.mpr ⟨fun b hb => ?_, h.sublist List.filter_sublist⟩
    obtain ⟨hb1, hb2⟩ := List.mem_filter.mp hb
    have hb2' : ¬ nlt b.1 r.1 := by simpa using hb2
    rcases nlt_tri r.1 b.1 with e | e | e
    · exact absurd (by rw [e]; exact mem_names hb1) n
    · exact e
    · exact absurd e hb2'
  · obtain ⟨ha1, ha2⟩ := List.mem_filter.mp ha
    have ha2' : nlt a.1 r.1 := by simpa using ha2
    rcases List.mem_cons.mp hb with e | hb
    · rw [e]; exact ha2'
    · obtain ⟨hb1, hb2⟩ := List.mem_filter.mp hb
      have hb2' : ¬ nlt b.1 r.1 := by simpa using hb2
      rcases nlt_tri r.1 b.1 with e | e | e
      · rw [← e]; exact ha2'
      · exact nlt_trans ha2' e
      · exact absurd e hb2'
theorem names_ins {r : Row} {R : List Row} {x : Str} : x ∈ names (ins r R) ↔ x = r.1 ∨ x ∈ names R := by
  constructor
  · intro h
    obtain ⟨q, hq, e⟩ := of_names h
    rcases mem_ins.mp hq with z | z
    · exact .inl (by rw [← e, z])
    · exact .inr (by rw [← e]; exact mem_names z)
  · rintro (h | h)
    · rw [h]; exact mem_names (mem_ins.mpr (.inl rfl))
    · obtain ⟨q, hq, e⟩ := of_names h
      rw [← e]; exact mem_names (mem_ins.mpr (.inr hq))
theorem ins_length (r : Row) (R : List Row) : (ins r R).length = R.length + 1 := by
  rw [(ins_perm r R).length_eq, List.length_cons]
/-- a folder that can be put in -/
structure Fits (r : Row) (R : List Row) : Prop where
  new : r.1 ∉ names R
  self : r.1 ≠ r.2.1
  par : r.2.1 = eS ∨ r.2.1 ∈ names R
theorem TreeOk.ins {R : List Row} (T : TreeOk R) {r : Row} (F : Fits r R) (hn : NameOk r.1) (hr : 0 ≤ r.2.2 ∧ r.2.2 < roomLine) (hf : R.length < 60) : TreeOk (ins r R) := by
  obtain ⟨f, hrank⟩ := T.rank
  refine ⟨fun e => ?_, ins_asc T.asc F.new, fun q hq => ?_, fun q hq => ?_, fun q hq => ?_, ?_, by rw [ins_length]; omega⟩
  · have := ins_length r R
    rw [e] at this
    cases this
  · rcases mem_ins.mp hq with z | z
    · rw [z]; exact hn
    · exact T.nm q z
  · rcases mem_ins.mp hq with z | z
    · rw [z]; exact F.par.imp id fun h => names_ins.mpr (.inr h)
    · exact (T.par q z).imp id fun h => names_ins.mpr (.inr h)
  · rcases mem_ins.mp hq with z | z
    · rw [z]; exact hr
    · exact T.room q z
  · refine ⟨fun x => if x = r.1 then f r.2.1 + 1 else f x, fun q hq ne => ?_⟩
    rcases mem_ins.mp hq with z | z
    · subst z
      show (if q.2.1 = q.1 then _ else _) < (if q.1 = q.1 then _ else _)
      rw [if_neg (Ne.symm F.self), if_pos rfl]
      exact Nat.lt_succ_self _
    · have h1 : q.1 ≠ r.1 := fun e => F.new (by rw [← e]; exact mem_names z)
      have h2 : q.2.1 ≠ r.1 := fun e => by
        rcases T.par q z with y | y
        · exact ne y
        · exact F.new (by rw [← e]; exact y)
      show (if q.2.1 = r.1 then _ else _) < (if q.1 = r.1 then _ else _)
      rw [if_neg h1, if_neg h2]
      exact hrank q z ne
/-- one folder taken out -/
def out (x : Str) (R : List Row) : List Row := R.filter fun q => decide (q.1 ≠ x)
theorem mem_out {x : Str} {q : Row} {R : List Row} : q ∈ out x R ↔ q ∈ R ∧ q.1 ≠ x := by
  unfold out
  rw [List.mem_filter, decide_eq_true_eq]
theorem TreeOk.out {R : List Row} (T : TreeOk R) {x : Str} (hl : R.length ≠ 1) (hp : ∀ r ∈ R, r.2.1 ≠ x) : TreeOk (out x R) := by
  obtain ⟨f, hrank⟩ := T.rank
  refine ⟨fun e => ?_, T.asc.sublist List.filter_sublist, fun q hq => T.nm q (mem_out.mp hq).1, fun q hq => ?_, fun q hq => T.room q (mem_out.mp hq).1, ⟨f, fun q hq => hrank q (mem_out.mp hq).1⟩,
    Nat.le_trans (List.length_filter_le _ _) T.few⟩
  · cases hR : R with
    | nil => exact T.ne hR
    | cons a l =>
      cases hl2 : l with
      | nil => rw [hR, hl2] at hl; exact hl rfl
      | cons b l2 =>
        have ha : a ∈ R := by rw [hR]; exact List.mem_cons_self
        have hb : b ∈ R := by rw [hR, hl2]; exact List.mem_cons_of_mem _ List.mem_cons_self
        have na : a ∉ K14.out x R := fun z => by rw [e] at z; cases z
        have nb : b ∉ K14.out x R := fun z => by rw [e] at z; cases z
        have ea : a.1 = x := Classical.byContradiction fun z => na (mem_out.mpr ⟨ha, z⟩)
        have eb : b.1 = x := Classical.byContradiction fun z => nb (mem_out.mpr ⟨hb, z⟩)
        have h := T.asc
        rw [hR, hl2] at h
        exact nlt_ne ((List.pairwise_cons.mp h).1 b List.mem_cons_self) (ea.trans eb.symm)
  · obtain ⟨h1, h2⟩ := mem_out.mp hq
    rcases T.par q h1 with e | e
    · exact .inl e
    · obtain ⟨p, hp1, hp2⟩ := of_names e
      exact .inr (by rw [← hp2]; exact mem_names (mem_out.mpr ⟨hp1, by rw [hp2]; exact hp q h1⟩))
theorem out_ins {r : Row} {R : List Row} (h : R.Pairwise fun a b => nlt a.1 b.1) (n : r.1 ∉ names R) : out r.1 (ins r R) = R := by
  refine asc_perm ((ins_asc h n).sublist List.filter_sublist) h ?_
  have p := (ins_perm r R).filter fun q => decide (q.1 ≠ r.1)
  refine p.trans ?_
  rw [List.filter_cons_of_neg (by simp)]
  rw [List.filter_eq_self.mpr fun q hq => ?_]
  have : q.1 ≠ r.1 := fun e => n (by rw [← e]; exact mem_names hq)
  simpa using this
theorem ins_ne (r : Row) (R : List Row) : ins r R ≠ R := fun e => by
  have := ins_length r R
  rw [e] at this
  omega

/-! ### a way up ends -/
theorem nodup_sub {α : Type} [DecidableEq α] : ∀ {l m : List α}, l.Nodup → (∀ x ∈ l, x ∈ m) → l.length ≤ m.length
  | [], m, _, _ => Nat.zero_le _
  | a :: l, m, h, k => by
    obtain ⟨h1, h2⟩ := List.nodup_cons.mp h
    have ha : a ∈ m := k a List.mem_cons_self
    have ih := nodup_sub (l := l) (m := m.erase a) h2 fun x hx => by
      have ne : x ≠ a := fun e => h1 (by rw [← e]; exact hx)
      exact (List.mem_erase_of_ne ne).mpr (k x (List.mem_cons_of_mem _ hx))
    have e := List.length_erase_of_mem ha
    have pos : 0 < m.length := List.length_pos_of_mem ha
    rw [List.length_cons]
    omega
end K14
end

-- K14Base
section
set_option maxRecDepth 100000
set_option maxHeartbeats 2000000
namespace K14
open PySem PySem.Spec PyProof.Rows L2
open PySem.W (Frag)

/-! ### the text by places -/
def top (i : Nat) : Stmt := PySem.Challenge.pw_roomrings_k14_whole_trees_grown.main.body.getD i (.Pass ⟨0, 0, 0, 0⟩)
abbrev FnP (K : Frag) (x : Str) (st : Stmt) (f : Addr) (fd : FuncData) : Prop := FunD K x x (defArgs st) (defBody st) (defScope st) [] [] f fd

/-! ### a def of the module: found by its name -/
/-- x stands for a def that keeps sp; its last parameters are filled by the defaults dvs -/
structure Dn (P : Program) (w : World) (K : Frag) (mg : Str → Option Value) (base : Heap) (CX : CXT) (k : Nat) (x : Str) (dvs : List V) (sp : Sp) : Prop where
  ex : ∃ (f : Addr) (fd : FuncData) (ps : List Str) (ds : List Value), mg x = some (.ref f) ∧ PySem.W.keepIn K (.ref f) = true ∧ FnOk P w K mg base CX k f fd ps sp ∧ Binds K fd ps ds ∧ Vals dvs ds
section
variable {X : Cx} {CX : CXT} {j k : Nat} {x : Str} {dvs : List V} {sp : Sp} {E : XK} {p pos : Pos} {e : Expr} {es : List Expr} {t : TA}
theorem pe_d (D : Dn X.prog X.w X.K X.mg X.base CX k x dvs sp) (hr : Room j X.A) (hk : k ≤ j) (hg : Gl X x) (hx : Passes CX X E) (ha : PA X (e :: es) t) (hdb : (x == ("__debug__" : Str)) = false := by decide +kernel)
    (he : starEach (e :: es) X.env = (false, eval e X.env) :: starEach es X.env := by rfl) (hpl : (backTo pos (starEach es X.env)).any (·.1) = false := by rfl) :
    PE X (.Call (.Name x p) (e :: es) [] pos) (tCall sp dvs E t) := by
  obtain ⟨f, fd, ps, ds, h1, h2, h3, h4, h5⟩ := D.ex
  exact pe_call h3 (hr.mono hk) hg h1 h2 h4 h5 hx ha hdb he hpl
end

/-! ### what stands is kept: Same (all), Gr (all but the dicts with int and text keys) -/
def Gr (H H' : Hp) : Prop := ∀ b o, H b = some o → (∀ kvs, o ≠ .dK kvs) → H' b = some o
theorem Gr.refl (H : Hp) : Gr H H := fun _ _ h _ => h
theorem Gr.trans {H H1 H2 : Hp} (a : Gr H H1) (b : Gr H1 H2) : Gr H H2 := fun c o h m => b c o (a c o h m) m
theorem Gr.of {H H' : Hp} (s : Same H H') : Gr H H' := fun b o h _ => s b o h
theorem Gr.tup {H H' : Hp} (g : Gr H H') {b : Addr} {xs : List V} (h : H b = some (.tup xs)) : H' b = some (.tup xs) := g b _ h (fun _ z => nomatch z)
theorem Gr.lst {H H' : Hp} (g : Gr H H') {b : Addr} {xs : List V} (h : H b = some (.lst xs)) : H' b = some (.lst xs) := g b _ h (fun _ z => nomatch z)
theorem Gr.ins {H H' : Hp} (g : Gr H H') {b C dx : Addr} {fs : List (Str × V)} (h : H b = some (.ins C dx fs)) : H' b = some (.ins C dx fs) := g b _ h (fun _ z => nomatch z)
theorem Same.new {H : Hp} {p : Addr} {o : HO} (h : H p = none) : Same H (upd H p o) := fun b u e => by rw [upd_ne (ne_of_none e h)]; exact e
theorem Same.new' {H H1 : Hp} {p : Addr} {o : HO} (s : Same H H1) (h : H1 p = none) : Same H (upd H1 p o) := s.trans (Same.new h)
theorem Same.at2 {H H' : Hp} (s : Same H H') {b : Addr} {o : HO} (h : H b = some o) : H' b = some o := s b o h
/-- a thing of ours that is new is changed -/
theorem Same.put {H H1 : Hp} {p : Addr} {o : HO} (s : Same H H1) (h : H p = none) : Same H (upd H1 p o) := fun b u e => by
  rw [upd_ne (ne_of_none e h)]
  exact s b u e
theorem Gr.put {H H1 : Hp} {p : Addr} {o : HO} (g : Gr H H1) (h : H p = none) : Gr H (upd H1 p o) := fun b u e m => by
  rw [upd_ne (ne_of_none e h)]
  exact g b u e m

/-! ### rows in memory -/
def RowAt (H : Hp) (x : V) (r : Row) : Prop := ∃ p, x = .ref p ∧ H p = some (.tup [.str r.1, .str r.2.1, .int r.2.2])
abbrev Rows (H : Hp) (xs : List V) (R : List Row) : Prop := Paired (RowAt H) xs R
def TupAt (H : Hp) (t : Addr) (R : List Row) : Prop := ∃ xs, H t = some (.tup xs) ∧ Rows H xs R
def LstAt (H : Hp) (l : Addr) (R : List Row) : Prop := ∃ xs, H l = some (.lst xs) ∧ Rows H xs R
def txs (ns : List Str) : List V := ns.map V.str
theorem RowAt.gr {H H' : Hp} (g : Gr H H') {x : V} {r : Row} (h : RowAt H x r) : RowAt H' x r := let ⟨p, e, q⟩ := h; ⟨p, e, g.tup q⟩
theorem Rows.gr {H H' : Hp} (g : Gr H H') : ∀ {xs : List V} {R : List Row}, Rows H xs R → Rows H' xs R
  | _, _, .nil => .nil
  | _, _, .cons h t => .cons (h.gr g) (Rows.gr g t)
theorem TupAt.gr {H H' : Hp} (g : Gr H H') {t : Addr} {R : List Row} (h : TupAt H t R) : TupAt H' t R := let ⟨xs, e, q⟩ := h; ⟨xs, g.tup e, Rows.gr g q⟩
theorem LstAt.gr {H H' : Hp} (g : Gr H H') {t : Addr} {R : List Row} (h : LstAt H t R) : LstAt H' t R := let ⟨xs, e, q⟩ := h; ⟨xs, g.lst e, Rows.gr g q⟩
theorem TupAt.sm {H H' : Hp} (s : Same H H') {t : Addr} {R : List Row} (h : TupAt H t R) : TupAt H' t R := h.gr (Gr.of s)
theorem LstAt.sm {H H' : Hp} (s : Same H H') {t : Addr} {R : List Row} (h : LstAt H t R) : LstAt H' t R := h.gr (Gr.of s)
theorem Rows.sm {H H' : Hp} (s : Same H H') {xs : List V} {R : List Row} (h : Rows H xs R) : Rows H' xs R := Rows.gr (Gr.of s) h
theorem Rows.len {H : Hp} {xs : List V} {R : List Row} (h : Rows H xs R) : xs.length = R.length := Paired.length h
theorem Rows.at {H : Hp} : ∀ {xs : List V} {R : List Row} {i : Nat} {x : V}, Rows H xs R → xs[i]? = some x → ∃ r, R[i]? = some r ∧ RowAt H x r
  | _, _, _, _, .nil, e => by simp at e
  | _, _, 0, _, .cons h _, e => by simp at e; subst e; exact ⟨_, rfl, h⟩
  | _, _, i + 1, x, .cons _ t, e => by
    obtain ⟨r, h1, h2⟩ := Rows.at (i := i) (x := x) t (by simpa using e)
    exact ⟨r, by simpa using h1, h2⟩
theorem Rows.row {H : Hp} : ∀ {xs : List V} {R : List Row} {i : Nat} {r : Row}, Rows H xs R → R[i]? = some r → ∃ x, xs[i]? = some x ∧ RowAt H x r
  | _, _, _, _, .nil, e => by simp at e
  | _, _, 0, _, .cons h _, e => by simp at e; subst e; exact ⟨_, rfl, h⟩
  | _, _, i + 1, x, .cons _ t, e => by
    obtain ⟨r, h1, h2⟩ := Rows.row (i := i) (r := x) t (by simpa using e)
    exact ⟨r, by simpa using h1, h2⟩
theorem sz60 {n : Nat} (h : n ≤ 60) : n ≤ sizeLine := Nat.le_trans h (by decide)
theorem sz60' {n : Nat} (h : n ≤ 60) : n < sizeLine := Nat.lt_of_le_of_lt h (by decide)
theorem getlt {α : Type} {l : List α} {i : Nat} {x : α} (h : l[i]? = some x) : i < l.length := (List.getElem?_eq_some_iff.mp h).1
theorem take_snoc {α : Type} {l : List α} {i : Nat} {x : α} (h : l[i]? = some x) : l.take (i + 1) = l.take i ++ [x] := by
  rw [List.take_add_one, h] <;> rfl
end K14
end

-- K14Lc
section
set_option maxRecDepth 100000
set_option maxHeartbeats 2000000
namespace K14
open PySem PySem.Spec PyProof.Rows L2
open PySem.W (Frag)

theorem tyes {σ : L2.St} {H : Hp} {Q : Bool → Hp → Prop} (h : Q true H) : tYes σ H Q := h
/-- a comprehension without a test: its turn's element -/
theorem tyesT {σ : L2.St} {H : Hp} {A B : Hp → Prop} (h : A H) : tYes σ H (fun b H3 => if b = true then A H3 else B H3) := h

abbrev gT2 (K : Frag) (i j : Nat) : TG := gTup K 2 (gCons (gName i) (gCons (gName j) gNil))
abbrev gT3 (K : Frag) (i j l : Nat) : TG := gTup K 3 (gCons (gName i) (gCons (gName j) (gCons (gName l) gNil)))
theorem gT2_ok {K : Frag} {i j : Nat} {a b : V} {p : Addr} {σ : L2.St} {H : Hp} {Q : L2.St → Hp → Prop} (h : H p = some (.tup [a, b])) (q : Q ((σ.set i (some a)).set j (some b)) H) : gT2 K i j (.ref p) σ H Q :=
  ⟨p, _, rfl, SqT.of h, rfl, _, _, rfl, _, _, rfl, rfl, q⟩
theorem gT3_ok {K : Frag} {i j l : Nat} {a b c : V} {p : Addr} {σ : L2.St} {H : Hp} {Q : L2.St → Hp → Prop} (h : H p = some (.tup [a, b, c])) (q : Q (((σ.set i (some a)).set j (some b)).set l (some c)) H) : gT3 K i j l (.ref p) σ H Q :=
  ⟨p, _, rfl, SqT.of h, rfl, _, _, rfl, _, _, rfl, _, _, rfl, rfl, q⟩

/-! ### comprehensions that make nothing new but their list: what is held after i turns -/
section
variable {α : Type} {L : List α} {f : α → Option V} {i : Nat} {r : α} {y : V} {H1 : Hp} {D : Addr}
/-- the heap after i turns -/
def LcH (H1 : Hp) (D : Addr) (f : α → Option V) (L : List α) (i : Nat) : Hp := upd H1 D (.lst ((L.take i).filterMap f))
theorem lcH_0 : upd H1 D (.lst []) = LcH H1 D f L 0 := by simp [LcH]
theorem lcH_n : LcH H1 D f L L.length = upd H1 D (.lst (L.filterMap f)) := by simp [LcH]
theorem lcH_D : LcH H1 D f L i D = some (.lst ((L.take i).filterMap f)) := upd_same
theorem lcH_at {b : Addr} {o : HO} (h : H1 b = some o) (n : H1 D = none) : LcH H1 D f L i b = some o := by
  unfold LcH
  rw [upd_ne (ne_of_none h n)]
  exact h
theorem lcH_same (n : H1 D = none) : Same H1 (LcH H1 D f L i) := fun b o h => lcH_at h n
theorem lc_fin (hr : L[i]? = some r) (hf : f r = some y) (hl : L.length ≤ 1000) :
    ∃ acc, LcH H1 D f L i D = some (.lst acc) ∧ acc.length < sizeLine ∧ upd (LcH H1 D f L i) D (.lst (acc ++ [y])) = LcH H1 D f L (i + 1) := by
  refine ⟨_, lcH_D, ?_, ?_⟩
  · refine Nat.lt_of_le_of_lt (List.length_filterMap_le _ _) ?_
    rw [List.length_take]
    exact Nat.lt_of_le_of_lt (Nat.le_trans (Nat.min_le_right _ _) hl) (by decide)
  · have e : (L.take (i + 1)).filterMap f = (L.take i).filterMap f ++ [y] := by
      rw [take_snoc hr, List.filterMap_append]
      simp [hf]
    unfold LcH
    rw [e]
    funext b
    by_cases hb : b = D
    · subst hb
      rw [upd_same, upd_same]
    · rw [upd_ne hb, upd_ne hb, upd_ne hb]
theorem lc_skip (hr : L[i]? = some r) (hf : f r = none) : LcH H1 D f L i = LcH H1 D f L (i + 1) := by
  have e : (L.take (i + 1)).filterMap f = (L.take i).filterMap f := by
    rw [take_snoc hr, List.filterMap_append]
    simp [hf]
  unfold LcH
  rw [e]
end
end K14
end

-- K14Kinds
section
set_option maxRecDepth 100000
set_option maxHeartbeats 2000000
namespace K14
open PySem PySem.Spec PyProof.Rows L2
open PySem.W (Frag)

/-! ### the module's names that are read -/
structure Txt (mg : Str → Option Value) : Prop where
  isinstance : mg "isinstance" = none
  int : mg "int" = none
  bool : mg "bool" = none
  str : mg "str" = none
  len : mg "len" = none
  all : mg "all" = none
  tuple : mg "tuple" = none
  enumerate : mg "enumerate" = none
  sorted : mg "sorted" = none
  set : mg "set" = none
  list : mg "list" = none
  dict : mg "dict" = none
  range : mg "range" = none
  sum : mg "sum" = none
  min : mg "min" = none
  repr : mg "repr" = none
  iter : mg "iter" = none
  super : mg "super" = none
  ValueError : mg "ValueError" = none
  letters : ∃ t, mg "LETTERS" = some (.str "abcdefghijklmnopqrstuvwxyz" t)
  most : ∃ t, mg "MOST_LETTERS" = some (.int 8 t)
  outside : ∃ t, mg "OUTSIDE" = some (.str "-" t)
abbrev sIsInt : Stmt := top 17
abbrev sIsNum : Stmt := top 18
abbrev sIsName : Stmt := top 19
abbrev sIsSpot : Stmt := top 20
abbrev sIsTriple : Stmt := top 21
abbrev sIsFolder : Stmt := top 22

def spIsInt : Sp := fun vs H Q _ => ∃ i : Int, vs = [.int i] ∧ Q (.bl true) H
section
variable {P : Program} {w : World} {K : Frag} {mg : Str → Option Value} {base : Heap} {f : Addr} {fd : FuncData}
theorem isi_boot : bootBuiltins "isinstance" = some (.builtin "isinstance") := by decide +kernel
theorem int_boot : bootBuiltins "int" = some (.type "int") := by decide +kernel
theorem bool_boot : bootBuiltins "bool" = some (.type "bool") := by decide +kernel
theorem sc_isInt : FnScope ["thing"] ["thing"] (defScope sIsInt) := ⟨rfl, rfl, rfl, by decide +kernel, rfl, by decide +kernel, by decide +kernel⟩
theorem ok_isInt (F : FnP K "is_integer" sIsInt f fd) (T : Txt mg) : FnOk P w K mg base CX0 1 f fd ["thing"] spIsInt := by
  refine F.ok sc_isInt (fun vs H Q E h => ?_) (fun cdv A outer s H vs Q E hr h => ?_)
  · obtain ⟨i, rfl, _⟩ := h
    rfl
  · obtain ⟨i, rfl, k⟩ := h
    refine ⟨_, PSs.nox (pss_one (ps_ret (pe_and
      (pe_callB call_isi rfl T.isinstance isi_boot (pa_cons (pv 0) (pa_cons (pe_bltn (v := .ty "int") rfl T.int int_boot rfl) pa_nil)))
      (pe_one (pe_not (pe_callB call_isi rfl T.isinstance isi_boot (pa_cons (pv 0) (pa_cons (pe_bltn (v := .ty "bool") rfl T.bool bool_boot rfl) pa_nil)))))))), ?_⟩
    refine ⟨_, rfl, _, _, _, _, _, rfl, .ty _, .base (.int i), kit_ty (r := true) (by decide +kernel), true, rfl, iteT ?_⟩
    refine ⟨_, rfl, _, _, _, _, _, rfl, .ty _, .base (.int i), kit_ty (r := false) (by decide +kernel), false, rfl, ?_⟩
    exact k

def spIsNum : Sp := fun vs H Q _ => ∃ i : Int, vs = [.int i] ∧ Q (.bl (decide (0 ≤ i))) H
theorem sc_isNum : FnScope ["thing"] ["thing"] (defScope sIsNum) := ⟨rfl, rfl, rfl, by decide +kernel, rfl, by decide +kernel, by decide +kernel⟩
theorem ok_isNum (F : FnP K "is_number" sIsNum f fd) (D : Dn P w K mg base CX0 1 "is_integer" [] spIsInt) : FnOk P w K mg base CX0 2 f fd ["thing"] spIsNum := by
  refine F.ok sc_isNum (fun vs H Q E h => ?_) (fun cdv A outer s H vs Q E hr h => ?_)
  · obtain ⟨i, rfl, _⟩ := h
    rfl
  · obtain ⟨i, rfl, k⟩ := h
    refine ⟨_, PSs.nox (pss_one (ps_ret (pe_and (pe_d D hr (by decide) rfl pass0 (pa_cons (pv 0) pa_nil)) (pe_one (pe_cmpR op_ge (pv 0) pe_int (nomark _)))))), ?_⟩
    refine ⟨_, rfl, i, rfl, true, rfl, iteT ?_⟩
    exact ⟨_, rfl, _, _, rfl, rfl, k⟩

/-- a name of the program's own, or the empty text -/
def spIsName : Sp := fun vs H Q _ => ∃ x : Str, vs = [.str x] ∧ (NameOk x ∨ x = eS) ∧ ∀ H', Same H H' → Q (.bl (decide (x ≠ eS))) H'
theorem letters_at : ∀ n : Nat, 97 ≤ n → n ≤ 122 → n ∈ ("abcdefghijklmnopqrstuvwxyz" : Str).cps.toList := by
  intro n h k
  have e : ("abcdefghijklmnopqrstuvwxyz" : Str).cps.toList = List.range' 97 26 := by decide +kernel
  rw [e, List.mem_range']
  exact ⟨n - 97, by omega, by omega⟩
theorem sc_isName : FnScope ["thing", "sign"] ["thing"] (defScope sIsName) := ⟨rfl, rfl, rfl, by decide +kernel, rfl, by decide +kernel, by decide +kernel⟩
theorem ok_isName (F : FnP K "is_name" sIsName f fd) (T : Txt mg) : FnOk P w K mg base CX0 1 f fd ["thing"] spIsName := by
  refine F.ok sc_isName (fun vs H Q E h => ?_) (fun cdv A outer s H vs Q E hr h => ?_)
  · obtain ⟨x, rfl, _⟩ := h
    rfl
  · obtain ⟨x, rfl, hx, k⟩ := h
    obtain ⟨tL, mL⟩ := T.letters
    obtain ⟨tM, mM⟩ := T.most
    refine ⟨_, PSs.nox (pss_one (ps_ret (pe_and
      (pe_callB call_isi rfl T.isinstance isi_boot (pa_cons (pv 0) (pa_cons (pe_bltn (v := .ty "str") rfl T.str (by decide +kernel) rfl) pa_nil)))
      (pe_and (pe_chain op_le op_le pe_int (pe_callB call_len_str rfl T.len PySem.boot_len (pa_cons (pv 0) pa_nil)) (pe_glob (v := .int 8) rfl mM ⟨_, rfl⟩))
      (pe_one (pe_callB (cr_all rfl) rfl T.all (by decide +kernel) (pa_cons (pe_lc (own := [("sign", 1)]) (g := gName 1) (tt := tYes) rfl sc_isName.nd (pi_str (pv 0)) (blkOk_by (N := ["thing", "sign"]) (sc := defScope sIsName) (by decide +kernel))
        (fun _ _ _ _ _ => pg_name (i := 1) sc_isName.nd rfl (Or.inl rfl)) (fun _ _ _ _ _ => pts_nil)
        (fun _ _ _ _ _ => pe_cmpR op_in_sign (pv 1) (pe_glob (v := .str "abcdefghijklmnopqrstuvwxyz") rfl mL ⟨_, rfl⟩) rfl)) pa_nil))))))), ?_⟩
    refine ⟨_, rfl, _, _, _, _, _, rfl, .ty _, .base (.str x), kit_ty (r := true) (by decide +kernel), true, rfl, iteT ?_⟩
    have hl : x.length ≤ 8 := by
      rcases hx with h | h
      · exact h.2.1
      · rw [h, eS_length]; decide
    refine ⟨_, rfl, _, rfl, Nat.le_trans hl (by decide), _, _, rfl, rfl, _, rfl, ?_⟩
    rcases hx with hx | hx
    · have h1 : (1 : Int) ≤ (x.length : Int) := by have := hx.1; omega
      have h2 : (x.length : Int) ≤ 8 := by omega
      rw [decide_eq_true h1]
      refine iteT ⟨_, _, rfl, rfl, _, rfl, ?_⟩
      rw [decide_eq_true h2]
      refine iteT ⟨_, rfl, x, rfl, fun D hD => lc_it walk_str (fun i H' => H' = LcH H D (fun _ => some (.bl true)) x.cps.toList i) lcH_0 (fun _ _ _ _ => trivial) ?_ ?_⟩
      · rintro i v _ H' hi rfl ⟨rfl, c, hc, rfl⟩
        have hc2 : x.cps.toList[i]? = some c := by simpa using hc
        refine ⟨rfl, tyesT ⟨_, rfl, c, _, rfl, rfl, ?_⟩⟩
        have hm : c ∈ x.cps.toList := List.mem_of_getElem? hc2
        rw [decide_eq_true (letters_at c (hx.2.2 c hm).1 (hx.2.2 c hm).2)]
        exact lc_fin hc2 rfl (Nat.le_trans hx.2.1 (by decide))
      · rintro H' rfl
        have e : x.cps.size = x.cps.toList.length := by simp
        rw [e, lcH_n]
        refine ⟨D, x.cps.toList.map fun _ => true, rfl, SqL.of ?_, ?_⟩
        · rw [upd_same, List.map_map]
          congr 2
          induction x.cps.toList with
          | nil => rfl
          | cons a l ih => simp at ih ⊢
        · have hall : ((x.cps.toList.map fun _ => true).all id) = true := by simp
          have := k _ (Same.new (o := .lst (x.cps.toList.filterMap fun _ => some (.bl true))) hD)
          rw [decide_eq_true hx.ne] at this
          rw [hall]
          exact this
    · subst hx
      rw [show decide ((1 : Int) ≤ (eS.length : Int)) = false by decide +kernel]
      refine iteF ⟨_, rfl, iteF ?_⟩
      have := k H fun _ _ h => h
      exact this

def spIsSpot : Sp := fun vs H Q _ => ∃ x : Str, vs = [.str x] ∧ (NameOk x ∨ x = eS) ∧ ∀ H', Same H H' → Q (.bl true) H'
theorem sc_isSpot : FnScope ["thing"] ["thing"] (defScope sIsSpot) := ⟨rfl, rfl, rfl, by decide +kernel, rfl, by decide +kernel, by decide +kernel⟩
theorem ok_isSpot (F : FnP K "is_spot" sIsSpot f fd) (T : Txt mg) (D : Dn P w K mg base CX0 1 "is_name" [] spIsName) : FnOk P w K mg base CX0 2 f fd ["thing"] spIsSpot := by
  refine F.ok sc_isSpot (fun vs H Q E h => ?_) (fun cdv A outer s H vs Q E hr h => ?_)
  · obtain ⟨x, rfl, _⟩ := h
    rfl
  · obtain ⟨x, rfl, hx, k⟩ := h
    refine ⟨_, PSs.nox (pss_one (ps_ret (pe_or (pe_d D hr (by decide) rfl pass0 (pa_cons (pv 0) pa_nil)) (pe_one (pe_and
      (pe_callB call_isi rfl T.isinstance isi_boot (pa_cons (pv 0) (pa_cons (pe_bltn (v := .ty "str") rfl T.str (by decide +kernel) rfl) pa_nil)))
      (pe_one (pe_cmpR op_eq (pv 0) pe_str (nomark _)))))))), ?_⟩
    refine ⟨_, rfl, x, rfl, hx, fun H' hs => ⟨_, rfl, ite2 (fun _ => k H' hs) fun hn => ?_⟩⟩
    have hn2 : x = eS := by simpa using hn
    refine ⟨_, rfl, _, _, _, _, _, rfl, .ty _, .base (.str x), kit_ty (r := true) (by decide +kernel), true, rfl, iteT ?_⟩
    refine ⟨_, rfl, rfl, ?_⟩
    have := k H' hs
    rw [hn2]
    exact this

def spIsTriple : Sp := fun vs H Q _ => ∃ (p : Addr) (a b c : V), vs = [.ref p] ∧ H p = some (.tup [a, b, c]) ∧ Q (.bl true) H
theorem sc_isTriple : FnScope ["thing"] ["thing"] (defScope sIsTriple) := ⟨rfl, rfl, rfl, by decide +kernel, rfl, by decide +kernel, by decide +kernel⟩
theorem ok_isTriple (F : FnP K "is_triple" sIsTriple f fd) (T : Txt mg) : FnOk P w K mg base CX0 1 f fd ["thing"] spIsTriple := by
  refine F.ok sc_isTriple (fun vs H Q E h => ?_) (fun cdv A outer s H vs Q E hr h => ?_)
  · obtain ⟨p, a, b, c, rfl, _⟩ := h
    rfl
  · obtain ⟨p, a, b, c, rfl, hp, k⟩ := h
    refine ⟨_, PSs.nox (pss_one (ps_ret (pe_and
      (pe_callB call_isi rfl T.isinstance isi_boot (pa_cons (pv 0) (pa_cons (pe_bltn (v := .ty "tuple") rfl T.tuple (by decide +kernel) rfl) pa_nil)))
      (pe_one (pe_cmpR op_eq (pe_callB call_len_seq rfl T.len PySem.boot_len (pa_cons (pv 0) pa_nil)) pe_int (nomark _)))))), ?_⟩
    refine ⟨_, rfl, _, _, _, _, _, rfl, .ty _, .base (.tup hp), kit_ty (r := true) (by decide +kernel), true, rfl, iteT ?_⟩
    refine ⟨_, rfl, _, _, rfl, .inr (SqT.of hp), rfl, ?_⟩
    exact k

def spIsFolder : Sp := fun vs H Q _ => ∃ (x : V) (r : Row), vs = [x] ∧ RowAt H x r ∧ NameOk r.1 ∧ (NameOk r.2.1 ∨ r.2.1 = eS) ∧ 0 ≤ r.2.2 ∧ ∀ H', Same H H' → Q (.bl (decide (r.1 ≠ r.2.1))) H'
theorem sc_isFolder : FnScope ["thing"] ["thing"] (defScope sIsFolder) := ⟨rfl, rfl, rfl, by decide +kernel, rfl, by decide +kernel, by decide +kernel⟩
theorem atI_0 {xs : List V} {v : V} (h : xs[0]? = some v) : atI xs 0 = some v := atI_nat (j := 0) h
theorem ok_isFolder (F : FnP K "is_folder" sIsFolder f fd) (T : Txt mg) (D1 : Dn P w K mg base CX0 1 "is_triple" [] spIsTriple) (D2 : Dn P w K mg base CX0 1 "is_name" [] spIsName)
    (D3 : Dn P w K mg base CX0 2 "is_spot" [] spIsSpot) (D4 : Dn P w K mg base CX0 2 "is_number" [] spIsNum) : FnOk P w K mg base CX0 3 f fd ["thing"] spIsFolder := by
  refine F.ok sc_isFolder (fun vs H Q E h => ?_) (fun cdv A outer s H vs Q E hr h => ?_)
  · obtain ⟨x, r, rfl, _⟩ := h
    rfl
  · obtain ⟨x, ⟨a, b, c⟩, rfl, ⟨p, rfl, hp⟩, h1, h2, h3, k⟩ := h
    refine ⟨_, PSs.nox (pss_cons (ps_if (PW.pt (pw_or (pt_not (pt_val (pe_d D1 hr (by decide) rfl pass0 (pa_cons (pv 0) pa_nil))))
        (pw_or (pt_not (pt_val (pe_d D2 hr (by decide) rfl pass0 (pa_cons (pe_ix ix_tup (pv 0) pe_int (fun _ _ => rfl)) pa_nil))))
          (pw_or1 (pt_not (pt_val (pe_d D3 hr (by decide) rfl pass0 (pa_cons (pe_ix ix_tup (pv 0) pe_int (fun _ _ => rfl)) pa_nil)))))))) (pss_one (ps_ret pe_bl)) pss_nil)
      (pss_one (ps_ret (pe_and (pe_cmpR op_ne (pe_ix ix_tup (pv 0) pe_int (fun _ _ => rfl)) (pe_ix ix_tup (pv 0) pe_int (fun _ _ => rfl)) (nomark _))
        (pe_one (pe_d D4 hr (by decide) rfl pass0 (pa_cons (pe_ix ix_tup (pv 0) pe_int (fun _ _ => rfl)) pa_nil))))))), ?_⟩
    refine ⟨_, rfl, p, _, _, _, rfl, hp, true, rfl, iteF ?_⟩
    refine ⟨_, rfl, p, _, 0, _, rfl, rfl, SqT.of hp, rfl, a, rfl, .inl h1, fun H1 s1 => ⟨_, rfl, ?_⟩⟩
    rw [decide_eq_true h1.ne]
    refine iteF ⟨_, rfl, p, _, 1, _, rfl, rfl, SqT.of (s1 p _ hp), rfl, b, rfl, h2, fun H2 s2 => ⟨true, rfl, iteF ?_⟩⟩
    have hp2 := s2 p _ (s1 p _ hp)
    refine ⟨_, rfl, p, _, 0, _, rfl, rfl, SqT.of hp2, rfl, _, rfl, p, _, 1, _, rfl, rfl, SqT.of hp2, rfl, rfl, ?_⟩
    refine ⟨_, rfl, ?_⟩
    have kk := k H2 (s1.trans s2)
    refine ite2 (fun hne => ?_) fun hne => ?_
    · refine ⟨_, rfl, p, _, 2, _, rfl, rfl, SqT.of hp2, rfl, c, rfl, ?_⟩
      rw [show decide (a ≠ b) = true by simpa using hne] at kk
      rw [decide_eq_true h3]
      exact kk
    · rw [show decide (a ≠ b) = false by simpa using hne] at kk
      exact kk
end
end K14
end

-- K14Look
section
set_option maxRecDepth 100000
set_option maxHeartbeats 2000000
namespace K14
open PySem PySem.Spec PyProof.Rows L2
open PySem.W (Frag)
abbrev sNames : Stmt := top 24
abbrev sParents : Stmt := top 25

/-! ### the dict name: parent -/
def pars (R : List Row) : List (Key × V) := R.map fun r => (Sum.inr r.1, V.str r.2.1)
theorem pars_length (R : List Row) : (pars R).length = R.length := List.length_map _
theorem pars_none {R : List Row} {x : Str} (h : x ∉ names R) : valV (pars R) (Sum.inr x) = none := by
  induction R with
  | nil => rfl
  | cons r R ih =>
    have h1 : ¬ (Sum.inr r.1 : Key) = Sum.inr x := fun e => h (by rw [names, List.map_cons]; exact List.mem_cons.mpr (.inl (Sum.inr.inj e).symm))
    have h2 : x ∉ names R := fun e => h (by rw [names, List.map_cons]; exact List.mem_cons.mpr (.inr e))
    rw [show pars (r :: R) = (Sum.inr r.1, V.str r.2.1) :: pars R from rfl, valV_neg h1]
    exact ih h2
theorem pars_keys (R : List Row) : (pars R).map (·.1) = (names R).map Sum.inr := by
  simp [pars, names, List.map_map, Function.comp_def]
theorem pars_nodup {R : List Row} (h : (names R).Nodup) : ((pars R).map (·.1)).Nodup := by
  rw [pars_keys]
  exact h.map (f := (Sum.inr : Str → Key)) (fun a b h e => h (Sum.inr.inj e))
theorem pars_some {R : List Row} (h : (names R).Nodup) {r : Row} (hr : r ∈ R) : valV (pars R) (Sum.inr r.1) = some (.str r.2.1) :=
  val_nodup (pars_nodup h) (Sum.inr r.1, V.str r.2.1) (List.mem_map.mpr ⟨r, hr, rfl⟩)
theorem pars_isSome {R : List Row} (h : (names R).Nodup) (x : Str) : (valV (pars R) (Sum.inr x)).isSome = decide (x ∈ names R) := by
  by_cases hx : x ∈ names R
  · obtain ⟨r, hr, e⟩ := of_names hx
    rw [← e, pars_some h hr, decide_eq_true (mem_names hr)]
    rfl
  · rw [pars_none hx, decide_eq_false hx]
    rfl
theorem txs_len (ns : List Str) : (txs ns).length = ns.length := List.length_map _

def spNames : Sp := fun vs H Q _ => ∃ (t : Addr) (R : List Row), vs = [.ref t] ∧ TupAt H t R ∧ R.length ≤ 60 ∧
  ∀ H' p, Same H H' → H p = none → H' p = some (.tup (txs (names R))) → Q (.ref p) H'
def spParents : Sp := fun vs H Q _ => ∃ (t : Addr) (R : List Row), vs = [.ref t] ∧ TupAt H t R ∧ R.length ≤ 60 ∧ (names R).Nodup ∧
  ∀ H' p, Same H H' → H p = none → H' p = some (.dK (pars R)) → Q (.ref p) H'
section
variable {P : Program} {w : World} {K : Frag} {mg : Str → Option Value} {base : Heap} {f : Addr} {fd : FuncData}
theorem sc_names : FnScope ["tree", "name", "parent", "room"] ["tree"] (defScope sNames) := ⟨rfl, rfl, rfl, by decide +kernel, rfl, by decide +kernel, by decide +kernel⟩
theorem sc_parents : FnScope ["tree", "name", "parent", "room"] ["tree"] (defScope sParents) := ⟨rfl, rfl, rfl, by decide +kernel, rfl, by decide +kernel, by decide +kernel⟩
theorem ok_names (F : FnP K "names_in" sNames f fd) (T : Txt mg) : FnOk P w K mg base CX0 1 f fd ["tree"] spNames := by
  refine F.ok sc_names (fun vs H Q E h => ?_) (fun cdv A outer s H vs Q E hr h => ?_)
  · obtain ⟨t, R, rfl, _⟩ := h
    rfl
  · obtain ⟨t, R, rfl, ⟨xs, ht, hx⟩, hl, k⟩ := h
    refine ⟨_, PSs.nox (pss_one (ps_ret (pe_callTy call_tuple_of rfl T.tuple (by decide +kernel) (pa_cons
      (pe_lc (own := [("name", 1), ("parent", 2), ("room", 3)]) (g := gT3 K 1 2 3) (tt := tYes) rfl sc_names.nd (pi_tup (pv 0)) (blkOk_by (N := ["tree", "name", "parent", "room"]) (sc := defScope sNames) (by decide +kernel))
        (fun _ _ _ _ _ => pg_tup rfl (pgs_cons (pg_name (i := 1) sc_names.nd rfl (Or.inl rfl)) (pgs_cons (pg_name (i := 2) sc_names.nd rfl (Or.inl rfl)) (pgs_cons (pg_name (i := 3) sc_names.nd rfl (Or.inl rfl)) pgs_nil)))) (fun _ _ _ _ _ => pts_nil)
        (fun _ _ _ _ _ => pv 1)) pa_nil)))), ?_⟩
    refine ⟨_, rfl, t, rfl, ⟨xs, SqT.of ht⟩, fun D hD => lc_tup (xs := xs) (fun i H' => H' = LcH H D (fun r : Row => some (.str r.1)) R i) lcH_0 ?_ ?_ ?_⟩
    · rintro i _ _ rfl
      exact SqT.of (lcH_at ht hD)
    · rintro i x _ hi rfl
      obtain ⟨r, hr, p, rfl, hp⟩ := hx.at hi
      refine gT3_ok (lcH_at hp hD) ⟨rfl, tyesT ⟨_, rfl, lc_fin hr rfl (Nat.le_trans hl (by decide))⟩⟩
    · rintro _ rfl
      rw [hx.len, lcH_n]
      refine ⟨D, _, rfl, .inl ⟨SqL.of upd_same, fun p hp => ?_⟩⟩
      have hp0 : H p = none := by
        by_cases e : p = D
        · rw [e]; exact hD
        · rw [upd_ne e] at hp; exact hp
      refine k _ p (Same.new' (H := H) (Same.new hD) hp) hp0 ?_
      rw [upd_same, txs, names, List.map_map]
      congr 2
      induction R with
      | nil => rfl
      | cons a l ih => simp
theorem ok_parents (F : FnP K "parents_by" sParents f fd) (T : Txt mg) : FnOk P w K mg base CX0 1 f fd ["tree"] spParents := by
  refine F.ok sc_parents (fun vs H Q E h => ?_) (fun cdv A outer s H vs Q E hr h => ?_)
  · obtain ⟨t, R, rfl, _⟩ := h
    rfl
  · obtain ⟨t, R, rfl, ⟨xs, ht, hx⟩, hl, hn, k⟩ := h
    refine ⟨_, PSs.nox (pss_one (ps_ret
      (pe_dc (own := [("name", 1), ("parent", 2), ("room", 3)]) (g := gT3 K 1 2 3) (tt := tYes) rfl sc_parents.nd (pi_tup (pv 0)) (blkOk_by (N := ["tree", "name", "parent", "room"]) (sc := defScope sParents) (by decide +kernel))
        (fun _ _ _ _ _ => pg_tup rfl (pgs_cons (pg_name (i := 1) sc_parents.nd rfl (Or.inl rfl)) (pgs_cons (pg_name (i := 2) sc_parents.nd rfl (Or.inl rfl)) (pgs_cons (pg_name (i := 3) sc_parents.nd rfl (Or.inl rfl)) pgs_nil)))) (fun _ _ _ _ _ => pts_nil)
        (fun _ _ _ _ _ => pv 1) (fun _ _ _ _ _ => pv 2)))), ?_⟩
    refine ⟨_, rfl, t, rfl, ⟨xs, SqT.of ht⟩, fun D hD => dc_tup (xs := xs) (fun i H' => H' = upd H D (.dK (pars (R.take i)))) rfl ?_ ?_ ?_⟩
    · rintro i _ _ rfl
      refine SqT.of ?_
      rw [upd_ne (ne_of_none ht hD)]
      exact ht
    · rintro i x _ hi rfl
      obtain ⟨r, hr, p, rfl, hp⟩ := hx.at hi
      refine gT3_ok (by rw [upd_ne (ne_of_none hp hD)]; exact hp) ⟨rfl, tyesT ⟨_, rfl, _, rfl, pars (R.take i), Sum.inr r.1, rfl, upd_same, ?_, ?_⟩⟩
      · rw [pars_length, List.length_take]
        exact Nat.lt_of_le_of_lt (Nat.le_trans (Nat.min_le_right _ _) hl) (by decide)
      · have hlt := getlt hr
        have e0 : R.take (i + 1) = R.take i ++ [r] := take_snoc hr
        have nd : (names (R.take i ++ [r])).Nodup := by
          rw [← e0]
          exact hn.sublist ((List.take_sublist _ _).map _)
        have hnot : r.1 ∉ names (R.take i) := by
          rw [names, List.map_append, List.nodup_append] at nd
          intro hm
          exact nd.2.2 r.1 hm r.1 (by simp) rfl
        rw [putK_new _ (pars_none hnot), e0]
        funext b
        by_cases hb : b = D
        · subst hb
          rw [upd_same, upd_same]
          simp [pars]
        · rw [upd_ne hb, upd_ne hb, upd_ne hb]
    · rintro _ rfl
      rw [hx.len, List.take_length]
      exact k _ D (Same.new hD) hD upd_same
end
end K14
end

-- K14Enum
section
set_option maxRecDepth 100000
set_option maxHeartbeats 2000000
/-! enumerate over a tuple -/
namespace K14
open PySem PySem.Spec PyProof.Rows L2
open PySem.W (Frag)
set_option maxHeartbeats 4000000 in
theorem meets_enumB {v : Value} {o : Obj} {G : Heap → Prop} (B : Begins v o G) :
    Meets (Builtin.«enumerate.__new__» ⟨[.type "enumerate", v], []⟩) (fun _ R s => G s.heap ∧
      R (.ok (.ret (.ref (s.heap.push o).objs.size))) { s with heap := (s.heap.push o).push { cls := .type "enumerate", data := .fields #[.none, .bool false, .ref s.heap.objs.size, rawInt 0, .none, .none] } }) :=
  .of_wp fun prog w A R s h => by
    obtain ⟨hp, g, d, tk, os⟩ := s; obtain ⟨h1, h⟩ := h
    have hsub := sub_enumerate
    have q1 : ∀ {A' : Around} {E : Value → Shared → Prop} {Q : Value → Shared → Prop}, Q (.ref hp.objs.size) ⟨hp.push o, g, d, tk, os⟩ → wpAny (model prog w) A' (pyIter v) Q E ⟨hp, g, d, tk, os⟩ :=
      fun q => B.iter prog w _ _ ⟨hp, g, d, tk, os⟩ _ h1 q
    wp_walk using q1
    refine wpAny_stack_any fun st => wpAny_pure ?_
    split
    · rename_i c _ _ _ _ _
      cases (c == Value.type "enumerate")
      · wp_walk using q1
        exact ⟨_, rfl, h⟩
      · wp_walk using q1
        exact ⟨_, rfl, h⟩
    · wp_walk using q1
      exact ⟨_, rfl, h⟩
theorem call_enumTup {prog : Program} {w : World} {A : Around} {E : Value → Shared → Prop} {s : Shared} {l : Addr} {items : Array Value} {Q : Value → Shared → Prop} (hL : s.heap.IsTuple l items)
    (h : ∀ h', IsEnum h' (s.heap.objs.size + 1) s.heap.objs.size 0 .none → h'.IsTupleIter s.heap.objs.size l 0 → (∀ b o, s.heap.get? b = some o → h'.get? b = some o) → Q (.ref (s.heap.objs.size + 1)) { s with heap := h' }) :
    wpAny (model prog w) A (call (.type "enumerate") [.ref l]) Q E s := by
  have B := begins_tuple l items
  refine callType_new F.called_enumerate (by decide) (F.typeCall_enumerate_1 _) (F.newCall_enumerate_1 _) (fun obj => F.args_object_init_2 obj _) F.entry_enumerate_new (meets_enumB B) ⟨hL, ?_⟩
  have hz := Heap.size_push s.heap { cls := .type "tuple_iterator", data := .fields #[.ref l, .int 0 0] }
  show _ ∧ _
  rw [hz]
  have he : IsEnum ((s.heap.push { cls := .type "tuple_iterator", data := .fields #[.ref l, .int 0 0] }).push
      { cls := .type "enumerate", data := .fields #[.none, .bool false, .ref s.heap.objs.size, rawInt 0, .none, .none] }) (s.heap.objs.size + 1) s.heap.objs.size 0 .none := by
    have := Heap.get?_push_size (s.heap.push { cls := .type "tuple_iterator", data := .fields #[.ref l, .int 0 0] })
      (o := { cls := .type "enumerate", data := .fields #[.none, .bool false, .ref s.heap.objs.size, rawInt 0, .none, .none] }) rfl
    rw [hz] at this; exact this
  exact ⟨⟨_, he, rfl⟩, h _ he ⟨_, Heap.get?_push_of_some _ (Heap.get?_push_size _ rfl), rfl, rfl⟩ fun b o x => Heap.get?_push_of_some _ (Heap.get?_push_of_some _ x)⟩
/-- the tuple at a, each item in a new pair with its place -/
def IteT (K : Frag) (a : Addr) : It :=
  ⟨fun i H => ∃ (xs : List V) (x : V), SqT K H a xs ∧ xs[i]? = some x, fun i H v H' => ∃ T x, v = .ref T ∧ H T = none ∧ H' = upd H T (.tup [.int (i : Nat), x]) ∧ ∀ xs, SqT K H a xs → xs[i]? = some x, fun i H => ∃ xs : List V, SqT K H a xs ∧ xs.length = i⟩
theorem turn_enumT {P : Program} {w : World} {K : Frag} {elts : List Expr} {kk : Nat} {tpos : Pos} (a e it : Addr) (hat : a ≠ it) (hae : a ≠ e) :
    Turn P w K (.Tuple elts kk tpos) (IteT K a) [e, it] e (fun i h => (∃ old, IsEnum h e it ((i : Nat) : Int) old) ∧ h.IsTupleIter it a i ∧ e ≠ it) where
  mem := by simp
  obj := fun i h st b hb => by
    obtain ⟨⟨old, he⟩, ⟨o, ho, hc, hd⟩, _⟩ := st
    have e' : b = e ∨ b = it := by simpa using hb
    rcases e' with z | z
    · rw [z]; exact ⟨_, he, fun v q => nomatch q⟩
    · rw [z]; exact ⟨o, ho, fun v q => by rw [hd] at q; cases q⟩
  keep := fun i h h' st k => let ⟨⟨old, he⟩, hi, hne⟩ := st; ⟨⟨old, k e (by simp) _ he⟩, hi.at fun o q => k it (by simp) o q, hne⟩
  item := by
    intro X hP hw hK hc i pins s σ H E I hf st hg
    subst hP hw hK
    obtain ⟨⟨old, he⟩, hit, hne⟩ := st
    obtain ⟨xs, x, hq, hx⟩ := hg
    obtain ⟨its, rv, p, hz⟩ := I.tuple hq
    obtain ⟨u, hu, ru⟩ := rv.get hx
    have hel : e < s.heap.objs.size := Heap.lt_size he
    have hil : it < s.heap.objs.size := by obtain ⟨_, q, _⟩ := hit; exact Heap.lt_size q
    have hi : i < its.toArray.size := by
      have := (List.getElem?_eq_some_iff.mp hu).1
      simpa using this
    have D := Draws.tuple (prog := X.prog) (w := X.w) (A := X.A.in1) (I.ok.hd hc) it a hat its.toArray
    refine wpAny_pyNext_enum_itemD D he ⟨hit, p⟩ hi hne (fun hm => ?_) fun y h' tk hy ho hst hT hsz hk => ?_
    · rcases List.mem_cons.mp hm with z | z
      · exact hne z
      · exact hae (List.mem_singleton.mp z).symm
    have ey : y = u := by
      have h1 : its[i]? = some y := by simpa using hy
      rw [hu] at h1
      exact (Option.some.inj h1).symm
    subst ey
    refine ⟨_, rfl, wpAny_letOwnedTupleGo_enum (s := { s with heap := h', toks := tk + 1 }) ho fun h'' he' sb => ?_⟩
    have hT2 : h''.get? s.heap.objs.size = some { cls := .type "tuple", data := .seq #[.int i tk, y] } := (sb.2 _ (Nat.ne_of_gt hel)).trans hT
    have new : ObjOk X.prog X.w (upd H s.heap.objs.size (.tup [.int (i : Nat), x])) h'' s.heap.objs.size (.tup [.int (i : Nat), x]) :=
      ⟨by show 2 ≤ sizeLine; decide, [.int i tk, y], .cons ⟨_, rfl⟩ (.cons ru .nil), ⟨_, hT2, rfl, _, rfl⟩⟩
    have I1 : Inv X pins σ (upd H s.heap.objs.size (.tup [.int (i : Nat), x])) { s with heap := h'', toks := tk + 1 } :=
      I.turnedNew (ch := [e, it]) (fun b ob hb q => (sb.2 b (fun z => hb (by simp [z]))).trans (hk b ob (fun z => hb (by simp [z])) (fun z => hb (by simp [z])) q)) hf (Nat.le_refl _) new
    refine ⟨.ref s.heap.objs.size, _, I1, rfl, ⟨_, x, rfl, I.hok.fresh (Nat.le_refl _), rfl, fun ys hy => by rw [I.tuple_inj hy hq]; exact hx⟩, ⟨⟨y, ?_⟩, hst.1.at fun o q => (sb.2 it (Ne.symm hne)).trans q, hne⟩, fun b hb => ?_⟩
    · have e1 : ((i + 1 : Nat) : Int) = (i : Int) + 1 := by omega
      rw [e1]; exact he'
    · have hb' : b < s.heap.objs.size := by
        have e' : b = e ∨ b = it := by simpa using hb
        rcases e' with z | z
        · rw [z]; exact hel
        · rw [z]; exact hil
      rw [upd_ne (Nat.ne_of_lt hb')]
      exact (hf b hb).1
  done := by
    intro X hP hw hK hc i pins s σ H E I hf st hg
    subst hP hw hK
    obtain ⟨⟨old, he⟩, hit, hne⟩ := st
    obtain ⟨xs, hq, hx⟩ := hg
    obtain ⟨its, rv, p, hz⟩ := I.tuple hq
    obtain ⟨f0, f1, f2, f3, f4, f5⟩ := hf it (by simp)
    have hl := rv.length
    have D := Draws.tuple (prog := X.prog) (w := X.w) (A := X.A.in1) (I.ok.hd hc) it a hat its.toArray
    have e1 : its.toArray.size = i := by simp; omega
    exact wpAny_pyNext_enum_endD D he ⟨by rw [e1]; exact hit, p⟩ fun h' eb => ⟨rfl, I.turned (t' := s.toks) (fun b o hb q => eb b o hb q) f0 f1 f3 f4 f5⟩
  self := fun A i s Q E st h => let ⟨⟨_, he⟩, _⟩ := st; wpAny_pyIter_enum he h
def iEnumT (K : Frag) (ta : TA) : TI := fun σ H R => ta σ H fun vs H1 => ∃ a xs, vs = [.ref a] ∧ SqT K H1 a xs ∧ R (IteT K a) H1
theorem pi_enumT {X : Cx} {e : Expr} {ta : TA} {p pos tpos : Pos} {elts : List Expr} {kk : Nat} (hg : Gl X "enumerate") (hm : X.mg "enumerate" = none) (ha : PA X [e] ta) (hs : starEach [e] X.env = [(false, eval e X.env)] := by rfl) :
    PI X (.Tuple elts kk tpos) (.Call (.Name "enumerate" p) [e] [] pos) (iEnumT X.K ta) := by
  refine ⟨fun pins s σ H R I h => ?_⟩
  refine Call_ (ld_blt I hg hm boot_enumerate (PyProof.Rows.callWith_type1 (thn (ha.run pos pins s σ H _ I h) fun us s1 ⟨vs, H1, I1, r1, q1⟩ => ?_) hs rfl))
  obtain ⟨a, xs, ex, hq, q⟩ := q1
  subst ex
  cases r1 with
  | cons r rr =>
    cases rr
    cases r
    obtain ⟨its, rv, p', hz⟩ := I1.tuple hq
    have hal : a < s1.heap.objs.size := by
      obtain ⟨o, ho, _⟩ := id p'
      exact Heap.lt_size ho
    refine call_enumTup (items := its.toArray) p' fun h' he hit hk => wpAny_pyIter_enum he ?_
    have I2 : Inv X pins σ H1 { s1 with heap := h' } := I1.kept (t' := s1.toks) hk
    refine ⟨s1.heap.objs.size + 1, [s1.heap.objs.size + 1, s1.heap.objs.size], _, _, H1, rfl, I2, turn_enumT a (s1.heap.objs.size + 1) s1.heap.objs.size (Nat.ne_of_lt hal) (Nat.ne_of_lt (Nat.lt_succ_of_lt hal)), ⟨⟨.none, he⟩, hit, Nat.succ_ne_self _⟩, fun b hb => ?_, q⟩
    have e' : b = s1.heap.objs.size + 1 ∨ b = s1.heap.objs.size := by simpa using hb
    have hle : s1.heap.objs.size ≤ b := by
      rcases e' with z | z
      · rw [z]; exact Nat.le_add_right _ _
      · rw [z]; exact Nat.le_refl _
    exact I1.fpOk hle (I1.hok.fresh hle)
/-- at turn i a new pair (i, the i-th) -/
theorem walk_enumT {K : Frag} {a : Addr} {xs : List V} : Walk (IteT K a) xs.length (fun H => SqT K H a xs) (YPair (fun i => some (.int (i : Nat))) (fun i => xs[i]?)) := by
  refine ⟨fun i _ hi q => ⟨xs, xs[i], q, by simp [hi]⟩, fun _ q => ⟨xs, q, rfl⟩, fun i H v H' _ q y => ?_⟩
  obtain ⟨T, x, h1, h2, h3, h4⟩ := y
  exact ⟨T, .int (i : Nat), x, h1, h2, h3, rfl, h4 xs q⟩
end K14
end

-- K14Upd
section
set_option maxRecDepth 100000
set_option maxHeartbeats 2000000
/-! d.update(e), both dicts of int and text keys -/
namespace K14
open PySem PySem.Spec PyProof.Rows L2
open PySem.W (Frag)
theorem kv_merge : ∀ {more : List (Key × V)} {ms : List (Key × Value)} {kvs : List (Key × V)} {vs : List (Key × Value)}, KV more ms → KV kvs vs → KV (mergeK kvs more) (merged vs ms)
  | [], [], _, _, _, r => r
  | [], _ :: _, _, _, h, _ => nomatch h
  | _ :: _, [], _, _, h, _ => nomatch h
  | p :: ps, q :: qs, kvs, vs, h, r => by
    cases h with
    | cons h t =>
      obtain ⟨h1, h2⟩ := h
      have r1 : KV (putK kvs p.1 p.2) (stored vs q.1 q.2) := by
        rw [← h1]
        exact r.put p.1 h2
      exact kv_merge (more := ps) (ms := qs) t r1
theorem mergeK_len : ∀ (more kvs : List (Key × V)), (mergeK kvs more).length ≤ kvs.length + more.length
  | [], kvs => Nat.le_refl _
  | p :: ps, kvs => by
    have a := mergeK_len ps (putK kvs p.1 p.2)
    have b := length_putK kvs p.1 p.2
    rw [show mergeK kvs (p :: ps) = mergeK (putK kvs p.1 p.2) ps from rfl, List.length_cons]
    omega
theorem mergeK_val : ∀ (more kvs : List (Key × V)) (k : Key), (valV (mergeK kvs more) k).isSome = ((valV kvs k).isSome || (valV more k).isSome)
  | [], kvs, k => by
    rw [show mergeK kvs [] = kvs from rfl, valV_nil]
    simp
  | p :: ps, kvs, k => by
    rw [show mergeK kvs (p :: ps) = mergeK (putK kvs p.1 p.2) ps from rfl, mergeK_val ps, valV_put]
    by_cases e : p.1 = k
    · rw [if_pos e.symm, valV_pos e]
      simp
    · rw [if_neg (Ne.symm e), valV_neg e]
def rDUpd : V → List V → Hp → VK → Prop := fun x vs H Q => ∃ (a b : Addr) (ks ls : List (Key × V)), x = .ref a ∧ vs = [.ref b] ∧ a ≠ b ∧ H a = some (.dK ks) ∧ H b = some (.dK ls) ∧ ks.length + ls.length ≤ sizeLine ∧ Q .non (upd H a (.dK (mergeK ks ls)))
theorem mt_dupd {X : Cx} : MtR X "dict.update" rDUpd := by
  intro pins s σ H x vs v us Q I rx rv h
  obtain ⟨a, b, ks, ls, rfl, rfl, hab, ea, eb, hl, q⟩ := h
  obtain rfl : v = Value.ref a := rx
  cases rv with
  | cons r rr =>
    cases rr
    cases r
    obtain ⟨z, hd, vs, rel, dd⟩ := dk_of I.hok ea
    obtain ⟨z2, hd2, vs2, rel2, dd2⟩ := dk_of I.hok eb
    refine call_meetsIn PySem.F.slot_dict_update dd.typeIs PySem.F.entry_dict_update (PySem.F.args_dict_update_2 _ _) (meets_dict_update (mixKind X.prog X.w) a b hab hd2) ⟨vs, vs2, dd, dd2, by rw [← rel.length, ← rel2.length]; exact hl, fun h' dd' _ hs => ?_⟩
    have he : ∃ q, h'.get? a = some q := let ⟨q, _, _, hq, _⟩ := dd'; ⟨q, hq⟩
    exact ⟨.non, _, d_write (t' := s.toks) I (by rw [ea]; exact True.intro) hs he (dk_new (Nat.le_trans (mergeK_len _ _) hl) hd (kv_merge rel2 rel) dd'), rfl, q⟩
end K14
end

-- K14Fault
section
set_option maxRecDepth 100000
set_option maxHeartbeats 2000000
namespace K14
open PySem PySem.Spec PyProof.Rows L2
open PySem.W (Frag)
abbrev sRinged : Stmt := top 28
abbrev sUnpar : Stmt := top 29
abbrev sFault : Stmt := top 30
theorem Same.free {H H' : Hp} (s : Same H H') {p : Addr} (h : H' p = none) : H p = none := by
  cases e : H p with
  | none => rfl
  | some o => rw [s p o e] at h; cases h
theorem Gr.free {H H' : Hp} (g : Gr H H') {p : Addr} {o : HO} (h : H' p = none) (e : H p = some o) (n2 : ∀ kvs, o ≠ .dK kvs) : False := by
  rw [g p o e n2] at h; cases h
theorem txs_at {ns : List Str} {i : Nat} {x : V} (h : (txs ns)[i]? = some x) : ∃ n, ns[i]? = some n ∧ x = .str n := by
  unfold txs at h
  rw [List.getElem?_map] at h
  obtain ⟨n, h1, h2⟩ := Option.map_eq_some_iff.mp h
  exact ⟨n, h1, h2.symm⟩
theorem names_at {R : List Row} {i : Nat} {n : Str} (h : (names R)[i]? = some n) : ∃ r, R[i]? = some r ∧ r.1 = n := by
  unfold names at h
  rw [List.getElem?_map] at h
  exact Option.map_eq_some_iff.mp h

/-- a tree's tuple of rows that is right: answered None -/
def spNoneT : Sp := fun vs H Q _ => ∃ (t : Addr) (R : List Row), vs = [.ref t] ∧ TupAt H t R ∧ TreeOk R ∧ ∀ H', Same H H' → Q .non H'
section
variable {P : Program} {w : World} {K : Frag} {mg : Str → Option Value} {base : Heap} {f : Addr} {fd : FuncData}
theorem sc_unpar : FnScope ["tree", "parents", "k", "name"] ["tree"] (defScope sUnpar) := ⟨rfl, rfl, rfl, by decide +kernel, rfl, by decide +kernel, by decide +kernel⟩
theorem ok_unpar (F : FnP K "first_unparented" sUnpar f fd) (T : Txt mg) (Dn1 : Dn P w K mg base CX0 1 "names_in" [] spNames) (Dp1 : Dn P w K mg base CX0 1 "parents_by" [] spParents) : FnOk P w K mg base CX0 2 f fd ["tree"] spNoneT := by
  refine F.ok sc_unpar (fun vs H Q E h => ?_) (fun cdv A outer s H vs Q E hr h => ?_)
  · obtain ⟨t, R, rfl, _⟩ := h
    rfl
  · have hu := hu_of hr
    obtain ⟨t, R, rfl, ht, TR, k⟩ := h
    refine ⟨_, PSs.nox (pss_cons (ps_set (i := 1) sc_unpar.nd rfl (.inl rfl) (pe_d Dp1 hr (by decide) rfl pass0 (pa_cons (pv 0) pa_nil)))
      (pss_cons (ps_for PassesOwn.never rfl (pi_enumT rfl T.enumerate (pa_cons (pe_d Dn1 hr (by decide) rfl pass0 (pa_cons (pv 0) pa_nil)) pa_nil))
        (show PG _ _ (gT2 K 2 3) from pg_tup rfl (pgs_cons (pg_name (i := 2) sc_unpar.nd rfl (Or.inl rfl)) (pgs_cons (pg_name (i := 3) sc_unpar.nd rfl (Or.inl rfl)) pgs_nil)))
        (pss_one (ps_if (PW.pt (pw_and (pt_cmpR op_ne (pe_dget hu (pv 1) (pv 3) (fun _ _ => rfl)) pe_str (nomark _))
          (pw_and1 (pt_cmp (pc_dnotin hu (pe_dget hu (pv 1) (pv 3) (fun _ _ => rfl)) (pv 1)))))) (pss_one (ps_ret (pv 2))) pss_nil)))
      (pss_one (ps_ret pe_non)))), ?_⟩
    refine ⟨_, rfl, t, R, rfl, ht, TR.few, TR.nodup, fun H1 d s1 hd0 hd => ?_⟩
    refine ⟨_, rfl, t, R, rfl, ht.sm s1, TR.few, fun H2 n s2 hn0 hn => ?_⟩
    refine ⟨n, _, rfl, SqT.of hn, for_it (walk_enumT (xs := txs (names R))) (fun i σ H' => (∃ y z, σ = [some (.ref t), some (.ref d), y, z]) ∧ Same H2 H') ⟨⟨_, _, rfl⟩, fun _ _ h => h⟩ ?_ ?_ ?_⟩
    · rintro i σ H' _ ⟨_, s3⟩
      exact SqT.of (s3 n _ hn)
    · rintro i x σ H3 _ hi ⟨⟨y, z, rfl⟩, s3⟩ ⟨q, x1, x2, rfl, hq, rfl, e1, e2⟩
      obtain rfl : V.int (i : Nat) = x1 := Option.some.inj e1
      obtain ⟨nm, e3, rfl⟩ := txs_at e2
      obtain ⟨r, hr1, rfl⟩ := names_at e3
      have hrm : r ∈ R := List.mem_of_getElem? hr1
      have hd3 : upd H3 q (.tup [.int (i : Nat), .str r.1]) d = some (.dK (pars R)) := by
        have h0 := s3 d _ (s2 d _ hd)
        rw [upd_ne (ne_of_none h0 hq)]
        exact h0
      have hs3 : Same H2 (upd H3 q (.tup [.int (i : Nat), .str r.1])) := Same.new' (H := H2) (H1 := H3) s3 hq
      refine gT2_ok upd_same ?_
      refine ⟨_, rfl, _, rfl, d, _, rfl, (by have := DGet.k (k := Sum.inr r.1) hd3; rw [pars_some TR.nodup hrm] at this; exact this), rfl, ?_⟩
      refine ⟨_, rfl, ite2 (fun hne => ?_) fun _ => ?_⟩
      · refine ⟨_, rfl, _, rfl, d, _, rfl, (by have := DGet.k (k := Sum.inr r.1) hd3; rw [pars_some TR.nodup hrm] at this; exact this), _, rfl, d, _, rfl, DGet.k (k := Sum.inr r.2.1) hd3, ?_⟩
        rw [pars_isSome TR.nodup]
        have hm : r.2.1 ∈ names R := by
          rcases TR.par r hrm with e | e
          · exact absurd e (by simpa using hne)
          · exact e
        rw [decide_eq_true hm]
        exact ⟨_, rfl, iteF ⟨⟨_, _, rfl⟩, hs3⟩⟩
      · exact iteF ⟨⟨_, _, rfl⟩, hs3⟩
    · rintro σ H' ⟨_, s3⟩
      exact k H' (s1.trans (s2.trans s3))

theorem sc_ringed : FnScope ["tree", "parents", "ended", "k", "name", "way", "here"] ["tree"] (defScope sRinged) := ⟨rfl, rfl, rfl, by decide +kernel, rfl, by decide +kernel, by decide +kernel⟩
/-- the way up from a folder: the folders seen stand below the one that is looked at -/
structure WayOk (R : List Row) (fr : Str → Nat) (here : Str) (ks : List Str) : Prop where
  at_ : here = eS ∨ here ∈ names R
  sub : ∀ y ∈ ks, y ∈ names R
  nd : ks.Nodup
  low : ∀ y ∈ ks, here ≠ eS → fr here < fr y
def wayD (ks : List Str) : List (Key × V) := ks.map fun x => (Sum.inr x, V.bl true)
theorem wayD_none {ks : List Str} {x : Str} (h : x ∉ ks) : valV (wayD ks) (Sum.inr x) = none := by
  induction ks with
  | nil => rfl
  | cons y ks ih =>
    have h1 : ¬ (Sum.inr y : Key) = Sum.inr x := fun e => h (List.mem_cons.mpr (.inl (Sum.inr.inj e).symm))
    rw [show wayD (y :: ks) = (Sum.inr y, V.bl true) :: wayD ks from rfl, valV_neg h1]
    exact ih fun e => h (List.mem_cons.mpr (.inr e))
theorem WayOk.not {R : List Row} {fr : Str → Nat} {here : Str} {ks : List Str} (h : WayOk R fr here ks) (TR : TreeOk R) : here ∉ ks := fun hm => by
  obtain ⟨r, hr, e⟩ := of_names (h.sub here hm)
  have n : here ≠ eS := by rw [← e]; exact (TR.nm r hr).ne
  exact Nat.lt_irrefl _ (h.low here hm n)
theorem WayOk.len {R : List Row} {fr : Str → Nat} {here : Str} {ks : List Str} (h : WayOk R fr here ks) (TR : TreeOk R) : ks.length ≤ 60 := by
  have := nodup_sub h.nd h.sub
  rw [names_length] at this
  exact Nat.le_trans this TR.few
theorem WayOk.step {R : List Row} {fr : Str → Nat} {r : Row} {ks : List Str} (TR : TreeOk R) (hf : ∀ r ∈ R, r.2.1 ≠ eS → fr r.2.1 < fr r.1) (hr : r ∈ R) (h : WayOk R fr r.1 ks) : WayOk R fr r.2.1 (ks ++ [r.1]) := by
  refine ⟨TR.par r hr, fun y hy => ?_, ?_, fun y hy hn => ?_⟩
  · rcases List.mem_append.mp hy with e | e
    · exact h.sub y e
    · rw [List.mem_singleton.mp e]; exact mem_names hr
  · rw [List.nodup_append]
    refine ⟨h.nd, by simp, fun a ha b hb e => ?_⟩
    rw [List.mem_singleton.mp hb] at e
    exact h.not TR (e ▸ ha)
  · rcases List.mem_append.mp hy with e | e
    · exact Nat.lt_trans (hf r hr hn) (h.low y e (TR.nm r hr).ne)
    · rw [List.mem_singleton.mp e]; exact hf r hr hn
/-- how far the top is -/
def farUp (fr : Str → Nat) (here : Str) : Nat := if here = eS then 0 else fr here + 1
theorem farUp_lt {R : List Row} {fr : Str → Nat} {r : Row} (TR : TreeOk R) (hf : ∀ r ∈ R, r.2.1 ≠ eS → fr r.2.1 < fr r.1) (hr : r ∈ R) : farUp fr r.2.1 < farUp fr r.1 := by
  unfold farUp
  rw [if_neg (TR.nm r hr).ne]
  by_cases e : r.2.1 = eS
  · rw [if_pos e]; exact Nat.succ_pos _
  · rw [if_neg e]; exact Nat.succ_lt_succ (hf r hr e)
theorem ok_ringed (F : FnP K "first_ringed" sRinged f fd) (T : Txt mg) (Dn1 : Dn P w K mg base CX0 1 "names_in" [] spNames) (Dp1 : Dn P w K mg base CX0 1 "parents_by" [] spParents) : FnOk P w K mg base CX0 2 f fd ["tree"] spNoneT := by
  refine F.ok sc_ringed (fun vs H Q E h => ?_) (fun cdv A outer s H vs Q E hr h => ?_)
  · obtain ⟨t, R, rfl, _⟩ := h
    rfl
  · have hu := hu_of hr
    have nd := sc_ringed.nd
    obtain ⟨t, R, rfl, ht, TR, k⟩ := h
    refine ⟨_, PSs.nox (pss_cons (ps_set (i := 1) nd rfl (.inl rfl) (pe_d Dp1 hr (by decide) rfl pass0 (pa_cons (pv 0) pa_nil)))
      (pss_cons (ps_set (i := 2) nd rfl (.inl rfl) (pe_disp (pps_cons pe_str pe_bl pps_nil) rfl rfl (by simp) (by decide)))
      (pss_cons (ps_for PassesOwn.never rfl (pi_enumT rfl T.enumerate (pa_cons (pe_d Dn1 hr (by decide) rfl pass0 (pa_cons (pv 0) pa_nil)) pa_nil))
        (show PG _ _ (gT2 K 3 4) from pg_tup rfl (pgs_cons (pg_name (i := 3) nd rfl (Or.inl rfl)) (pgs_cons (pg_name (i := 4) nd rfl (Or.inl rfl)) pgs_nil)))
        (pss_cons (ps_set (i := 5) nd rfl (.inl rfl) pe_dnewK)
        (pss_cons (ps_set (i := 6) nd rfl (.inl rfl) (pv 4))
        (pss_cons (ps_while PassesOwn.never (PW.pt (pw_and (pt_cmp (pc_dnotin hu (pv 6) (pv 2))) (pw_and1 (pt_cmp (pc_dnotin hu (pv 6) (pv 5))))))
          (pss_cons (ps_dput hu (pv 5) (pv 6) pe_bl rfl) (pss_one (ps_set (i := 6) nd rfl (.inl rfl) (pe_dget hu (pv 1) (pv 6) (fun _ _ => rfl))))))
        (pss_cons (ps_if (pt_cmp (pc_dnotin hu (pv 6) (pv 2))) (pss_one (ps_ret (pv 3))) pss_nil)
        (pss_one (ps_expr (pe_bm PySem.F.plainAttrs_dict PySem.F.slot_dict_update PySem.F.type_dict_update mt_dupd (pv 2) (pa_cons (pv 5) pa_nil)))))))))
      (pss_one (ps_ret pe_non))))), ?_⟩
    obtain ⟨fr, hf⟩ := TR.rank
    refine ⟨_, rfl, t, R, rfl, ht, TR.few, TR.nodup, fun H1 d s1 hd0 hd => ?_⟩
    intro e he
    show upd H1 e (.dK []) e = some (.dK []) ∧ _
    refine ⟨upd_same, [(Sum.inr eS, .bl true)], rfl, by decide, ?_⟩
    have e1 : mergeK [] [((Sum.inr eS : Key), V.bl true)] = [(Sum.inr eS, V.bl true)] := rfl
    rw [e1]
    generalize hH2 : upd (upd H1 e (.dK [])) e (.dK [(Sum.inr eS, V.bl true)]) = H2
    have s12 : Same H1 H2 := fun b u hb => by
      rw [← hH2, upd_ne (ne_of_none hb he), upd_ne (ne_of_none hb he)]
      exact hb
    have he2 : H2 e = some (.dK [(Sum.inr eS, V.bl true)]) := by rw [← hH2]; exact upd_same
    refine ⟨_, rfl, t, R, rfl, (ht.sm s1).sm s12, TR.few, fun H3 n s3 hn0 hn => ?_⟩
    refine ⟨n, _, rfl, SqT.of hn, for_it (walk_enumT (xs := txs (names R))) (fun i σ H' => (∃ a1 a2 a3 a4, σ = [some (.ref t), some (.ref d), some (.ref e), a1, a2, a3, a4]) ∧ Same H1 H' ∧ H' n = some (.tup (txs (names R))) ∧
      ∃ es, H' e = some (.dK es) ∧ es.length ≤ 1 + 60 * i ∧ (valV es (Sum.inr eS)).isSome = true) ⟨⟨_, _, _, _, rfl⟩, s12.trans s3, hn, _, s3 e _ he2, by decide, by decide +kernel⟩ ?_ ?_ ?_⟩
    · rintro i σ H' _ ⟨_, s4, h5, _⟩
      exact SqT.of h5
    · rintro i x σ H4 _ hi ⟨⟨a1, a2, a3, a4, rfl⟩, s4, hn4, es, he4, hel, hes⟩ ⟨q, x1, x2, rfl, hq, rfl, e1, e2⟩
      obtain rfl : V.int (i : Nat) = x1 := Option.some.inj e1
      obtain ⟨nm, e3, rfl⟩ := txs_at e2
      obtain ⟨r0, hr0, rfl⟩ := names_at e3
      have hrm0 : r0 ∈ R := List.mem_of_getElem? hr0
      refine gT2_ok upd_same ?_
      generalize hH5 : upd H4 q (.tup [.int (i : Nat), .str r0.1]) = H5
      have s5 : Same H1 H5 := by rw [← hH5]; exact Same.new' (H := H1) (H1 := H4) s4 hq
      have f5 : ∀ {b o}, H4 b = some o → H5 b = some o := fun {b o} h => by rw [← hH5, upd_ne (ne_of_none h hq)]; exact h
      have hn5 := f5 hn4
      have he5 := f5 he4
      intro wy hw
      have hw1 : H1 wy = none := Same.free s5 hw
      have wn : n ≠ wy := ne_of_none hn5 hw
      have we : e ≠ wy := ne_of_none he5 hw
      have wd : d ≠ wy := ne_of_none hd hw1
      refine ⟨_, rfl, ?_⟩
      refine ⟨fun m σ H' => ∃ here ks, m = farUp fr here ∧ σ = [some (.ref t), some (.ref d), some (.ref e), some (.int (i : Nat)), some (.str r0.1), some (.ref wy), some (.str here)] ∧ H' = upd H5 wy (.dK (wayD ks)) ∧ WayOk R fr here ks,
        ⟨_, r0.1, [], rfl, rfl, rfl, .inr (mem_names hrm0), nofun, List.nodup_nil, nofun⟩, ?_⟩
      rintro m σ _ ⟨here, ks, rfl, rfl, rfl, wk⟩
      generalize hH6 : upd H5 wy (.dK (wayD ks)) = H6
      have f6 : ∀ {b o}, H5 b = some o → b ≠ wy → H6 b = some o := fun {b o} h n => by rw [← hH6, upd_ne n]; exact h
      have hw6 : H6 wy = some (.dK (wayD ks)) := by rw [← hH6]; exact upd_same
      have he6 := f6 he5 we
      have hd6 : H6 d = some (.dK (pars R)) := f6 (s5 d _ hd) wd
      refine ⟨_, rfl, _, rfl, e, _, rfl, DGet.k (k := Sum.inr here) he6, _, rfl, ?_⟩
      cases hin : (valV es (Sum.inr here)).isSome with
      | true =>
        refine iteF (iteF ?_)
        refine ⟨_, rfl, _, rfl, e, _, rfl, DGet.k (k := Sum.inr here) he6, _, rfl, ?_⟩
        rw [hin]
        refine iteF ?_
        refine ⟨_, rfl, ?_⟩
        have hwl : (wayD ks).length ≤ 60 := by rw [wayD, List.length_map]; exact wk.len TR
        have hRl : i < 60 := by
          have := getlt hr0
          have := TR.few
          omega
        refine ⟨.inr (.inr (.inl ⟨rfl, .inl ⟨_, he6⟩⟩)), _, rfl, e, wy, _, _, rfl, rfl, we, he6, hw6, Nat.le_trans (Nat.add_le_add hel hwl) (Nat.le_trans (show 1 + 60 * i + 60 ≤ 4000 by omega) (by decide)), ?_⟩
        refine ⟨⟨_, _, _, _, rfl⟩, fun b u hb => ?_, ?_, _, upd_same, ?_, ?_⟩
        · rw [upd_ne (ne_of_none hb he), ← hH6, upd_ne (ne_of_none hb hw1)]
          exact s5 b u hb
        · rw [upd_ne (fun z => by rw [z, he5] at hn5; cases hn5)]
          exact f6 hn5 wn
        · have := mergeK_len (wayD ks) es
          omega
        · rw [mergeK_val, hes]
          rfl
      | false =>
        refine iteT ⟨_, rfl, _, rfl, wy, _, rfl, DGet.k (k := Sum.inr here) hw6, _, rfl, ?_⟩
        rw [wayD_none (wk.not TR)]
        refine iteT ⟨fun σ' H' => ∃ m', m' < farUp fr here ∧ _, fun _ _ h => h, ?_⟩
        have hne : here ≠ eS := fun z => by rw [z, hes] at hin; cases hin
        obtain ⟨r, hrm, rfl⟩ := of_names (wk.at_.resolve_left hne)
        refine ⟨_, rfl, _, rfl, wy, _, rfl, DPut.k (k := Sum.inr r.1) hw6 ?_, ?_⟩
        · rw [wayD, List.length_map]
          exact Nat.lt_of_le_of_lt (wk.len TR) (by decide)
        · have hd7 : upd H6 wy (.dK (putK (wayD ks) (Sum.inr r.1) (.bl true))) d = some (.dK (pars R)) := by
            rw [upd_ne wd]; exact hd6
          refine ⟨_, rfl, _, rfl, d, _, rfl, (by have := DGet.k (k := Sum.inr r.1) hd7; rw [pars_some TR.nodup hrm] at this; exact this), ?_⟩
          refine ⟨_, farUp_lt TR hf hrm, r.2.1, ks ++ [r.1], rfl, rfl, ?_, wk.step TR hf hrm⟩
          rw [putK_new _ (wayD_none (wk.not TR)), ← hH6]
          funext b
          by_cases hb : b = wy
          · subst hb
            rw [upd_same, upd_same]
            simp [wayD]
          · rw [upd_ne hb, upd_ne hb, upd_ne hb]
    · rintro σ H' ⟨_, s4, _⟩
      exact k H' (s1.trans s4)

theorem sc_fault : FnScope ["thing", "k", "folder"] ["thing"] (defScope sFault) := ⟨rfl, rfl, rfl, by decide +kernel, rfl, by decide +kernel, by decide +kernel⟩
theorem ok_fault (F : FnP K "tree_fault" sFault f fd) (T : Txt mg) (D1 : Dn P w K mg base CX0 3 "is_folder" [] spIsFolder) (D2 : Dn P w K mg base CX0 2 "first_unparented" [] spNoneT) (D3 : Dn P w K mg base CX0 2 "first_ringed" [] spNoneT) : FnOk P w K mg base CX0 4 f fd ["thing"] spNoneT := by
  refine F.ok sc_fault (fun vs H Q E h => ?_) (fun cdv A outer s H vs Q E hr h => ?_)
  · obtain ⟨t, R, rfl, _⟩ := h
    rfl
  · have hu := hu_of hr
    have nd := sc_fault.nd
    obtain ⟨t, R, rfl, ⟨xs, ht, hx⟩, TR, k⟩ := h
    refine ⟨_, PSs.nox (pss_cons (ps_if (PW.pt (pw_or (pt_not (pt_val (pe_callB call_isi rfl T.isinstance isi_boot (pa_cons (pv 0) (pa_cons (pe_bltn (v := .ty "tuple") rfl T.tuple (by decide +kernel) rfl) pa_nil)))))
        (pw_or1 (pt_cmpR op_eq (pe_callB call_len_seq rfl T.len PySem.boot_len (pa_cons (pv 0) pa_nil)) pe_int (nomark _))))) pss_never pss_nil)
      (pss_cons (ps_for PassesOwn.never rfl (pi_enumT rfl T.enumerate (pa_cons (pv 0) pa_nil))
        (show PG _ _ (gT2 K 1 2) from pg_tup rfl (pgs_cons (pg_name (i := 1) nd rfl (Or.inl rfl)) (pgs_cons (pg_name (i := 2) nd rfl (Or.inl rfl)) pgs_nil)))
        (pss_one (ps_if (PW.pt (pw_or (pt_not (pt_val (pe_d D1 hr (by decide) rfl pass0 (pa_cons (pv 2) pa_nil))))
          (pw_or1 (PW.pt (pw_and (pt_cmpR op_gt (pv 1) pe_int (nomark _)) (pw_and1 (pt_cmpR op_le_str (pe_ix ix_tup (pv 2) pe_int (fun _ _ => rfl)) (pe_ix ix_tup (pe_ix ix_tup (pv 0) (pe_op op_sub (pv 1) pe_int) (fun _ _ => rfl)) pe_int (fun _ _ => rfl)) (nomark _)))))))) pss_never pss_nil)))
      (pss_cons (ps_set (i := 1) nd rfl (.inl rfl) (pe_d D2 hr (by decide) rfl pass0 (pa_cons (pv 0) pa_nil)))
      (pss_cons (ps_if (pt_cmpR op_notN (pv 1) pe_non (nomark _)) pss_never pss_nil)
      (pss_cons (ps_set (i := 1) nd rfl (.inl rfl) (pe_d D3 hr (by decide) rfl pass0 (pa_cons (pv 0) pa_nil)))
      (pss_one (ps_ret (pe_ifExp (pt_cmpR op_notN (pv 1) pe_non (nomark _)) (pe_tup (pa_cons pe_str (pa_cons (pv 1) pa_nil))) pe_non)))))))), ?_⟩
    refine ⟨_, rfl, _, _, _, _, _, rfl, .ty _, .base (.tup ht), kit_ty (r := true) (by decide +kernel), true, rfl, iteF ?_⟩
    refine ⟨_, rfl, _, _, rfl, .inr (SqT.of ht), rfl, _, rfl, ?_⟩
    have hne : ¬ ((xs.length : Int) = 0) := by
      rw [hx.len]
      have := List.length_pos_iff.mpr TR.ne
      omega
    refine ite2 (fun z => absurd (V.int.inj (of_decide_eq_true z)) hne) fun _ => ?_
    refine ⟨_, rfl, t, xs, rfl, SqT.of ht, for_it (walk_enumT (xs := xs)) (fun i σ H' => (∃ a1 a2, σ = [some (.ref t), a1, a2]) ∧ Same H H') ⟨⟨_, _, rfl⟩, fun _ _ h => h⟩ ?_ ?_ ?_⟩
    · rintro i σ H' _ ⟨_, s4⟩
      exact SqT.of (s4 t _ ht)
    · rintro i x σ H4 _ hi ⟨⟨a1, a2, rfl⟩, s4⟩ ⟨q, x1, x2, rfl, hq, rfl, e1, e2⟩
      obtain rfl : V.int (i : Nat) = x1 := Option.some.inj e1
      obtain ⟨r, hr0, p, rfl, hp⟩ := hx.at e2
      have hrm : r ∈ R := List.mem_of_getElem? hr0
      refine gT2_ok upd_same ?_
      generalize hH5 : upd H4 q (.tup [.int (i : Nat), .ref p]) = H5
      have s5 : Same H H5 := by rw [← hH5]; exact Same.new' (H := H) (H1 := H4) s4 hq
      refine ⟨_, rfl, .ref p, r, rfl, ⟨p, rfl, s5 p _ hp⟩, TR.nm r hrm, (TR.spot hrm).symm, (TR.room r hrm).1, fun H6 s6 => ⟨_, rfl, ?_⟩⟩
      have s56 : Same H H6 := Same.trans s5 s6
      rw [decide_eq_true (TR.self r hrm)]
      refine iteF ?_
      refine ⟨_, rfl, _, _, rfl, rfl, _, rfl, ?_⟩
      by_cases hi0 : i = 0
      · subst hi0
        rw [show decide ((0 : Int) < ((0 : Nat) : Int)) = false from rfl]
        exact iteF (iteF ⟨⟨_, _, rfl⟩, s56⟩)
      · rw [decide_eq_true (show (0 : Int) < (i : Int) by omega)]
        have hlt := getlt hr0
        obtain ⟨j, rfl⟩ : ∃ j, i = j + 1 := ⟨i - 1, by omega⟩
        have hq0 : R[j]? = some R[j] := List.getElem?_eq_getElem (by omega)
        obtain ⟨xq, exq, pq, rfl, hpq⟩ := hx.row hq0
        refine iteT ⟨_, rfl, p, _, 0, _, rfl, rfl, SqT.of (s56 p _ hp), rfl, ?_⟩
        refine ⟨_, rfl, _, rfl, _, _, rfl, rfl, t, xs, _, .ref pq, rfl, rfl, SqT.of (s56 t _ ht), ?_, ?_⟩
        · have e5 : (((j + 1 : Nat) : Int) - 1) = (j : Int) := by omega
          rw [e5]
          exact atI_nat exq
        · refine ⟨pq, _, 0, _, rfl, rfl, SqT.of (s56 pq _ hpq), rfl, ?_⟩
          refine ⟨_, _, rfl, rfl, _, rfl, ?_⟩
          have hlt2 : nlt (R[j]).1 r.1 := by
            have ht := List.pairwise_iff_getElem.mp TR.asc j (j + 1) (by omega) hlt (Nat.lt_succ_self _)
            rw [List.getElem?_eq_getElem hlt] at hr0
            rw [← Option.some.inj hr0]
            exact ht
          rw [show decide ((R[j]).1.cps.toList < r.1.cps.toList) = true from decide_eq_true hlt2]
          exact iteF ⟨⟨_, _, rfl⟩, s56⟩
    · rintro σ H4 ⟨⟨a1, a2, rfl⟩, s4⟩
      have htu : TupAt H t R := ⟨xs, ht, hx⟩
      refine ⟨_, rfl, t, R, rfl, htu.sm s4, TR, fun H5 s5 => ?_⟩
      refine ⟨_, rfl, rfl, _, rfl, iteF ?_⟩
      refine ⟨_, rfl, t, R, rfl, (htu.sm s4).sm s5, TR, fun H6 s6 => ?_⟩
      refine ⟨_, rfl, rfl, _, rfl, iteF ?_⟩
      exact k H6 (Same.trans (Same.trans s4 s5) s6)
end
end K14
end

-- K14Nu
section
set_option maxRecDepth 100000
set_option maxHeartbeats 4000000
/-! NotUsable(word, at): the class whose __init__ says super().__init__(word, at) first, then keeps both -/
namespace K14
open PySem PySem.Spec PyProof.Rows L2
open PySem.W (Frag)
open PySem.HandSPX (refsVE excO)
abbrev sNuInit : Stmt := inClass (top 8) 0
/-- what the written part and the laid heap say of NotUsable, at C, of its __init__, at fI -/
structure NuTxt (P : Program) (K : Frag) (mg : Str → Option Value) (base : Heap) (C fI : Addr) : Prop where
  gC : mg "NotUsable" = some (.ref C)
  gS : mg "super" = none
  cls : ∃ nm q N bs bm sn sub ab col dd k0 k1 k2 k3 k5, K.lookup C = some (excClassObj nm q C N bs bm true sn sub ab col dd k0 k1 k2 k3 k5 "ValueError.__new__") ∧ refsVE bm = true ∧ PySem.W.alongIn K "__init__" bm = some (some (.builtin "ValueError.__init__"))
  sa : PySem.W.findIn K (.ref C) "__setattr__" = some (some (.builtin "object.__setattr__"))
  noW : PySem.W.findIn K (.ref C) "word" = some none
  noA : PySem.W.findIn K (.ref C) "at" = some none
  iC : PySem.W.findIn K (.ref C) "__init__" = some (some (.ref fI))
  tC : PySem.W.typeIn K (.ref fI) = some (.type "function")
  kC : PySem.W.keepIn K (.ref C) = true
  exC : PySem.W.subIn K (.ref C) (.type "BaseException") = some true
  veC : PySem.W.subIn K (.ref C) (.type "ValueError") = some true
  tyC : PySem.W.typeIn K (.ref C) = some (.type "type")
  opq : ∃ K2 : Frag, K2.In base ∧ PySem.W.nsIn K2 cStatics "thirdparty.any" = some none
  fn : ∃ (oc : Value) (od : Option Addr) (doc pm ct kV : Value) (an : Option Addr) (cda cc : Addr) (osl : Array (Option Value)),
    K.lookup fI = some ⟨oc, od, .func (PySem.W.fnX "__init__" "NotUsable.__init__" (defArgs sNuInit) (defBody sNuInit) (defScope sNuInit) [("__class__", cc)] .none kV doc pm an (.ref cda) ct), osl⟩ ∧
    PySem.W.codeIn K (.ref cda) "NotUsable.__init__" = true ∧
    (∃ cl cld csl, base.get? cc = some ⟨cl, cld, .cell (some (.ref C)), csl⟩) ∧
    (∃ ccl cdd vs ccs file tf, base.get? cda = some ⟨ccl, cdd, .fields vs, ccs⟩ ∧ vs[2]? = some (.str file tf) ∧ ((P.main.file : Str) == file) = true)
  ptop : (P.main.scope.names.lookup ("super" : Str)).isSome = false
/-- what __init__ leaves of a fresh exception at x -/
structure NuEnd (h h' : Heap) (x C dx : Addr) (v u : Value) : Prop where
  keep : ∀ b o, b ≠ x → h.get? b = some o → h'.get? b = some o
  obj : ∃ t1, h'.get? x = some { cls := .ref C, dict := some dx, data := .fields #[.ref t1, .none, .none, .none, .bool false, .none] }
  dbig : h.objs.size ≤ dx
  dne : dx ≠ x
  ns : h'.Ns1 dx (fun y => if y = "at" then some u else if y = "word" then some v else none)
structure NuMade (h h' : Heap) (e C d : Addr) (v u : Value) : Prop where
  keep : ∀ b o, h.get? b = some o → h'.get? b = some o
  new : h.objs.size ≤ e
  obj : ∃ oe vs, h'.get? e = some oe ∧ oe.cls = .ref C ∧ oe.dict = some d ∧ oe.data = .fields vs ∧ vs[1]? = some .none
  dbig : h.objs.size ≤ d
  dne : d ≠ e
  ns : h'.Ns1 d (fun y => if y = "at" then some u else if y = "word" then some v else none)
theorem nu_cells : ∀ z ∈ (defScope sNuInit).names, z.2 ≠ .cell := by decide +kernel
theorem nu_s : (defScope sNuInit).names.lookup ("self" : Str) = some .local := by decide +kernel
theorem nu_w : (defScope sNuInit).names.lookup ("word" : Str) = some .local := by decide +kernel
theorem nu_a : (defScope sNuInit).names.lookup ("at" : Str) = some .local := by decide +kernel
theorem nu_sup : (defScope sNuInit).names.lookup ("super" : Str) = some .globalImplicit := by decide +kernel
theorem nu_cls : (defScope sNuInit).names.lookup ("__class__" : Str) = some .free := by decide +kernel
theorem nu_locs {x v u : Value} : ∀ y ∈ [(("self" : Str), x), ("word", v), ("at", u)], (defScope sNuInit).names.lookup y.1 = some .local := fun y hy => by
  rcases List.mem_cons.mp hy with e | hy
  · rw [e]; exact nu_s
  rcases List.mem_cons.mp hy with e | hy
  · rw [e]; exact nu_w
  · rw [List.mem_singleton.mp hy]; exact nu_a
theorem boot_super : bootBuiltins "super" = some (.type "super") := by decide +kernel
theorem ldE {M : Model} {s : Shared} {env : Env} {m : Str → Option Value} {x : Str} {pos : Pos} {v : Value} {Q : Value → Shared → Prop} {A : Around} {E : Value → Shared → Prop} (hn : s.heap.Ns env.locals m) (hv : m x = some v) (h : Q v s)
    (hk : env.scope.kind = .function := by rfl) (hl : env.kindOf x = some .local := by rfl) (hd : (x == ("__debug__" : Str)) = false := by decide) :
    wpAny M A (eval (.Name x pos) env) Q E s := wpAny_Name (wpAny_loadName_local hk hl hn hv h) hd
section
variable {prog : Program} {w : World} {A : Around} {E : Value → Shared → Prop} {R : Result → Shared → Prop} {s : Shared} {K : Frag} {mg : Str → Option Value} {base : Heap} {C fI : Addr}
theorem nu_init (T : NuTxt prog K mg base C fI) (Md : Mod K mg base) (bk : ∀ b o, base.get? b = some o → s.heap.get? b = some o) {x t0 : Addr} {v u : Value} (hlim : s.heap.NoLimit) (hx : s.heap.get? x = some (excO C t0)) (hnx : base.get? x = none) (hroom : A.depth < recursionLimit)
    (hq : ∀ h' tk dx, NuEnd s.heap h' x C dx v u → R (.ok (.ret .none)) { s with heap := h', toks := tk }) :
    codeAny (model prog w) A (.call (.ref fI) ⟨[.ref x, v, u], []⟩) R s := by
  obtain ⟨oc, od, doc, pm, ct, kV, an, cda, cc, osl, ho, hcd, ⟨cl, cld, csl, hcc⟩, ⟨ccl, cdd, vs, ccs, file, tf, hcda, hvs, hfile⟩⟩ := T.fn
  obtain ⟨nm, q, N, bs, bm, sn, sub, ab, col, dd, k0, k1, k2, k3, k5, hC, hbm, hal⟩ := T.cls
  obtain ⟨K2, hK2, hop⟩ := T.opq
  obtain ⟨mb, hmb, hmb2⟩ := Md.blt
  have hcl : PySem.W.clsIn K C = some { name := nm, bases := bs, mro := .ref C :: bm, ns := N, qualname := q, hasDict := true, slotNames := sn, subclasses := sub, abstract := ab, collection := col, hasDel := false } := by unfold PySem.W.clsIn; rw [hC] <;> rfl
  have X : K.In s.heap := fun a o e => bk a o (Md.kin a o e)
  obtain ⟨hh, g, dr, tk, os⟩ := s
  refine ks_codeAny_call_defAt (fd := PySem.W.fnX "__init__" "NotUsable.__init__" (defArgs sNuInit) (defBody sNuInit) (defScope sNuInit) [("__class__", cc)] .none kV doc pm an (.ref cda) ct) (body := defBody sNuInit) (binds := [("self", .ref x), ("word", v), ("at", u)])
    hroom (X _ _ ho) rfl hlim (PySem.W.codeRec_of X hcd) rfl (BindsTo.of_eq (by first | rfl | with_unfolding_all rfl)) nu_cells nu_locs (fun h₁ hns k => ?_) rfl rfl rfl
  have X₁ : K.In h₁ := fun a o e => k a o (X a o e)
  have hx₁ := k _ _ hx
  have hxL : hh.objs.size ≠ x := Nat.ne_of_gt (Heap.lt_size hx)
  have bk₁ : ∀ b o, base.get? b = some o → h₁.get? b = some o := fun b o e => k b o (bk b o e)
  obtain ⟨oD, hD1, hD2⟩ : ∃ oD, h₁.get? C = some oD ∧ oD.data = .cls { name := nm, bases := bs, mro := .ref C :: bm, ns := N, qualname := q, hasDict := true, slotNames := sn, subclasses := sub, abstract := ab, collection := col, hasDel := false } := ⟨_, X₁ _ _ hC, rfl⟩
  have hmro : PySem.W.mroIn K C (.ref C) = some true := by
    unfold PySem.W.mroIn
    rw [hcl, Option.bind_some, if_neg (by simp)]
    simp
  refine ks_wpAt_execs_cons (ks_wpAt_Expr_any (ks_wpAt_MethodCall (ks_wpAt_super_base nu_sup nu_cls rfl rfl (X₁ _ _ ho) rfl (by first | rfl | with_unfolding_all rfl) rfl (bk₁ _ _ hcda) rfl hvs hfile T.ptop ?_)))
  refine PySem.W.ks_loadName_global rfl nu_sup (Calls.loadGlobal_builtin (Md.glob.keeps bk₁) T.gS (hmb.keeps bk₁) ((hmb2 "super" (by decide)).trans boot_super) ⟨rfl, ?_⟩)
  refine wpAny_loadName_free rfl nu_cls rfl ⟨_, bk₁ _ _ hcc, rfl⟩ ?_
  refine wpAny_loadName_local (v := .ref x) rfl nu_s hns (by first | rfl | with_unfolding_all rfl | kernel_rfl) ?_
  refine ks_wpAny_isType_cls hD1 hD2 ⟨rfl, ?_⟩
  refine ks_wpAny_call_super hD1 hD2 hx₁ rfl (fun c e => nomatch e) (PySem.W.looks_mroIn X₁ hmro) (fun h₂ hso k₂ => ?_)
  have X₂ : K.In h₂ := fun a o e => k₂ a o (X₁ a o e)
  have hx₂ := k₂ _ _ hx₁
  have hxC : x ≠ C := fun z => by
    have := Md.kin _ _ hC
    rw [← z, hnx] at this
    cases this
  have I₂ : PySem.W.InstAt h₂ x (excO C t0) C none := ⟨hx₂, rfl, rfl, trivial⟩
  refine PySem.W.kxs_getMethod PySem.W.kxs_ValueError hso (PySem.W.looks_opaque (K := K2) (fun a o e => k₂ a o (bk₁ a o (hK2 a o e))) hop) (l₀ := .ref C :: bm) (l := bm) (fun A Q E s k q => wpAny_bind ((PySem.W.looks_clsIn X₂ hcl) A _ E s k (wpAny_pure q))) (by simp [List.dropWhile_cons]) X₂ hal
    (I₂.type.andThen (PySem.W.looks_subIn X₂ T.veC)) hxC (by decide) ?_
  have k₃ : ∀ b o, h₂.get? b = some o → (h₂.push (PySem.W.kxs_mw "ValueError.__init__" x)).get? b = some o := fun b o e => Heap.get?_push_of_some _ e
  have hu₃ : (h₂.push (PySem.W.kxs_mw "ValueError.__init__" x)).get? h₂.objs.size = some (PySem.W.kxs_mw "ValueError.__init__" x) := Heap.get?_push_size _ rfl
  generalize hg3 : h₂.push (PySem.W.kxs_mw "ValueError.__init__" x) = h₃ at k₃ hu₃
  have k13 : ∀ b o, h₁.get? b = some o → h₃.get? b = some o := fun b o e => k₃ b o (k₂ b o e)
  have hns₃ := hns.keeps k13
  show wpAny _ _ (callWith _ (Value.ref h₂.objs.size) [] (backTo _ (starEach (_ :: [_]) _)) []) _ _ _
  refine PySem.W.kxs_callWith (i := "ValueError.__init__") (x := x) rfl (Calls.evalArgs_plain (Calls.spliced_cons (ldE (v := v) hns₃ (by first | rfl | with_unfolding_all rfl | kernel_rfl) (Calls.spliced_cons (ldE (v := u) hns₃ (by first | rfl | with_unfolding_all rfl | kernel_rfl) (Calls.spliced_nil ⟨hu₃, ?_⟩) rfl nu_a) ) rfl nu_w)))
  have hx₃ := k₃ _ _ hx₂
  have X₃ : K.In h₃ := fun a o e => k₃ a o (X₂ a o e)
  show wpAny _ _ (call (.ref h₂.objs.size) [v, u]) _ _ _
  refine wpAny_call (codeAny_of_tree ?_)
  show wpAny _ _ (callAny (.ref h₂.objs.size) ⟨[v, u], []⟩) _ _ _
  simp only [callAny]
  refine wpAny_bind (wpAny_load hu₃ ?_)
  simp only [PySem.W.kxs_mw, show (Value.type "method-wrapper" == Value.type "method" || Value.type "method-wrapper" == Value.type "builtin_function_or_method" || Value.type "method-wrapper" == Value.type "method-wrapper") = true by decide, if_true]
  refine PySem.W.KFB.if_so (by decide) ?_
  refine wpAny_bind (PySem.W.check_bound_init F.excBase_ValueError.toExcCallFacts (X₃ _ _ hC) hx₃ rfl ?_)
  refine wpAny_bind (wpAny_pure (wpAny_pure ?_))
  refine ⟨PySem.plainId_quiet F.excBase_ValueError.init.plain _, codeAny_builtin F.excBase_ValueError.initEntry ?_⟩
  refine PySem.W.exc_init_tree (cls := .ref C) (t0 := t0) (dv := none) (c2 := .none) (c3 := .none) (b4 := .bool false) hx₃ (by show 2 ≤ sizeLine; decide) fun h₄ k₄ hx₄ _ => ?_
  have X₄ : K.In h₄ := fun a o e => k₄ a o (fun z => by
    have := Md.kin _ _ e
    rw [z, hnx] at this
    cases this) (X₃ a o e)
  have hns₄ : h₄.Ns hh.objs.size _ := hns₃.at fun o e => k₄ _ o hxL e
  show PySem.wpAt _ _ _ (execs _ _) _ _ _
  refine wpAt_of_wpAny ?_
  refine wpAny_execs_cons (plainObj_wpAny_Assign_Attribute ?_)
  refine ldE (v := v) hns₄ (by first | rfl | with_unfolding_all rfl | kernel_rfl) (ldE (v := .ref x) hns₄ (by first | rfl | with_unfolding_all rfl | kernel_rfl) ?_ rfl nu_s) rfl nu_w
  refine PySem.W.set_plain X₄ (ox := excO C h₃.objs.size) (od := none) ⟨hx₄, rfl, rfl, trivial⟩ T.sa ?_
  refine PySem.HandSPX.exc_osa X₄ hx₄ hcl (show refsVE (.ref C :: bm) = true from hbm) rfl T.noW (fun h₅ tk₅ dx k₅ dn dne hx₅ hn₅ => ?_)
  have X₅ : K.In h₅ := fun a o e => k₅ a o (fun z => by
    have := Md.kin _ _ e
    rw [z, hnx] at this
    cases this) (X₄ a o e)
  have hns₅ : h₅.Ns hh.objs.size _ := hns₄.at fun o e => k₅ _ o hxL e
  show wpAny _ _ (execs _ _) _ _ _
  refine wpAny_execs_cons (plainObj_wpAny_Assign_Attribute ?_)
  refine ldE (v := u) hns₅ (by first | rfl | with_unfolding_all rfl | kernel_rfl) (ldE (v := .ref x) hns₅ (by first | rfl | with_unfolding_all rfl | kernel_rfl) ?_ rfl nu_s) rfl nu_a
  have hw₅ : Within (fun y => if y = ("word" : Str) then some v else none) ["word"] := fun y hy => by
    by_cases e : y = "word"
    · rw [e]; exact List.mem_cons_self
    · exact absurd (if_neg e) hy
  obtain ⟨oD5, es5, ep5, hoD5, hdD5, _⟩ := hn₅.count hw₅
  refine PySem.W.set_plain X₅ (ox := { cls := .ref C, dict := some dx, data := .fields #[.ref h₃.objs.size, .none, .none, .none, .bool false, .none] }) (od := some oD5) ⟨hx₅, rfl, rfl, hoD5⟩ T.sa ?_
  refine PySem.OEX.osa_old X₅ hx₅ hn₅ hw₅ (by decide) hcl (show refsVE (.ref C :: bm) = true from hbm) rfl T.noA (fun h₆ tk₆ k₆ hn₆ => ?_)
  show wpAny _ _ (execs _ _) _ _ _
  have sz : hh.objs.size ≤ dx := Nat.le_trans (Nat.le_of_lt hns₄.lt) dn
  refine wpAny_execs_nil (hq h₆ tk₆ dx ⟨fun b o hb e => ?_, ⟨_, k₆ _ _ (Ne.symm dne) hx₅⟩, sz, dne, hn₆⟩)
  exact k₆ b o (fun z => by rw [z] at e; exact absurd (Heap.lt_size e) (Nat.not_lt.mpr sz)) (k₅ b o hb (k₄ b o hb (k13 b o (k b o e))))
theorem nu_made (T : NuTxt prog K mg base C fI) (Md : Mod K mg base) {v u : Value} (bk : ∀ b o, base.get? b = some o → s.heap.get? b = some o) (hlim : s.heap.NoLimit) (hroom : A.depth + 1 < recursionLimit)
    (hq : ∀ h' tk e d, NuMade s.heap h' e C d v u → R (.ok (.ret (.ref e))) { s with heap := h', toks := tk }) :
    codeAny (model prog w) A (.call (.ref C) ⟨[v, u], []⟩) R s := by
  obtain ⟨nm, q, N, bs, bm, sn, sub, ab, col, dd, k0, k1, k2, k3, k5, hC, hbm, hal⟩ := T.cls
  obtain ⟨hp, g, dr, tk, os⟩ := s
  have X : K.In hp := fun a o e => bk a o (Md.kin a o e)
  have k : ∀ b o, hp.get? b = some o → ((hp.push (PySem.W.kdv_tup [v, u])).push (excO C hp.objs.size)).get? b = some o := fun b o e => Heap.get?_push_of_some _ (Heap.get?_push_of_some _ e)
  have hget : ((hp.push (PySem.W.kdv_tup [v, u])).push (excO C hp.objs.size)).get? (hp.objs.size + 1) = some (excO C hp.objs.size) := by heap_get
  have hnx : base.get? (hp.objs.size + 1) = none := by
    cases e : base.get? (hp.objs.size + 1) with
    | none => rfl
    | some o =>
      have z : hp.get? (hp.objs.size + 1) = some o := bk _ _ e
      exact absurd (Nat.lt_of_succ_lt (Heap.lt_size z)) (Nat.lt_irrefl _)
  refine PySem.HandSPX.call_own F.excBase_ValueError (fun Y => PySem.HandSPX.refsVE_contains Y bm hbm) (X _ _ hC) (PySem.W.looks_findIn X T.iC) (fun self => PySem.W.bind_fn X self T.tC) (by show 2 ≤ sizeLine; decide) ?_
  refine nu_init (s := ⟨(hp.push (PySem.W.kdv_tup [v, u])).push (excO C hp.objs.size), g, dr, tk, os⟩) T Md (fun b o e => k b o (bk b o e)) (hlim.keeps k) hget hnx ?_ fun h' tk' dx ⟨k', ⟨t1, hx⟩, dn, dne, hns⟩ => ?_
  · show A.depth + 1 < recursionLimit
    exact hroom
  · have old : ∀ b o, hp.get? b = some o → h'.get? b = some o := fun b o e => k' b o (Nat.ne_of_lt (Nat.lt_succ_of_lt (Heap.lt_size e))) (k b o e)
    have z : hp.objs.size + 1 + 1 ≤ dx := by
      first
        | (simpa only [Heap.size_push] using dn)
        | exact dn
        | (have q := dn; rw [Heap.size_push, Heap.size_push] at q; exact q)
    exact ⟨rfl, hq h' tk' (hp.objs.size + 1) dx ⟨old, Nat.le_succ _, ⟨_, _, hx, rfl, rfl, rfl, rfl⟩, Nat.le_trans (Nat.le_trans (Nat.le_succ _) (Nat.le_succ _)) z, dne, hns⟩⟩
end
/-- the dict that it keeps -/
abbrev nuD (a b : V) : List (Str × V) := [("at", b), ("word", a)]
theorem nu_rel {a b : V} {v u : Value} (ra : RelV a v) (rb : RelV b u) (f : Str) : RelO ((nuD a b).lookup f) (if f = "at" then some u else if f = "word" then some v else none) := by
  rw [lookup_put]
  by_cases h : f = "at"
  · rw [if_pos h, if_pos h]; exact rb
  · rw [if_neg h, if_neg h, lookup_put]
    by_cases h2 : f = "word"
    · rw [if_pos h2, if_pos h2]; exact ra
    · rw [if_neg h2, if_neg h2]; exact True.intro
section
variable {X : Cx} {C fI : Addr}
/-- NotUsable(a, b) -/
def tMkNu (C : Addr) (ta : TA) : L2.St → Hp → XK → Prop := fun σ H Q => ta σ H fun vs H1 => ∃ a b, vs = [a, b] ∧ ∀ d, H1 d = none → Q (.ref C) (some d) (upd H1 d (.xd (nuD a b)))
theorem pmk_nu {a b : Expr} {ta : TA} {p pos : Pos} {k : Nat} (T : NuTxt X.prog X.K X.mg X.base C fI) (hr : Room k X.A) (ha : PA X [a, b] ta) (hg : Gl X "NotUsable" := by rfl)
    (he : starEach (a :: [b]) X.env = (false, eval a X.env) :: starEach [b] X.env := by rfl) (hpl : (backTo pos (starEach [b] X.env)).any (·.1) = false := by rfl) :
    PMk X (.Call (.Name "NotUsable" p) [a, b] [] pos) (tMkNu C ta) := by
  intro pins s σ H Q I h
  refine wpAny_Call_Name_kw (ld_glob I hg T.gC ?_)
  refine PySem.W.callWith_K (h₀ := X.base) I.ok.mod.kin T.kC (thn (ha.run pos pins s σ H _ I h) fun us s1 hh => ?_) he hpl
  obtain ⟨vs, H1, I1, r1, x, y, ev, q1⟩ := hh
  subst ev
  refine ⟨I1.kIn, ?_⟩
  cases r1 with
  | @cons _ v' _ _ rv rn =>
    cases rn with
    | @cons _ u' _ _ ru rn =>
      cases rn
      show wpAny _ _ (call (.ref C) [v', u']) _ _ _
      have hlim := I1.nolimit
      have hbk := I1.bk
      obtain ⟨hp, g, dr, tk, os⟩ := s1
      refine wpAny_call (nu_made T I.ok.mod hbk hlim (by have := hr.dp; omega) fun h' tk' e d M => ?_)
      show MkP X pins σ Q (.ref e) ⟨h', g, dr, tk', os⟩
      obtain ⟨oe, fv, hoe, hc, hd, hdat, h1⟩ := M.obj
      have hns := M.ns
      obtain ⟨G', g1, g2⟩ := restrict h' fun b => decide (b ≠ e)
      have gk : ∀ b, b ≠ e → G'.get? b = h'.get? b := fun b hb => g1 b (decide_eq_true hb)
      have ge : G'.get? e = none := g2 e (by simp)
      have old : ∀ b o, hp.get? b = some o → G'.get? b = some o := fun b o q => (gk b (Nat.ne_of_lt (Nat.lt_of_lt_of_le (Heap.lt_size q) M.new))).trans (M.keep b o q)
      have ob : ObjOk X.prog X.w (upd H1 d (.xd (nuD x y))) G' d (.xd (nuD x y)) :=
        ⟨_, hns.at (fun o q => (gk d M.dne).trans q), fun f => nu_rel rv ru f⟩
      have J : Inv X pins σ (upd H1 d (.xd (nuD x y))) ⟨G', g, dr, tk', os⟩ := I1.laid (t' := tk') old M.dbig ob
      refine ⟨e, oe, fv, ⟨G', g, dr, tk', os⟩, _, .ref C, some d, rfl, J, fun b o q => ?_, ge, hoe, ⟨hc, hd⟩, hdat, h1, ?_, rfl, I1.bare, raises_own T.exC T.tyC, q1 d (I1.hok.fresh M.dbig)⟩
      · by_cases hb : b = e
        · have q' : G'.get? b = some o := q
          rw [hb, ge] at q'; cases q'
        · exact (gk b hb).symm.trans q
      · rw [upd_ne (Ne.symm M.dne)]
        exact I1.hok.fresh M.new
end
end K14
end

-- K14Text
section
set_option maxRecDepth 100000
set_option maxHeartbeats 2000000
/-! a tree's text: the program's and the law's -/
namespace K14
open PySem PySem.Spec PyProof.Rows L2
open PySem.W (Frag)
def spotW (x : Str) : Str := if x = eS then "-" else x
def numW (i : Int) : Str := Str.ofString (toString i)
def rowText (r : Row) : Str := (((((Str.empty ++ "folder ") ++ r.1) ++ " in ") ++ spotW r.2.1) ++ " room ") ++ numW r.2.2
def treeText (R : List Row) : Str := Txt.join ("\n" : Str) (R.map rowText)
theorem tl_len (x : Str) : (TL.tl x).length = x.length := by
  show x.cps.toList.length = x.cps.size
  simp
theorem len_app (x y : Str) : (x ++ y).length = x.length + y.length := by
  rw [← tl_len, ← tl_len, ← tl_len, TL.tl_append, List.length_append]
theorem room_abs {i : Int} (h : 0 ≤ i ∧ i < roomLine) : i.natAbs < 10 ^ 70 := by
  have h2 : i < (10 ^ 70 : Int) := h.2
  omega
theorem room_log {i : Int} (h : 0 ≤ i ∧ i < roomLine) : i.natAbs.log2 < 1920 := by
  have h2 := room_abs h
  by_cases h0 : i.natAbs = 0
  · rw [h0]; decide
  · exact (Nat.log2_lt h0).mpr (Nat.lt_trans h2 (by decide +kernel))
theorem numW_len {i : Int} (h : 0 ≤ i ∧ i < roomLine) : (numW i).length ≤ 71 := by
  unfold numW
  rw [PySem.ofString_length]
  exact int_text_length_le10 (by decide) (room_abs h)
theorem spotW_len {x : Str} (h : x.length ≤ 8) : (spotW x).length ≤ 8 := by
  unfold spotW
  by_cases e : x = eS
  · rw [if_pos e]; decide +kernel
  · rw [if_neg e]; exact h
/-- a row that is short enough to be written -/
structure RowFit (r : Row) : Prop where
  nm : r.1.length ≤ 8
  par : r.2.1.length ≤ 8
  room : 0 ≤ r.2.2 ∧ r.2.2 < roomLine
theorem TreeOk.fit {R : List Row} (T : TreeOk R) {r : Row} (h : r ∈ R) : RowFit r := by
  refine ⟨(T.nm r h).2.1, ?_, T.room r h⟩
  rcases T.spot h with e | e
  · rw [e, eS_length]; decide
  · exact e.2.1
theorem lf : ("folder " : Str).length = 7 := by decide +kernel
theorem li : (" in " : Str).length = 4 := by decide +kernel
theorem lr : (" room " : Str).length = 6 := by decide +kernel
theorem le0 : (Str.empty).length = 0 := by decide +kernel
theorem rowText_len {r : Row} (h : RowFit r) : (rowText r).length ≤ 104 := by
  unfold rowText
  rw [len_app, len_app, len_app, len_app, len_app, len_app, lf, li, lr, le0]
  have := h.nm
  have := spotW_len h.par
  have := numW_len h.room
  omega
theorem sum_len {l : List Str} {b : Nat} (h : ∀ x ∈ l, x.length ≤ b) : (l.map (·.length)).sum ≤ l.length * b := by
  induction l with
  | nil => simp
  | cons x l ih =>
    rw [List.map_cons, List.sum_cons, List.length_cons]
    have h1 := h x List.mem_cons_self
    have h2 := ih fun y hy => h y (List.mem_cons_of_mem _ hy)
    rw [Nat.succ_mul]
    omega
theorem text_sum {R : List Row} (h : ∀ r ∈ R, RowFit r) (hf : R.length ≤ 60) : ((R.map rowText).map (·.length)).sum + (R.map rowText).length * ("\n" : Str).length ≤ 16777216 := by
  have h1 := sum_len (l := R.map rowText) (b := 104) fun x hx => by
    obtain ⟨r, hr, e⟩ := List.mem_map.mp hx
    rw [← e]
    exact rowText_len (h r hr)
  have e : ("\n" : Str).length = 1 := by decide +kernel
  rw [e]
  rw [List.length_map] at h1 ⊢
  omega
/-- the law's row, its words joined by blanks -/
theorem row_join (r : Row) : Txt.join (" " : Str) ["folder", r.1, "in", spotW r.2.1, "room", numW r.2.2] = rowText r := by
  refine TL.ext_tl ?_
  rw [TL.join_eq, TL.tl_join]
  unfold rowText
  simp only [List.map_cons, List.map_nil, TL.joinL, TL.tl_append]
  rw [show TL.tl ("folder " : Str) = TL.tl ("folder" : Str) ++ TL.tl (" " : Str) by decide +kernel, show TL.tl (" in " : Str) = TL.tl (" " : Str) ++ (TL.tl ("in" : Str) ++ TL.tl (" " : Str)) by decide +kernel,
    show TL.tl (" room " : Str) = TL.tl (" " : Str) ++ (TL.tl ("room" : Str) ++ TL.tl (" " : Str)) by decide +kernel, show TL.tl Str.empty = [] by decide +kernel]
  simp [List.append_assoc]
theorem treeText_len {R : List Row} (h : ∀ r ∈ R, RowFit r) (hf : R.length ≤ 60) : (treeText R).length ≤ 7000 := by
  have key : ∀ l : List Str, (∀ x ∈ l, x.length ≤ 104) → (TL.joinL (TL.tl ("\n" : Str)) (l.map TL.tl)).length ≤ l.length * 105 := by
    intro l
    induction l with
    | nil => intro _; simp [TL.joinL]
    | cons x l ih =>
      intro hl
      have h1 := hl x List.mem_cons_self
      have h2 := ih fun y hy => hl y (List.mem_cons_of_mem _ hy)
      cases l with
      | nil =>
        show (TL.tl x).length ≤ _
        rw [tl_len]; simp; omega
      | cons y l =>
        show (TL.tl x ++ (TL.tl ("\n" : Str) ++ TL.joinL _ _)).length ≤ _
        rw [List.length_append, List.length_append, tl_len, tl_len, show ("\n" : Str).length = 1 by decide +kernel, List.length_cons (a := x), Nat.succ_mul]
        have h3 : (TL.joinL (TL.tl ("\n" : Str)) ((y :: l).map TL.tl)).length ≤ (y :: l).length * 105 := h2
        have e : (y :: l).map TL.tl = TL.tl y :: l.map TL.tl := rfl
        rw [e] at h3
        omega
  rw [← tl_len]
  unfold treeText
  rw [TL.join_eq, TL.tl_join]
  refine Nat.le_trans (key _ fun x hx => ?_) ?_
  · obtain ⟨r, hr, e⟩ := List.mem_map.mp hx
    rw [← e]
    exact rowText_len (h r hr)
  · rw [List.length_map]
    omega
end K14
end

-- K14Use
section
set_option maxRecDepth 100000
set_option maxHeartbeats 2000000
namespace K14
open PySem PySem.Spec PyProof.Rows L2
open PySem.W (Frag)
abbrev sWant : Stmt := top 32
abbrev sWantTree : Stmt := top 33
abbrev sIsOf : Stmt := top 34
abbrev sWantF : Stmt := top 35
abbrev sSpotWord : Stmt := top 38
abbrev sText : Stmt := top 39
abbrev sLets : Stmt := top 53
/-- a NotUsable with these two leaves -/
def Told (C : Addr) (H : Hp) (E : XK) (a b : V) : Prop := ∀ H' d, Same H H' → H d = none → H' d = some (.xd (nuD a b)) → E (.ref C) (some d) H'
theorem Told.of {C : Addr} {H H1 : Hp} {E : XK} {a b : V} (h : Told C H E a b) (s : Same H H1) : Told C H1 E a b := fun H' d s' hd hd' => h H' d (s.trans s') (Same.free s hd) hd'
def spWant (C : Addr) : Sp := fun vs H Q E => ∃ (b : Bool) (x y : V), vs = [.bl b, x, y] ∧ (b = true → Q .non H) ∧ (b = false → Told C H E x y)
def spIsOf : Sp := fun vs H Q _ => ∃ (t : Addr) (R : List Row) (x : Str), vs = [.ref t, .str x] ∧ TupAt H t R ∧ R.length ≤ 60 ∧ ∀ H', Same H H' → Q (.bl (decide (x ∈ names R))) H'
def spWantF (C : Addr) : Sp := fun vs H Q E => ∃ (t : Addr) (R : List Row) (x : Str), vs = [.ref t, .str x] ∧ TupAt H t R ∧ R.length ≤ 60 ∧ (x ∈ names R → ∀ H', Same H H' → Q .non H') ∧ (x ∉ names R → Told C H E (.str "folder") (.str x))
def spSpotW : Sp := fun vs H Q _ => ∃ x : Str, vs = [.str x] ∧ Q (.str (spotW x)) H
def spText : Sp := fun vs H Q _ => ∃ (t : Addr) (R : List Row), vs = [.ref t] ∧ TupAt H t R ∧ TreeOk R ∧ ∀ H', Same H H' → Q (.str (treeText R)) H'
def spLets : Sp := fun vs H Q _ => ∃ (t : Addr) (R : List Row), vs = [.ref t] ∧ TupAt H t R ∧ TreeOk R ∧ ∀ H', Same H H' → Q (.int R.length) H'
theorem inV_txs {x : Str} {ns : List Str} : inV (.str x) (txs ns) = decide (x ∈ ns) := by
  unfold inV txs
  rw [List.any_map]
  by_cases h : x ∈ ns
  · rw [decide_eq_true h]
    exact List.any_eq_true.mpr ⟨x, h, by simp [Function.comp_def, eqV]⟩
  · rw [decide_eq_false h]
    refine List.any_eq_false.mpr fun y hy => ?_
    have : ¬ y = x := fun e => h (e ▸ hy)
    simp [Function.comp_def, eqV, this]
theorem flat_txs (ns : List Str) : (txs ns).all flatV = true := by
  unfold txs
  rw [List.all_map]
  exact List.all_eq_true.mpr fun y _ => rfl
section
variable {X : Cx}
/-- a def that lets nothing out, called with no wish for a raise -/
theorem passN {P : Program} {w : World} : Passes (L2.CX X.prog X.w) X (fun _ _ _ => False) := fun _ _ _ _ _ _ _ c => by
  obtain ⟨_, _, _, _, _, _, _, _, _, _, _, _, h⟩ := c
  exact h.elim
end
section
variable {P : Program} {w : World} {K : Frag} {mg : Str → Option Value} {base : Heap} {f : Addr} {fd : FuncData} {C fI : Addr}
theorem sc_want : FnScope ["is_right", "word", "at"] ["is_right", "word", "at"] (defScope sWant) := ⟨rfl, rfl, rfl, by decide +kernel, rfl, by decide +kernel, by decide +kernel⟩
theorem ok_want {dvs : List V} (F : FunD K "want" "want" (defArgs sWant) (defBody sWant) (defScope sWant) dvs [] f fd) (N : NuTxt P K mg base C fI) : FnOk P w K mg base (L2.CX P w) 1 f fd ["is_right", "word", "at"] (spWant C) := by
  refine F.ok sc_want (fun vs H Q E h => ?_) (fun cdv A outer s H vs Q E hr h => ?_)
  · obtain ⟨b, x, y, rfl, _⟩ := h
    rfl
  · obtain ⟨b, x, y, rfl, k1, k2⟩ := h
    refine ⟨_, pss_one (ps_if (pt_not (pt_val (pv 0))) (pss_one (ps_raise rfl (takes_of rfl rfl rfl rfl) (pmk_nu N hr (pa_cons (pv 1) (pa_cons (pv 2) pa_nil))))) pss_nil), ?_⟩
    refine ⟨_, rfl, b, rfl, ?_⟩
    cases b with
    | true => exact iteF (k1 rfl)
    | false =>
      refine iteT ⟨_, rfl, _, rfl, x, y, rfl, fun d hd => ?_⟩
      exact k2 rfl _ d (Same.new hd) hd upd_same
theorem sc_wantTree : FnScope ["tree"] ["tree"] (defScope sWantTree) := ⟨rfl, rfl, rfl, by decide +kernel, rfl, by decide +kernel, by decide +kernel⟩
theorem ok_wantTree (F : FnP K "want_tree" sWantTree f fd) (Dw2 : Dn P w K mg base (L2.CX P w) 1 "want" [.int (-1)] (spWant C)) (Df : Dn P w K mg base CX0 4 "tree_fault" [] spNoneT) : FnOk P w K mg base CX0 5 f fd ["tree"] spNoneT := by
  refine F.ok sc_wantTree (fun vs H Q E h => ?_) (fun cdv A outer s H vs Q E hr h => ?_)
  · obtain ⟨t, R, rfl, _⟩ := h
    rfl
  · obtain ⟨t, R, rfl, ht, TR, k⟩ := h
    refine ⟨_, PSs.nox (pss_one (ps_expr (pe_d Dw2 hr (by decide) rfl (passN (P := P) (w := w)) (pa_cons (pe_cmpR op_isN (pe_d Df hr (by decide) rfl pass0 (pa_cons (pv 0) pa_nil)) pe_non (nomark _)) (pa_cons pe_str pa_nil))))), ?_⟩
    refine ⟨_, rfl, t, R, rfl, ht, TR, fun H' s' => ?_⟩
    refine ⟨rfl, true, .str "tree", .int (-1), rfl, fun _ => ?_, fun z => by cases z⟩
    exact k H' s'
theorem sc_isOf : FnScope ["tree", "thing"] ["tree", "thing"] (defScope sIsOf) := ⟨rfl, rfl, rfl, by decide +kernel, rfl, by decide +kernel, by decide +kernel⟩
theorem ok_isOf (F : FnP K "is_folder_of" sIsOf f fd) (T : Txt mg) (Dn1 : Dn P w K mg base CX0 1 "names_in" [] spNames) : FnOk P w K mg base CX0 2 f fd ["tree", "thing"] spIsOf := by
  refine F.ok sc_isOf (fun vs H Q E h => ?_) (fun cdv A outer s H vs Q E hr h => ?_)
  · obtain ⟨t, R, x, rfl, _⟩ := h
    rfl
  · obtain ⟨t, R, x, rfl, ht, hl, k⟩ := h
    refine ⟨_, PSs.nox (pss_one (ps_ret (pe_and (pe_callB call_isi rfl T.isinstance isi_boot (pa_cons (pv 1) (pa_cons (pe_bltn (v := .ty "str") rfl T.str (by decide +kernel) rfl) pa_nil)))
      (pe_one (pe_cmpR op_in_seq (pv 1) (pe_d Dn1 hr (by decide) rfl pass0 (pa_cons (pv 0) pa_nil)) rfl))))), ?_⟩
    refine ⟨_, rfl, _, _, _, _, _, rfl, .ty _, .base (.str x), kit_ty (r := true) (by decide +kernel), true, rfl, iteT ?_⟩
    refine ⟨_, rfl, _, rfl, t, R, rfl, ht, hl, fun H' p s' hp hp' => ?_⟩
    refine ⟨p, _, rfl, .inr (SqT.of hp'), rfl, flat_txs _, ?_⟩
    have := k H' s'
    rw [← inV_txs] at this
    exact this
theorem sc_wantF : FnScope ["tree", "folder"] ["tree", "folder"] (defScope sWantF) := ⟨rfl, rfl, rfl, by decide +kernel, rfl, by decide +kernel, by decide +kernel⟩
theorem ok_wantF (F : FnP K "want_folder" sWantF f fd) (Dw3 : Dn P w K mg base (L2.CX P w) 1 "want" [] (spWant C)) (Di : Dn P w K mg base CX0 2 "is_folder_of" [] spIsOf) : FnOk P w K mg base (L2.CX P w) 3 f fd ["tree", "folder"] (spWantF C) := by
  refine F.ok sc_wantF (fun vs H Q E h => ?_) (fun cdv A outer s H vs Q E hr h => ?_)
  · obtain ⟨t, R, x, rfl, _⟩ := h
    rfl
  · obtain ⟨t, R, x, rfl, ht, hl, k1, k2⟩ := h
    refine ⟨_, pss_one (ps_expr (pe_d Dw3 hr (by decide) rfl (passes_call (E := E) (takes_of rfl rfl rfl rfl) (fun _ _ _ _ h => h)) (pa_cons (pe_d Di hr (by decide) rfl pass0 (pa_cons (pv 0) (pa_cons (pv 1) pa_nil))) (pa_cons pe_str (pa_cons (pv 1) pa_nil))))), ?_⟩
    refine ⟨_, rfl, _, rfl, t, R, x, rfl, ht, hl, fun H' s' => ?_⟩
    refine ⟨_, rfl, decide (x ∈ names R), .str "folder", .str x, rfl, fun e => ?_, fun e => ?_⟩
    · exact k1 (of_decide_eq_true e) H' s'
    · exact (k2 (of_decide_eq_false e)).of s'
theorem sc_spotWord : FnScope ["spot"] ["spot"] (defScope sSpotWord) := ⟨rfl, rfl, rfl, by decide +kernel, rfl, by decide +kernel, by decide +kernel⟩
theorem ok_spotWord (F : FnP K "spot_word" sSpotWord f fd) (T : Txt mg) : FnOk P w K mg base CX0 1 f fd ["spot"] spSpotW := by
  refine F.ok sc_spotWord (fun vs H Q E h => ?_) (fun cdv A outer s H vs Q E hr h => ?_)
  · obtain ⟨x, rfl, _⟩ := h
    rfl
  · obtain ⟨x, rfl, k⟩ := h
    obtain ⟨tO, mO⟩ := T.outside
    refine ⟨_, PSs.nox (pss_one (ps_ret (pe_ifExp (pt_cmpR op_eq (pv 0) pe_str (nomark _)) (pe_glob (v := .str "-") rfl mO ⟨_, rfl⟩) (pv 0)))), ?_⟩
    refine ⟨_, rfl, rfl, _, rfl, ?_⟩
    unfold spotW at k
    by_cases e : x = eS
    · rw [if_pos e] at k
      rw [show decide (V.str x = V.str "") = true from decide_eq_true (by rw [e])]
      exact iteT k
    · rw [if_neg e] at k
      rw [show decide (V.str x = V.str "") = false from decide_eq_false (fun z => e (V.str.inj z))]
      exact iteF ⟨_, rfl, k⟩
def tJoin (ts : List TE) : TE := fun σ H Q => tJs ts Str.empty σ H fun out H1 => Q (.str out) H1
theorem pe_jo {X : Cx} {v1 v2 : Expr} {rest : List Expr} {ts : List TE} {pos : Pos} (h : PJ X (v1 :: v2 :: rest) ts) : PE X (.JoinedStr (v1 :: v2 :: rest) pos) (tJoin ts) := pe_joined h
theorem sc_text : FnScope ["tree", "name", "parent", "room"] ["tree"] (defScope sText) := ⟨rfl, rfl, rfl, by decide +kernel, rfl, by decide +kernel, by decide +kernel⟩
theorem ok_text (F : FnP K "tree_text" sText f fd) (T : Txt mg) (Dw : Dn P w K mg base CX0 5 "want_tree" [] spNoneT) (Ds : Dn P w K mg base CX0 1 "spot_word" [] spSpotW) : FnOk P w K mg base CX0 6 f fd ["tree"] spText := by
  refine F.ok sc_text (fun vs H Q E h => ?_) (fun cdv A outer s H vs Q E hr h => ?_)
  · obtain ⟨t, R, rfl, _⟩ := h
    rfl
  · obtain ⟨t, R, rfl, ht, TR, k⟩ := h
    refine ⟨_, PSs.nox (pss_cons (ps_expr (pe_d Dw hr (by decide) rfl pass0 (pa_cons (pv 0) pa_nil)))
      (pss_one (ps_ret (pe_join pe_str (pe_lc (own := [("name", 1), ("parent", 2), ("room", 3)]) (g := gT3 K 1 2 3) (tt := tYes) rfl sc_text.nd (pi_tup (pv 0)) (blkOk_by (N := ["tree", "name", "parent", "room"]) (sc := defScope sText) (by decide +kernel))
        (fun _ _ _ _ _ => pg_tup rfl (pgs_cons (pg_name (i := 1) sc_text.nd rfl (Or.inl rfl)) (pgs_cons (pg_name (i := 2) sc_text.nd rfl (Or.inl rfl)) (pgs_cons (pg_name (i := 3) sc_text.nd rfl (Or.inl rfl)) pgs_nil)))) (fun _ _ _ _ _ => pts_nil)
        (fun _ _ _ _ _ => pe_jo (.cons pe_str (.cons (pe_fmt (pv 1)) (.cons pe_str (.cons (pe_fmt (pe_d Ds hr (by decide) rfl pass0 (pa_cons (pv 2) pa_nil))) (.cons pe_str (.cons (pe_fmt (pv 3)) .nil)))))))))))), ?_⟩
    refine ⟨_, rfl, t, R, rfl, ht, TR, fun H1 s1 => ?_⟩
    obtain ⟨xs, ht1, hx⟩ := ht.sm s1
    refine ⟨⟨_, rfl⟩, _, rfl, t, rfl, ⟨xs, SqT.of ht1⟩, fun D hD => lc_tup (xs := xs) (fun i H' => H' = LcH H1 D (fun r : Row => some (.str (rowText r))) R i) lcH_0 ?_ ?_ ?_⟩
    · rintro i _ _ rfl
      exact SqT.of (lcH_at ht1 hD)
    · rintro i x _ hi rfl
      obtain ⟨r, hr, p, rfl, hp⟩ := hx.at hi
      have fit := TR.fit (List.mem_of_getElem? hr)
      have f1 := fit.nm
      have f2 := spotW_len fit.par
      have f3 := numW_len fit.room
      have big : ∀ {n : Nat}, n ≤ 200 → n ≤ sizeLine := fun h => Nat.le_trans h (by decide)
      refine gT3_ok (lcH_at hp hD) ⟨rfl, tyesT ?_⟩
      refine ⟨"folder ", rfl, big (by rw [len_app, le0, lf]; omega), _, rfl, .inl ⟨r.1, rfl, big (by omega), r.1, rfl, big (by rw [len_app, len_app, le0, lf]; omega), ?_⟩⟩
      refine ⟨" in ", rfl, big (by rw [len_app, len_app, len_app, le0, lf, li]; omega), _, rfl, r.2.1, rfl, .inl ⟨spotW r.2.1, rfl, big (by omega), spotW r.2.1, rfl, big (by rw [len_app, len_app, len_app, len_app, le0, lf, li]; omega), ?_⟩⟩
      refine ⟨" room ", rfl, big (by rw [len_app, len_app, len_app, len_app, len_app, le0, lf, li, lr]; omega), _, rfl, .inr ⟨r.2.2, rfl, room_log fit.room, numW r.2.2, rfl, big (by rw [len_app, len_app, len_app, len_app, len_app, len_app, le0, lf, li, lr]; omega), ?_⟩⟩
      exact lc_fin hr rfl (Nat.le_trans TR.few (by decide))
    · rintro _ rfl
      rw [hx.len, lcH_n]
      refine ⟨_, D, R.map rowText, rfl, rfl, .inl (SqL.of ?_), text_sum (fun r hr => TR.fit hr) TR.few, ?_⟩
      · rw [upd_same, List.map_map]
        congr 2
        induction R with
        | nil => rfl
        | cons a l ih => simp
      · exact k _ (s1.trans (Same.new hD))
theorem sc_lets : FnScope ["thing", "fault"] ["thing"] (defScope sLets) := ⟨rfl, rfl, rfl, by decide +kernel, rfl, by decide +kernel, by decide +kernel⟩
theorem ok_lets (F : FnP K "lets_tree" sLets f fd) (T : Txt mg) (Df : Dn P w K mg base CX0 4 "tree_fault" [] spNoneT) : FnOk P w K mg base CX0 5 f fd ["thing"] spLets := by
  refine F.ok sc_lets (fun vs H Q E h => ?_) (fun cdv A outer s H vs Q E hr h => ?_)
  · obtain ⟨t, R, rfl, _⟩ := h
    rfl
  · obtain ⟨t, R, rfl, ht, TR, k⟩ := h
    refine ⟨_, PSs.nox (pss_cons (ps_set (i := 1) sc_lets.nd rfl (.inl rfl) (pe_d Df hr (by decide) rfl pass0 (pa_cons (pv 0) pa_nil)))
      (pss_cons (ps_if (pt_cmpR op_notN (pv 1) pe_non (nomark _)) pss_never pss_nil)
      (pss_one (ps_ret (pe_callB call_len_seq rfl T.len PySem.boot_len (pa_cons (pv 0) pa_nil)))))), ?_⟩
    refine ⟨_, rfl, t, R, rfl, ht, TR, fun H1 s1 => ?_⟩
    obtain ⟨xs, ht1, hx⟩ := ht.sm s1
    refine ⟨_, rfl, rfl, _, rfl, iteF ?_⟩
    refine ⟨_, rfl, t, xs, rfl, .inr (SqT.of ht1), ?_⟩
    rw [hx.len]
    exact k H1 s1
end
end K14
end

-- K14Make
section
set_option maxRecDepth 100000
set_option maxHeartbeats 2000000
/-! C(*y): an instance made of a sequence's items; a Tree in memory -/
namespace K14
open PySem PySem.Spec PyProof.Rows L2
open PySem.W (Frag)
def tMakeS (K : Frag) (C : Addr) (sp : Sp) (E : XK) (tf te : TE) : TE := fun σ H Q => tf σ H fun c H0 => c = .ref C ∧ te σ H0 fun y H1 => ∃ a xs, y = V.ref a ∧ (SqT K H1 a xs ∨ SqL K H1 a xs) ∧ ∀ x dx, H1 x = none → H1 dx = none → dx ≠ x →
  sp (V.ref x :: xs) (upd (upd H1 dx (.own x)) x (.ins C dx [])) (fun v H2 => v = .non ∧ Q (.ref x) H2) E
section
variable {X : Cx} {CX : CXT} {k : Nat} {f C : Addr} {sp : Sp} {E : XK} {x : Str} {e : Expr} {te tf : TE} {p pos sp_ : Pos}
theorem pe_makeS (M : Mk X.K C f) (F : FnR X.prog X.w X.K X.mg X.base CX k f sp) (hr : Room (k + 1) X.A) (hx : Passes CX X E) (hn : PE X (.Name x p) tf) (he : PE X e te) (hst : starEach [.Starred e sp_] X.env = [(true, eval e X.env)] := by rfl) :
    PE X (.Call (.Name x p) [.Starred e sp_] [] pos) (tMakeS X.K C sp E tf te) := by
  refine ⟨fun pins s σ H Q I h => ?_⟩
  refine wpAny_Call_Name_kw (thn (hn.run pins s σ H _ I h) fun u s0 ⟨c, H0, I0, rc, ec, q0⟩ => ?_)
  subst ec
  obtain rfl : u = Value.ref C := rc
  refine PySem.W.callWith_S (h₀ := X.base) I0.ok.mod.kin M.kp (thn (he.run pins s0 σ H0 _ I0 q0) fun v s1 ⟨y, H1, I1, ry, a, xs, ey, hxs, q⟩ => ?_) hst
  subst ey
  obtain rfl : v = Value.ref a := ry
  exact StX.star_any I1 hxs fun us s2 I2 rv => ⟨I2.kIn, StX.run_makeR M F hr hx I2 rv q⟩
end

/-! ### a Tree -/
abbrev trD (t n : Addr) : List (Str × V) := [("held_tree", .ref t), ("held_names", .ref n)]
def TreeAt (C : Addr) (H : Hp) (a : Addr) (R : List Row) : Prop := ∃ dx t n, H a = some (.ins C dx (trD t n)) ∧ TupAt H t R ∧ H n = some (.tup (txs (names R)))
theorem TreeAt.gr {C : Addr} {H H' : Hp} (g : Gr H H') {a : Addr} {R : List Row} (h : TreeAt C H a R) : TreeAt C H' a R :=
  let ⟨dx, t, n, h1, h2, h3⟩ := h; ⟨dx, t, n, g.ins h1, h2.gr g, g.tup h3⟩
theorem TreeAt.sm {C : Addr} {H H' : Hp} (s : Same H H') {a : Addr} {R : List Row} (h : TreeAt C H a R) : TreeAt C H' a R := h.gr (Gr.of s)
/-- what the text says of Tree, at C, its __init__ at f -/
structure TrTxt (K : Frag) (mg : Str → Option Value) (C f : Addr) : Prop where
  gC : mg "Tree" = some (.ref C)
  cls : Cls K C
  mak : Mk K C f
  noT : NoAttr K C "held_tree"
  noN : NoAttr K C "held_names"
/-- __init__, its rows already in their tuple -/
def spInit (C : Addr) : Sp := fun vs H Q _ => ∃ (x dx t : Addr) (R : List Row), vs = [.ref x, .ref t] ∧ H x = some (.ins C dx []) ∧ TupAt H t R ∧ TreeOk R ∧
  ∀ H' n, (∀ b o, b ≠ x → H b = some o → H' b = some o) → H' x = some (.ins C dx (trD t n)) → H' n = some (.tup (txs (names R))) → Q .non H'
def spInitR (C : Addr) : Sp := fun vs H Q E => ∃ ws rest, vs = ws ++ rest ∧ ws.length = [("self" : Str)].length ∧ rest.length ≤ sizeLine ∧ ∀ p, H p = none → spInit C (ws ++ [V.ref p]) (upd H p (.tup rest)) Q E
theorem make_tree {C : Addr} {H1 : Hp} {xs : List V} {R : List Row} {Q : VK} {E : XK} (hx : Rows H1 xs R) (TR : TreeOk R) (k : ∀ H' a, Same H1 H' → H1 a = none → TreeAt C H' a R → Q (.ref a) H') :
    ∀ x dx, H1 x = none → H1 dx = none → dx ≠ x → spInitR C (V.ref x :: xs) (upd (upd H1 dx (.own x)) x (.ins C dx [])) (fun v H2 => v = .non ∧ Q (.ref x) H2) E := by
  intro x dx h1 h2 hne
  refine ⟨[.ref x], xs, rfl, rfl, by rw [hx.len]; exact sz60 TR.few, fun p hp => ?_⟩
  generalize hH2 : upd (upd H1 dx (.own x)) x (.ins C dx []) = H2 at hp
  have s2 : Same H1 H2 := fun b o h => by rw [← hH2, upd_ne (ne_of_none h h1), upd_ne (ne_of_none h h2)]; exact h
  have hx2 : H2 x = some (.ins C dx []) := by rw [← hH2]; exact upd_same
  have hpx : x ≠ p := ne_of_none hx2 hp
  refine ⟨x, dx, p, R, rfl, by rw [upd_ne hpx]; exact hx2, ⟨xs, upd_same, (hx.sm s2).sm (Same.new hp)⟩, TR, fun H' n keep hx' hn' => ⟨rfl, ?_⟩⟩
  refine k H' x (fun b o h => ?_) h1 ⟨dx, p, n, hx', ⟨xs, ?_, Rows.sm (H := H1) (fun b o h => ?_) hx⟩, hn'⟩
  · exact keep b o (fun z => by rw [z, h1] at h; cases h) (by rw [upd_ne (ne_of_none (s2 b o h) hp)]; exact s2 b o h)
  · exact keep p _ (Ne.symm hpx) upd_same
  · exact keep b o (fun z => by rw [z, h1] at h; cases h) (by rw [upd_ne (ne_of_none (s2 b o h) hp)]; exact s2 b o h)

abbrev sT (j : Nat) : Stmt := inClass (top 51) j
abbrev FnM (K : Frag) (x : Str) (j : Nat) (f : Addr) (fd : FuncData) : Prop := FunD K x ("Tree." ++ x) (defArgs (sT j)) (defBody (sT j)) (defScope (sT j)) [] [] f fd
section
variable {P : Program} {w : World} {K : Frag} {mg : Str → Option Value} {base : Heap} {f fi : Addr} {fd : FuncData} {C : Addr}
theorem sc_init : FnScope ["self", "rows", "fault"] ["self", "rows"] (defScope (sT 0)) := ⟨rfl, rfl, rfl, by decide +kernel, rfl, by decide +kernel, by decide +kernel⟩
theorem ok_init (F : FnM K "__init__" 0 f fd) (T : Txt mg) (TT : TrTxt K mg C fi) (Df : Dn P w K mg base CX0 4 "tree_fault" [] spNoneT) (Dn1 : Dn P w K mg base CX0 1 "names_in" [] spNames) : FnR P w K mg base CX0 5 f (spInitR C) := by
  obtain ⟨oc, od, dV, kV, doc, pm, an, cdv, ct, osl, rfl, lk, hcd, hD, hK⟩ := F.ex
  have hV : dV = .none := by
    rcases hD with ⟨_, e⟩ | ⟨e, _⟩
    · exact e
    · exact absurd rfl e
  subst hV
  refine StX.fn_star (ps := ["self"]) (pv := "rows") lk hcd sc_init StX.cxUp_none (fun us rest hl => match us, rest, hl with | [_], [], _ => rfl | [_], _ :: _, _ => rfl) fun A outer s H vs Q E hr h => ?_
  obtain ⟨x, dx, t, R, rfl, hx, ht, TR, k⟩ := h
  refine ⟨_, PSs.nox (pss_cons (ps_set (i := 2) sc_init.nd rfl (.inl rfl) (pe_d Df hr (by decide) rfl pass0 (pa_cons (pv 1) pa_nil)))
    (pss_cons (ps_if (pt_cmpR op_notN (pv 2) pe_non (nomark _)) pss_never pss_nil)
    (pss_cons (ps_fld (pv 0) (pv 1) rfl)
    (pss_one (ps_fld (pv 0) (pe_d Dn1 hr (by decide) rfl pass0 (pa_cons (pv 1) pa_nil)) rfl))))), ?_⟩
  refine ⟨_, rfl, t, R, rfl, ht, TR, fun H1 s1 => ?_⟩
  refine ⟨_, rfl, rfl, _, rfl, iteF ?_⟩
  refine ⟨_, rfl, _, rfl, x, C, dx, [], rfl, s1 x _ hx, TT.cls, TT.noT, by decide, ?_⟩
  have htx : ∀ {b xs}, H1 b = some (.tup xs) → b ≠ x := fun {b xs} hb z => by
    rw [z, s1 x _ hx] at hb
    cases hb
  obtain ⟨xs, ht1, hrow⟩ := ht.sm s1
  have hrow2 : Rows (upd H1 x (.ins C dx (putF "held_tree" (.ref t) []))) xs R := by
    refine L2.Paired.mapP hrow (fun _ _ h => ?_)
    obtain ⟨p, e, q⟩ := h
    exact ⟨p, e, by rw [upd_ne (htx q)]; exact q⟩
  refine ⟨_, rfl, t, R, rfl, ⟨xs, by rw [upd_ne (htx ht1)]; exact ht1, hrow2⟩, TR.few, fun H2 n s2 hn hn2 => ?_⟩
  refine ⟨_, rfl, x, C, dx, _, rfl, s2 x _ upd_same, TT.cls, TT.noN, by show 1 < 1000; decide, ?_⟩
  refine k _ n (fun b o hb he => ?_) upd_same ?_
  · rw [upd_ne hb]
    exact s2 b o (by rw [upd_ne hb]; exact s1 b o he)
  · rw [upd_ne (fun z => by rw [z, s2 x _ upd_same] at hn2; cases hn2)]
    exact hn2
end
end K14
end

-- K14Ops
section
set_option maxRecDepth 100000
set_option maxHeartbeats 4000000
/-! operators and builtins over an instance whose class has its own def for them -/
namespace K14
open PySem PySem.Spec PyProof.Rows L2
open PySem.W (Frag Looks InstAt CmpBack)
section
variable {prog : Program} {w : World} {A : Around} {E : Value → Shared → Prop} {s : Shared} {K : Frag} {x C f : Addr} {ox : Obj} {od : Option Obj} {T : String}
/-- x op b: the own def of x's class answers; b's type is a builtin one -/
theorem bin_own {op : Operator} {b : Value} {fo ro : Option Value} {Q : Value → Shared → Prop} (X : K.In s.heap) (I : InstAt s.heap x ox C od) (hb : Looks (model prog w) s.heap (typeOf b) (.type T)) (hc : PySem.W.selfFirst K C = true)
    (hs : PySem.W.findIn K (.ref C) (PySem.dunder op.info.2) = some (some (.ref f))) (hf : PySem.W.isFn K (.ref f) = true) (hr : PySem.W.findIn K (.ref C) (dunderR op.info.2) = some none)
    (h1 : PySem.W.findIn K (.type T) (PySem.dunder op.info.2) = some fo) (h2 : PySem.W.findIn K (.type T) (dunderR op.info.2) = some ro) (hsub : PySem.W.subIn K (.type T) (.ref C) = some false)
    (h : wpAny (model prog w) A (call (.ref f) [.ref x, b]) (PySem.W.CmpBack Q) E s) : wpAny (model prog w) A (binaryOp op (.ref x) b) Q E s := by
  obtain ⟨cd, rest, hcd, hm⟩ := PySem.W.ksp_first hc
  have asked := PySem.W.ksp_try X I hs hf h
  rcases hi : op.info with ⟨sym, nm⟩
  rw [hi] at hs hr h1 h2 asked
  dsimp only at hs hr h1 h2 asked
  obtain ⟨hh, g, d, tt, os⟩ := s
  have A1 : Looks (model prog w) hh (typeOf (.ref x)) (.ref C) := I.type
  have A2 : Looks (model prog w) hh (typeOf b) (.type T) := hb
  have A3 : Looks (model prog w) hh (fillsNumberSlot (.ref C) nm) true := PySem.W.fills_K X hcd hm hs
  have A4 := PySem.W.ksp_fillsT (M := model prog w) (h := hh) X h1 h2
  have A5 : Looks (model prog w) hh (isSubtype (.type T) (.ref C)) false := PySem.W.looks_subIn X hsub
  have A6 : Looks (model prog w) hh (numberSlotInPython (.ref C) nm) true := PySem.W.ksp_inPy X hs hr (.inl rfl)
  have A7 : Looks (model prog w) hh (numberSlotInPython (.type T) nm) false := Looks.of_pure rfl
  have A8 : Looks (model prog w) hh (typeLookup (.type T) (dunderR nm)) ro := PySem.W.looks_findIn X h2
  generalize ((fo.isSome && !isSeqSlot fo) || (ro.isSome && !isSeqSlot ro)) = other at A4
  have apart : (Value.ref C == Value.type T) = false := Bool.eq_false_iff.mpr fun q => by cases beq_iff_eq.mp q
  simp only [binaryOp, hi]
  refine wpAny_holding (wpAny_bind ?_)
  unfold binaryOp1
  refine wpAny_bind (A1.at (wpAny_bind (A2.at (wpAny_bind (A3.at ?_)))))
  simp only [apart, Bool.false_eq_true, if_false]
  cases other
  · ksp_lk
    refine wpAny_mono asked (fun r s' z => ?_) fun _ _ e => e
    obtain ⟨v, rfl, hq⟩ := z
    ksp_lk
    exact hq
  · ksp_lk
    refine wpAny_mono asked (fun r s' z => ?_) fun _ _ e => e
    obtain ⟨v, rfl, hq⟩ := z
    ksp_lk
    exact hq
end

theorem ins_inst {X : Cx} {pins : List (Addr × Obj)} {σ : L2.St} {H : Hp} {s : Shared} {a C dx : Addr} {fs : List (Str × V)} (I : Inv X pins σ H s) (e : H a = some (.ins C dx fs)) : ∃ ox od, InstAt s.heap a ox C od := by
  obtain ⟨mA, O, _⟩ := ins_get I.hok e
  obtain ⟨od, J, _⟩ := O.look
  exact ⟨_, _, J⟩
theorem back_of {X : Cx} {pins : List (Addr × Obj)} {σ : L2.St} {Q : VK} {v : Value} {s' : Shared} (h : EP X pins σ Q v s') : PySem.W.CmpBack (EP X pins σ Q) v s' := by
  obtain ⟨x, H', I, r, q⟩ := h
  exact SlX.cmpback r ⟨x, H', I, r, q⟩
/-- what Tree's text says of an own operator -/
structure BinC (K : Frag) (C : Addr) (op : Operator) (T : String) (g : Addr) : Prop where
  first : PySem.W.selfFirst K C = true
  meth : PySem.W.findIn K (.ref C) (PySem.dunder op.info.2) = some (some (.ref g))
  fn : PySem.W.isFn K (.ref g) = true
  refl : PySem.W.findIn K (.ref C) (dunderR op.info.2) = some none
  sub : PySem.W.subIn K (.type T) (.ref C) = some false
def rAddO (K : Frag) (C : Addr) (sp : Sp) (E : XK) : R2 := fun x y H Q => ∃ a dx fs b ys, x = .ref a ∧ y = .ref b ∧ H a = some (.ins C dx fs) ∧ SqT K H b ys ∧ sp [x, y] H Q E
def rSubO (C : Addr) (sp : Sp) (E : XK) : R2 := fun x y H Q => ∃ a dx fs z, x = .ref a ∧ y = .str z ∧ H a = some (.ins C dx fs) ∧ sp [x, y] H Q E
section
variable {X : Cx} {CX : CXT} {k : Nat} {C g : Addr} {sp : Sp} {E : XK}
theorem run_own {pins : List (Addr × Obj)} {σ : L2.St} {H : Hp} {s : Shared} {us : List Value} {vs : List V} {Q : VK} (F : FnR X.prog X.w X.K X.mg X.base CX k g sp) (hr : Room k X.A) (hx : Passes CX X E) (I : Inv X pins σ H s) (r : Vals vs us) (h : sp vs H Q E) :
    wpAny (model X.prog X.w) X.A (call (.ref g) us) (EP X pins σ Q) X.xe s := wpAny_call (run_fnR F hr hx I r h)
theorem run_at {A' : Around} {pins : List (Addr × Obj)} {σ : L2.St} {H : Hp} {s : Shared} {us : List Value} {vs : List V} {Q : VK} (F : FnR X.prog X.w X.K X.mg X.base CX k g sp) (hr : Room k A') (e0 : Env0 X.prog X.w X.K X.mg X.base A' X.stack s H) (hx : Passes CX X E) (I : Inv X pins σ H s) (r : Vals vs us) (h : sp vs H Q E) :
    wpAny (model X.prog X.w) A' (call (.ref g) us) (EP X pins σ Q) X.xe s := by
  refine wpAny_call (codeAny_mono (F A' X.stack s H us vs Q E hr e0 r h) fun r s' z => ?_)
  cases r with
  | error e => exact hx pins σ H s e s' I z
  | ok fl =>
    cases fl with
    | ret u => exact I.after z
    | next => exact False.elim z
    | brk => exact False.elim z
    | cont => exact False.elim z
theorem op_addO (c : BinC X.K C .Add "tuple" g) (F : FnR X.prog X.w X.K X.mg X.base CX k g sp) (hr : Room k X.A) (hx : Passes CX X E) : OpR X (binaryOp .Add) (rAddO X.K C sp E) := by
  intro pins s σ H x y v u Q I rx ry h
  obtain ⟨a, dx, fs, b, ys, rfl, rfl, ha, hb, q⟩ := h
  obtain rfl : v = Value.ref a := rx
  obtain rfl : u = Value.ref b := ry
  obtain ⟨ox, od, J⟩ := ins_inst I ha
  obtain ⟨its, rv, ⟨o, ho, hc, n, hd⟩, hz⟩ := I.tuple hb
  have L : Looks (model X.prog X.w) s.heap (typeOf (.ref b)) (.type "tuple") := fun A Q E s k q => wpAny_typeOf ⟨o, k _ _ ho, hc⟩ q
  refine bin_own (op := .Add) (T := "tuple") I.kIn J L c.first c.meth c.fn c.refl (fo := some (.builtin "tuple.__add__")) (ro := none) (by kernel_rfl) (by kernel_rfl) c.sub ?_
  exact wpAny_mono (run_own (vs := [V.ref a, V.ref b]) F hr hx I (.cons rfl (.cons rfl .nil)) q) (fun w s' z => back_of z) fun _ _ z => z
theorem op_subO (c : BinC X.K C .Sub "str" g) (F : FnR X.prog X.w X.K X.mg X.base CX k g sp) (hr : Room k X.A) (hx : Passes CX X E) : OpR X (binaryOp .Sub) (rSubO C sp E) := by
  intro pins s σ H x y v u Q I rx ry h
  obtain ⟨a, dx, fs, z, rfl, rfl, ha, q⟩ := h
  obtain rfl : v = Value.ref a := rx
  obtain ⟨t, rfl⟩ := ry
  obtain ⟨ox, od, J⟩ := ins_inst I ha
  refine bin_own (op := .Sub) (T := "str") I.kIn J (Looks.of_pure rfl) c.first c.meth c.fn c.refl (fo := none) (ro := none) (by kernel_rfl) (by kernel_rfl) c.sub ?_
  exact wpAny_mono (run_own (vs := [V.ref a, V.str z]) F hr hx I (.cons rfl (.cons ⟨t, rfl⟩ .nil)) q) (fun w s' z => back_of z) fun _ _ z => z
/-- x == y, x != y, both instances of C, whose __eq__ is a def -/
structure EqC (K : Frag) (C g : Addr) : Prop where
  meth : PySem.W.findIn K (.ref C) "__eq__" = some (some (.ref g))
  fn : PySem.W.isFn K (.ref g) = true
  ne : PySem.W.findIn K (.ref C) "__ne__" = some (some (.builtin "object.__ne__"))
  top : PySem.W.mroIn K C (.type "object") = some true
def rEqO (C : Addr) (sp : Sp) (E : XK) : R2 := fun x y H Q => ∃ a dx fs b dy gs, x = .ref a ∧ y = .ref b ∧ H a = some (.ins C dx fs) ∧ H b = some (.ins C dy gs) ∧ sp [x, y] H Q E
def rNeO (C : Addr) (sp : Sp) (E : XK) : R2 := fun x y H Q => ∃ a dx fs b dy gs, x = .ref a ∧ y = .ref b ∧ H a = some (.ins C dx fs) ∧ H b = some (.ins C dy gs) ∧ sp [x, y] H (fun v H' => ∃ c, v = .bl c ∧ Q (.bl (!c)) H') E
theorem op_eqO (c : EqC X.K C g) (F : FnR X.prog X.w X.K X.mg X.base CX k g sp) (hr : Room k X.A) (hx : Passes CX X E) : OpR X (compareOp .Eq) (rEqO C sp E) := by
  intro pins s σ H x y v u Q I rx ry h
  obtain ⟨a, dx, fs, b, dy, gs, rfl, rfl, ha, hb, q⟩ := h
  obtain rfl : v = Value.ref a := rx
  obtain rfl : u = Value.ref b := ry
  obtain ⟨ox, od, J⟩ := ins_inst I ha
  obtain ⟨oy, od', J'⟩ := ins_inst I hb
  obtain ⟨m, hF⟩ := I.fr
  show wpAny _ _ (richCompare .Eq (.ref a) (.ref b)) _ _ _
  refine PySem.W.cmp_K (op := .Eq) (tb := .ref C) hr.units0 hF I.ok.mod.kin J J'.type (by unfold PySem.W.notFirst; simp) c.meth c.fn ?_
  exact wpAny_mono (run_own (vs := [V.ref a, V.ref b]) F hr hx I (.cons rfl (.cons rfl .nil)) q) (fun w s' z => back_of z) fun _ _ z => z
theorem ne_entry {A : Around} {M : Model} {s : Shared} {K : Frag} {x b : Addr} {ox : Obj} {od : Option Obj} {Q : Fin → Shared → Prop} {E : Value → Shared → Prop} (hu : A.units < cLine) (Y : K.In s.heap) (J : InstAt s.heap x ox C od) (c : EqC K C g)
    (h : wpAny M A (call (.ref g) [.ref x, .ref b]) (fun v s' => ∃ d, v = .bool d ∧ Q (.done (.ret (.bool (!d)))) s') E s) : wpAny M A (Builtin.«object.__ne__» ⟨[.ref x, .ref b], []⟩) Q E s := by
  unfold Builtin.«object.__ne__»
  repeat (first
    | with_reducible refine wpAny_cRoomFor hu ?_
    | (refine wpAny_bind (m := callSpecialIfBound? (.ref x) (Str.ofString "__eq__") [.ref b]) (PySem.W.ifBound_K Y J c.meth c.fn (wpAny_mono h (fun r s' hr => by
        obtain ⟨d, rfl, hq⟩ := hr
        repeat (first | exact hq | exact wpAny_pure hq | exact wpAny_truthy_bool hq | (refine wpAny_bind (m := truthy (.bool _)) (wpAny_truthy_bool ?_)) | wp_step)) fun _ _ e => e)))
    | wp_step)
theorem ifBound_blt {M : Model} {A : Around} {s : Shared} {K : Frag} {x : Addr} {ox : Obj} {od : Option Obj} {name : Str} {id : String} {args : List Value} {Q : Option Value → Shared → Prop} {E : Value → Shared → Prop} (Y : K.In s.heap) (J : InstAt s.heap x ox C od)
    (hs : PySem.W.findIn K (.ref C) name = some (some (.builtin id))) (hb : ∀ self, bindSpecial (.builtin id) self = pure (.builtin id, [self])) (h : wpAny M A (call (.builtin id) (.ref x :: args)) (fun v => Q (some v)) E s) : wpAny M A (callSpecialIfBound? (.ref x) name args) Q E s := by
  simp only [callSpecialIfBound?, bindSpecialIfBound?]
  refine wpAny_holding (wpAny_bind (wpAny_bind (wpAny_bind (J.type.here ((PySem.W.looks_findIn Y hs).here ?_)))))
  refine wpAny_bind (wpAny_askSetting (wpAny_ite ?_))
  have fin : wpAny M A (call (.builtin id) ([.ref x] ++ args) >>= fun v => pure (some v)) Q E s := wpAny_bind (wpAny_mono h (fun v s' h' => wpAny_pure h') fun _ _ h' => h')
  split
  · exact wpAny_bind ((Looks.of_pure (hb _)).here (wpAny_pure (by exact fin)))
  · exact wpAny_tryCatch (wpAny_bind ((Looks.of_pure (hb _)).here (wpAny_pure (by exact fin))))
theorem op_neO (c : EqC X.K C g) (F : FnR X.prog X.w X.K X.mg X.base CX k g sp) (hr : Room (k + 1) X.A) (hx : Passes CX X E) : OpR X (compareOp .NotEq) (rNeO C sp E) := by
  intro pins s σ H x y v u Q I rx ry h
  obtain ⟨a, dx, fs, b, dy, gs, rfl, rfl, ha, hb, q⟩ := h
  obtain rfl : v = Value.ref a := rx
  obtain rfl : u = Value.ref b := ry
  obtain ⟨ox, od, J⟩ := ins_inst I ha
  obtain ⟨oy, od', J'⟩ := ins_inst I hb
  show wpAny _ _ (richCompare .NotEq (.ref a) (.ref b)) _ _ _
  unfold richCompare
  simp only [oneThing_ref]
  refine wpAny_holding (wpAny_bind (wpAny_cRoomFor hr.units0 ?_))
  rw [cmpInfo_NotEq]
  dsimp only
  refine wpAny_bind (J.type.here (wpAny_bind (J'.type.here ?_)))
  rw [show (Value.ref C != Value.ref C) = false from by simp]
  simp only [Bool.false_eq_true, if_false]
  refine wpAny_bind (wpAny_pure ?_)
  simp only [Bool.false_eq_true, if_false]
  refine wpAny_bind ?_
  simp only [tryCompare]
  have hok : Looks (model X.prog X.w) s.heap (isInstance (.ref a) (.type "object")) true := J.type.andThen (PySem.W.looks_mroIn I.kIn c.top)
  refine wpAny_bind (ifBound_blt I.kIn J c.ne PySem.F.slot_object_ne.bind (wpAny_call (codeAny_call_builtin PySem.F.slot_object_ne.plain PySem.F.cmpEntry_ne (PySem.W.check_slot PySem.F.cmpKind_ne PySem.F.cmpSplit_ne hok (PySem.F.cmpArgs_ne _ _) (ne_entry hr.in1.units0 I.kIn J c ?_)))))
  refine wpAny_mono (run_at (vs := [V.ref a, V.ref b]) F hr.in1 I.env0.in1 hx I (.cons rfl (.cons rfl .nil)) q) (fun w s' z => ?_) fun _ _ z => z
  obtain ⟨v, H', I', rv, d, rfl, qd⟩ := z
  obtain rfl : w = Value.bool d := rv
  refine ⟨d, rfl, ?_⟩
  show wpAny _ _ (pure (some (Value.bool (!d)))) _ _ _
  refine wpAny_pure ?_
  show wpAny _ _ (pure (Value.bool (!d))) _ _ _
  exact wpAny_pure ⟨V.bl (!d), H', I', rfl, qd⟩
end
end K14
end

-- K14Iter
section
set_option maxRecDepth 100000
set_option maxHeartbeats 4000000
/-! iter(tuple), len(x), str(x), list(x) of an instance with own defs -/
namespace K14
open PySem PySem.Spec PyProof.Rows L2
open PySem.W (Frag Looks InstAt)
/-- the two objects at p and q changed, nothing else -/
theorem inv_two {X : Cx} {pins : List (Addr × Obj)} {σ : L2.St} {H : Hp} {s : Shared} {p q : Addr} {u0 v0 u v : HO} {h' : Heap} {t' : Nat} (I : Inv X pins σ H s) (hpq : p ≠ q) (hp : H p = some u0) (hq : H q = some v0)
    (np : (∀ xs, u0 ≠ .tup xs) ∧ (∀ o w, u0 ≠ .frz o w) ∧ (∀ ps, u0 ≠ .tbl ps) ∧ ∀ x, u0 ≠ .own x) (nq : (∀ xs, v0 ≠ .tup xs) ∧ (∀ o w, v0 ≠ .frz o w) ∧ (∀ ps, v0 ≠ .tbl ps) ∧ ∀ x, v0 ≠ .own x)
    (k : ∀ b o, b ≠ p → b ≠ q → s.heap.get? b = some o → h'.get? b = some o) (kp : ∃ o, h'.get? p = some o) (kq : ∃ o, h'.get? q = some o) (okp : ObjOk X.prog X.w (upd (upd H p u) q v) h' p u) (okq : ObjOk X.prog X.w (upd (upd H p u) q v) h' q v) :
    Inv X pins σ (upd (upd H p u) q v) { s with heap := h', toks := t' } := by
  have off : ∀ {b : Addr} {o : HO}, H b = some o → o ≠ u0 → o ≠ v0 → b ≠ p ∧ b ≠ q := fun {b o} e n1 n2 => by
    refine ⟨fun z => ?_, fun z => ?_⟩
    · rw [z, hp] at e; exact n1 (Option.some.inj e).symm
    · rw [z, hq] at e; exact n2 (Option.some.inj e).symm
  have offN : ∀ {b : Addr}, H b = none → b ≠ p ∧ b ≠ q := fun {b} e => by
    refine ⟨fun z => ?_, fun z => ?_⟩
    · rw [z, hp] at e; cases e
    · rw [z, hq] at e; cases e
  have at2 : ∀ {b : Addr}, b ≠ p → b ≠ q → upd (upd H p u) q v b = H b := fun n1 n2 => by rw [upd_ne n2, upd_ne n1]
  have U : Un X.fs [] H (upd (upd H p u) q v) s.heap h' := {
    keep := fun b o e n _ _ => k b o (offN n).1 (offN n).2 e
    slot := fun b o e n _ _ => ⟨o.slots, k b o (offN n).1 (offN n).2 e⟩
    free := fun b o e n _ => by rw [at2 (offN n).1 (offN n).2]; exact n
    there := fun b o e _ => by
      by_cases h1 : b = p
      · rw [h1]; exact kp
      · by_cases h2 : b = q
        · rw [h2]; exact kq
        · exact ⟨o, k b o h1 h2 e⟩
    tups := fun b xs e => by
      have := off e (fun z => np.1 xs z.symm) (fun z => nq.1 xs z.symm)
      rw [at2 this.1 this.2]; exact e
    frzs := fun b o w e => by
      have := off e (fun z => np.2.1 o w z.symm) (fun z => nq.2.1 o w z.symm)
      rw [at2 this.1 this.2]; exact e
    tbls := fun b ps e => by
      have := off e (fun z => np.2.2.1 ps z.symm) (fun z => nq.2.2.1 ps z.symm)
      exact ⟨#[], by rw [at2 this.1 this.2, e]; simp⟩ }
  refine I.un (t' := t') U fun b o e => ?_
  by_cases h2 : b = q
  · subst h2
    rw [upd_same] at e
    cases e
    exact okq
  · rw [upd_ne h2] at e
    by_cases h1 : b = p
    · subst h1
      rw [upd_same] at e
      cases e
      exact okp
    · rw [upd_ne h1] at e
      refine (I.hok b o e).stay (fun c w hc z => ?_) (fun c hc => ?_) fun c xs hc => ?_
      · rcases hc with hc | hc
        · rw [hc] at z ⊢; exact k b w h1 h2 z
        · have := off hc (fun z => np.2.2.2 b z.symm) (fun z => nq.2.2.2 b z.symm)
          exact k c w this.1 this.2 z
      · have := off hc (fun z => np.2.2.2 b z.symm) (fun z => nq.2.2.2 b z.symm)
        rw [at2 this.1 this.2]; exact hc
      · have := off hc (fun z => np.1 xs z.symm) (fun z => nq.1 xs z.symm)
        rw [at2 this.1 this.2]; exact hc
/-- at it: an iterator over the tuple at t, its next item the i-th -/
def ItTO (t it : Addr) (i : Nat) : HO := .ext fun h => h.IsTupleIter it t i
/-- something stands at it -/
def AnyO (it : Addr) : HO := .ext fun h => ∃ o, h.get? it = some o
theorem itTO_ok {P : Program} {w : World} {H : Hp} {h : Heap} {t it : Addr} {i : Nat} (e : h.IsTupleIter it t i) : ObjOk P w H h it (ItTO t it i) :=
  ⟨e, let ⟨o, ho, _⟩ := e; ⟨o, ho⟩, fun h1 h2 z k => let ⟨o, ho, r⟩ := z; ⟨o, k _ ho, r⟩⟩
theorem anyO_ok {P : Program} {w : World} {H : Hp} {h : Heap} {it : Addr} (e : ∃ o, h.get? it = some o) : ObjOk P w H h it (AnyO it) := ⟨e, e, fun h1 h2 ⟨o, z⟩ k => ⟨o, k _ z⟩⟩
theorem itTO_get {X : Cx} {pins : List (Addr × Obj)} {σ : L2.St} {H : Hp} {s : Shared} {t it : Addr} {i : Nat} (I : Inv X pins σ H s) (e : H it = some (ItTO t it i)) : s.heap.IsTupleIter it t i := (I.hok it _ e).1
theorem ext_not {φ : Heap → Prop} : (∀ xs, HO.ext φ ≠ .tup xs) ∧ (∀ o w, HO.ext φ ≠ .frz o w) ∧ (∀ ps, HO.ext φ ≠ .tbl ps) ∧ ∀ x, HO.ext φ ≠ .own x := by
  refine ⟨fun xs z => ?_, fun o w z => ?_, fun ps z => ?_, fun x z => ?_⟩ <;> cases z
theorem itTO_not {t it : Addr} {i : Nat} : (∀ xs, ItTO t it i ≠ .tup xs) ∧ (∀ o w, ItTO t it i ≠ .frz o w) ∧ (∀ ps, ItTO t it i ≠ .tbl ps) ∧ ∀ x, ItTO t it i ≠ .own x := ext_not
theorem lst_not {ys : List V} : (∀ xs, HO.lst ys ≠ .tup xs) ∧ (∀ o w, HO.lst ys ≠ .frz o w) ∧ (∀ ps, HO.lst ys ≠ .tbl ps) ∧ ∀ x, HO.lst ys ≠ .own x := by
  refine ⟨fun xs z => ?_, fun o w z => ?_, fun ps z => ?_, fun x z => ?_⟩ <;> cases z
section
variable {X : Cx} {CX : CXT} {k : Nat} {C g gi : Addr} {sp spI : Sp} {E : XK}
def rLenO (C : Addr) (sp : Sp) (E : XK) : List V → Hp → VK → Prop := fun xs H Q => ∃ a dx fs, xs = [.ref a] ∧ H a = some (.ins C dx fs) ∧ sp [.ref a] H (fun v H' => ∃ i : Int, v = .int i ∧ 0 ≤ i ∧ i < 2 ^ 63 ∧ Q (.int i) H') E
theorem call_lenO (hm : PySem.W.findIn X.K (.ref C) "__len__" = some (some (.ref g))) (hf : PySem.W.isFn X.K (.ref g) = true) (F : FnR X.prog X.w X.K X.mg X.base CX k g sp) (hr : Room (k + 1) X.A) (hx : Passes CX X E) : CallR X (.builtin "len") (rLenO C sp E) := by
  intro pins s σ H xs us Q I r h
  obtain ⟨a, dx, fs, rfl, ha, q⟩ := h
  obtain rfl := Vals.ref1 r
  obtain ⟨ox, od, J⟩ := ins_inst I ha
  obtain ⟨m, hF⟩ := I.fr
  refine PySem.W.len_K hF I.ok.mod.kin J hm hf ?_
  refine wpAny_mono (run_at (vs := [V.ref a]) F hr.in1 I.env0.in1 hx I (.cons rfl .nil) q) (fun w s' z => ?_) fun _ _ z => z
  obtain ⟨v, H', I', rv, i, rfl, h0, h1, qi⟩ := z
  obtain ⟨t, rfl⟩ := rv
  exact ⟨⟨h0, h1⟩, .int i, H', I'.tok _, ⟨_, rfl⟩, qi⟩
def rStrO (C : Addr) (sp : Sp) (E : XK) : List V → Hp → VK → Prop := fun xs H Q => ∃ a dx fs, xs = [.ref a] ∧ H a = some (.ins C dx fs) ∧ sp [.ref a] H (fun v H' => ∃ x : Str, v = .str x ∧ Q (.str x) H') E
theorem call_strO (hm : PySem.W.findIn X.K (.ref C) "__str__" = some (some (.ref g))) (hf : PySem.W.isFn X.K (.ref g) = true) (F : FnR X.prog X.w X.K X.mg X.base CX k g sp) (hr : Room (k + 2) X.A) (hx : Passes CX X E) : CallR X (.type "str") (rStrO C sp E) := by
  intro pins s σ H xs us Q I r h
  obtain ⟨a, dx, fs, rfl, ha, q⟩ := h
  obtain rfl := Vals.ref1 r
  obtain ⟨ox, od, J⟩ := ins_inst I ha
  refine PySem.W.kso_call (show X.A.in1.in1.units < cLine from hr.in1.in1.units0) I.kIn J hm hf ?_
  refine wpAny_mono (run_at (vs := [V.ref a]) F hr.in1.in1 I.env0.in1.in1 hx I (.cons rfl .nil) q) (fun w s' z => ?_) fun _ _ z => z
  obtain ⟨v, H', I', rv, x, rfl, qi⟩ := z
  obtain ⟨t, rfl⟩ := rv
  exact ⟨.str x, H', I', ⟨t, rfl⟩, qi⟩
end
end K14
end

-- K14IterB
section
set_option maxRecDepth 100000
set_option maxHeartbeats 4000000
/-! iter(tuple), len(x), str(x), list(x) of an instance with own defs -/
namespace K14
open PySem PySem.Spec PyProof.Rows L2
open PySem.W (Frag Looks InstAt)
def rIterT (K : Frag) : List V → Hp → VK → Prop := fun xs H Q => ∃ (t : Addr) (zs : List V), xs = [.ref t] ∧ SqT K H t zs ∧ ∀ it, H it = none → Q (.ref it) (upd H it (ItTO t it 0))
theorem call_iterT {X : Cx} : CallR X (.builtin "iter") (rIterT X.K) := by
  intro pins s σ H xs us Q I r h
  obtain ⟨t, zs, rfl, hq, q⟩ := h
  obtain rfl := Vals.ref1 r
  obtain ⟨its, rv, pl, hz⟩ := I.tuple hq
  refine Calls.call_function_entry (by decide +kernel) (by decide +kernel) PySem.W.kdk_entry_iter (PySem.W.kdk_args_iter _) ?_
  unfold Builtin.«iter»
  refine wpAny_bind (wpAny_of_eq (a := [Value.ref t]) (by first | rfl | kernel_rfl!) ?_)
  show wpAny _ _ (pyIter (.ref t) >>= _) _ _ _
  refine wpAny_bind (wpAny_pyIter_tuple (show s.heap.IsTuple t its.toArray from pl) ?_)
  refine wpAny_pure ⟨_, rfl, .ref s.heap.objs.size, _, I.laid (t' := s.toks) (fun b u e => Heap.get?_push_of_some _ e) (Nat.le_refl _) (itTO_ok ⟨_, Heap.get?_push_size _ rfl, rfl, rfl⟩), rfl, q _ (I.hok.fresh (Nat.le_refl _))⟩
section
open Builtin
variable {prog : Program} {w : World} {A : Around} {E : Value → Shared → Prop} {s : Shared}
/-- the end of an iterator over a tuple; it stands there still -/
theorem tup_over {it t : Addr} {i : Nat} {items : Array Value} {Q : Option Value → Shared → Prop} (hh : A.handled = none) (hit : s.heap.IsTupleIter it t i) (ht : s.heap.IsTuple t items) (hx : items[i]? = none)
    (hQ : ∀ h', Heap.ExtBut it s.heap h' → (∃ o, h'.get? it = some o) → Q none { s with heap := h' }) : wpAny (model prog w) A (pyNext (.ref it)) Q E s := by
  obtain ⟨oi, hoi, hci, hdi⟩ := id hit
  obtain ⟨ot, hot, _, nt, hdt⟩ := ht
  have now : ∃ o2, (s.heap.update it (Obj.mapFields (·.setIfInBounds 0 Value.none))).get? it = some o2 := ⟨_, Heap.get?_update_self _ hoi (Obj.isFreed_of_fields (Obj.data_mapFields hdi _))⟩
  unfold pyNext
  refine wpAny_bind (wpAny_attempt (wpAny_callSpecial?_slot (name := Str.ofString "__next__") hit.typeIs F.slot_tuple_iterator_next (wpAny_call_entry F.slot_tuple_iterator_next hit.typeIs F.entry_tuple_iterator_next ?_ (F.args_tuple_iterator_next_1 _))))
  show wpAny _ _ (field (.ref it) 0 >>= _) _ _ s
  refine wpAny_bind (wpAny_field hoi hdi (x := .ref t) rfl ?_)
  refine PySem.W.KFB.if_not rfl ?_
  show wpAny _ _ (field (.ref it) 1 >>= _) _ _ s
  refine wpAny_bind (wpAny_field hoi hdi (x := .int i 0) rfl (wpAny_bind (wpAny_seqItems hot hdt ?_)))
  simp only [Int.toNat_natCast, hx]
  refine wpAny_bind (wpAny_rule (wpAny_bind (wpAny_setField hoi hdi (by simp) (wpAny_bind ?_))))
  simp only [newExc, newTuple]
  refine wpAny_bind (wpAny_newObj_type (wpAny_bind (m := firstArgMember _ _) (wpAny_of_eq (a := Value.none) (by first | rfl | (simp only [firstArgMember]; rfl)) (wpAny_newObj_type ?_ (by size_fits)))) (by size_fits))
  simp only [raiseNew]
  refine wpAny_bind (wpAny_handled ?_)
  first | rw [show A.in1.handled = none from hh] | rw [hh]
  refine wpAny_bind (wpAny_pure (wpAny_throw ?_))
  refine wpAny_bind (wpAny_isInstance (T := "StopIteration") (b := true) ⟨_, Heap.get?_push_size _ rfl, rfl⟩ isSubtype_stop ?_)
  refine wpAny_pure (hQ _ (((Heap.SameBut.update ..).extBut.push _).push _) ?_)
  obtain ⟨o2, h2⟩ := now
  exact ⟨o2, Heap.get?_push_of_some _ (Heap.get?_push_of_some _ h2)⟩
/-- list.extend's loop over such an iterator -/
theorem ext_loop {t it q : Addr} {items : Array Value} {R : Result → Shared → Prop} (hh : A.handled = none) (hti : t ≠ it) (hqi : q ≠ it) (hqt : q ≠ t) (hz : items.size ≤ sizeLine) :
    ∀ (k i : Nat) (s : Shared) (c : Nat), items.size - i = k → i ≤ items.size → s.heap.IsTupleIter it t i → s.heap.IsTuple t items → s.heap.get? q = some { cls := .type "list", dict := none, data := .seq (items.toList.take i).toArray c, slots := #[] } →
    (∀ h' c', (∀ b o, b ≠ it → b ≠ q → s.heap.get? b = some o → h'.get? b = some o) → (∃ o, h'.get? it = some o) → h'.get? q = some { cls := .type "list", dict := none, data := .seq items c', slots := #[] } → R (.ok (.ret .none)) { s with heap := h' }) →
    codeAny (model prog w) A (.builtin "list.extend.loop" ⟨[.ref q, .ref it, .none], []⟩) R s := by
  intro k
  induction k with
  | zero =>
    intro i s c hk hi hit ht hq hR
    have hin : i = items.size := by omega
    subst hin
    refine codeAny_builtin PySem.F.entry_extend_loop ?_
    rw [Around.under_plainId PySem.F.plain_extend_loop _]
    show wpAny _ A.in1 (pyNext (.ref it) >>= _) _ _ s
    refine wpAny_bind (tup_over (A := A.in1) hh hit ht (by simp) fun h' eb ex => wpAny_pure (hR h' c (fun b o h1 _ e => eb b o h1 e) ex ?_))
    rw [← Array.length_toList, List.take_length] at hq
    exact eb q _ hqi (by simpa using hq)
  | succ k ih =>
    intro i s c hk hi hit ht hq hR
    have hlt : i < items.size := by omega
    refine codeAny_builtin PySem.F.entry_extend_loop ?_
    rw [Around.under_plainId PySem.F.plain_extend_loop _]
    show wpAny _ A.in1 (pyNext (.ref it) >>= _) _ _ s
    refine wpAny_bind (wpAny_pyNext_tuple_item hit ht (x := items[i]) (by simp [hlt]) fun h' hit' hs' => ?_)
    have hq' := (hs'.2 q hqi).trans hq
    show wpAny _ A.in1 (updateSeq q (·.push items[i]) >>= _) _ _ _
    have len : (items.toList.take i).toArray.size ≤ items.size := by simp; omega
    refine wpAny_bind (wpAny_updateSeq hq' rfl (wpAny_pure ⟨plainId_quiet PySem.F.plain_extend_loop _, ?_⟩) (Nat.le_trans len hz) (by show ((items.toList.take i).toArray.push _).size ≤ sizeLine + 1; rw [Array.size_push]; omega))
    have other : ∀ b, b ≠ q → (h'.update q (Obj.mapSeq (·.push items[i]))).get? b = h'.get? b := fun b hb => Heap.get?_update_other _ _ (Ne.symm hb)
    have el : (items.toList.take (i + 1)).toArray = (items.toList.take i).toArray.push items[i] := by
      have e1 : items.toList[i]? = some items[i] := by simp [hlt]
      rw [take_snoc e1]
      simp
    refine ih (i + 1) _ _ (by omega) hlt (hit'.at fun o e => (other it (Ne.symm hqi)).trans e) (ht.at fun o e => (other t (Ne.symm hqt)).trans ((hs'.2 t hti).trans e)) (by rw [el]; exact Heap.get?_update_self _ hq' rfl) fun h'' c'' k'' e'' g'' => ?_
    exact hR h'' c'' (fun b o h1 h2 e => k'' b o h1 h2 ((other b h2).trans ((hs'.2 b h1).trans e))) e'' g''
end
section
variable {X : Cx} {k kI : Nat} {C g gi : Addr} {sp spI : Sp} {E0 : XK}
/-- a def that lets nothing out, wherever it is called -/
theorem run_calm {A' : Around} {pins : List (Addr × Obj)} {σ : L2.St} {H : Hp} {s : Shared} {us : List Value} {vs : List V} {Q : VK} {E' : Value → Shared → Prop} (F : FnR X.prog X.w X.K X.mg X.base CX0 k g sp) (hr : Room k A') (e0 : Env0 X.prog X.w X.K X.mg X.base A' X.stack s H) (I : Inv X pins σ H s) (r : Vals vs us) (h : sp vs H Q E0) :
    wpAny (model X.prog X.w) A' (call (.ref g) us) (EP X pins σ Q) E' s := by
  refine wpAny_call (codeAny_mono (F A' X.stack s H us vs Q E0 hr e0 r h) fun r s' z => ?_)
  cases r with
  | error e => exact False.elim z
  | ok fl =>
    cases fl with
    | ret u => exact I.after z
    | next => exact False.elim z
    | brk => exact False.elim z
    | cont => exact False.elim z
/-- the hint of an own __len__ -/
theorem hint_len {pins : List (Addr × Obj)} {σ : L2.St} {H : Hp} {s : Shared} {A' : Around} {a dx : Addr} {fs : List (Str × V)} {Q : Bool → Shared → Prop} {E' : Value → Shared → Prop} (W : Hp → Prop) (hm : PySem.W.findIn X.K (.ref C) "__len__" = some (some (.ref g))) (hf : PySem.W.isFn X.K (.ref g) = true)
    (F : FnR X.prog X.w X.K X.mg X.base CX0 k g sp) (hr : Room k A'.in1) (e0 : Env0 X.prog X.w X.K X.mg X.base A'.in1 X.stack s H) (I : Inv X pins σ H s) (ha : H a = some (.ins C dx fs))
    (h : sp [.ref a] H (fun v H' => ∃ i : Int, v = .int i ∧ 0 ≤ i ∧ i ≤ 1000 ∧ W H') E0) (hW : ∀ H' b s', Inv X pins σ H' s' → W H' → Q b s') : wpAny (model X.prog X.w) A' (Builtin.List.listLengthHint (.ref a)) Q E' s := by
  obtain ⟨ox, od, J⟩ := ins_inst I ha
  obtain ⟨m, hF⟩ := I.fr
  unfold Builtin.List.listLengthHint
  refine wpAny_bind (wpAny_bind (J.type.here ((PySem.W.looks_findIn I.kIn hm).here ?_)))
  dsimp only
  refine PySem.W.KFB.if_not rfl ?_
  refine PySem.W.KFB.if_so rfl ?_
  refine wpAny_bind (wpAny_rule ?_)
  refine wpAny_bind (wpAny_attempt ?_)
  refine PySem.W.len_K hF I.ok.mod.kin J hm hf ?_
  refine wpAny_mono (run_calm (vs := [V.ref a]) F hr e0 I (.cons rfl .nil) h) (fun w s' z => ?_) fun e s' z => z
  obtain ⟨v, H', I', rv, i, rfl, h0, h1, qi⟩ := z
  obtain ⟨t, rfl⟩ := rv
  refine ⟨⟨h0, by omega⟩, ?_⟩
  dsimp only
  refine wpAny_bind (wpAny_of_eq (a := some i) (by rfl) ?_)
  dsimp only
  have small : Builtin.List.listTooLong i.toNat = false := by
    unfold Builtin.List.listTooLong
    refine decide_eq_false ?_
    rw [sizeLine_eq]
    omega
  refine PySem.W.KFB.if_not small ?_
  exact wpAny_pure (hW H' _ _ (I'.tok _) qi)
/-- list(x): what its __iter__ hands on is an iterator over a tuple -/
def rListO (K : Frag) (C : Addr) (spI sp : Sp) (E0 : XK) : List V → Hp → VK → Prop := fun xs H Q => ∃ a dx fs, xs = [.ref a] ∧ H a = some (.ins C dx fs) ∧ ∀ q, H q = none → spI [.ref a] (upd H q (.lst [])) (fun v H1 => ∃ it t zs dx1 fs1, v = .ref it ∧ H1 it = some (ItTO t it 0) ∧
  SqT K H1 t zs ∧ H1 q = some (.lst []) ∧ H1 a = some (.ins C dx1 fs1) ∧ zs.length ≤ 1000 ∧
  sp [.ref a] H1 (fun v H2 => ∃ i : Int, v = .int i ∧ 0 ≤ i ∧ i ≤ 1000 ∧ H2 it = some (ItTO t it 0) ∧ SqT K H2 t zs ∧ H2 q = some (.lst []) ∧ Q (.ref q) (upd (upd H2 it (AnyO it)) q (.lst zs))) E0) E0
theorem call_listO (hi : PySem.W.findIn X.K (.ref C) "__iter__" = some (some (.ref gi))) (hif : PySem.W.isFn X.K (.ref gi) = true) (hm : PySem.W.findIn X.K (.ref C) "__len__" = some (some (.ref g))) (hf : PySem.W.isFn X.K (.ref g) = true)
    (hc : X.calm = true) (FI : FnR X.prog X.w X.K X.mg X.base CX0 k gi spI) (FL : FnR X.prog X.w X.K X.mg X.base CX0 k g sp) (hr : Room (k + 4) X.A) : CallR X (.type "list") (rListO X.K C spI sp E0) := by
  intro pins s σ H xs us Q I rv h
  obtain ⟨a, dx, fs, rfl, ha, hq⟩ := h
  obtain rfl := Vals.ref1 rv
  have sz : ∀ {n : Nat}, n ≤ 1000 → n ≤ sizeLine := fun h => Nat.le_trans h (by decide)
  refine callType_codes (Q₁ := fun obj s₁ => obj = .ref s.heap.objs.size ∧ s₁ = { s with heap := s.heap.push { cls := .type "list", data := .seq #[] } }) PySem.F.called_list (PySem.F.typeCall_list_1 _) PySem.F.entry_list_init
    (code_list_new _ ⟨rfl, rfl⟩) fun obj s₁ h₁ => ?_
  obtain ⟨rfl, rfl⟩ := h₁
  generalize hq0 : s.heap.objs.size = q
  have hS : (s.heap.push { cls := .type "list", data := .seq #[] }).get? q = some { cls := .type "list", data := .seq #[] } := by rw [← hq0]; exact Heap.get?_push_size _ rfl
  refine ⟨⟨_, hS, rfl⟩, PySem.F.args_list_init_2 _ _, ?_⟩
  have fr : H q = none := I.hok.fresh (by rw [hq0]; exact Nat.le_refl _)
  have I1 : Inv X pins σ (upd H q (.lst [])) { s with heap := s.heap.push { cls := .type "list", data := .seq #[] } } := by
    have := I.lnew (its := []) (ys := []) (t' := s.toks) .nil (Nat.zero_le _)
    rw [hq0] at this
    exact this
  show wpAny _ _ (do let old ← Builtin.List.listItems (.ref q); Builtin.List.listUpdate (.ref q) (fun _ => #[]); letGo old.toList.reverse; Builtin.List.listExtendWith (.ref q) (.ref a) .none) _ _ _
  refine wpAny_bind ?_
  unfold Builtin.List.listItems
  refine wpAny_bind (wpAny_seqItems hS rfl (wpAny_pure ?_))
  show wpAny _ _ (updateSeq q (fun _ => #[]) >>= fun _ => letGo (#[] : Array Value).toList.reverse >>= fun _ => Builtin.List.listExtendWith (.ref q) (.ref a) .none) _ _ _
  refine wpAny_bind (wpAny_updateSeq hS rfl ?_)
  have I2 := I1.lset (f := fun _ => #[]) (its := []) (its' := []) (ys := []) (t' := s.toks) upd_same hS rfl .nil (Nat.zero_le _)
  rw [upd_upd] at I2
  refine wpAny_bind (wpAny_letGo ?_)
  have ha2 : upd H q (.lst []) a = some (.ins C dx fs) := by rw [upd_ne (ne_of_none ha fr)]; exact ha
  have hne : q ≠ a := ne_of upd_same ha2 (fun z => nomatch z)
  have hsp := hq q fr
  revert I2
  generalize ({ s with heap := _ } : Shared) = s2
  intro I2
  obtain ⟨ox, od, J⟩ := ins_inst I2 ha2
  obtain ⟨m0, hF⟩ := I2.fr
  unfold Builtin.List.listExtendWith
  refine wpAny_bind (J.type.here ?_)
  have h1 : Builtin.List.listSameRef (.ref q) (.ref a) = false := by simp [Builtin.List.listSameRef, hne]
  have h2 : (Value.ref C == Value.type "list") = false := rfl
  have h3 : (Value.ref C == Value.type "tuple") = false := rfl
  simp only [h1, h2, h3, Bool.or_false, Bool.false_eq_true, if_false]
  refine wpAny_bind (PySem.W.owit_iter hF I2.ok.mod.kin J hi hif ?_)
  refine wpAny_mono (run_calm (vs := [V.ref a]) FI (hr.in1.in1.mono (by omega)) I2.env0.in1.in1 I2 (.cons rfl .nil) hsp) (fun w s3 z => ?_) fun e s' z => z
  obtain ⟨v, H1, I3, rv1, it, t, zs, dx1, fs1, rfl, hit, ht, hq1, ha1, hz, hsp2⟩ := z
  obtain rfl : w = Value.ref it := rv1
  have hitr := itTO_get I3 hit
  unfold PySem.W.OwitIt
  refine wpAny_specialOf hitr.typeIs PySem.F.slot_tuple_iterator_next.lookup ?_
  dsimp only
  refine wpAny_bind (wpAny_holding (hint_len _ hm hf FL (hr.in1.in1.in1.mono (by omega)) I3.env0.in1.in1.in1 I3 ha1 hsp2 fun H2 b s4 I4 ⟨hit2, ht2, hq2, hQ⟩ => ?_))
  have hiq : it ≠ q := fun z => by
    rw [z, hq2] at hit2
    cases (show some (HO.lst []) = some (HO.ext _) from hit2)
  have go : ∀ (s5 : Shared), Inv X pins σ H2 s5 → (∃ c, s5.heap.get? q = some { cls := .type "list", dict := none, data := .seq #[] c, slots := #[] }) →
      codeAny (model X.prog X.w) X.A.in1 (.builtin "list.extend.loop" ⟨[.ref q, .ref it, .none], []⟩) (wants (fun r s₂ => r = .none ∧ EP X pins σ Q (.ref q) s₂) X.xe) s5 := fun s5 I5 ⟨c5, hq5⟩ => by
    obtain ⟨its, rvz, pt, _⟩ := I5.tuple ht2
    have ht5 : s5.heap.IsTuple t its.toArray := pt
    have hit5 := itTO_get I5 hit2
    have hlz : its.length = zs.length := rvz.length.symm
    have hti : t ≠ it := fun z => by
      obtain ⟨o1, e1, c1, _⟩ := id ht5
      obtain ⟨o2, e2, c2, _⟩ := id hit5
      rw [z, e2] at e1
      cases e1
      rw [c2] at c1
      injection c1 with c1
      exact absurd c1 (by decide)
    have hqt : q ≠ t := fun z => by
      obtain ⟨o1, e1, c1, _⟩ := id ht5
      rw [← z, hq5] at e1
      cases e1
      injection c1 with c1
      exact absurd c1 (by decide)
    refine ext_loop (A := X.A.in1) (I.ok.hd hc) hti (Ne.symm hiq) hqt (by rw [List.size_toArray, hlz]; exact sz hz) _ 0 s5 c5 rfl (Nat.zero_le _) hit5 ht5 (by simpa using hq5) fun h' c' k1 k2 k3 => ?_
    refine ⟨rfl, .ref q, _, ?_, rfl, hQ⟩
    refine inv_two (t' := s5.toks) I5 hiq hit2 hq2 itTO_not lst_not k1 k2 ⟨_, k3⟩ (anyO_ok k2) ⟨by rw [← hlz] at hz; rw [← hlz]; exact sz hz, its, c', rvz, k3⟩
  have eH : upd H2 q (.lst []) = H2 := by
    funext b
    by_cases hb : b = q
    · rw [hb, upd_same, hq2]
    · rw [upd_ne hb]
  obtain ⟨z0, its0, k0, r0, hl0, e0⟩ := I4.lstM hq2
  cases r0
  refine wpAny_ite_split (fun _ => ?_) (fun _ => wpAny_pure ⟨plainId_quiet PySem.F.plain_extend_loop _, go _ I4 ⟨_, e0⟩⟩)
  refine wpAny_bind (wpAny_rule (wpAny_bind ?_))
  show wpAny _ _ (updateSeq q (·.push .none) >>= fun _ => updateSeq q (·.pop)) _ _ _
  refine wpAny_bind (wpAny_updateSeq e0 rfl ?_)
  have I5 := I4.lset (f := (·.push Value.none)) (its' := [Value.none]) (ys := [.non]) (t' := s4.toks) hq2 e0 (by simp) (.cons rfl .nil) (by rw [List.length_singleton, sizeLine_eq]; decide)
  obtain ⟨z1, its1, k1, r1, hl1, e1⟩ := I5.lstM upd_same
  obtain ⟨u1, rfl, ru1⟩ := r1.one
  refine wpAny_updateSeq e1 rfl ?_ (by show 1 ≤ sizeLine; rw [sizeLine_eq]; decide) (by show 0 ≤ sizeLine + 1; exact Nat.zero_le _)
  have I6 := I5.lset (f := (·.pop)) (its := [u1]) (its' := []) (ys := []) (t' := s4.toks) upd_same e1 (by rfl) .nil (Nat.zero_le _)
  rw [upd_upd, eH] at I6
  obtain ⟨z2, its2, k2, r2, hl2, e2⟩ := I6.lstM hq2
  cases r2
  exact wpAny_pure ⟨plainId_quiet PySem.F.plain_extend_loop _, go _ I6 ⟨_, e2⟩⟩
end
end K14
end

-- K14Data
section
set_option maxRecDepth 100000
set_option maxHeartbeats 2000000
/-! rows as data: equality -/
namespace K14
open PySem PySem.Spec PyProof.Rows L2
open PySem.W (Frag)
def rowD (r : Row) : PyData := .tuple [.str r.1, .str r.2.1, .int r.2.2]
def rowsD (R : List Row) : List PyData := R.map rowD
theorem eqv_row (r q : Row) : PyData.eqv (rowD r) (rowD q) = decide (r = q) := by
  obtain ⟨a, b, c⟩ := r
  obtain ⟨x, y, z⟩ := q
  simp only [rowD, PyData.eqv, PyData.eqvAll, Bool.and_true]
  by_cases h1 : a = x
  · by_cases h2 : b = y
    · by_cases h3 : c = z
      · subst h1 h2 h3; simp
      · simp [h1, h2, h3]
    · simp [h1, h2]
  · simp [h1]
theorem eqv_rows : ∀ R S : List Row, PyData.eqvAll (rowsD R) (rowsD S) = decide (R = S)
  | [], [] => by simp [rowsD, PyData.eqvAll]
  | [], _ :: _ => by simp [rowsD, PyData.eqvAll]
  | _ :: _, [] => by simp [rowsD, PyData.eqvAll]
  | r :: R, q :: S => by
    have ih := eqv_rows R S
    simp only [rowsD, List.map_cons, PyData.eqvAll] at ih ⊢
    rw [eqv_row, ih]
    by_cases h1 : r = q
    · by_cases h2 : R = S
      · simp [h1, h2]
      · simp [h1, h2]
    · simp [h1]
theorem dp_row {K : Frag} {H : Hp} {x : V} {r : Row} (h : RowAt H x r) : Dp K H x (rowD r) := by
  obtain ⟨p, rfl, hp⟩ := h
  exact .tup (SqT.of hp) (.cons (.str _) (.cons (.str _) (.cons (.int _) .nil)))
theorem dp_rows {K : Frag} {H : Hp} : ∀ {xs : List V} {R : List Row}, Rows H xs R → DpAll K H xs (rowsD R)
  | _, _, .nil => .nil
  | _, _, .cons h t => .cons (dp_row h) (dp_rows t)
theorem dp_tup {K : Frag} {H : Hp} {t : Addr} {R : List Row} (h : TupAt H t R) : Dp K H (.ref t) (.tuple (rowsD R)) := let ⟨_, h1, h2⟩ := h; .tup (SqT.of h1) (dp_rows h2)
theorem dp_lst {K : Frag} {H : Hp} {t : Addr} {R : List Row} (h : LstAt H t R) : Dp K H (.ref t) (.list (rowsD R)) := let ⟨_, h1, h2⟩ := h; .lst (SqL.of h1) (dp_rows h2)
/-- its texts are texts that can be laid -/
structure RowLay (r : Row) : Prop where
  a : PyData.strOk r.1 = true
  b : PyData.strOk r.2.1 = true
theorem strOk_name {x : Str} (h : NameOk x) : PyData.strOk x = true := by
  unfold PyData.strOk
  rw [Array.all_eq_true_iff_forall_mem]
  intro c hc
  have := h.2.2 c (by simpa using hc)
  simp; omega
theorem strOk_e : PyData.strOk eS = true := by decide +kernel
theorem TreeOk.lay {R : List Row} (T : TreeOk R) {r : Row} (h : r ∈ R) : RowLay r := by
  refine ⟨strOk_name (T.nm r h), ?_⟩
  rcases T.spot h with e | e
  · rw [e]; exact strOk_e
  · exact strOk_name e
theorem lay_row {r : Row} (h : RowLay r) : (rowD r).canLay0 = true := by
  simp [rowD, PyData.canLay0, PyData.canLayAll0, h.a, h.b]
theorem lay_rows : ∀ {R : List Row}, (∀ r ∈ R, RowLay r) → PyData.canLayAll0 (rowsD R) = true
  | [], _ => by simp [rowsD, PyData.canLayAll0]
  | r :: R, h => by
    have ih := lay_rows (R := R) fun q hq => h q (List.mem_cons_of_mem _ hq)
    simp only [rowsD, List.map_cons, PyData.canLayAll0] at ih ⊢
    rw [lay_row (h r List.mem_cons_self), ih]
    rfl
theorem dep_row (r : Row) : (rowD r).depth = 1 := by simp [rowD, PyData.depth, PyData.depthAll]
theorem dep_rows : ∀ R : List Row, PyData.depthAll (rowsD R) ≤ 1
  | [] => by simp [rowsD, PyData.depthAll]
  | r :: R => by
    have ih := dep_rows R
    simp only [rowsD, List.map_cons, PyData.depthAll] at ih ⊢
    rw [dep_row]
    omega
theorem shaped_row {r : Row} (h : RowLay r) : SeqAt.shaped (rowD r) = true := by
  unfold SeqAt.shaped
  rw [lay_row h, dep_row]
  rfl
theorem shaped_tup {R : List Row} (h : ∀ r ∈ R, RowLay r) : SeqAt.shaped (.tuple (rowsD R)) = true := by
  have h1 : (PyData.tuple (rowsD R)).canLay0 = true := by simp only [PyData.canLay0, lay_rows h]
  have h2 : (PyData.tuple (rowsD R)).depth = PyData.depthAll (rowsD R) + 1 := by simp only [PyData.depth]
  unfold SeqAt.shaped
  rw [h1, h2, Bool.true_and]
  exact decide_eq_true (Nat.le_trans (Nat.add_le_add_right (dep_rows R) 1) (by decide))
theorem shaped_lst {R : List Row} (h : ∀ r ∈ R, RowLay r) : SeqAt.shaped (.list (rowsD R)) = true := by
  have h1 : (PyData.list (rowsD R)).canLay0 = true := by simp only [PyData.canLay0, lay_rows h]
  have h2 : (PyData.list (rowsD R)).depth = PyData.depthAll (rowsD R) + 1 := by simp only [PyData.depth]
  unfold SeqAt.shaped
  rw [h1, h2, Bool.true_and]
  exact decide_eq_true (Nat.le_trans (Nat.add_le_add_right (dep_rows R) 1) (by decide))
end K14
end

-- K14Tree
section
set_option maxRecDepth 100000
set_option maxHeartbeats 2000000
namespace K14
open PySem PySem.Spec PyProof.Rows L2
open PySem.W (Frag)
def spTreeP (C : Addr) : Sp := fun vs H Q _ => ∃ a dx t n, vs = [.ref a] ∧ H a = some (.ins C dx (trD t n)) ∧ Q (.ref t) H
def spIter (C : Addr) : Sp := fun vs H Q _ => ∃ a dx t n ns, vs = [.ref a] ∧ H a = some (.ins C dx (trD t n)) ∧ H n = some (.tup ns) ∧ ∀ it, H it = none → Q (.ref it) (upd H it (ItTO n it 0))
def spLen (C : Addr) : Sp := fun vs H Q _ => ∃ a dx t n xs, vs = [.ref a] ∧ H a = some (.ins C dx (trD t n)) ∧ H t = some (.tup xs) ∧ Q (.int xs.length) H
def spEq (C : Addr) : Sp := fun vs H Q _ => ∃ a b R S, vs = [.ref a, .ref b] ∧ TreeAt C H a R ∧ TreeAt C H b S ∧ TreeOk R ∧ TreeOk S ∧ Q (.bl (decide (R = S))) H
def spStr (C : Addr) : Sp := fun vs H Q _ => ∃ a R, vs = [.ref a] ∧ TreeAt C H a R ∧ TreeOk R ∧ ∀ H', Same H H' → Q (.str (treeText R)) H'
def spOf (C : Addr) : Sp := fun vs H Q _ => ∃ t R, vs = [.ref C, .ref t] ∧ TupAt H t R ∧ TreeOk R ∧ ∀ H' a, Same H H' → H a = none → TreeAt C H' a R → Q (.ref a) H'
/-- what isinstance(x, Tree) asks -/
structure IsTr (K : Frag) (C : Addr) : Prop where
  cls : PySem.W.findIn K (.ref C) "__class__" = some (some (.builtin "object.__class__"))
  get : PySem.W.specialIn K (.builtin "object.__class__") "__get__" = some (some (.builtin "getset_descriptor.__get__"))
  tak : PySem.W.takesIn K (.builtin "object.__class__") = some true
  top : PySem.W.mroIn K C (.type "object") = some true
  one : PySem.W.kitOne K (.ref C) (.ref C) = some true
section
variable {P : Program} {w : World} {K : Frag} {mg : Str → Option Value} {base : Heap} {f fi : Addr} {fd : FuncData} {C : Addr}
theorem sc_treeP : FnScope ["self"] ["self"] (defScope (sT 4)) := ⟨rfl, rfl, rfl, by decide +kernel, rfl, by decide +kernel, by decide +kernel⟩
theorem ok_treeP (F : FunD K "tree" "Tree.tree" (defArgs (sT 4)) (defBody (sT 4)) (defScope (sT 4)) [] [] f fd) (TT : TrTxt K mg C fi) : FnOk P w K mg base CX0 1 f fd ["self"] (spTreeP C) := by
  refine F.ok sc_treeP (fun vs H Q E h => ?_) (fun cdv A outer s H vs Q E hr h => ?_)
  · obtain ⟨a, dx, t, n, rfl, _⟩ := h
    rfl
  · obtain ⟨a, dx, t, n, rfl, ha, k⟩ := h
    refine ⟨_, PSs.nox (pss_one (ps_ret (pe_fld (pv 0) rfl))), ?_⟩
    exact ⟨_, rfl, a, C, dx, _, _, rfl, ha, TT.cls, TT.noT, rfl, k⟩
theorem sc_iter : FnScope ["self"] ["self"] (defScope (sT 9)) := ⟨rfl, rfl, rfl, by decide +kernel, rfl, by decide +kernel, by decide +kernel⟩
theorem ok_iter (F : FnM K "__iter__" 9 f fd) (T : Txt mg) (TT : TrTxt K mg C fi) : FnOk P w K mg base CX0 1 f fd ["self"] (spIter C) := by
  refine F.ok sc_iter (fun vs H Q E h => ?_) (fun cdv A outer s H vs Q E hr h => ?_)
  · obtain ⟨a, dx, t, n, ns, rfl, _⟩ := h
    rfl
  · obtain ⟨a, dx, t, n, ns, rfl, ha, hn, k⟩ := h
    refine ⟨_, PSs.nox (pss_one (ps_ret (pe_callB call_iterT rfl T.iter (by decide +kernel) (pa_cons (pe_fld (pv 0) rfl) pa_nil)))), ?_⟩
    exact ⟨_, rfl, a, C, dx, _, _, rfl, ha, TT.cls, TT.noN, rfl, n, ns, rfl, SqT.of hn, k⟩
theorem sc_len : FnScope ["self"] ["self"] (defScope (sT 11)) := ⟨rfl, rfl, rfl, by decide +kernel, rfl, by decide +kernel, by decide +kernel⟩
theorem ok_len (F : FnM K "__len__" 11 f fd) (T : Txt mg) (TT : TrTxt K mg C fi) : FnOk P w K mg base CX0 1 f fd ["self"] (spLen C) := by
  refine F.ok sc_len (fun vs H Q E h => ?_) (fun cdv A outer s H vs Q E hr h => ?_)
  · obtain ⟨a, dx, t, n, ns, rfl, _⟩ := h
    rfl
  · obtain ⟨a, dx, t, n, ns, rfl, ha, ht, k⟩ := h
    refine ⟨_, PSs.nox (pss_one (ps_ret (pe_callB call_len_seq rfl T.len PySem.boot_len (pa_cons (pe_fld (pv 0) rfl) pa_nil)))), ?_⟩
    exact ⟨_, rfl, a, C, dx, _, _, rfl, ha, TT.cls, TT.noT, rfl, t, ns, rfl, .inr (SqT.of ht), k⟩
theorem sc_eq : FnScope ["self", "other"] ["self", "other"] (defScope (sT 12)) := ⟨rfl, rfl, rfl, by decide +kernel, rfl, by decide +kernel, by decide +kernel⟩
theorem ok_eq (F : FnM K "__eq__" 12 f fd) (T : Txt mg) (TT : TrTxt K mg C fi) (IT : IsTr K C) : FnOk P w K mg base CX0 1 f fd ["self", "other"] (spEq C) := by
  refine F.ok sc_eq (fun vs H Q E h => ?_) (fun cdv A outer s H vs Q E hr h => ?_)
  · obtain ⟨a, b, R, S, rfl, _⟩ := h
    rfl
  · obtain ⟨a, b, R, S, rfl, ⟨dx, t, n, ha, ht, hn⟩, ⟨dy, u, m, hb, hu, hm⟩, TR, TS, k⟩ := h
    refine ⟨_, PSs.nox (pss_one (ps_ret (pe_and (pe_callB call_isi rfl T.isinstance isi_boot (pa_cons (pv 1) (pa_cons (pe_glob (v := .ref C) rfl TT.gC rfl) pa_nil)))
      (pe_one (pe_cmpR (op_eqD hr.units) (pe_fld (pv 0) rfl) (pe_fld (pv 1) rfl) (nomark _)))))), ?_⟩
    refine ⟨_, rfl, _, _, _, _, _, rfl, .own C, .base (.ins hb TT.cls IT.cls IT.get IT.tak IT.top), IT.one, true, rfl, iteT ?_⟩
    refine ⟨_, rfl, a, C, dx, _, _, rfl, ha, TT.cls, TT.noT, rfl, _, rfl, b, C, dy, _, _, rfl, hb, TT.cls, TT.noT, rfl, ?_⟩
    refine ⟨_, _, dp_tup ht, dp_tup hu, shaped_tup (fun r h => TR.lay h), shaped_tup (fun r h => TS.lay h), ?_⟩
    rw [show PyData.eqv (.tuple (rowsD R)) (.tuple (rowsD S)) = PyData.eqvAll (rowsD R) (rowsD S) by simp only [PyData.eqv], eqv_rows]
    exact k
theorem sc_str : FnScope ["self"] ["self"] (defScope (sT 13)) := ⟨rfl, rfl, rfl, by decide +kernel, rfl, by decide +kernel, by decide +kernel⟩
theorem ok_str (F : FnM K "__str__" 13 f fd) (TT : TrTxt K mg C fi) (Dt : Dn P w K mg base CX0 6 "tree_text" [] spText) : FnOk P w K mg base CX0 7 f fd ["self"] (spStr C) := by
  refine F.ok sc_str (fun vs H Q E h => ?_) (fun cdv A outer s H vs Q E hr h => ?_)
  · obtain ⟨a, R, rfl, _⟩ := h
    rfl
  · obtain ⟨a, R, rfl, ⟨dx, t, n, ha, ht, hn⟩, TR, k⟩ := h
    refine ⟨_, PSs.nox (pss_one (ps_ret (pe_joined1 (pe_fmt (pe_d Dt hr (by decide) rfl pass0 (pa_cons (pe_fld (pv 0) rfl) pa_nil)))))), ?_⟩
    refine ⟨_, rfl, a, C, dx, _, _, rfl, ha, TT.cls, TT.noT, rfl, t, R, rfl, ht, TR, fun H' s' => .inl ⟨_, rfl, ?_, k H' s'⟩⟩
    exact Nat.le_trans (treeText_len (fun r h => TR.fit h) TR.few) (by decide)
theorem sc_of : FnScope ["cls", "tree"] ["cls", "tree"] (defScope (sT 1)) := ⟨rfl, rfl, rfl, by decide +kernel, rfl, by decide +kernel, by decide +kernel⟩
theorem ok_of (F : FunD K "of" "Tree.of" (defArgs (sT 1)) (defBody (sT 1)) (defScope (sT 1)) [] [] f fd) (TT : TrTxt K mg C fi) (Fi : FnR P w K mg base CX0 5 fi (spInitR C)) (Dw : Dn P w K mg base CX0 5 "want_tree" [] spNoneT) : FnOk P w K mg base CX0 7 f fd ["cls", "tree"] (spOf C) := by
  refine F.ok sc_of (fun vs H Q E h => ?_) (fun cdv A outer s H vs Q E hr h => ?_)
  · obtain ⟨t, R, rfl, _⟩ := h
    rfl
  · obtain ⟨t, R, rfl, ht, TR, k⟩ := h
    refine ⟨_, PSs.nox (pss_cons (ps_expr (pe_d Dw hr (by decide) rfl pass0 (pa_cons (pv 1) pa_nil)))
      (pss_one (ps_ret (pe_makeS TT.mak Fi hr pass0 (pv 0) (pv 1))))), ?_⟩
    refine ⟨_, rfl, t, R, rfl, ht, TR, fun H1 s1 => ?_⟩
    obtain ⟨xs, ht1, hx⟩ := ht.sm s1
    refine ⟨_, rfl, rfl, _, rfl, t, xs, rfl, .inl (SqT.of ht1), ?_⟩
    exact make_tree hx TR fun H' a s' ha T => k H' a (s1.trans s') (Same.free s1 ha) T
end
end K14
end

-- K14Sub
section
set_option maxRecDepth 100000
set_option maxHeartbeats 2000000
namespace K14
open PySem PySem.Spec PyProof.Rows L2
open PySem.W (Frag)
/-! ### rows picked out of a sequence -/
def pick (c : Row → Bool) (p : V × Row) : Option V := if c p.2 = true then some p.1 else none
theorem zip_at {xs : List V} {R : List Row} {i : Nat} {x : V} {r : Row} (h : xs[i]? = some x) (k : R[i]? = some r) : (xs.zip R)[i]? = some (x, r) := List.getElem?_zip_eq_some.mpr ⟨h, k⟩
theorem zip_len {H : Hp} {xs : List V} {R : List Row} (h : Rows H xs R) : (xs.zip R).length = R.length := by rw [List.length_zip, h.len, Nat.min_self]
theorem rows_pick {H : Hp} (c : Row → Bool) : ∀ {xs : List V} {R : List Row}, Rows H xs R → Rows H ((xs.zip R).filterMap (pick c)) (R.filter c)
  | _, _, .nil => .nil
  | x :: xs, r :: R, .cons h t => by
    have ih := rows_pick c t
    rw [List.zip_cons_cons, List.filter_cons]
    by_cases e : c r = true
    · rw [if_pos e, List.filterMap_cons_some (show pick c (x, r) = some x from if_pos e)]
      exact .cons h ih
    · rw [if_neg e, List.filterMap_cons_none (show pick c (x, r) = none from if_neg e)]
      exact ih
theorem rows_all {H : Hp} : ∀ {xs : List V} {R : List Row}, Rows H xs R → (xs.zip R).filterMap (pick fun _ => true) = xs
  | _, _, .nil => rfl
  | x :: xs, r :: R, .cons h t => by
    rw [List.zip_cons_cons, List.filterMap_cons_some (show pick (fun _ => true) (x, r) = some x from rfl), rows_all t]
/-! ### taking a folder out -/
structure Takes (x : Str) (R : List Row) : Prop where
  there : x ∈ names R
  more : R.length ≠ 1
  free : ∀ r ∈ R, r.2.1 ≠ x
def spSub (C C2 : Addr) : Sp := fun vs H Q E => ∃ (a : Addr) (R : List Row) (x : Str), vs = [.ref a, .str x] ∧ TreeAt C H a R ∧ TreeOk R ∧ (Takes x R → ∀ H' b, Same H H' → H b = none → TreeAt C H' b (out x R) → Q (.ref b) H') ∧ (¬ Takes x R → Told C2 H E (.str "folder") (.str x))
section
variable {P : Program} {w : World} {K : Frag} {mg : Str → Option Value} {base : Heap} {f fi : Addr} {fd : FuncData} {C C2 : Addr}
theorem sc_sub : FnScope ["self", "folder", "parents", "rows", "name", "one"] ["self", "folder"] (defScope (sT 7)) := ⟨rfl, rfl, rfl, by decide +kernel, rfl, by decide +kernel, by decide +kernel⟩
theorem pes_names (R : List Row) : (pars R).map (fun kv => kV kv.1) = txs (names R) := by
  simp [pars, txs, names, List.map_map, Function.comp_def, kV]
theorem ok_sub (F : FnM K "__sub__" 7 f fd) (T : Txt mg) (TT : TrTxt K mg C fi) (Fi : FnR P w K mg base CX0 5 fi (spInitR C)) (Dwf : Dn P w K mg base (L2.CX P w) 3 "want_folder" [] (spWantF C2)) (Dp1 : Dn P w K mg base CX0 1 "parents_by" [] spParents)
    (Dw3 : Dn P w K mg base (L2.CX P w) 1 "want" [] (spWant C2)) : FnOk P w K mg base (L2.CX P w) 7 f fd ["self", "folder"] (spSub C C2) := by
  refine F.ok sc_sub (fun vs H Q E h => ?_) (fun cdv A outer s H vs Q E hr h => ?_)
  · obtain ⟨a, R, x, rfl, _⟩ := h
    rfl
  · have nd := sc_sub.nd
    have hu := hu_of hr
    obtain ⟨a, R, x, rfl, ⟨dx, t, n, ha, ht, hn⟩, TR, k1, k2⟩ := h
    refine ⟨_, pss_cons (ps_expr (pe_d Dwf hr (by decide) rfl (passes_call (E := E) (takes_of rfl rfl rfl rfl) (fun _ _ _ _ h => h)) (pa_cons (pe_fld (pv 0) rfl) (pa_cons (pv 1) pa_nil))))
      (pss_cons (ps_set (i := 2) nd rfl (.inr rfl) (pe_d Dp1 (E := fun _ _ _ => False) hr (by decide) rfl pass0 (pa_cons (pe_fld (pv 0) rfl) pa_nil)))
      (pss_cons (ps_expr (pe_d Dw3 hr (by decide) rfl (passes_call (E := E) (takes_of rfl rfl rfl rfl) (fun _ _ _ _ h => h)) (pa_cons
          (pe_and (pe_cmpR op_gt (pe_callB call_lenD rfl T.len PySem.boot_len (pa_cons (pv 2) pa_nil)) pe_int (nomark _))
            (pe_one (pe_cmpR op_notIn_seq (pv 1) (pe_lock (pe_lc (own := [("name", 4)]) (g := gName 4) (tt := tYes) rfl nd (pi_keys (pv 2)) (blkOk_by (N := ["self", "folder", "parents", "rows", "name", "one"]) (sc := defScope (sT 7)) (by decide +kernel))
              (fun _ _ _ _ _ => pg_name (i := 4) nd rfl (Or.inl rfl)) (fun _ _ _ _ _ => pts_nil) (fun _ _ _ _ _ => pe_dget hu (pv 2) (pv 4) (fun _ _ => rfl)))) rfl)))
          (pa_cons pe_str (pa_cons (pv 1) pa_nil)))))
      (pss_cons (ps_setLc (i := 3) (own := [("one", 5)]) (g := gName 5) (tt := tTest (tOp rNe (tOp (rIxT K) (tVar 5) (tC (.int 0))) (tVar 1))) rfl nd rfl rfl (sw_true rfl rfl rfl (by decide +kernel)) (pi_tup (pe_fld (pv 0) rfl)) (blkOk_by (N := ["self", "folder", "parents", "rows", "name", "one"]) (sc := defScope (sT 7)) (by decide +kernel))
        (fun _ _ _ _ _ => pg_name (i := 5) nd rfl (Or.inl rfl)) (fun _ _ _ _ _ => pts_one (pt_cmpR op_ne (pe_ix ix_tup (pv 5) pe_int (fun _ _ => rfl)) (pv 1) (nomark _))) (fun _ _ _ _ _ => pv 5))
      (pss_one (ps_ret (pe_makeS TT.mak Fi hr pass0 (pe_glob (v := .ref C) rfl TT.gC rfl) (pv 3))))))), ?_⟩
    refine ⟨_, rfl, a, C, dx, _, _, rfl, ha, TT.cls, TT.noT, rfl, _, rfl, t, R, x, rfl, ht, TR.few, fun hin H1 s1 => ?_, fun hin => k2 fun z => hin z.there⟩
    refine ⟨_, rfl, a, C, dx, _, _, rfl, s1 a _ ha, TT.cls, TT.noT, rfl, t, R, rfl, ht.sm s1, TR.few, TR.nodup, fun H2 d s2 hd0 hd => ?_⟩
    have s12 : Same H H2 := s1.trans s2
    refine ⟨_, rfl, d, _, rfl, hd, _, _, rfl, rfl, _, rfl, ?_⟩
    have hlen : ((pars R).length : Int) = (R.length : Int) := by rw [pars_length]
    rw [hlen]
    by_cases h1 : R.length = 1
    · rw [decide_eq_false (show ¬ ((1 : Int) < (R.length : Int)) by omega)]
      refine iteF ⟨_, rfl, false, .str "folder", .str x, rfl, (fun z => nomatch z), fun _ => (k2 fun z => z.more h1).of s12⟩
    · have hpos := List.length_pos_iff.mpr TR.ne
      rw [decide_eq_true (show (1 : Int) < (R.length : Int) by omega)]
      refine iteT ⟨_, rfl, d, .dK (pars R), hd, True.intro, fun od => ?_⟩
      generalize hHf : upd H2 d (.frz od (.dK (pars R))) = Hf
      have hdf : Hf d = some (.frz od (.dK (pars R))) := by rw [← hHf]; exact upd_same
      refine ⟨_, rfl, d, od, rfl, .inl ⟨pars R, hdf, fun D hD => lc_it (walk_keys (d := d) (o := od) (kvs := pars R)) (fun i H' => H' = LcH Hf D (fun r : Row => some (.str r.2.1)) R i) lcH_0 ?_ ?_ ?_⟩⟩
      · rintro i _ _ rfl
        exact lcH_at hdf hD
      · rintro i y _ H' hi rfl ⟨rfl, kk, vv, hkv, rfl⟩
        unfold pars at hkv
        rw [List.getElem?_map] at hkv
        obtain ⟨r, hr0, er⟩ := Option.map_eq_some_iff.mp hkv
        obtain ⟨rfl, rfl⟩ := Prod.mk.inj er
        refine ⟨rfl, tyesT ⟨_, rfl, _, rfl, d, .str r.2.1, rfl, .inl ⟨pars R, Sum.inr r.1, .inr ⟨od, lcH_at hdf hD⟩, rfl, (pars_some TR.nodup (List.mem_of_getElem? hr0)).symm⟩, lc_fin hr0 rfl (Nat.le_trans TR.few (by decide))⟩⟩
      · rintro _ rfl
        rw [pars_length, lcH_n]
        have hDd : D ≠ d := fun z => by rw [z, hdf] at hD; cases hD
        refine ⟨by rw [upd_ne (Ne.symm hDd)]; exact hdf, ?_⟩
        generalize hHg : upd (upd Hf D (.lst (R.filterMap fun r : Row => some (.str r.2.1)))) d (.dK (pars R)) = Hg
        have s2g : Same H2 Hg := fun b o hb => by
          rw [← hHg]
          by_cases e : b = d
          · rw [e, upd_same, ← hd, ← e]; exact hb
          · rw [upd_ne e]
            have hbf : Hf b = some o := by rw [← hHf, upd_ne e]; exact hb
            rw [upd_ne (ne_of_none hbf hD)]
            exact hbf
        have sg : Same H Hg := s12.trans s2g
        have hDg : Hg D = some (.lst (txs (R.map (·.2.1)))) := by
          rw [← hHg, upd_ne hDd, upd_same]
          congr 2
          unfold txs
          rw [List.map_map]
          clear hHg hHf hdf hD s2g sg hd hlen h1 hpos hDd TR k1 k2 ht hn hin
          induction R with
          | nil => rfl
          | cons a l ih => simp
        refine ⟨D, _, rfl, .inl (SqL.of hDg), rfl, flat_txs _, ?_⟩
        rw [inV_txs]
        refine ⟨_, rfl, !decide (x ∈ R.map (·.2.1)), .str "folder", .str x, rfl, fun hb => ?_, fun hb => (k2 fun z => ?_).of sg⟩
        · have tk : Takes x R := ⟨hin, h1, fun r hr e => by
            have hm : x ∈ R.map (·.2.1) := List.mem_map.mpr ⟨r, hr, e⟩
            rw [decide_eq_true hm] at hb
            cases hb⟩
          have hag := sg a _ ha
          obtain ⟨xs, htg, hxg⟩ := ht.sm sg
          refine ⟨_, rfl, a, C, dx, _, _, rfl, hag, TT.cls, TT.noT, rfl, t, rfl, ⟨xs, SqT.of htg⟩, fun G hG => lc_tup (xs := xs) (fun i H' => H' = LcH Hg G (pick fun q => decide (q.1 ≠ x)) (xs.zip R) i) lcH_0 ?_ ?_ ?_⟩
          · rintro i _ _ rfl
            exact SqT.of (lcH_at htg hG)
          · rintro i y _ hi rfl
            obtain ⟨r, hr0, p, rfl, hp⟩ := hxg.at hi
            have hz := zip_at hi hr0
            refine ⟨rfl, ?_⟩
            refine ⟨_, rfl, p, _, 0, _, rfl, rfl, SqT.of (lcH_at hp hG), rfl, _, rfl, rfl, _, rfl, ?_⟩
            by_cases e : r.1 = x
            · rw [show (!decide (V.str r.1 = V.str x)) = false by simp [e]]
              exact iteF (lc_skip hz (if_neg (by simp [e])))
            · rw [show (!decide (V.str r.1 = V.str x)) = true by simp [e]]
              exact iteT ⟨_, rfl, lc_fin hz (if_pos (by simp [e])) (by rw [zip_len hxg]; exact Nat.le_trans TR.few (by decide))⟩
          · rintro _ rfl
            rw [hxg.len.trans (zip_len hxg).symm, lcH_n]
            have hrow := rows_pick (fun q => decide (q.1 ≠ x)) hxg
            refine ⟨rfl, _, rfl, G, _, rfl, .inr (SqL.of upd_same), make_tree (R := out x R) (Rows.sm (Same.new hG) hrow) (TR.out h1 tk.free) fun H' b s' hb0 T' => ?_⟩
            exact k1 tk H' b (sg.trans ((Same.new hG).trans s')) (Same.free sg (Same.free (Same.new hG) hb0)) T'
        · rw [show decide (x ∈ R.map (·.2.1)) = false from decide_eq_false fun hm => by
            obtain ⟨r, hr, e⟩ := List.mem_map.mp hm
            exact z.free r hr e] at hb
          cases hb
end
end K14
end

-- K14Sort
section
set_option maxRecDepth 100000
set_option maxHeartbeats 2000000
/-! sorted of tuples that begin with a text, all unlike there -/
namespace K14
open PySem PySem.Spec PyProof.Rows L2
open PySem.W (Frag dataLe)
theorem lt_str (a b : Str) : PySem.W.dataLt (.str a) (.str b) = decide (nlt a b) := by
  have h := congrFun (congrFun (PySem.W.dataLe_str (fun x : Str => x)) b) a
  have e : dataLe false (fun b : Str => PyData.str b) b a = !PySem.W.dataLt (.str a) (.str b) := by
    rw [PySem.W.dataLe_eq] <;> rfl
  rw [e] at h
  have h2 : PySem.W.dataLt (.str a) (.str b) = !decide (b.cps.toList ≤ a.cps.toList) := by rw [← h]; simp
  rw [h2]
  unfold nlt
  rw [← decide_not]
  exact decide_eq_decide.mpr List.not_le
theorem lt_head {a b : Str} (xs ys : List PyData) (h : a ≠ b) : PySem.W.dataLt (.tuple (.str a :: xs)) (.tuple (.str b :: ys)) = decide (nlt a b) := by
  have e : PySem.W.dataLt (.tuple (.str a :: xs)) (.tuple (.str b :: ys)) = PyProof.Rows.lexLt itemOrd (PySem.W.keyToksAll (.str a :: xs)) (PySem.W.keyToksAll (.str b :: ys)) := by
    unfold PySem.W.dataLt
    simp only [PySem.W.keyToks]
  have n : PyData.eqv (.str a) (.str b) = false := by simp [PyData.eqv, h]
  rw [e, PySem.W.dataLt_cons (by simp [PySem.W.alike]), n, if_neg Bool.false_ne_true, lt_str]
section
variable {β : Type} {k : β → Str} {rest : β → List PyData} {bs : List β}
/-- sorted: the same things, ascending by their first text -/
theorem sort_named (nd : (bs.map k).Nodup) : (bs.mergeSort (dataLe false fun b => .tuple (.str (k b) :: rest b))).Perm bs ∧ (bs.mergeSort (dataLe false fun b => .tuple (.str (k b) :: rest b))).Pairwise fun a b => nlt (k a) (k b) := by
  have pm : (bs.mergeSort (dataLe false fun b => .tuple (.str (k b) :: rest b))).Perm bs := List.mergeSort_perm _ _
  refine ⟨pm, ?_⟩
  have le := PySem.W.sort_pairwise (PySem.W.sortLe_total (PyProof.Rows.listOrd itemOrd) false fun b : β => PySem.W.keyToks (.tuple (.str (k b) :: rest b))) bs
  have nd2 : ((bs.mergeSort (dataLe false fun b => .tuple (.str (k b) :: rest b))).map k).Nodup := (pm.map k).nodup_iff.mpr nd
  have ne := List.pairwise_map.mp nd2
  refine (List.pairwise_and_iff.mpr ⟨le, ne⟩).imp fun {a b} h => ?_
  obtain ⟨h1, h2⟩ := h
  have e : dataLe false (fun b => .tuple (.str (k b) :: rest b)) a b = !PySem.W.dataLt (.tuple (.str (k b) :: rest b)) (.tuple (.str (k a) :: rest a)) := by
    rw [PySem.W.dataLe_eq] <;> rfl
  have h3 : dataLe false (fun b => .tuple (.str (k b) :: rest b)) a b = true := h1
  rw [e, lt_head _ _ (Ne.symm h2)] at h3
  rcases nlt_tri (k a) (k b) with z | z | z
  · exact absurd z h2
  · exact z
  · rw [decide_eq_true z] at h3; cases h3
end
/-! ### in memory -/
section
variable {X : Cx} {β : Type} {k : β → Str} {rest : β → List PyData} {G : Hp → V → β → Prop}
/-- what a value stands for -/
def Stands (G : Hp → V → β → Prop) (H : Hp) (v : Value) (b : β) : Prop := ∃ x, RelV x v ∧ G H x b
theorem stands_of {H : Hp} : ∀ {xs : List V} {us : List Value} {bs : List β}, Vals xs us → Paired (G H) xs bs → PySem.W.EachIs (Stands G H) us bs
  | _, _, _, .nil, .nil => .nil
  | _, _, _, .cons r t, .cons h u => .cons ⟨_, r, h⟩ (stands_of t u)
theorem stands_to {H : Hp} : ∀ {us : List Value} {bs : List β}, PySem.W.EachIs (Stands G H) us bs → ∃ xs, Vals xs us ∧ Paired (G H) xs bs
  | _, _, .nil => ⟨[], .nil, .nil⟩
  | _, _, .cons ⟨x, r, h⟩ t => by
    obtain ⟨xs, a, b⟩ := stands_to t
    exact ⟨x :: xs, .cons r a, .cons h b⟩
def rSortN (K : Frag) (G : Hp → V → β → Prop) (k : β → Str) : List V → Hp → VK → Prop := fun vs H Q => ∃ (l : Addr) (xs : List V) (bs : List β), vs = [V.ref l] ∧ SqL K H l xs ∧ Paired (G H) xs bs ∧ (bs.map k).Nodup ∧ bs.length ≤ 1000 ∧
  ∀ ys cs p, cs.Perm bs → cs.Pairwise (fun a b => nlt (k a) (k b)) → Paired (G H) ys cs → H p = none → Q (.ref p) (upd H p (.lst ys))
theorem reads_all {pins : List (Addr × Obj)} {σ : L2.St} {H : Hp} {s : Shared} (I : Inv X pins σ H s) (hG : ∀ H x b, G H x b → Dp X.K H x (.tuple (.str (k b) :: rest b))) {us : List Value} {bs : List β} (h : PySem.W.EachIs (Stands G H) us bs) :
    PySem.W.EachIs (fun v b => ∃ as, Reads s.heap v (.tuple (.str (k b) :: rest b)) as) us bs := h.mono fun v b ⟨x, r, g⟩ => Dp.reads I _ x v (hG H x b g) r
theorem cr_sortN (hG : ∀ H x b, G H x b → Dp X.K H x (.tuple (.str (k b) :: rest b))) (hal : ∀ b b', PySem.W.alikeAll (rest b) (rest b') = true) (hdep : ∀ b, (PyData.tuple (.str (k b) :: rest b)).depth ≤ 8) (hu : X.A.units + 64 < cLine) : CallR X (.builtin "sorted") (rSortN X.K G k) := by
  intro pins s σ H vs us Q I r h
  obtain ⟨l, xs, bs, rfl, hs, hp, nd, hz, q⟩ := h
  obtain ⟨its, rv, hl, _⟩ := I.list hs
  rw [Vals.ref1 r]
  have st := stands_of rv hp
  have hle : bs.length ≤ sizeLine := Nat.le_trans hz (by decide)
  refine PySem.W.sorted_data (enc := fun b => .tuple (.str (k b) :: rest b)) hl.isList st (reads_all I hG st) (PySem.W.AllAlike.of fun b b' => by simp [PySem.W.alike, PySem.W.alikeAll, hal b b']) (PySem.W.Sortable.tuples fun b => ⟨_, _, rfl⟩) hle
    (fun b _ => by have := hdep b; omega) fun out ho hout => ?_
  obtain ⟨pm, asc⟩ := sort_named (rest := rest) nd
  obtain ⟨ys, rv2, hp2⟩ := stands_to hout
  obtain ⟨ep, he'⟩ := PyProof.Rows.sortedAll_at s.heap its out.toArray
  have hlen : ys.length ≤ sizeLine := by rw [rv2.length, ho]; exact hle
  exact ⟨.ref _, upd H (s.heap.objs.size + 1) (.lst ys), I.laid (t' := s.toks) (fun _ _ => PyProof.Rows.sortedAll_old) (Nat.le_succ _) ⟨hlen, out, ep, rv2, he'⟩, rfl, q ys _ _ pm asc hp2 (I.hok.fresh (Nat.le_succ _))⟩
end
end K14
end

-- K14Set
section
set_option maxRecDepth 100000
set_option maxHeartbeats 4000000
/-! a set of rows, all unlike: made of a list -/
namespace K14
open PySem PySem.Spec PyProof.Rows L2
open PySem.W (Frag)
/-- a row as a tuple's key -/
def rk (r : Row) : List Key := [.inr r.1, .inr r.2.1, .inl r.2.2]
abbrev rh (P : Program) (w : World) (r : Row) : Int := tupleKeyHash (mixKind P w) (rk r)
abbrev IsRow (P : Program) (w : World) (h : Heap) (r : Row) (a : Addr) : Prop := IsTupleKey (mixKind P w) h (rk r) a
theorem rk_inj {r q : Row} (h : rk r = rk q) : r = q := by
  obtain ⟨a, b, c⟩ := r
  obtain ⟨x, y, z⟩ := q
  simp only [rk, List.cons.injEq, and_true] at h
  obtain ⟨h1, h2, h3⟩ := h
  rw [Sum.inr.inj h1, Sum.inr.inj h2, Sum.inl.inj h3]
section
variable {P : Program} {w : World} {A : Around} {E : Value → Shared → Prop} {s : Shared}
theorem row_list {h : Heap} {r : Row} {a : Addr} (x : IsRow P w h r a) : ∃ o items n t1 t2 t3, h.get? a = some o ∧ o.cls = .type "tuple" ∧ o.data = .seq items n ∧ items.toList = [.str r.1 t1, .str r.2.1 t2, .int r.2.2 t3] := by
  obtain ⟨o, items, n, ho, hc, hd, hi⟩ := x
  unfold rk at hi
  generalize hl : items.toList = l at hi
  cases hi with
  | cons h1 hi =>
    cases hi with
    | cons h2 hi =>
      cases hi with
      | cons h3 hi =>
        cases hi
        rcases keyIs_shape (show keyIs (Sum.inr r.1) _ = true from h1) with ⟨i, t, e, _⟩ | ⟨x1, t1, e1, rfl⟩
        · cases e
        rcases keyIs_shape (show keyIs (Sum.inr r.2.1) _ = true from h2) with ⟨i, t, e, _⟩ | ⟨x2, t2, e2, rfl⟩
        · cases e
        rcases keyIs_shape (show keyIs (Sum.inl r.2.2) _ = true from h3) with ⟨i3, t3, e3, rfl⟩ | ⟨x, t, e, _⟩
        · cases e1
          cases e2
          cases e3
          exact ⟨o, items, n, t1, t2, t3, ho, hc, hd, hl⟩
        · cases e
theorem cls_row {r : Row} {b : Addr} {Q : Bool → Shared → Prop} (x : IsRow P w s.heap r b) (h : Q false s) : wpAny (model P w) A (ofAClassStatement 8 (.ref b)) Q E s := by
  have hT := x.typeIs
  obtain ⟨o, items, n, t1, t2, t3, ho, _, hd, hl⟩ := row_list x
  unfold ofAClassStatement
  refine wpAny_bind (wpAny_typeOf hT ?_)
  dsimp only
  have e : (("tuple" : String) == "tuple") = true := by decide
  simp only [e, if_true, Bool.not_true, Bool.false_eq_true, if_false]
  try refine wpAny_bind (wpAny_pure ?_)
  try simp only [Bool.not_true, Bool.false_eq_true, if_false]
  show wpAny _ _ (seqItems? (.ref b) >>= _) _ _ s
  refine wpAny_bind (wpAny_seqItems ho hd ?_)
  dsimp only
  show wpAny _ _ (forIn items _ _ >>= _) _ _ s
  rw [← Array.forIn_toList, hl]
  simp only [List.forIn_cons, List.forIn_nil]
  have c1 : ∀ (k : Nat) (y : Str) (t : Tok), ofAClassStatement k (.str y t) = pure false := fun k y t => by cases k <;> rfl
  have c2 : ∀ (k : Nat) (y : Int) (t : Tok), ofAClassStatement k (.int y t) = pure false := fun k y t => by cases k <;> rfl
  simp only [c1, c2]
  repeat (first | exact h | refine wpAny_bind ?_ | refine wpAny_pure ?_ | simp only [Bool.false_eq_true, if_false])
theorem byv_row {r : Row} {b : Addr} {Q : Bool → Shared → Prop} (x : IsRow P w s.heap r b) (h : Q false s) : wpAny (model P w) A (hashByValue 8 (.ref b)) Q E s := by
  have hT := x.typeIs
  obtain ⟨o, items, n, t1, t2, t3, ho, _, hd, hl⟩ := row_list x
  unfold hashByValue
  refine wpAny_bind (wpAny_specialOf hT F.slot_tuple_hash.lookup ?_)
  show wpAny _ _ (seqItems? (.ref b) >>= _) _ _ s
  refine wpAny_bind (wpAny_seqItems ho hd ?_)
  show wpAny _ _ (forIn items _ _ >>= _) _ _ s
  rw [← Array.forIn_toList, hl]
  simp only [List.forIn_cons, List.forIn_nil]
  have c1 : ∀ (k : Nat) (y : Str) (t : Tok), hashByValue k (.str y t) = pure false := fun k y t => by unfold hashByValue; cases k <;> rfl
  simp only [c1]
  repeat (first | exact h | refine wpAny_bind ?_ | refine wpAny_pure ?_ | simp only [Bool.not_false, if_true])
end
end K14
end

-- K14Set2
section
set_option maxRecDepth 100000
set_option maxHeartbeats 4000000
namespace K14
open PySem PySem.Spec PyProof.Rows L2
open PySem.W (Frag)
section
variable {P : Program} {w : World} {A : Around} {E : Value → Shared → Prop} {s : Shared}
/-- looking among rows shows nothing -/
theorem unseen_row {r : Row} {b : Addr} {Q : Bool → Shared → Prop} (x : IsRow P w s.heap r b) {ys : List Value} (hy : ∀ y ∈ ys, ∃ q c, y = Value.ref c ∧ IsRow P w s.heap q c) (h : Q false s) : wpAny (model P w) A (searchCouldBeSeen (.ref b) ys) Q E s := by
  unfold searchCouldBeSeen
  refine wpAny_bind (wpAny_forIn_list _ (fun rest r s' => r.1 = none ∧ s' = s ∧ ∀ y ∈ rest, y ∈ ys) _ ?_ ?_ _ _ ⟨rfl, rfl, fun _ z => z⟩)
  · rintro v rest acc s' ⟨hacc, rfl, hall⟩
    obtain ⟨q, c, rfl, hc⟩ := hy v (hall v List.mem_cons_self)
    have tl : ∀ y ∈ rest, y ∈ ys := fun u hu => hall u (List.mem_cons_of_mem _ hu)
    dsimp only
    cases hv : (b == c || (carriedByValue (.ref b) && carriedByValue (.ref c))) with
    | true => exact wp_if_pos rfl (wpAny_pure ⟨rfl, rfl, tl⟩)
    | false =>
      refine wp_if_neg Bool.false_ne_true ?_
      refine wpAny_bind (wpAny_eqIsQuiet_tuple x ?_)
      refine wp_if_neg (by decide) (wpAny_bind (wpAny_eqIsQuiet_tuple hc ?_))
      refine wp_if_neg (by decide) (wpAny_bind (cls_row x ?_))
      refine wp_if_neg (by decide) (wpAny_bind (cls_row hc ?_))
      exact wp_if_neg (by decide) (wpAny_pure ⟨rfl, rfl, tl⟩)
  · rintro ⟨r1, r2⟩ s' ⟨hr, rfl, _⟩
    simp only at hr
    subst hr
    exact wpAny_pure h
def ent (P : Program) (w : World) (p : Addr × Row) : Int × Value := (rh P w p.2, .ref p.1)
/-- a set of rows at a: L in the order of its entries -/
structure SetR (P : Program) (w : World) (h : Heap) (a : Addr) (L : List (Addr × Row)) (es : Array (Int × Value)) (ep : Nat) (t : SetTable) : Prop where
  ob : ∃ o, h.get? a = some o ∧ o.ExactSet ∧ o.data = .set es ep t
  rows : es.toList = L.map (ent P w)
  tab : TabOk t (L.map fun p => rh P w p.2)
  isr : ∀ p ∈ L, IsRow P w h p.2 p.1
  led : w.params.followText "set-order" = true ∨ t.led = true
  room : L.length * 5 < t.mask * 3
  few : L.length < 64
variable {a : Addr} {L : List (Addr × Row)} {es : Array (Int × Value)} {ep : Nat} {t : SetTable}
theorem SetR.size (R : SetR P w s.heap a L es ep t) : es.size = L.length := by
  have h := congrArg List.length R.rows
  rwa [Array.length_toList, List.length_map] at h
theorem SetR.fits (R : SetR P w s.heap a L es ep t) : t.fits es.size = true := by
  have h1 := R.tab.sz
  have h2 := R.size
  have h3 := R.room
  rw [List.length_map] at h1
  unfold SetTable.fits SetTable.fill
  rw [R.tab.dm, Bool.and_eq_true, beq_iff_eq, decide_eq_true_eq]
  show t.place.size = es.size ∧ t.place.size + 0 ≤ t.mask
  omega
theorem SetR.at_ (R : SetR P w s.heap a L es ep t) {i : Nat} {p : Addr × Row} (h : L[i]? = some p) : es[i]? = some (ent P w p) := by
  rw [← Array.getElem?_toList, R.rows, List.getElem?_map, h] <;> rfl
/-- the state of a probe before its c-th step -/
abbrev prb (t : SetTable) (h : Int) (c : Nat) : SetTable.Probe := nth t.mask (runAt t.mask (SetTable.bits h % (t.mask + 1)) (SetTable.bits h)) c
theorem prb_plus (t : SetTable) (h : Int) (c q : Nat) : nth t.mask (prb t h c) q = prb t h (c + q) := (nth_add t.mask c _ q).symm
theorem prb_dummy (t : SetTable) (h : Int) (c : Nat) : (prb t h c).dummy = none := by
  have key : ∀ (n : Nat) (p : SetTable.Probe), p.dummy = none → (nth t.mask p n).dummy = none := by
    intro n
    induction n with
    | zero => exact fun p h => h
    | succ n ih =>
      intro p h
      refine ih (adv t.mask p) ?_
      unfold adv
      split <;> exact h
  exact key c _ rfl
/-- a row that is not in the set: the search ends at the first free slot of its way -/
theorem find_new (R : SetR P w s.heap a L es ep t) {x : Addr} {r : Row} (hx : IsRow P w s.heap r x) (hu : A.units < cLine) (hnew : ∀ p ∈ L, p.2 ≠ r) {K : Nat} (hKf : K < 10 * SetTable.turns t.mask)
    (hK : way t.mask (rh P w r) K ∉ t.place.toList) (hKb : ∀ c, c < K → way t.mask (rh P w r) c ∈ t.place.toList) {Q : SetFound → Shared → Prop} (hQ : Q (.free (way t.mask (rh P w r) K) false) s) :
    ∀ (f c : Nat) (stand : Option SetTable.Probe), stand.getD (t.probeStart (rh P w r)) = prb t (rh P w r) c → c ≤ K → K - c < f → wpAny (model P w) A (setSearchFrom a (.ref x) (rh P w r) true f stand) Q E s := by
  intro f
  induction f with
  | zero => exact fun c stand _ _ hf => absurd hf (Nat.not_lt_zero _)
  | succ f ih =>
    intro c stand hst hc hf
    obtain ⟨o, ho, hex, hd⟩ := R.ob
    have gw : ¬ t.gaveWay = true := by
      unfold SetTable.gaveWay
      rw [mask_odd R.tab.mok]
      decide
    rw [setSearchFrom_succ]
    refine wpAny_bind (wpAny_setState_of ho hd R.fits ?_)
    dsimp only
    refine wp_if_neg gw ?_
    try refine wpAny_bind (wpAny_pure ?_)
    have e1 : ∀ q, (nth t.mask (prb t (rh P w r) c) q).j = way t.mask (rh P w r) (c + q) := fun q => congrArg SetTable.Probe.j (prb_plus t (rh P w r) c q)
    have spec := go_spec t R.tab.ris R.tab.dm (fun i => (es[i]?.map (·.1)).getD 0) (rh P w r) (10 * SetTable.turns t.mask) (K - c) _ (prb_dummy t (rh P w r) c) (by omega)
      (fun q hq => by rw [e1]; exact hKb (c + q) (by omega)) (by rw [e1, show c + (K - c) = K by omega]; exact hK)
    rcases spec with ⟨q, i, hq, hi, hh, hno, hpr⟩ | ⟨hno, hpr⟩
    · have hpr' : t.probe (fun i => (es[i]?.map (·.1)).getD 0) (rh P w r) (stand.getD (t.probeStart (rh P w r))) = some (.candidate (way t.mask (rh P w r) (c + q)) i (prb t (rh P w r) (c + (q + 1)))) := by
        rw [hst, ← e1, ← prb_plus]
        exact hpr
      rw [hpr']
      dsimp only
      rw [e1] at hi
      have hil : i < L.length := by
        have h1 : i < t.place.toList.length := (List.getElem?_eq_some_iff.mp hi).1
        have h2 := R.tab.sz
        rw [List.length_map] at h2
        rw [Array.length_toList] at h1
        omega
      obtain ⟨p, hp⟩ : ∃ p, L[i]? = some p := ⟨_, List.getElem?_eq_getElem hil⟩
      have hmem : p ∈ L := List.mem_of_getElem? hp
      have tail : wpAny (model P w) A (searchRest a (.ref x) (rh P w r) true f es t (way t.mask (rh P w r) (c + q)) i (prb t (rh P w r) (c + (q + 1)))) Q E s := by
        unfold searchRest
        rw [R.at_ hp]
        dsimp only [ent]
        refine wpAny_bind (wpAny_holding (wpAny_eqBool_tuple hu (R.isr p hmem) hx ?_))
        refine wpAny_bind (wpAny_setState_of ho hd R.fits ?_)
        dsimp only
        have hkk : ¬ rk p.2 = rk r := fun z => hnew p hmem (rk_inj z)
        refine wp_if_neg (by simp [hkk]) ?_
        try refine wpAny_bind (wpAny_pure ?_)
        rw [sameMem]
        dsimp only
        have hsl : t.slot (way t.mask (rh P w r) (c + q)) = .live i := slot_live R.tab.ris hi
        simp only [if_true, hsl, R.at_ hp, ent]
        refine wpAny_bind (wpAny_isSame_ref_self (wpAny_bind (wpAny_pure ?_)))
        simp only [if_true]
        refine wp_if_neg (by simp [hkk]) ?_
        exact ih (c + (q + 1)) _ rfl (by omega) (by omega)
      by_cases hl : t.led = true
      · refine wp_if_neg (by simp [hl]) ?_
        try refine wpAny_bind (wpAny_pure ?_)
        exact tail
      · refine wp_if_pos (by simp [hl]) ?_
        refine wpAny_bind (unseen_row hx (fun y hy => ?_) ?_)
        · obtain ⟨e, he, ee⟩ := List.mem_map.mp hy
          have he1 : e ∈ es ∧ e.1 = rh P w r := by simpa using he
          have he2 : e ∈ es.toList := by simpa using he1.1
          rw [R.rows] at he2
          obtain ⟨p2, hp2, e2⟩ := List.mem_map.mp he2
          exact ⟨p2.2, p2.1, by rw [← ee, ← e2] <;> rfl, R.isr p2 hp2⟩
        · refine wp_if_neg (by decide) ?_
          try refine wpAny_bind (wpAny_pure ?_)
          exact tail
    · have hpr' : t.probe (fun i => (es[i]?.map (·.1)).getD 0) (rh P w r) (stand.getD (t.probeStart (rh P w r))) = some (.empty (way t.mask (rh P w r) K) none) := by
        have e2 : way t.mask (rh P w r) K = (nth t.mask (prb t (rh P w r) c) (K - c)).j := by rw [e1, show c + (K - c) = K by omega]
        rw [hst, e2]
        exact hpr
      rw [hpr']
      dsimp only
      exact wpAny_pure hQ
end
end K14
end

-- K14Set3
section
set_option maxRecDepth 100000
set_option maxHeartbeats 4000000
namespace K14
open PySem PySem.Spec PyProof.Rows L2
open PySem.W (Frag)
section
variable {P : Program} {w : World} {A : Around} {E : Value → Shared → Prop} {s : Shared}
theorem isRow_keep {h h' : Heap} {r : Row} {b : Addr} (x : IsRow P w h r b) (k : ∀ o, h.get? b = some o → h'.get? b = some o) : IsRow P w h' r b := by
  obtain ⟨o, items, n, ho, z⟩ := x
  exact ⟨o, items, n, k o ho, z⟩
theorem isRow_but {h h' : Heap} {r : Row} {a b : Addr} {o : Obj} {es : Array (Int × Value)} {ep : Nat} {t : SetTable} (hb : IsRow P w h r b) (ho : h.get? a = some o) (hd : o.data = .set es ep t) (hs : Heap.SameBut a h h') : IsRow P w h' r b := by
  obtain ⟨o', items, n, ho', hc, hd', hi⟩ := hb
  have hne : b ≠ a := by
    rintro rfl
    obtain rfl : o' = o := Option.some.inj (ho'.symm.trans ho)
    rw [hd] at hd'
    exact nomatch hd'
  exact ⟨o', items, n, (hs.2 b hne).trans ho', hc, hd', hi⟩
theorem put_in (L : List (Addr × Row)) (p : Nat) (x : Addr × Row) : (L.take p ++ x :: L.drop p).map (ent P w) = (L.map (ent P w)).take p ++ ent P w x :: (L.map (ent P w)).drop p := by
  rw [List.map_append, List.map_cons, List.map_take, List.map_drop]
/-- the entries in another order -/
theorem order_gen (g : Row → Int) (L : List (Addr × Row)) (es : Array (Int × Value)) (order : Array Nat) (hr : es.toList = L.map fun p => (g p.2, Value.ref p.1)) (hp : order.toList.Perm (List.range L.length)) :
    ∃ L2 : List (Addr × Row), (order.filterMap (es[·]?)).toList = (L2.map fun p => (g p.2, Value.ref p.1)) ∧ L2.Perm L ∧ (L2.map fun p => g p.2) = order.toList.map fun i => (es.map (·.1)).getD i 0 := by
  have ef : (fun i : Nat => es[i]?) = fun i : Nat => (L[i]?).map fun p => (g p.2, Value.ref p.1) := by
    funext i
    rw [← Array.getElem?_toList, hr, List.getElem?_map]
  have pl : ∀ (n : Nat) (L : List (Addr × Row)), n = L.length → (List.range n).filterMap (fun i => L[i]?) = L := by
    intro n
    induction n with
    | zero => intro L h; rw [List.length_eq_zero_iff.mp h.symm]; rfl
    | succ n ih =>
      intro L h
      cases L with
      | nil => simp at h
      | cons x L =>
        rw [List.range_succ_eq_map, List.filterMap_cons_some (show (x :: L)[0]? = some x from rfl), List.filterMap_map]
        have e : (fun i => (x :: L)[i]?) ∘ Nat.succ = fun i : Nat => L[i]? := by funext i; rfl
        rw [e, ih L (by simpa using h)]
  refine ⟨order.toList.filterMap fun i => L[i]?, ?_, ?_, ?_⟩
  · rw [Array.toList_filterMap, ef, List.map_filterMap]
  · have h1 := List.Perm.filterMap (fun i : Nat => L[i]?) hp
    rwa [pl _ L rfl] at h1
  · have all : ∀ l : List Nat, (∀ i ∈ l, i < L.length) → ((l.filterMap fun i => L[i]?).map fun p => g p.2) = l.map fun i => (es.map (·.1)).getD i 0 := by
      intro l
      induction l with
      | nil => intro _; rfl
      | cons i l ih =>
        intro h
        have hi := h i List.mem_cons_self
        have e1 := List.getElem?_eq_getElem hi
        have e2 : es[i]? = some (g (L[i]).2, Value.ref (L[i]).1) := by
          rw [← Array.getElem?_toList, hr, List.getElem?_map, e1, Option.map_some]
        have e3 : (es.map (·.1)).getD i 0 = g (L[i]).2 := by
          rw [Array.getD_eq_getD_getElem?, Array.getElem?_map, e2, Option.map_some, Option.getD_some]
        rw [List.filterMap_cons_some e1, List.map_cons, List.map_cons, e3, ih fun j hj => h j (List.mem_cons_of_mem _ hj)]
    exact all _ fun i hi => List.mem_range.mp (hp.mem_iff.mp hi)
theorem order_ents (L : List (Addr × Row)) (es : Array (Int × Value)) (order : Array Nat) (hr : es.toList = L.map (ent P w)) (hp : order.toList.Perm (List.range L.length)) :
    ∃ L2 : List (Addr × Row), (order.filterMap (es[·]?)).toList = L2.map (ent P w) ∧ L2.Perm L ∧ (L2.map fun p => rh P w p.2) = order.toList.map fun i => (es.map (·.1)).getD i 0 := order_gen (rh P w) L es order hr hp
variable {a : Addr} {L : List (Addr × Row)} {es : Array (Int × Value)} {ep : Nat} {t : SetTable}
/-- the table laid anew -/
theorem relay_rows {o : Obj} (ho : s.heap.get? a = some o) (hex : o.ExactSet) (hd : o.data = .set es ep t) (hrows : es.toList = L.map (ent P w)) (hfits : t.fits es.size = true)
    (tup : ∀ p ∈ L, IsRow P w s.heap p.2 p.1) (ld : w.params.followText "set-order" = true ∨ t.led = true) (few : L.length < 64) {wanted M : Nat}
    (hw : SetTable.sizeAbove wanted - 1 = M) (hM : MaskOk M) (hw2 : SetTable.sizeAbove wanted ≤ 128) (hn : L.length * 5 < M * 3) {Q : Unit → Shared → Prop}
    (hQ : ∀ h' L' es' ep' t', Heap.SameBut a s.heap h' → SetR P w h' a L' es' ep' t' → L'.Perm L → Q () { s with heap := h' }) : wpAny (model P w) A (setRelay a wanted) Q E s := by
  have hsl : es.size = L.length := by
    have h := congrArg List.length hrows
    rwa [Array.length_toList, List.length_map] at h
  obtain ⟨t', order, e, hp, T, em, el, ep', ed⟩ := relaid_ok t (hs := es.map (·.1)) (wanted := wanted) hw hM (by rw [Array.size_map, hsl]; omega)
  rw [Array.size_map, hsl] at hp
  obtain ⟨L2, r1, r2, r3⟩ := order_ents L es order hrows hp
  rw [← r3] at T
  have hs2 : (order.filterMap (es[·]?)).size = es.size := by
    have h := congrArg List.length r1
    rw [Array.length_toList, List.length_map, r2.length_eq] at h
    rw [h, hsl]
  rw [setRelay_eq]
  refine wpAny_bind (wpAny_setState_of ho hd hfits ?_)
  dsimp only
  refine wp_if_neg (by rw [sizeLine_eq]; omega) ?_
  try refine wpAny_bind (wpAny_pure ?_)
  rw [e]
  dsimp only
  refine wpAny_bind ?_
  refine wp_if_neg (by rw [hs2]; simp) ?_
  try refine wpAny_bind (wpAny_pure ?_)
  refine wpAny_pure ?_
  dsimp only
  refine wpAny_storeSet_of ho hd ?_ (by rw [hs2, hsl, sizeLine_eq]; omega)
  have sb : Heap.SameBut a s.heap (s.heap.update a (Obj.putSet (order.filterMap (es[·]?)) t')) := Heap.SameBut.update ..
  refine hQ _ L2 (order.filterMap (es[·]?)) (ep + 1) t' sb ?_ r2
  exact ⟨⟨_, store_at ho hd, ⟨hex.1, hex.2.1, hex.2.2⟩, rfl⟩, r1, T, fun p hpm => isRow_but (tup p (r2.mem_iff.mp hpm)) ho hd sb, by rw [el]; exact ld, by rw [r2.length_eq, em]; exact hn, by rw [r2.length_eq]; exact few⟩
theorem tab_unplain {t : SetTable} {hs : List Int} (T : TabOk t hs) : TabOk { t with plain := false } hs := ⟨T.ris, T.dm, T.sz, T.mok, T.bd, T.reach⟩
/-- a new row comes in -/
theorem add_row (R : SetR P w s.heap a L es ep t) {x : Addr} {r : Row} (hx : IsRow P w s.heap r x) (hu : A.units < cLine) (hnew : ∀ p ∈ L, p.2 ≠ r) (hfew : L.length + 1 < 64) {Q : Bool → Shared → Prop}
    (hQ : ∀ b h' L' es' ep' t', Heap.SameBut a s.heap h' → SetR P w h' a L' es' ep' t' → L'.Perm ((x, r) :: L) → Q b { s with heap := h' }) :
    wpAny (model P w) A (setAddHashed a (.ref x) (rh P w r)) Q E s := by
  obtain ⟨o, ho, hex, hd⟩ := R.ob
  have hsl := R.size
  have hroom := R.room
  have hlm : (L.map fun p => rh P w p.2).length ≤ t.mask := by rw [List.length_map]; omega
  obtain ⟨K, hKf, hK, hb⟩ := R.tab.first hlm (rh P w r)
  unfold setAddHashed
  refine wpAny_holding ?_
  rw [show (100000 : Nat) = 99999 + 1 from rfl, setAddHashedIn_succ]
  refine wpAny_bind (wpAny_setState_of ho hd R.fits ?_)
  dsimp only
  refine wp_if_neg (by simp [byScan, Value.scannable]) ?_
  try refine wpAny_bind (wpAny_pure ?_)
  have hKM : K < 10000 := by
    have := R.tab.mok
    rcases this with e | e | e <;> rw [e] at hKf <;> exact Nat.lt_trans hKf (by decide)
  refine wpAny_bind ?_
  unfold setSearch
  refine find_new R hx hu hnew hKf hK hb ?_ _ 0 none rfl (Nat.zero_le _) (by omega)
  dsimp only
  refine wpAny_bind (wpAny_setState_of ho hd R.fits ?_)
  dsimp only
  obtain ⟨q1, q2, q3, q4, q5, q6, q7, q8, q9⟩ := R.tab.put hK hb
  generalize hpt : t.put (way t.mask (rh P w r) K) = pt at q1 q3 q4 q5 q6 q7 q8 q9 ⊢
  obtain ⟨t1, p⟩ := pt
  dsimp only at q1 q3 q4 q5 q6 q7 q8 q9 ⊢
  subst q1
  have hin : (SetTable.insertAt es (SetTable.below t.place (way t.mask (rh P w r) K)) (rh P w r, Value.ref x)).toList = (L.take (SetTable.below t.place (way t.mask (rh P w r) K)) ++ (x, r) :: L.drop (SetTable.below t.place (way t.mask (rh P w r) K))).map (ent P w) := by
    rw [SetTable.toList_insertAt, put_in, R.rows]
    rfl
  generalize hpp : SetTable.below t.place (way t.mask (rh P w r) K) = p at q2 q3 hin ⊢
  have pm := put_perm L p (x, r)
  have hlen : (L.take p ++ (x, r) :: L.drop p).length = L.length + 1 := pm.length_eq
  have hhs : (L.take p ++ (x, r) :: L.drop p).map (fun p => rh P w p.2) = (L.map fun p => rh P w p.2).take p ++ rh P w r :: (L.map fun p => rh P w p.2).drop p := by
    rw [List.map_append, List.map_cons, List.map_take, List.map_drop]
  rw [← hhs] at q3
  have hes : (SetTable.insertAt es p (rh P w r, Value.ref x)).size = L.length + 1 := by
    have h := congrArg List.length hin
    rwa [Array.length_toList, List.length_map, hlen] at h
  generalize SetTable.insertAt es p (rh P w r, Value.ref x) = es1 at hin hes ⊢
  generalize L.take p ++ (x, r) :: L.drop p = L1 at pm hlen q3 hin
  have core : ∀ t2 : SetTable, TabOk t2 (L1.map fun p => rh P w p.2) → t2.mask = t.mask → t2.led = t.led → t2.fill = L.length + 1 → wpAny (model P w) A (storeSet a es1 t2 >>= fun _ => if (!false && t2.tooFull) = true then (setRelay a (SetTable.grown (es.size + 1)) >>= fun _ => pure true) else pure true) Q E s := by
    intro t2 T2 m2 l2 f2
    refine wpAny_bind (wpAny_storeSet_of ho hd ?_ (by rw [hes, sizeLine_eq]; omega))
    have sb : Heap.SameBut a s.heap (s.heap.update a (Obj.putSet es1 t2)) := Heap.SameBut.update ..
    have ho1 := store_at (es' := es1) (t' := t2) ho hd
    generalize s.heap.update a (Obj.putSet es1 t2) = h1 at sb ho1 ⊢
    have tup1 : ∀ p ∈ L1, IsRow P w h1 p.2 p.1 := fun p hp => by
      rcases List.mem_cons.mp (pm.mem_iff.mp hp) with e | hp
      · rw [e]; exact isRow_but hx ho hd sb
      · exact isRow_but (R.isr p hp) ho hd sb
    have ld1 : w.params.followText "set-order" = true ∨ t2.led = true := by rw [l2]; exact R.led
    have hsz : t2.place.size = L.length + 1 := by rw [T2.sz, List.length_map, hlen]
    by_cases hf : t2.tooFull = true
    · refine wp_if_pos (by simp [hf]) (wpAny_bind ?_)
      have hfull : (L.length + 1) * 5 ≥ t2.mask * 3 := by
        have h := hf
        unfold SetTable.tooFull at h
        rw [decide_eq_true_eq, f2] at h
        exact h
      rw [hsl]
      have cases2 : (t.mask = 7 ∧ L.length = 4) ∨ (t.mask = 31 ∧ L.length = 18) := by
        rcases R.tab.mok with e | e | e
        · left; rw [m2, e] at hfull; rw [e] at hroom; exact ⟨e, by omega⟩
        · right; rw [m2, e] at hfull; rw [e] at hroom; exact ⟨e, by omega⟩
        · exfalso; rw [m2, e] at hfull; omega
      have fit : t2.fits es1.size = true := by
        unfold SetTable.fits
        rw [Bool.and_eq_true, beq_iff_eq, decide_eq_true_eq, f2, hes, m2]
        exact ⟨hsz, by omega⟩
      have go : ∀ M, SetTable.sizeAbove (SetTable.grown (L.length + 1)) - 1 = M → MaskOk M → SetTable.sizeAbove (SetTable.grown (L.length + 1)) ≤ 128 → (L.length + 1) * 5 < M * 3 →
          wpAny (model P w) A (setRelay a (SetTable.grown (L.length + 1))) (fun _ s' => wpAny (model P w) A (pure true) Q E s') E { s with heap := h1 } := fun M z1 z2 z3 z4 => by
        refine relay_rows (s := { s with heap := h1 }) ho1 ⟨hex.1, hex.2.1, hex.2.2⟩ rfl hin fit tup1 ld1 (by rw [hlen]; exact hfew) z1 z2 z3 (by rw [hlen]; exact z4) ?_
        intro h2 L2 es2 ep2 t3 sb2 R2 pm2
        exact wpAny_pure (hQ true h2 L2 es2 ep2 t3 (sb.trans sb2) R2 (pm2.trans pm))
      rcases cases2 with ⟨_, e2⟩ | ⟨_, e2⟩
      · exact go 31 (by rw [e2, size_20]) (.inr (.inl rfl)) (by rw [e2, size_20]; decide) (by omega)
      · exact go 127 (by rw [e2, size_76]) (.inr (.inr rfl)) (by rw [e2, size_76]; decide) (by omega)
    · refine wp_if_neg (by simp [hf]) ?_
      refine wpAny_pure (hQ true h1 L1 es1 (ep + 1) t2 sb ⟨⟨_, ho1, ⟨hex.1, hex.2.1, hex.2.2⟩, rfl⟩, hin, T2, tup1, ld1, ?_, by rw [hlen]; exact hfew⟩ pm)
      have h := hf
      unfold SetTable.tooFull at h
      rw [decide_eq_true_eq, f2] at h
      rw [hlen]
      omega
  have f1 : t1.fill = L.length + 1 := by rw [q9, List.length_map]
  by_cases hpl : t1.plain = true
  · refine wp_if_pos hpl (wpAny_bind (byv_row hx ?_))
    simp only [Bool.false_eq_true, if_false]
    exact core _ (tab_unplain q3) q4 q5 f1
  · refine wp_if_neg hpl ?_
    try refine wpAny_bind (wpAny_pure ?_)
    simp only [if_true]
    exact core _ q3 q4 q5 f1
end
end K14
end

-- K14Set4
section
set_option maxRecDepth 100000
set_option maxHeartbeats 4000000
namespace K14
open PySem PySem.Spec PyProof.Rows L2
open PySem.W (Frag)
section
variable {P : Program} {w : World} {A : Around} {E : Value → Shared → Prop} {s : Shared}
theorem SetR.keep {h h' : Heap} {a : Addr} {L : List (Addr × Row)} {es : Array (Int × Value)} {ep : Nat} {t : SetTable} (R : SetR P w h a L es ep t) (ha : ∀ o, h.get? a = some o → h'.get? a = some o) (ht : ∀ p ∈ L, IsRow P w h' p.2 p.1) : SetR P w h' a L es ep t := by
  obtain ⟨o, ho, r⟩ := R.ob
  exact ⟨⟨o, ha o ho, r⟩, R.rows, R.tab, ht, R.led, R.room, R.few⟩
theorem setR_fresh {h : Heap} {a : Addr} (ho : h.get? a = some { cls := .type "set", dict := none, data := .set #[] 0 (.fresh 0 0 (!w.params.followText "set-order")) }) : SetR P w h a [] #[] 0 (.fresh 0 0 (!w.params.followText "set-order")) where
  ob := ⟨_, ho, ⟨rfl, rfl, rfl⟩, rfl⟩
  rows := rfl
  tab := ⟨List.Pairwise.nil, rfl, rfl, .inl rfl, fun x hx => (by cases hx), fun i h j hi => (by simp at hi)⟩
  isr := fun p hp => (by cases hp)
  led := by
    show _ ∨ (!w.params.followText "set-order") = true
    cases w.params.followText "set-order"
    · exact .inr rfl
    · exact .inl rfl
  room := by
    show 0 * 5 < 7 * 3
    decide
  few := by
    show 0 < 64
    decide
/-- the loop of set.update -/
theorem upd_rows {I : Addr} {fp wr : List Addr} {G : Array GenState → Array GenState → Prop} {n : Nat} {Pv : Nat → Value → Prop} {St : Nat → Shared → Prop} {R : Result → Shared → Prop}
    (W : WalksS P w A.in1 I fp wr G n Pv St) (S : Addr) (hSf : S ∉ fp) (ks : List (Addr × Row)) (nd : (ks.map (·.2)).Nodup) (hn : n = ks.length) (hfew : ks.length < 64) (hval : ∀ i v, Pv i v → ∃ p, ks[i]? = some p ∧ v = .ref p.1)
    (h0 : Heap) (hk : ∀ p ∈ ks, IsRow P w h0 p.2 p.1) (hS0 : h0.get? S = none) (hw0 : ∀ b ∈ wr, h0.get? b = none) (hu : A.in1.units < cLine) :
    ∀ (k i : Nat) (s : Shared), n - i = k → i ≤ n → St i s → (∀ b o, h0.get? b = some o → s.heap.get? b = some o) → (∃ L es ep t, SetR P w s.heap S L es ep t ∧ L.Perm (ks.take i)) →
      (∀ s' L es ep t, Moved (S :: wr) G s s' → SetR P w s'.heap S L es ep t → L.Perm ks → (∀ b o, h0.get? b = some o → s'.heap.get? b = some o) → R (.ok (.ret .none)) s') →
      codeAny (model P w) A (.builtin "set.update.loop" ⟨[.ref S, .ref I], []⟩) R s := by
  have hSw : S ∉ wr := fun h => hSf (W.sub _ h)
  have hsub : ∀ b ∈ wr, b ∈ S :: wr := fun b hb => List.mem_cons_of_mem _ hb
  have keepM : ∀ {s s' : Shared}, Moved wr G s s' → (∀ b o, h0.get? b = some o → s.heap.get? b = some o) → ∀ b o, h0.get? b = some o → s'.heap.get? b = some o := fun hm hkp b o e =>
    hm.heap b o (fun hb => by rw [hw0 b hb] at e; cases e) (hkp b o e)
  have sub : ∀ {i : Nat} {L : List (Addr × Row)}, L.Perm (ks.take i) → ∀ p ∈ L, p ∈ ks := fun pm p hp => List.mem_of_mem_take (pm.mem_iff.mp hp)
  intro k
  induction k with
  | zero =>
    intro i s hk' hi hst hkp ⟨L, es, ep, t, hS, pm⟩ hR
    have hin : i = n := by omega
    subst hin
    refine codeAny_builtin F.entry_set_update_loop ?_
    rw [Around.under_plainId F.plain_set_update_loop _]
    show wpAny _ A.in1 (pyNext (.ref I) >>= _) _ _ s
    refine wpAny_bind (W.done s _ _ hst fun s' hm => ?_)
    show wpAny _ A.in1 (ret Value.none) _ _ s'
    have hkp' := keepM hm hkp
    have pm' : L.Perm ks := by rw [hn, List.take_length] at pm; exact pm
    exact wpAny_pure (hR s' L es ep t (hm.mono hsub) (hS.keep (fun o e => hm.heap S o hSw e) fun p hp => isRow_keep (hk p (sub pm p hp)) (hkp' p.1)) pm' hkp')
  | succ k ih =>
    intro i s hk' hi hst hkp ⟨L, es, ep, t, hS, pm⟩ hR
    have hlt : i < n := by omega
    refine codeAny_builtin F.entry_set_update_loop ?_
    rw [Around.under_plainId F.plain_set_update_loop _]
    show wpAny _ A.in1 (pyNext (.ref I) >>= _) _ _ s
    refine wpAny_bind (W.item i s _ _ hlt hst fun v s' hP hst' hm => ?_)
    obtain ⟨p, hp, rfl⟩ := hval i v hP
    have hkp' := keepM hm hkp
    have hS' : SetR P w s'.heap S L es ep t := hS.keep (fun o e => hm.heap S o hSw e) fun q hq => isRow_keep (hk q (sub pm q hq)) (hkp' q.1)
    have hx : IsRow P w s'.heap p.2 p.1 := isRow_keep (hk p (List.mem_of_getElem? hp)) (hkp' p.1)
    have hnew : ∀ q ∈ L, q.2 ≠ p.2 := fun q hq e => by
      have h1 := pm.mem_iff.mp hq
      obtain ⟨j, hj, ej⟩ := List.mem_iff_getElem.mp h1
      rw [List.length_take] at hj
      rw [List.getElem_take] at ej
      obtain ⟨hi2, ei⟩ := List.getElem?_eq_some_iff.mp hp
      have hji : j < i := by omega
      have hjl : j < ks.length := by omega
      have := List.pairwise_iff_getElem.mp nd j i (by rw [List.length_map]; exact hjl) (by rw [List.length_map]; exact hi2) hji
      rw [List.getElem_map, List.getElem_map, ej, ei] at this
      exact this e
    have hLl : L.length ≤ i := by rw [pm.length_eq, List.length_take]; omega
    show wpAny _ A.in1 (holding [Value.ref p.1] (setAdd S (.ref p.1)) >>= _) _ _ s'
    refine wpAny_bind (wpAny_holding ?_)
    unfold setAdd
    refine wpAny_holding ?_
    refine wpAny_bind (wpAny_pyHash_tuple hu hx ?_)
    refine add_row (s := { s' with toks := s'.toks + ((rk p.2).length + 1) }) hS' hx hu hnew (by omega) fun b h' L' es' ep' t' hsb hS2 pm2 => ?_
    have pm' : L'.Perm (ks.take (i + 1)) := by
      rw [List.take_succ, hp]
      refine pm2.trans ((List.Perm.cons _ pm).trans ?_)
      exact (List.perm_append_singleton p (ks.take i)).symm
    have hkp2 : ∀ b o, h0.get? b = some o → h'.get? b = some o := fun b o e => (hsb.2 b (fun z => by rw [z, hS0] at e; cases e)).trans (hkp' b o e)
    refine wpAny_pure ⟨plainId_quiet F.plain_set_update_loop _, ih (i + 1) _ (by omega) hlt (W.frame _ s' _ _ hst' (Nat.le_add_right _ _) fun b hb o e => ?_) hkp2 ⟨L', es', ep', t', hS2, pm'⟩ fun s'' L2 es2 ep2 t2 hm'' hS'' g'' hkp'' => ?_⟩
    · rw [hsb.2 b (fun h : b = S => hSf (by rw [← h]; exact hb))]; exact e
    · refine hR s'' L2 es2 ep2 t2 (Moved.trans W.gtrans ((hm.mono hsub).then_heap (Nat.le_add_right _ _) fun b o hb e => ?_) hm'') hS'' g'' hkp''
      rw [hsb.2 b (fun h : b = S => hb (by rw [h]; exact List.mem_cons_self))]; exact e
/-- set(xs), rows all unlike -/
theorem call_set_rows {l : Addr} {items : Array Value} (ks : List (Addr × Row)) {Q : Value → Shared → Prop} (hh : A.handled = none) (hl : s.heap.IsList l items) (hit : items.toList = ks.map fun p => Value.ref p.1)
    (hk : ∀ p ∈ ks, IsRow P w s.heap p.2 p.1) (nd : (ks.map (·.2)).Nodup) (hfew : ks.length < 64) (hu : A.units + 3 < cLine)
    (h : ∀ (h' : Heap) (tk : Nat) L es ep t, SetR P w h' s.heap.objs.size L es ep t → L.Perm ks → (∀ b o, s.heap.get? b = some o → h'.get? b = some o) → Q (.ref s.heap.objs.size) { s with heap := h', toks := tk }) :
    wpAny (model P w) A (call (.type "set") [.ref l]) Q E s := by
  have hisz : items.size = ks.length := by
    have q := congrArg List.length hit
    rw [Array.length_toList, List.length_map] at q
    exact q
  obtain ⟨c, tl, hmro⟩ := F.called_set.mro
  have hmade := F.called_set.made
  have hsub := F.called_set.sub
  refine wpAny_call (codeAny_of_tree ?_)
  show wpAny _ _ (callAny (.type "set") _) _ _ _
  refine wpAny_pure ⟨Code.quiet_builtin _ (by decide +kernel), codeAny_builtin F.entry_type_call ?_⟩
  rw [Around.under_plain (weight_type_call_type "set" [.ref l] []) rfl]
  have h1 := F.called_set.notType
  have h2 := F.called_set.canCreate
  have hct := F.typeCall_set_1 (.ref l)
  repeat (any_goals (first | assumption | wp_step))
  refine codeAny_mono (code_set_led1 (.ref l) (E := E) (Q₁ := fun obj s₁ => obj = .ref s.heap.objs.size ∧ s₁ = { s with heap := s.heap.push { cls := .type "set", dict := none, data := .set #[] 0 (.fresh 0 0 (!w.params.followText "set-order")) } }) ⟨rfl, rfl⟩) fun r s₁ hr => ?_
  cases r with
  | error e => exact hr
  | ok fl =>
    cases fl with
    | ret obj =>
      obtain ⟨rfl, rfl⟩ := hr
      have hS : (s.heap.push { cls := .type "set", dict := none, data := .set #[] 0 (.fresh 0 0 (!w.params.followText "set-order")) }).get? s.heap.objs.size = some { cls := .type "set", dict := none, data := .set #[] 0 (.fresh 0 0 (!w.params.followText "set-order")) } := Heap.get?_push_size _ rfl
      have hT : Shared.TypeIs { s with heap := s.heap.push { cls := .type "set", dict := none, data := .set #[] 0 (.fresh 0 0 (!w.params.followText "set-order")) } } (.ref s.heap.objs.size) "set" := ⟨_, hS, rfl⟩
      have hli := F.called_set.init.lookup
      have hbi := F.called_set.init.bind (.ref s.heap.objs.size)
      repeat (any_goals (first | assumption | wp_step))
      refine codeAny_mono (codeAny_call_builtin (R := wants (fun r s₂ => r = .none ∧ ∃ h' tk L es ep t, s₂ = { s with heap := h', toks := tk } ∧ SetR P w h' s.heap.objs.size L es ep t ∧ L.Perm ks ∧
          (∀ b o, s.heap.get? b = some o → h'.get? b = some o)) E) F.called_set.init.plain F.entry_set_init (check_set_init_1 hT ?_)) fun r₂ s₂ hr₂ => ?_
      · obtain ⟨ol, hol, hcl, nl, hdl⟩ := hl
        obtain ⟨ocls, odict, odata, oslots⟩ := ol
        simp only at hcl hdl
        subst hcl; subst hdl
        have hol' : (s.heap.push { cls := .type "set", dict := none, data := .set #[] 0 (.fresh 0 0 (!w.params.followText "set-order")) }).get? l = some { cls := .type "list", dict := odict, data := .seq items nl, slots := oslots } := Heap.get?_push_of_some _ hol
        have hsls := F.sub_list_set
        have hslf := F.sub_list_frozenset
        have hne : (Value.type "list" == Value.type "dict") = false := by decide
        have hl1 : (s.heap.push { cls := .type "set", dict := none, data := .set #[] 0 (.fresh 0 0 (!w.params.followText "set-order")) }).IsList l items := ⟨_, hol', rfl, nl, rfl⟩
        unfold Builtin.«set.__init__» noKeywords Builtin.Frozenset.updateFrom
        generalize hPI : pyIter = PI
        wp_walk
        subst hPI
        refine wpAny_pyIter_list hl1 ?_
        refine wpAny_bind (wpAny_runValue ?_)
        have hlS : l < s.heap.objs.size := Heap.lt_size hol
        have hh3 : A.in1.in1.in1.handled = none := by simp [hh]
        have hz1 : (s.heap.push { cls := .type "set", dict := none, data := .set #[] 0 (.fresh 0 0 (!w.params.followText "set-order")) }).objs.size = s.heap.objs.size + 1 := Heap.size_push ..
        have hneI : l ≠ (s.heap.push { cls := .type "set", dict := none, data := .set #[] 0 (.fresh 0 0 (!w.params.followText "set-order")) }).objs.size := by
          rw [Heap.size_push]; exact Nat.ne_of_lt (Nat.lt_succ_of_lt hlS)
        have hSf : s.heap.objs.size ∉ [(s.heap.push { cls := .type "set", dict := none, data := .set #[] 0 (.fresh 0 0 (!w.params.followText "set-order")) }).objs.size, l] := by
          rw [Heap.size_push]; simp only [List.mem_cons, List.mem_singleton, List.not_mem_nil, or_false, not_or]
          exact ⟨Nat.ne_of_lt (Nat.lt_succ_self _), Nat.ne_of_gt hlS⟩
        have hval : ∀ (i : Nat) (v : Value), items[i]? = some v → ∃ p, ks[i]? = some p ∧ v = .ref p.1 := fun i v hv => by
          have q : items.toList[i]? = some v := by rw [Array.getElem?_toList]; exact hv
          rw [hit, List.getElem?_map] at q
          cases hq : ks[i]? with
          | none => rw [hq] at q; cases q
          | some p =>
            rw [hq] at q
            exact ⟨p, rfl, (Option.some.inj q).symm⟩
        have none_of : ∀ b, s.heap.objs.size ≤ b → s.heap.get? b = none := fun b hb => by
          cases q : s.heap.get? b with
          | none => rfl
          | some o => exact absurd (Nat.lt_of_lt_of_le (Heap.lt_size q) hb) (Nat.lt_irrefl _)
        refine upd_rows ((Walks.list hh3 _ l hneI items).toS) s.heap.objs.size
          hSf ks nd hisz hfew hval s.heap hk (none_of _ (Nat.le_refl _)) (fun b hb => none_of b (by
            rw [List.mem_singleton.mp hb, Heap.size_push]
            exact Nat.le_succ _)) hu (items.size - 0) 0 _ (by omega) (Nat.zero_le _)
          ⟨⟨_, Heap.get?_push_size _ rfl, rfl, rfl⟩, (hl1.push _)⟩ (fun b o e => Heap.get?_push_of_some _ (Heap.get?_push_of_some _ e)) ?hS0 ?hR
        case hS0 =>
          have hget : ((s.heap.push { cls := .type "set", dict := none, data := .set #[] 0 (.fresh 0 0 (!w.params.followText "set-order")) }).push { cls := .type "list_iterator", data := .fields #[.ref l, .int 0 0] }).get? s.heap.objs.size
              = some { cls := .type "set", dict := none, data := .set #[] 0 (.fresh 0 0 (!w.params.followText "set-order")) } := Heap.get?_push_of_some _ hS
          exact ⟨[], #[], 0, _, setR_fresh hget, List.Perm.nil⟩
        case hR =>
          intro s' L es ep t hm hS' g' hkp
          obtain ⟨h', g2, d', tk', os'⟩ := s'
          have eg : g2 = s.gens := hm.gens
          have ed : d' = s.drawn := hm.drawn
          have eo : os' = s.os := hm.os
          subst eg; subst ed; subst eo
          show wpAny _ _ _ _ _ _
          refine wpAny_pure ?_
          show wpAny _ _ (ret Value.none) _ _ _
          exact wpAny_pure ⟨rfl, h', tk', L, es, ep, t, rfl, hS', g', hkp⟩
      · cases r₂ with
        | error e => exact hr₂
        | ok fl₂ =>
          cases fl₂ with
          | ret r =>
            obtain ⟨rfl, h', tk, L, es, ep, t, rfl, hS', g', hk'⟩ := hr₂
            repeat (any_goals (first | assumption | wp_step))
            exact h _ _ _ _ _ _ hS' g' hk'
          | _ => exact hr₂.elim
    | _ => exact hr.elim
end
end K14
end

-- K14Set5
section
set_option maxRecDepth 100000
set_option maxHeartbeats 4000000
/-! set(rows), sorted(set(rows)): the rules -/
namespace K14
open PySem PySem.Spec PyProof.Rows L2
open PySem.W (Frag dataLe)
section
variable {P : Program} {w : World} {A : Around} {E : Value → Shared → Prop} {s : Shared}
theorem row_reads {h : Heap} {r : Row} {b : Addr} (x : IsRow P w h r b) : Reads h (.ref b) (rowD r) [] := by
  obtain ⟨o, items, n, t1, t2, t3, ho, hc, hd, hl⟩ := row_list x
  exact .tuple (as := []) ho hc hd (by rw [hl]; exact .cons (.str _ _) (.cons (.str _ _) (.cons (.int _ _) .nil)))
def Sits (L : List (Addr × Row)) (v : Value) (p : Addr × Row) : Prop := v = .ref p.1 ∧ p ∈ L
theorem sits_of {L : List (Addr × Row)} : ∀ {vs : List Value}, (∀ v ∈ vs, ∃ q ∈ L, v = Value.ref q.1) → ∃ L1 : List (Addr × Row), vs = L1.map (fun q => Value.ref q.1) ∧ (∀ q ∈ L1, q ∈ L) ∧ PySem.W.EachIs (Sits L) vs L1 := by
  intro vs
  induction vs with
  | nil => intro _; exact ⟨[], rfl, fun q hq => (by cases hq), .nil⟩
  | cons v vs ih =>
    intro hv
    obtain ⟨q, hq, e⟩ := hv v List.mem_cons_self
    obtain ⟨L1, e1, hs, he⟩ := ih fun u hu => hv u (List.mem_cons_of_mem _ hu)
    refine ⟨q :: L1, by rw [List.map_cons, e, e1], fun r hr => ?_, .cons ⟨e, hq⟩ he⟩
    rcases List.mem_cons.mp hr with z | z
    · rw [z]; exact hq
    · exact hs r z
theorem sits_refs {L : List (Addr × Row)} : ∀ {vs : List Value} {bs : List (Addr × Row)}, PySem.W.EachIs (Sits L) vs bs → vs = bs.map fun q => Value.ref q.1
  | _, _, .nil => rfl
  | _, _, .cons h t => by rw [List.map_cons, h.1, sits_refs t]
/-- sorted(s), s a set of rows with names all unlike -/
theorem sorted_setR {a : Addr} {L : List (Addr × Row)} {es : Array (Int × Value)} {ep : Nat} {t : SetTable} {Q : Value → Shared → Prop} (R : SetR P w s.heap a L es ep t) (nd : (L.map fun p => p.2.1).Nodup) (hh : A.handled = none) (hu : A.units + 16 < cLine)
    (hQ : ∀ s' p (out : Array Value) (c : Nat) (L' : List (Addr × Row)), (∀ b o, s.heap.get? b = some o → s'.heap.get? b = some o) → s'.gens = s.gens → s'.os = s.os → s.heap.objs.size ≤ p →
      s'.heap.get? p = some (seqObj "list" out c) → out.toList = L'.map (fun q => Value.ref q.1) → L'.Perm L → L'.Pairwise (fun q r => nlt q.2.1 r.2.1) → Q (.ref p) s') :
    wpAny (model P w) A (call (.builtin "sorted") [.ref a]) Q E s := by
  obtain ⟨o, ho, hex, hd⟩ := R.ob
  have hsz := R.size
  have hfew := R.few
  refine Calls.call_function_entry kind_sorted plain_sorted entry_sorted (args_sorted1 _) ?_
  unfold Builtin.«sorted»
  refine wpAny_bind (m := checkCount "sorted" 1 1 _) (wpAny_pure ?_)
  refine wpAny_bind (collect_set (A := A.in1) hh ⟨o, ho, hex.1, hd⟩ R.fits (by unfold scanBound; omega) R.tab.ris R.led fun s1 vs k1 hz g1 o1 pm => ?_)
  have hes : es.toList.map (·.2) = L.map fun q => Value.ref q.1 := by
    rw [R.rows, List.map_map] <;> rfl
  rw [hes] at pm
  have one : ∀ q ∈ L, ∀ r ∈ L, q.1 = r.1 → q = r := fun q hq r hr e => by
    have a1 := R.isr q hq
    have a2 := R.isr r hr
    rw [e] at a1
    exact Prod.ext e (rk_inj (a1.inj a2))
  obtain ⟨L1, e1, hs1, st⟩ := sits_of (L := L) (vs := vs) fun v hv => by
    obtain ⟨q, hq, e⟩ := List.mem_map.mp (pm.mem_iff.mp hv)
    exact ⟨q, hq, e.symm⟩
  have nL : L.Nodup := nodup_of_map nd
  have p1 : L1.Perm L := by
    have nref : (L.map fun q => Value.ref q.1).Nodup := by
      refine List.pairwise_map.mpr (List.Pairwise.imp_of_mem (fun {q r} hq hr hne e => ?_) nL)
      injection e with e
      exact hne (one q hq r hr e)
    rw [e1] at pm
    have n1 : L1.Nodup := nodup_of_map (pm.nodup_iff.mpr nref)
    refine (List.perm_ext_iff_of_nodup n1 nL).mpr fun q => ⟨hs1 q, fun hq => ?_⟩
    have hm : Value.ref q.1 ∈ L1.map (fun q => Value.ref q.1) := pm.mem_iff.mpr (List.mem_map.mpr ⟨q, hq, rfl⟩)
    obtain ⟨r, hr, e⟩ := List.mem_map.mp hm
    injection e with e
    rw [← one r (hs1 r hr) q hq e]
    exact hr
  have hl1 : L1.length < 64 := by rw [p1.length_eq]; exact hfew
  have hvl : vs.length < 64 := by rw [e1, List.length_map]; exact hl1
  refine wpAny_bind (wpAny_newList ?_ (by rw [sizeLine_eq]; omega))
  have hoL : (s1.heap.push (seqObj "list" vs.toArray 0)).get? s1.heap.objs.size = some (seqObj "list" vs.toArray 0) := Heap.get?_push_size _ rfl
  have rd : PySem.W.EachIs (fun v (b : Addr × Row) => ∃ as, Reads (s1.heap.push (seqObj "list" vs.toArray 0)) v (rowD b.2) as ∧ s1.heap.objs.size ∉ as) vs L1 := st.mono fun v p ⟨e, hp⟩ => by
    refine ⟨[], ?_, fun z => nomatch z⟩
    rw [e]
    exact row_reads (P := P) (w := w) (isRow_keep (R.isr p hp) fun u q => Heap.get?_push_of_some _ (k1 _ u q))
  refine wpAny_bind (wpAny_holding (PySem.W.list_sort_data (s := { s1 with heap := s1.heap.push (seqObj "list" vs.toArray 0) }) (enc := fun p : Addr × Row => rowD p.2) hoL st rd (PySem.W.AllAlike.of fun b b' => by simp [rowD, PySem.W.alike, PySem.W.alikeAll]) (PySem.W.Sortable.tuples fun b => ⟨_, _, rfl⟩) (by rw [sizeLine_eq]; omega)
    (fun b _ => by
      have : (rowD b.2).depth ≤ 2 := by
        unfold rowD
        simp [PyData.depth, PyData.depthAll]
      show A.units + 1 + 1 + (rowD b.2).depth < cLine
      omega) fun out ho2 ho3 => ?_))
  have nd1 : (L1.map fun p => p.2.1).Nodup := (p1.map (fun p => p.2.1)).nodup_iff.mpr nd
  obtain ⟨a1, a2⟩ := sort_named (k := fun p : Addr × Row => p.2.1) (rest := fun p => [.str p.2.2.1, .int p.2.2.2]) nd1
  obtain ⟨c, hc⟩ := sortedHeap_at (vs := vs) (out := out.toArray) hoL
  refine wpAny_pure ⟨_, rfl, hQ _ s1.heap.objs.size out.toArray c _ (fun b u e => ?_) g1 o1 hz hc (by rw [List.toList_toArray]; exact sits_refs ho3) (a1.trans p1) a2⟩
  have q := k1 b u e
  have hlt := Heap.lt_size q
  show (sortedHeap (s1.heap.push (seqObj "list" vs.toArray 0)) s1.heap.objs.size vs out.toArray).get? b = some u
  rw [sortedHeap_old (Nat.ne_of_lt hlt) (by rw [size_push']; exact Nat.lt_succ_of_lt hlt)]
  exact Heap.get?_push_of_some _ q
end
/-- a set of rows, without the rows themselves -/
def SetR0 (P : Program) (w : World) (h : Heap) (a : Addr) (L : List (Addr × Row)) : Prop := ∃ (es : Array (Int × Value)) (ep : Nat) (t : SetTable), (∃ o, h.get? a = some o ∧ o.ExactSet ∧ o.data = .set es ep t) ∧ es.toList = L.map (ent P w) ∧ TabOk t (L.map fun p => rh P w p.2) ∧
  (w.params.followText "set-order" = true ∨ t.led = true) ∧ L.length * 5 < t.mask * 3 ∧ L.length < 64
def SetRO (P : Program) (w : World) (a : Addr) (L : List (Addr × Row)) : HO := .ext fun h => SetR0 P w h a L
section
variable {P : Program} {w : World}
theorem SetR.bare {h : Heap} {a : Addr} {L : List (Addr × Row)} {es : Array (Int × Value)} {ep : Nat} {t : SetTable} (R : SetR P w h a L es ep t) : SetR0 P w h a L := ⟨es, ep, t, R.ob, R.rows, R.tab, R.led, R.room, R.few⟩
theorem SetR0.full {h : Heap} {a : Addr} {L : List (Addr × Row)} (R : SetR0 P w h a L) (ht : ∀ p ∈ L, IsRow P w h p.2 p.1) : ∃ es ep t, SetR P w h a L es ep t := by
  obtain ⟨es, ep, t, h1, h2, h3, h4, h5, h6⟩ := R
  exact ⟨es, ep, t, h1, h2, h3, ht, h4, h5, h6⟩
theorem setRO_new {H : Hp} {h : Heap} {a : Addr} {L : List (Addr × Row)} (R : SetR0 P w h a L) : ObjOk P w H h a (SetRO P w a L) := by
  have ⟨es, ep, t, ⟨o, ho, r⟩, q⟩ := R
  refine ⟨R, ⟨o, ho⟩, fun h1 h2 p k => ?_⟩
  have ⟨es', ep', t', ⟨o', ho', r'⟩, q'⟩ := p
  exact ⟨es', ep', t', ⟨o', k o' ho', r'⟩, q'⟩
end
section
variable {X : Cx}
theorem isRow_inv {pins : List (Addr × Obj)} {σ : L2.St} {H : Hp} {s : Shared} {b : Addr} {r : Row} (I : Inv X pins σ H s) (h : RowAt H (.ref b) r) : IsRow X.prog X.w s.heap r b := by
  obtain ⟨p, e, hp⟩ := h
  cases e
  obtain ⟨its, rv, ⟨o, ho, hc, n, hd⟩, _⟩ := I.tuple (SqT.of hp)
  refine ⟨o, its.toArray, n, ho, hc, hd, ?_⟩
  cases rv with
  | cons r1 rv =>
    cases rv with
    | cons r2 rv =>
      cases rv with
      | cons r3 rv =>
        cases rv
        obtain ⟨t1, rfl⟩ := r1
        obtain ⟨t2, rfl⟩ := r2
        obtain ⟨t3, rfl⟩ := r3
        refine .cons ?_ (.cons ?_ (.cons ?_ .nil))
        · exact beq_iff_eq.mpr rfl
        · exact beq_iff_eq.mpr rfl
        · exact beq_iff_eq.mpr rfl
def rSetR (K : Frag) (P : Program) (w : World) : List V → Hp → VK → Prop := fun vs H Q => ∃ (l : Addr) (ks : List (Addr × Row)), vs = [V.ref l] ∧ SqL K H l (ks.map fun p => V.ref p.1) ∧ (∀ p ∈ ks, RowAt H (.ref p.1) p.2) ∧ (ks.map (·.2)).Nodup ∧ ks.length < 64 ∧
  ∀ a L, H a = none → L.Perm ks → Q (.ref a) (upd H a (SetRO P w a L))
theorem cr_setR (hc : X.calm = true) (hu : X.A.units + 64 < cLine) : CallR X (.type "set") (rSetR X.K X.prog X.w) := by
  intro pins s σ H vs us Q I r h
  obtain ⟨l, ks, rfl, hl, hk, nd, hf, q⟩ := h
  rw [Vals.ref1 r]
  obtain ⟨its, rv, pl, hz⟩ := I.list hl
  have hn : H s.heap.objs.size = none := I.hok.fresh (Nat.le_refl _)
  have refs : ∀ {ks : List (Addr × Row)} {us : List Value}, Vals (ks.map fun p => V.ref p.1) us → us = ks.map fun p => Value.ref p.1 := by
    intro ks
    induction ks with
    | nil => intro us h; cases h; rfl
    | cons p ks ih =>
      intro us h
      cases h with
      | cons r t =>
        cases r
        rw [ih t] <;> rfl
  refine call_set_rows (P := X.prog) (w := X.w) ks (I.ok.hd hc) pl.isList (by simpa using refs rv) (fun p hp => isRow_inv I (hk p hp)) nd hf (by omega) fun h' tk L es ep t R g k => ?_
  exact ⟨.ref s.heap.objs.size, upd H s.heap.objs.size (SetRO X.prog X.w s.heap.objs.size L), I.laid (t' := tk) k (Nat.le_refl _) (setRO_new R.bare), rfl, q _ L hn g⟩
def rSortS (P : Program) (w : World) : List V → Hp → VK → Prop := fun vs H Q => ∃ (a : Addr) (L : List (Addr × Row)), vs = [V.ref a] ∧ H a = some (SetRO P w a L) ∧ (∀ p ∈ L, RowAt H (.ref p.1) p.2) ∧ (L.map fun p => p.2.1).Nodup ∧
  ∀ (L' : List (Addr × Row)) (p : Addr), L'.Perm L → L'.Pairwise (fun q r => nlt q.2.1 r.2.1) → H p = none → Q (.ref p) (upd H p (.lst (L'.map fun q => V.ref q.1)))
theorem cr_sortS (hc : X.calm = true) (hu : X.A.units + 64 < cLine) : CallR X (.builtin "sorted") (rSortS X.prog X.w) := by
  intro pins s σ H vs us Q I r h
  obtain ⟨a, L, rfl, ha, hk, nd, q⟩ := h
  have R0 : SetR0 X.prog X.w s.heap a L := (I.hok a _ ha).1
  obtain ⟨es, ep, t, R⟩ := R0.full fun p hp => isRow_inv I (hk p hp)
  rw [Vals.ref1 r]
  refine sorted_setR R nd (I.ok.hd hc) (by omega) fun s' p out c L' k g o hp hg hout pm pw => ?_
  have hfew : L'.length < 64 := by rw [pm.length_eq]; exact R.few
  have hlen : (L'.map fun q => V.ref q.1).length ≤ sizeLine := by rw [List.length_map, sizeLine_eq]; omega
  have hn : H p = none := I.hok.fresh hp
  have back : ∀ L : List (Addr × Row), Vals (L.map fun q => V.ref q.1) (L.map fun q => Value.ref q.1) := by
    intro L
    induction L with
    | nil => exact .nil
    | cons p L ih => exact .cons rfl ih
  have hv : Vals (L'.map fun q => V.ref q.1) out.toList := by rw [hout]; exact back L'
  have J : Inv X pins σ (upd H p (.lst (L'.map fun q => V.ref q.1))) { s with heap := s'.heap, gens := s'.gens, drawn := s'.drawn, toks := s'.toks } :=
    I.call (ch := []) (Un.laid k hp hn) (I.hok.laid k hp ⟨hlen, out.toList, c, hv, hg⟩) (by rw [g]; exact I.bare) (fun _ z => nomatch z)
  have e : s' = { s with heap := s'.heap, gens := s'.gens, drawn := s'.drawn, toks := s'.toks } := by
    cases s'
    cases s
    cases o
    rfl
  rw [e]
  exact ⟨.ref p, _, J, rfl, q L' p pm pw hn⟩
end
end K14
end

-- K14Add
section
set_option maxRecDepth 100000
set_option maxHeartbeats 2000000
/-! a tree with one row more -/
namespace K14
open PySem PySem.Spec PyProof.Rows L2
open PySem.W (Frag)
def spAdd (C C2 : Addr) : Sp := fun vs H Q E => ∃ (a : Addr) (R : List Row) (x : V) (r : Row), vs = [.ref a, x] ∧ TreeAt C H a R ∧ TreeOk R ∧ RowAt H x r ∧ NameOk r.1 ∧ (NameOk r.2.1 ∨ r.2.1 = eS) ∧ 0 ≤ r.2.2 ∧ r.2.2 < roomLine ∧ R.length < 60 ∧
  (Fits r R → ∀ H' b, Same H H' → H b = none → TreeAt C H' b (ins r R) → Q (.ref b) H') ∧ (¬ Fits r R → Told C2 H E (.str "row") (.int (-1)))
/-- the addresses of the rows beside the rows -/
theorem rows_refs {H : Hp} : ∀ {xs : List V} {R : List Row}, Rows H xs R → ∃ L : List (Addr × Row), xs = L.map (fun p => V.ref p.1) ∧ L.map (·.2) = R ∧ ∀ p ∈ L, RowAt H (.ref p.1) p.2
  | _, _, .nil => ⟨[], rfl, rfl, fun _ z => nomatch z⟩
  | x :: xs, r :: R, .cons h t => by
    obtain ⟨L, e1, e2, e3⟩ := rows_refs t
    obtain ⟨p, e, hp⟩ := id h
    subst e
    refine ⟨(p, r) :: L, by rw [e1] <;> rfl, by rw [List.map_cons, e2], fun q hq => ?_⟩
    rcases List.mem_cons.mp hq with z | z
    · rw [z]; exact h
    · exact e3 q z
theorem refs_rows {H : Hp} : ∀ {L : List (Addr × Row)}, (∀ p ∈ L, RowAt H (.ref p.1) p.2) → Rows H (L.map fun p => V.ref p.1) (L.map (·.2))
  | [], _ => .nil
  | p :: L, h => .cons (h p List.mem_cons_self) (refs_rows fun q hq => h q (List.mem_cons_of_mem _ hq))
section
variable {P : Program} {w : World} {K : Frag} {mg : Str → Option Value} {base : Heap} {f fi : Addr} {fd : FuncData} {C C2 : Addr}
theorem sc_add : FnScope ["self", "row", "rows"] ["self", "row"] (defScope (sT 6)) := ⟨rfl, rfl, rfl, by decide +kernel, rfl, by decide +kernel, by decide +kernel⟩
theorem ok_add (F : FnM K "__add__" 6 f fd) (T : Txt mg) (TT : TrTxt K mg C fi) (Fi : FnR P w K mg base CX0 5 fi (spInitR C)) (Di : Dn P w K mg base CX0 3 "is_folder" [] spIsFolder) (Do : Dn P w K mg base CX0 2 "is_folder_of" [] spIsOf)
    (Dw : Dn P w K mg base (L2.CX P w) 1 "want" [.int (-1)] (spWant C2)) : FnOk P w K mg base (L2.CX P w) 7 f fd ["self", "row"] (spAdd C C2) := by
  refine F.ok sc_add (fun vs H Q E h => ?_) (fun cdv A outer s H vs Q E hr h => ?_)
  · obtain ⟨a, R, x, r, rfl, _⟩ := h
    rfl
  · have nd := sc_add.nd
    have hu := hu_of hr
    obtain ⟨a, R, x, r, rfl, ⟨dx, t, n, ha, ht, hn⟩, TR, hx, n1, n2, h0, h1, hfew, k1, k2⟩ := h
    refine ⟨_, pss_cons (ps_expr (pe_d Dw hr (by decide) rfl (passes_call (E := E) (takes_of rfl rfl rfl rfl) (fun _ _ _ _ h => h)) (pa_cons
          (pe_and (pe_d Di (E := fun _ _ _ => False) hr (by decide) rfl pass0 (pa_cons (pv 1) pa_nil))
            (pe_one (pe_not (pe_d Do (E := fun _ _ _ => False) hr (by decide) rfl pass0 (pa_cons (pe_fld (pv 0) rfl) (pa_cons (pe_ix ix_tup (pv 1) pe_int (fun _ _ => rfl)) pa_nil))))))
          (pa_cons pe_str pa_nil))))
      (pss_cons (ps_expr (pe_d Dw hr (by decide) rfl (passes_call (E := E) (takes_of rfl rfl rfl rfl) (fun _ _ _ _ h => h)) (pa_cons
          (pe_or (pe_cmpR op_eq (pe_ix ix_tup (pv 1) pe_int (fun _ _ => rfl)) pe_str (nomark _))
            (pe_one (pe_d Do (E := fun _ _ _ => False) hr (by decide) rfl pass0 (pa_cons (pe_fld (pv 0) rfl) (pa_cons (pe_ix ix_tup (pv 1) pe_int (fun _ _ => rfl)) pa_nil)))))
          (pa_cons pe_str pa_nil))))
      (pss_cons (ps_set (i := 2) nd rfl (.inl rfl) (pe_callB (cr_sortS rfl hr.units) rfl T.sorted PyProof.Rows.boot_sorted (pa_cons (pe_callTy (cr_setR rfl hr.units) rfl T.set PyProof.Rows.boot_set (pa_cons
          (pe_op op_cat (pe_lst (pa_cons (pv 1) pa_nil)) (pe_callTy call_list_of rfl T.list PyProof.Rows.boot_list (pa_cons (pe_fld (pv 0) rfl) pa_nil))) pa_nil)) pa_nil)))
      (pss_one (ps_ret (pe_makeS TT.mak Fi hr pass0 (pe_glob (v := .ref C) rfl TT.gC rfl) (pv 2)))))), ?_⟩
    obtain ⟨p, ep, hp⟩ := id hx
    subst ep
    refine ⟨_, rfl, _, r, rfl, hx, n1, n2, h0, fun H1 s1 => ⟨_, rfl, ?_⟩⟩
    by_cases e1 : r.1 = r.2.1
    · rw [show decide (r.1 ≠ r.2.1) = false by simp [e1]]
      exact iteF ⟨false, .str "row", .int (-1), rfl, (fun z => nomatch z), fun _ => (k2 fun z => z.self e1).of s1⟩
    · rw [show decide (r.1 ≠ r.2.1) = true by simp [e1]]
      refine iteT ⟨_, rfl, a, C, dx, _, _, rfl, s1 a _ ha, TT.cls, TT.noT, rfl, _, rfl, p, _, 0, _, rfl, rfl, SqT.of (s1 p _ hp), rfl, t, R, r.1, rfl, ht.sm s1, TR.few, fun H2 s2 => ?_⟩
      have s12 := s1.trans s2
      refine ⟨_, rfl, !decide (r.1 ∈ names R), .str "row", .int (-1), rfl, fun hb => ?_, fun hb => (k2 fun z => ?_).of s12⟩
      · have e2 : r.1 ∉ names R := fun z => by rw [decide_eq_true z] at hb; cases hb
        refine ⟨_, rfl, p, _, 1, _, rfl, rfl, SqT.of (s12 p _ hp), rfl, rfl, _, rfl, ?_⟩
        by_cases e3 : r.2.1 = eS
        · have e5 : r.2.1 = eS ∨ r.2.1 ∈ names R := .inl e3
          rw [show decide (V.str r.2.1 = V.str "") = true by rw [e3]; exact decide_eq_true rfl]
          refine iteT ⟨true, .str "row", .int (-1), rfl, fun _ => ?_, fun z => nomatch z⟩
          have FT : Fits r R := ⟨e2, e1, e5⟩
          obtain ⟨xs, htx, hxx⟩ := ht.sm s12
          obtain ⟨L0, q1, q2, q3⟩ := rows_refs hxx
          refine ⟨_, rfl, (show (1 : Nat) ≤ sizeLine by decide), fun l hl => ⟨_, rfl, a, C, dx, _, _, rfl, Same.new hl a _ (s12 a _ ha), TT.cls, TT.noT, rfl, t, xs, rfl, .inr (SqT.of (Same.new hl t _ htx)), fun l2 hl2 => ?_⟩⟩
          have hlen : xs.length = R.length := hxx.len
          refine ⟨l, l2, [.ref p], xs, rfl, rfl, Same.new hl2 l _ upd_same, upd_same, ?_, fun p3 hp3 => ?_⟩
          · rw [hlen]
            exact Nat.le_trans (show [V.ref p].length + R.length ≤ 100 by simp only [List.length_singleton]; omega) (by decide)
          have s5 := (Same.new (o := .lst [.ref p]) hl).trans ((Same.new (o := .lst xs) hl2).trans (Same.new (o := .lst ([.ref p] ++ xs)) hp3))
          have nin : r ∉ R := fun z => e2 (mem_names z)
          have nd0 : ((r :: R).map (·.1)).Nodup := by
            rw [List.map_cons]
            exact List.nodup_cons.mpr ⟨e2, TR.nodup⟩
          have rw0 : ∀ q ∈ (p, r) :: L0, RowAt H2 (.ref q.1) q.2 := fun q hq => by
            rcases List.mem_cons.mp hq with z | z
            · rw [z]; exact hx.gr (Gr.of s12)
            · exact q3 q z
          refine ⟨p3, (p, r) :: L0, rfl, SqL.of (by rw [upd_same, q1]; rfl), fun q hq => (rw0 q hq).gr (Gr.of s5), ?_, ?_, fun sa L hsa pm => ?_⟩
          · rw [List.map_cons, q2]
            exact List.nodup_cons.mpr ⟨nin, nodup_of_map TR.nodup⟩
          · have := congrArg List.length q2
            rw [List.length_map] at this
            rw [List.length_cons]
            omega
          have pmr : (L.map (·.2)).Perm (r :: R) := by
            have z := pm.map (·.2)
            rwa [List.map_cons, q2] at z
          have s6 := s5.trans (Same.new (o := SetRO P w sa L) hsa)
          refine ⟨sa, L, rfl, upd_same, fun q hq => (rw0 q (pm.mem_iff.mp hq)).gr (Gr.of s6), ?_, fun L' pl pm2 pw hpl => ?_⟩
          · have z := (pmr.map (·.1)).nodup_iff.mpr nd0
            rwa [List.map_map] at z
          have s7 := s6.trans (Same.new (o := .lst (L'.map fun q => V.ref q.1)) hpl)
          have eR : L'.map (·.2) = ins r R := asc_perm (List.pairwise_map.mpr pw) (ins_asc TR.asc e2) (((pm2.map (·.2)).trans pmr).trans (ins_perm r R).symm)
          have hrow := refs_rows (H := upd _ pl (.lst (L'.map fun q => V.ref q.1))) (L := L') fun q hq => (rw0 q (pm.mem_iff.mp (pm2.mem_iff.mp hq))).gr (Gr.of s7)
          rw [eR] at hrow
          refine ⟨rfl, _, rfl, pl, _, rfl, .inr (SqL.of upd_same), make_tree (R := ins r R) hrow (TR.ins FT n1 ⟨h0, h1⟩ hfew) fun H' b s' hb0 T' => ?_⟩
          have s8 := s12.trans s7
          exact k1 FT H' b (s8.trans s') (Same.free s8 hb0) T'
        · rw [show decide (V.str r.2.1 = V.str "") = false from decide_eq_false fun z => e3 (V.str.inj z)]
          refine iteF ⟨_, rfl, a, C, dx, _, _, rfl, s12 a _ ha, TT.cls, TT.noT, rfl, _, rfl, p, _, 1, _, rfl, rfl, SqT.of (s12 p _ hp), rfl, t, R, r.2.1, rfl, ht.sm s12, TR.few, fun H3 s3 => ?_⟩
          have s13 := s12.trans s3
          refine ⟨decide (r.2.1 ∈ names R), .str "row", .int (-1), rfl, fun hb2 => ?_, fun hb2 => (k2 fun z => ?_).of s13⟩
          rotate_left
          · rcases z.par with y | y
            · exact e3 y
            · rw [decide_eq_true y] at hb2; cases hb2
          have e5 : r.2.1 = eS ∨ r.2.1 ∈ names R := .inr (of_decide_eq_true hb2)
          have FT : Fits r R := ⟨e2, e1, e5⟩
          obtain ⟨xs, htx, hxx⟩ := ht.sm s13
          obtain ⟨L0, q1, q2, q3⟩ := rows_refs hxx
          refine ⟨_, rfl, (show (1 : Nat) ≤ sizeLine by decide), fun l hl => ⟨_, rfl, a, C, dx, _, _, rfl, Same.new hl a _ (s13 a _ ha), TT.cls, TT.noT, rfl, t, xs, rfl, .inr (SqT.of (Same.new hl t _ htx)), fun l2 hl2 => ?_⟩⟩
          have hlen : xs.length = R.length := hxx.len
          refine ⟨l, l2, [.ref p], xs, rfl, rfl, Same.new hl2 l _ upd_same, upd_same, ?_, fun p3 hp3 => ?_⟩
          · rw [hlen]
            exact Nat.le_trans (show [V.ref p].length + R.length ≤ 100 by simp only [List.length_singleton]; omega) (by decide)
          have s5 := (Same.new (o := .lst [.ref p]) hl).trans ((Same.new (o := .lst xs) hl2).trans (Same.new (o := .lst ([.ref p] ++ xs)) hp3))
          have nin : r ∉ R := fun z => e2 (mem_names z)
          have nd0 : ((r :: R).map (·.1)).Nodup := by
            rw [List.map_cons]
            exact List.nodup_cons.mpr ⟨e2, TR.nodup⟩
          have rw0 : ∀ q ∈ (p, r) :: L0, RowAt H3 (.ref q.1) q.2 := fun q hq => by
            rcases List.mem_cons.mp hq with z | z
            · rw [z]; exact hx.gr (Gr.of s13)
            · exact q3 q z
          refine ⟨p3, (p, r) :: L0, rfl, SqL.of (by rw [upd_same, q1]; rfl), fun q hq => (rw0 q hq).gr (Gr.of s5), ?_, ?_, fun sa L hsa pm => ?_⟩
          · rw [List.map_cons, q2]
            exact List.nodup_cons.mpr ⟨nin, nodup_of_map TR.nodup⟩
          · have := congrArg List.length q2
            rw [List.length_map] at this
            rw [List.length_cons]
            omega
          have pmr : (L.map (·.2)).Perm (r :: R) := by
            have z := pm.map (·.2)
            rwa [List.map_cons, q2] at z
          have s6 := s5.trans (Same.new (o := SetRO P w sa L) hsa)
          refine ⟨sa, L, rfl, upd_same, fun q hq => (rw0 q (pm.mem_iff.mp hq)).gr (Gr.of s6), ?_, fun L' pl pm2 pw hpl => ?_⟩
          · have z := (pmr.map (·.1)).nodup_iff.mpr nd0
            rwa [List.map_map] at z
          have s7 := s6.trans (Same.new (o := .lst (L'.map fun q => V.ref q.1)) hpl)
          have eR : L'.map (·.2) = ins r R := asc_perm (List.pairwise_map.mpr pw) (ins_asc TR.asc e2) (((pm2.map (·.2)).trans pmr).trans (ins_perm r R).symm)
          have hrow := refs_rows (H := upd _ pl (.lst (L'.map fun q => V.ref q.1))) (L := L') fun q hq => (rw0 q (pm.mem_iff.mp (pm2.mem_iff.mp hq))).gr (Gr.of s7)
          rw [eR] at hrow
          refine ⟨rfl, _, rfl, pl, _, rfl, .inr (SqL.of upd_same), make_tree (R := ins r R) hrow (TR.ins FT n1 ⟨h0, h1⟩ hfew) fun H' b s' hb0 T' => ?_⟩
          have s8 := s13.trans s7
          exact k1 FT H' b (s8.trans s') (Same.free s8 hb0) T'
      · rw [decide_eq_false z.new] at hb; cases hb
end
end K14
end

-- K14Pull
section
set_option maxRecDepth 100000
set_option maxHeartbeats 2000000
/-! the spool of draws -/
namespace K14
open PySem PySem.Spec PyProof.Rows L2
open PySem.W (Frag)
abbrev zs (is : List Int) : List V := is.map V.int
def spD (c : Addr) (n r t : Int) : List (Key × V) := [(.inr "cells", .ref c), (.inr "next", .int n), (.inr "rest", .int r), (.inr "turn", .int t)]
def SpoolAt (H : Hp) (sp c : Addr) : Prop := ∃ (is : List Int) (n r t : Int), H sp = some (.dK (spD c n r t)) ∧ H c = some (.lst (zs is)) ∧ 0 ≤ n ∧ is.length ≤ 63
theorem spD_c (c : Addr) (n r t : Int) : valV (spD c n r t) (.inr "cells") = some (.ref c) := by rfl
theorem spD_n (c : Addr) (n r t : Int) : valV (spD c n r t) (.inr "next") = some (.int n) := by rfl
theorem spD_r (c : Addr) (n r t : Int) : valV (spD c n r t) (.inr "rest") = some (.int r) := by rfl
theorem spD_t (c : Addr) (n r t : Int) : valV (spD c n r t) (.inr "turn") = some (.int t) := by rfl
theorem spD_pn (c : Addr) (n r t n' : Int) : putK (spD c n r t) (.inr "next") (.int n') = spD c n' r t := by rfl
theorem spD_pr (c : Addr) (n r t r' : Int) : putK (spD c n r t) (.inr "rest") (.int r') = spD c n r' t := by rfl
theorem spD_pt (c : Addr) (n r t t' : Int) : putK (spD c n r t) (.inr "turn") (.int t') = spD c n r t' := by rfl
def spSpoolK (K : Frag) : Sp := fun vs H Q _ => ∃ (l : Addr) (is : List Int), vs = [.ref l] ∧ SqL K H l (zs is) ∧ is.length ≤ 63 ∧ ∀ H' sp c, Same H H' → H sp = none → SpoolAt H' sp c → Q (.ref sp) H'
def spPull : Sp := fun vs H Q _ => ∃ (sp c : Addr) (m : Int), vs = [.ref sp, .int m] ∧ SpoolAt H sp c ∧ 1 ≤ m ∧ m < 1073741824 ∧ ∀ H' r, Gr H H' → SpoolAt H' sp c → 0 ≤ r → r < m → Q (.int r) H'
theorem gt_c {H : Hp} {sp c : Addr} {n r t : Int} (h : H sp = some (.dK (spD c n r t))) : DGet H sp (.str "cells") (some (.ref c)) := DGet.k (k := .inr "cells") h
theorem gt_n {H : Hp} {sp c : Addr} {n r t : Int} (h : H sp = some (.dK (spD c n r t))) : DGet H sp (.str "next") (some (.int n)) := DGet.k (k := .inr "next") h
theorem gt_r {H : Hp} {sp c : Addr} {n r t : Int} (h : H sp = some (.dK (spD c n r t))) : DGet H sp (.str "rest") (some (.int r)) := DGet.k (k := .inr "rest") h
theorem gt_t {H : Hp} {sp c : Addr} {n r t : Int} (h : H sp = some (.dK (spD c n r t))) : DGet H sp (.str "turn") (some (.int t)) := DGet.k (k := .inr "turn") h
theorem pt_n {H : Hp} {sp c : Addr} {n r t : Int} (h : H sp = some (.dK (spD c n r t))) (n' : Int) : DPut H sp (.str "next") (.int n') (upd H sp (.dK (spD c n' r t))) := DPut.k (k := .inr "next") h (show (4 : Nat) < sizeLine by decide)
theorem pt_r {H : Hp} {sp c : Addr} {n r t : Int} (h : H sp = some (.dK (spD c n r t))) (r' : Int) : DPut H sp (.str "rest") (.int r') (upd H sp (.dK (spD c n r' t))) := DPut.k (k := .inr "rest") h (show (4 : Nat) < sizeLine by decide)
theorem pt_t {H : Hp} {sp c : Addr} {n r t : Int} (h : H sp = some (.dK (spD c n r t))) (t' : Int) : DPut H sp (.str "turn") (.int t') (upd H sp (.dK (spD c n r t'))) := DPut.k (k := .inr "turn") h (show (4 : Nat) < sizeLine by decide)
/-- a dict is changed -/
theorem Gr.dk {H H1 : Hp} {p : Addr} {kvs kvs' : List (Key × V)} (g : Gr H H1) (h : H1 p = some (.dK kvs)) (h0 : ∃ k0, H p = some (.dK k0)) : Gr H (upd H1 p (.dK kvs')) := fun b u e m => by
  by_cases eb : b = p
  · obtain ⟨k0, hk⟩ := h0
    rw [eb, hk] at e
    exact absurd (Option.some.inj e).symm (m k0)
  · rw [upd_ne eb]
    exact g b u e m
theorem dp_ints {K : Frag} {H : Hp} : ∀ is : List Int, DpAll K H (zs is) (is.map .int)
  | [] => .nil
  | i :: is => .cons (.int i) (dp_ints is)
theorem lay_ints : ∀ is : List Int, PyData.canLayAll0 (is.map .int) = true
  | [] => rfl
  | i :: is => by
    have ih := lay_ints is
    simp only [List.map_cons, PyData.canLayAll0, PyData.canLay0, Bool.true_and]
    exact ih
theorem dep_ints : ∀ is : List Int, PyData.depthAll (is.map .int) = 0
  | [] => by simp [PyData.depthAll]
  | i :: is => by
    have ih := dep_ints is
    simp only [List.map_cons, PyData.depthAll, PyData.depth]
    omega
theorem sh_ints (is : List Int) : SeqAt.shaped (.list (is.map .int)) = true := by
  unfold SeqAt.shaped
  rw [show (PyData.list (is.map .int)).canLay0 = true by simp only [PyData.canLay0, lay_ints], Bool.true_and]
  refine decide_eq_true ?_
  rw [PyData.depth, dep_ints]
  decide
theorem cut_to (xs : List V) (k : Nat) : cutV xs none (some (k : Int)) = xs.take k := by
  unfold cutV
  rw [HT.sIx_none, HT.sIx_nat, List.drop_zero, Nat.sub_zero, ← List.take_take, List.take_length]
theorem cut_from (xs : List V) (k : Nat) : cutV xs (some (k : Int)) none = xs.drop k := by
  unfold cutV
  rw [HT.sIx_none, HT.sIx_nat]
  by_cases h : k ≤ xs.length
  · rw [Nat.min_eq_left h]
    exact List.take_of_length_le (by rw [List.length_drop]; exact Nat.le_refl _)
  · rw [Nat.min_eq_right (by omega), List.drop_eq_nil_of_le (Nat.le_refl _), List.take_nil, List.drop_eq_nil_of_le (by omega)]
theorem sql_same {K : Frag} {H H' : Hp} {l : Addr} {xs : List V} (s : Same H H') (h : SqL K H l xs) : SqL K H' l xs := h.ext fun b o e => s b o e
section
variable {P : Program} {w : World} {K : Frag} {mg : Str → Option Value} {base : Heap} {f : Addr} {fd : FuncData}
theorem sc_spool : FnScope ["_law_script"] ["_law_script"] (defScope (top 55)) := ⟨rfl, rfl, rfl, by decide +kernel, rfl, by decide +kernel, by decide +kernel⟩
theorem ok_spool (F : FnP K "_law_spool" (top 55) f fd) (T : Txt mg) : FnOk P w K mg base CX0 1 f fd ["_law_script"] (spSpoolK K) := by
  refine F.ok sc_spool (fun vs H Q E h => ?_) (fun cdv A outer s H vs Q E hr h => ?_)
  · obtain ⟨l, is, rfl, _⟩ := h
    rfl
  · have nd := sc_spool.nd
    obtain ⟨l, is, rfl, hl, hz, k⟩ := h
    refine ⟨_, PSs.nox (pss_one (ps_ret (pe_disp (pps_cons pe_str (pe_callTy call_list_of rfl T.list PyProof.Rows.boot_list (pa_cons (pe_slice sl_list (pv 0) po_none (po_some pe_int)) pa_nil))
      (pps_cons pe_str pe_int (pps_cons pe_str pe_int (pps_cons pe_str pe_int pps_nil)))) rfl rfl (by decide) (by decide)))), ?_⟩
    intro p hp
    have hl1 : SqL K (upd H p (.dK [])) l (zs is) := sql_same (Same.new hp) hl
    refine ⟨_, rfl, 63, rfl, l, zs is, rfl, hl1, fun p2 hp2 => ⟨p2, _, rfl, .inl (SqL.of upd_same), fun c hc => ?_⟩⟩
    have e2 : p2 ≠ p := fun z => by rw [z, upd_same] at hp2; cases hp2
    have ec : c ≠ p := fun z => by
      rw [z, upd_ne e2.symm, upd_same] at hc
      cases hc
    have hH : upd (upd (upd H p (.dK [])) p2 (.lst (cutV (zs is) none (some 63)))) c (.lst (cutV (zs is) none (some 63))) p = some (.dK []) := by rw [upd_ne ec.symm, upd_ne e2.symm, upd_same]
    refine ⟨hH, spD c 0 0 0, rfl, (show (4 : Nat) ≤ 15 by decide), k _ p c ?_ hp ⟨is.take 63, 0, 0, 0, ?_, ?_, Int.le_refl _, ?_⟩⟩
    · exact Same.put (((Same.new hp).trans (Same.new hp2)).trans (Same.new hc)) hp
    · rw [upd_same] <;> rfl
    · rw [upd_ne ec, upd_same, show cutV (zs is) none (some 63) = _ from cut_to (zs is) 63, show (zs is).take 63 = zs (is.take 63) from (List.map_take ..).symm]
    · rw [List.length_take]
      exact Nat.min_le_left _ _
theorem sc_pull : FnScope ["_law_spool_here", "_law_many", "_law_digit", "_law_spot_in", "_law_cells", "_law_cell", "_law_mixed"] ["_law_spool_here", "_law_many"] (defScope (top 56)) := ⟨rfl, rfl, rfl, by decide +kernel, rfl, by decide +kernel, by decide +kernel⟩
theorem ok_pull (F : FnP K "_law_pull" (top 56) f fd) (T : Txt mg) : FnOk P w K mg base CX0 1 f fd ["_law_spool_here", "_law_many"] spPull := by
  refine F.ok sc_pull (fun vs H Q E h => ?_) (fun cdv A outer s H vs Q E hr h => ?_)
  · obtain ⟨sp, c, m, rfl, _⟩ := h
    rfl
  · have nd := sc_pull.nd
    have hu := hu_of hr
    obtain ⟨sp, c, m, rfl, hS, m1, m2, k⟩ := h
    refine ⟨_, PSs.nox (pss_cons (ps_dput hu (pv 0) pe_str (pe_op op_add (pe_dget hu (pv 0) pe_str (fun _ _ => rfl)) pe_int) rfl)
      (pss_cons (ps_if (pt_cmpR op_gt (pe_dget hu (pv 0) pe_str (fun _ _ => rfl)) pe_int (nomark _))
          (pss_cons (ps_set (i := 2) nd rfl (.inl rfl) (pe_op op_mod (pe_callTy call_int1 rfl T.int PyProof.Rows.boot_int (pa_cons (pe_dget hu (pv 0) pe_str (fun _ _ => rfl)) pa_nil)) (pv 1)))
            (pss_cons (ps_dput hu (pv 0) pe_str (pe_op op_fdivW (pe_dget hu (pv 0) pe_str (fun _ _ => rfl)) (pv 1)) rfl) (pss_one (ps_ret (pv 2))))) pss_nil)
      (pss_cons (ps_par (i := 3) (j := 4) rfl nd rfl rfl (by decide) rfl rfl (pa_cons (pe_dget hu (pv 0) pe_str (fun _ _ => rfl)) (pa_cons (pe_dget hu (pv 0) pe_str (fun _ _ => rfl)) pa_nil)) (by rfl))
      (pss_cons (ps_dput hu (pv 0) pe_str (pe_op op_add (pv 3) pe_int) rfl)
      (pss_cons (ps_set (i := 5) nd rfl (.inl rfl) (pe_ifExp (pt_cmpR (op_neD hr.units) (pv 4) (pe_lst pa_nil) (nomark _)) (pe_ix ix_list (pv 4) (pe_op op_mod (pe_callTy call_int1 rfl T.int PyProof.Rows.boot_int (pa_cons (pv 3) pa_nil)) (pe_callB call_len rfl T.len PySem.boot_len (pa_cons (pv 4) pa_nil))) (fun _ _ => rfl)) pe_int))
      (pss_cons (ps_if (PW.pt (pw_and (pt_cmpR op_ge (pv 5) (pe_op op_pow pe_int pe_int) (nomark _)) (pw_and1 (pt_cmpR op_lt (pv 3) (pe_callB call_len rfl T.len PySem.boot_len (pa_cons (pv 4) pa_nil)) (nomark _)))))
          (pss_cons (ps_dput hu (pv 0) pe_str (pe_op op_fdivW (pv 5) (pv 1)) rfl) (pss_one (ps_ret (pe_op op_mod (pe_callTy call_int1 rfl T.int PyProof.Rows.boot_int (pa_cons (pv 5) pa_nil)) (pv 1))))) pss_nil)
      (pss_cons (ps_set (i := 6) nd rfl (.inl rfl) (pe_op op_mod (pe_callTy call_int1 rfl T.int PyProof.Rows.boot_int (pa_cons (pe_op op_add (pe_op op_add (pe_op op_mod (pe_callTy call_int1 rfl T.int PyProof.Rows.boot_int (pa_cons (pv 5) pa_nil)) pe_int) (pe_op op_mul pe_int (pe_dget hu (pv 0) pe_str (fun _ _ => rfl)))) pe_int) pa_nil)) pe_int))
      (pss_cons (ps_set (i := 6) nd rfl (.inl rfl) (pe_op op_mod (pe_callTy call_int1 rfl T.int PyProof.Rows.boot_int (pa_cons (pe_op op_add (pe_op op_add (pe_op op_mul (pv 6) (pv 6)) (pe_op op_mul pe_int (pe_dget hu (pv 0) pe_str (fun _ _ => rfl)))) pe_int) pa_nil)) pe_int))
      (pss_one (ps_ret (pe_op op_mod (pe_callTy call_int1 rfl T.int PyProof.Rows.boot_int (pa_cons (pe_op op_fdivW (pe_op op_mod (pe_callTy call_int1 rfl T.int PyProof.Rows.boot_int (pa_cons (pe_op op_add (pe_op op_mul (pv 6) (pv 6)) (pe_op op_mul pe_int (pv 6))) pa_nil)) pe_int) pe_int) pa_nil)) (pv 1)))))))))))), ?_⟩
    obtain ⟨is, n, r, t, h1, h2, hn, hz⟩ := hS
    have ne0 : c ≠ sp := fun z => by rw [z, h1] at h2; cases h2
    have h0 : ∃ k0, H sp = some (.dK k0) := ⟨_, h1⟩
    refine ⟨_, rfl, sp, _, rfl, gt_t h1, t, 1, rfl, rfl, _, rfl, sp, _, rfl, pt_t h1 (t + 1), ?_⟩
    have g1 : Gr H (upd H sp (.dK (spD c n r (t + 1)))) := Gr.dk (Gr.refl H) h1 h0
    have h3 : upd H sp (.dK (spD c n r (t + 1))) sp = some (.dK (spD c n r (t + 1))) := upd_same
    have h4 : upd H sp (.dK (spD c n r (t + 1))) c = some (.lst (zs is)) := by rw [upd_ne ne0]; exact h2
    generalize upd H sp (.dK (spD c n r (t + 1))) = H1 at g1 h3 h4
    refine ⟨_, rfl, sp, _, rfl, gt_r h3, r, 0, rfl, rfl, _, rfl, ?_⟩
    have md : ∀ z : Int, 0 ≤ z % m ∧ z % m < m := fun z => ⟨Int.emod_nonneg _ (by omega), Int.emod_lt_of_pos _ (by omega)⟩
    have mw : ∀ z : Int, CDivW z m := fun z => ⟨by omega, by
      have : m.natAbs < 2 ^ 30 := by omega
      exact Nat.lt_trans ((Nat.log2_lt (by omega)).mpr this) (by decide)⟩
    have fin : ∀ H2 n' r' t' z, Gr H H2 → H2 sp = some (.dK (spD c n' r' t')) → H2 c = some (.lst (zs is)) → 0 ≤ n' → Q (.int (z % m)) H2 := fun H2 n' r' t' z g e1 e2 hn' => k H2 (z % m) g ⟨is, n', r', t', e1, e2, hn', hz⟩ (md z).1 (md z).2
    by_cases hr0 : 0 < r
    · rw [decide_eq_true hr0]
      refine iteT ⟨_, rfl, sp, _, rfl, gt_r h3, .inl ⟨r, rfl, _, rfl, r, m, rfl, rfl, by omega, ?_⟩⟩
      refine ⟨_, rfl, sp, _, rfl, gt_r h3, _, rfl, r, m, rfl, rfl, mw r, _, rfl, sp, _, rfl, pt_r h3 (r / m), _, rfl, ?_⟩
      exact fin _ n (r / m) (t + 1) r (Gr.dk g1 h3 h0) upd_same (by rw [upd_ne ne0]; exact h4) hn
    · rw [decide_eq_false hr0]
      refine iteF ?_
      refine ⟨_, rfl, sp, _, rfl, gt_n h3, _, rfl, sp, _, rfl, gt_c h3, _, _, rfl, ?_⟩
      refine ⟨_, rfl, n, 1, rfl, rfl, _, rfl, sp, _, rfl, pt_n h3 (n + 1), ?_⟩
      have g2 : Gr H (upd H1 sp (.dK (spD c (n + 1) r (t + 1)))) := Gr.dk g1 h3 h0
      have h5 : upd H1 sp (.dK (spD c (n + 1) r (t + 1))) sp = some (.dK (spD c (n + 1) r (t + 1))) := upd_same
      have h6 : upd H1 sp (.dK (spD c (n + 1) r (t + 1))) c = some (.lst (zs is)) := by rw [upd_ne ne0]; exact h4
      generalize upd H1 sp (.dK (spD c (n + 1) r (t + 1))) = H2 at g2 h5 h6
      refine ⟨_, rfl, (show (0 : Nat) ≤ sizeLine by decide), fun l hl => ?_⟩
      have g3 : Gr H (upd H2 l (.lst [])) := g2.trans (Gr.of (Same.new hl))
      have h7 : upd H2 l (.lst []) sp = some (.dK (spD c (n + 1) r (t + 1))) := Same.new hl sp _ h5
      have h8 : upd H2 l (.lst []) c = some (.lst (zs is)) := Same.new hl c _ h6
      have h9 : upd H2 l (.lst []) l = some (.lst []) := upd_same
      generalize upd H2 l (.lst []) = H3 at g3 h7 h8 h9
      refine ⟨.list (is.map .int), .list [], .lst (SqL.of h8) (dp_ints is), .lst (SqL.of h9) .nil, sh_ints is, by decide +kernel, _, rfl, ?_⟩
      cases is with
      | nil =>
        rw [show PyData.eqv (.list (([] : List Int).map .int)) (.list []) = true from by decide +kernel]
        refine iteF ?_
        refine ⟨_, rfl, 10, 18, rfl, rfl, ⟨by decide, by decide, by decide⟩, 12301, _, rfl, rfl, _, rfl, ?_⟩
        have b6 : ∀ x k : Int, 0 < k → k < 2 ^ 40 → CMul (x % k) (x % k) := fun x k k0 k1 => .inl ⟨by have := Int.emod_nonneg x (show k ≠ 0 by omega); omega, by have := Int.emod_lt_of_pos x k0; omega⟩
        by_cases c1 : ((10 : Int) ^ (18 : Int).toNat) ≤ 12301
        · rw [decide_eq_true c1]
          refine iteT ⟨_, rfl, _, rfl, _, ([] : List Int).length, rfl, .inl ⟨_, SqL.of h8, by rw [List.length_map]⟩, n, _, rfl, rfl, _, rfl, ?_⟩
          by_cases c2 : n < (([] : List Int).length : Int)
          · rw [decide_eq_true c2]
            refine iteT ⟨_, rfl, _, rfl, 12301, m, rfl, rfl, mw _, _, rfl, sp, _, rfl, pt_r h7 _, _, rfl, .inl ⟨12301, rfl, _, rfl, 12301, m, rfl, rfl, by omega, ?_⟩⟩
            exact fin _ (n + 1) (12301 / m) (t + 1) 12301 (Gr.dk g3 h7 h0) upd_same (by rw [upd_ne ne0]; exact h8) (by omega)
          · rw [decide_eq_false c2]
            refine iteF ?_
            refine ⟨_, rfl, .inl ⟨12301, rfl, 12301, 1000003483, rfl, rfl, (by show (0 : Int) < _; decide), _, rfl, sp, _, rfl, gt_t h7, 90107, t + 1, rfl, rfl, .inl ⟨by decide, by decide⟩, _, _, rfl, rfl, _, _, rfl, rfl, .inl ⟨_, rfl, _, _, rfl, rfl, (by show (0 : Int) < _; decide), ?_⟩⟩⟩
            refine ⟨_, rfl, _, rfl, _, _, rfl, rfl, b6 _ _ (by decide) (by decide), _, rfl, sp, _, rfl, gt_t h7, 13644437, t + 1, rfl, rfl, .inl ⟨by decide, by decide⟩, _, _, rfl, rfl, _, _, rfl, rfl, .inl ⟨_, rfl, _, _, rfl, rfl, (by show (0 : Int) < _; decide), ?_⟩⟩
            refine ⟨_, rfl, _, rfl, _, _, rfl, rfl, b6 _ _ (by decide) (by decide), _, rfl, 1725, _, rfl, rfl, .inl ⟨by decide, by decide⟩, _, _, rfl, rfl, .inl ⟨_, rfl, _, _, rfl, rfl, (by show (0 : Int) < _; decide), _, _, rfl, rfl, ⟨by decide, by decide⟩, .inl ⟨_, rfl, _, rfl, _, m, rfl, rfl, by omega, ?_⟩⟩⟩
            exact fin _ (n + 1) r (t + 1) _ g3 h7 h8 (by omega)
        · rw [decide_eq_false c1]
          refine iteF ?_
          refine iteF ?_
          refine ⟨_, rfl, .inl ⟨12301, rfl, 12301, 1000003483, rfl, rfl, (by show (0 : Int) < _; decide), _, rfl, sp, _, rfl, gt_t h7, 90107, t + 1, rfl, rfl, .inl ⟨by decide, by decide⟩, _, _, rfl, rfl, _, _, rfl, rfl, .inl ⟨_, rfl, _, _, rfl, rfl, (by show (0 : Int) < _; decide), ?_⟩⟩⟩
          refine ⟨_, rfl, _, rfl, _, _, rfl, rfl, b6 _ _ (by decide) (by decide), _, rfl, sp, _, rfl, gt_t h7, 13644437, t + 1, rfl, rfl, .inl ⟨by decide, by decide⟩, _, _, rfl, rfl, _, _, rfl, rfl, .inl ⟨_, rfl, _, _, rfl, rfl, (by show (0 : Int) < _; decide), ?_⟩⟩
          refine ⟨_, rfl, _, rfl, _, _, rfl, rfl, b6 _ _ (by decide) (by decide), _, rfl, 1725, _, rfl, rfl, .inl ⟨by decide, by decide⟩, _, _, rfl, rfl, .inl ⟨_, rfl, _, _, rfl, rfl, (by show (0 : Int) < _; decide), _, _, rfl, rfl, ⟨by decide, by decide⟩, .inl ⟨_, rfl, _, rfl, _, m, rfl, rfl, by omega, ?_⟩⟩⟩
          exact fin _ (n + 1) r (t + 1) _ g3 h7 h8 (by omega)
      | cons i0 is =>
        rw [show PyData.eqv (.list ((i0 :: is).map .int)) (.list []) = false by simp [PyData.eqv, PyData.eqvAll]]
        refine iteT ?_
        have hp : (0 : Int) < ((i0 :: is).length : Int) := by rw [List.length_cons]; omega
        have hj := Int.emod_nonneg n (show ((i0 :: is).length : Int) ≠ 0 by omega)
        have hj2 := Int.emod_lt_of_pos n hp
        obtain ⟨j, ej⟩ := Int.eq_ofNat_of_zero_le hj
        have hjl : j < (i0 :: is).length := by omega
        have hat : (zs (i0 :: is))[j]? = some (.int ((i0 :: is)[j])) := by rw [List.getElem?_map, List.getElem?_eq_getElem hjl]; rfl
        refine ⟨_, rfl, _, rfl, .inl ⟨n, rfl, _, rfl, _, (i0 :: is).length, rfl, .inl ⟨_, SqL.of h8, by rw [List.length_map]⟩, n, _, rfl, rfl, hp, c, _, _, _, rfl, rfl, SqL.of h8, by rw [ej]; exact atI_nat hat, ?_⟩⟩
        generalize (i0 :: is)[j] = z0
        generalize i0 :: is = is at *
        refine ⟨_, rfl, 10, 18, rfl, rfl, ⟨by decide, by decide, by decide⟩, z0, _, rfl, rfl, _, rfl, ?_⟩
        have b6 : ∀ x k : Int, 0 < k → k < 2 ^ 40 → CMul (x % k) (x % k) := fun x k k0 k1 => .inl ⟨by have := Int.emod_nonneg x (show k ≠ 0 by omega); omega, by have := Int.emod_lt_of_pos x k0; omega⟩
        by_cases c1 : ((10 : Int) ^ (18 : Int).toNat) ≤ z0
        · rw [decide_eq_true c1]
          refine iteT ⟨_, rfl, _, rfl, _, is.length, rfl, .inl ⟨_, SqL.of h8, by rw [List.length_map]⟩, n, _, rfl, rfl, _, rfl, ?_⟩
          by_cases c2 : n < (is.length : Int)
          · rw [decide_eq_true c2]
            refine iteT ⟨_, rfl, _, rfl, z0, m, rfl, rfl, mw _, _, rfl, sp, _, rfl, pt_r h7 _, _, rfl, .inl ⟨z0, rfl, _, rfl, z0, m, rfl, rfl, by omega, ?_⟩⟩
            exact fin _ (n + 1) (z0 / m) (t + 1) z0 (Gr.dk g3 h7 h0) upd_same (by rw [upd_ne ne0]; exact h8) (by omega)
          · rw [decide_eq_false c2]
            refine iteF ?_
            refine ⟨_, rfl, .inl ⟨z0, rfl, z0, 1000003483, rfl, rfl, (by show (0 : Int) < _; decide), _, rfl, sp, _, rfl, gt_t h7, 90107, t + 1, rfl, rfl, .inl ⟨by decide, by decide⟩, _, _, rfl, rfl, _, _, rfl, rfl, .inl ⟨_, rfl, _, _, rfl, rfl, (by show (0 : Int) < _; decide), ?_⟩⟩⟩
            refine ⟨_, rfl, _, rfl, _, _, rfl, rfl, b6 _ _ (by decide) (by decide), _, rfl, sp, _, rfl, gt_t h7, 13644437, t + 1, rfl, rfl, .inl ⟨by decide, by decide⟩, _, _, rfl, rfl, _, _, rfl, rfl, .inl ⟨_, rfl, _, _, rfl, rfl, (by show (0 : Int) < _; decide), ?_⟩⟩
            refine ⟨_, rfl, _, rfl, _, _, rfl, rfl, b6 _ _ (by decide) (by decide), _, rfl, 1725, _, rfl, rfl, .inl ⟨by decide, by decide⟩, _, _, rfl, rfl, .inl ⟨_, rfl, _, _, rfl, rfl, (by show (0 : Int) < _; decide), _, _, rfl, rfl, ⟨by decide, by decide⟩, .inl ⟨_, rfl, _, rfl, _, m, rfl, rfl, by omega, ?_⟩⟩⟩
            exact fin _ (n + 1) r (t + 1) _ g3 h7 h8 (by omega)
        · rw [decide_eq_false c1]
          refine iteF ?_
          refine iteF ?_
          refine ⟨_, rfl, .inl ⟨z0, rfl, z0, 1000003483, rfl, rfl, (by show (0 : Int) < _; decide), _, rfl, sp, _, rfl, gt_t h7, 90107, t + 1, rfl, rfl, .inl ⟨by decide, by decide⟩, _, _, rfl, rfl, _, _, rfl, rfl, .inl ⟨_, rfl, _, _, rfl, rfl, (by show (0 : Int) < _; decide), ?_⟩⟩⟩
          refine ⟨_, rfl, _, rfl, _, _, rfl, rfl, b6 _ _ (by decide) (by decide), _, rfl, sp, _, rfl, gt_t h7, 13644437, t + 1, rfl, rfl, .inl ⟨by decide, by decide⟩, _, _, rfl, rfl, _, _, rfl, rfl, .inl ⟨_, rfl, _, _, rfl, rfl, (by show (0 : Int) < _; decide), ?_⟩⟩
          refine ⟨_, rfl, _, rfl, _, _, rfl, rfl, b6 _ _ (by decide) (by decide), _, rfl, 1725, _, rfl, rfl, .inl ⟨by decide, by decide⟩, _, _, rfl, rfl, .inl ⟨_, rfl, _, _, rfl, rfl, (by show (0 : Int) < _; decide), _, _, rfl, rfl, ⟨by decide, by decide⟩, .inl ⟨_, rfl, _, rfl, _, m, rfl, rfl, by omega, ?_⟩⟩⟩
          exact fin _ (n + 1) r (t + 1) _ g3 h7 h8 (by omega)
end
end K14
end

-- K14Draw
section
set_option maxRecDepth 100000
set_option maxHeartbeats 2000000
/-! what is drawn -/
namespace K14
open PySem PySem.Spec PyProof.Rows L2
open PySem.W (Frag)
def spAny : Sp := fun vs H Q _ => ∃ (sp c l : Addr) (xs : List V), vs = [.ref sp, .ref l] ∧ SpoolAt H sp c ∧ H l = some (.lst xs) ∧ xs ≠ [] ∧ xs.length ≤ 1000 ∧ ∀ H' x, Gr H H' → SpoolAt H' sp c → x ∈ xs → Q x H'
abbrev nob : Str := ("nobody" : Str)
structure NamesOk (ns : List Str) : Prop where
  nd : ns.Nodup
  nm : ∀ x ∈ ns, NameOk x ∧ x ≠ nob
def spNames16 : Sp := fun vs H Q _ => ∃ sp c : Addr, vs = [.ref sp] ∧ SpoolAt H sp c ∧ ∀ H' l ns, Gr H H' → SpoolAt H' sp c → H' l = some (.lst (txs ns)) → NamesOk ns → ns.length = 16 → Q (.ref l) H'
def namesA : List Str := ["a", "aa", "ab", "abc", "b", "ba", "c", "cc", "d", "e", "f", "zz", "zzzzzzzz", "z", "y", "x"]
def namesB0 : List Str := ["top", "room", "in", "folder", "bin", "mail", "home", "work", "old", "new", "tmp", "share"]
def namesB1 : List Str := ["abcdefgh", "h", "hh", "q"]
def nameB (x : Str) : Bool := decide (1 ≤ x.length) && decide (x.length ≤ 8) && x.cps.toList.all (fun c => decide (97 ≤ c ∧ c ≤ 122)) && decide (x ≠ nob)
theorem nameB_ok {x : Str} (h : nameB x = true) : NameOk x ∧ x ≠ nob := by
  unfold nameB at h
  simp only [Bool.and_eq_true, decide_eq_true_eq, List.all_eq_true] at h
  exact ⟨⟨h.1.1.1, h.1.1.2, h.1.2⟩, h.2⟩
theorem namesOk_of {ns : List Str} (h : (decide ns.Nodup && ns.all nameB) = true) : NamesOk ns := by
  rw [Bool.and_eq_true, decide_eq_true_eq, List.all_eq_true] at h
  exact ⟨h.1, fun x hx => nameB_ok (h.2 x hx)⟩
theorem namesA_ok : NamesOk namesA := namesOk_of (by decide +kernel)
theorem namesB_ok : NamesOk (namesB0 ++ namesB1) := namesOk_of (by decide +kernel)
theorem NamesOk.perm {a b : List Str} (h : NamesOk a) (p : b.Perm a) : NamesOk b := ⟨p.nodup_iff.mpr h.nd, fun x hx => h.nm x (p.mem_iff.mp hx)⟩
theorem NamesOk.sub {a b : List Str} (h : NamesOk a) (p : b.Sublist a) : NamesOk b := ⟨h.nd.sublist p, fun x hx => h.nm x (p.subset hx)⟩
theorem SpoolAt.sm {H H' : Hp} {sp c : Addr} (h : SpoolAt H sp c) (s : Same H H') : SpoolAt H' sp c := by
  obtain ⟨is, n, r, t, h1, h2, h3, h4⟩ := h
  exact ⟨is, n, r, t, s sp _ h1, s c _ h2, h3, h4⟩
theorem SpoolAt.new {H : Hp} {sp c p : Addr} {o : HO} (h : SpoolAt H sp c) (hp : H p = none) : SpoolAt (upd H p o) sp c := h.sm (Same.new hp)
/-- what isn't the spool's own is changed -/
theorem SpoolAt.put {H : Hp} {sp c p : Addr} {o : HO} (h : SpoolAt H sp c) (n1 : p ≠ sp) (n2 : p ≠ c) : SpoolAt (upd H p o) sp c := by
  obtain ⟨is, n, r, t, h1, h2, h3, h4⟩ := h
  exact ⟨is, n, r, t, by rw [upd_ne n1.symm]; exact h1, by rw [upd_ne n2.symm]; exact h2, h3, h4⟩
theorem SpoolAt.ne {H : Hp} {sp c p : Addr} (h : SpoolAt H sp c) (hp : H p = none) : p ≠ sp ∧ p ≠ c := by
  obtain ⟨is, n, r, t, h1, h2, h3, h4⟩ := h
  exact ⟨fun z => (by rw [z, h1] at hp; cases hp), fun z => by rw [z, h2] at hp; cases hp⟩
section
variable {P : Program} {w : World} {K : Frag} {mg : Str → Option Value} {base : Heap} {f : Addr} {fd : FuncData}
theorem sc_any : FnScope ["_law_spool_here", "_law_rows"] ["_law_spool_here", "_law_rows"] (defScope (top 57)) := ⟨rfl, rfl, rfl, by decide +kernel, rfl, by decide +kernel, by decide +kernel⟩
theorem ok_any (F : FnP K "_law_any" (top 57) f fd) (T : Txt mg) (Dp : Dn P w K mg base CX0 1 "_law_pull" [] spPull) : FnOk P w K mg base CX0 2 f fd ["_law_spool_here", "_law_rows"] spAny := by
  refine F.ok sc_any (fun vs H Q E h => ?_) (fun cdv A outer s H vs Q E hr h => ?_)
  · obtain ⟨sp, c, l, xs, rfl, _⟩ := h
    rfl
  · obtain ⟨sp, c, l, xs, rfl, hS, hl, ne, hz, k⟩ := h
    refine ⟨_, PSs.nox (pss_one (ps_ret (pe_ix ix_list (pv 1) (pe_d Dp hr (by decide) rfl pass0 (pa_cons (pv 0) (pa_cons (pe_callB call_len rfl T.len PySem.boot_len (pa_cons (pv 1) pa_nil)) pa_nil))) (fun _ _ => rfl)))), ?_⟩
    have hp := List.length_pos_iff.mpr ne
    refine ⟨_, rfl, _, rfl, _, rfl, _, xs.length, rfl, .inl ⟨_, SqL.of hl, rfl⟩, sp, c, _, rfl, hS, by omega, by omega, fun H' r g hS' r0 r1 => ?_⟩
    obtain ⟨j, ej⟩ := Int.eq_ofNat_of_zero_le r0
    have hj : j < xs.length := by omega
    exact ⟨l, xs, r, xs[j], rfl, rfl, SqL.of (g.lst hl), by rw [ej]; exact atI_nat (List.getElem?_eq_getElem hj), k H' _ g hS' (List.getElem_mem hj)⟩
theorem sc_names16 : FnScope ["_law_spool_here", "_law_pools", "_law_some", "_law_k"] ["_law_spool_here"] (defScope (top 58)) := ⟨rfl, rfl, rfl, by decide +kernel, rfl, by decide +kernel, by decide +kernel⟩
theorem ok_names16 (F : FnP K "_law_names" (top 58) f fd) (T : Txt mg) (Dp : Dn P w K mg base CX0 1 "_law_pull" [] spPull) (Da : Dn P w K mg base CX0 2 "_law_any" [] spAny) : FnOk P w K mg base CX0 3 f fd ["_law_spool_here"] spNames16 := by
  refine F.ok sc_names16 (fun vs H Q E h => ?_) (fun cdv A outer s H vs Q E hr h => ?_)
  · obtain ⟨sp, c, rfl, _⟩ := h
    rfl
  · have nd := sc_names16.nd
    obtain ⟨sp, c, rfl, hS, k⟩ := h
    refine ⟨_, PSs.nox (pss_cons (ps_set (i := 1) nd rfl (.inl rfl) (pe_lst (pa_cons (pe_lst (pa_cons pe_str (pa_cons pe_str (pa_cons pe_str (pa_cons pe_str (pa_cons pe_str (pa_cons pe_str (pa_cons pe_str (pa_cons pe_str (pa_cons pe_str (pa_cons pe_str (pa_cons pe_str (pa_cons pe_str (pa_cons pe_str (pa_cons pe_str (pa_cons pe_str (pa_cons pe_str pa_nil))))))))))))))))) pa_nil)))
      (pss_cons (ps_expr (pe_bm PySem.F.plainAttrs_list PySem.F.slot_list_append PySem.F.type_list_append mt_append (pv 1) (pa_cons (pe_lst (pa_cons pe_str (pa_cons pe_str (pa_cons pe_str (pa_cons pe_str (pa_cons pe_str (pa_cons pe_str (pa_cons pe_str (pa_cons pe_str (pa_cons pe_str (pa_cons pe_str (pa_cons pe_str (pa_cons pe_str pa_nil))))))))))))) pa_nil)))
      (pss_cons (ps_set (i := 2) nd rfl (.inl rfl) (pe_d Da hr (by decide) rfl pass0 (pa_cons (pv 0) (pa_cons (pe_lst (pa_cons (pe_ix ix_list (pv 1) pe_int (fun _ _ => rfl)) (pa_cons (pe_op op_cat (pe_ix ix_list (pv 1) pe_int (fun _ _ => rfl)) (pe_lst (pa_cons pe_str (pa_cons pe_str (pa_cons pe_str (pa_cons pe_str pa_nil)))))) pa_nil))) pa_nil))))
      (pss_cons (ps_set (i := 3) nd rfl (.inl rfl) (pe_d Dp hr (by decide) rfl pass0 (pa_cons (pv 0) (pa_cons pe_int pa_nil))))
      (pss_one (ps_ret (pe_op op_cat (pe_slice sl_list (pv 2) (po_some (pv 3)) po_none) (pe_slice sl_list (pv 2) po_none (po_some (pv 3)))))))))), ?_⟩
    have zl : ∀ {n : Nat}, n ≤ 100 → n ≤ sizeLine := fun h => Nat.le_trans h (by decide)
    refine ⟨zl (by decide), fun pA hA => ⟨zl (show (1 : Nat) ≤ 100 by decide), fun p0 h0 => ?_⟩⟩
    have S1 := Same.new (o := .lst (txs namesA)) hA
    have hS1 : SpoolAt (upd H pA (.lst (txs namesA))) sp c := hS.new hA
    have hA1 : upd H pA (.lst (txs namesA)) pA = some (.lst (txs namesA)) := upd_same
    change upd H pA (.lst (txs namesA)) p0 = none at h0
    change tSeq _ _ _ _ (upd (upd H pA (.lst (txs namesA))) p0 (.lst [.ref pA]))
    generalize upd H pA (.lst (txs namesA)) = H1 at S1 hS1 hA1 h0
    refine ⟨_, rfl, .inl ⟨rfl, _, SqL.of upd_same⟩, zl (by decide), fun pB hB => ?_⟩
    change upd H1 p0 (.lst [.ref pA]) pB = none at hB
    have n0 := hS1.ne h0
    have nB : pB ≠ p0 := fun z => by rw [z, upd_same] at hB; cases hB
    have h1B : H1 pB = none := by rwa [upd_ne nB] at hB
    have hA2 : pA ≠ p0 := fun z => by rw [← z, hA1] at h0; cases h0
    have hAB : pA ≠ pB := fun z => by rw [← z, hA1] at h1B; cases h1B
    refine ⟨p0, [.ref pA], .ref pB, rfl, rfl, by rw [upd_ne nB.symm, upd_same], show (1 : Nat) < sizeLine by decide, ?_⟩
    change tSeq _ _ _ _ (upd (upd (upd H1 p0 (.lst [.ref pA])) pB (.lst (txs namesB0))) p0 (.lst [.ref pA, .ref pB]))
    have G4 : Gr H (upd (upd (upd H1 p0 (.lst [.ref pA])) pB (.lst (txs namesB0))) p0 (.lst [.ref pA, .ref pB])) := Gr.of (Same.put (S1.trans ((Same.new h0).trans (Same.new hB))) (Same.free S1 h0))
    have hS4 : SpoolAt (upd (upd (upd H1 p0 (.lst [.ref pA])) pB (.lst (txs namesB0))) p0 (.lst [.ref pA, .ref pB])) sp c := ((hS1.new h0).new hB).put n0.1 n0.2
    have hA4 : upd (upd (upd H1 p0 (.lst [.ref pA])) pB (.lst (txs namesB0))) p0 (.lst [.ref pA, .ref pB]) pA = some (.lst (txs namesA)) := by rw [upd_ne hA2, upd_ne hAB, upd_ne hA2]; exact hA1
    have hB4 : upd (upd (upd H1 p0 (.lst [.ref pA])) pB (.lst (txs namesB0))) p0 (.lst [.ref pA, .ref pB]) pB = some (.lst (txs namesB0)) := by rw [upd_ne nB, upd_same]
    have h04 : upd (upd (upd H1 p0 (.lst [.ref pA])) pB (.lst (txs namesB0))) p0 (.lst [.ref pA, .ref pB]) p0 = some (.lst [.ref pA, .ref pB]) := upd_same
    generalize upd (upd (upd H1 p0 (.lst [.ref pA])) pB (.lst (txs namesB0))) p0 (.lst [.ref pA, .ref pB]) = H4 at G4 hS4 hA4 hB4 h04
    refine ⟨_, rfl, _, rfl, p0, _, 0, _, rfl, rfl, SqL.of h04, rfl, _, rfl, p0, _, 1, _, rfl, rfl, SqL.of h04, rfl, zl (by decide), fun pC hC => ?_⟩
    change H4 pC = none at hC
    refine ⟨pB, pC, txs namesB0, txs namesB1, rfl, rfl, Same.new hC pB _ hB4, upd_same, zl (by decide), fun pD hD => ⟨zl (show (2 : Nat) ≤ 100 by decide), fun pE hE => ?_⟩⟩
    have S7 := (Same.new (o := .lst (txs namesB1)) hC).trans ((Same.new (o := .lst (txs namesB0 ++ txs namesB1)) hD).trans (Same.new (o := .lst [.ref pA, .ref pD]) hE))
    have hD7 := Same.new (o := .lst [.ref pA, .ref pD]) hE pD _ upd_same
    refine ⟨sp, c, pE, [.ref pA, .ref pD], rfl, hS4.sm S7, upd_same, (fun z => nomatch z), (show (2 : Nat) ≤ 1000 by decide), fun H' x g hS' hx => ?_⟩
    obtain ⟨a, ns, rfl, ha, ok, hl⟩ : ∃ (a : Addr) (ns : List Str), x = .ref a ∧ H' a = some (.lst (txs ns)) ∧ NamesOk ns ∧ ns.length = 16 := by
      rcases List.mem_cons.mp hx with e | hx
      · exact ⟨pA, namesA, e, g.lst (S7 pA _ hA4), namesA_ok, rfl⟩
      · refine ⟨pD, namesB0 ++ namesB1, List.mem_singleton.mp hx, ?_, namesB_ok, rfl⟩
        rw [g.lst hD7]
        unfold txs
        rw [List.map_append]
    refine ⟨_, rfl, sp, c, 16, rfl, hS', by decide, by decide, fun H'' r g' hS'' r0 r1 => ?_⟩
    obtain ⟨j, ej⟩ := Int.eq_ofNat_of_zero_le r0
    subst ej
    have ha2 := g'.lst ha
    refine ⟨_, rfl, _, rfl, _, rfl, a, _, rfl, SqL.of ha2, fun pF hF => ⟨_, rfl, _, rfl, _, rfl, a, _, rfl, SqL.of (Same.new hF a _ ha2), fun pG hG => ⟨pF, pG, _, _, rfl, rfl, Same.new hG pF _ upd_same, upd_same, ?_, fun pH hH => ?_⟩⟩⟩
    · exact Nat.le_trans (Nat.add_le_add (cutV_length _ _ _) (cutV_length _ _ _)) (by rw [show (txs ns).length = 16 by rw [← hl]; exact List.length_map _]; decide)
    · refine k _ pH (ns.drop j ++ ns.take j) ((((G4.trans (Gr.of S7)).trans g).trans g').trans (Gr.of ((Same.new hF).trans ((Same.new hG).trans (Same.new hH))))) (((hS''.new hF).new hG).new hH) ?_ (ok.perm ?_) ?_
      · rw [upd_same, cut_to, cut_from]
        unfold txs
        rw [List.map_append, List.map_take, List.map_drop]
      · exact List.perm_append_comm.trans (by rw [List.take_append_drop])
      · rw [List.length_append, List.length_drop, List.length_take]
        omega
end
end K14
end

-- K14Forest
section
set_option maxRecDepth 100000
set_option maxHeartbeats 2000000
/-! a forest is drawn -/
namespace K14
open PySem PySem.Spec PyProof.Rows L2
open PySem.W (Frag)
abbrev Pr := Str × Str
def PairAt (H : Hp) (x : V) (q : Pr) : Prop := ∃ p, x = .ref p ∧ H p = some (.tup [.str q.1, .str q.2])
abbrev Prs (H : Hp) (xs : List V) (ps : List Pr) : Prop := Paired (PairAt H) xs ps
theorem PairAt.gr {H H' : Hp} (g : Gr H H') {x : V} {q : Pr} (h : PairAt H x q) : PairAt H' x q := let ⟨p, e, z⟩ := h; ⟨p, e, g.tup z⟩
theorem Prs.gr {H H' : Hp} (g : Gr H H') : ∀ {xs : List V} {ps : List Pr}, Prs H xs ps → Prs H' xs ps
  | _, _, .nil => .nil
  | _, _, .cons h t => .cons (h.gr g) (Prs.gr g t)
theorem Prs.snoc {H : Hp} {x : V} {q : Pr} (h : PairAt H x q) : ∀ {xs : List V} {ps : List Pr}, Prs H xs ps → Prs H (xs ++ [x]) (ps ++ [q])
  | _, _, .nil => .cons h .nil
  | _, _, .cons a t => .cons a (Prs.snoc h t)
/-- a list that no pair stands in is changed -/
theorem Prs.put {H : Hp} {l : Addr} {o o' : HO} (hl : H l = some o) (ho : ∀ ys, o ≠ .tup ys) : ∀ {xs : List V} {ps : List Pr}, Prs H xs ps → Prs (upd H l o') xs ps
  | _, _, .nil => .nil
  | _, _, .cons ⟨p, e, h⟩ t => .cons ⟨p, e, by
      rw [upd_ne (fun z => by rw [z, hl] at h; exact ho _ (Option.some.inj h))]
      exact h⟩ (Prs.put hl ho t)
def Under (ns : List Str) (q : Pr) : Prop := q.2 = eS ∨ (q.2 ∈ ns ∧ ns.idxOf q.2 < ns.idxOf q.1)
structure ForestOk (ns : List Str) (ps : List Pr) : Prop where
  asc : ps.Pairwise fun a b => nlt a.1 b.1
  all : (ps.map (·.1)).Perm ns
  par : ∀ q ∈ ps, Under ns q
def spForest : Sp := fun vs H Q _ => ∃ (sp c l : Addr) (ns : List Str), vs = [.ref sp, .ref l] ∧ SpoolAt H sp c ∧ H l = some (.lst (txs ns)) ∧ NamesOk ns ∧ ns.length ≤ 16 ∧
  ∀ H' l' xs ps, Gr H H' → SpoolAt H' sp c → H' l' = some (.lst xs) → Prs H' xs ps → ForestOk ns ps → Q (.ref l') H'
theorem idx_at {ns : List Str} (nd : ns.Nodup) {i : Nat} {x : Str} (h : ns[i]? = some x) : ns.idxOf x = i := by
  obtain ⟨hi, e⟩ := List.getElem?_eq_some_iff.mp h
  rw [← e]
  exact nd.idxOf_getElem i hi
theorem idx_take {ns : List Str} {i : Nat} {x : Str} (h : x ∈ ns.take i) : x ∈ ns ∧ ns.idxOf x < i := by
  have hm := List.mem_of_mem_take h
  refine ⟨hm, ?_⟩
  have e : (ns.take i ++ ns.drop i).idxOf x = (ns.take i).idxOf x := by rw [List.idxOf_append, if_pos h]
  rw [List.take_append_drop] at e
  have := List.idxOf_lt_length_iff.mpr h
  rw [List.length_take] at this
  omega
structure FoSt (H1 H2 : Hp) (sp c fo : Addr) (ns : List Str) (i : Nat) (xs : List V) (ps : List Pr) : Prop where
  gr : Gr H1 H2
  spo : SpoolAt H2 sp c
  at_ : H2 fo = some (.lst xs)
  prs : Prs H2 xs ps
  fst : ps.map (·.1) = ns.take i
  und : ∀ q ∈ ps, Under ns q
theorem FoSt.on {H1 H2 H3 : Hp} {sp c fo : Addr} {ns : List Str} {i : Nat} {xs : List V} {ps : List Pr} (h : FoSt H1 H2 sp c fo ns i xs ps) (g : Gr H2 H3) (hS : SpoolAt H3 sp c) : FoSt H1 H3 sp c fo ns i xs ps :=
  ⟨h.gr.trans g, hS, g.lst h.at_, Prs.gr g h.prs, h.fst, h.und⟩
theorem FoSt.step {H1 H2 : Hp} {sp c fo p : Addr} {ns : List Str} {i : Nat} {xs : List V} {ps : List Pr} {a b : Str} (h : FoSt H1 H2 sp c fo ns i xs ps) (h0 : H1 fo = none) (nf : fo ≠ sp ∧ fo ≠ c) (nd : ns.Nodup) (ha : ns[i]? = some a) (hb : b ∈ eS :: ns.take i) (hp : H2 p = none) :
    FoSt H1 (upd (upd H2 p (.tup [.str a, .str b])) fo (.lst (xs ++ [.ref p]))) sp c fo ns (i + 1) (xs ++ [.ref p]) (ps ++ [(a, b)]) := by
  have g : Gr H2 (upd H2 p (.tup [.str a, .str b])) := Gr.of (Same.new hp)
  have hfp : upd H2 p (.tup [.str a, .str b]) fo = some (.lst xs) := g.lst h.at_
  have npf : p ≠ fo := fun z => by rw [z, h.at_] at hp; cases hp
  refine ⟨(h.gr.trans g).put h0, (h.spo.new hp).put nf.1 nf.2, upd_same, ?_, ?_, fun q hq => ?_⟩
  · refine Prs.snoc ⟨p, rfl, ?_⟩ (Prs.put hfp (fun _ z => nomatch z) (Prs.gr g h.prs))
    rw [upd_ne npf, upd_same]
  · rw [List.map_append, h.fst, take_snoc ha] <;> rfl
  · rcases List.mem_append.mp hq with z | z
    · exact h.und q z
    · rw [List.mem_singleton.mp z]
      rcases List.mem_cons.mp hb with e | e
      · exact .inl e
      · obtain ⟨m1, m2⟩ := idx_take e
        exact .inr ⟨m1, by rw [idx_at nd ha]; exact m2⟩
section
variable {P : Program} {w : World} {K : Frag} {mg : Str → Option Value} {base : Heap} {f : Addr} {fd : FuncData}
theorem dp_pair {H : Hp} {x : V} {q : Pr} (h : PairAt H x q) : Dp K H x (.tuple (.str q.1 :: [.str q.2])) := by
  obtain ⟨p, rfl, hp⟩ := h
  exact .tup (SqT.of hp) (.cons (.str _) (.cons (.str _) .nil))
theorem sc_forest : FnScope ["_law_spool_here", "_law_names_here", "_law_way", "_law_found", "_law_k", "_law_some"] ["_law_spool_here", "_law_names_here"] (defScope (top 59)) := ⟨rfl, rfl, rfl, by decide +kernel, rfl, by decide +kernel, by decide +kernel⟩
theorem ok_forest (F : FnP K "_law_forest" (top 59) f fd) (T : Txt mg) (Dpl : Dn P w K mg base CX0 1 "_law_pull" [] spPull) (Da : Dn P w K mg base CX0 2 "_law_any" [] spAny) : FnOk P w K mg base CX0 3 f fd ["_law_spool_here", "_law_names_here"] spForest := by
  refine F.ok sc_forest (fun vs H Q E h => ?_) (fun cdv A outer s H vs Q E hr h => ?_)
  · obtain ⟨sp, c, l, ns, rfl, _⟩ := h
    rfl
  · have nd := sc_forest.nd
    obtain ⟨sp, c, l, ns, rfl, hS, hl, ok, hz, k⟩ := h
    refine ⟨_, PSs.nox (pss_cons (ps_par (i := 2) (j := 3) rfl nd rfl rfl (by decide) rfl rfl (pa_cons (pe_d Dpl hr (by decide) rfl pass0 (pa_cons (pv 0) (pa_cons pe_int pa_nil))) (pa_cons (pe_lst pa_nil) pa_nil)) (by rfl))
      (pss_cons (ps_for PassesOwn.never rfl (pi_range1 rfl T.range (pa_cons (pe_callB call_len rfl T.len PySem.boot_len (pa_cons (pv 1) pa_nil)) pa_nil)) (pg_name (i := 4) nd rfl (Or.inl rfl))
        (pss_cons (ps_set (i := 5) nd rfl (.inl rfl) (pe_op op_cat (pe_lst (pa_cons pe_str pa_nil)) (pe_slice sl_list (pv 1) po_none (po_some (pv 4)))))
          (pss_one (ps_if (pt_cmpR op_eq (pv 2) pe_int (nomark _))
            (pss_one (ps_expr (pe_bm PySem.F.plainAttrs_list PySem.F.slot_list_append PySem.F.type_list_append mt_append (pv 3) (pa_cons (pe_tup (pa_cons (pe_ix ix_list (pv 1) (pv 4) (fun _ _ => rfl)) (pa_cons (pe_ix ix_list (pv 5) (pe_un un_neg pe_int) (fun _ _ => rfl)) pa_nil))) pa_nil))))
            (pss_one (ps_if (pt_cmpR op_eq (pv 2) pe_int (nomark _))
              (pss_one (ps_expr (pe_bm PySem.F.plainAttrs_list PySem.F.slot_list_append PySem.F.type_list_append mt_append (pv 3) (pa_cons (pe_tup (pa_cons (pe_ix ix_list (pv 1) (pv 4) (fun _ _ => rfl)) (pa_cons (pe_ix ix_list (pv 5) (pe_callB (call_min2 rfl) rfl T.min PyProof.Rows.boot_min (pa_cons pe_int (pa_cons (pv 4) pa_nil))) (fun _ _ => rfl)) pa_nil))) pa_nil))))
              (pss_one (ps_expr (pe_bm PySem.F.plainAttrs_list PySem.F.slot_list_append PySem.F.type_list_append mt_append (pv 3) (pa_cons (pe_tup (pa_cons (pe_ix ix_list (pv 1) (pv 4) (fun _ _ => rfl)) (pa_cons (pe_d Da hr (by decide) rfl pass0 (pa_cons (pv 0) (pa_cons (pv 5) pa_nil))) pa_nil))) pa_nil))))))))))
      (pss_one (ps_ret (pe_callB (cr_sortN (G := PairAt) (k := fun q : Pr => q.1) (rest := fun q => [.str q.2]) (fun _ _ _ h => dp_pair h) (fun _ _ => rfl) (fun _ => by simp [PyData.depth, PyData.depthAll]) hr.units) rfl T.sorted PyProof.Rows.boot_sorted (pa_cons (pv 3) pa_nil)))))), ?_⟩
    refine ⟨_, rfl, sp, c, 4, rfl, hS, by decide, by decide, fun H1 way g1 hS1 w0 w1 => ?_⟩
    refine ⟨show (0 : Nat) ≤ sizeLine by decide, fun fo hfo => ⟨_, _, rfl, ?_⟩⟩
    have hl1 := g1.lst hl
    have nf := hS1.ne hfo
    have hl2 : upd H1 fo (.lst []) l = some (.lst (txs ns)) := Same.new hfo l _ hl1
    refine ⟨_, rfl, _, ns.length, rfl, .inl ⟨_, SqL.of hl2, by rw [txs, List.length_map]⟩, ns.length, rfl, by omega, by omega, ?_⟩
    rw [Int.toNat_natCast]
    refine for_it walk_range (fun i σ H' => (∃ a4 a5, σ = [some (.ref sp), some (.ref l), some (.int way), some (.ref fo), a4, a5]) ∧ ∃ xs ps, FoSt H1 H' sp c fo ns i xs ps) ⟨⟨_, _, rfl⟩, [], [], (Gr.refl H1).put hfo, hS1.new hfo, upd_same, .nil, rfl, fun q hq => nomatch hq⟩ (fun _ _ _ _ _ => trivial) ?_ ?_
    · rintro i x σ _ H2 hi ⟨⟨a4, a5, rfl⟩, xs, ps, st⟩ ⟨rfl, rfl⟩
      have hl3 := st.gr.lst hl1
      have hxs : xs.length ≤ 16 := by
        have e1 := Paired.length st.prs
        have e2 := congrArg List.length st.fst
        rw [List.length_map, List.length_take] at e2
        omega
      have hxs2 : xs.length < sizeLine := Nat.lt_of_le_of_lt hxs (by decide)
      obtain ⟨a, ha⟩ : ∃ a, ns[i]? = some a := ⟨_, List.getElem?_eq_getElem hi⟩
      have ha2 : atI (txs ns) (0 + (i : Int)) = some (.str a) := by
        rw [Int.zero_add]
        exact atI_nat (by rw [txs, List.getElem?_map, ha] <;> rfl)
      refine ⟨show (1 : Nat) ≤ sizeLine by decide, fun pA hA => ⟨_, rfl, _, rfl, 0 + (i : Int), rfl, l, _, rfl, SqL.of (Same.new hA l _ hl3), fun pB hB => ?_⟩⟩
      rw [show cutV (txs ns) none (some (0 + (i : Int))) = txs (ns.take i) by rw [Int.zero_add, cut_to]; exact (List.map_take ..).symm]
      refine ⟨pA, pB, [.str eS], txs (ns.take i), rfl, rfl, Same.new hB pA _ upd_same, upd_same, ?_, fun pC hC => ?_⟩
      · exact Nat.le_trans (show [V.str eS].length + (txs (ns.take i)).length ≤ 100 by rw [txs, List.length_map, List.length_take, List.length_singleton]; omega) (by decide)
      have gC := (Same.new (o := .lst [.str eS]) hA).trans ((Same.new (o := .lst (txs (ns.take i))) hB).trans (Same.new (o := .lst (txs (eS :: ns.take i))) hC))
      have st2 := st.on (Gr.of gC) (st.spo.sm gC)
      have hl4 := gC l _ hl3
      have hc4 : upd (upd (upd H2 pA (.lst [.str eS])) pB (.lst (txs (ns.take i)))) pC (.lst (txs (eS :: ns.take i))) pC = some (.lst (txs (eS :: ns.take i))) := upd_same
      rw [show [V.str eS] ++ txs (ns.take i) = txs (eS :: ns.take i) from rfl]
      generalize upd (upd (upd H2 pA (.lst [.str eS])) pB (.lst (txs (ns.take i)))) pC (.lst (txs (eS :: ns.take i))) = H4 at gC st2 hl4 hc4
      clear hA hB hC
      have hlen : (eS :: ns.take i).length = i + 1 := by rw [List.length_cons, List.length_take]; omega
      have get : ∀ j : Nat, j ≤ i → ∃ b, b ∈ eS :: ns.take i ∧ (txs (eS :: ns.take i))[j]? = some (.str b) := fun j hj => by
        have hj2 : j < (eS :: ns.take i).length := by rw [hlen]; omega
        exact ⟨(eS :: ns.take i)[j], List.getElem_mem hj2, by rw [txs, List.getElem?_map, List.getElem?_eq_getElem hj2] <;> rfl⟩
      refine ⟨_, rfl, rfl, _, rfl, ite2 (fun _ => ?_) fun _ => ?_⟩
      · obtain ⟨b, hb, eb⟩ := get i (Nat.le_refl _)
        have hat : atI (txs (eS :: ns.take i)) (-1) = some (.str b) := by
          have hne : txs (eS :: ns.take i) ≠ [] := by simp [txs]
          rw [← List.dropLast_concat_getLast hne, atI_last, List.getLast_eq_getElem]
          have e5 : (txs (eS :: ns.take i)).length - 1 = i := by rw [txs, List.length_map, hlen]; rfl
          have e6 := List.getElem?_eq_some_iff.mp eb
          obtain ⟨h6, e6⟩ := e6
          simp only [e5, e6]
        refine ⟨_, rfl, .inl ⟨rfl, _, SqL.of st2.at_⟩, _, rfl, _, rfl, l, _, _, _, rfl, rfl, SqL.of hl4, ha2, _, rfl, 1, rfl, pC, _, _, _, rfl, rfl, SqL.of hc4, hat, show (2 : Nat) ≤ sizeLine by decide, fun p hp => ?_⟩
        refine ⟨fo, xs, _, rfl, rfl, Same.new hp fo _ st2.at_, hxs2, ⟨_, _, rfl⟩, _, _, st2.step hfo nf ok.nd ha hb hp⟩
      · refine ⟨_, rfl, rfl, _, rfl, ite2 (fun _ => ?_) fun _ => ?_⟩
        · obtain ⟨b, hb, eb⟩ := get (min 1 i) (Nat.min_le_right _ _)
          have em : (if 0 + (i : Int) < 1 then 0 + (i : Int) else 1) = ((min 1 i : Nat) : Int) := by split <;> omega
          refine ⟨_, rfl, .inl ⟨rfl, _, SqL.of st2.at_⟩, _, rfl, _, rfl, l, _, _, _, rfl, rfl, SqL.of hl4, ha2, _, rfl, _, rfl, 1, 0 + (i : Int), rfl, pC, _, _, _, rfl, rfl, SqL.of hc4, by rw [em]; exact atI_nat eb, show (2 : Nat) ≤ sizeLine by decide, fun p hp => ?_⟩
          refine ⟨fo, xs, _, rfl, rfl, Same.new hp fo _ st2.at_, hxs2, ⟨_, _, rfl⟩, _, _, st2.step hfo nf ok.nd ha hb hp⟩
        · refine ⟨_, rfl, .inl ⟨rfl, _, SqL.of st2.at_⟩, _, rfl, _, rfl, l, _, _, _, rfl, rfl, SqL.of hl4, ha2, _, rfl, _, rfl, sp, c, pC, _, rfl, st2.spo, hc4, by simp [txs], ?_, fun H5 x g5 hS5 hx => ?_⟩
          · rw [txs, List.length_map, hlen]; omega
          · obtain ⟨b, hb, rfl⟩ := List.mem_map.mp hx
            have st5 := st2.on g5 hS5
            refine ⟨show (2 : Nat) ≤ sizeLine by decide, fun p hp => ?_⟩
            refine ⟨fo, xs, _, rfl, rfl, Same.new hp fo _ st5.at_, hxs2, ⟨_, _, rfl⟩, _, _, st5.step hfo nf ok.nd ha hb hp⟩
    · rintro σ H2 ⟨⟨a4, a5, rfl⟩, xs, ps, st⟩
      have hmap := st.fst
      rw [List.take_length] at hmap
      refine ⟨_, rfl, fo, xs, ps, rfl, SqL.of st.at_, st.prs, by rw [hmap]; exact ok.nd, ?_, fun ys cs p pm asc hys hp => ?_⟩
      · have := congrArg List.length hmap
        rw [List.length_map] at this
        omega
      · refine k _ p ys cs ((g1.trans st.gr).trans (Gr.of (Same.new hp))) (st.spo.new hp) upd_same (Prs.gr (Gr.of (Same.new hp)) hys) ⟨asc, by rw [← hmap]; exact pm.map _, fun q hq => st.und q (pm.mem_iff.mp hq)⟩
end
end K14
end

-- K14Up
section
set_option maxRecDepth 100000
set_option maxHeartbeats 2000000
/-! up from a place, what a forest uses -/
namespace K14
open PySem PySem.Spec PyProof.Rows L2
open PySem.W (Frag)
def kvP (ps : List Pr) : List (Key × V) := ps.map fun q => (Sum.inr q.1, V.str q.2)
theorem merge_all {G : V → Prop} : ∀ (more kvs : List (Key × V)), (∀ k v, valV kvs k = some v → G v) → (∀ p ∈ more, G p.2) → ∀ k v, valV (mergeK kvs more) k = some v → G v
  | [], kvs, h, _, k, v, e => h k v e
  | p :: r, kvs, h, h2, k, v, e => by
    refine merge_all r (putK kvs p.1 p.2) (fun k' v' e' => ?_) (fun q hq => h2 q (List.mem_cons_of_mem _ hq)) k v e
    rw [valV_put] at e'
    by_cases z : k' = p.1
    · rw [if_pos z] at e'
      rw [← Option.some.inj e']
      exact h2 p List.mem_cons_self
    · rw [if_neg z] at e'
      exact h k' v' e'
theorem kvP_some {ps : List Pr} {x : Str} (h : x ∈ ps.map (·.1)) : (valV (kvP ps) (Sum.inr x)).isSome = true := by
  induction ps with
  | nil => cases h
  | cons q ps ih =>
    by_cases e : (Sum.inr q.1 : Key) = Sum.inr x
    · rw [show kvP (q :: ps) = (Sum.inr q.1, V.str q.2) :: kvP ps from rfl, valV_pos e] <;> rfl
    · rw [show kvP (q :: ps) = (Sum.inr q.1, V.str q.2) :: kvP ps from rfl, valV_neg e]
      rcases List.mem_cons.mp h with z | z
      · exact absurd (by rw [z]) e
      · exact ih z
def Closed (ps : List Pr) : Prop := ∀ q ∈ ps, q.2 = eS ∨ q.2 ∈ ps.map (·.1)
theorem up_get {ps : List Pr} (hc : Closed ps) {x : Str} (h : x ∈ ps.map (·.1)) : ∃ y, valV (mergeK [] (kvP ps)) (Sum.inr x) = some (.str y) ∧ (y = eS ∨ y ∈ ps.map (·.1)) := by
  have h1 : (valV (mergeK [] (kvP ps)) (Sum.inr x)).isSome = true := by
    rw [mergeK_val, kvP_some h, Bool.or_true]
  obtain ⟨v, hv⟩ := Option.isSome_iff_exists.mp h1
  have h2 := merge_all (G := fun v => ∃ y, v = V.str y ∧ (y = eS ∨ y ∈ ps.map (·.1))) (kvP ps) [] (fun k v e => nomatch e) (fun p hp => by
    obtain ⟨q, hq, e⟩ := List.mem_map.mp hp
    rw [← e]
    exact ⟨q.2, rfl, hc q hq⟩) _ _ hv
  obtain ⟨y, rfl, hy⟩ := h2
  exact ⟨y, hv, hy⟩
theorem ForestOk.closed {ns : List Str} {ps : List Pr} (h : ForestOk ns ps) : Closed ps := fun q hq => by
  rcases h.par q hq with e | e
  · exact .inl e
  · exact .inr (h.all.mem_iff.mpr e.1)
theorem prs_at {H : Hp} : ∀ {xs : List V} {ps : List Pr} {i : Nat} {x : V}, Prs H xs ps → xs[i]? = some x → ∃ q, ps[i]? = some q ∧ PairAt H x q
  | _, _, _, _, .nil, e => by simp at e
  | _, _, 0, _, .cons h _, e => by simp at e; subst e; exact ⟨_, rfl, h⟩
  | _, _, i + 1, _, .cons _ t, e => by
    rw [List.getElem?_cons_succ] at e
    obtain ⟨q, h1, h2⟩ := prs_at t e
    exact ⟨q, by rw [List.getElem?_cons_succ]; exact h1, h2⟩
def spUp : Sp := fun vs H Q _ => ∃ (l : Addr) (xs : List V) (ps : List Pr) (x : Str), vs = [.ref l, .str x] ∧ H l = some (.lst xs) ∧ Prs H xs ps ∧ ps.length ≤ 16 ∧ Closed ps ∧ x ∈ ps.map (·.1) ∧ ∀ H' t ns, Same H H' → H' t = some (.tup (txs ns)) → Q (.ref t) H'
theorem pair_snoc {α β : Type} {R : α → β → Prop} {a : α} {b : β} (h : R a b) : ∀ {as : List α} {bs : List β}, Paired R as bs → Paired R (as ++ [a]) (bs ++ [b])
  | _, _, .nil => .cons h .nil
  | _, _, .cons x t => .cons x (pair_snoc h t)
theorem pair_mono {α β : Type} {R S : α → β → Prop} (f : ∀ a b, R a b → S a b) : ∀ {as : List α} {bs : List β}, Paired R as bs → Paired S as bs
  | _, _, .nil => .nil
  | _, _, .cons x t => .cons (f _ _ x) (pair_mono f t)
section
variable {P : Program} {w : World} {K : Frag} {mg : Str → Option Value} {base : Heap} {f : Addr} {fd : FuncData}
theorem sc_up : FnScope ["_law_pairs", "_law_place", "_law_table", "_law_found", "_law_lap", "_law_pair"] ["_law_pairs", "_law_place"] (defScope (top 60)) := ⟨rfl, rfl, rfl, by decide +kernel, rfl, by decide +kernel, by decide +kernel⟩
theorem ok_up (F : FnP K "_law_up" (top 60) f fd) (T : Txt mg) : FnOk P w K mg base CX0 1 f fd ["_law_pairs", "_law_place"] spUp := by
  refine F.ok sc_up (fun vs H Q E h => ?_) (fun cdv A outer s H vs Q E hr h => ?_)
  · obtain ⟨l, xs, ps, x, rfl, _⟩ := h
    rfl
  · have nd := sc_up.nd
    have hu := hu_of hr
    obtain ⟨l, xs, ps, x, rfl, hl, hps, hz, hcl, hx, k⟩ := h
    refine ⟨_, PSs.nox (pss_cons (ps_par (i := 2) (j := 3) rfl nd rfl rfl (by decide) rfl rfl (pa_cons (pe_callTy (call_dictP rfl) rfl T.dict PyProof.Rows.boot_dict (pa_cons
          (pe_lc (own := [("_law_pair", 5)]) (g := gName 5) (tt := tYes) (te := tTup (tCons (tOp (rIxT K) (tVar 5) (tC (.int 0))) (tCons (tOp (rIxT K) (tVar 5) (tC (.int 1))) tNil))) rfl nd (pi_list (pv 0)) (blkOk_by (N := ["_law_pairs", "_law_place", "_law_table", "_law_found", "_law_lap", "_law_pair"]) (sc := defScope (top 60)) (by decide +kernel))
            (fun _ _ _ _ _ => pg_name (i := 5) nd rfl (Or.inl rfl)) (fun _ _ _ _ _ => pts_nil) (fun _ _ _ _ _ => pe_tup (pa_cons (pe_ix ix_tup (pv 5) pe_int (fun _ _ => rfl)) (pa_cons (pe_ix ix_tup (pv 5) pe_int (fun _ _ => rfl)) pa_nil)))) pa_nil)) (pa_cons (pe_lst pa_nil) pa_nil)) (by rfl))
      (pss_cons (ps_for PassesOwn.never rfl (pi_range1 rfl T.range (pa_cons (pe_callB call_len rfl T.len PySem.boot_len (pa_cons (pv 0) pa_nil)) pa_nil)) (pg_name (i := 4) nd rfl (Or.inl rfl))
        (pss_one (ps_if (pt_cmpR op_ne (pv 1) pe_str (nomark _))
          (pss_cons (ps_expr (pe_bm PySem.F.plainAttrs_list PySem.F.slot_list_append PySem.F.type_list_append mt_append (pv 3) (pa_cons (pv 1) pa_nil)))
            (pss_one (ps_set (i := 1) nd rfl (.inl rfl) (pe_dget hu (pv 2) (pv 1) (fun _ _ => rfl))))) pss_nil)))
      (pss_one (ps_ret (pe_callTy call_tuple_of rfl T.tuple (by decide +kernel) (pa_cons (pv 3) pa_nil)))))), ?_⟩
    have hxs : xs.length = ps.length := Paired.length hps
    refine ⟨_, rfl, l, rfl, ⟨xs, SqL.of hl⟩, fun D hD => lc_it (walk_list (xs := xs)) (fun i H' => ∃ as : List Addr, H' D = some (.lst (as.map V.ref)) ∧ Paired (fun (p : Addr) (kv : Key × V) => H' p = some (.tup [kV kv.1, kv.2])) as (kvP (ps.take i)) ∧ Same H H') ⟨[], upd_same, .nil, Same.new hD⟩ ?_ ?_ ?_⟩
    · rintro i H' _ ⟨as, _, _, s1⟩
      exact SqL.of (s1 l _ hl)
    · rintro i v _ H2 hi ⟨as, hd2, hp2, s1⟩ ⟨rfl, hv⟩
      obtain ⟨q, hq, p, rfl, hpq⟩ := prs_at hps hv
      have hpq2 := s1 p _ hpq
      have has : as.length ≤ 16 := by
        have e1 := Paired.length hp2
        rw [kvP, List.length_map, List.length_take] at e1
        omega
      refine ⟨rfl, tyesT ⟨_, rfl, p, _, 0, _, rfl, rfl, SqT.of hpq2, rfl, _, rfl, p, _, 1, _, rfl, rfl, SqT.of hpq2, rfl, show (2 : Nat) ≤ sizeLine by decide, fun t ht => ?_⟩⟩
      have s2 : Same H2 (upd H2 t (.tup [.str q.1, .str q.2])) := Same.new ht
      have htD : t ≠ D := fun z => by rw [z, hd2] at ht; cases ht
      refine ⟨as.map V.ref, s2 D _ hd2, Nat.lt_of_le_of_lt (by rw [List.length_map]; exact has) (show 16 < sizeLine by decide), as ++ [t], by rw [upd_same, List.map_append] <;> rfl, ?_, Same.put (s1.trans s2) hD⟩
      rw [take_snoc hq, kvP, List.map_append]
      refine pair_snoc ?_ (pair_mono (fun a b h => ?_) hp2)
      · rw [upd_ne htD, upd_same] <;> rfl
      · have h2 := s2 a _ h
        rw [upd_ne (fun z => by rw [z, hd2] at h; cases h)]
        exact h2
    · rintro H2 ⟨as, hd2, hp2, s1⟩
      rw [hxs, List.take_length] at hp2
      refine ⟨D, as, kvP ps, rfl, SqL.of hd2, pair_mono (fun a b h => SqT.of h) hp2, fun d hd => ⟨show (0 : Nat) ≤ sizeLine by decide, fun fo hfo => ⟨_, _, rfl, ?_⟩⟩⟩
      have s3 := s1.trans ((Same.new (o := .dK (mergeK [] (kvP ps))) hd).trans (Same.new (o := .lst []) hfo))
      have hd3 := Same.new (o := .lst []) hfo d _ (upd_same (H := H2) (a := d) (o := .dK (mergeK [] (kvP ps))))
      have h0 : H fo = none := Same.free (s1.trans (Same.new hd)) hfo
      have nfd : d ≠ fo := fun z => by rw [← z, upd_same] at hfo; cases hfo
      refine ⟨_, rfl, _, xs.length, rfl, .inl ⟨_, SqL.of (s3 l _ hl), rfl⟩, xs.length, rfl, by omega, by omega, ?_⟩
      rw [Int.toNat_natCast]
      refine for_it walk_range (fun i σ H' => (∃ y a4 a5, σ = [some (.ref l), some (.str y), some (.ref d), some (.ref fo), a4, a5] ∧ (y = eS ∨ y ∈ ps.map (·.1))) ∧ Same H H' ∧ H' d = some (.dK (mergeK [] (kvP ps))) ∧ ∃ ns, H' fo = some (.lst (txs ns)) ∧ ns.length ≤ i) ⟨⟨_, _, _, rfl, .inr hx⟩, s3, hd3, [], upd_same, Nat.le_refl _⟩ (fun _ _ _ _ _ => trivial) ?_ ?_
      · rintro i v σ _ H4 hi ⟨⟨y, a4, a5, rfl, hy⟩, s4, hd4, ns, hf4, hns⟩ ⟨rfl, rfl⟩
        have hnz : (txs ns).length < sizeLine := Nat.lt_of_le_of_lt (by rw [txs, List.length_map]; omega) (show 16 < sizeLine by decide)
        refine ⟨_, rfl, rfl, _, rfl, ?_⟩
        by_cases e : y = eS
        · rw [show (!decide (V.str y = V.str "")) = false by rw [e]; rfl]
          exact iteF ⟨⟨_, _, _, rfl, hy⟩, s4, hd4, ns, hf4, by omega⟩
        · rw [show (!decide (V.str y = V.str "")) = true by rw [decide_eq_false (fun z => e (V.str.inj z))]; rfl]
          have hy2 : y ∈ ps.map (·.1) := hy.resolve_left e
          obtain ⟨y', e1, e2⟩ := up_get hcl hy2
          have hd5 : upd H4 fo (.lst (txs ns ++ [.str y])) d = some (.dK (mergeK [] (kvP ps))) := by rw [upd_ne nfd]; exact hd4
          refine iteT ⟨_, rfl, .inl ⟨rfl, _, SqL.of hf4⟩, _, rfl, fo, _, _, rfl, rfl, hf4, hnz, ?_⟩
          refine ⟨_, rfl, _, rfl, d, _, rfl, (by have := DGet.k (k := Sum.inr y) hd5; rw [e1] at this; exact this), ⟨_, _, _, rfl, e2⟩, Same.put s4 h0, hd5, ns ++ [y], ?_, ?_⟩
          · rw [upd_same, txs, txs, List.map_append] <;> rfl
          · rw [List.length_append, List.length_singleton]; omega
      · rintro σ H4 ⟨⟨y, a4, a5, rfl, hy⟩, s4, hd4, ns, hf4, hns⟩
        exact ⟨_, rfl, fo, _, rfl, .inl ⟨SqL.of hf4, fun t ht => k _ t ns (s4.trans (Same.new ht)) upd_same⟩⟩
end
end K14
end

-- K14Case
section
set_option maxRecDepth 100000
set_option maxHeartbeats 2000000
/-! a case: a plan and a load -/
namespace K14
open PySem PySem.Spec PyProof.Rows L2
open PySem.W (Frag)
abbrev lds : List Int := [0, 0, 1, 1, 2, 3, 10 ^ 30]
def LoadOk (ls : List Int) : Prop := ∀ z ∈ ls, 0 ≤ z ∧ z ≤ 10 ^ 30
theorem sum_le {ls : List Int} (h : LoadOk ls) : 0 ≤ ls.sum ∧ ls.sum ≤ ls.length * 10 ^ 30 := by
  induction ls with
  | nil => exact ⟨Int.le_refl _, by simp⟩
  | cons z ls ih =>
    obtain ⟨a, b⟩ := ih fun y hy => h y (List.mem_cons_of_mem _ hy)
    obtain ⟨c, d⟩ := h z List.mem_cons_self
    rw [List.sum_cons, List.length_cons]
    constructor
    · omega
    · have e : (((ls.length + 1 : Nat) : Int)) * 10 ^ 30 = (ls.length : Int) * 10 ^ 30 + 10 ^ 30 := by
        rw [Int.natCast_add, Int.add_mul] <;> rfl
      rw [e]
      omega
def spUses : Sp := fun vs H Q _ => ∃ (l t : Addr) (xs : List V) (ps : List Pr) (ls : List Int) (x : Str), vs = [.ref l, .ref t, .str x] ∧ H l = some (.lst xs) ∧ Prs H xs ps ∧ ps.length ≤ 16 ∧ Closed ps ∧ H t = some (.tup (zs ls)) ∧ ls.length = ps.length ∧ LoadOk ls ∧
  ∀ H' u, Same H H' → 0 ≤ u → u ≤ 16 * 10 ^ 30 → Q (.int u) H'
section
variable {P : Program} {w : World} {K : Frag} {mg : Str → Option Value} {base : Heap} {f : Addr} {fd : FuncData}
theorem sc_uses : FnScope ["_law_pairs", "_law_load", "_law_label", "_law_k"] ["_law_pairs", "_law_load", "_law_label"] (defScope (top 61)) := ⟨rfl, rfl, rfl, by decide +kernel, rfl, by decide +kernel, by decide +kernel⟩
theorem ok_uses (F : FnP K "_law_uses" (top 61) f fd) (T : Txt mg) (Du : Dn P w K mg base CX0 1 "_law_up" [] spUp) : FnOk P w K mg base CX0 2 f fd ["_law_pairs", "_law_load", "_law_label"] spUses := by
  refine F.ok sc_uses (fun vs H Q E h => ?_) (fun cdv A outer s H vs Q E hr h => ?_)
  · obtain ⟨l, t, xs, ps, ls, x, rfl, _⟩ := h
    rfl
  · have nd := sc_uses.nd
    obtain ⟨l, t, xs, ps, ls, x, rfl, hl, hps, hz, hcl, ht, hls, hlo, k⟩ := h
    refine ⟨_, PSs.nox (pss_one (ps_ret (pe_callB (cr_sum rfl) rfl T.sum PyProof.Rows.boot_sum (pa_cons
      (pe_lc (own := [("_law_k", 3)]) (g := gName 3) (tt := tTest (tOp (rIn K false) (tVar 2) (tCall spUp [] E0 (tCons (tVar 0) (tCons (tOp (rIxT K) (tOp (rIxL K) (tVar 0) (tVar 3)) (tC (.int 0))) tNil))))) (te := tOp (rIxT K) (tVar 1) (tVar 3)) rfl nd (pi_range1 rfl T.range (pa_cons (pe_callB call_len rfl T.len PySem.boot_len (pa_cons (pv 0) pa_nil)) pa_nil))
        (blkOk_by (N := ["_law_pairs", "_law_load", "_law_label", "_law_k"]) (sc := defScope (top 61)) (by decide +kernel))
        (fun _ _ _ _ _ => pg_name (i := 3) nd rfl (Or.inl rfl)) (fun _ _ _ _ _ => pts_one (pt_cmpR op_in_seq (pv 2) (pe_d Du hr (by decide) rfl pass0 (pa_cons (pv 0) (pa_cons (pe_ix ix_tup (pe_ix ix_list (pv 0) (pv 3) (fun _ _ => rfl)) pe_int (fun _ _ => rfl)) pa_nil))) rfl))
        (fun _ _ _ _ _ => pe_ix ix_tup (pv 1) (pv 3) (fun _ _ => rfl))) pa_nil)))), ?_⟩
    have hxs : xs.length = ps.length := Paired.length hps
    refine ⟨_, rfl, _, xs.length, rfl, .inl ⟨_, SqL.of hl, rfl⟩, xs.length, rfl, by omega, by omega, fun D hD => ?_⟩
    rw [Int.toNat_natCast]
    refine lc_it walk_range (fun i H' => ∃ us : List Int, H' D = some (.lst (zs us)) ∧ us.length ≤ i ∧ LoadOk us ∧ Same H H') ⟨[], upd_same, Nat.le_refl _, (fun z hz => nomatch hz), Same.new hD⟩ (fun _ _ _ _ => trivial) ?_ ?_
    · rintro i v _ H2 hi ⟨us, hd2, hul, huo, s1⟩ ⟨rfl, rfl⟩
      have hi2 : i < xs.length := hi
      obtain ⟨q, hq, p, hxp, hpq⟩ := prs_at hps (List.getElem?_eq_getElem hi2)
      have hat : atI xs (0 + (i : Int)) = some (.ref p) := by
        rw [Int.zero_add, ← hxp]
        exact atI_nat (List.getElem?_eq_getElem hi2)
      have hil : i < ls.length := by omega
      have hat2 : atI (zs ls) (0 + (i : Int)) = some (.int ls[i]) := by
        rw [Int.zero_add]
        exact atI_nat (by rw [zs, List.getElem?_map, List.getElem?_eq_getElem hil] <;> rfl)
      refine ⟨rfl, _, rfl, _, rfl, _, rfl, _, rfl, l, xs, _, _, rfl, rfl, SqL.of (s1 l _ hl), hat, p, _, 0, _, rfl, rfl, SqT.of (s1 p _ hpq), rfl, ?_⟩
      refine ⟨l, xs, ps, q.1, rfl, s1 l _ hl, Prs.gr (Gr.of s1) hps, hz, hcl, List.mem_map.mpr ⟨q, List.mem_of_getElem? hq, rfl⟩, fun H3 t3 ns s3 ht3 => ?_⟩
      have s13 := s1.trans s3
      refine ⟨t3, _, rfl, .inr (SqT.of ht3), rfl, flat_txs _, _, rfl, ?_⟩
      show if inV _ _ = true then _ else _
      split
      · refine ⟨_, rfl, _, rfl, t, _, _, _, rfl, rfl, SqT.of (s13 t _ ht), hat2, zs us, s3 D _ hd2, ?_, us ++ [ls[i]], ?_, ?_, ?_, Same.put s13 hD⟩
        · exact Nat.lt_of_le_of_lt (by rw [zs, List.length_map]; omega) (show 16 < sizeLine by decide)
        · rw [upd_same, zs, zs, List.map_append] <;> rfl
        · rw [List.length_append, List.length_singleton]; omega
        · intro z hz
          rcases List.mem_append.mp hz with m | m
          · exact huo z m
          · rw [List.mem_singleton.mp m]
            exact hlo _ (List.getElem_mem hil)
      · exact ⟨us, s3 D _ hd2, by omega, huo, s13⟩
    · rintro H2 ⟨us, hd2, hul, huo, s1⟩
      obtain ⟨b1, b2⟩ := sum_le huo
      refine ⟨D, us, rfl, SqL.of hd2, k _ _ s1 b1 (Int.le_trans b2 ?_)⟩
      exact Int.mul_le_mul_of_nonneg_right (by omega) (by decide)
/-- a plan and a load -/
def spCase : Sp := fun vs H Q _ => ∃ (sp c : Addr) (m : Int), vs = [.ref sp, .int m] ∧ SpoolAt H sp c ∧ 1 ≤ m ∧ m ≤ 3 ∧
  ∀ H' p t ld R, Gr H H' → SpoolAt H' sp c → H' p = some (.tup [.ref t, .ref ld]) → TupAt H' t R → TreeOk R → R.length ≤ 3 → (∀ r ∈ R, r.1 ≠ nob) → Q (.ref p) H'
theorem sc_case : FnScope ["_law_spool_here", "_law_most", "_law_names_here", "_law_pairs", "_law_found", "_law_pair", "_law_load"] ["_law_spool_here", "_law_most"] (defScope (top 62)) := ⟨rfl, rfl, rfl, by decide +kernel, rfl, by decide +kernel, by decide +kernel⟩
theorem plan_ok {ns : List Str} {ps : List Pr} {R : List Row} (ok : NamesOk ns) (h : ForestOk ns ps) (hR : R.map (fun r => (r.1, r.2.1)) = ps) (hr : ∀ r ∈ R, 0 ≤ r.2.2 ∧ r.2.2 < roomLine) (hn : ns ≠ []) (hl : ns.length ≤ 16) : TreeOk R ∧ (∀ r ∈ R, r.1 ≠ nob) := by
  have hlen : ps.length = ns.length := by
    have := h.all.length_eq
    rwa [List.length_map] at this
  have hlR : R.length = ps.length := by rw [← hR, List.length_map]
  have e1 : names R = ps.map (·.1) := by
    rw [← hR, List.map_map] <;> rfl
  have mem : ∀ r ∈ R, (r.1, r.2.1) ∈ ps := fun r hr => by rw [← hR]; exact List.mem_map.mpr ⟨r, hr, rfl⟩
  have nm : ∀ r ∈ R, r.1 ∈ ns := fun r hr => h.all.mem_iff.mp (List.mem_map.mpr ⟨_, mem r hr, rfl⟩)
  refine ⟨⟨fun z => ?_, ?_, fun r hr => (ok.nm _ (nm r hr)).1, fun r hr => ?_, hr, ⟨fun x => ns.idxOf x, fun r hr ne => ?_⟩, by omega⟩, fun r hr => (ok.nm _ (nm r hr)).2⟩
  · rw [z] at hlR
    exact hn (List.length_eq_zero_iff.mp (by rw [← hlen, ← hlR]; rfl))
  · have := h.asc
    rw [← hR] at this
    exact (List.pairwise_map (f := fun r : Row => (r.1, r.2.1)) (R := fun a b : Pr => nlt a.1 b.1)).mp this
  · rcases h.par _ (mem r hr) with e | e
    · exact .inl e
    · exact .inr (by rw [e1]; exact h.all.mem_iff.mpr e.1)
  · rcases h.par _ (mem r hr) with e | e
    · exact absurd e ne
    · exact e.2
theorem rows_put {H : Hp} {l : Addr} {o o' : HO} (hl : H l = some o) (ho : ∀ ys, o ≠ .tup ys) : ∀ {xs : List V} {R : List Row}, Rows H xs R → Rows (upd H l o') xs R
  | _, _, .nil => .nil
  | _, _, .cons ⟨p, e, h⟩ t => .cons ⟨p, e, by
      rw [upd_ne (fun z => by rw [z, hl] at h; exact ho _ (Option.some.inj h))]
      exact h⟩ (rows_put hl ho t)
structure CaSt (H1 H2 : Hp) (sp c fo t : Addr) (us : List Int) (ps : List Pr) (i : Nat) (ys : List V) (R : List Row) : Prop where
  gr : Gr H1 H2
  spo : SpoolAt H2 sp c
  at_ : H2 fo = some (.lst ys)
  ld : H2 t = some (.tup (zs us))
  rows : Rows H2 ys R
  prs : R.map (fun r => (r.1, r.2.1)) = ps.take i
  room : ∀ r ∈ R, 0 ≤ r.2.2 ∧ r.2.2 < roomLine
theorem CaSt.on {H1 H2 H3 : Hp} {sp c fo t : Addr} {us : List Int} {ps : List Pr} {i : Nat} {ys : List V} {R : List Row} (h : CaSt H1 H2 sp c fo t us ps i ys R) (g : Gr H2 H3) (hS : SpoolAt H3 sp c) : CaSt H1 H3 sp c fo t us ps i ys R :=
  ⟨h.gr.trans g, hS, g.lst h.at_, g.tup h.ld, Rows.gr g h.rows, h.prs, h.room⟩
theorem CaSt.step {H1 H2 : Hp} {sp c fo t p : Addr} {us : List Int} {ps : List Pr} {i : Nat} {ys : List V} {R : List Row} {q : Pr} {z : Int} (h : CaSt H1 H2 sp c fo t us ps i ys R) (h0 : H1 fo = none) (nf : fo ≠ sp ∧ fo ≠ c) (hq : ps[i]? = some q) (hz : 0 ≤ z ∧ z < roomLine) (hp : H2 p = none) :
    CaSt H1 (upd (upd H2 p (.tup [.str q.1, .str q.2, .int z])) fo (.lst (ys ++ [.ref p]))) sp c fo t us ps (i + 1) (ys ++ [.ref p]) (R ++ [(q.1, q.2, z)]) := by
  have g : Gr H2 (upd H2 p (.tup [.str q.1, .str q.2, .int z])) := Gr.of (Same.new hp)
  have hfp : upd H2 p (.tup [.str q.1, .str q.2, .int z]) fo = some (.lst ys) := g.lst h.at_
  have npf : p ≠ fo := fun z => by rw [z, h.at_] at hp; cases hp
  have ntf : t ≠ fo := fun z => by
    have := h.ld
    rw [z, h.at_] at this
    cases this
  refine ⟨(h.gr.trans g).put h0, (h.spo.new hp).put nf.1 nf.2, upd_same, ?_, ?_, ?_, fun r hr => ?_⟩
  · rw [upd_ne ntf]
    exact g.tup h.ld
  · refine pair_snoc ⟨p, rfl, ?_⟩ (rows_put hfp (fun _ z => nomatch z) (Rows.gr g h.rows))
    rw [upd_ne npf, upd_same]
  · rw [List.map_append, h.prs, take_snoc hq] <;> rfl
  · rcases List.mem_append.mp hr with m | m
    · exact h.room r m
    · rw [List.mem_singleton.mp m]
      exact hz
theorem ok_case (F : FnP K "_law_case" (top 62) f fd) (T : Txt mg) (Dpl : Dn P w K mg base CX0 1 "_law_pull" [] spPull) (Da : Dn P w K mg base CX0 2 "_law_any" [] spAny) (Dn3 : Dn P w K mg base CX0 3 "_law_names" [] spNames16)
    (Df : Dn P w K mg base CX0 3 "_law_forest" [] spForest) (Du : Dn P w K mg base CX0 2 "_law_uses" [] spUses) : FnOk P w K mg base CX0 4 f fd ["_law_spool_here", "_law_most"] spCase := by
  refine F.ok sc_case (fun vs H Q E h => ?_) (fun cdv A outer s H vs Q E hr h => ?_)
  · obtain ⟨sp, c, m, rfl, _⟩ := h
    rfl
  · have nd := sc_case.nd
    have hu := hu_of hr
    obtain ⟨sp, c, m, rfl, hS, m1, m2, k⟩ := h
    refine ⟨_, PSs.nox (pss_cons (ps_set (i := 2) nd rfl (.inl rfl) (pe_slice sl_list (pe_d Dn3 hr (by decide) rfl pass0 (pa_cons (pv 0) pa_nil)) po_none (po_some (pe_op op_add pe_int (pe_d Dpl hr (by decide) rfl pass0 (pa_cons (pv 0) (pa_cons (pv 1) pa_nil)))))))
      (pss_cons (ps_par (i := 3) (j := 4) rfl nd rfl rfl (by decide) rfl rfl (pa_cons (pe_d Df hr (by decide) rfl pass0 (pa_cons (pv 0) (pa_cons (pv 2) pa_nil))) (pa_cons (pe_lst pa_nil) pa_nil)) (by rfl))
      (pss_cons (ps_set (i := 6) nd rfl (.inl rfl) (pe_callTy call_tuple_of rfl T.tuple (by decide +kernel) (pa_cons
        (pe_lc (own := [("_law_pair", 5)]) (g := gName 5) (tt := tYes) (te := tCall spAny [] E0 (tCons (tVar 0) (tCons (tLst (tCons (tC (.int 0)) (tCons (tC (.int 0)) (tCons (tC (.int 1)) (tCons (tC (.int 1)) (tCons (tC (.int 2)) (tCons (tC (.int 3)) (tCons (tOp (rI CPow fun i j => .int (i ^ j.toNat)) (tC (.int 10)) (tC (.int 30))) tNil)))))))) tNil))) rfl nd (pi_list (pv 3))
          (blkOk_by (N := ["_law_spool_here", "_law_most", "_law_names_here", "_law_pairs", "_law_found", "_law_pair", "_law_load"]) (sc := defScope (top 62)) (by decide +kernel))
          (fun _ _ _ _ _ => pg_name (i := 5) nd rfl (Or.inl rfl)) (fun _ _ _ _ _ => pts_nil)
          (fun _ _ _ _ _ => pe_d Da hr (by decide) rfl pass0 (pa_cons (pv 0) (pa_cons (pe_lst (pa_cons pe_int (pa_cons pe_int (pa_cons pe_int (pa_cons pe_int (pa_cons pe_int (pa_cons pe_int (pa_cons (pe_op op_pow pe_int pe_int) pa_nil)))))))) pa_nil)))) pa_nil)))
      (pss_cons (ps_for PassesOwn.never rfl (pi_list (pv 3)) (pg_name (i := 5) nd rfl (Or.inl rfl))
        (pss_one (ps_expr (pe_bm PySem.F.plainAttrs_list PySem.F.slot_list_append PySem.F.type_list_append mt_append (pv 4) (pa_cons (pe_op op_catT (pv 5) (pe_tup (pa_cons (pe_op op_add (pe_d Du hr (by decide) rfl pass0 (pa_cons (pv 3) (pa_cons (pv 6) (pa_cons (pe_ix ix_tup (pv 5) pe_int (fun _ _ => rfl)) pa_nil))))
          (pe_d Da hr (by decide) rfl pass0 (pa_cons (pv 0) (pa_cons (pe_lst (pa_cons pe_int (pa_cons pe_int (pa_cons pe_int (pa_cons pe_int (pa_cons pe_int (pa_cons pe_int pa_nil))))))) pa_nil)))) pa_nil))) pa_nil)))))
      (pss_one (ps_ret (pe_tup (pa_cons (pe_callTy call_tuple_of rfl T.tuple (by decide +kernel) (pa_cons (pv 4) pa_nil)) (pa_cons (pv 6) pa_nil))))))))), ?_⟩
    have zl : ∀ {n : Nat}, n ≤ 100 → n ≤ sizeLine := fun h => Nat.le_trans h (by decide)
    refine ⟨_, rfl, sp, c, rfl, hS, fun H1 l ns g1 hS1 hl1 ok hl16 => ?_⟩
    refine ⟨_, rfl, _, rfl, sp, c, m, rfl, hS1, m1, by omega, fun H2 r g2 hS2 r0 r1 => ⟨1, r, rfl, rfl, _, rfl, l, txs ns, rfl, SqL.of (g2.lst hl1), fun pN hN => ?_⟩⟩
    obtain ⟨j, rfl⟩ := Int.eq_ofNat_of_zero_le r0
    rw [show cutV (txs ns) none (some (1 + (j : Int))) = txs (ns.take (1 + j)) by
      rw [show (1 + (j : Int)) = ((1 + j : Nat) : Int) by omega, cut_to]
      exact (List.map_take ..).symm]
    have ok1 : NamesOk (ns.take (1 + j)) := ok.sub (List.take_sublist _ _)
    have hl3 : (ns.take (1 + j)).length = 1 + j := by rw [List.length_take]; omega
    generalize ns.take (1 + j) = n1 at ok1 hl3
    have G3 : Gr H (upd H2 pN (.lst (txs n1))) := (g1.trans g2).trans (Gr.of (Same.new hN))
    refine ⟨_, rfl, _, rfl, sp, c, pN, n1, rfl, hS2.new hN, upd_same, ok1, by omega, fun H4 l4 xs ps g4 hS4 hl4 hps fok => ⟨zl (show (0 : Nat) ≤ 100 by decide), fun fo hfo => ⟨_, _, rfl, ?_⟩⟩⟩
    have hps3 : ps.length ≤ 3 := by
      have := fok.all.length_eq
      rw [List.length_map] at this
      omega
    have hxs : xs.length = ps.length := Paired.length hps
    have nf := hS4.ne hfo
    have s5 : Same H4 (upd H4 fo (.lst [])) := Same.new hfo
    have hl5 := s5 l4 _ hl4
    have hS5 := hS4.sm s5
    have hf5 : upd H4 fo (.lst []) fo = some (.lst []) := upd_same
    generalize upd H4 fo (.lst []) = H5 at s5 hl5 hS5 hf5
    refine ⟨_, rfl, l4, rfl, ⟨xs, SqL.of hl5⟩, fun D hD => ?_⟩
    have nD := hS5.ne hD
    refine lc_it (walk_list (xs := xs)) (fun i H' => ∃ us : List Int, H' D = some (.lst (zs us)) ∧ us.length = i ∧ LoadOk us ∧ Gr H5 H' ∧ SpoolAt H' sp c) ⟨[], upd_same, rfl, (fun z hz => nomatch hz), Gr.of (Same.new hD), hS5.new hD⟩ ?_ ?_ ?_
    · rintro i H' _ ⟨us, _, _, _, g, _⟩
      exact SqL.of (g.lst hl5)
    · rintro i v _ H6 hi ⟨us, hd, hul, huo, g, hS6⟩ ⟨rfl, hv⟩
      refine ⟨rfl, tyesT ⟨_, rfl, 10, 30, rfl, rfl, ⟨by decide, by decide, by decide⟩, zl (show (7 : Nat) ≤ 100 by decide), fun q hq => ?_⟩⟩
      refine ⟨sp, c, q, zs lds, rfl, hS6.new hq, upd_same, by decide, by decide, fun H7 x g7 hS7 hx => ?_⟩
      obtain ⟨z, hz, rfl⟩ := List.mem_map.mp hx
      have hz2 : 0 ≤ z ∧ z ≤ 10 ^ 30 := by
        have : ∀ y ∈ lds, 0 ≤ y ∧ y ≤ 10 ^ 30 := by decide
        exact this z hz
      have g67 := (Gr.of (Same.new (o := .lst (zs lds)) hq)).trans g7
      refine ⟨zs us, g67.lst hd, Nat.lt_of_le_of_lt (by rw [zs, List.length_map]; omega) (show 3 < sizeLine by decide), us ++ [z], ?_, ?_, ?_, (g.trans g67).put hD, hS7.put nD.1 nD.2⟩
      · rw [upd_same, zs, zs, List.map_append] <;> rfl
      · rw [List.length_append, List.length_singleton, hul]
      · intro y hy
        rcases List.mem_append.mp hy with e | e
        · exact huo y e
        · rw [List.mem_singleton.mp e]; exact hz2
    · rintro H6 ⟨us, hd, hul, huo, g, hS6⟩
      refine ⟨D, zs us, rfl, .inl ⟨SqL.of hd, fun t ht => ?_⟩⟩
      have S7 : Same H6 (upd H6 t (.tup (zs us))) := Same.new ht
      have g47 : Gr H4 (upd H6 t (.tup (zs us))) := ((Gr.of s5).trans g).trans (Gr.of S7)
      refine ⟨_, rfl, l4, rfl, ⟨xs, SqL.of (g47.lst hl4)⟩, for_it (walk_list (xs := xs)) (fun i σ H' => (∃ a5, σ = [some (.ref sp), some (.int m), some (.ref pN), some (.ref l4), some (.ref fo), a5, some (.ref t)]) ∧ ∃ ys R, CaSt H4 H' sp c fo t us ps i ys R)
        ⟨⟨_, rfl⟩, [], [], g47, hS6.sm S7, S7 fo _ (g.lst hf5), upd_same, .nil, rfl, fun r hr => nomatch hr⟩ ?_ ?_ ?_⟩
      · rintro i σ H' _ ⟨_, ys, R, st⟩
        exact SqL.of (st.gr.lst hl4)
      · rintro i v σ _ H8 hi ⟨⟨a5, rfl⟩, ys, R, st⟩ ⟨rfl, hv⟩
        obtain ⟨q, hq, p, rfl, hpq⟩ := prs_at hps hv
        have hys : ys.length ≤ 3 := by
          have e1 := Paired.length st.rows
          have e2 := congrArg List.length st.prs
          rw [List.length_map, List.length_take] at e2
          omega
        have hp8 := st.gr.tup hpq
        refine ⟨_, rfl, .inl ⟨rfl, _, SqL.of st.at_⟩, _, rfl, _, rfl, _, rfl, _, rfl, p, _, 0, _, rfl, rfl, SqT.of hp8, rfl, ?_⟩
        refine ⟨l4, t, xs, ps, us, q.1, rfl, st.gr.lst hl4, Prs.gr st.gr hps, by omega, fok.closed, st.ld, by omega, huo, fun H9 u s9 u0 u1 => ?_⟩
        refine ⟨_, rfl, zl (show (6 : Nat) ≤ 100 by decide), fun qa hqa => ?_⟩
        have hS9 := st.spo.sm s9
        refine ⟨sp, c, qa, zs [0, 0, 0, 1, 2, 7], rfl, hS9.new hqa, upd_same, by decide, by decide, fun H10 x g10 hS10 hx => ?_⟩
        obtain ⟨z, hz, rfl⟩ := List.mem_map.mp hx
        have hz2 : 0 ≤ z ∧ z ≤ 7 := by
          have : ∀ y ∈ ([0, 0, 0, 1, 2, 7] : List Int), 0 ≤ y ∧ y ≤ 7 := by decide
          exact this z hz
        have g8 : Gr H8 H10 := (Gr.of s9).trans ((Gr.of (Same.new hqa)).trans g10)
        have hp10 := g8.tup hp8
        refine ⟨u, z, rfl, rfl, zl (show (1 : Nat) ≤ 100 by decide), fun pt hpt => ?_⟩
        refine ⟨p, pt, [.str q.1, .str q.2], [.int (u + z)], rfl, rfl, SqT.of (Same.new hpt p _ hp10), SqT.of upd_same, (fun z => nomatch z), zl (show (3 : Nat) ≤ 100 by decide), (fun z => nomatch z), fun _ pr hpr => ?_⟩
        have st2 := st.on (g8.trans (Gr.of (Same.new (o := .tup [.int (u + z)]) hpt))) (hS10.new hpt)
        refine ⟨fo, ys, _, rfl, rfl, Same.new hpr fo _ st2.at_, Nat.lt_of_le_of_lt hys (show 3 < sizeLine by decide), ⟨_, rfl⟩, _, _, st2.step hfo nf hq ⟨by omega, ?_⟩ hpr⟩
        have : (16 : Int) * 10 ^ 30 + 7 < roomLine := by decide
        omega
      · rintro σ H8 ⟨⟨a5, rfl⟩, ys, R, st⟩
        have hp8 := st.prs
        rw [hxs, List.take_length] at hp8
        have hR : R.length ≤ 3 := by
          have := congrArg List.length hp8
          rw [List.length_map] at this
          omega
        obtain ⟨TR, nb⟩ := plan_ok ok1 fok hp8 st.room (fun z => by rw [z, List.length_nil] at hl3; omega) (by omega)
        refine ⟨_, rfl, fo, ys, rfl, .inl ⟨SqL.of st.at_, fun t2 ht2 => ⟨_, rfl, zl (show (2 : Nat) ≤ 100 by decide), fun pp hpp => ?_⟩⟩⟩
        have s10 := (Same.new (o := .tup ys) ht2).trans (Same.new (o := .tup [.ref t2, .ref t]) hpp)
        exact k _ pp t2 t R (((G3.trans g4).trans st.gr).trans (Gr.of s10)) (st.spo.sm s10) upd_same ⟨ys, Same.new hpp t2 _ upd_same, Rows.sm s10 st.rows⟩ TR hR nb
end
end K14
end

-- K14Due
section
set_option maxRecDepth 100000
set_option maxHeartbeats 2000000
/-! what is due -/
namespace K14
open PySem PySem.Spec PyProof.Rows L2
open PySem.W (Frag)
def spWordL : Sp := fun vs H Q _ => ∃ x : Str, vs = [.str x] ∧ Q (.str (spotW x)) H
def spRowL : Sp := fun vs H Q _ => ∃ (x : V) (r : Row), vs = [x] ∧ RowAt H x r ∧ RowFit r ∧ ∀ H', Same H H' → Q (.str (rowText r)) H'
def spLines : Sp := fun vs H Q _ => ∃ (l : Addr) (R : List Row), vs = [.ref l] ∧ LstAt H l R ∧ TreeOk R ∧ ∀ H', Same H H' → Q (.str (treeText R)) H'
def spPut : Sp := fun vs H Q _ => ∃ (l : Addr) (R : List Row) (x : V) (r : Row), vs = [.ref l, x] ∧ LstAt H l R ∧ TreeOk R ∧ RowAt H x r ∧ (Fits r R → ∀ H' l', Same H H' → LstAt H' l' (ins r R) → Q (.ref l') H') ∧ (¬ Fits r R → ∀ H', Same H H' → Q .non H')
def spTake : Sp := fun vs H Q _ => ∃ (l : Addr) (R : List Row) (x : Str), vs = [.ref l, .str x] ∧ LstAt H l R ∧ TreeOk R ∧ (Takes x R → ∀ H' l', Same H H' → LstAt H' l' (out x R) → Q (.ref l') H') ∧ (¬ Takes x R → ∀ H', Same H H' → Q .non H')
theorem labels_eq (R : List Row) : R.filterMap (fun r : Row => some (V.str r.1)) = txs (names R) := by
  unfold txs names
  rw [List.map_map]
  induction R with
  | nil => rfl
  | cons a l ih => simp
section
variable {P : Program} {w : World} {K : Frag} {mg : Str → Option Value} {base : Heap} {f : Addr} {fd : FuncData}
theorem sc_wordL : FnScope ["_law_place"] ["_law_place"] (defScope (top 65)) := ⟨rfl, rfl, rfl, by decide +kernel, rfl, by decide +kernel, by decide +kernel⟩
theorem ok_wordL (F : FnP K "_law_word" (top 65) f fd) (T : Txt mg) : FnOk P w K mg base CX0 1 f fd ["_law_place"] spWordL := by
  refine F.ok sc_wordL (fun vs H Q E h => ?_) (fun cdv A outer s H vs Q E hr h => ?_)
  · obtain ⟨x, rfl, _⟩ := h
    rfl
  · obtain ⟨x, rfl, k⟩ := h
    refine ⟨_, PSs.nox (pss_one (ps_ret (pe_ifExp (pt_cmpR op_ne (pv 0) pe_str (nomark _)) (pv 0) pe_str))), ?_⟩
    refine ⟨_, rfl, rfl, _, rfl, ?_⟩
    unfold spotW at k
    by_cases e : x = eS
    · rw [if_pos e] at k
      rw [show (!decide (V.str x = V.str "")) = false by rw [e]; rfl]
      exact iteF k
    · rw [if_neg e] at k
      rw [show (!decide (V.str x = V.str "")) = true by rw [decide_eq_false (fun z => e (V.str.inj z))]; rfl]
      exact iteT ⟨_, rfl, k⟩
theorem sc_rowL : FnScope ["_law_row_here"] ["_law_row_here"] (defScope (top 66)) := ⟨rfl, rfl, rfl, by decide +kernel, rfl, by decide +kernel, by decide +kernel⟩
theorem ok_rowL (F : FnP K "_law_row" (top 66) f fd) (T : Txt mg) (Dw : Dn P w K mg base CX0 1 "_law_word" [] spWordL) : FnOk P w K mg base CX0 2 f fd ["_law_row_here"] spRowL := by
  refine F.ok sc_rowL (fun vs H Q E h => ?_) (fun cdv A outer s H vs Q E hr h => ?_)
  · obtain ⟨x, r, rfl, _⟩ := h
    rfl
  · obtain ⟨x, r, rfl, ⟨p, rfl, hp⟩, fit, k⟩ := h
    refine ⟨_, PSs.nox (pss_one (ps_ret (pe_join pe_str (pe_lst (pa_cons pe_str (pa_cons (pe_ix ix_tup (pv 0) pe_int (fun _ _ => rfl)) (pa_cons pe_str (pa_cons (pe_d Dw hr (by decide) rfl pass0 (pa_cons (pe_ix ix_tup (pv 0) pe_int (fun _ _ => rfl)) pa_nil))
      (pa_cons pe_str (pa_cons (pe_callTy call_str_int rfl T.str PyProof.Rows.boot_str (pa_cons (pe_ix ix_tup (pv 0) pe_int (fun _ _ => rfl)) pa_nil)) pa_nil)))))))))), ?_⟩
    have f1 := fit.nm
    have f2 := spotW_len fit.par
    have f3 := numW_len fit.room
    refine ⟨⟨_, rfl⟩, _, rfl, p, _, 0, _, rfl, rfl, SqT.of hp, rfl, _, rfl, p, _, 1, _, rfl, rfl, SqT.of hp, rfl, r.2.1, rfl, _, rfl, p, _, 2, _, rfl, rfl, SqT.of hp, rfl, r.2.2, rfl, room_log fit.room, show (6 : Nat) ≤ sizeLine by decide, fun l hl => ?_⟩
    refine ⟨_, l, ["folder", r.1, "in", spotW r.2.1, "room", numW r.2.2], rfl, rfl, .inl (SqL.of upd_same), ?_, ?_⟩
    · show ("folder" : Str).length + (r.1.length + (("in" : Str).length + ((spotW r.2.1).length + (("room" : Str).length + ((numW r.2.2).length + 0))))) + 6 * (" " : Str).length ≤ 16777216
      have e1 : ("folder" : Str).length = 6 := by decide +kernel
      have e2 : ("in" : Str).length = 2 := by decide +kernel
      have e3 : ("room" : Str).length = 4 := by decide +kernel
      have e4 : (" " : Str).length = 1 := by decide +kernel
      omega
    · rw [row_join]
      exact k _ (Same.new hl)
theorem sc_lines : FnScope ["_law_plan", "_law_row_here"] ["_law_plan"] (defScope (top 67)) := ⟨rfl, rfl, rfl, by decide +kernel, rfl, by decide +kernel, by decide +kernel⟩
theorem ok_lines (F : FnP K "_law_tree_lines" (top 67) f fd) (T : Txt mg) (Dr : Dn P w K mg base CX0 2 "_law_row" [] spRowL) : FnOk P w K mg base CX0 3 f fd ["_law_plan"] spLines := by
  refine F.ok sc_lines (fun vs H Q E h => ?_) (fun cdv A outer s H vs Q E hr h => ?_)
  · obtain ⟨l, R, rfl, _⟩ := h
    rfl
  · have nd := sc_lines.nd
    obtain ⟨l, R, rfl, ⟨xs, hl, hx⟩, TR, k⟩ := h
    refine ⟨_, PSs.nox (pss_one (ps_ret (pe_join pe_str (pe_lc (own := [("_law_row_here", 1)]) (g := gName 1) (tt := tYes) (te := tCall spRowL [] E0 (tCons (tVar 1) tNil)) rfl nd (pi_list (pv 0)) (blkOk_by (N := ["_law_plan", "_law_row_here"]) (sc := defScope (top 67)) (by decide +kernel))
        (fun _ _ _ _ _ => pg_name (i := 1) nd rfl (Or.inl rfl)) (fun _ _ _ _ _ => pts_nil) (fun _ _ _ _ _ => pe_d Dr hr (by decide) rfl pass0 (pa_cons (pv 1) pa_nil)))))), ?_⟩
    refine ⟨⟨_, rfl⟩, _, rfl, l, rfl, ⟨xs, SqL.of hl⟩, fun D hD => lc_it (walk_list (xs := xs)) (fun i H' => H' D = some (.lst (txs ((R.take i).map rowText))) ∧ Same H H') ⟨upd_same, Same.new hD⟩ ?_ ?_ ?_⟩
    · rintro i H' _ ⟨_, s1⟩
      exact SqL.of (s1 l _ hl)
    · rintro i v _ H2 hi ⟨hd, s1⟩ ⟨rfl, hv⟩
      obtain ⟨r, hr0, hrow⟩ := hx.at hv
      refine ⟨rfl, tyesT ⟨_, rfl, v, r, rfl, hrow.gr (Gr.of s1), TR.fit (List.mem_of_getElem? hr0), fun H3 s3 => ⟨_, s3 D _ hd, ?_, ?_, Same.put (s1.trans s3) hD⟩⟩⟩
      · refine Nat.lt_of_le_of_lt ?_ (show 60 < sizeLine by decide)
        rw [txs, List.length_map, List.length_map, List.length_take]
        exact Nat.le_trans (Nat.min_le_right _ _) TR.few
      · rw [upd_same, take_snoc hr0, List.map_append, txs, txs, List.map_append] <;> rfl
    · rintro H2 ⟨hd, s1⟩
      rw [hx.len, List.take_length] at hd
      exact ⟨_, D, R.map rowText, rfl, rfl, .inl (SqL.of hd), text_sum (fun r hr => TR.fit hr) TR.few, k _ s1⟩
theorem sc_put : FnScope ["_law_rows", "_law_row_here", "_law_labels", "_law_one"] ["_law_rows", "_law_row_here"] (defScope (top 68)) := ⟨rfl, rfl, rfl, by decide +kernel, rfl, by decide +kernel, by decide +kernel⟩
theorem ok_put (F : FnP K "_law_put_due" (top 68) f fd) (T : Txt mg) : FnOk P w K mg base CX0 1 f fd ["_law_rows", "_law_row_here"] spPut := by
  refine F.ok sc_put (fun vs H Q E h => ?_) (fun cdv A outer s H vs Q E hr h => ?_)
  · obtain ⟨l, R, x, r, rfl, _⟩ := h
    rfl
  · have nd := sc_put.nd
    obtain ⟨l, R, x, r, rfl, ⟨xs, hl, hx⟩, TR, hrow, k1, k2⟩ := h
    refine ⟨_, PSs.nox (pss_cons (ps_setLc (i := 2) (own := [("_law_one", 3)]) (g := gName 3) (tt := tYes) (te := tOp (rIxT K) (tVar 3) (tC (.int 0))) rfl nd rfl rfl (sw_true rfl rfl rfl (by decide +kernel)) (pi_list (pv 0)) (blkOk_by (N := ["_law_rows", "_law_row_here", "_law_labels", "_law_one"]) (sc := defScope (top 68)) (by decide +kernel))
        (fun _ _ _ _ _ => pg_name (i := 3) nd rfl (Or.inl rfl)) (fun _ _ _ _ _ => pts_nil) (fun _ _ _ _ _ => pe_ix ix_tup (pv 3) pe_int (fun _ _ => rfl)))
      (pss_cons (ps_if (PW.pt (pw_or (pt_cmpR op_in_seq (pe_ix ix_tup (pv 1) pe_int (fun _ _ => rfl)) (pv 2) rfl) (pw_or (pt_cmpR op_eq (pe_ix ix_tup (pv 1) pe_int (fun _ _ => rfl)) (pe_ix ix_tup (pv 1) pe_int (fun _ _ => rfl)) (nomark _))
          (pw_or1 (PW.pt (pw_and (pt_cmpR op_ne (pe_ix ix_tup (pv 1) pe_int (fun _ _ => rfl)) pe_str (nomark _)) (pw_and1 (pt_cmpR op_notIn_seq (pe_ix ix_tup (pv 1) pe_int (fun _ _ => rfl)) (pv 2) rfl)))))))) (pss_one (ps_ret pe_non)) pss_nil)
      (pss_one (ps_ret (pe_callB (cr_sortS rfl hr.units) rfl T.sorted PyProof.Rows.boot_sorted (pa_cons (pe_callTy (cr_setR rfl hr.units) rfl T.set PyProof.Rows.boot_set (pa_cons
          (pe_op op_cat (pv 0) (pe_lst (pa_cons (pv 1) pa_nil))) pa_nil)) pa_nil)))))), ?_⟩
    obtain ⟨p, rfl, hp⟩ := id hrow
    refine ⟨_, rfl, l, rfl, ⟨xs, SqL.of hl⟩, fun D hD => lc_it (walk_list (xs := xs)) (fun i H' => H' = LcH H D (fun r : Row => some (.str r.1)) R i) lcH_0 ?_ ?_ ?_⟩
    · rintro i _ _ rfl
      exact SqL.of (lcH_at hl hD)
    · rintro i v _ _ hi rfl ⟨rfl, hv⟩
      obtain ⟨q, hq, pq, rfl, hpq⟩ := hx.at hv
      exact ⟨rfl, tyesT ⟨_, rfl, pq, _, 0, _, rfl, rfl, SqT.of (lcH_at hpq hD), rfl, lc_fin hq rfl (Nat.le_trans TR.few (by decide))⟩⟩
    · rintro _ rfl
      rw [hx.len, lcH_n, labels_eq]
      have s1 : Same H (upd H D (.lst (txs (names R)))) := Same.new hD
      have hd : upd H D (.lst (txs (names R))) D = some (.lst (txs (names R))) := upd_same
      have hp1 := s1 p _ hp
      generalize upd H D (.lst (txs (names R))) = H2 at s1 hd hp1
      refine ⟨_, rfl, p, _, 0, _, rfl, rfl, SqT.of hp1, rfl, _, rfl, D, _, rfl, .inl (SqL.of hd), rfl, flat_txs _, _, rfl, ?_⟩
      rw [if_neg Bool.false_ne_true, inV_txs]
      by_cases c1 : r.1 ∈ names R
      · rw [decide_eq_true c1]
        exact iteT (iteT (k2 (fun z => z.new c1) _ s1))
      · rw [decide_eq_false c1]
        refine iteF ⟨_, rfl, p, _, 0, _, rfl, rfl, SqT.of hp1, rfl, _, rfl, p, _, 1, _, rfl, rfl, SqT.of hp1, rfl, rfl, _, rfl, ?_⟩
        by_cases c2 : r.1 = r.2.1
        · rw [show decide (V.str r.1 = V.str r.2.1) = true from decide_eq_true (congrArg V.str c2)]
          exact iteT (iteT (k2 (fun z => z.self c2) _ s1))
        rw [show decide (V.str r.1 = V.str r.2.1) = false from decide_eq_false fun z => c2 (V.str.inj z)]
        refine iteF ⟨_, rfl, p, _, 1, _, rfl, rfl, SqT.of hp1, rfl, rfl, _, rfl, ?_⟩
        by_cases c3 : r.2.1 = eS
        · rw [show (!decide (V.str r.2.1 = V.str "")) = false by rw [c3]; rfl]
          refine iteF (iteF ?_)
          have c5 : r.2.1 = eS ∨ r.2.1 ∈ names R := .inl c3
          have FT : Fits r R := ⟨c1, c2, c5⟩
          obtain ⟨L0, q1, q2, q3⟩ := rows_refs (Rows.sm s1 hx)
          refine ⟨_, rfl, _, rfl, show (1 : Nat) ≤ sizeLine by decide, fun q hq => ?_⟩
          refine ⟨l, q, xs, [.ref p], rfl, rfl, Same.new hq l _ (s1 l _ hl), upd_same, ?_, fun p3 hp3 => ?_⟩
          · rw [hx.len]
            exact Nat.le_trans (show R.length + [V.ref p].length ≤ 100 by have := TR.few; simp only [List.length_singleton]; omega) (by decide)
          have s5 := (Same.new (o := .lst [.ref p]) hq).trans (Same.new (o := .lst (xs ++ [.ref p])) hp3)
          have nd0 : ((r :: R).map (·.1)).Nodup := by
            rw [List.map_cons]
            exact List.nodup_cons.mpr ⟨c1, TR.nodup⟩
          have rw0 : ∀ z ∈ L0 ++ [(p, r)], RowAt H2 (.ref z.1) z.2 := fun z hz => by
            rcases List.mem_append.mp hz with e | e
            · exact q3 z e
            · rw [List.mem_singleton.mp e]; exact ⟨p, rfl, hp1⟩
          have pk : ((L0 ++ [(p, r)]).map (·.2)).Perm (r :: R) := by
            rw [List.map_append, q2]
            exact List.perm_append_singleton r R
          refine ⟨p3, L0 ++ [(p, r)], rfl, SqL.of (by rw [upd_same, q1, List.map_append]; rfl), fun z hz => (rw0 z hz).gr (Gr.of s5), ?_, ?_, fun sa L hsa pm => ?_⟩
          · exact pk.nodup_iff.mpr (nodup_of_map nd0)
          · have := pk.length_eq
            have := TR.few
            rw [List.length_map, List.length_cons] at *
            omega
          have pmr : (L.map (·.2)).Perm (r :: R) := (pm.map (·.2)).trans pk
          have s6 := s5.trans (Same.new (o := SetRO P w sa L) hsa)
          refine ⟨sa, L, rfl, upd_same, fun z hz => (rw0 z (pm.mem_iff.mp hz)).gr (Gr.of s6), ?_, fun L' pl pm2 pw hpl => ?_⟩
          · have z := (pmr.map (·.1)).nodup_iff.mpr nd0
            rwa [List.map_map] at z
          have s7 := s6.trans (Same.new (o := .lst (L'.map fun q => V.ref q.1)) hpl)
          have eR : L'.map (·.2) = ins r R := asc_perm (List.pairwise_map.mpr pw) (ins_asc TR.asc c1) (((pm2.map (·.2)).trans pmr).trans (ins_perm r R).symm)
          have hrow2 := refs_rows (H := upd _ pl (.lst (L'.map fun q => V.ref q.1))) (L := L') fun z hz => (rw0 z (pm.mem_iff.mp (pm2.mem_iff.mp hz))).gr (Gr.of s7)
          rw [eR] at hrow2
          exact k1 FT _ pl (s1.trans s7) ⟨_, upd_same, hrow2⟩
        · rw [show (!decide (V.str r.2.1 = V.str "")) = true by rw [decide_eq_false (fun z => c3 (V.str.inj z))]; rfl]
          refine iteT ⟨_, rfl, p, _, 1, _, rfl, rfl, SqT.of hp1, rfl, _, rfl, D, _, rfl, .inl (SqL.of hd), rfl, flat_txs _, _, rfl, ?_⟩
          rw [if_pos rfl, inV_txs]
          by_cases c4 : r.2.1 ∈ names R
          rotate_left
          · rw [decide_eq_false c4]
            exact iteT (k2 (fun z => z.par.elim c3 c4) _ s1)
          rw [decide_eq_true c4]
          refine iteF ?_
          have c5 : r.2.1 = eS ∨ r.2.1 ∈ names R := .inr c4
          have FT : Fits r R := ⟨c1, c2, c5⟩
          obtain ⟨L0, q1, q2, q3⟩ := rows_refs (Rows.sm s1 hx)
          refine ⟨_, rfl, _, rfl, show (1 : Nat) ≤ sizeLine by decide, fun q hq => ?_⟩
          refine ⟨l, q, xs, [.ref p], rfl, rfl, Same.new hq l _ (s1 l _ hl), upd_same, ?_, fun p3 hp3 => ?_⟩
          · rw [hx.len]
            exact Nat.le_trans (show R.length + [V.ref p].length ≤ 100 by have := TR.few; simp only [List.length_singleton]; omega) (by decide)
          have s5 := (Same.new (o := .lst [.ref p]) hq).trans (Same.new (o := .lst (xs ++ [.ref p])) hp3)
          have nd0 : ((r :: R).map (·.1)).Nodup := by
            rw [List.map_cons]
            exact List.nodup_cons.mpr ⟨c1, TR.nodup⟩
          have rw0 : ∀ z ∈ L0 ++ [(p, r)], RowAt H2 (.ref z.1) z.2 := fun z hz => by
            rcases List.mem_append.mp hz with e | e
            · exact q3 z e
            · rw [List.mem_singleton.mp e]; exact ⟨p, rfl, hp1⟩
          have pk : ((L0 ++ [(p, r)]).map (·.2)).Perm (r :: R) := by
            rw [List.map_append, q2]
            exact List.perm_append_singleton r R
          refine ⟨p3, L0 ++ [(p, r)], rfl, SqL.of (by rw [upd_same, q1, List.map_append]; rfl), fun z hz => (rw0 z hz).gr (Gr.of s5), ?_, ?_, fun sa L hsa pm => ?_⟩
          · exact pk.nodup_iff.mpr (nodup_of_map nd0)
          · have := pk.length_eq
            have := TR.few
            rw [List.length_map, List.length_cons] at *
            omega
          have pmr : (L.map (·.2)).Perm (r :: R) := (pm.map (·.2)).trans pk
          have s6 := s5.trans (Same.new (o := SetRO P w sa L) hsa)
          refine ⟨sa, L, rfl, upd_same, fun z hz => (rw0 z (pm.mem_iff.mp hz)).gr (Gr.of s6), ?_, fun L' pl pm2 pw hpl => ?_⟩
          · have z := (pmr.map (·.1)).nodup_iff.mpr nd0
            rwa [List.map_map] at z
          have s7 := s6.trans (Same.new (o := .lst (L'.map fun q => V.ref q.1)) hpl)
          have eR : L'.map (·.2) = ins r R := asc_perm (List.pairwise_map.mpr pw) (ins_asc TR.asc c1) (((pm2.map (·.2)).trans pmr).trans (ins_perm r R).symm)
          have hrow2 := refs_rows (H := upd _ pl (.lst (L'.map fun q => V.ref q.1))) (L := L') fun z hz => (rw0 z (pm.mem_iff.mp (pm2.mem_iff.mp hz))).gr (Gr.of s7)
          rw [eR] at hrow2
          exact k1 FT _ pl (s1.trans s7) ⟨_, upd_same, hrow2⟩
theorem sc_take : FnScope ["_law_rows", "_law_label", "_law_one"] ["_law_rows", "_law_label"] (defScope (top 69)) := ⟨rfl, rfl, rfl, by decide +kernel, rfl, by decide +kernel, by decide +kernel⟩
theorem ok_take (F : FnP K "_law_taken_due" (top 69) f fd) (T : Txt mg) : FnOk P w K mg base CX0 1 f fd ["_law_rows", "_law_label"] spTake := by
  refine F.ok sc_take (fun vs H Q E h => ?_) (fun cdv A outer s H vs Q E hr h => ?_)
  · obtain ⟨l, R, x, rfl, _⟩ := h
    rfl
  · have nd := sc_take.nd
    obtain ⟨l, R, x, rfl, ⟨xs, hl, hx⟩, TR, k1, k2⟩ := h
    refine ⟨_, PSs.nox (pss_cons (ps_if (PW.pt (pw_or (pt_cmpR op_notIn_seq (pv 1)
            (pe_lc (own := [("_law_one", 2)]) (g := gName 2) (tt := tYes) (te := tOp (rIxT K) (tVar 2) (tC (.int 0))) rfl nd (pi_list (pv 0)) (blkOk_by (N := ["_law_rows", "_law_label", "_law_one"]) (sc := defScope (top 69)) (by decide +kernel))
              (fun _ _ _ _ _ => pg_name (i := 2) nd rfl (Or.inl rfl)) (fun _ _ _ _ _ => pts_nil) (fun _ _ _ _ _ => pe_ix ix_tup (pv 2) pe_int (fun _ _ => rfl))) rfl)
          (pw_or (pt_cmpR op_eq (pe_callB call_len rfl T.len PySem.boot_len (pa_cons (pv 0) pa_nil)) pe_int (nomark _))
          (pw_or1 (pt_cmpR (op_neD hr.units)
            (pe_lc (own := [("_law_one", 2)]) (g := gName 2) (tt := tTest (tOp rEq (tOp (rIxT K) (tVar 2) (tC (.int 1))) (tVar 1))) (te := tVar 2) rfl nd (pi_list (pv 0)) (blkOk_by (N := ["_law_rows", "_law_label", "_law_one"]) (sc := defScope (top 69)) (by decide +kernel))
              (fun _ _ _ _ _ => pg_name (i := 2) nd rfl (Or.inl rfl)) (fun _ _ _ _ _ => pts_one (pt_cmpR op_eq (pe_ix ix_tup (pv 2) pe_int (fun _ _ => rfl)) (pv 1) (nomark _))) (fun _ _ _ _ _ => pv 2)) (pe_lst pa_nil) (nomark _)))))) (pss_one (ps_ret pe_non)) pss_nil)
      (pss_one (ps_ret
            (pe_lc (own := [("_law_one", 2)]) (g := gName 2) (tt := tTest (tOp rNe (tOp (rIxT K) (tVar 2) (tC (.int 0))) (tVar 1))) (te := tVar 2) rfl nd (pi_list (pv 0)) (blkOk_by (N := ["_law_rows", "_law_label", "_law_one"]) (sc := defScope (top 69)) (by decide +kernel))
              (fun _ _ _ _ _ => pg_name (i := 2) nd rfl (Or.inl rfl)) (fun _ _ _ _ _ => pts_one (pt_cmpR op_ne (pe_ix ix_tup (pv 2) pe_int (fun _ _ => rfl)) (pv 1) (nomark _))) (fun _ _ _ _ _ => pv 2))))), ?_⟩
    refine ⟨_, rfl, _, rfl, l, rfl, ⟨xs, SqL.of hl⟩, fun D hD => lc_it (walk_list (xs := xs)) (fun i H' => H' = LcH H D (fun r : Row => some (.str r.1)) R i) lcH_0 ?_ ?_ ?_⟩
    · rintro i _ _ rfl
      exact SqL.of (lcH_at hl hD)
    · rintro i v _ _ hi rfl ⟨rfl, hv⟩
      obtain ⟨q, hq, pq, rfl, hpq⟩ := hx.at hv
      exact ⟨rfl, tyesT ⟨_, rfl, pq, _, 0, _, rfl, rfl, SqT.of (lcH_at hpq hD), rfl, lc_fin hq rfl (Nat.le_trans TR.few (by decide))⟩⟩
    · rintro _ rfl
      rw [hx.len, lcH_n, labels_eq]
      have s1 : Same H (upd H D (.lst (txs (names R)))) := Same.new hD
      have hd : upd H D (.lst (txs (names R))) D = some (.lst (txs (names R))) := upd_same
      generalize upd H D (.lst (txs (names R))) = H2 at s1 hd
      refine ⟨D, _, rfl, .inl (SqL.of hd), rfl, flat_txs _, _, rfl, ?_⟩
      rw [if_pos rfl, inV_txs]
      by_cases c1 : x ∈ names R
      rotate_left
      · rw [decide_eq_false c1]
        exact iteT (iteT (k2 (fun z => c1 z.there) _ s1))
      rw [decide_eq_true c1]
      have hl2 := s1 l _ hl
      have hx2 := Rows.sm s1 hx
      refine iteF ⟨_, rfl, _, xs.length, rfl, .inl ⟨_, SqL.of hl2, rfl⟩, rfl, _, rfl, ?_⟩
      rw [hx.len]
      by_cases c2 : R.length = 1
      · rw [show decide (V.int (R.length : Nat) = V.int 1) = true by rw [c2]; rfl]
        exact iteT (iteT (k2 (fun z => z.more c2) _ s1))
      rw [show decide (V.int (R.length : Nat) = V.int 1) = false from decide_eq_false fun z => c2 (by have := V.int.inj z; omega)]
      refine iteF ⟨_, rfl, l, rfl, ⟨xs, SqL.of hl2⟩, fun D2 hD2 => lc_it (walk_list (xs := xs)) (fun i H' => H' = LcH H2 D2 (pick fun q => decide (q.2.1 = x)) (xs.zip R) i) lcH_0 ?_ ?_ ?_⟩
      · rintro i _ _ rfl
        exact SqL.of (lcH_at hl2 hD2)
      · rintro i v _ _ hi rfl ⟨rfl, hv⟩
        obtain ⟨q, hq, pq, rfl, hpq⟩ := hx2.at hv
        have hz := zip_at hv hq
        refine ⟨rfl, _, rfl, pq, _, 1, _, rfl, rfl, SqT.of (lcH_at hpq hD2), rfl, _, rfl, rfl, _, rfl, ?_⟩
        by_cases e : q.2.1 = x
        · rw [show decide (V.str q.2.1 = V.str x) = true from decide_eq_true (congrArg V.str e)]
          exact iteT ⟨_, rfl, lc_fin hz (if_pos (decide_eq_true e)) (by rw [zip_len hx2]; exact Nat.le_trans TR.few (by decide))⟩
        · rw [show decide (V.str q.2.1 = V.str x) = false from decide_eq_false fun z => e (V.str.inj z)]
          exact iteF (lc_skip hz (if_neg (by simp [e])))
      · rintro _ rfl
        rw [hx.len.trans (zip_len hx2).symm, lcH_n]
        have hrw := rows_pick (fun q => decide (q.2.1 = x)) hx2
        have s3 : Same H2 (upd H2 D2 (.lst ((xs.zip R).filterMap (pick fun q => decide (q.2.1 = x))))) := Same.new hD2
        have hd3 : upd H2 D2 (.lst ((xs.zip R).filterMap (pick fun q => decide (q.2.1 = x)))) D2 = some (.lst ((xs.zip R).filterMap (pick fun q => decide (q.2.1 = x)))) := upd_same
        generalize upd H2 D2 (.lst ((xs.zip R).filterMap (pick fun q => decide (q.2.1 = x)))) = H3 at s3 hd3
        refine ⟨show (0 : Nat) ≤ sizeLine by decide, fun e0 he0 => ?_⟩
        have s4 : Same H3 (upd H3 e0 (.lst [])) := Same.new he0
        have hd4 := s4 D2 _ hd3
        have he4 : upd H3 e0 (.lst []) e0 = some (.lst []) := upd_same
        generalize upd H3 e0 (.lst []) = H4 at s4 hd4 he4
        have s14 := s1.trans (s3.trans s4)
        refine ⟨.list (rowsD (R.filter fun q => decide (q.2.1 = x))), .list [], .lst (SqL.of hd4) (dp_rows (Rows.sm (s3.trans s4) hrw)), .lst (SqL.of he4) .nil, shaped_lst fun r hr => TR.lay (List.mem_filter.mp hr).1, by decide +kernel, _, rfl, ?_⟩
        by_cases c3 : R.filter (fun q => decide (q.2.1 = x)) = []
        rotate_left
        · rw [show PyData.eqv (.list (rowsD (R.filter fun q => decide (q.2.1 = x)))) (.list []) = false by
            cases e : R.filter fun q => decide (q.2.1 = x) with
            | nil => exact absurd e c3
            | cons a b => simp [rowsD, PyData.eqv, PyData.eqvAll]]
          refine iteT (k2 (fun z => ?_) _ s14)
          obtain ⟨q, hq⟩ := List.exists_mem_of_ne_nil _ c3
          obtain ⟨h1, h2⟩ := List.mem_filter.mp hq
          exact z.free q h1 (of_decide_eq_true h2)
        rw [c3, show PyData.eqv (.list (rowsD [])) (.list []) = true from by decide +kernel]
        have tk : Takes x R := ⟨c1, c2, fun r hr e => by
          have : r ∈ R.filter fun q => decide (q.2.1 = x) := List.mem_filter.mpr ⟨hr, decide_eq_true e⟩
          rw [c3] at this
          cases this⟩
        have hl4 := s14 l _ hl
        have hx4 := Rows.sm s14 hx
        refine iteF ⟨_, rfl, l, rfl, ⟨xs, SqL.of hl4⟩, fun D5 hD5 => lc_it (walk_list (xs := xs)) (fun i H' => H' = LcH H4 D5 (pick fun q => decide (q.1 ≠ x)) (xs.zip R) i) lcH_0 ?_ ?_ ?_⟩
        · rintro i _ _ rfl
          exact SqL.of (lcH_at hl4 hD5)
        · rintro i v _ _ hi rfl ⟨rfl, hv⟩
          obtain ⟨q, hq, pq, rfl, hpq⟩ := hx4.at hv
          have hz := zip_at hv hq
          refine ⟨rfl, _, rfl, pq, _, 0, _, rfl, rfl, SqT.of (lcH_at hpq hD5), rfl, _, rfl, rfl, _, rfl, ?_⟩
          by_cases e : q.1 = x
          · rw [show (!decide (V.str q.1 = V.str x)) = false by simp [e]]
            exact iteF (lc_skip hz (if_neg (by simp [e])))
          · rw [show (!decide (V.str q.1 = V.str x)) = true by simp [e]]
            exact iteT ⟨_, rfl, lc_fin hz (if_pos (by simp [e])) (by rw [zip_len hx4]; exact Nat.le_trans TR.few (by decide))⟩
        · rintro _ rfl
          rw [hx.len.trans (zip_len hx4).symm, lcH_n]
          exact k1 tk _ D5 (s14.trans (Same.new hD5)) ⟨_, upd_same, Rows.sm (Same.new hD5) (rows_pick (fun q => decide (q.1 ≠ x)) hx4)⟩
end
end K14
end

-- K14Guard
section
set_option maxRecDepth 100000
set_option maxHeartbeats 2000000
/-! defs that show data by repr: they run where nothing is being shown -/
namespace K14
open PySem PySem.Spec PyProof.Rows L2
open PySem.W (Frag)
/-- a promise for entries where no repr is under way -/
structure FnG (P : Program) (w : World) (K : Frag) (mg : Str → Option Value) (base : Heap) (CX : CXT) (k : Nat) (f : Addr) (fd : FuncData) (ps : List Str) (sp : Sp) : Prop where
  len : ∀ vs H Q E, sp vs H Q E → vs.length = ps.length
  run : ∀ (A : Around) (outer : List Env) (s : Shared) (H : Hp) (args : Args) (us : List Value) (vs : List V) (Q : VK) (E : XK), Room k A → A.guards = some [] → Env0 P w K mg base A outer s H → BindsTo s fd args (ps.zip us) → Vals vs us → sp vs H Q E →
    codeAny (model P w) A (.call (.ref f) args) (CR CX outer P w H s Q E) s
section
variable {P : Program} {w : World} {K : Frag} {mg : Str → Option Value} {base : Heap} {x qual : Str} {params : Arguments} {body : List Stmt} {scope : Scope} {f : Addr} {fd : FuncData}
theorem okG {CX : CXT} {N ps : List Str} {k : Nat} {sp : Sp} (F : FunD K x qual params body scope [] [] f fd) (S : FnScope N ps scope) (len : ∀ vs H Q E, sp vs H Q E → vs.length = ps.length)
    (hbody : ∀ (cdv : Value) (A : Around) (outer : List Env) (s : Shared) (H : Hp) (vs : List V) (Q : VK) (E : XK), Room k (A.deeper (envOfC qual scope s.heap.objs.size f cdv)) → A.guards = some [] → sp vs H Q E →
      ∃ t, PSs (cxOf CX P w K mg base N qual scope f cdv A outer s H E) body t ∧ t { nx := fun _ H' => Q .non H', rt := Q } (L2.start N vs) H) : FnG P w K mg base CX (k + 1) f fd ps sp := by
  obtain ⟨oc, od, dV, kV, doc, pm, an, cdv, ct, osl, rfl, lk, hcd, _, _⟩ := F.ex
  refine ⟨len, fun A outer s H args us vs Q E hr hg e0 hb r hsp => ?_⟩
  have hl := len _ _ _ _ hsp
  have kin : K.In s.heap := e0.mod.kin.keeps fun b o e => (e0.bs b o e).1
  have lim : s.heap.NoLimit := e0.mod.nolimit.keeps fun b o e => (e0.bs b o e).1
  have hkind : ∀ y ∈ ps.zip us, scope.names.lookup y.1 = some .local ∨ (scope.names.lookup y.1 = some .cell ∧ ((cellsFrom (s.heap.objs.size + 1) scope.names []).lookup y.1).isSome = true) := by
    rintro ⟨n, v⟩ hy
    rcases S.par n (List.of_mem_zip hy).1 with q | q
    · exact .inl q
    · exact .inr ⟨q, PySem.W.cellsFrom_some _ _ _ (.inl q)⟩
  refine codeAny_call_function hr.depth (kin _ _ lk) rfl S.co S.gen rfl (PySem.W.codeRec_of kin hcd) (hb _ _ _ _ (wpAny_newFunctionEnv_cells S.kind hkind fun env he s1 y => ?_))
  subst he
  refine ⟨lim.keeps y.toInCall.keep, codeAny_func ?_⟩
  obtain ⟨t, ht, hq⟩ := hbody cdv A outer s H vs Q E (hr.deeper _) hg hsp
  have I : Inv (cxOf CX P w K mg base N qual scope f cdv A outer s H E) [] (L2.start N vs) H s1 := inv_start S hr.hd e0 hl r y
  refine wpAny_mono (ht.run [] s1 (L2.start N vs) H _ I hq) (fun fl s' hs => ?_) fun e s' hs => hs
  have fin : ∀ {σ' : L2.St} {H' : Hp} {v : V} {u : Value}, Inv (cxOf CX P w K mg base N qual scope f cdv A outer s H E) [] σ' H' s' → RelV v u → Q v H' → CE outer P w H s Q u s' := fun J rv q => ⟨_, _, J.os, J.bare, J.base, J.hok, rv, q⟩
  cases fl with
  | ret u => exact let ⟨_, _, _, J, rv, q⟩ := hs; fin J rv q
  | next => exact let ⟨_, _, J, q⟩ := hs; fin (v := V.non) (u := Value.none) J rfl q
  | brk => exact let ⟨_, _, _, q⟩ := hs; q.elim
  | cont => exact let ⟨_, _, _, q⟩ := hs; q.elim
end
structure DnG (P : Program) (w : World) (K : Frag) (mg : Str → Option Value) (base : Heap) (CX : CXT) (k : Nat) (x : Str) (sp : Sp) : Prop where
  ex : ∃ (f : Addr) (fd : FuncData) (ps : List Str), mg x = some (.ref f) ∧ PySem.W.keepIn K (.ref f) = true ∧ FnG P w K mg base CX k f fd ps sp ∧ Binds K fd ps []
section
variable {X : Cx} {CX : CXT} {j k : Nat} {x : Str} {sp : Sp} {E : XK} {p pos : Pos} {e : Expr} {es : List Expr} {t : TA}
theorem pe_dG (D : DnG X.prog X.w X.K X.mg X.base CX k x sp) (hr : Room j X.A) (hk : k ≤ j) (hgd : X.A.guards = some []) (hg : Gl X x) (hx : Passes CX X E) (ha : PA X (e :: es) t) (hdb : (x == ("__debug__" : Str)) = false := by decide +kernel)
    (he : starEach (e :: es) X.env = (false, eval e X.env) :: starEach es X.env := by rfl) (hpl : (backTo pos (starEach es X.env)).any (·.1) = false := by rfl) :
    PE X (.Call (.Name x p) (e :: es) [] pos) (tCall sp [] E t) := by
  obtain ⟨f, fd, ps, h1, h2, F, hb⟩ := D.ex
  refine ⟨fun pins s σ H Q I h => wpAny_Call_Name_kw (ld_glob I hg h1 ?_ hdb)⟩
  refine PySem.W.callWith_K (h₀ := X.base) I.ok.mod.kin h2 (thn (ha.run pos pins s σ H _ I h) fun us s1 ⟨vs, H1, I1, r, q⟩ => ⟨I1.kIn, ?_⟩) he hpl
  have q : sp vs H1 Q E := by
    have z : sp (vs ++ []) H1 Q E := q
    rwa [List.append_nil] at z
  have hl : us.length = ps.length := by rw [← r.length]; exact F.len _ _ _ _ q
  have hb2 := hb s1 us I1.kIn (by rw [List.append_nil]; exact hl)
  rw [List.append_nil] at hb2
  refine wpAny_call (codeAny_mono (F.run X.A X.stack s1 H1 ⟨us, []⟩ us vs Q E (hr.mono hk) hgd I1.env0 hb2 r q) fun r' s' hq => ?_)
  cases r' with
  | error z => exact hx pins σ H1 s1 z s' I1 hq
  | ok fl =>
    cases fl with
    | ret u => exact I1.after hq
    | next => exact False.elim hq
    | brk => exact False.elim hq
    | cont => exact False.elim hq
/-! ### repr -/
def rReprD (K : Frag) : List V → Hp → VK → Prop := fun vs H Q => ∃ (a : Addr) (d : PyData), vs = [.ref a] ∧ Dp K H (.ref a) d ∧ d.showable = true ∧ d.hasDict = false ∧ d.depth ≤ 20 ∧ d.shown.length ≤ sizeLine ∧ Q (.str d.shown) H
theorem cr_reprD (hgd : X.A.guards = some []) (hu : X.A.units + 64 < cLine) : CallR X (.builtin "repr") (rReprD X.K) := by
  intro pins s σ H vs us Q I r h
  obtain ⟨a, d, rfl, hd, hs, hn, hp, hz, q⟩ := h
  rw [Vals.ref1 r]
  obtain ⟨as, rd⟩ := Dp.reads I d (.ref a) (.ref a) hd rfl
  refine repr_of_reads' rd hs (fun z => by rw [hn] at z; cases z) hgd (by omega) (fun _ _ e => e) (fun h' u tk k => ?_) hz
  exact ⟨.str d.shown, H, I.kept (t' := tk) k, ⟨u, rfl⟩, q⟩
end
/-! ### how long what is shown is -/
theorem from_le : ∀ (ts : List Str) (k : Nat) (acc : Str), (textFrom k acc ts).length ≤ acc.length + piled ts
  | [], _, _ => by rw [piled_nil]; exact Nat.le_refl _
  | t :: r, k, acc => by
    have h := from_le r (k + 1) (acc ++ (if k > 0 then ", " else "" : String) ++ t)
    have e : (acc ++ (if k > 0 then ", " else "" : String) ++ t).length ≤ acc.length + 2 + t.length := by
      rw [strLen_append, strLen_append]
      split
      · exact Nat.le_refl _
      · exact Nat.add_le_add_right (Nat.add_le_add_left (Nat.zero_le 2) _) _
    rw [piled_cons]
    show (textFrom (k + 1) _ r).length ≤ _
    omega
theorem list_le (ts : List Str) : (listText ts).length ≤ piled ts + 2 := by
  unfold listText
  rw [strLen_append]
  have h := from_le ts 0 "["
  have e1 : ((("[" : String) : Str)).length = 1 := rfl
  have e2 : ((("]" : String) : Str)).length = 1 := rfl
  omega
theorem tup_le (ts : List Str) : (tupleText ts).length ≤ piled ts + 3 := by
  unfold tupleText
  rw [strLen_append, strLen_append]
  have e1 : ((("(" : String) : Str)).length = 1 := rfl
  have e2 : ((if ts.length == 1 then ",)" else ")" : String) : Str).length ≤ 2 := by split <;> decide
  cases ts with
  | nil =>
    have e3 : (Str.join ", " ([] : List Str)).length = 0 := rfl
    omega
  | cons a b =>
    have := join_length_add (a :: b) (by simp)
    omega
def Small (x : Str) : Prop := ∀ c ∈ x.cps.toList, c < 16 ^ 8
theorem repr_le {x : Str} (h : Small x) : (reprText x).length ≤ 10 * x.length + 2 := StrLaws.reprText_len x h
theorem small_app {x y : Str} (h : Small x) (k : Small y) : Small (x ++ y) := by
  intro c hc
  have e : (x ++ y).cps.toList = x.cps.toList ++ y.cps.toList := by
    show (x.cps ++ y.cps).toList = _
    simp
  rw [e] at hc
  rcases List.mem_append.mp hc with z | z
  · exact h c z
  · exact k c z
theorem small_of (s : String) : Small (Str.ofString s) := by
  intro c hc
  rw [Str.ofString_eq_toList] at hc
  simp only [List.mem_map, List.toList_toArray] at hc
  obtain ⟨a, _, rfl⟩ := hc
  have := a.valid
  rcases this with h | h
  · exact Nat.lt_trans h (by decide)
  · exact Nat.lt_trans h.2 (by decide)
end K14
end

-- K14Is
section
set_option maxRecDepth 100000
set_option maxHeartbeats 2000000
/-! a tree beside its rows -/
namespace K14
open PySem PySem.Spec PyProof.Rows L2
open PySem.W (Frag)
/-- how a Tree is used -/
structure TU (P : Program) (w : World) (K : Frag) (mg : Str → Option Value) (base : Heap) (C C2 : Addr) : Prop where
  cls : Cls K C
  prop : ∃ p g fd, PropOf K C "tree" p g ∧ FnOk P w K mg base CX0 1 g fd ["self"] (spTreeP C) ∧ Binds K fd ["self"] []
  itr : ∃ gi g, PySem.W.findIn K (.ref C) "__iter__" = some (some (.ref gi)) ∧ PySem.W.isFn K (.ref gi) = true ∧ FnR P w K mg base CX0 1 gi (spIter C) ∧
    PySem.W.findIn K (.ref C) "__len__" = some (some (.ref g)) ∧ PySem.W.isFn K (.ref g) = true ∧ FnR P w K mg base CX0 1 g (spLen C)
  str : ∃ g, PySem.W.findIn K (.ref C) "__str__" = some (some (.ref g)) ∧ PySem.W.isFn K (.ref g) = true ∧ FnR P w K mg base CX0 7 g (spStr C)
  eq : ∃ g, EqC K C g ∧ FnR P w K mg base CX0 1 g (spEq C)
  add : ∃ g, BinC K C .Add "tuple" g ∧ FnR P w K mg base (L2.CX P w) 7 g (spAdd C C2)
  sub : ∃ g, BinC K C .Sub "str" g ∧ FnR P w K mg base (L2.CX P w) 7 g (spSub C C2)
  of_ : ∃ mc p g, ClX.CRead K C mc ∧ ClX.CMet K C mc "of" p g ∧ FnR P w K mg base CX0 7 g (spOf C)
/-! ### what is shown of a tree -/
theorem small_lit {x : Str} (h : (x.cps.toList.all fun c => decide (c < 16 ^ 8)) = true) : Small x := fun c hc => of_decide_eq_true (List.all_eq_true.mp h c hc)
theorem small_name {x : Str} (h : NameOk x) : Small x := fun c hc => Nat.lt_of_le_of_lt (h.2.2 c hc).2 (by decide)
theorem small_e : Small eS := small_lit (by decide +kernel)
theorem small_spot {x : Str} (h : x = eS ∨ NameOk x) : Small x := h.elim (fun e => by rw [e]; exact small_e) small_name
theorem small_spotW {x : Str} (h : x = eS ∨ NameOk x) : Small (spotW x) := by
  unfold spotW
  split
  · exact small_lit (by decide +kernel)
  · exact small_spot h
theorem small_row {r : Row} (h1 : NameOk r.1) (h2 : r.2.1 = eS ∨ NameOk r.2.1) : Small (rowText r) := by
  unfold rowText
  exact small_app (small_app (small_app (small_app (small_app (small_app (small_lit (by decide +kernel)) (small_lit (by decide +kernel))) (small_name h1)) (small_lit (by decide +kernel))) (small_spotW h2)) (small_lit (by decide +kernel))) (small_of _)
theorem small_join {y : Str} (hy : Small y) : ∀ {l : List Str}, (∀ x ∈ l, Small x) → Small (Str.join y l)
  | [], _ => small_lit (x := Str.empty) (by decide +kernel)
  | [x], h => h x List.mem_cons_self
  | x :: z :: r, h => small_app (small_app (h x List.mem_cons_self) hy) (small_join hy fun u hu => h u (List.mem_cons_of_mem _ hu))
theorem small_tree {R : List Row} (T : TreeOk R) : Small (treeText R) := by
  unfold treeText
  rw [TL.join_eq]
  refine small_join (small_lit (by decide +kernel)) fun x hx => ?_
  obtain ⟨r, hr, rfl⟩ := List.mem_map.mp hx
  exact small_row (T.nm r hr) (T.spot hr)
theorem piled_le (b : Nat) : ∀ ts : List Str, (∀ t ∈ ts, t.length ≤ b) → piled ts ≤ ts.length * (b + 2)
  | [], _ => by rw [piled_nil]; exact Nat.zero_le _
  | t :: ts, h => by
    have h1 := piled_le b ts fun u hu => h u (List.mem_cons_of_mem _ hu)
    have h2 := h t List.mem_cons_self
    rw [piled_cons, List.length_cons, Nat.succ_mul]
    omega
theorem all_shown {α : Type} (f : α → PyData) (b : Nat) : ∀ l : List α, (∀ x ∈ l, (f x).shown.length ≤ b) → piled (PyData.shownAll (l.map f)) ≤ l.length * (b + 2)
  | [], _ => by rw [List.map_nil, PyData.shownAll, piled_nil]; exact Nat.zero_le _
  | x :: l, h => by
    have h1 := all_shown f b l fun u hu => h u (List.mem_cons_of_mem _ hu)
    have h2 := h x List.mem_cons_self
    rw [List.map_cons, PyData.shownAll, piled_cons, List.length_cons, Nat.succ_mul]
    omega
theorem shown_str {x : Str} (h : Small x) (b : Nat) (hb : x.length ≤ b) : (PyData.str x).shown.length ≤ 10 * b + 2 := by
  have := repr_le h
  show (reprText x).length ≤ _
  omega
theorem shown_int {i : Int} (h : 0 ≤ i ∧ i < roomLine) : (PyData.int i).shown.length ≤ 71 := by
  show (numW i).length ≤ 71
  exact numW_len h
theorem shown_row {r : Row} (h1 : NameOk r.1) (h2 : r.2.1 = eS ∨ NameOk r.2.1) (h3 : 0 ≤ r.2.2 ∧ r.2.2 < roomLine) : (rowD r).shown.length ≤ 250 := by
  have a := shown_str (small_name h1) 8 h1.2.1
  have b := shown_str (small_spot h2) 8 (h2.elim (fun e => by rw [e, eS_length]; decide) fun e => e.2.1)
  have c := shown_int h3
  show (tupleText (PyData.shownAll _)).length ≤ 250
  have z := tup_le (PyData.shownAll [.str r.1, .str r.2.1, .int r.2.2])
  simp only [PyData.shownAll, piled_cons, piled_nil] at z ⊢
  omega
def strsD (ns : List Str) : List PyData := ns.map .str
def dT (R : List Row) : PyData := .list [.tuple (rowsD R), .list (strsD (names R)), .int (R.length : Nat), .str (treeText R), .int (R.length : Nat)]
theorem showAll_map {α : Type} (f : α → PyData) : ∀ l : List α, (∀ x ∈ l, (f x).showable = true) → PyData.showableAll (l.map f) = true
  | [], _ => by simp [PyData.showableAll]
  | x :: l, h => by
    rw [List.map_cons, PyData.showableAll, h x List.mem_cons_self, showAll_map f l fun u hu => h u (List.mem_cons_of_mem _ hu)] <;> rfl
theorem noDict_map {α : Type} (f : α → PyData) : ∀ l : List α, (∀ x ∈ l, (f x).hasDict = false) → PyData.hasDictAll (l.map f) = false
  | [], _ => by simp [PyData.hasDictAll]
  | x :: l, h => by
    rw [List.map_cons, PyData.hasDictAll, h x List.mem_cons_self, noDict_map f l fun u hu => h u (List.mem_cons_of_mem _ hu)] <;> rfl
theorem depth_map {α : Type} (f : α → PyData) (b : Nat) : ∀ l : List α, (∀ x ∈ l, (f x).depth ≤ b) → PyData.depthAll (l.map f) ≤ b
  | [], _ => by simp [PyData.depthAll]
  | x :: l, h => by
    rw [List.map_cons, PyData.depthAll]
    exact Nat.max_le.mpr ⟨h x List.mem_cons_self, depth_map f b l fun u hu => h u (List.mem_cons_of_mem _ hu)⟩
theorem small_len {R : List Row} (T : TreeOk R) : 0 ≤ ((R.length : Nat) : Int) ∧ ((R.length : Nat) : Int) < roomLine := ⟨by omega, by
  have := T.few
  have h : (60 : Int) < roomLine := by decide
  omega⟩
theorem dT_ok {R : List Row} (T : TreeOk R) : (dT R).showable = true ∧ (dT R).hasDict = false ∧ (dT R).depth ≤ 20 ∧ (dT R).shown.length ≤ sizeLine := by
  have l0 := small_len T
  have i0 : (PyData.int (R.length : Nat)).showable = true := by
    simp only [PyData.showable]
    exact decide_eq_true (room_log l0)
  have sr : PyData.showableAll (rowsD R) = true := showAll_map rowD R fun r hr => by
    simp only [rowD, PyData.showable, PyData.showableAll, Bool.true_and, Bool.and_true]
    exact decide_eq_true (room_log (T.room r hr))
  have ss : PyData.showableAll (strsD (names R)) = true := showAll_map .str (names R) fun x _ => by simp [PyData.showable]
  refine ⟨?_, ?_, ?_, ?_⟩
  · simp only [dT, PyData.showable, PyData.showableAll, sr, ss, Bool.true_and, Bool.and_true, Bool.and_self]
    exact decide_eq_true (room_log l0)
  · have a : PyData.hasDictAll (rowsD R) = false := noDict_map rowD R fun r _ => by simp [rowD, PyData.hasDict, PyData.hasDictAll]
    have b : PyData.hasDictAll (strsD (names R)) = false := noDict_map .str (names R) fun x _ => by simp [PyData.hasDict]
    simp only [dT, PyData.hasDict, PyData.hasDictAll, a, b, Bool.or_self]
  · have a : PyData.depthAll (rowsD R) ≤ 1 := dep_rows R
    have b : PyData.depthAll (strsD (names R)) ≤ 0 := depth_map .str 0 (names R) fun x _ => by simp [PyData.depth]
    simp only [dT, PyData.depth, PyData.depthAll]
    omega
  · have a := all_shown rowD 250 R fun r hr => shown_row (T.nm r hr) (T.spot hr) (T.room r hr)
    have b := all_shown PyData.str 82 (names R) fun x hx => by
      obtain ⟨r, hr, e⟩ := of_names hx
      rw [← e]
      exact shown_str (small_name (T.nm r hr)) 8 (T.nm r hr).2.1
    have c := shown_str (small_tree T) 7000 (treeText_len (fun r hr => T.fit hr) T.few)
    have d := shown_int l0
    have e := T.few
    have a' : piled (PyData.shownAll (rowsD R)) ≤ 60 * 252 := Nat.le_trans a (Nat.mul_le_mul_right _ e)
    have b' : piled (PyData.shownAll (strsD (names R))) ≤ 60 * 84 := Nat.le_trans b (Nat.mul_le_mul_right _ (by rw [names_length]; exact e))
    have f : (PyData.tuple (rowsD R)).shown.length ≤ 60 * 252 + 3 := by
      show (tupleText (PyData.shownAll (rowsD R))).length ≤ _
      exact Nat.le_trans (tup_le _) (Nat.add_le_add_right a' 3)
    have g : (PyData.list (strsD (names R))).shown.length ≤ 60 * 84 + 2 := by
      show (listText (PyData.shownAll (strsD (names R)))).length ≤ _
      exact Nat.le_trans (list_le _) (Nat.add_le_add_right b' 2)
    have h : (dT R).shown.length ≤ piled (PyData.shownAll [.tuple (rowsD R), .list (strsD (names R)), .int (R.length : Nat), .str (treeText R), .int (R.length : Nat)]) + 2 := list_le _
    simp only [PyData.shownAll, piled_cons, piled_nil] at h
    have k : (200000 : Nat) ≤ sizeLine := by decide
    simp only [PyData.shown] at *
    omega
theorem dp_strs {K : Frag} {H : Hp} : ∀ ns : List Str, DpAll K H (txs ns) (strsD ns)
  | [] => .nil
  | x :: ns => .cons (.str x) (dp_strs ns)
end K14
end

-- K14Is2
section
set_option maxRecDepth 100000
set_option maxHeartbeats 2000000
namespace K14
open PySem PySem.Spec PyProof.Rows L2
open PySem.W (Frag)
def spIs (C : Addr) : Sp := fun vs H Q _ => ∃ (a l : Addr) (R : List Row), vs = [.ref a, .ref l] ∧ TreeAt C H a R ∧ LstAt H l R ∧ TreeOk R ∧ ∀ H', Same H H' → Q (.bl true) H'
section
variable {P : Program} {w : World} {K : Frag} {mg : Str → Option Value} {base : Heap} {f : Addr} {fd : FuncData} {C C2 : Addr}
abbrev En : XK := fun _ _ _ => False
theorem sc_is : FnScope ["_law_one", "_law_rows", "_law_told", "_law_row_here"] ["_law_one", "_law_rows"] (defScope (top 70)) := ⟨rfl, rfl, rfl, by decide +kernel, rfl, by decide +kernel, by decide +kernel⟩
theorem ok_is (F : FnP K "_law_is_tree" (top 70) f fd) (T : Txt mg) (TT : TU P w K mg base C C2) (Dl : Dn P w K mg base CX0 5 "lets_tree" [] spLets) (Dt : Dn P w K mg base CX0 3 "_law_tree_lines" [] spLines) : FnG P w K mg base CX0 10 f fd ["_law_one", "_law_rows"] (spIs C) := by
  refine okG F sc_is (fun vs H Q E h => ?_) (fun cdv A outer s H vs Q E hr hgd h => ?_)
  · obtain ⟨a, l, R, rfl, _⟩ := h
    rfl
  · have nd := sc_is.nd
    obtain ⟨a, l, R, rfl, ⟨dx, t, n, ha, ht, hn⟩, ⟨xs, hl, hx⟩, TR, k⟩ := h
    obtain ⟨pp, pg, pfd, hp, Fp, Bp⟩ := TT.prop
    obtain ⟨gi, gl, i1, i2, Fi, l1, l2, Fl⟩ := TT.itr
    obtain ⟨gs, s1', s2', Fs⟩ := TT.str
    refine ⟨_, PSs.nox (pss_cons (ps_set (i := 2) nd rfl (.inl rfl) (pe_lst (pa_cons (pe_prop (dvs := []) (E := En) (pv 0) TT.cls hp Fp (hr.mono (by decide)) Bp .nil pass0 rfl)
        (pa_cons (pe_callTy (call_listO (spI := spIter C) (sp := spLen C) (E0 := En) i1 i2 l1 l2 rfl Fi Fl (hr.mono (by decide))) rfl T.list PyProof.Rows.boot_list (pa_cons (pv 0) pa_nil))
        (pa_cons (pe_callB (call_lenO (E := En) l1 l2 Fl (hr.mono (by decide)) pass0) rfl T.len PySem.boot_len (pa_cons (pv 0) pa_nil))
        (pa_cons (pe_callTy (call_strO (E := En) s1' s2' Fs (hr.mono (by decide)) pass0) rfl T.str PyProof.Rows.boot_str (pa_cons (pv 0) pa_nil))
        (pa_cons (pe_d Dl (E := En) hr (by decide) rfl pass0 (pa_cons (pe_prop (dvs := []) (E := En) (pv 0) TT.cls hp Fp (hr.mono (by decide)) Bp .nil pass0 rfl) pa_nil)) pa_nil)))))))
      (pss_one (ps_ret (pe_cmpR op_eq (pe_callB (cr_reprD hgd hr.units) rfl T.repr PyProof.Rows.boot_repr (pa_cons (pv 2) pa_nil))
        (pe_callB (cr_reprD hgd hr.units) rfl T.repr PyProof.Rows.boot_repr (pa_cons (pe_lst (pa_cons (pe_callTy call_tuple_of rfl T.tuple (by decide +kernel) (pa_cons (pv 1) pa_nil))
          (pa_cons (pe_lc (own := [("_law_row_here", 3)]) (g := gName 3) (tt := tYes) (te := tOp (rIxT K) (tVar 3) (tC (.int 0))) rfl nd (pi_list (pv 1)) (blkOk_by (N := ["_law_one", "_law_rows", "_law_told", "_law_row_here"]) (sc := defScope (top 70)) (by decide +kernel))
              (fun _ _ _ _ _ => pg_name (i := 3) nd rfl (Or.inl rfl)) (fun _ _ _ _ _ => pts_nil) (fun _ _ _ _ _ => pe_ix ix_tup (pv 3) pe_int (fun _ _ => rfl)))
          (pa_cons (pe_callB call_len rfl T.len PySem.boot_len (pa_cons (pv 1) pa_nil)) (pa_cons (pe_d Dt (E := En) hr (by decide) rfl pass0 (pa_cons (pv 1) pa_nil)) (pa_cons (pe_callB call_len rfl T.len PySem.boot_len (pa_cons (pv 1) pa_nil)) pa_nil)))))) pa_nil)) (nomark _))))), ?_⟩
    have zl : ∀ {n : Nat}, n ≤ 100 → n ≤ sizeLine := fun h => Nat.le_trans h (by decide)
    obtain ⟨ys, ht1, hy⟩ := id ht
    have hyl : ys.length = R.length := hy.len
    have few := TR.few
    refine ⟨_, rfl, a, dx, _, rfl, ha, a, dx, t, n, rfl, ha, ?_⟩
    refine ⟨_, rfl, a, dx, _, rfl, ha, fun q hq => ⟨a, dx, t, n, txs (names R), rfl, Same.new hq a _ ha, Same.new hq n _ hn, fun it hit => ?_⟩⟩
    have sA : Same H (upd (upd H q (.lst [])) it (ItTO n it 0)) := (Same.new hq).trans (Same.new hit)
    have hqA : upd (upd H q (.lst [])) it (ItTO n it 0) q = some (.lst []) := Same.new hit q _ upd_same
    have hiA : upd (upd H q (.lst [])) it (ItTO n it 0) it = some (ItTO n it 0) := upd_same
    have hit0 : H it = none := Same.free (Same.new hq) hit
    generalize upd (upd H q (.lst [])) it (ItTO n it 0) = HA at sA hqA hiA
    refine ⟨it, n, txs (names R), dx, _, rfl, hiA, SqT.of (sA n _ hn), hqA, sA a _ ha, ?_, a, dx, t, n, ys, rfl, sA a _ ha, sA t _ ht1, (ys.length : Nat), rfl, by omega, by omega, hiA, SqT.of (sA n _ hn), hqA, ?_⟩
    · rw [txs, List.length_map, names_length]; omega
    have s3 : Same H (upd (upd HA it (AnyO it)) q (.lst (txs (names R)))) := Same.put (Same.put sA hit0) hq
    have hq3 : upd (upd HA it (AnyO it)) q (.lst (txs (names R))) q = some (.lst (txs (names R))) := upd_same
    generalize upd (upd HA it (AnyO it)) q (.lst (txs (names R))) = H3 at s3 hq3
    refine ⟨_, rfl, a, dx, _, rfl, s3 a _ ha, a, dx, t, n, ys, rfl, s3 a _ ha, s3 t _ ht1, (ys.length : Nat), rfl, by omega, by omega, ?_⟩
    refine ⟨_, rfl, a, dx, _, rfl, s3 a _ ha, a, R, rfl, ⟨dx, t, n, s3 a _ ha, ht.sm s3, s3 n _ hn⟩, TR, fun H4 s4 => ⟨treeText R, rfl, ?_⟩⟩
    have s14 := s3.trans s4
    refine ⟨_, rfl, a, dx, _, rfl, s14 a _ ha, a, dx, t, n, rfl, s14 a _ ha, t, R, rfl, ht.sm s14, TR, fun H5 s5 => ⟨zl (show (5 : Nat) ≤ 100 by decide), fun ld hld => ?_⟩⟩
    have s15 := s14.trans s5
    have hld2 : upd H5 ld (.lst [.ref t, .ref q, .int (ys.length : Nat), .str (treeText R), .int (R.length : Nat)]) ld = some (.lst [.ref t, .ref q, .int (ys.length : Nat), .str (treeText R), .int (R.length : Nat)]) := upd_same
    have s6 : Same H (upd H5 ld (.lst [.ref t, .ref q, .int (ys.length : Nat), .str (treeText R), .int (R.length : Nat)])) := s15.trans (Same.new hld)
    have hq6 : upd H5 ld (.lst [.ref t, .ref q, .int (ys.length : Nat), .str (treeText R), .int (R.length : Nat)]) q = some (.lst (txs (names R))) := Same.new hld q _ (s5 q _ (s4 q _ hq3))
    rw [hyl] at hld2 s6 hq6 ⊢
    generalize upd H5 ld (.lst [.ref t, .ref q, .int (R.length : Nat), .str (treeText R), .int (R.length : Nat)]) = H6 at hld2 s6 hq6
    obtain ⟨d1, d2, d3, d4⟩ := dT_ok TR
    refine ⟨_, rfl, ld, dT R, rfl, .lst (SqL.of hld2) (.cons (dp_tup (ht.sm s6)) (.cons (.lst (SqL.of hq6) (dp_strs _)) (.cons (.int _) (.cons (.str _) (.cons (.int _) .nil))))), d1, d2, d3, d4, ?_⟩
    refine ⟨_, rfl, l, xs, rfl, .inl ⟨SqL.of (s6 l _ hl), fun t7 ht7 => ?_⟩⟩
    have s7 : Same H6 (upd H6 t7 (.tup xs)) := Same.new ht7
    have h77 : upd H6 t7 (.tup xs) t7 = some (.tup xs) := upd_same
    generalize upd H6 t7 (.tup xs) = H7 at s7 h77
    have s17 := s6.trans s7
    refine ⟨_, rfl, l, rfl, ⟨xs, SqL.of (s17 l _ hl)⟩, fun D hD => lc_it (walk_list (xs := xs)) (fun i H' => H' = LcH H7 D (fun r : Row => some (.str r.1)) R i) lcH_0 ?_ ?_ ?_⟩
    · rintro i _ _ rfl
      exact SqL.of (lcH_at (s17 l _ hl) hD)
    · rintro i v _ _ hi rfl ⟨rfl, hv⟩
      obtain ⟨r, hr0, pr, rfl, hpr⟩ := hx.at hv
      exact ⟨rfl, tyesT ⟨_, rfl, pr, _, 0, _, rfl, rfl, SqT.of (lcH_at (s17 pr _ hpr) hD), rfl, lc_fin hr0 rfl (Nat.le_trans few (by decide))⟩⟩
    · rintro _ rfl
      rw [hx.len, lcH_n, labels_eq]
      have s8 : Same H7 (upd H7 D (.lst (txs (names R)))) := Same.new hD
      have hD8 : upd H7 D (.lst (txs (names R))) D = some (.lst (txs (names R))) := upd_same
      generalize upd H7 D (.lst (txs (names R))) = H8 at s8 hD8
      have s18 := s17.trans s8
      refine ⟨_, rfl, _, xs.length, rfl, .inl ⟨_, SqL.of (s18 l _ hl), rfl⟩, ?_⟩
      refine ⟨_, rfl, l, R, rfl, ⟨xs, s18 l _ hl, Rows.sm s18 hx⟩, TR, fun H9 s9 => ?_⟩
      have s19 := s18.trans s9
      refine ⟨_, rfl, _, xs.length, rfl, .inl ⟨_, SqL.of (s19 l _ hl), rfl⟩, zl (show (5 : Nat) ≤ 100 by decide), fun le hle => ?_⟩
      have s20 := s19.trans (Same.new (o := .lst [.ref t7, .ref D, .int (xs.length : Nat), .str (treeText R), .int (xs.length : Nat)]) hle)
      have sx : Same H7 (upd H9 le (.lst [.ref t7, .ref D, .int (xs.length : Nat), .str (treeText R), .int (xs.length : Nat)])) := (s8.trans s9).trans (Same.new hle)
      have hde : upd H9 le (.lst [.ref t7, .ref D, .int (xs.length : Nat), .str (treeText R), .int (xs.length : Nat)]) D = some (.lst (txs (names R))) := Same.new hle D _ (s9 D _ hD8)
      have hle2 : upd H9 le (.lst [.ref t7, .ref D, .int (xs.length : Nat), .str (treeText R), .int (xs.length : Nat)]) le = some (.lst [.ref t7, .ref D, .int (xs.length : Nat), .str (treeText R), .int (xs.length : Nat)]) := upd_same
      rw [hx.len] at s20 sx hde hle2 ⊢
      refine ⟨le, dT R, rfl, .lst (SqL.of hle2) (.cons (dp_tup ⟨xs, sx t7 _ h77, Rows.sm s20 hx⟩) (.cons (.lst (SqL.of hde) (dp_strs _)) (.cons (.int _) (.cons (.str _) (.cons (.int _) .nil))))), d1, d2, d3, d4, ?_⟩
      refine ⟨rfl, ?_⟩
      rw [decide_eq_true rfl]
      exact k _ s20
end
end K14
end

-- K14Exc
section
set_option maxRecDepth 100000
set_option maxHeartbeats 4000000
/-! the refusal, looked at within the suite that holds it -/
namespace K14
open PySem PySem.Spec PyProof.Rows L2
open PySem.W (Frag InstAt KitX)
section
variable {prog : Program} {w : World} {A : Around} {E : Value → Shared → Prop} {s : Shared} {K : Frag} {x D : Addr} {ox : Obj} {od : Option Obj}
/-- __class__ is a data descriptor: what stands in the dict doesn't count -/
theorem own_class (C : ExcC K D) : PySem.W.findObj K D od "__class__" = some (.bind (.builtin "getset_descriptor.__get__") (.builtin "object.__class__")) := by
  obtain ⟨cd, hc⟩ : ∃ cd, PySem.W.clsIn K D = some cd := by
    obtain ⟨cd, hc, _⟩ := PySem.W.any_some C.hd
    exact ⟨cd, hc⟩
  unfold PySem.W.findObj
  rw [hc, Option.bind_some, C.ha, Option.bind_some]
  simp [C.hn, C.ht]
theorem exc_class {Q : Option Value → Shared → Prop} (C : ExcC K D) (X : K.In s.heap) (I : InstAt s.heap x ox D od) (h : Q (some (.ref D)) { s with toks := s.toks + 1 }) : wpAny (model prog w) A (getAttr? (.ref x) "__class__") Q E s := by
  obtain ⟨hp, g, d, t, os⟩ := s
  have ty := I.type (M := model prog w)
  have at1 := PySem.W.looks_findIn (M := model prog w) X C.hg
  have at2 := PySem.W.looks_findIn (M := model prog w) X C.hk
  have at3 := PySem.W.looks_find (M := model prog w) X I (own_class C)
  have sub : PySem.W.Looks (model prog w) hp (isInstance (.ref x) (.type "BaseException")) true := ty.andThen (PySem.W.looks_subIn X C.hs)
  have f0 : (false && onTheHeap (Value.builtin "BaseException.__getattribute__")) = false := rfl
  have f1 : (onTheHeap (Value.ref D) && Value.builtin "BaseException.__getattribute__" == Value.builtin "object.__getattribute__") = false := by
    rw [show (Value.builtin "BaseException.__getattribute__" == Value.builtin "object.__getattribute__") = false by decide +kernel] <;> rfl
  unfold getAttr? getAttrBy? getAttrBy
  refine wpAny_bind (wpAny_mkText (wpAny_bind (wpAny_attempt (wpAny_holding (wpAny_bind (ty.at (wpAny_bind (at1.at ?_))))))))
  show wpAny _ _ (if (onTheHeap (Value.ref D) && Value.builtin "BaseException.__getattribute__" == Value.builtin "object.__getattribute__") = true then _ else _) _ _ _
  rw [f1, if_neg Bool.false_ne_true]
  unfold getAttrByItsOwn hookBefore
  refine wpAny_bind ?_
  rw [if_pos (show onTheHeap (Value.ref D) = true from rfl)]
  refine at2.at (wpAny_bind (wpAny_attempt (wpAny_holding ?_)))
  unfold callGetattribute
  rw [f0, if_neg Bool.false_ne_true]
  unfold boundAndCalled
  rw [PySem.F.excAttr_ValueError.ga.bind (.ref x)]
  refine wpAny_bind (wpAny_pure ?_)
  show wpAny _ _ (call (.builtin "BaseException.__getattribute__") [.ref x, .str "__class__" t]) _ _ _
  refine wpAny_call (codeAny_call_builtin PySem.F.excAttr_ValueError.ga.plain PySem.F.entry_bexc_ga ?_)
  refine @PySem.W.check_slot (model prog w) _ _ ⟨hp, g, d, t + 1, os⟩ "BaseException.__getattribute__" "BaseException" "__getattribute__" (.ref x) [.str "__class__" t] [] _ (by decide +kernel) (by decide +kernel) sub (PySem.F.args_bexc_ga (.ref x) (.str "__class__" t)) ?_
  unfold Builtin.«object.__getattribute__»
  refine wpAny_bind (wpAny_of_eq (a := ((Value.ref x : Value), [Value.str "__class__" t])) (by first | rfl | (simp only [slotArgs]; rfl)) ?_)
  refine wpAny_bind (wpAny_pure (wpAny_bind (ty.at (wpAny_bind (at3.at ?_)))))
  show wpAny _ _ (holding [Value.builtin "object.__class__"] (call (.builtin "getset_descriptor.__get__") [.builtin "object.__class__", .ref x, .ref D]) >>= ret) _ _ _
  refine wpAny_bind (wpAny_holding (wpAny_call (PySem.W.class_get (s := ⟨hp, g, d, t + 1, os⟩) (ox := ox) (od := od) X I C.hm ?_)))
  refine wpAny_pure ?_
  show wpAny _ _ (handedOut (.ref D)) _ _ _
  rw [PySem.W.handedOut_of (v := .ref D) rfl]
  first
    | exact wpAny_pure (wpAny_pure h)
    | exact wpAny_pure h
    | exact wpAny_pure (wpAny_bind (wpAny_pure (wpAny_pure h)))
theorem exc_kit (C : ExcC K D) : KitX K (.ref x) (.ref D) (fun h => InstAt h x ox D od) where
  ty := fun _ _ _ I => I.type
  it := fun M h X _ => by
    obtain ⟨cd, hc, _⟩ := PySem.W.any_some C.hd
    intro A' Q' E' s' k q
    unfold PySem.W.clsIn at hc
    split at hc
    · rename_i ho
      unfold isType loadHead
      exact wpAny_bind (wpAny_loadPart (k _ _ (X _ _ ho)) (wpAny_pure q))
    · cases hc
  ne := fun h tp dd its n sl X htp => (PySem.W.handS_kitx_exc (x := x) (ox := ox) C.hg C.hk C.hs C.hd C.ha C.hn C.ht C.hm).ne h tp dd its n sl X htp
  ca := fun X I k => exc_class C X I k
end
/-! ### in a context that pins the exception -/
section
variable {X : Cx} {a D dd : Addr} {oe : Obj}
/-- the exception, its class, its dict -/
structure ExAt (a D dd : Addr) (oe : Obj) : Prop where
  z : Zc (.ref D) (some dd) oe
  f : ∃ vs, oe.data = .fields vs
theorem ExAt.inst {pins : List (Addr × Obj)} {σ : L2.St} {H : Hp} {s : Shared} {fs : List (Str × V)} (e : ExAt a D dd oe) (hp : (a, oe) ∈ X.pn) (I : Inv X pins σ H s) (hd : H dd = some (.xd fs)) : ∃ od, InstAt s.heap a oe D (some od) ∧ ∀ n, ∃ o, PySem.W.lookIn n od = some o ∧ RelO (fs.lookup n) o := by
  obtain ⟨ha, _⟩ := I.pin (a, oe) (List.mem_append_left _ hp)
  obtain ⟨vs, hv⟩ := e.f
  obtain ⟨mA, hns, hr⟩ : ObjOk X.prog X.w H s.heap dd (.xd fs) := I.hok dd _ hd
  obtain ⟨od, ho, hl⟩ := lookIn_ns hns
  exact ⟨od, ⟨ha, e.z.1, by unfold PySem.W.notCls; rw [hv] <;> rfl, by rw [e.z.2]; exact ho⟩, fun n => ⟨mA n, hl n, hr n⟩⟩
def rIsX (K : Frag) (D a dd : Addr) : List V → Hp → VK → Prop := fun xs H Q => ∃ (c : V) (cv : Value) (b : Bool) (fs : List (Str × V)), xs = [.ref a, c] ∧ (∀ u, RelV c u → u = cv) ∧ PySem.W.kitOne K (.ref D) cv = some b ∧ H dd = some (.xd fs) ∧ Q (.bl b) H
theorem cr_isX (C : ExcC X.K D) (e : ExAt a D dd oe) (hp : (a, oe) ∈ X.pn) : CallR X (.builtin "isinstance") (rIsX X.K D a dd) := by
  intro pins s σ H xs us Q I r h
  obtain ⟨c, cv, b, fs, rfl, hcv, k1, hd, q⟩ := h
  cases r with
  | cons rx rr =>
    cases rr with
    | cons rt rr =>
      cases rr
      cases rx
      have ec := hcv _ rt
      subst ec
      obtain ⟨od, J, _⟩ := e.inst hp I hd
      exact PySem.W.kia_one (exc_kit C) I.kIn J k1 (fun z => nomatch z) fun tk => ⟨.bl b, H, I.kept (t' := tk) fun _ _ z => z, rfl, q⟩
def tXg (a D dd : Addr) (f : Str) (te : TE) : TE := fun σ H Q => te σ H fun x H1 => x = .ref a ∧ ∃ (fs : List (Str × V)) (v : V), H1 dd = some (.xd fs) ∧ fs.lookup f = some v ∧ Q v H1
theorem pe_xg {e : Expr} {te : TE} {pos : Pos} {n : Str} (T : XfC X.K D) (hno : PySem.W.findIn X.K (.ref D) n = some none) (ex : ExAt a D dd oe) (hp : (a, oe) ∈ X.pn) (he : PE X e te) (hb : attributeBase e n X.env (eval e X.env) = eval e X.env := by rfl) :
    PE X (.Attribute e n pos) (tXg a D dd n te) := by
  refine ⟨fun pins s σ H Q I h => attr_of hb (thn (he.run pins s σ H _ I h) fun u s1 hh => ?_)⟩
  obtain ⟨x, H1, I1, rx, rfl, fs, v, hd, l, q⟩ := hh
  obtain rfl : u = Value.ref a := rx
  obtain ⟨od, J, hl⟩ := ex.inst hp I1 hd
  obtain ⟨o, l1, r1⟩ := hl n
  obtain ⟨u, hu, ru⟩ := RelO.some_of (v := v) (o := o) (by rw [← l]; exact r1)
  exact HandSPX.exc_get I1.kIn J T.ga T.gg T.exC (PySem.W.findObj_own T.hdC hno rfl (by rw [l1, hu])) (handed_of ru) ⟨v, H1, I1.tok _, ru, q⟩
/-- l.count(x), plain data -/
def rCntD (K : Frag) : V → List V → Hp → VK → Prop := fun x vs H Q => ∃ (l : Addr) (y : V) (ds : List PyData) (d : PyData), x = .ref l ∧ vs = [y] ∧ Dp K H (.ref l) (.list ds) ∧ Dp K H y d ∧ PyData.plainAll ds = true ∧ d.plain = true ∧ d.depth ≤ 20 ∧
  Q (.int ((ds.countP fun z => PyData.eqv z d : Nat) : Int)) H
theorem mt_cntD (hu : X.A.units + 64 < cLine) : MtR X "list.count" (rCntD X.K) := by
  intro pins s σ H x vs v us Q I rx rv h
  obtain ⟨l, y, ds, d, rfl, rfl, hl, hd, p1, p2, p3, q⟩ := h
  cases rx
  obtain ⟨u, rfl, ru⟩ := rv.one
  obtain ⟨as, r1⟩ := Dp.reads I _ (.ref l) (.ref l) hl rfl
  obtain ⟨bs, r2⟩ := Dp.reads I d y u hd ru
  cases r1 with
  | list h1 h2 h3 h4 =>
    refine SeqAt.count_list_data ⟨_, h1, h2, _, h3⟩ h4 r2 p1 p2 ?_ ⟨.int _, H, I.tok _, ⟨_, rfl⟩, q⟩
    have : min (PyData.depthAll ds) d.depth ≤ d.depth := Nat.min_le_right _ _
    omega
end
end K14
end

-- K14Ref
section
set_option maxRecDepth 100000
set_option maxHeartbeats 2000000
/-! _law_refusal -/
namespace K14
open PySem PySem.Spec PyProof.Rows L2
open PySem.W (Frag)
/-- a promise for entries from a suite that holds p -/
structure FnX (P : Program) (w : World) (K : Frag) (mg : Str → Option Value) (base : Heap) (k : Nat) (f : Addr) (fd : FuncData) (ps : List Str) (sp : Addr × Obj → Sp) : Prop where
  len : ∀ p vs H Q E, sp p vs H Q E → vs.length = ps.length
  run : ∀ (A : Around) (outer : List Env) (s : Shared) (H : Hp) (args : Args) (us : List Value) (vs : List V) (Q : VK) (E : XK) (p : Addr × Obj), L2H.RoomH k A → L2H.PinOk outer H s p → Env0 P w K mg base A outer s H → BindsTo s fd args (ps.zip us) → Vals vs us → sp p vs H Q E →
    codeAny (model P w) A (.call (.ref f) args) (CR CX0 outer P w H s Q E) s
section
variable {P : Program} {w : World} {K : Frag} {mg : Str → Option Value} {base : Heap} {x qual : Str} {params : Arguments} {body : List Stmt} {scope : Scope} {f : Addr} {fd : FuncData}
theorem okX {N ps : List Str} {k : Nat} {sp : Addr × Obj → Sp} (F : FunD K x qual params body scope [] [] f fd) (S : FnScope N ps scope) (len : ∀ p vs H Q E, sp p vs H Q E → vs.length = ps.length)
    (hbody : ∀ (cdv : Value) (A : Around) (outer : List Env) (s : Shared) (H : Hp) (vs : List V) (Q : VK) (E : XK) (p : Addr × Obj), L2H.RoomH k (A.deeper (envOfC qual scope s.heap.objs.size f cdv)) → sp p vs H Q E →
      ∃ t, PSs (L2H.cxH CX0 P w K mg base N qual scope f cdv A outer s H E p) body t ∧ t { nx := fun _ H' => Q .non H', rt := Q } (L2.start N vs) H) : FnX P w K mg base (k + 1) f fd ps sp := by
  obtain ⟨oc, od, dV, kV, doc, pm, an, cdv, ct, osl, rfl, lk, hcd, _, _⟩ := F.ex
  refine ⟨len, fun A outer s H args us vs Q E p hr hpin e0 hb r hsp => ?_⟩
  have hl := len _ _ _ _ _ hsp
  have kin : K.In s.heap := e0.mod.kin.keeps fun b o e => (e0.bs b o e).1
  have lim : s.heap.NoLimit := e0.mod.nolimit.keeps fun b o e => (e0.bs b o e).1
  have hkind : ∀ y ∈ ps.zip us, scope.names.lookup y.1 = some .local ∨ (scope.names.lookup y.1 = some .cell ∧ ((cellsFrom (s.heap.objs.size + 1) scope.names []).lookup y.1).isSome = true) := by
    rintro ⟨n, v⟩ hy
    rcases S.par n (List.of_mem_zip hy).1 with q | q
    · exact .inl q
    · exact .inr ⟨q, PySem.W.cellsFrom_some _ _ _ (.inl q)⟩
  refine codeAny_call_function hr.depth (kin _ _ lk) rfl S.co S.gen rfl (PySem.W.codeRec_of kin hcd) (hb _ _ _ _ (wpAny_newFunctionEnv_cells S.kind hkind fun env he s1 y => ?_))
  subst he
  refine ⟨lim.keeps y.toInCall.keep, codeAny_func ?_⟩
  obtain ⟨t, ht, hq⟩ := hbody cdv A outer s H vs Q E p (hr.deeper _) hsp
  have I : Inv (L2H.cxH CX0 P w K mg base N qual scope f cdv A outer s H E p) [] (L2.start N vs) H s1 := L2H.inv_startH S hpin e0 hl r y
  refine wpAny_mono (ht.run [] s1 (L2.start N vs) H _ I hq) (fun fl s' hs => ?_) fun e s' hs => hs
  have fin : ∀ {σ' : L2.St} {H' : Hp} {v : V} {u : Value}, Inv (L2H.cxH CX0 P w K mg base N qual scope f cdv A outer s H E p) [] σ' H' s' → RelV v u → Q v H' → CE outer P w H s Q u s' := fun J rv q => ⟨_, _, J.os, J.bare, J.base, J.hok, rv, q⟩
  cases fl with
  | ret u => exact let ⟨_, _, _, J, rv, q⟩ := hs; fin J rv q
  | next => exact let ⟨_, _, J, q⟩ := hs; fin (v := V.non) (u := Value.none) J rfl q
  | brk => exact let ⟨_, _, _, q⟩ := hs; q.elim
  | cont => exact let ⟨_, _, _, q⟩ := hs; q.elim
end
structure DnX (P : Program) (w : World) (K : Frag) (mg : Str → Option Value) (base : Heap) (k : Nat) (x : Str) (sp : Addr × Obj → Sp) : Prop where
  ex : ∃ (f : Addr) (fd : FuncData) (ps : List Str), mg x = some (.ref f) ∧ PySem.W.keepIn K (.ref f) = true ∧ FnX P w K mg base k f fd ps sp ∧ Binds K fd ps []
section
variable {X : Cx} {j k : Nat} {x : Str} {sp : Addr × Obj → Sp} {q pos : Pos} {e : Expr} {es : List Expr} {t : TA} {p : Addr × Obj}
def tCallX (sp : Addr × Obj → Sp) (p : Addr × Obj) (t : TA) : TE := fun σ H Q => t σ H fun vs H1 => sp p vs H1 Q (fun _ _ _ => False)
theorem pe_dX (D : DnX X.prog X.w X.K X.mg X.base k x sp) (hr : L2H.RoomH j X.A) (hk : k ≤ j) (hp : p ∈ X.pn) (hg : Gl X x) (ha : PA X (e :: es) t) (hdb : (x == ("__debug__" : Str)) = false := by decide +kernel)
    (he : starEach (e :: es) X.env = (false, eval e X.env) :: starEach es X.env := by rfl) (hpl : (backTo pos (starEach es X.env)).any (·.1) = false := by rfl) :
    PE X (.Call (.Name x q) (e :: es) [] pos) (tCallX sp p t) := by
  obtain ⟨f, fd, ps, h1, h2, F, hb⟩ := D.ex
  refine ⟨fun pins s σ H Q I h => wpAny_Call_Name_kw (ld_glob I hg h1 ?_ hdb)⟩
  refine PySem.W.callWith_K (h₀ := X.base) I.ok.mod.kin h2 (thn (ha.run pos pins s σ H _ I h) fun us s1 ⟨vs, H1, I1, r, qq⟩ => ⟨I1.kIn, ?_⟩) he hpl
  have qq : sp p vs H1 Q (fun _ _ _ => False) := qq
  have hl : us.length = ps.length := by rw [← r.length]; exact F.len _ _ _ _ _ qq
  have hb2 := hb s1 us I1.kIn (by rw [List.append_nil]; exact hl)
  rw [List.append_nil] at hb2
  have P1 := I1.pin p (List.mem_append_left _ hp)
  have hpin : L2H.PinOk X.stack H1 s1 p := ⟨P1.1, P1.2.1, fun hm => (List.mem_cons.mp (I1.stkSub p.1 hm)).elim P1.2.2.1 P1.2.2.2.1, P1.2.2.2.2⟩
  refine wpAny_call (codeAny_mono (F.run X.A X.stack s1 H1 ⟨us, []⟩ us vs Q _ p (hr.mono hk) hpin I1.env0 hb2 r qq) fun r' s' hq => ?_)
  cases r' with
  | error z => exact False.elim hq
  | ok fl =>
    cases fl with
    | ret u => exact I1.after hq
    | next => exact False.elim hq
    | brk => exact False.elim hq
    | cont => exact False.elim hq
end
def IsA (K : Frag) (mg : Str → Option Value) (C2 : Addr) (x : Str) (b : Bool) : Prop := ∃ c, mg x = some (.ref c) ∧ PySem.W.kitOne K (.ref C2) (.ref c) = some b
/-- what the classes of the program say of NotUsable -/
structure RefTxt (K : Frag) (mg : Str → Option Value) (C2 : Addr) : Prop where
  exc : ExcC K C2
  xfc : XfC K C2
  word : PySem.W.findIn K (.ref C2) "word" = some none
  at_ : PySem.W.findIn K (.ref C2) "at" = some none
  i1 : IsA K mg C2 "PaperError" false
  i2 : IsA K mg C2 "TreeError" true
  i3 : IsA K mg C2 "TextError" false
  i4 : IsA K mg C2 "MovingError" false
  i5 : IsA K mg C2 "InvalidEvent" false
  i6 : IsA K mg C2 "NothingToUndo" false
  i7 : IsA K mg C2 "Barred" false
  i8 : IsA K mg C2 "InvalidRow" false
  i9 : IsA K mg C2 "InvalidPaper" false
  i10 : IsA K mg C2 "NotUsable" true
  val : PySem.W.kitOne K (.ref C2) (.type "ValueError") = some true
def spRef (C2 : Addr) (p : Addr × Obj) : Sp := fun vs H Q _ => ∃ (dd : Addr) (a b : V), vs = [.ref p.1] ∧ ExAt p.1 C2 dd p.2 ∧ H dd = some (.xd (nuD a b)) ∧ ∀ H' q, Same H H' → H' q = some (.tup [.str "use", a, b]) → Q (.ref q) H'
section
variable {P : Program} {w : World} {K : Frag} {mg : Str → Option Value} {base : Heap} {f : Addr} {fd : FuncData} {C2 : Addr}
theorem sc_ref : FnScope ["_law_e", "_law_sorts", "_law_others"] ["_law_e"] (defScope (top 63)) := ⟨rfl, rfl, rfl, by decide +kernel, rfl, by decide +kernel, by decide +kernel⟩
theorem ok_ref (F : FnP K "_law_refusal" (top 63) f fd) (T : Txt mg) (RT : RefTxt K mg C2) : FnX P w K mg base 1 f fd ["_law_e"] (spRef C2) := by
  refine okX F sc_ref (fun p vs H Q E h => ?_) (fun cdv A outer s H vs Q E p hr h => ?_)
  · obtain ⟨dd, a, b, rfl, _⟩ := h
    rfl
  · have nd := sc_ref.nd
    obtain ⟨dd, a, b, rfl, ex, hd, k⟩ := h
    obtain ⟨c1, m1, k1⟩ := RT.i1
    obtain ⟨c2, m2, k2⟩ := RT.i2
    obtain ⟨c3, m3, k3⟩ := RT.i3
    obtain ⟨c4, m4, k4⟩ := RT.i4
    obtain ⟨c5, m5, k5⟩ := RT.i5
    obtain ⟨c6, m6, k6⟩ := RT.i6
    obtain ⟨c7, m7, k7⟩ := RT.i7
    obtain ⟨c8, m8, k8⟩ := RT.i8
    obtain ⟨c9, m9, k9⟩ := RT.i9
    obtain ⟨c10, m10, k10⟩ := RT.i10
    have hu : (A.deeper (envOfC "_law_refusal" (defScope (top 63)) s.heap.objs.size f cdv)).units + 64 < cLine := by have := hr.un; omega
    have mem : (p.1, p.2) ∈ (L2H.cxH CX0 P w K mg base ["_law_e", "_law_sorts", "_law_others"] "_law_refusal" (defScope (top 63)) f cdv A outer s H E p).pn := List.mem_cons_self
    refine ⟨_, pss_cons (ps_set (i := 1) nd rfl (.inl rfl) (pe_lst (pa_cons (pe_callB (cr_isX RT.exc ex mem) rfl T.isinstance PyProof.Rows.boot_isinstance (pa_cons (pv 0) (pa_cons (pe_glob (v := .ref c1) rfl m1 rfl) pa_nil)))
        (pa_cons (pe_callB (cr_isX RT.exc ex mem) rfl T.isinstance PyProof.Rows.boot_isinstance (pa_cons (pv 0) (pa_cons (pe_glob (v := .ref c2) rfl m2 rfl) pa_nil)))
        (pa_cons (pe_callB (cr_isX RT.exc ex mem) rfl T.isinstance PyProof.Rows.boot_isinstance (pa_cons (pv 0) (pa_cons (pe_glob (v := .ref c3) rfl m3 rfl) pa_nil)))
        (pa_cons (pe_callB (cr_isX RT.exc ex mem) rfl T.isinstance PyProof.Rows.boot_isinstance (pa_cons (pv 0) (pa_cons (pe_glob (v := .ref c4) rfl m4 rfl) pa_nil))) pa_nil))))))
      (pss_cons (ps_set (i := 2) nd rfl (.inl rfl) (pe_lst (pa_cons (pe_callB (cr_isX RT.exc ex mem) rfl T.isinstance PyProof.Rows.boot_isinstance (pa_cons (pv 0) (pa_cons (pe_glob (v := .ref c5) rfl m5 rfl) pa_nil)))
        (pa_cons (pe_callB (cr_isX RT.exc ex mem) rfl T.isinstance PyProof.Rows.boot_isinstance (pa_cons (pv 0) (pa_cons (pe_glob (v := .ref c6) rfl m6 rfl) pa_nil)))
        (pa_cons (pe_callB (cr_isX RT.exc ex mem) rfl T.isinstance PyProof.Rows.boot_isinstance (pa_cons (pv 0) (pa_cons (pe_glob (v := .ref c7) rfl m7 rfl) pa_nil))) pa_nil)))))
      (pss_cons (ps_expr (pe_bm PySem.F.plainAttrs_list PySem.F.slot_list_append PySem.F.type_list_append mt_append (pv 2) (pa_cons (pe_callB (cr_isX RT.exc ex mem) rfl T.isinstance PyProof.Rows.boot_isinstance (pa_cons (pv 0) (pa_cons (pe_glob (v := .ref c8) rfl m8 rfl) pa_nil))) pa_nil)))
      (pss_cons (ps_if (PW.pt (pw_or (pt_cmpR op_ne (pe_bm PySem.F.plainAttrs_list PySem.F.slot_list_count PySem.F.type_list_count (mt_cntD hu) (pv 1) (pa_cons pe_bl pa_nil)) pe_int (nomark _))
          (pw_or (pt_cmpR op_in_seq pe_bl (pv 2) rfl) (pw_or1 (pt_not (pt_val (pe_callB (cr_isX RT.exc ex mem) rfl T.isinstance PyProof.Rows.boot_isinstance (pa_cons (pv 0) (pa_cons (pe_bltn (v := .ty "ValueError") rfl T.ValueError (by decide +kernel) rfl) pa_nil))))))))) pss_never pss_nil)
      (pss_cons (ps_if (PW.pt (pw_and (pt_val (pe_ix ix_list (pv 1) pe_int (fun _ _ => rfl))) (pw_and1 (pt_val (pe_callB (cr_isX RT.exc ex mem) rfl T.isinstance PyProof.Rows.boot_isinstance (pa_cons (pv 0) (pa_cons (pe_glob (v := .ref c9) rfl m9 rfl) pa_nil))))))) pss_never pss_nil)
      (pss_cons (ps_if (PW.pt (pw_and (pt_val (pe_ix ix_list (pv 1) pe_int (fun _ _ => rfl))) (pw_and1 (pt_val (pe_callB (cr_isX RT.exc ex mem) rfl T.isinstance PyProof.Rows.boot_isinstance (pa_cons (pv 0) (pa_cons (pe_glob (v := .ref c10) rfl m10 rfl) pa_nil)))))))
          (pss_one (ps_ret (pe_tup (pa_cons pe_str (pa_cons (pe_xg RT.xfc RT.word ex mem (pv 0)) (pa_cons (pe_xg RT.xfc RT.at_ ex mem (pv 0)) pa_nil)))))) pss_nil)
      (pss_one ps_never)))))), ?_⟩
    have one : ∀ {c : Addr} {u : Value}, RelV (.ref c) u → u = .ref c := fun h => h
    have zl : ∀ {n : Nat}, n ≤ 100 → n ≤ sizeLine := fun h => Nat.le_trans h (by decide)
    refine ⟨_, rfl, _, _, _, _, rfl, (fun _ => one), k1, hd, _, rfl, _, _, _, _, rfl, (fun _ => one), k2, hd, _, rfl, _, _, _, _, rfl, (fun _ => one), k3, hd, _, rfl, _, _, _, _, rfl, (fun _ => one), k4, hd, zl (show (4 : Nat) ≤ 100 by decide), fun l1 hl1 => ?_⟩
    have hd1 := Same.new (o := .lst [.bl false, .bl true, .bl false, .bl false]) hl1 dd _ hd
    have s1 : Same H (upd H l1 (.lst [.bl false, .bl true, .bl false, .bl false])) := Same.new hl1
    have g1 : upd H l1 (.lst [.bl false, .bl true, .bl false, .bl false]) l1 = some (.lst [.bl false, .bl true, .bl false, .bl false]) := upd_same
    generalize upd H l1 (.lst [.bl false, .bl true, .bl false, .bl false]) = H1 at hd1 s1 g1
    refine ⟨_, rfl, _, _, _, _, rfl, (fun _ => one), k5, hd1, _, rfl, _, _, _, _, rfl, (fun _ => one), k6, hd1, _, rfl, _, _, _, _, rfl, (fun _ => one), k7, hd1, zl (show (3 : Nat) ≤ 100 by decide), fun l2 hl2 => ?_⟩
    have s2 : Same H1 (upd H1 l2 (.lst [.bl false, .bl false, .bl false])) := Same.new hl2
    have g2 : upd H1 l2 (.lst [.bl false, .bl false, .bl false]) l2 = some (.lst [.bl false, .bl false, .bl false]) := upd_same
    refine ⟨_, rfl, .inl ⟨rfl, _, SqL.of g2⟩, _, rfl, _, _, _, _, rfl, (fun _ => one), k8, s2 dd _ hd1, l2, _, _, rfl, rfl, g2, show (3 : Nat) < sizeLine by decide, ?_⟩
    have s3 : Same H1 (upd (upd H1 l2 (.lst [.bl false, .bl false, .bl false])) l2 (.lst ([.bl false, .bl false, .bl false] ++ [.bl false]))) := Same.put s2 hl2
    have g3 : upd (upd H1 l2 (.lst [.bl false, .bl false, .bl false])) l2 (.lst ([.bl false, .bl false, .bl false] ++ [.bl false])) l2 = some (.lst [.bl false, .bl false, .bl false, .bl false]) := upd_same
    generalize upd (upd H1 l2 (.lst [.bl false, .bl false, .bl false])) l2 (.lst ([.bl false, .bl false, .bl false] ++ [.bl false])) = H3 at s3 g3
    have hd3 := s3 dd _ hd1
    have h13 := s3 l1 _ g1
    refine ⟨_, rfl, .inl ⟨rfl, _, SqL.of h13⟩, l1, .bl true, [.bool false, .bool true, .bool false, .bool false], .bool true, rfl, rfl, .lst (SqL.of h13) (.cons (.bl _) (.cons (.bl _) (.cons (.bl _) (.cons (.bl _) .nil)))), .bl _, by decide +kernel, by decide +kernel, by decide +kernel, ?_⟩
    rw [show ([PyData.bool false, PyData.bool true, PyData.bool false, PyData.bool false].countP fun z => PyData.eqv z (.bool true)) = 1 by decide +kernel]
    refine ⟨rfl, _, rfl, iteF ⟨_, rfl, l2, _, rfl, .inl (SqL.of g3), rfl, by decide, _, rfl, ?_⟩⟩
    rw [if_neg Bool.false_ne_true, show inV (.bl true) [.bl false, .bl false, .bl false, .bl false] = false by decide]
    refine iteF ⟨_, rfl, _, _, _, _, rfl, (fun u h => h), RT.val, hd3, _, rfl, iteF ?_⟩
    refine ⟨_, rfl, l1, _, 0, _, rfl, rfl, SqL.of h13, rfl, _, rfl, iteF (iteF ?_)⟩
    refine ⟨_, rfl, l1, _, 1, _, rfl, rfl, SqL.of h13, rfl, _, rfl, iteT ⟨_, rfl, _, _, _, _, rfl, (fun _ => one), k10, hd3, _, rfl, iteT ?_⟩⟩
    refine ⟨_, rfl, rfl, _, _, hd3, rfl, _, rfl, rfl, _, _, hd3, rfl, zl (show (3 : Nat) ≤ 100 by decide), fun q hq => ?_⟩
    exact k _ q ((s1.trans s3).trans (Same.new hq)) upd_same
end
end K14
end

-- K14Said
section
set_option maxRecDepth 100000
set_option maxHeartbeats 2000000
/-! _law_said: a lambda asked, its refusal told -/
namespace K14
open PySem PySem.Spec PyProof.Rows L2
open PySem.W (Frag)
/-- what _law_said makes of what its lambda tells -/
def TSaid (C2 : Addr) : (XK → Hp → VK → Prop) → Hp → VK → Prop := fun tl H Q =>
  tl (fun cls d H' => cls = .ref C2 ∧ ∃ dd x y, d = some dd ∧ H' dd = some (.xd (nuD x y)) ∧ ∀ H'' q, Same H' H'' → H'' q = some (.tup [.str "use", x, y]) → Q (.ref q) H'') H
    (fun v H' => [V.str "told", v].length ≤ sizeLine ∧ ∀ p, H' p = none → Q (.ref p) (upd H' p (.tup [.str "told", v])))
def tsSaid (C2 : Addr) (a : Addr) (cls : Value) (d : Option Addr) : TS := fun D σ H => (σ.length = 2 → σ[1]? = some (some (.ref a))) ∧ cls = .ref C2 ∧ ∃ dd x y, d = some dd ∧ H dd = some (.xd (nuD x y)) ∧ ∀ H'' q, Same H H'' → H'' q = some (.tup [.str "use", x, y]) → D.rt (.ref q) H''
section
variable {X : Cx} {C2 RE g : Addr} {cdg : Value} {q : Str}
theorem sc_said : FnScope ["_law_ask", "_law_e"] ["_law_ask"] (defScope (top 64)) := ⟨rfl, rfl, rfl, by decide +kernel, rfl, by decide +kernel, by decide +kernel⟩
theorem said_gives (hr : Room 4 X.A) (hme : X.mg "RoomError" = some (.ref RE)) (hex : PySem.W.exmOne X.K (.ref C2) (.ref RE) = some true) (Dr : DnX X.prog X.w X.K X.mg X.base 1 "_law_refusal" (spRef C2)) :
    LamX.GivesTo X ["_law_ask", "_law_e"] "_law_said" (defScope (top 64)) g cdg (defBody (top 64)) "_law_ask" q (TSaid C2) := by
  intro f c' s H Q tl act hc h
  refine ⟨_, pss_one (L2.ps_try_as (X := (cxOf C8.CX0 X.prog X.w X.K X.mg X.base ["_law_ask", "_law_e"] "_law_said" (defScope (top 64)) g cdg X.A X.stack s H C8.E0).nox) (c := .ref RE) (i := 1)
      (ts := tsSaid C2) (tb := fun W D σ H => ∃ Ech : XK, (∀ cls d σ' H', Ech cls d H' → W cls d σ' H') ∧ σ[0]? = some (some (.ref f)) ∧ H c' = some (LamX.CodeO c' q) ∧ tl Ech H fun v H' => [V.str "told", v].length ≤ sizeLine ∧ ∀ p, H' p = none → D.rt (.ref p) (upd H' p (.tup [.str "told", v])))
      rfl rfl sc_said.nd rfl rfl ⟨rfl, by decide +kernel, .inl hme⟩ LamX.takes0 (fun W pn xe tk _ => ?_) (fun a oe cls d pn hz hf => ?_)), ?_⟩
  · refine ⟨fun pins s' σ H' D I h' => ?_⟩
    obtain ⟨Ech, hW, h1, h2, h3⟩ := h'
    exact (pss_one (ps_ret (pe_tup (pa_cons pe_str (pa_cons (act W pn xe Ech _ _ tk hW) pa_nil))))).run pins s' σ H' D I ⟨h1, h2, h3⟩
  · refine ⟨fun pins s' σ H' D I h' => ?_⟩
    obtain ⟨hσ, rfl, dd, x, y, rfl, hd, k⟩ := h'
    have hl : σ.length = 2 := I.len
    have room : L2H.RoomH 3 (X.A.deeper (envOfC "_law_said" (defScope (top 64)) s.heap.objs.size g cdg)) := (L2H.roomH_of hr).deeper _
    refine (pss_one (ps_ret (pe_dX (X := ((cxOf C8.CX0 X.prog X.w X.K X.mg X.base ["_law_ask", "_law_e"] "_law_said" (defScope (top 64)) g cdg X.A X.stack s H C8.E0).nox).suite a ((a, oe) :: pn)) (p := (a, oe)) (j := 3) Dr ⟨room.dp, room.un⟩ (by decide) List.mem_cons_self rfl (pa_cons (pv 1) pa_nil)))).run pins s' σ H' D I ?_
    exact ⟨_, hσ hl, dd, x, y, rfl, ⟨hz, hf⟩, hd, k⟩
  · refine ⟨_, fun cls d σ' H' hE => ?_, rfl, hc, h⟩
    obtain ⟨rfl, dd, x, y, rfl, hd, k⟩ := hE
    refine ⟨true, hex, fun _ a ha => ⟨fun hl => ?_, rfl, dd, x, y, rfl, hd, k⟩, fun z => nomatch z⟩
    rw [List.length_set] at hl
    rw [List.getElem?_set_self (by omega)]
end
end K14
end

-- K14Step
section
set_option maxRecDepth 100000
set_option maxHeartbeats 2000000
/-! a step of the law -/
namespace K14
open PySem PySem.Spec PyProof.Rows L2
open PySem.W (Frag)
/-- all stays but the dicts and the tables of code objects -/
def GrW (H H' : Hp) : Prop := ∀ b o, H b = some o → (∀ ps, o ≠ .tbl ps) → (∀ kvs, o ≠ .dK kvs) → H' b = some o
theorem GrW.refl (H : Hp) : GrW H H := fun _ _ h _ _ => h
theorem GrW.trans {H H1 H2 : Hp} (a : GrW H H1) (b : GrW H1 H2) : GrW H H2 := fun c o h n m => b c o (a c o h n m) n m
theorem GrW.of {H H' : Hp} (g : Gr H H') : GrW H H' := fun b o h _ m => g b o h m
theorem GrW.ofN {H H' : Hp} (g : LamX.ExtN H H') : GrW H H' := fun b o h n _ => g b o h n
theorem GrW.sm {H H' : Hp} (g : Same H H') : GrW H H' := GrW.of (Gr.of g)
theorem GrW.tup {H H' : Hp} (g : GrW H H') {b : Addr} {xs : List V} (h : H b = some (.tup xs)) : H' b = some (.tup xs) := g b _ h (fun _ z => nomatch z) (fun _ z => nomatch z)
theorem GrW.lst {H H' : Hp} (g : GrW H H') {b : Addr} {xs : List V} (h : H b = some (.lst xs)) : H' b = some (.lst xs) := g b _ h (fun _ z => nomatch z) (fun _ z => nomatch z)
theorem GrW.ins {H H' : Hp} (g : GrW H H') {b C dx : Addr} {fs : List (Str × V)} (h : H b = some (.ins C dx fs)) : H' b = some (.ins C dx fs) := g b _ h (fun _ z => nomatch z) (fun _ z => nomatch z)
theorem RowAt.grw {H H' : Hp} (g : GrW H H') {x : V} {r : Row} (h : RowAt H x r) : RowAt H' x r := let ⟨p, e, q⟩ := h; ⟨p, e, g.tup q⟩
theorem Rows.grw {H H' : Hp} (g : GrW H H') : ∀ {xs : List V} {R : List Row}, Rows H xs R → Rows H' xs R
  | _, _, .nil => .nil
  | _, _, .cons h t => .cons (h.grw g) (Rows.grw g t)
theorem LstAt.grw {H H' : Hp} (g : GrW H H') {t : Addr} {R : List Row} (h : LstAt H t R) : LstAt H' t R := let ⟨xs, e, q⟩ := h; ⟨xs, g.lst e, Rows.grw g q⟩
theorem TreeAt.grw {C : Addr} {H H' : Hp} (g : GrW H H') {a : Addr} {R : List Row} (h : TreeAt C H a R) : TreeAt C H' a R := by
  obtain ⟨dx, t, n, h1, ⟨xs, h2, h3⟩, h4⟩ := h
  exact ⟨dx, t, n, g.ins h1, ⟨xs, g.tup h2, Rows.grw g h3⟩, g.tup h4⟩
theorem SpoolAt.ext {H H' : Hp} {sp c : Addr} (h : SpoolAt H sp c) (g : LamX.ExtN H H') : SpoolAt H' sp c := by
  obtain ⟨is, n, r, t, h1, h2, h3, h4⟩ := h
  exact ⟨is, n, r, t, g sp _ h1 (fun _ z => nomatch z), g c _ h2 (fun _ z => nomatch z), h3, h4⟩
theorem tabs_gr {T : List (Addr × Str)} {H H' : Hp} (h : LamX.Tabs T H) (g : Gr H H') : LamX.Tabs T H' := fun p hp => by
  obtain ⟨ps, h1, h2, h3⟩ := h p hp
  refine ⟨ps, g _ _ h1 (fun _ z => nomatch z), h2, fun pos cv e => ?_⟩
  obtain ⟨c, e1, e2⟩ := h3 pos cv e
  exact ⟨c, e1, g _ _ e2 (fun _ z => nomatch z)⟩
/-- the name of the lambdas of a step -/
def qLam : Str := (envOfC "_law_step_right" (defScope (top 71)) 0 0 .none).qual ++ "<lambda>"
abbrev tabT (P : Addr) : List (Addr × Str) := [(P, qLam)]
def spStep (C Pt : Addr) : Sp := fun vs H Q _ => ∃ (sp c nl a l : Addr) (ns : List Str) (R : List Row), vs = [.ref sp, .ref nl, .ref a, .ref l] ∧ SpoolAt H sp c ∧ LamX.Tabs (tabT Pt) H ∧ H nl = some (.lst (txs ns)) ∧ NamesOk ns ∧ ns ≠ [] ∧ ns.length ≤ 16 ∧
  TreeAt C H a R ∧ LstAt H l R ∧ TreeOk R ∧ R.length ≤ 30 ∧ (∀ r ∈ R, r.1 ≠ nob) ∧
  ∀ H' p b l' R', GrW H H' → SpoolAt H' sp c → LamX.Tabs (tabT Pt) H' → H' p = some (.tup [.ref b, .ref l']) → TreeAt C H' b R' → LstAt H' l' R' → TreeOk R' → R'.length ≤ R.length + 1 → (∀ r ∈ R', r.1 ≠ nob) → Q (.ref p) H'
/-- the def with its code object at c -/
structure FunC (K : Frag) (x : Str) (st : Stmt) (f : Addr) (fd : FuncData) (c : Addr) : Prop where
  ex : ∃ (oc : Value) (od : Option Addr) (dV kV doc pm : Value) (an : Option Addr) (ct : Value) (osl : Array (Option Value)),
    fd = PySem.W.fnOf x x (defArgs st) (defBody st) (defScope st) dV kV doc pm an (.ref c) ct ∧ K.lookup f = some ⟨oc, od, .func fd, osl⟩ ∧ PySem.W.codeIn K (.ref c) x = true
section
variable {P : Program} {w : World} {K : Frag} {mg : Str → Option Value} {base : Heap} {x : Str} {st : Stmt} {f c : Addr} {fd : FuncData}
theorem okGC {CX : CXT} {N ps : List Str} {k : Nat} {sp : Sp} (F : FunC K x st f fd c) (S : FnScope N ps (defScope st)) (len : ∀ vs H Q E, sp vs H Q E → vs.length = ps.length)
    (hbody : ∀ (A : Around) (outer : List Env) (s : Shared) (H : Hp) (vs : List V) (Q : VK) (E : XK), Room k (A.deeper (envOfC x (defScope st) s.heap.objs.size f (.ref c))) → A.guards = some [] → sp vs H Q E →
      ∃ t, PSs (cxOf CX P w K mg base N x (defScope st) f (.ref c) A outer s H E) (defBody st) t ∧ t { nx := fun _ H' => Q .non H', rt := Q } (L2.start N vs) H) : FnG P w K mg base CX (k + 1) f fd ps sp := by
  obtain ⟨oc, od, dV, kV, doc, pm, an, ct, osl, rfl, lk, hcd⟩ := F.ex
  refine ⟨len, fun A outer s H args us vs Q E hr hg e0 hb r hsp => ?_⟩
  have hl := len _ _ _ _ hsp
  have kin : K.In s.heap := e0.mod.kin.keeps fun b o e => (e0.bs b o e).1
  have lim : s.heap.NoLimit := e0.mod.nolimit.keeps fun b o e => (e0.bs b o e).1
  have hkind : ∀ y ∈ ps.zip us, (defScope st).names.lookup y.1 = some .local ∨ ((defScope st).names.lookup y.1 = some .cell ∧ ((cellsFrom (s.heap.objs.size + 1) (defScope st).names []).lookup y.1).isSome = true) := by
    rintro ⟨n, v⟩ hy
    rcases S.par n (List.of_mem_zip hy).1 with q | q
    · exact .inl q
    · exact .inr ⟨q, PySem.W.cellsFrom_some _ _ _ (.inl q)⟩
  refine codeAny_call_function hr.depth (kin _ _ lk) rfl S.co S.gen rfl (PySem.W.codeRec_of kin hcd) (hb _ _ _ _ (wpAny_newFunctionEnv_cells S.kind hkind fun env he s1 y => ?_))
  subst he
  refine ⟨lim.keeps y.toInCall.keep, codeAny_func ?_⟩
  obtain ⟨t, ht, hq⟩ := hbody A outer s H vs Q E (hr.deeper _) hg hsp
  have I : Inv (cxOf CX P w K mg base N x (defScope st) f (.ref c) A outer s H E) [] (L2.start N vs) H s1 := inv_start S hr.hd e0 hl r y
  refine wpAny_mono (ht.run [] s1 (L2.start N vs) H _ I hq) (fun fl s' hs => ?_) fun e s' hs => hs
  have fin : ∀ {σ' : L2.St} {H' : Hp} {v : V} {u : Value}, Inv (cxOf CX P w K mg base N x (defScope st) f (.ref c) A outer s H E) [] σ' H' s' → RelV v u → Q v H' → CE outer P w H s Q u s' := fun J rv q => ⟨_, _, J.os, J.bare, J.base, J.hok, rv, q⟩
  cases fl with
  | ret u => exact let ⟨_, _, _, J, rv, q⟩ := hs; fin J rv q
  | next => exact let ⟨_, _, J, q⟩ := hs; fin (v := V.non) (u := Value.none) J rfl q
  | brk => exact let ⟨_, _, _, q⟩ := hs; q.elim
  | cont => exact let ⟨_, _, _, q⟩ := hs; q.elim
end
abbrev NStep : List Str := ["_law_spool_here", "_law_names_here", "_law_one", "_law_rows", "_law_row_here", "_law_known", "_law_due", "_law_told", "_law_refused", "_law_label"]
theorem sc_step : FnScope NStep ["_law_spool_here", "_law_names_here", "_law_one", "_law_rows"] (defScope (top 71)) := ⟨rfl, rfl, rfl, by decide +kernel, rfl, by decide +kernel, by decide +kernel⟩
/-- the refusal's tuple, shown -/
structure UseD (K : Frag) (x y : V) (d : PyData) : Prop where
  dp : ∀ H p, H p = some (.tup [.str "use", x, y]) → Dp K H (.ref p) d
  s1 : d.showable = true
  s2 : d.hasDict = false
  s3 : d.depth ≤ 20
  s4 : d.shown.length ≤ sizeLine
theorem use_row {K : Frag} : UseD K (.str "row") (.int (-1)) (.tuple [.str "use", .str "row", .int (-1)]) := ⟨fun H p h => .tup (SqT.of h) (.cons (.str _) (.cons (.str _) (.cons (.int _) .nil))), by decide +kernel, by decide +kernel, by decide +kernel, by decide +kernel⟩
theorem use_folder {K : Frag} {x : Str} (h : NameOk x) : UseD K (.str "folder") (.str x) (.tuple [.str "use", .str "folder", .str x]) := by
  refine ⟨fun H p h => .tup (SqT.of h) (.cons (.str _) (.cons (.str _) (.cons (.str _) .nil))), by simp [PyData.showable, PyData.showableAll], by simp [PyData.hasDict, PyData.hasDictAll], by simp [PyData.depth, PyData.depthAll], ?_⟩
  have a := shown_str (small_name h) 8 h.2.1
  have b : (PyData.str "use").shown.length = 5 := by decide +kernel
  have c : (PyData.str "folder").shown.length = 8 := by decide +kernel
  have z := tup_le (PyData.shownAll [.str "use", .str "folder", .str x])
  simp only [PyData.shownAll, piled_cons, piled_nil] at z
  have k : (1000 : Nat) ≤ sizeLine := by decide
  show (tupleText (PyData.shownAll [.str "use", .str "folder", .str x])).length ≤ sizeLine
  simp only [PyData.shownAll]
  omega
/-- behind the question: what is due, what was told -/
def MidS (K : Frag) (C Pt sp c nl a l : Addr) (R : List Row) (H0 : Hp) : L2.St → Hp → Prop := fun σ H => ∃ (rh kn lb : Option V) (du : V) (tt rf : Addr), σ = [some (.ref sp), some (.ref nl), some (.ref a), some (.ref l), rh, kn, some du, some (.ref tt), some (.ref rf), lb] ∧ GrW H0 H ∧ SpoolAt H sp c ∧ LamX.Tabs (tabT Pt) H ∧
  ((du = .non ∧ ∃ x y d, H tt = some (.tup [.str "use", x, y]) ∧ H rf = some (.tup [.str "use", x, y]) ∧ UseD K x y d) ∨
    ∃ ld b R', du = .ref ld ∧ H tt = some (.tup [.str "told", .ref b]) ∧ TreeAt C H b R' ∧ LstAt H ld R' ∧ TreeOk R' ∧ R'.length ≤ R.length + 1 ∧ ∀ r ∈ R', r.1 ≠ nob)
theorem ins_of {C : Addr} {H : Hp} {a : Addr} {R : List Row} (h : TreeAt C H a R) : ∃ dx fs, H a = some (.ins C dx fs) := let ⟨dx, _, _, h1, _⟩ := h; ⟨dx, _, h1⟩
section
variable {P : Program} {w : World} {K : Frag} {mg : Str → Option Value} {base : Heap} {f g cd Pt C C2 RE : Addr} {fd gfd : FuncData}
theorem ok_step (F : FunC K "_law_step_right" (top 71) f fd cd) (T : Txt mg) (TT : TU P w K mg base C C2) (TB : LamX.TabB base mg cd Pt)
    (Fs : FnP K "_law_said" (top 64) g gfd) (hms : mg "_law_said" = some (.ref g)) (Bs : Binds K gfd ["_law_ask"] []) (hme : mg "RoomError" = some (.ref RE)) (hex : PySem.W.exmOne K (.ref C2) (.ref RE) = some true) (Dr : DnX P w K mg base 1 "_law_refusal" (spRef C2))
    (Dpl : Dn P w K mg base CX0 1 "_law_pull" [] spPull) (Da : Dn P w K mg base CX0 2 "_law_any" [] spAny) (Dpu : Dn P w K mg base CX0 1 "_law_put_due" [] spPut) (Dta : Dn P w K mg base CX0 1 "_law_taken_due" [] spTake) (Di : DnG P w K mg base CX0 10 "_law_is_tree" (spIs C)) :
    FnG P w K mg base CX0 11 f fd ["_law_spool_here", "_law_names_here", "_law_one", "_law_rows"] (spStep C Pt) := by
  obtain ⟨oc, od, dV, kV, doc, pm, an, cdv, ct, osl, rfl, lk, hcg, _, _⟩ := Fs.ex
  obtain ⟨ga, bA, fA⟩ := TT.add
  obtain ⟨gb, bB, fB⟩ := TT.sub
  refine okGC F sc_step (fun vs H Q E h => ?_) (fun A outer s H vs Q E hr hgd h => ?_)
  · obtain ⟨sp, c, nl, a, l, ns, R, rfl, _⟩ := h
    rfl
  · have nd := sc_step.nd
    obtain ⟨sp, c, nl, a, l, ns, R, rfl, hS, hT, hnl, ok, nne, nz, ht, hl, TR, hR, nb, k⟩ := h
    refine ⟨_, PSs.nox (pss_cons (ps_setLc (i := 5) (own := [("_law_row_here", 4)]) (g := gName 4) (tt := tYes) (te := tOp (rIxT K) (tVar 4) (tC (.int 0))) rfl nd rfl rfl (sw_true rfl rfl rfl (by decide +kernel)) (pi_list (pv 3)) (blkOk_by (N := NStep) (sc := defScope (top 71)) (by decide +kernel))
        (fun _ _ _ _ _ => pg_name (i := 4) nd rfl (Or.inl rfl)) (fun _ _ _ _ _ => pts_nil) (fun _ _ _ _ _ => pe_ix ix_tup (pv 4) pe_int (fun _ _ => rfl)))
      (C8.pss_cut (ps_if (pt_cmpR op_gt (pe_d Dpl (E := En) hr (by decide) rfl pass0 (pa_cons (pv 0) (pa_cons pe_int pa_nil))) pe_int (nomark _))
          (pss_cons (ps_set (i := 4) nd rfl (.inr rfl) (pe_tup (pa_cons (pe_d Da (E := En) hr (by decide) rfl pass0 (pa_cons (pv 0) (pa_cons (pv 1) pa_nil)))
              (pa_cons (pe_d Da (E := En) hr (by decide) rfl pass0 (pa_cons (pv 0) (pa_cons (pe_op op_cat (pv 5) (pe_lst (pa_cons pe_str (pa_cons pe_str pa_nil)))) pa_nil)))
              (pa_cons (pe_d Da (E := En) hr (by decide) rfl pass0 (pa_cons (pv 0) (pa_cons (pe_lst (pa_cons pe_int (pa_cons pe_int (pa_cons pe_int (pa_cons (pe_op op_pow pe_int pe_int) pa_nil))))) pa_nil))) pa_nil)))))
            (pss_one (ps_par3 (i := 6) (j := 7) (l := 8) rfl nd rfl rfl rfl (by decide) (by decide) (by decide) rfl rfl rfl (pa_cons (pe_d Dpu (E := En) hr (by decide) rfl pass0 (pa_cons (pv 3) (pa_cons (pv 4) pa_nil)))
              (pa_cons (LamX.pe_lamcall (T := tabT Pt) (t := fun E => tOp (rAddO K C (spAdd C C2) E) (tVar 2) (tVar 4)) (k := 7) (P := Pt) rfl hms Fs.kp lk hcg Bs sc_said rfl (.inl rfl) (said_gives (hr.mono (by decide)) hme hex Dr) TB rfl (List.mem_singleton.mpr rfl) (fun p hp _ => by rw [List.mem_singleton.mp hp]; rfl) (hr.mono (by decide)) (LamX.lamS_by (sc := defScope (top 71)) (by decide +kernel)) rfl (fun _ _ _ _ _ => rfl)
                (fun A outer s H E f c' hr2 => pe_op (op_addO bA fA hr2 (passes_call (E := E) (takes_of rfl rfl rfl rfl) (fun _ _ _ _ h => h))) (pv 2) (pv 4)))
              (pa_cons (pe_tup (pa_cons pe_str (pa_cons pe_str (pa_cons (pe_un un_neg pe_int) pa_nil)))) pa_nil))) (by rfl))))
          (pss_cons (ps_set (i := 9) nd rfl (.inr rfl) (pe_d Da (E := En) hr (by decide) rfl pass0 (pa_cons (pv 0) (pa_cons (pe_op op_cat (pv 5) (pe_slice sl_list (pv 1) po_none (po_some pe_int))) pa_nil))))
            (pss_one (ps_par3 (i := 6) (j := 7) (l := 8) rfl nd rfl rfl rfl (by decide) (by decide) (by decide) rfl rfl rfl (pa_cons (pe_d Dta (E := En) hr (by decide) rfl pass0 (pa_cons (pv 3) (pa_cons (pv 9) pa_nil)))
              (pa_cons (LamX.pe_lamcall (T := tabT Pt) (t := fun E => tOp (rSubO C (spSub C C2) E) (tVar 2) (tVar 9)) (k := 7) (P := Pt) rfl hms Fs.kp lk hcg Bs sc_said rfl (.inl rfl) (said_gives (hr.mono (by decide)) hme hex Dr) TB rfl (List.mem_singleton.mpr rfl) (fun p hp _ => by rw [List.mem_singleton.mp hp]; rfl) (hr.mono (by decide)) (LamX.lamS_by (sc := defScope (top 71)) (by decide +kernel)) rfl (fun _ _ _ _ _ => rfl)
                (fun A outer s H E f c' hr2 => pe_op (op_subO bB fB hr2 (passes_call (E := E) (takes_of rfl rfl rfl rfl) (fun _ _ _ _ h => h))) (pv 2) (pv 9)))
              (pa_cons (pe_tup (pa_cons pe_str (pa_cons pe_str (pa_cons (pv 9) pa_nil)))) pa_nil))) (by rfl)))))
      (pss_cons (ps_if (pt_not (pt_val (pe_dG Di (E := En) hr (by decide) hgd rfl pass0 (pa_cons (pv 2) (pa_cons (pv 3) pa_nil))))) (pss_one (ps_ret pe_non)) pss_nil)
      (pss_cons (ps_if (pt_cmpR op_isN (pv 6) pe_non (nomark _)) (pss_one (ps_ret (pe_ifExp (PW.pt (pw_and (pt_cmpR op_eq (pe_ix ix_tup (pv 7) pe_int (fun _ _ => rfl)) pe_str (nomark _)) (pw_and1 (pt_cmpR op_eq (pe_callB (cr_reprD hgd hr.units) rfl T.repr PyProof.Rows.boot_repr (pa_cons (pv 7) pa_nil)) (pe_callB (cr_reprD hgd hr.units) rfl T.repr PyProof.Rows.boot_repr (pa_cons (pv 8) pa_nil)) (nomark _)))))
          (pe_tup (pa_cons (pv 2) (pa_cons (pv 3) pa_nil))) pe_non))) pss_nil)
      (pss_one (ps_ret (pe_ifExp (PW.pt (pw_and (pt_cmpR op_eq (pe_ix ix_tup (pv 7) pe_int (fun _ _ => rfl)) pe_str (nomark _)) (pw_and1 (pt_val (pe_dG Di (E := En) hr (by decide) hgd rfl pass0 (pa_cons (pe_ix ix_tup (pv 7) pe_int (fun _ _ => rfl)) (pa_cons (pv 6) pa_nil)))))))
          (pe_tup (pa_cons (pe_ix ix_tup (pv 7) pe_int (fun _ _ => rfl)) (pa_cons (pv 6) pa_nil))) pe_non))))))), ?_⟩
    have zl : ∀ {n : Nat}, n ≤ 100 → n ≤ sizeLine := fun h => Nat.le_trans h (by decide)
    obtain ⟨xs, hl0, hx⟩ := id hl
    refine ⟨_, rfl, l, rfl, ⟨xs, SqL.of hl0⟩, fun D hD => lc_it (walk_list (xs := xs)) (fun i H' => H' = LcH H D (fun r : Row => some (.str r.1)) R i) lcH_0 ?_ ?_ ?_⟩
    · rintro i _ _ rfl
      exact SqL.of (lcH_at hl0 hD)
    · rintro i v _ _ hi rfl ⟨rfl, hv⟩
      obtain ⟨q, hq, pq, rfl, hpq⟩ := hx.at hv
      exact ⟨rfl, tyesT ⟨_, rfl, pq, _, 0, _, rfl, rfl, SqT.of (lcH_at hpq hD), rfl, lc_fin hq rfl (Nat.le_trans TR.few (by decide))⟩⟩
    rintro _ rfl
    rw [hx.len, lcH_n, labels_eq]
    have s2 : Same H (upd H D (.lst (txs (names R)))) := Same.new hD
    have hd2 : upd H D (.lst (txs (names R))) D = some (.lst (txs (names R))) := upd_same
    generalize upd H D (.lst (txs (names R))) = H2 at s2 hd2
    have nmR : ∀ n ∈ names R, NameOk n := fun n hn => by
      obtain ⟨r, hr, rfl⟩ := of_names hn
      exact TR.nm r hr
    refine ⟨MidS K C Pt sp c nl a l R H, ?_, ?_⟩
    · refine ⟨_, rfl, sp, c, 3, rfl, hS.sm s2, by decide, by decide, fun H3 r3 g3 hS3 r0 r1 => ⟨r3, 0, rfl, rfl, _, rfl, ?_⟩⟩
      have G3 : Gr H H3 := (Gr.of s2).trans g3
      have hd3 := g3.lst hd2
      by_cases hr3 : 0 < r3
      · rw [decide_eq_true hr3]
        refine iteT ⟨_, rfl, _, rfl, sp, c, nl, _, rfl, hS3, G3.lst hnl, by simpa [txs] using nne, by rw [txs, List.length_map]; omega, fun H4 x1 g4 hS4 hx1 => ?_⟩
        obtain ⟨n1, hn1, rfl⟩ := List.mem_map.mp hx1
        refine ⟨_, rfl, _, rfl, zl (show (2 : Nat) ≤ 100 by decide), fun q1 hq1 => ⟨D, q1, _, _, rfl, rfl, Same.new hq1 D _ (g4.lst hd3), upd_same, ?_, fun q2 hq2 => ?_⟩⟩
        · exact zl (show (txs (names R)).length + 2 ≤ 100 by rw [txs, List.length_map, names_length]; omega)
        have s5 := (Same.new (o := .lst [.str "", .str "nobody"]) hq1).trans (Same.new (o := .lst (txs (names R) ++ [.str "", .str "nobody"])) hq2)
        refine ⟨sp, c, q2, _, rfl, hS4.sm s5, upd_same, by simp, ?_, fun H5 x2 g5 hS5 hx2 => ?_⟩
        · show (txs (names R) ++ [V.str "", V.str "nobody"]).length ≤ 1000
          rw [List.length_append, txs, List.length_map, names_length]
          simp only [List.length_cons, List.length_nil]
          omega
        obtain ⟨n2, rfl, hn2⟩ : ∃ n2, x2 = V.str n2 ∧ (NameOk n2 ∨ n2 = eS) := by
          rcases List.mem_append.mp hx2 with e | e
          · obtain ⟨n2, hn2, rfl⟩ := List.mem_map.mp e
            exact ⟨n2, rfl, .inl (nmR n2 hn2)⟩
          · rcases List.mem_cons.mp e with e | e
            · exact ⟨eS, e, .inr rfl⟩
            · exact ⟨nob, List.mem_singleton.mp e, .inl ⟨by decide +kernel, by decide +kernel, by decide +kernel⟩⟩
        refine ⟨_, rfl, 10, 59, rfl, rfl, ⟨by decide, by decide, by decide⟩, zl (show (4 : Nat) ≤ 100 by decide), fun q3 hq3 => ⟨sp, c, q3, zs [0, 1, 7, 10 ^ 59], rfl, hS5.new hq3, upd_same, by decide, by decide, fun H6 x3 g6 hS6 hx3 => ?_⟩⟩
        obtain ⟨n3, hn3, rfl⟩ := List.mem_map.mp hx3
        have hn3' : 0 ≤ n3 ∧ n3 < roomLine := by
          have : ∀ y ∈ ([0, 1, 7, 10 ^ 59] : List Int), 0 ≤ y ∧ y < roomLine := by decide
          exact this n3 hn3
        refine ⟨zl (show (3 : Nat) ≤ 100 by decide), fun pr hpr => ?_⟩
        have G6 : Gr H H6 := ((G3.trans g4).trans ((Gr.of s5).trans g5)).trans ((Gr.of (Same.new hq3)).trans g6)
        have G7 : Gr H (upd H6 pr (.tup [.str n1, .str n2, .int n3])) := G6.trans (Gr.of (Same.new hpr))
        have hS7 : SpoolAt (upd H6 pr (.tup [.str n1, .str n2, .int n3])) sp c := hS6.new hpr
        have hp7 : upd H6 pr (.tup [.str n1, .str n2, .int n3]) pr = some (.tup [.str n1, .str n2, .int n3]) := upd_same
        generalize upd H6 pr (.tup [.str n1, .str n2, .int n3]) = H7 at G7 hS7 hp7
        have row7 : RowAt H7 (.ref pr) (n1, n2, n3) := ⟨pr, rfl, hp7⟩
        refine ⟨_, rfl, _, rfl, l, R, .ref pr, (n1, n2, n3), rfl, hl.gr G7, TR, row7, fun FT H8 ld s8 hld => ?_, fun nF H8 s8 => ?_⟩
        · have G8 := G7.trans (Gr.of s8)
          refine ⟨tabs_gr hT G8, fun H9 e9 T9 => ?_⟩
          have W9 := (GrW.of G8).trans (GrW.ofN e9)
          have ht9 := ht.grw W9
          obtain ⟨dx, fs, ha9⟩ := ins_of ht9
          have hp9 : H9 pr = some (.tup [.str n1, .str n2, .int n3]) := (GrW.ofN e9).tup (s8 pr _ hp7)
          refine ⟨_, rfl, _, rfl, a, dx, fs, pr, _, rfl, rfl, ha9, SqT.of hp9, a, R, .ref pr, (n1, n2, n3), rfl, ht9, TR, ⟨pr, rfl, hp9⟩, (ok.nm n1 hn1).1, hn2, hn3'.1, hn3'.2, by omega, fun _ H10 b s10 hb hTb => ?_, fun z => absurd FT z⟩
          refine ⟨zl (show (2 : Nat) ≤ 100 by decide), fun pt hpt => ⟨1, rfl, zl (show (3 : Nat) ≤ 100 by decide), fun rf hrf => ⟨_, _, _, rfl, ?_⟩⟩⟩
          have s12 := (Same.new (o := .tup [.str "told", .ref b]) hpt).trans (Same.new (o := .tup [.str "use", .str "row", .int (-1)]) hrf)
          refine ⟨_, _, _, _, pt, rf, rfl, (W9.trans (GrW.sm s10)).trans (GrW.sm s12), ((((hS7.sm s8).ext e9).sm s10).sm s12), tabs_gr T9 (Gr.of (s10.trans s12)), .inr ⟨ld, b, ins (n1, n2, n3) R, rfl, Same.new hrf pt _ upd_same, hTb.sm s12, ((hld.grw (GrW.ofN e9)).sm s10).sm s12, TR.ins FT (ok.nm n1 hn1).1 hn3' (by omega), ?_, fun r hr => ?_⟩⟩
          · rw [(ins_perm (n1, n2, n3) R).length_eq, List.length_cons]
            exact Nat.le_refl _
          · rcases mem_ins.mp hr with e | e
            · rw [e]; exact (ok.nm n1 hn1).2
            · exact nb r e
        · have G8 := G7.trans (Gr.of s8)
          refine ⟨tabs_gr hT G8, fun H9 e9 T9 => ?_⟩
          have W9 := (GrW.of G8).trans (GrW.ofN e9)
          have ht9 := ht.grw W9
          obtain ⟨dx, fs, ha9⟩ := ins_of ht9
          have hp9 : H9 pr = some (.tup [.str n1, .str n2, .int n3]) := (GrW.ofN e9).tup (s8 pr _ hp7)
          refine ⟨_, rfl, _, rfl, a, dx, fs, pr, _, rfl, rfl, ha9, SqT.of hp9, a, R, .ref pr, (n1, n2, n3), rfl, ht9, TR, ⟨pr, rfl, hp9⟩, (ok.nm n1 hn1).1, hn2, hn3'.1, hn3'.2, by omega, fun z => absurd z nF, fun _ H10 d s10 hd hdd => ?_⟩
          refine ⟨rfl, d, _, _, rfl, hdd, fun H11 q s11 hq => ⟨1, rfl, zl (show (3 : Nat) ≤ 100 by decide), fun rf hrf => ⟨_, _, _, rfl, ?_⟩⟩⟩
          have s12 := (s10.trans s11).trans (Same.new (o := .tup [.str "use", .str "row", .int (-1)]) hrf)
          exact ⟨_, _, _, _, q, rf, rfl, W9.trans (GrW.sm s12), (((hS7.sm s8).ext e9).sm s12), tabs_gr T9 (Gr.of s12), .inl ⟨rfl, _, _, _, Same.new hrf q _ hq, upd_same, use_row⟩⟩
      · rw [decide_eq_false hr3]
        refine iteF ⟨_, rfl, _, rfl, _, rfl, 3, rfl, nl, txs ns, rfl, SqL.of (G3.lst hnl), fun q1 hq1 => ?_⟩
        refine ⟨D, q1, _, _, rfl, rfl, Same.new hq1 D _ hd3, upd_same, ?_, fun q2 hq2 => ?_⟩
        · refine zl (Nat.le_trans (Nat.add_le_add_left (cutV_length _ _ _) _) ?_)
          rw [txs, txs, List.length_map, List.length_map, names_length]
          omega
        have s5 := (Same.new (o := .lst (cutV (txs ns) none (some 3))) hq1).trans (Same.new (o := .lst (txs (names R) ++ cutV (txs ns) none (some 3))) hq2)
        have ec : cutV (txs ns) none (some 3) = txs (ns.take 3) := by
          rw [show cutV (txs ns) none (some 3) = _ from cut_to (txs ns) 3]
          exact (List.map_take ..).symm
        refine ⟨sp, c, q2, _, rfl, hS3.sm s5, upd_same, ?_, ?_, fun H6 x1 g6 hS6 hx1 => ?_⟩
        · have := TR.ne
          simp [txs, names, this]
        · rw [ec, List.length_append, txs, txs, List.length_map, List.length_map, names_length, List.length_take]
          omega
        obtain ⟨lb, rfl, hlb⟩ : ∃ n, x1 = V.str n ∧ NameOk n := by
          rw [ec] at hx1
          rcases List.mem_append.mp hx1 with e | e
          · obtain ⟨n2, hn2, rfl⟩ := List.mem_map.mp e
            exact ⟨n2, rfl, nmR n2 hn2⟩
          · obtain ⟨n2, hn2, rfl⟩ := List.mem_map.mp e
            exact ⟨n2, rfl, (ok.nm n2 (List.mem_of_mem_take hn2)).1⟩
        have G7 : Gr H H6 := G3.trans ((Gr.of s5).trans g6)
        refine ⟨_, rfl, _, rfl, l, R, lb, rfl, hl.gr G7, TR, fun FT H8 ld s8 hld => ?_, fun nF H8 s8 => ?_⟩
        · have G8 := G7.trans (Gr.of s8)
          refine ⟨tabs_gr hT G8, fun H9 e9 T9 => ?_⟩
          have W9 := (GrW.of G8).trans (GrW.ofN e9)
          have ht9 := ht.grw W9
          obtain ⟨dx, fs, ha9⟩ := ins_of ht9
          refine ⟨_, rfl, _, rfl, a, dx, fs, lb, rfl, rfl, ha9, a, R, lb, rfl, ht9, TR, fun _ H10 b s10 hb hTb => ?_, fun z => absurd FT z⟩
          refine ⟨zl (show (2 : Nat) ≤ 100 by decide), fun pt hpt => ⟨_, rfl, zl (show (3 : Nat) ≤ 100 by decide), fun rf hrf => ⟨_, _, _, rfl, ?_⟩⟩⟩
          have s12 := (Same.new (o := .tup [.str "told", .ref b]) hpt).trans (Same.new (o := .tup [.str "use", .str "folder", .str lb]) hrf)
          refine ⟨_, _, _, _, pt, rf, rfl, (W9.trans (GrW.sm s10)).trans (GrW.sm s12), ((((hS6.sm s8).ext e9).sm s10).sm s12), tabs_gr T9 (Gr.of (s10.trans s12)), .inr ⟨ld, b, out lb R, rfl, Same.new hrf pt _ upd_same, hTb.sm s12, ((hld.grw (GrW.ofN e9)).sm s10).sm s12, TR.out FT.more FT.free, ?_, fun r hr => nb r (mem_out.mp hr).1⟩⟩
          exact Nat.le_succ_of_le (List.length_filter_le _ _)
        · have G8 := G7.trans (Gr.of s8)
          refine ⟨tabs_gr hT G8, fun H9 e9 T9 => ?_⟩
          have W9 := (GrW.of G8).trans (GrW.ofN e9)
          have ht9 := ht.grw W9
          obtain ⟨dx, fs, ha9⟩ := ins_of ht9
          refine ⟨_, rfl, _, rfl, a, dx, fs, lb, rfl, rfl, ha9, a, R, lb, rfl, ht9, TR, fun z => absurd z nF, fun _ H10 d s10 hd hdd => ?_⟩
          refine ⟨rfl, d, _, _, rfl, hdd, fun H11 q s11 hq => ⟨_, rfl, zl (show (3 : Nat) ≤ 100 by decide), fun rf hrf => ⟨_, _, _, rfl, ?_⟩⟩⟩
          have s12 := (s10.trans s11).trans (Same.new (o := .tup [.str "use", .str "folder", .str lb]) hrf)
          exact ⟨_, _, _, _, q, rf, rfl, W9.trans (GrW.sm s12), (((hS6.sm s8).ext e9).sm s12), tabs_gr T9 (Gr.of s12), .inl ⟨rfl, _, _, _, Same.new hrf q _ hq, upd_same, use_folder hlb⟩⟩
    · rintro σ H2' ⟨rh, kn, lb, du, tt, rf, rfl, W, hS2, T2, cs⟩
      refine ⟨_, rfl, _, rfl, a, l, R, rfl, ht.grw W, hl.grw W, TR, fun H3 s3 => ⟨true, rfl, iteF ?_⟩⟩
      refine ⟨_, rfl, rfl, _, rfl, ?_⟩
      rcases cs with ⟨rfl, x, y, d, h1, h2, ud⟩ | ⟨ld, b, R', rfl, h1, hb, hld, TR', hR', nb'⟩
      · rw [decide_eq_true rfl]
        refine iteT ⟨_, rfl, tt, _, 0, _, rfl, rfl, SqT.of (s3 tt _ h1), rfl, rfl, _, rfl, ?_⟩
        rw [decide_eq_true rfl]
        refine iteT ⟨_, rfl, tt, d, rfl, ud.dp _ _ (s3 tt _ h1), ud.s1, ud.s2, ud.s3, ud.s4, _, rfl, rf, d, rfl, ud.dp _ _ (s3 rf _ h2), ud.s1, ud.s2, ud.s3, ud.s4, rfl, _, rfl, ?_⟩
        rw [decide_eq_true rfl]
        refine iteT ⟨_, rfl, _, rfl, zl (show (2 : Nat) ≤ 100 by decide), fun p hp => ?_⟩
        have s4 := s3.trans (Same.new (o := .tup [.ref a, .ref l]) hp)
        have W4 := W.trans (GrW.sm s4)
        exact k _ p a l R W4 (hS2.sm s4) (tabs_gr T2 (Gr.of s4)) upd_same (ht.grw W4) (hl.grw W4) TR (Nat.le_succ _) nb
      · rw [show decide (V.ref ld = V.non) = false from decide_eq_false fun z => nomatch z]
        refine iteF ⟨_, rfl, tt, _, 0, _, rfl, rfl, SqT.of (s3 tt _ h1), rfl, rfl, _, rfl, ?_⟩
        rw [decide_eq_true rfl]
        refine iteT ⟨_, rfl, tt, _, 1, _, rfl, rfl, SqT.of (s3 tt _ h1), rfl, _, rfl, b, ld, R', rfl, hb.sm s3, hld.sm s3, TR', fun H4 s4 => ⟨true, rfl, iteT ?_⟩⟩
        refine ⟨_, rfl, tt, _, 1, _, rfl, rfl, SqT.of (s4 tt _ (s3 tt _ h1)), rfl, _, rfl, zl (show (2 : Nat) ≤ 100 by decide), fun p hp => ?_⟩
        have s5 := (s3.trans s4).trans (Same.new (o := .tup [.ref b, .ref ld]) hp)
        exact k _ p b ld R' (W.trans (GrW.sm s5)) (hS2.sm s5) (tabs_gr T2 (Gr.of s5)) upd_same (hb.sm s5) (hld.sm s5) TR' hR' nb'
end
end K14
end

-- K14Equal
section
set_option maxRecDepth 100000
set_option maxHeartbeats 2000000
namespace K14
open PySem PySem.Spec PyProof.Rows L2
open PySem.W (Frag)
/-- a tree and its rows, in a tuple -/
def CaseAt (C : Addr) (H : Hp) (x : V) (R : List Row) : Prop := ∃ p b l, x = .ref p ∧ H p = some (.tup [.ref b, .ref l]) ∧ TreeAt C H b R ∧ LstAt H l R ∧ TreeOk R
theorem CaseAt.grw {C : Addr} {H H' : Hp} (g : GrW H H') {x : V} {R : List Row} (h : CaseAt C H x R) : CaseAt C H' x R := let ⟨p, b, l, e, h1, h2, h3, h4⟩ := h; ⟨p, b, l, e, g.tup h1, h2.grw g, h3.grw g, h4⟩
theorem cases_at {C : Addr} {H : Hp} : ∀ {xs : List V} {Rs : List (List Row)} {i : Nat} {x : V}, Paired (CaseAt C H) xs Rs → xs[i]? = some x → ∃ R, CaseAt C H x R
  | _, _, _, _, .nil, e => by simp at e
  | _, _, 0, _, .cons h _, e => by simp at e; subst e; exact ⟨_, h⟩
  | _, _, i + 1, _, .cons _ t, e => by
    rw [List.getElem?_cons_succ] at e
    exact cases_at t e
def spEqual (C : Addr) : Sp := fun vs H Q _ => ∃ (tl : Addr) (xs : List V) (Rs : List (List Row)), vs = [.ref tl] ∧ H tl = some (.lst xs) ∧ Paired (CaseAt C H) xs Rs ∧ ∀ H', Same H H' → Q (.bl true) H'
def dB (b c : Bool) : PyData := .list [.bool b, .bool c]
theorem dB_ok (b c : Bool) : (dB b c).showable = true ∧ (dB b c).hasDict = false ∧ (dB b c).depth ≤ 20 ∧ (dB b c).shown.length ≤ sizeLine := by
  cases b <;> cases c <;> exact ⟨by decide +kernel, by decide +kernel, by decide +kernel, by decide +kernel⟩
section
variable {P : Program} {w : World} {K : Frag} {mg : Str → Option Value} {base : Heap} {f C C2 : Addr} {fd : FuncData}
theorem sc_equal : FnScope ["_law_trees", "_law_one", "_law_rows", "_law_other", "_law_late", "_law_same"] ["_law_trees"] (defScope (top 72)) := ⟨rfl, rfl, rfl, by decide +kernel, rfl, by decide +kernel, by decide +kernel⟩
theorem ok_equal (F : FnP K "_law_are_equal_right" (top 72) f fd) (T : Txt mg) (TT : TU P w K mg base C C2) : FnG P w K mg base CX0 4 f fd ["_law_trees"] (spEqual C) := by
  obtain ⟨ge, eE, fE⟩ := TT.eq
  refine okG F sc_equal (fun vs H Q E h => ?_) (fun cdv A outer s H vs Q E hr hgd h => ?_)
  · obtain ⟨tl, xs, Rs, rfl, _⟩ := h
    rfl
  · have nd := sc_equal.nd
    obtain ⟨tl, xs, Rs, rfl, hl, hc, k⟩ := h
    refine ⟨_, PSs.nox (pss_cons (ps_for PassesOwn.never rfl (pi_list (pv 0)) (show PG _ _ (gT2 K 1 2) from pg_tup rfl (pgs_cons (pg_name (i := 1) nd rfl (Or.inl rfl)) (pgs_cons (pg_name (i := 2) nd rfl (Or.inl rfl)) pgs_nil)))
        (pss_one (ps_for PassesOwn.never rfl (pi_list (pv 0)) (show PG _ _ (gT2 K 3 4) from pg_tup rfl (pgs_cons (pg_name (i := 3) nd rfl (Or.inl rfl)) (pgs_cons (pg_name (i := 4) nd rfl (Or.inl rfl)) pgs_nil)))
          (pss_cons (ps_set (i := 5) nd rfl (.inl rfl) (pe_cmpR (op_eqD hr.units) (pv 2) (pv 4) (nomark _)))
          (pss_one (ps_if (pt_cmpR op_ne (pe_callB (cr_reprD hgd hr.units) rfl T.repr PyProof.Rows.boot_repr (pa_cons (pe_lst (pa_cons (pe_cmpR (op_eqO (E := En) eE fE (hr.mono (by decide)) pass0) (pv 1) (pv 3) (nomark _)) (pa_cons (pe_cmpR (op_neO (E := En) eE fE (hr.mono (by decide)) pass0) (pv 1) (pv 3) (nomark _)) pa_nil))) pa_nil))
              (pe_callB (cr_reprD hgd hr.units) rfl T.repr PyProof.Rows.boot_repr (pa_cons (pe_lst (pa_cons (pv 5) (pa_cons (pe_not (pv 5)) pa_nil))) pa_nil)) (nomark _)) (pss_one (ps_ret pe_bl)) pss_nil))))))
      (pss_one (ps_ret pe_bl))), ?_⟩
    have zl : ∀ {n : Nat}, n ≤ 100 → n ≤ sizeLine := fun h => Nat.le_trans h (by decide)
    refine ⟨_, rfl, tl, rfl, ⟨xs, SqL.of hl⟩, for_it (walk_list (xs := xs)) (fun i σ H' => (∃ a1 a2 a3 a4 a5, σ = [some (.ref tl), a1, a2, a3, a4, a5]) ∧ Same H H') ⟨⟨_, _, _, _, _, rfl⟩, fun _ _ h => h⟩ ?_ ?_ ?_⟩
    · rintro i σ H' _ ⟨_, s1⟩
      exact SqL.of (s1 tl _ hl)
    · rintro i v σ _ H2 hi ⟨⟨a1, a2, a3, a4, a5, rfl⟩, s1⟩ ⟨rfl, hv⟩
      obtain ⟨R, p, b, l, rfl, hp, hb, hlr, TR⟩ := cases_at hc hv
      refine gT2_ok (s1 p _ hp) ?_
      refine ⟨_, rfl, tl, rfl, ⟨xs, SqL.of (s1 tl _ hl)⟩, for_it (walk_list (xs := xs)) (fun i σ H' => (∃ a3 a4 a5, σ = [some (.ref tl), some (.ref b), some (.ref l), a3, a4, a5]) ∧ Same H H') ⟨⟨_, _, _, rfl⟩, s1⟩ ?_ ?_ ?_⟩
      · rintro i σ H' _ ⟨_, s2⟩
        exact SqL.of (s2 tl _ hl)
      · rintro i v σ _ H3 hi ⟨⟨a3, a4, a5, rfl⟩, s2⟩ ⟨rfl, hv⟩
        obtain ⟨S, p2, b2, l2, rfl, hp2, hb2, hlr2, TS⟩ := cases_at hc hv
        refine gT2_ok (s2 p2 _ hp2) ?_
        refine ⟨_, rfl, _, rfl, .list (rowsD R), .list (rowsD S), dp_lst (hlr.sm s2), dp_lst (hlr2.sm s2), shaped_lst fun r hr => TR.lay hr, shaped_lst fun r hr => TS.lay hr, ?_⟩
        rw [show PyData.eqv (.list (rowsD R)) (.list (rowsD S)) = decide (R = S) by simp only [PyData.eqv]; exact eqv_rows R S]
        have t1 := hb.sm s2
        have t2 := hb2.sm s2
        obtain ⟨dx, fs, ha⟩ := ins_of t1
        obtain ⟨dy, gs, ha2⟩ := ins_of t2
        obtain ⟨d1, d2, d3, d4⟩ := dB_ok (decide (R = S)) (!decide (R = S))
        refine ⟨_, rfl, _, rfl, b, dx, fs, b2, dy, gs, rfl, rfl, ha, ha2, b, b2, R, S, rfl, t1, t2, TR, TS, ?_⟩
        refine ⟨_, rfl, _, rfl, b, dx, fs, b2, dy, gs, rfl, rfl, ha, ha2, b, b2, R, S, rfl, t1, t2, TR, TS, _, rfl, zl (show (2 : Nat) ≤ 100 by decide), fun q1 hq1 => ?_⟩
        refine ⟨q1, dB (decide (R = S)) (!decide (R = S)), rfl, .lst (SqL.of upd_same) (.cons (.bl _) (.cons (.bl _) .nil)), d1, d2, d3, d4, ?_⟩
        refine ⟨_, rfl, _, rfl, _, rfl, zl (show (2 : Nat) ≤ 100 by decide), fun q2 hq2 => ?_⟩
        refine ⟨q2, dB (decide (R = S)) (!decide (R = S)), rfl, .lst (SqL.of upd_same) (.cons (.bl _) (.cons (.bl _) .nil)), d1, d2, d3, d4, rfl, _, rfl, ?_⟩
        rw [decide_eq_true rfl]
        exact iteF ⟨⟨_, _, _, rfl⟩, s2.trans ((Same.new hq1).trans (Same.new hq2))⟩
      · rintro σ H3 ⟨⟨a3, a4, a5, rfl⟩, s2⟩
        exact ⟨⟨_, _, _, _, _, rfl⟩, s2⟩
    · rintro σ H2 ⟨⟨a1, a2, a3, a4, a5, rfl⟩, s1⟩
      exact k _ s1
end
end K14
end

-- K14Ord
section
set_option maxRecDepth 100000
set_option maxHeartbeats 2000000
/-! the rows in two orders: the plain law of the walk -/
namespace K14
open PySem PySem.Spec PyProof.Rows L2
open PySem.W (Frag)
/-- S is built, Lf is left -/
structure Built (R : List Row) (S Lf : List Row) (ks : List Str) : Prop where
  pm : (S ++ Lf).Perm R
  asc : S.Pairwise fun a b => nlt a.1 b.1
  ok : S ≠ [] → TreeOk S
  kn : ks.Perm (names S)
variable {R S Lf : List Row} {ks : List Str}
theorem Built.start {R Lf : List Row} (h : Lf.Perm R) : Built R [] Lf [] := ⟨h, .nil, fun z => absurd rfl z, .nil⟩
theorem Built.next (T : TreeOk R) (B : Built R S Lf ks) (ne : Lf ≠ []) : ∃ r ∈ Lf, r.2.1 ∈ eS :: ks := by
  obtain ⟨f, hf⟩ := T.rank
  have mem : ∀ r, r ∈ R ↔ r ∈ S ∨ r ∈ Lf := fun r => by rw [← B.pm.mem_iff, List.mem_append]
  have key : ∀ n, ∀ r ∈ Lf, f r.1 = n → ∃ r ∈ Lf, r.2.1 ∈ eS :: ks := by
    intro n
    induction n using Nat.strongRecOn with
    | ind n ih =>
      intro r hr e
      have hrR : r ∈ R := (mem r).mpr (.inr hr)
      by_cases h0 : r.2.1 = eS
      · exact ⟨r, hr, List.mem_cons.mpr (.inl h0)⟩
      · obtain ⟨q, hq, eq⟩ := of_names ((T.par r hrR).resolve_left h0)
        have lt := hf r hrR h0
        rcases (mem q).mp hq with z | z
        · refine ⟨r, hr, List.mem_cons.mpr (.inr (B.kn.mem_iff.mpr ?_))⟩
          rw [← eq]
          exact mem_names z
        · exact ih (f q.1) (by rw [eq]; omega) q z rfl
  obtain ⟨r, hr⟩ := List.exists_mem_of_ne_nil _ ne
  exact key _ r hr rfl
theorem tree_one {r : Row} (h1 : NameOk r.1) (h2 : r.2.1 = eS) (h3 : 0 ≤ r.2.2 ∧ r.2.2 < roomLine) : TreeOk [r] := by
  have one : ∀ q ∈ [r], q = r := fun q hq => List.mem_singleton.mp hq
  exact ⟨(fun z => nomatch z), List.pairwise_singleton _ _, (fun q hq => by rw [one q hq]; exact h1), (fun q hq => .inl (by rw [one q hq]; exact h2)), (fun q hq => by rw [one q hq]; exact h3), ⟨fun _ => 0, fun q hq ne => absurd (by rw [one q hq]; exact h2) ne⟩, show 1 ≤ 60 by decide⟩
theorem ins_nil (r : Row) : ins r [] = [r] := rfl
theorem Built.nodup (T : TreeOk R) (B : Built R S Lf ks) : (names (S ++ Lf)).Nodup := (List.Perm.map (fun r : Row => r.1) B.pm).nodup_iff.mpr T.nodup
theorem Built.step (T : TreeOk R) (hR : R.length < 60) (B : Built R S Lf ks) {r : Row} (hr : r ∈ Lf) (hp : r.2.1 ∈ eS :: ks) : Built R (ins r S) (Lf.filter fun q => !decide (q = r)) (ks ++ [r.1]) ∧ TreeOk (ins r S) ∧ (S ≠ [] → Fits r S) ∧ (Lf.filter fun q => !decide (q = r)).length + 1 = Lf.length := by
  have nd := B.nodup T
  rw [names, List.map_append, List.nodup_append] at nd
  obtain ⟨n1, n2, n3⟩ := nd
  have hrR : r ∈ R := B.pm.mem_iff.mp (List.mem_append_right _ hr)
  have nin : r.1 ∉ names S := fun z => n3 _ z _ (List.mem_map.mpr ⟨r, hr, rfl⟩) rfl
  have par : r.2.1 = eS ∨ r.2.1 ∈ names S := by
    rcases List.mem_cons.mp hp with e | e
    · exact .inl e
    · exact .inr (B.kn.mem_iff.mp e)
  have F : Fits r S := ⟨nin, T.self r hrR, par⟩
  have len : S.length ≤ R.length := by rw [← B.pm.length_eq, List.length_append]; omega
  have TS : TreeOk (ins r S) := by
    by_cases e : S = []
    · subst e
      rcases par with z | z
      · exact tree_one (T.nm r hrR) z (T.room r hrR)
      · cases z
    · exact (B.ok e).ins F (T.nm r hrR) (T.room r hrR) (by omega)
  have lp : Lf.Perm (r :: Lf.filter fun q => !decide (q = r)) := by
    have ndL : Lf.Nodup := nodup_of_map n2
    clear B n1 n2 n3 nin F TS len
    induction Lf with
    | nil => cases hr
    | cons a l ih =>
      obtain ⟨h1, h2⟩ := List.nodup_cons.mp ndL
      by_cases e : a = r
      · rw [List.filter_cons, if_neg (by simp [e]), List.filter_eq_self.mpr (fun q hq => by
          have : q ≠ r := fun z => h1 (by rw [e, ← z]; exact hq)
          simp [this]), e]
      · rw [List.filter_cons, if_pos (by simp [e])]
        have hr2 : r ∈ l := (List.mem_cons.mp hr).resolve_left fun z => e z.symm
        exact (List.Perm.cons a (ih hr2 h2)).trans (List.Perm.swap r a _)
  refine ⟨⟨?_, ins_asc B.asc nin, fun _ => TS, ?_⟩, TS, fun _ => F, ?_⟩
  · refine ((ins_perm r S).append_right _).trans ?_
    refine List.Perm.trans ?_ B.pm
    refine List.Perm.trans ?_ (List.Perm.append_left S lp.symm)
    exact List.perm_middle.symm
  · refine List.Perm.trans ?_ ((ins_perm r S).map (·.1)).symm
    rw [List.map_cons]
    exact (List.perm_append_singleton r.1 ks).trans (List.Perm.cons _ B.kn)
  · have := lp.length_eq
    rw [List.length_cons] at this
    omega
theorem Built.done (T : TreeOk R) (B : Built R S [] ks) : S = R := by
  have := B.pm
  rw [List.append_nil] at this
  exact asc_perm B.asc T.asc this
end K14
end

-- K14Ord2
section
set_option maxRecDepth 100000
set_option maxHeartbeats 2000000
namespace K14
open PySem PySem.Spec PyProof.Rows L2
open PySem.W (Frag)
section
variable {X : Cx} {CX : CXT} {k : Nat} {C f : Addr} {sp : Sp} {E : XK} {x : Str} {p pos : Pos} {e : Expr} {es : List Expr} {tf : TE} {t : TA}
def tMake1 (C : Addr) (sp : Sp) (E : XK) (tf : TE) (t : TA) : TE := fun σ H Q => tf σ H fun c H0 => c = .ref C ∧ t σ H0 fun vs H1 => ∀ x dx, H1 x = none → H1 dx = none → dx ≠ x → sp (V.ref x :: vs) (upd (upd H1 dx (.own x)) x (.ins C dx [])) (fun v H2 => v = .non ∧ Q (.ref x) H2) E
theorem pe_make1 (M : Mk X.K C f) (F : FnR X.prog X.w X.K X.mg X.base CX k f sp) (hr : Room (k + 1) X.A) (hx : Passes CX X E) (hn : PE X (.Name x p) tf) (ha : PA X (e :: es) t)
    (he : starEach (e :: es) X.env = (false, eval e X.env) :: starEach es X.env := by rfl) (hpl : (backTo pos (starEach es X.env)).any (·.1) = false := by rfl) : PE X (.Call (.Name x p) (e :: es) [] pos) (tMake1 C sp E tf t) := by
  refine ⟨fun pins s σ H Q I h => ?_⟩
  refine wpAny_Call_Name_kw (thn (hn.run pins s σ H _ I h) fun u s0 ⟨c, H0, I0, rc, ec, q0⟩ => ?_)
  subst ec
  obtain rfl : u = Value.ref C := rc
  exact PySem.W.callWith_K (h₀ := X.base) I0.ok.mod.kin M.kp (thn (ha.run pos pins s0 σ H0 _ I0 q0) fun us s1 ⟨vs, H1, I1, r, q⟩ => ⟨I1.kIn, StX.run_makeR M F hr hx I1 r q⟩) he hpl
end
def spOrd : Sp := fun vs H Q _ => ∃ (sp c nl : Addr) (ns : List Str), vs = [.ref sp, .ref nl] ∧ SpoolAt H sp c ∧ H nl = some (.lst (txs ns)) ∧ NamesOk ns ∧ ns ≠ [] ∧ ns.length ≤ 16 ∧ ∀ H', Q (.bl true) H'
abbrev NOrd : List Str := ["_law_spool_here", "_law_names_here", "_law_pairs", "_law_rows", "_law_found", "_law_turn", "_law_left", "_law_one", "_law_known", "_law_lap", "_law_some", "_law_pair", "_law_row_here"]
theorem sc_ord : FnScope NOrd ["_law_spool_here", "_law_names_here"] (defScope (top 73)) := ⟨rfl, rfl, rfl, by decide +kernel, rfl, by decide +kernel, by decide +kernel⟩
/-- what stands in the inner loop -/
structure OrdH (C : Addr) (R S Lf : List Row) (ks : List Str) (H : Hp) (lf kn : Addr) (one : V) : Prop where
  b : Built R S Lf ks
  lf : LstAt H lf Lf
  kn : H kn = some (.lst (txs (eS :: ks)))
  one : (S = [] ∧ one = .non) ∨ (S ≠ [] ∧ ∃ a, one = .ref a ∧ TreeAt C H a S)
theorem rows_rev {H : Hp} : ∀ {xs : List V} {R : List Row}, Rows H xs R → Rows H xs.reverse R.reverse
  | _, _, .nil => .nil
  | x :: xs, r :: R, .cons h t => by
    rw [List.reverse_cons, List.reverse_cons]
    exact pair_snoc h (rows_rev t)
section
variable {P : Program} {w : World} {K : Frag} {mg : Str → Option Value} {base : Heap} {f fi C C2 : Addr} {fd : FuncData}
theorem ok_ord (F : FnP K "_law_are_orders_right" (top 73) f fd) (T : Txt mg) (TT : TU P w K mg base C C2) (TX : TrTxt K mg C fi) (Fi : FnR P w K mg base CX0 5 fi (spInitR C)) (Df : Dn P w K mg base CX0 3 "_law_forest" [] spForest) (Di : DnG P w K mg base CX0 10 "_law_is_tree" (spIs C)) :
    FnG P w K mg base CX0 11 f fd ["_law_spool_here", "_law_names_here"] spOrd := by
  obtain ⟨ge, eE, fE⟩ := TT.eq
  obtain ⟨ga, bA, fA⟩ := TT.add
  refine okG F sc_ord (fun vs H Q E h => ?_) (fun cdv A outer s H vs Q E hr hgd h => ?_)
  · obtain ⟨sp, c, nl, ns, rfl, _⟩ := h
    rfl
  · have nd := sc_ord.nd
    obtain ⟨sp, c, nl, ns, rfl, hS, hnl, ok, nne, nz, k⟩ := h
    refine ⟨_, PSs.nox (pss_cons (ps_set (i := 2) nd rfl (.inl rfl) (pe_d Df (E := En) hr (by decide) rfl pass0 (pa_cons (pv 0) (pa_cons (pv 1) pa_nil))))
      (pss_cons (ps_par (i := 3) (j := 4) rfl nd rfl rfl (by decide) rfl rfl (pa_cons
          (pe_lc (own := [("_law_pair", 11)]) (g := gName 11) (tt := tYes) (te := tOp (rCatT K) (tVar 11) (tTup (tCons (tCB (fun xs H Q => ∃ x n, xs = [x] ∧ LenV K x H n ∧ Q (.int n) H) (tCons (tOp (rIxT K) (tVar 11) (tC (.int 0))) tNil)) tNil))) rfl nd (pi_list (pv 2)) (blkOk_by (N := NOrd) (sc := defScope (top 73)) (by decide +kernel))
            (fun _ _ _ _ _ => pg_name (i := 11) nd rfl (Or.inl rfl)) (fun _ _ _ _ _ => pts_nil) (fun _ _ _ _ _ => pe_op op_catT (pv 11) (pe_tup (pa_cons (pe_callB call_len rfl T.len PySem.boot_len (pa_cons (pe_ix ix_tup (pv 11) pe_int (fun _ _ => rfl)) pa_nil)) pa_nil)))) (pa_cons (pe_lst pa_nil) pa_nil)) (by rfl))
      (pss_cons (ps_for PassesOwn.never rfl (pi_range1 rfl T.range (pa_cons pe_int pa_nil)) (pg_name (i := 5) nd rfl (Or.inl rfl))
        (C8.pss_cut (ps_set (i := 6) nd rfl (.inl rfl) (pe_ifExp (pt_cmpR op_eq (pv 5) pe_int (nomark _)) (pv 3) (pe_revL (pv 3))))
        (pss_cons (ps_asg (pe_tup (pa_cons pe_non (pa_cons (pe_lst (pa_cons pe_str pa_nil)) pa_nil))) (show PG _ _ (gT2 K 7 8) from pg_tup rfl (pgs_cons (pg_name (i := 7) nd rfl (Or.inl rfl)) (pgs_cons (pg_name (i := 8) nd rfl (Or.inr rfl)) pgs_nil))))
        (pss_cons (ps_for PassesOwn.never rfl (pi_range1 rfl T.range (pa_cons (pe_op op_mul (pe_callB call_len rfl T.len PySem.boot_len (pa_cons (pv 3) pa_nil)) (pe_callB call_len rfl T.len PySem.boot_len (pa_cons (pv 3) pa_nil))) pa_nil)) (pg_name (i := 9) nd rfl (Or.inl rfl))
          (pss_cons (ps_set (i := 10) nd rfl (.inr rfl)
            (pe_lc (own := [("_law_row_here", 12)]) (g := gName 12) (tt := tTest (tOp (rIn K false) (tOp (rIxT K) (tVar 12) (tC (.int 1))) (tVar 8))) (te := tVar 12) rfl nd (pi_list (pv 6)) (blkOk_by (N := NOrd) (sc := defScope (top 73)) (by decide +kernel))
              (fun _ _ _ _ _ => pg_name (i := 12) nd rfl (Or.inl rfl)) (fun _ _ _ _ _ => pts_one (pt_cmpR op_in_seq (pe_ix ix_tup (pv 12) pe_int (fun _ _ => rfl)) (pv 8) rfl)) (fun _ _ _ _ _ => pv 12)))
          (pss_one (ps_if (pt_cmpR (op_neD hr.units) (pv 10) (pe_lst pa_nil) (nomark _))
            (C8.pss_cut (ps_set (i := 7) nd rfl (.inl rfl) (pe_ifExp (pt_cmpR op_isN (pv 7) pe_non (nomark _)) (pe_make1 (E := En) TX.mak Fi (hr.mono (by decide)) pass0 (pe_glob (v := .ref C) rfl TX.gC rfl) (pa_cons (pe_ix ix_list (pv 10) pe_int (fun _ _ => rfl)) pa_nil))
                (pe_op (op_addO bA fA (hr.mono (by decide)) (passN (P := P) (w := w))) (pv 7) (pe_ix ix_list (pv 10) pe_int (fun _ _ => rfl)))))
            (pss_cons (ps_set (i := 8) nd rfl (.inr rfl) (pe_op op_cat (pv 8) (pe_lst (pa_cons (pe_ix ix_tup (pe_ix ix_list (pv 10) pe_int (fun _ _ => rfl)) pe_int (fun _ _ => rfl)) pa_nil))))
            (pss_one (ps_setLc (i := 6) (own := [("_law_row_here", 12)]) (g := gName 12) (tt := tTest (tOp (rNeD K) (tVar 12) (tOp (rIxL K) (tVar 10) (tC (.int 0))))) (te := tVar 12) rfl nd rfl rfl (sw_true rfl rfl rfl (by decide +kernel)) (pi_list (pv 6)) (blkOk_by (N := NOrd) (sc := defScope (top 73)) (by decide +kernel))
              (fun _ _ _ _ _ => pg_name (i := 12) nd rfl (Or.inl rfl)) (fun _ _ _ _ _ => pts_one (pt_cmpR (op_neD hr.units) (pv 12) (pe_ix ix_list (pv 10) pe_int (fun _ _ => rfl)) (nomark _))) (fun _ _ _ _ _ => pv 12))))) pss_nil))))
        (pss_one (ps_expr (pe_bm PySem.F.plainAttrs_list PySem.F.slot_list_append PySem.F.type_list_append mt_append (pv 4) (pa_cons (pv 7) pa_nil))))))))
      (pss_one (ps_ret (pe_and (pe_cmpR (op_eqO (E := En) eE fE (hr.mono (by decide)) pass0) (pe_ix ix_list (pv 4) pe_int (fun _ _ => rfl)) (pe_ix ix_list (pv 4) pe_int (fun _ _ => rfl)) (nomark _))
          (pe_and (pe_dG Di (E := En) hr (by decide) hgd rfl pass0 (pa_cons (pe_ix ix_list (pv 4) pe_int (fun _ _ => rfl)) (pa_cons (pv 3) pa_nil)))
            (pe_one (pe_dG Di (E := En) hr (by decide) hgd rfl pass0 (pa_cons (pe_ix ix_list (pv 4) pe_int (fun _ _ => rfl)) (pa_cons (pv 3) pa_nil))))))))))), ?_⟩
    have zl : ∀ {n : Nat}, n ≤ 100 → n ≤ sizeLine := fun h => Nat.le_trans h (by decide)
    have zs1 : ∀ {n : Nat}, n ≤ 100 → n < sizeLine := fun h => Nat.lt_of_le_of_lt h (by decide)
    refine ⟨_, rfl, _, rfl, sp, c, nl, ns, rfl, hS, hnl, ok, nz, fun H1 l1 xs ps g1 hS1 hl1 hps fok => ?_⟩
    have hpl : ps.length ≤ 16 := by
      have := fok.all.length_eq
      rw [List.length_map] at this
      omega
    have hxs : xs.length = ps.length := Paired.length hps
    refine ⟨_, rfl, l1, rfl, ⟨xs, SqL.of hl1⟩, fun D hD => lc_it (walk_list (xs := xs)) (fun i H' => ∃ ys R, H' D = some (.lst ys) ∧ Rows H' ys R ∧ R.map (fun r => (r.1, r.2.1)) = ps.take i ∧ (∀ r ∈ R, 0 ≤ r.2.2 ∧ r.2.2 < roomLine) ∧ Same H1 H') ⟨[], [], upd_same, .nil, rfl, (fun r hr => nomatch hr), Same.new hD⟩ ?_ ?_ ?_⟩
    · rintro i H' _ ⟨_, _, _, _, _, _, s1⟩
      exact SqL.of (s1 l1 _ hl1)
    · rintro i v _ H2 hi ⟨ys, R, hd, hrow, hmap, hroom, s1⟩ ⟨rfl, hv⟩
      obtain ⟨q, hq, p, rfl, hpq⟩ := prs_at hps hv
      have hqn : NameOk q.1 := (ok.nm _ (fok.all.mem_iff.mp (List.mem_map.mpr ⟨q, List.mem_of_getElem? hq, rfl⟩))).1
      have hp2 := s1 p _ hpq
      have hys : ys.length ≤ 16 := by
        have e1 := Paired.length hrow
        have e2 := congrArg List.length hmap
        rw [List.length_map, List.length_take] at e2
        omega
      have hql := hqn.2.1
      refine ⟨rfl, tyesT ⟨_, rfl, _, rfl, p, _, 0, _, rfl, rfl, SqT.of hp2, rfl, .str q.1, q.1.length, rfl, ⟨zl (by omega), rfl⟩, zl (show (1 : Nat) ≤ 100 by decide), fun pt hpt => ?_⟩⟩
      refine ⟨p, pt, [.str q.1, .str q.2], [.int (q.1.length : Nat)], rfl, rfl, SqT.of (Same.new hpt p _ hp2), SqT.of upd_same, (fun z => nomatch z), zl (show (3 : Nat) ≤ 100 by decide), (fun z => nomatch z), fun _ pr hpr => ?_⟩
      have s3 := (Same.new (o := .tup [.int (q.1.length : Nat)]) hpt).trans (Same.new (o := .tup ([.str q.1, .str q.2] ++ [.int (q.1.length : Nat)])) hpr)
      have hd3 := s3 D _ hd
      have prD : pr ≠ D := fun z => by
        rw [z, Same.new hpt D _ hd] at hpr
        cases hpr
      refine ⟨ys, hd3, zs1 (by omega), ys ++ [.ref pr], R ++ [(q.1, q.2, ((q.1.length : Nat) : Int))], upd_same, ?_, ?_, ?_, Same.put (s1.trans s3) hD⟩
      · refine pair_snoc ⟨pr, rfl, ?_⟩ (rows_put hd3 (fun _ z => nomatch z) (Rows.sm s3 hrow))
        rw [upd_ne prD, upd_same] <;> rfl
      · rw [List.map_append, hmap, take_snoc hq] <;> rfl
      · intro r hr
        rcases List.mem_append.mp hr with m | m
        · exact hroom r m
        · rw [List.mem_singleton.mp m]
          have : (8 : Int) < roomLine := by decide
          exact ⟨by show (0 : Int) ≤ ((q.1.length : Nat) : Int); omega, by show ((q.1.length : Nat) : Int) < roomLine; omega⟩
    rintro H2 ⟨ys0, R, hD2, hrow, hmap, hroom, s1⟩
    rw [hxs, List.take_length] at hmap
    obtain ⟨TR, _⟩ := plan_ok ok fok hmap hroom nne nz
    have hRl : R.length ≤ 16 := by
      have := congrArg List.length hmap
      rw [List.length_map] at this
      omega
    have hys0 : ys0.length = R.length := hrow.len
    have hRpos : 1 ≤ R.length := List.length_pos_iff.mpr TR.ne
    refine ⟨zl (show (0 : Nat) ≤ 100 by decide), fun fo hfo => ⟨_, _, rfl, ?_⟩⟩
    refine ⟨2, rfl, by decide, by decide, for_it walk_range (fun i σ H' => (∃ a5 a6 a7 a8 a9 a10 a11 a12, σ = [some (.ref sp), some (.ref nl), some (.ref l1), some (.ref D), some (.ref fo), a5, a6, a7, a8, a9, a10, a11, a12]) ∧ Same H2 H' ∧ ∃ ts : List Addr, H' fo = some (.lst (ts.map V.ref)) ∧ ts.length = i ∧ ∀ t ∈ ts, TreeAt C H' t R)
      ⟨⟨_, _, _, _, _, _, _, _, rfl⟩, Same.new hfo, [], upd_same, rfl, fun t ht => nomatch ht⟩ (fun _ _ _ _ _ => trivial) ?_ ?_⟩
    · rintro i v σ _ H3 hi ⟨⟨a5, a6, a7, a8, a9, a10, a11, a12, rfl⟩, s3, ts, hf3, hts, htt⟩ ⟨rfl, rfl⟩
      have hi2 : i < 2 := hi
      refine ⟨fun σ H4 => ∃ lf Lf0, σ = [some (.ref sp), some (.ref nl), some (.ref l1), some (.ref D), some (.ref fo), some (.int (0 + (i : Int))), some (.ref lf), a7, a8, a9, a10, a11, a12] ∧ Same H3 H4 ∧ Lf0.Perm R ∧ LstAt H4 lf Lf0, ?_, ?_⟩
      · have hD3 := s3 D _ hD2
        refine ⟨_, rfl, rfl, _, rfl, ite2 (fun _ => ⟨_, rfl, D, R, rfl, fun _ _ h => h, List.Perm.refl R, ys0, hD3, Rows.sm s3 hrow⟩) fun _ => ⟨_, rfl, D, ys0, rfl, SqL.of hD3, fun p hp => ⟨p, R.reverse, rfl, Same.new hp, List.reverse_perm R, _, upd_same, ?_⟩⟩⟩
        exact Rows.sm (Same.new hp) (rows_rev (Rows.sm s3 hrow))
      · rintro σ H4 ⟨lf0, Lf0, rfl, s4, pm0, hlf0⟩
        refine ⟨zl (show (1 : Nat) ≤ 100 by decide), fun kn0 hkn0 => ⟨zl (show (2 : Nat) ≤ 100 by decide), fun pt hpt => gT2_ok upd_same ?_⟩⟩
        have s5 := (Same.new (o := .lst [.str ""]) hkn0).trans (Same.new (o := .tup [.non, .ref kn0]) hpt)
        have hkn5 : upd (upd H4 kn0 (.lst [.str ""])) pt (.tup [.non, .ref kn0]) kn0 = some (.lst (txs (eS :: []))) := Same.new hpt kn0 _ upd_same
        have s35 := s4.trans s5
        have hlf5 := hlf0.sm s5
        generalize upd (upd H4 kn0 (.lst [.str ""])) pt (.tup [.non, .ref kn0]) = Hc at s5 hkn5 s35 hlf5
        have hDc := s35 D _ (s3 D _ hD2)
        refine ⟨_, rfl, _, ys0.length, rfl, .inl ⟨_, SqL.of hDc, rfl⟩, _, rfl, _, ys0.length, rfl, .inl ⟨_, SqL.of hDc, rfl⟩, (ys0.length : Nat), (ys0.length : Nat), rfl, rfl, .inl ⟨by omega, by omega⟩, _, rfl, ?_, ?_, ?_⟩
        · have := Int.mul_nonneg (show (0 : Int) ≤ (ys0.length : Int) by omega) (show (0 : Int) ≤ (ys0.length : Int) by omega)
          omega
        · have : (ys0.length : Int) * (ys0.length : Int) ≤ 16 * 16 := Int.mul_le_mul (by omega) (by omega) (by omega) (by decide)
          omega
        have turns : ys0.length ≤ ((ys0.length : Int) * (ys0.length : Int)).toNat := by
          have : ((ys0.length : Int) * (ys0.length : Int)).toNat = ys0.length * ys0.length := by
            rw [← Int.natCast_mul, Int.toNat_natCast]
          rw [this]
          exact Nat.le_mul_of_pos_left _ (by omega)
        refine for_it walk_range (fun j σ H' => (∃ lf kn one a9 a10 a11 a12 S Lf ks, σ = [some (.ref sp), some (.ref nl), some (.ref l1), some (.ref D), some (.ref fo), some (.int (0 + (i : Int))), some (.ref lf), some one, some (.ref kn), a9, a10, a11, a12] ∧ OrdH C R S Lf ks H' lf kn one ∧ (Lf.length + j ≤ R.length ∨ Lf = [])) ∧ Same Hc H')
          ⟨⟨lf0, kn0, .non, _, _, _, _, [], Lf0, [], rfl, ⟨Built.start pm0, hlf5, hkn5, .inl ⟨rfl, rfl⟩⟩, .inl (by rw [pm0.length_eq]; omega)⟩, fun _ _ h => h⟩ (fun _ _ _ _ _ => trivial) ?_ ?_
        · rintro j v σ _ H6 hj ⟨⟨lf, kn, one, a9, a10, a11, a12, S, Lf, ks, rfl, od, hcnt⟩, s6⟩ ⟨rfl, rfl⟩
          obtain ⟨ys, hlf, hys⟩ := od.lf
          have hLf : Lf.length ≤ 16 := by
            have := od.b.pm.length_eq
            rw [List.length_append] at this
            omega
          have lay : ∀ r ∈ Lf, RowLay r := fun r hr => TR.lay (od.b.pm.mem_iff.mp (List.mem_append_right _ hr))
          refine ⟨_, rfl, lf, rfl, ⟨ys, SqL.of hlf⟩, fun D2 hD2' => lc_it (walk_list (xs := ys)) (fun i H' => H' = LcH H6 D2 (pick fun q => decide (q.2.1 ∈ eS :: ks)) (ys.zip Lf) i) lcH_0 ?_ ?_ ?_⟩
          · rintro i _ _ rfl
            exact SqL.of (lcH_at hlf hD2')
          · rintro i v _ _ hi rfl ⟨rfl, hv⟩
            obtain ⟨q, hq, pq, rfl, hpq⟩ := hys.at hv
            have hz := zip_at hv hq
            refine ⟨rfl, _, rfl, pq, _, 1, _, rfl, rfl, SqT.of (lcH_at hpq hD2'), rfl, _, rfl, kn, _, rfl, .inl (SqL.of (lcH_at od.kn hD2')), rfl, flat_txs _, _, rfl, ?_⟩
            rw [if_neg Bool.false_ne_true, inV_txs]
            by_cases e : q.2.1 ∈ eS :: ks
            · rw [decide_eq_true e]
              exact iteT ⟨_, rfl, lc_fin hz (if_pos (decide_eq_true e)) (by rw [zip_len hys]; omega)⟩
            · rw [decide_eq_false e]
              exact iteF (lc_skip hz (if_neg (by show ¬ decide (q.2.1 ∈ eS :: ks) = true; rw [decide_eq_false e]; exact Bool.false_ne_true)))
          rintro _ rfl
          rw [hys.len.trans (zip_len hys).symm, lcH_n]
          have hrw := rows_pick (fun q => decide (q.2.1 ∈ eS :: ks)) hys
          have s7 : Same H6 (upd H6 D2 (.lst ((ys.zip Lf).filterMap (pick fun q => decide (q.2.1 ∈ eS :: ks))))) := Same.new hD2'
          have hd7 : upd H6 D2 (.lst ((ys.zip Lf).filterMap (pick fun q => decide (q.2.1 ∈ eS :: ks)))) D2 = some (.lst ((ys.zip Lf).filterMap (pick fun q => decide (q.2.1 ∈ eS :: ks)))) := upd_same
          generalize upd H6 D2 (.lst ((ys.zip Lf).filterMap (pick fun q => decide (q.2.1 ∈ eS :: ks)))) = H7 at s7 hd7
          generalize (ys.zip Lf).filterMap (pick fun q => decide (q.2.1 ∈ eS :: ks)) = sl at hrw hd7
          refine ⟨_, rfl, zl (show (0 : Nat) ≤ 100 by decide), fun e0 he0 => ?_⟩
          have s8 : Same H7 (upd H7 e0 (.lst [])) := Same.new he0
          have he8 : upd H7 e0 (.lst []) e0 = some (.lst []) := upd_same
          have hd8 := s8 D2 _ hd7
          generalize upd H7 e0 (.lst []) = H8 at s8 he8 hd8
          have s68 := s7.trans s8
          have hrw8 := Rows.sm s68 hrw
          refine ⟨.list (rowsD (Lf.filter fun q => decide (q.2.1 ∈ eS :: ks))), .list [], .lst (SqL.of hd8) (dp_rows hrw8), .lst (SqL.of he8) .nil, shaped_lst fun r hr => lay r (List.mem_filter.mp hr).1, by decide +kernel, _, rfl, ?_⟩
          cases hrs : Lf.filter fun q => decide (q.2.1 ∈ eS :: ks) with
          | nil =>
            rw [show PyData.eqv (.list (rowsD [])) (.list []) = true from by decide +kernel]
            have hL : Lf = [] := by
              by_cases e : Lf = []
              · exact e
              · obtain ⟨r, hr, hp⟩ := od.b.next TR e
                have : r ∈ Lf.filter fun q => decide (q.2.1 ∈ eS :: ks) := List.mem_filter.mpr ⟨hr, decide_eq_true hp⟩
                rw [hrs] at this
                cases this
            refine iteF ⟨⟨lf, kn, one, _, _, _, _, S, Lf, ks, rfl, ⟨od.b, ⟨ys, s68 lf _ hlf, Rows.sm s68 hys⟩, s68 kn _ od.kn, ?_⟩, .inr hL⟩, s6.trans s68⟩
            rcases od.one with z | ⟨z1, a, z2, z3⟩
            · exact .inl z
            · exact .inr ⟨z1, a, z2, z3.sm s68⟩
          | cons r rs =>
            have hr := List.mem_filter.mp (show r ∈ Lf.filter fun q => decide (q.2.1 ∈ eS :: ks) by rw [hrs]; exact List.mem_cons_self)
            have hrp : r.2.1 ∈ eS :: ks := of_decide_eq_true hr.2
            obtain ⟨B', TS', FS, hlen'⟩ := od.b.step TR (by omega) hr.1 hrp
            rw [hrs] at hrw8
            rw [show PyData.eqv (.list (rowsD (r :: rs))) (.list []) = false by simp [rowsD, PyData.eqv, PyData.eqvAll]]
            cases hrw8 with
            | cons h0 htl =>
            rename_i x0 sl0
            obtain ⟨pr, rfl, hpr⟩ := h0
            have rR : r ∈ R := od.b.pm.mem_iff.mp (List.mem_append_right _ hr.1)
            refine iteT ⟨fun σ H9 => ∃ a', σ = [some (.ref sp), some (.ref nl), some (.ref l1), some (.ref D), some (.ref fo), some (.int (0 + (i : Int))), some (.ref lf), some (.ref a'), some (.ref kn), some (.int (0 + (j : Int))), some (.ref D2), a11, a12] ∧ Same H8 H9 ∧ TreeAt C H9 a' (ins r S), ?_, ?_⟩
            · refine ⟨_, rfl, rfl, _, rfl, ?_⟩
              rcases od.one with ⟨hS0, rfl⟩ | ⟨hS0, a, rfl, hta⟩
              · rw [decide_eq_true rfl]
                refine iteT ⟨rfl, _, rfl, D2, _, 0, .ref pr, rfl, rfl, SqL.of hd8, atI_0 rfl, ?_⟩
                have hone : Rows H8 [.ref pr] (ins r S) := by
                  rw [hS0, ins_nil]
                  exact .cons ⟨pr, rfl, hpr⟩ .nil
                intro x dx e1 e2 e3
                exact make_tree (C := C) (E := En) (Q := fun v H9 => ∃ a', [some (.ref sp), some (.ref nl), some (.ref l1), some (.ref D), some (.ref fo), some (.int (0 + (i : Int))), some (.ref lf), some v, some (.ref kn), some (.int (0 + (j : Int))), some (.ref D2), a11, a12] = [some (.ref sp), some (.ref nl), some (.ref l1), some (.ref D), some (.ref fo), some (.int (0 + (i : Int))), some (.ref lf), some (.ref a'), some (.ref kn), some (.int (0 + (j : Int))), some (.ref D2), a11, a12] ∧ Same H8 H9 ∧ TreeAt C H9 a' (ins r S)) hone TS' (fun H' a' s' ha' T' => ⟨a', rfl, s', T'⟩) x dx e1 e2 e3
              · rw [show decide (V.ref a = V.non) = false from decide_eq_false fun z => nomatch z]
                have ht8 := hta.sm s68
                obtain ⟨dx, fs, ha8⟩ := ins_of ht8
                have hSl : S.length < 60 := by
                  have := od.b.pm.length_eq
                  rw [List.length_append] at this
                  omega
                refine iteF ⟨_, rfl, _, rfl, D2, _, 0, _, rfl, rfl, SqL.of hd8, atI_0 rfl, a, dx, fs, pr, _, rfl, rfl, ha8, SqT.of hpr, a, S, .ref pr, r, rfl, ht8, od.b.ok hS0, ⟨pr, rfl, hpr⟩, TR.nm r rR, (TR.spot rR).symm, (TR.room r rR).1, (TR.room r rR).2, hSl, (fun _ H' b s' hb T' => ⟨b, rfl, s', T'⟩), fun z => absurd (FS hS0) z⟩
            · rintro σ H9 ⟨a', rfl, s9, ht9⟩
              have s69 := s68.trans s9
              have hd9 := s9 D2 _ hd8
              have hp9 := s9 pr _ hpr
              refine ⟨_, rfl, _, rfl, D2, _, 0, _, rfl, rfl, SqL.of hd9, atI_0 rfl, pr, _, 0, _, rfl, rfl, SqT.of hp9, rfl, zl (show (1 : Nat) ≤ 100 by decide), fun q1 hq1 => ?_⟩
              refine ⟨kn, q1, _, _, rfl, rfl, Same.new hq1 kn _ (s69 kn _ od.kn), upd_same, ?_, fun kn' hkn' => ?_⟩
              · have e1 := od.b.kn.length_eq
                have e2 := od.b.pm.length_eq
                rw [List.length_append] at e2
                rw [names_length] at e1
                exact zl (show (txs (eS :: ks)).length + 1 ≤ 100 by rw [txs, List.length_map, List.length_cons]; omega)
              have s10 := (Same.new (o := .lst [.str r.1]) hq1).trans (Same.new (o := .lst (txs (eS :: ks) ++ [.str r.1])) hkn')
              have hkn10 : upd (upd H9 q1 (.lst [.str r.1])) kn' (.lst (txs (eS :: ks) ++ [.str r.1])) kn' = some (.lst (txs (eS :: (ks ++ [r.1])))) := by
                rw [upd_same, txs, txs, List.map_cons, List.map_cons, List.map_append] <;> rfl
              have s610 := s69.trans s10
              have hd10 := s10 D2 _ hd9
              have hp10 := s10 pr _ hp9
              have ht10 := ht9.sm s10
              generalize upd (upd H9 q1 (.lst [.str r.1])) kn' (.lst (txs (eS :: ks) ++ [.str r.1])) = H10 at s10 hkn10 s610 hd10 hp10 ht10
              have hlf10 := s610 lf _ hlf
              have hys10 := Rows.sm s610 hys
              refine ⟨_, rfl, lf, rfl, ⟨ys, SqL.of hlf10⟩, fun D5 hD5 => lc_it (walk_list (xs := ys)) (fun i H' => H' = LcH H10 D5 (pick fun q => !decide (q = r)) (ys.zip Lf) i) lcH_0 ?_ ?_ ?_⟩
              · rintro i _ _ rfl
                exact SqL.of (lcH_at hlf10 hD5)
              · rintro i v _ _ hi rfl ⟨rfl, hv⟩
                obtain ⟨q, hq, pq, rfl, hpq⟩ := hys10.at hv
                have hz := zip_at hv hq
                refine ⟨rfl, _, rfl, _, rfl, D2, _, 0, _, rfl, rfl, SqL.of (lcH_at hd10 hD5), atI_0 rfl, rowD q, rowD r, dp_row ⟨pq, rfl, lcH_at hpq hD5⟩, dp_row ⟨pr, rfl, lcH_at hp10 hD5⟩, shaped_row (lay q (List.mem_of_getElem? hq)), shaped_row (lay r hr.1), _, rfl, ?_⟩
                rw [eqv_row]
                by_cases e : q = r
                · rw [decide_eq_true e]
                  exact iteF (lc_skip hz (if_neg (by simp [e])))
                · rw [decide_eq_false e]
                  exact iteT ⟨_, rfl, lc_fin hz (if_pos (by simp [e])) (by rw [zip_len hys10]; omega)⟩
              · rintro _ rfl
                rw [hys10.len.trans (zip_len hys10).symm, lcH_n]
                have s11 := Same.new (o := .lst ((ys.zip Lf).filterMap (pick fun q => !decide (q = r)))) hD5
                refine ⟨⟨D5, kn', .ref a', _, _, _, _, ins r S, _, ks ++ [r.1], rfl, ⟨B', ⟨_, upd_same, Rows.sm s11 (rows_pick (fun q => !decide (q = r)) hys10)⟩, s11 kn' _ hkn10, .inr ⟨?_, a', rfl, ht10.sm s11⟩⟩, ?_⟩, s6.trans (s610.trans s11)⟩
                · exact fun z => by
                    have := (ins_perm r S).length_eq
                    rw [z, List.length_cons] at this
                    simp at this
                · rcases hcnt with z | z
                  · exact .inl (by omega)
                  · rw [z] at hr
                    cases hr.1
        · rintro σ H6 ⟨⟨lf, kn, one, a9, a10, a11, a12, S, Lf, ks, rfl, od, hcnt⟩, s6⟩
          have hL : Lf = [] := by
            rcases hcnt with z | z
            · exact List.length_eq_zero_iff.mp (by omega)
            · exact z
          subst hL
          have eS' := od.b.done TR
          subst eS'
          rcases od.one with ⟨z, _⟩ | ⟨_, a, rfl, hta⟩
          · exact absurd z TR.ne
          have s36 := s35.trans s6
          have h0 : H2 fo = none := hfo
          refine ⟨_, rfl, .inl ⟨rfl, _, SqL.of (s36 fo _ hf3)⟩, _, rfl, fo, _, _, rfl, rfl, s36 fo _ hf3, ?_, ⟨_, _, _, _, _, _, _, _, rfl⟩, Same.put (s3.trans s36) h0, ts ++ [a], ?_, ?_, fun t ht => ?_⟩
          · rw [List.length_map]; exact zs1 (by omega)
          · rw [upd_same, List.map_append] <;> rfl
          · rw [List.length_append, List.length_singleton, hts]
          · have hbase : TreeAt C H6 t S := by
              rcases List.mem_append.mp ht with m | m
              · exact (htt t m).sm s36
              · rw [List.mem_singleton.mp m]; exact hta
            obtain ⟨dx, tt, nn, b1, ⟨zz, b2, b3⟩, b4⟩ := hbase
            have hf6 := s36 fo _ hf3
            have nf : ∀ {b : Addr} {o : HO}, H6 b = some o → (∀ ys, o ≠ .lst ys) → b ≠ fo := fun hb ho z => by
              rw [z, hf6] at hb
              exact ho _ (Option.some.inj hb).symm
            exact ⟨dx, tt, nn, by rw [upd_ne (nf b1 fun _ z => nomatch z)]; exact b1, ⟨zz, by rw [upd_ne (nf b2 fun _ z => nomatch z)]; exact b2, rows_put hf6 (fun _ z => nomatch z) b3⟩, by rw [upd_ne (nf b4 fun _ z => nomatch z)]; exact b4⟩
    · rintro σ H3 ⟨⟨a5, a6, a7, a8, a9, a10, a11, a12, rfl⟩, s3, ts, hf3, hts, htt⟩
      match ts, hts with
      | [t0, t1], _ =>
        have h0 := htt t0 (by simp)
        have h1 := htt t1 (by simp)
        obtain ⟨dx, fs, ha0⟩ := ins_of h0
        obtain ⟨dy, gs, ha1⟩ := ins_of h1
        have hl3 : LstAt H3 D R := ⟨ys0, s3 D _ hD2, Rows.sm s3 hrow⟩
        refine ⟨_, rfl, fo, _, 0, .ref t0, rfl, rfl, SqL.of hf3, rfl, _, rfl, fo, _, 1, .ref t1, rfl, rfl, SqL.of hf3, rfl, t0, dx, fs, t1, dy, gs, rfl, rfl, ha0, ha1, t0, t1, R, R, rfl, h0, h1, TR, TR, _, rfl, ?_⟩
        rw [decide_eq_true rfl]
        refine iteT ⟨_, rfl, fo, _, 0, .ref t0, rfl, rfl, SqL.of hf3, rfl, _, rfl, t0, D, R, rfl, h0, hl3, TR, fun H4 s4 => ⟨true, rfl, iteT ?_⟩⟩
        exact ⟨_, rfl, fo, _, 1, .ref t1, rfl, rfl, SqL.of (s4 fo _ hf3), rfl, _, rfl, t1, D, R, rfl, h1.sm s4, hl3.sm s4, TR, fun H5 _ => k H5⟩
end
end K14
end

-- K14Law
section
set_option maxRecDepth 100000
set_option maxHeartbeats 2000000
/-! the law -/
namespace K14
open PySem PySem.Spec PyProof.Rows L2
open PySem.W (Frag)
def spLaw (K : Frag) (Pt : Addr) : Sp := fun vs H Q _ => ∃ (l : Addr) (is : List Int), vs = [.ref l] ∧ SqL K H l (zs is) ∧ is.length ≤ 63 ∧ H Pt = some (.tbl #[]) ∧ ∀ H', Q (.bl true) H'
theorem case_put {C : Addr} {H : Hp} {tr : Addr} {xs ys : List V} {Rs : List (List Row)} (ht : H tr = some (.lst xs)) (hx : Paired (CaseAt C H) xs Rs) {x : V} {R : List Row} (h : CaseAt C H x R) : CaseAt C (upd H tr (.lst ys)) x R := by
  obtain ⟨p, b, l, e, h1, ⟨dx, t, n, b1, ⟨zz, b2, b3⟩, b4⟩, ⟨rs, l1, l2⟩, TR⟩ := h
  have nt : ∀ {b : Addr} {o : HO}, H b = some o → (∀ ys, o ≠ .lst ys) → b ≠ tr := fun hb ho z => by
    rw [z, ht] at hb
    exact ho _ (Option.some.inj hb).symm
  have nl : l ≠ tr := fun z => by
    rw [z, ht] at l1
    have e1 : xs = rs := HO.lst.inj (Option.some.inj l1)
    subst e1
    cases l2 with
    | nil => exact TR.ne rfl
    | cons hr _ =>
      cases hx with
      | cons hc _ =>
        obtain ⟨p1, e1, q1⟩ := hr
        obtain ⟨p2, b', l', e2, q2, _⟩ := hc
        rw [e1] at e2
        cases e2
        rw [q1] at q2
        cases q2
  exact ⟨p, b, l, e, by rw [upd_ne (nt h1 fun _ z => nomatch z)]; exact h1, ⟨dx, t, n, by rw [upd_ne (nt b1 fun _ z => nomatch z)]; exact b1, ⟨zz, by rw [upd_ne (nt b2 fun _ z => nomatch z)]; exact b2, rows_put ht (fun _ z => nomatch z) b3⟩, by rw [upd_ne (nt b4 fun _ z => nomatch z)]; exact b4⟩,
    ⟨rs, by rw [upd_ne nl]; exact l1, rows_put ht (fun _ z => nomatch z) l2⟩, TR⟩
theorem tabs_put {T : List (Addr × Str)} {H : Hp} {tr : Addr} {xs : List V} {o : HO} (h : LamX.Tabs T H) (ht : H tr = some (.lst xs)) : LamX.Tabs T (upd H tr o) := fun p hp => by
  obtain ⟨ps, h1, h2, h3⟩ := h p hp
  have nt : ∀ {b : Addr} {o : HO}, H b = some o → (∀ ys, o ≠ .lst ys) → b ≠ tr := fun hb ho z => by
    rw [z, ht] at hb
    exact ho _ (Option.some.inj hb).symm
  refine ⟨ps, by rw [upd_ne (nt h1 fun _ z => nomatch z)]; exact h1, h2, fun pos cv e => ?_⟩
  obtain ⟨c, e1, e2⟩ := h3 pos cv e
  exact ⟨c, e1, by rw [upd_ne (nt e2 fun _ z => nomatch z)]; exact e2⟩
abbrev NLaw : List Str := ["_law_script", "_law_spool_here", "_law_plan", "_law_load", "_law_names_here", "_law_one", "_law_rows", "_law_trees", "_law_lap", "_law_late", "_law_more", "_law_case_here"]
theorem sc_law : FnScope NLaw ["_law_script"] (defScope (top 74)) := ⟨rfl, rfl, rfl, by decide +kernel, rfl, by decide +kernel, by decide +kernel⟩
section
variable {P : Program} {w : World} {K : Frag} {mg : Str → Option Value} {base : Heap} {f C C2 Pt : Addr} {fd : FuncData}
theorem ok_law (F : FnP K "law" (top 74) f fd) (T : Txt mg) (TT : TU P w K mg base C C2) (gC : mg "Tree" = some (.ref C)) (Dsp : Dn P w K mg base CX0 1 "_law_spool" [] (spSpoolK K)) (Dc : Dn P w K mg base CX0 4 "_law_case" [] spCase) (Dnm : Dn P w K mg base CX0 3 "_law_names" [] spNames16)
    (Dpl : Dn P w K mg base CX0 1 "_law_pull" [] spPull) (Ds : DnG P w K mg base CX0 11 "_law_step_right" (spStep C Pt)) (Di : DnG P w K mg base CX0 10 "_law_is_tree" (spIs C)) (De : DnG P w K mg base CX0 4 "_law_are_equal_right" (spEqual C)) (Do : DnG P w K mg base CX0 11 "_law_are_orders_right" spOrd) :
    FnG P w K mg base CX0 12 f fd ["_law_script"] (spLaw K Pt) := by
  obtain ⟨ge, eE, fE⟩ := TT.eq
  obtain ⟨ga, bA, fA⟩ := TT.add
  obtain ⟨gb, bB, fB⟩ := TT.sub
  obtain ⟨mc, pp, go, cr, cm, fO⟩ := TT.of_
  refine okG F sc_law (fun vs H Q E h => ?_) (fun cdv A outer s H vs Q E hr hgd h => ?_)
  · obtain ⟨l, is, rfl, _⟩ := h
    rfl
  · have nd := sc_law.nd
    obtain ⟨l0, is, rfl, hl0, hz, hT, k⟩ := h
    refine ⟨_, PSs.nox (pss_cons (ps_set (i := 1) nd rfl (.inl rfl) (pe_d Dsp (E := En) hr (by decide) rfl pass0 (pa_cons (pv 0) pa_nil)))
      (pss_cons (ps_asg (pe_d Dc (E := En) hr (by decide) rfl pass0 (pa_cons (pv 1) (pa_cons pe_int pa_nil))) (show PG _ _ (gT2 K 2 3) from pg_tup rfl (pgs_cons (pg_name (i := 2) nd rfl (Or.inl rfl)) (pgs_cons (pg_name (i := 3) nd rfl (Or.inl rfl)) pgs_nil))))
      (pss_cons (ps_set (i := 4) nd rfl (.inl rfl) (pe_slice sl_list (pe_d Dnm (E := En) hr (by decide) rfl pass0 (pa_cons (pv 1) pa_nil)) po_none (po_some pe_int)))
      (pss_cons (ps_par (i := 5) (j := 6) rfl nd rfl rfl (by decide) rfl rfl (pa_cons (ClX.pe_cmeth (E := En) (pe_glob (v := .ref C) rfl gC rfl) cr cm fO (hr.mono (by decide)) pass0 (pa_cons (pv 2) pa_nil)) (pa_cons (pe_callTy call_list_of rfl T.list PyProof.Rows.boot_list (pa_cons (pv 2) pa_nil)) pa_nil)) (by rfl))
      (pss_cons (ps_set (i := 7) nd rfl (.inl rfl) (pe_lst (pa_cons (pe_tup (pa_cons (pv 5) (pa_cons (pv 6) pa_nil))) pa_nil)))
      (pss_cons (ps_for PassesOwn.never rfl (pi_range1 rfl T.range (pa_cons pe_int pa_nil)) (pg_name (i := 8) nd rfl (Or.inl rfl))
        (pss_cons (ps_set (i := 9) nd rfl (.inl rfl) (pe_dG Ds (E := En) hr (by decide) hgd rfl pass0 (pa_cons (pv 1) (pa_cons (pv 4) (pa_cons (pv 5) (pa_cons (pv 6) pa_nil))))))
        (pss_cons (ps_if (PW.pt (pw_or (pt_cmpR op_isN (pv 9) pe_non (nomark _)) (pw_or1 (pt_not (pt_val (pe_dG Di (E := En) hr (by decide) hgd rfl pass0 (pa_cons (pe_ix ix_tup (pv 9) pe_int (fun _ _ => rfl)) (pa_cons (pe_ix ix_tup (pv 9) pe_int (fun _ _ => rfl)) pa_nil)))))))) pss_never pss_nil)
        (pss_cons (ps_asg (pv 9) (show PG _ _ (gT2 K 5 6) from pg_tup rfl (pgs_cons (pg_name (i := 5) nd rfl (Or.inl rfl)) (pgs_cons (pg_name (i := 6) nd rfl (Or.inl rfl)) pgs_nil))))
        (pss_one (ps_expr (pe_bm PySem.F.plainAttrs_list PySem.F.slot_list_append PySem.F.type_list_append mt_append (pv 7) (pa_cons (pe_tup (pa_cons (pv 5) (pa_cons (pv 6) pa_nil))) pa_nil))))))))
      (pss_cons (ps_if (pt_not (pt_val (pe_dG De (E := En) hr (by decide) hgd rfl pass0 (pa_cons (pv 7) pa_nil)))) pss_never pss_nil)
      (pss_cons (ps_if (pt_cmpR (op_neD hr.units)
          (pe_lc (own := [("_law_case_here", 11)]) (g := gName 11) (tt := fun σ H Q => tNot (tB (tCall (spIs C) [] En (tCons (tOp (rIxT K) (tVar 11) (tC (.int 0))) (tCons (tOp (rIxT K) (tVar 11) (tC (.int 1))) tNil)))) σ H Q) (te := tVar 11) rfl nd (pi_list (pv 7)) (blkOk_by (N := NLaw) (sc := defScope (top 74)) (by decide +kernel))
            (fun _ _ _ _ _ => pg_name (i := 11) nd rfl (Or.inl rfl)) (fun _ _ _ _ _ => pts_one (pt_not (pt_val (pe_dG Di (E := En) hr (by decide) hgd rfl pass0 (pa_cons (pe_ix ix_tup (pv 11) pe_int (fun _ _ => rfl)) (pa_cons (pe_ix ix_tup (pv 11) pe_int (fun _ _ => rfl)) pa_nil)))))) (fun _ _ _ _ _ => pv 11)) (pe_lst pa_nil) (nomark _)) pss_never pss_nil)
      (pss_cons (ps_set (i := 10) nd rfl (.inl rfl) (pe_op (op_addO bA fA (hr.mono (by decide)) (passN (P := P) (w := w))) (pv 5) (pe_tup (pa_cons pe_str (pa_cons (pe_ix ix_tup (pe_ix ix_list (pv 6) pe_int (fun _ _ => rfl)) pe_int (fun _ _ => rfl)) (pa_cons pe_int pa_nil))))))
      (pss_cons (ps_if (PW.pt (pw_or (pt_cmpR (op_neO (E := En) eE fE (hr.mono (by decide)) pass0) (pe_op (op_subO bB fB (hr.mono (by decide)) (passN (P := P) (w := w))) (pv 10) pe_str) (pv 5) (nomark _))
          (pw_or (pt_cmpR (op_eqO (E := En) eE fE (hr.mono (by decide)) pass0) (pv 10) (pv 5) (nomark _)) (pw_or1 (pt_not (pt_val (pe_dG Di (E := En) hr (by decide) hgd rfl pass0 (pa_cons (pv 5) (pa_cons (pv 6) pa_nil))))))))) pss_never pss_nil)
      (pss_one (ps_ret (pe_dG Do (E := En) hr (by decide) hgd rfl pass0 (pa_cons (pv 1) (pa_cons (pe_slice sl_list (pv 4) po_none (po_some (pe_op op_add pe_int (pe_d Dpl (E := En) hr (by decide) rfl pass0 (pa_cons (pv 1) (pa_cons pe_int pa_nil)))))) pa_nil))))))))))))))), ?_⟩
    have zl : ∀ {n : Nat}, n ≤ 100 → n ≤ sizeLine := fun h => Nat.le_trans h (by decide)
    refine ⟨_, rfl, l0, is, rfl, hl0, hz, fun H1 sp c s1 hsp hS1 => ?_⟩
    have T1 : LamX.Tabs (tabT Pt) H1 := fun p hp => by
      rw [List.mem_singleton.mp hp]
      exact LamX.TabS.nil (s1 Pt _ hT)
    refine ⟨_, rfl, sp, c, 3, rfl, hS1, by decide, by decide, fun H2 pp2 t ld R g2 hS2 hp2 ht TR hR3 nb => gT2_ok hp2 ?_⟩
    have T2 := tabs_gr T1 g2
    refine ⟨_, rfl, sp, c, rfl, hS2, fun H3 nl0 ns g3 hS3 hnl0 ok hl16 => ⟨9, rfl, nl0, _, rfl, SqL.of hnl0, fun nl hnl => ?_⟩⟩
    rw [show cutV (txs ns) none (some 9) = txs (ns.take 9) by
      rw [show cutV (txs ns) none (some 9) = _ from cut_to (txs ns) 9]
      exact (List.map_take ..).symm]
    have ok9 : NamesOk (ns.take 9) := ok.sub (List.take_sublist _ _)
    have hl9 : (ns.take 9).length = 9 := by rw [List.length_take]; omega
    generalize ns.take 9 = n9 at ok9 hl9
    have s4 : Same H3 (upd H3 nl (.lst (txs n9))) := Same.new hnl
    have hnl4 : upd H3 nl (.lst (txs n9)) nl = some (.lst (txs n9)) := upd_same
    generalize upd H3 nl (.lst (txs n9)) = H4 at s4 hnl4
    have g24 : Gr H2 H4 := g3.trans (Gr.of s4)
    refine ⟨rfl, _, rfl, t, R, rfl, ht.gr g24, TR, fun H5 a s5 ha5 hta => ?_⟩
    obtain ⟨xs0, ht0, hx0⟩ := ht.gr (g24.trans (Gr.of s5))
    refine ⟨_, rfl, t, xs0, rfl, .inr (SqT.of ht0), fun l6 hl6 => ⟨_, _, rfl, ?_⟩⟩
    have s6 : Same H5 (upd H5 l6 (.lst xs0)) := Same.new hl6
    have hl66 : LstAt (upd H5 l6 (.lst xs0)) l6 R := ⟨xs0, upd_same, Rows.sm s6 hx0⟩
    generalize upd H5 l6 (.lst xs0) = H6 at s6 hl66
    refine ⟨_, rfl, _, rfl, zl (show (2 : Nat) ≤ 100 by decide), fun p0 hp0 => ⟨zl (show (1 : Nat) ≤ 100 by decide), fun tr htr => ?_⟩⟩
    have s7 : Same H6 (upd H6 p0 (.tup [.ref a, .ref l6])) := Same.new hp0
    have hp7 : upd H6 p0 (.tup [.ref a, .ref l6]) p0 = some (.tup [.ref a, .ref l6]) := upd_same
    have g47 : Gr H4 (upd H6 p0 (.tup [.ref a, .ref l6])) := Gr.of ((s5.trans s6).trans s7)
    have hta7 : TreeAt C (upd H6 p0 (.tup [.ref a, .ref l6])) a R := hta.sm (s6.trans s7)
    have hl7 : LstAt (upd H6 p0 (.tup [.ref a, .ref l6])) l6 R := hl66.sm s7
    change upd H6 p0 (.tup [.ref a, .ref l6]) tr = none at htr
    have hS7 : SpoolAt (upd H6 p0 (.tup [.ref a, .ref l6])) sp c := ((hS3.sm s4).sm ((s5.trans s6).trans s7))
    have T7 : LamX.Tabs (tabT Pt) (upd H6 p0 (.tup [.ref a, .ref l6])) := tabs_gr T2 (g24.trans g47)
    generalize upd H6 p0 (.tup [.ref a, .ref l6]) = H7 at s7 hp7 g47 hta7 hl7 htr hS7 T7
    have ntr := hS7.ne htr
    have n8 : Same H7 (upd H7 tr (.lst [.ref p0])) := Same.new htr
    refine ⟨12, rfl, by decide, by decide, for_it walk_range (fun i σ H' => ∃ (a l : Addr) (R : List Row) (x8 x9 x10 x11 : Option V) (xs : List V) (Rs : List (List Row)), σ = [some (.ref l0), some (.ref sp), some (.ref t), some (.ref ld), some (.ref nl), some (.ref a), some (.ref l), some (.ref tr), x8, x9, x10, x11] ∧
      SpoolAt H' sp c ∧ LamX.Tabs (tabT Pt) H' ∧ H' nl = some (.lst (txs n9)) ∧ TreeAt C H' a R ∧ LstAt H' l R ∧ TreeOk R ∧ R.length ≤ 3 + i ∧ (∀ r ∈ R, r.1 ≠ nob) ∧ H' tr = some (.lst xs) ∧ Paired (CaseAt C H') xs Rs ∧ xs.length = i + 1)
      ⟨a, l6, R, _, _, _, _, [.ref p0], [R], rfl, hS7.new htr, tabs_gr T7 (Gr.of n8), n8 nl _ (g47.lst hnl4), hta7.sm n8, hl7.sm n8, TR, by omega, nb, upd_same, .cons ⟨p0, a, l6, rfl, n8 p0 _ hp7, hta7.sm n8, hl7.sm n8, TR⟩ .nil, rfl⟩ (fun _ _ _ _ _ => trivial) ?_ ?_⟩
    · rintro i v σ _ H8 hi ⟨a, l, R, x8, x9, x10, x11, xs, Rs, rfl, hS, hT8, hnl, hta, hl, TR, hR, nb, htr8, hcs, hxl⟩ ⟨rfl, rfl⟩
      have hi2 : i < 12 := hi
      refine ⟨_, rfl, _, rfl, _, rfl, _, rfl, sp, c, nl, a, l, n9, R, rfl, hS, hT8, hnl, ok9, (fun z => by rw [z] at hl9; simp at hl9), by omega, hta, hl, TR, by omega, nb, fun H9 p b l' R' w9 hS9 T9 hp9 hb hl' TR' hR' nb' => ?_⟩
      refine ⟨_, rfl, rfl, _, rfl, ?_⟩
      rw [show decide (V.ref p = V.non) = false from decide_eq_false fun z => nomatch z]
      refine iteF ⟨_, rfl, p, _, 0, _, rfl, rfl, SqT.of hp9, rfl, _, rfl, p, _, 1, _, rfl, rfl, SqT.of hp9, rfl, b, l', R', rfl, hb, hl', TR', fun H10 s10 => ⟨true, rfl, iteF ?_⟩⟩
      refine ⟨_, rfl, gT2_ok (s10 p _ hp9) ?_⟩
      have htr10 := s10 tr _ (w9.lst htr8)
      have w10 := w9.trans (GrW.sm s10)
      refine ⟨_, rfl, .inl ⟨rfl, _, SqL.of htr10⟩, _, rfl, _, rfl, zl (show (2 : Nat) ≤ 100 by decide), fun q hq => ?_⟩
      have s11 : Same H10 (upd H10 q (.tup [.ref b, .ref l'])) := Same.new hq
      have hq11 : upd H10 q (.tup [.ref b, .ref l']) q = some (.tup [.ref b, .ref l']) := upd_same
      generalize upd H10 q (.tup [.ref b, .ref l']) = H11 at s11 hq11
      have htr11 := s11 tr _ htr10
      have hcs11 : Paired (CaseAt C H11) xs Rs := pair_mono (fun x R h => h.grw (w10.trans (GrW.sm s11))) hcs
      have s101 := s10.trans s11
      have new11 : CaseAt C H11 (.ref q) R' := ⟨q, b, l', rfl, hq11, hb.sm s101, hl'.sm s101, TR'⟩
      have hSx := hS9.sm s101
      refine ⟨tr, xs, _, rfl, rfl, htr11, Nat.lt_of_le_of_lt (show xs.length ≤ 100 by omega) (by decide), b, l', R', _, _, _, _, xs ++ [.ref q], Rs ++ [R'], rfl, hSx.put ntr.1 ntr.2, tabs_put (tabs_gr T9 (Gr.of s101)) htr11, ?_, ?_, ?_, TR', by omega, nb', upd_same, ?_, by rw [List.length_append, List.length_singleton, hxl]⟩
      · have hnl11 := (w10.trans (GrW.sm s11)).lst hnl
        have ne : nl ≠ tr := fun z => by
          rw [z, htr11] at hnl11
          have e1 : xs = txs n9 := HO.lst.inj (Option.some.inj hnl11)
          cases hcs with
          | nil => simp at hxl
          | cons hc _ =>
            obtain ⟨p2, _, _, e2, _⟩ := hc
            cases n9 with
            | nil => cases e1
            | cons y ys =>
              have := (List.cons.inj e1).1
              rw [e2] at this
              cases this
        rw [upd_ne ne]
        exact hnl11
      · obtain ⟨_, b0, l0', e0, _, q1, q2, _⟩ := case_put (ys := xs ++ [.ref q]) htr11 hcs11 new11
        cases e0
        rename_i hh
        rw [upd_ne (fun z => by rw [z, htr11] at hq11; cases hq11), hq11] at hh
        cases hh
        exact q1
      · obtain ⟨_, b0, l0', e0, hh, q1, q2, _⟩ := case_put (ys := xs ++ [.ref q]) htr11 hcs11 new11
        cases e0
        rw [upd_ne (fun z => by rw [z, htr11] at hq11; cases hq11), hq11] at hh
        cases hh
        exact q2
      · exact pair_snoc (case_put htr11 hcs11 new11) (pair_mono (fun x R h => case_put htr11 hcs11 h) hcs11)
    · rintro σ H8 ⟨a, l, R, x8, x9, x10, x11, xs, Rs, rfl, hS, hT8, hnl, hta, hl, TR, hR, nb, htr8, hcs, hxl⟩
      refine ⟨_, rfl, tr, xs, Rs, rfl, htr8, hcs, fun H9 s9 => ⟨true, rfl, iteF ?_⟩⟩
      refine ⟨_, rfl, tr, rfl, ⟨xs, SqL.of (s9 tr _ htr8)⟩, fun D hD => lc_it (walk_list (xs := xs)) (fun i H' => H' D = some (.lst []) ∧ Same H9 H') ⟨upd_same, Same.new hD⟩ ?_ ?_ ?_⟩
      · rintro i H' _ ⟨_, s10⟩
        exact SqL.of (s10 tr _ (s9 tr _ htr8))
      · rintro i v _ H10 hi ⟨hd, s10⟩ ⟨rfl, hv⟩
        obtain ⟨R', p, b, l', rfl, hp, hb, hl', TR'⟩ := cases_at hcs hv
        have s910 := s9.trans s10
        refine ⟨rfl, _, rfl, p, _, 0, _, rfl, rfl, SqT.of (s910 p _ hp), rfl, _, rfl, p, _, 1, _, rfl, rfl, SqT.of (s910 p _ hp), rfl, b, l', R', rfl, hb.sm s910, hl'.sm s910, TR', fun H11 s11 => ⟨true, rfl, iteF ⟨s11 D _ hd, s10.trans s11⟩⟩⟩
      rintro H10 ⟨hd, s10⟩
      refine ⟨zl (show (0 : Nat) ≤ 100 by decide), fun e0 he0 => ?_⟩
      have s11 : Same H10 (upd H10 e0 (.lst [])) := Same.new he0
      refine ⟨.list [], .list [], .lst (SqL.of (s11 D _ hd)) .nil, .lst (SqL.of upd_same) .nil, by decide +kernel, by decide +kernel, _, rfl, ?_⟩
      rw [show PyData.eqv (.list []) (.list []) = true from by decide +kernel]
      refine iteF ?_
      have s811 := (s9.trans s10).trans s11
      generalize upd H10 e0 (.lst []) = H11 at s11 s811
      have hta11 := hta.sm s811
      obtain ⟨dx, fs, ha11⟩ := ins_of hta11
      obtain ⟨rs, hl11, hrs⟩ := hl.sm s811
      cases R with
      | nil => exact absurd rfl TR.ne
      | cons r0 R1 =>
      cases hrs with
      | cons h0 htl =>
      rename_i x0 rs0
      obtain ⟨pr, rfl, hpr⟩ := h0
      refine ⟨_, rfl, _, rfl, l, _, 0, .ref pr, rfl, rfl, SqL.of hl11, atI_0 rfl, pr, _, 0, _, rfl, rfl, SqT.of hpr, rfl, zl (show (3 : Nat) ≤ 100 by decide), fun pn hpn => ?_⟩
      have s12 : Same H11 (upd H11 pn (.tup [.str nob, .str r0.1, .int 3])) := Same.new hpn
      have hpn12 : upd H11 pn (.tup [.str nob, .str r0.1, .int 3]) pn = some (.tup [.str nob, .str r0.1, .int 3]) := upd_same
      generalize upd H11 pn (.tup [.str nob, .str r0.1, .int 3]) = H12 at s12 hpn12
      have hR' : (r0 :: R1).length ≤ 15 := by omega
      generalize hRe : r0 :: R1 = R at *
      have r0m : r0 ∈ R := by rw [← hRe]; exact List.mem_cons_self
      have nobN : NameOk nob := ⟨by decide +kernel, by decide +kernel, by decide +kernel⟩
      have nin : nob ∉ names R := fun z => by
        obtain ⟨r, hr, e⟩ := of_names z
        exact nb r hr e
      have FT : Fits (nob, r0.1, 3) R := ⟨nin, fun z => nb r0 r0m z.symm, .inr (mem_names r0m)⟩
      have r3 : (0 : Int) ≤ 3 ∧ (3 : Int) < roomLine := ⟨by decide, by decide⟩
      have TI := TR.ins FT nobN r3 (by omega)
      have hta12 := hta11.sm s12
      refine ⟨a, dx, fs, pn, _, rfl, rfl, s12 a _ ha11, SqT.of hpn12, a, R, .ref pn, (nob, r0.1, 3), rfl, hta12, TR, ⟨pn, rfl, hpn12⟩, nobN, .inl (TR.nm r0 r0m), r3.1, r3.2, by omega, (fun _ H13 m s13 hm htm => ?_), fun z => absurd FT z⟩
      obtain ⟨dm, fm, ham⟩ := ins_of htm
      have tk : Takes nob (ins (nob, r0.1, 3) R) := ⟨mem_names (r := (nob, r0.1, 3)) (mem_ins.mpr (.inl rfl)), fun z => by
        rw [(ins_perm _ R).length_eq, List.length_cons] at z
        have := List.length_pos_iff.mpr TR.ne
        omega, fun q hq e => by
        rcases mem_ins.mp hq with z | z
        · rw [z] at e
          exact nb r0 r0m e
        · rcases TR.par q z with y | y
          · rw [y] at e
            exact absurd e (by decide)
          · rw [e] at y
            exact nin y⟩
      refine ⟨_, rfl, m, dm, fm, nob, rfl, rfl, ham, m, ins (nob, r0.1, 3) R, nob, rfl, htm, TI, (fun _ H14 u s14 hu htu => ?_), fun z => absurd tk z⟩
      have eo : out nob (ins (nob, r0.1, 3) R) = R := out_ins (r := (nob, r0.1, 3)) TR.asc nin
      rw [eo] at htu
      obtain ⟨du, fu, hau⟩ := ins_of htu
      have hta14 := hta12.sm (s13.trans s14)
      obtain ⟨dy, gs, ha14⟩ := ins_of hta14
      refine ⟨_, rfl, u, du, fu, a, dy, gs, rfl, rfl, hau, ha14, u, a, R, R, rfl, htu, hta14, TR, TR, _, rfl, _, rfl, ?_⟩
      rw [decide_eq_true rfl]
      have htm14 := htm.sm s14
      obtain ⟨dz, fz, ham14⟩ := ins_of htm14
      refine iteF ⟨_, rfl, _, rfl, m, dz, fz, a, dy, gs, rfl, rfl, ham14, ha14, m, a, ins (nob, r0.1, 3) R, R, rfl, htm14, hta14, TI, TR, _, rfl, ?_⟩
      rw [decide_eq_false (ins_ne _ R)]
      have s814 := s811.trans (s12.trans (s13.trans s14))
      refine iteF ⟨_, rfl, _, rfl, a, l, R, rfl, hta14, hl.sm s814, TR, fun H15 s15 => ⟨true, rfl, iteF ?_⟩⟩
      have s815 := s814.trans s15
      refine ⟨_, rfl, _, rfl, _, rfl, sp, c, 7, rfl, hS.sm s815, by decide, by decide, fun H16 r g16 hS16 q0 q1 => ⟨1, r, rfl, rfl, _, rfl, nl, _, rfl, SqL.of (g16.lst (s815 nl _ hnl)), fun n2 hn2 => ?_⟩⟩
      obtain ⟨j, rfl⟩ := Int.eq_ofNat_of_zero_le q0
      rw [show cutV (txs n9) none (some (1 + (j : Int))) = txs (n9.take (1 + j)) by
        rw [show (1 + (j : Int)) = ((1 + j : Nat) : Int) by omega, cut_to]
        exact (List.map_take ..).symm]
      refine ⟨sp, c, n2, n9.take (1 + j), rfl, hS16.new hn2, upd_same, ok9.sub (List.take_sublist _ _), fun z => ?_, by rw [List.length_take]; omega, k⟩
      have := congrArg List.length z
      rw [List.length_take, List.length_nil] at this
      omega
end
end K14
end

-- K14Facts
section
set_option maxRecDepth 100000
set_option maxHeartbeats 0
/-! the head: which facts are looked at, the defs -/
namespace K14
open PySem PySem.Spec PyProof.Rows L2
def dF (x : Str) (i : Nat) : He.DefD := ⟨(x, none), x, x, defArgs (top i), defBody (top i), defScope (top i), [], []⟩
def dM (x : Str) (j : Nat) : He.DefD := ⟨("Tree", some x), x, "Tree." ++ x, defArgs (inClass (top 51) j), defBody (inClass (top 51) j), defScope (inClass (top 51) j), [], []⟩
def fnA : List He.DefD := [dF "is_integer" 17, dF "is_number" 18, dF "is_name" 19, dF "is_spot" 20, dF "is_triple" 21, dF "is_folder" 22, dF "names_in" 24, dF "parents_by" 25, dF "first_ringed" 28, dF "first_unparented" 29, dF "tree_fault" 30,
  ⟨("want", none), "want", "want", defArgs (top 32), defBody (top 32), defScope (top 32), [.int (-1)], []⟩, dF "want_tree" 33, dF "is_folder_of" 34, dF "want_folder" 35, dF "spot_word" 38, dF "tree_text" 39, dF "lets_tree" 53]
def fnB : List He.DefD := [dM "__init__" 0, dM "__add__" 6, dM "__sub__" 7, dM "__iter__" 9, dM "__len__" 11, dM "__eq__" 12, dM "__str__" 13]
def fnC : List He.DefD := [dF "_law_spool" 55, dF "_law_pull" 56, dF "_law_any" 57, dF "_law_names" 58, dF "_law_forest" 59, dF "_law_up" 60, dF "_law_uses" 61, dF "_law_case" 62, dF "_law_refusal" 63, dF "_law_said" 64, dF "_law_word" 65, dF "_law_row" 66,
  dF "_law_tree_lines" 67, dF "_law_put_due" 68, dF "_law_taken_due" 69, dF "_law_is_tree" 70, dF "_law_step_right" 71, dF "_law_are_equal_right" 72, dF "_law_are_orders_right" 73, dF "law" 74]
def fn : List He.DefD := fnA ++ fnB ++ fnC
def faA : List He.Fa := [.free "isinstance", .free "int", .free "bool", .free "str", .free "len", .free "all", .free "tuple", .free "enumerate", .free "sorted", .free "set", .free "list", .free "dict", .free "range", .free "sum", .free "min", .free "repr", .free "iter", .free "super", .free "ValueError"]
def faB : List He.Fa := [.str "LETTERS" "abcdefghijklmnopqrstuvwxyz", .int "MOST_LETTERS" 8, .str "OUTSIDE" "-", .glo "Tree", .glo "NotUsable", .cls "Tree", .noat "Tree" "held_tree", .noat "Tree" "held_names", .mkr "Tree", .meth "Tree" "__add__", .meth "Tree" "__sub__", .meth "Tree" "__iter__", .meth "Tree" "__len__", .meth "Tree" "__eq__", .meth "Tree" "__str__"]
def faC : List He.Fa := [.glo "is_integer", .glo "is_number", .glo "is_name", .glo "is_spot", .glo "is_triple", .glo "is_folder", .glo "names_in", .glo "parents_by", .glo "first_ringed", .glo "first_unparented", .glo "tree_fault", .glo "want", .glo "want_tree", .glo "is_folder_of", .glo "want_folder", .glo "spot_word", .glo "tree_text", .glo "lets_tree"]
def faD : List He.Fa := [.glo "_law_spool", .glo "_law_pull", .glo "_law_any", .glo "_law_names", .glo "_law_forest", .glo "_law_up", .glo "_law_uses", .glo "_law_case", .glo "_law_refusal", .glo "_law_said", .glo "_law_word", .glo "_law_row", .glo "_law_tree_lines", .glo "_law_put_due", .glo "_law_taken_due",
  .glo "_law_is_tree", .glo "_law_step_right", .glo "_law_are_equal_right", .glo "_law_are_orders_right", .glo "law"]
def fa : List He.Fa := faA ++ faB ++ faC ++ faD
end K14
end

-- K14Hook
section
set_option maxRecDepth 100000
set_option maxHeartbeats 2000000
/-! what the head is asked for -/
namespace K14
open PySem PySem.Spec PyProof.Rows L2
open PySem.W (Frag)
open PySem.HandSPX (refsVE)
def recHd (K : Frag) (p : Addr) (T : String) : Addr := match PySem.W.recIn K p T with
  | some (.ref g :: _) => g
  | _ => 0
abbrev cTr (K : Frag) : Addr := He.ga K "Tree"
abbrev cNu (K : Frag) : Addr := He.ga K "NotUsable"
abbrev mTr (K : Frag) (m : Str) : Addr := He.ma K (cTr K) m
abbrev gProp (K : Frag) : Addr := recHd K (mTr K "tree") "property"
abbrev gOf (K : Frag) : Addr := recHd K (mTr K "of") "classmethod"
abbrev fNu (K : Frag) : Addr := He.ma K (cNu K) "__init__"
def recB (K : Frag) (p : Addr) (T : String) : Bool := match PySem.W.recIn K p T with
  | some (.ref g :: _) => g == recHd K p T
  | _ => false
theorem recB_ok {K : Frag} {p : Addr} {T : String} (h : recB K p T = true) : ∃ rest, PySem.W.recIn K p T = some (.ref (recHd K p T) :: rest) := by
  unfold recB at h
  cases e : PySem.W.recIn K p T with
  | none => rw [e] at h; cases h
  | some l =>
    cases l with
    | nil => rw [e] at h; cases h
    | cons v l =>
      cases v with
      | ref g =>
        rw [e] at h
        have : g = recHd K p T := beq_iff_eq.mp h
        exact ⟨l, by rw [this]⟩
      | _ => rw [e] at h; cases h
/-- a function at an address, told -/
def fnAt (K : Frag) (g : Addr) : He.FnW := match K.lookup g with
  | some ⟨_, _, .func fd, _⟩ => some (fd.name, fd.qualname, fd.params, fd.body, fd.scope, fd.globals, [], fd.builtins)
  | _ => none
def cloAt (K : Frag) (g : Addr) : List (Str × Addr) := match K.lookup g with
  | some ⟨_, _, .func fd, _⟩ => fd.closure
  | _ => []
def fnB0 (K : Frag) (g : Addr) (qual : Str) : Bool := PySem.W.keepIn K (.ref g) && (match K.lookup g with
  | some ⟨_, _, .func fd, _⟩ => PySem.W.codeIn K fd.code qual && (match fd.defaults with | .none => true | _ => false)
  | _ => false)
def defAt (x qual : Str) (st : Stmt) : He.FnW := some (x, qual, defArgs st, .stmts (defBody st), defScope st, mainGlobals, [], builtinsNs)
def nuClsB (K : Frag) : Bool := match K.lookup (cNu K) with
  | some ⟨.type "type", _, .cls cd, sl⟩ => (match cd.mro, sl.toList with
    | .ref C' :: bm, [_, _, _, _, some (.builtin n), _] => C' == cNu K && n == "ValueError.__new__" && !cd.hasDel && cd.hasDict && refsVE bm && decide (PySem.W.alongIn K "__init__" bm = some (some (.builtin "ValueError.__init__")))
    | _, _ => false)
  | _ => false
def nuFnB (K : Frag) (file : Str) : Bool := match K.lookup (fNu K) with
  | some ⟨_, _, .func fd, _⟩ => (match fd.closure with
    | [(n, cc)] => decide (n = ("__class__" : Str)) && (match K.lookup cc with
      | some ⟨_, _, .cell (some (.ref c)), _⟩ => c == cNu K
      | _ => false)
    | _ => false) && (match fd.code with
    | .ref cda => (match K.lookup cda with
      | some ⟨_, _, .fields vs, _⟩ => (match (vs[2]? : Option Value) with
        | some (.str f _) => file == f
        | _ => false)
      | _ => false)
    | _ => false)
  | _ => false
def facts1 (K : Frag) : List Bool := [
  decide (PySem.W.findIn K (.ref (cTr K)) "__class__" = some (some (.builtin "object.__class__"))),
  decide (PySem.W.specialIn K (.builtin "object.__class__") "__get__" = some (some (.builtin "getset_descriptor.__get__"))),
  decide (PySem.W.takesIn K (.builtin "object.__class__") = some true),
  decide (PySem.W.mroIn K (cTr K) (.type "object") = some true),
  decide (PySem.W.kitOne K (.ref (cTr K)) (.ref (cTr K)) = some true),
  decide (PySem.W.findIn K (.ref (cTr K)) "tree" = some (some (.ref (mTr K "tree")))),
  decide (PySem.W.specialIn K (.ref (mTr K "tree")) "__get__" = some (some (.builtin "property.__get__"))),
  decide (PySem.W.takesIn K (.ref (mTr K "tree")) = some true),
  recB K (mTr K "tree") "property",
  fnB0 K (gProp K) "Tree.tree"]
def cmB (K : Frag) : Bool := match PySem.W.findCls K (.ref (cTr K)) (.type "type") "of" with
  | some (.get (.builtin n) (.ref p) .none (.ref c)) => n == "classmethod.__get__" && (p == mTr K "of" && c == cTr K)
  | _ => false
def facts2 (K : Frag) : List Bool := [
  PySem.W.readsIn K (cTr K) (.type "type"),
  decide (PySem.W.specialIn K (.ref (cTr K)) "__getattribute__" = some (some (.builtin "type.__getattribute__"))),
  cmB K,
  recB K (mTr K "of") "classmethod",
  PySem.W.fnIn K (gOf K),
  fnB0 K (gOf K) "Tree.of",
  PySem.W.selfFirst K (cTr K),
  decide (PySem.W.findIn K (.ref (cTr K)) (dunderR Operator.Add.info.2) = some none),
  decide (PySem.W.findIn K (.ref (cTr K)) (dunderR Operator.Sub.info.2) = some none),
  decide (PySem.W.subIn K (.type "tuple") (.ref (cTr K)) = some false),
  decide (PySem.W.subIn K (.type "str") (.ref (cTr K)) = some false),
  decide (PySem.W.findIn K (.ref (cTr K)) "__ne__" = some (some (.builtin "object.__ne__")))]
def facts3 (K : Frag) : List Bool := [
  decide (PySem.W.findIn K (.ref (cNu K)) "__getattribute__" = some (some (.builtin "BaseException.__getattribute__"))),
  decide (PySem.W.findIn K (.ref (cNu K)) "__getattr__" = some none),
  decide (PySem.W.subIn K (.ref (cNu K)) (.type "BaseException") = some true),
  PySem.W.hasDictIn K (cNu K),
  decide (PySem.W.findIn K (.ref (cNu K)) "__class__" = some (some (.builtin "object.__class__"))),
  decide (PySem.W.mroIn K (cNu K) (.type "object") = some true),
  decide (PySem.W.findIn K (.ref (cNu K)) "word" = some none),
  decide (PySem.W.findIn K (.ref (cNu K)) "at" = some none)]
def facts4 (K : Frag) : List Bool := [
  decide (PySem.W.kitOne K (.ref (cNu K)) (.ref (He.ga K "PaperError")) = some false),
  decide (PySem.W.kitOne K (.ref (cNu K)) (.ref (He.ga K "TreeError")) = some true),
  decide (PySem.W.kitOne K (.ref (cNu K)) (.ref (He.ga K "TextError")) = some false),
  decide (PySem.W.kitOne K (.ref (cNu K)) (.ref (He.ga K "MovingError")) = some false),
  decide (PySem.W.kitOne K (.ref (cNu K)) (.ref (He.ga K "InvalidEvent")) = some false),
  decide (PySem.W.kitOne K (.ref (cNu K)) (.ref (He.ga K "NothingToUndo")) = some false),
  decide (PySem.W.kitOne K (.ref (cNu K)) (.ref (He.ga K "Barred")) = some false),
  decide (PySem.W.kitOne K (.ref (cNu K)) (.ref (He.ga K "InvalidRow")) = some false),
  decide (PySem.W.kitOne K (.ref (cNu K)) (.ref (He.ga K "InvalidPaper")) = some false),
  decide (PySem.W.kitOne K (.ref (cNu K)) (.ref (cNu K)) = some true),
  decide (PySem.W.kitOne K (.ref (cNu K)) (.type "ValueError") = some true),
  decide (PySem.W.exmOne K (.ref (cNu K)) (.ref (He.ga K "RoomError")) = some true)]
def facts5 (K : Frag) (file : Str) : List Bool := [
  nuClsB K,
  decide (PySem.W.findIn K (.ref (cNu K)) "__setattr__" = some (some (.builtin "object.__setattr__"))),
  decide (PySem.W.findIn K (.ref (cNu K)) "__init__" = some (some (.ref (fNu K)))),
  decide (PySem.W.typeIn K (.ref (fNu K)) = some (.type "function")),
  PySem.W.keepIn K (.ref (cNu K)),
  decide (PySem.W.subIn K (.ref (cNu K)) (.type "ValueError") = some true),
  decide (PySem.W.typeIn K (.ref (cNu K)) = some (.type "type")),
  decide (PySem.W.nsIn K cStatics "thirdparty.any" = some none),
  fnB0 K (fNu K) "NotUsable.__init__",
  nuFnB K file]
def faE : List He.Fa := [.glo "PaperError", .glo "TreeError", .glo "TextError", .glo "MovingError", .glo "InvalidEvent", .glo "NothingToUndo", .glo "Barred", .glo "InvalidRow", .glo "InvalidPaper", .glo "RoomError"]
def faN : List He.Fa := fa ++ faE
def allB (K : Frag) (file : Str) : List Bool := facts1 K ++ facts2 K ++ facts3 K ++ facts4 K ++ facts5 K file
abbrev tfN : List He.Defn := [("_law_step_right", none)]
abbrev lawP : Program := PySem.Challenge.pw_roomrings_k14_whole_trees_grown
def KN (g : Addr → Option Obj) : Frag := He.frT g (cStatics :: He.asD g 6)
abbrev AlN : Type := (He.AlT × Bool) × List He.FnW
def toldN (K : Frag) : List He.FnW := [fnAt K (gProp K), fnAt K (gOf K), fnAt K (fNu K)]
def valToldN : List He.FnW := [defAt "tree" "Tree.tree" (sT 4), defAt "of" "Tree.of" (sT 1), defAt "__init__" "NotUsable.__init__" sNuInit]
def obsN (g : Addr → Option Obj) : AlN := ((He.obsT faN fn [] (KN g), (allB (KN g) lawP.main.file).all id && (cloAt (KN g) (gProp (KN g))).isEmpty && (cloAt (KN g) (gOf (KN g))).isEmpty && He.tabsB g tfN (KN g)), toldN (KN g))
def valN (w : World) : AlN := ((He.valT fn [] w, true), valToldN)
/-- what is told -/
structure SaysN (w : World) (h : Heap) (K : Frag) : Prop where
  t : He.SaysT faN fn [] w K
  all : (allB K lawP.main.file).all id = true
  c1 : (cloAt K (gProp K)).isEmpty = true
  c2 : (cloAt K (gOf K)).isEmpty = true
  told : toldN K = valToldN
  hd : ∀ p ∈ tfN, PySem.W.codeHdIn K (He.cT K p).1 (He.cT K p).2 = true
  out : ∀ p ∈ tfN, K.lookup (He.cT K p).2 = none
  empty : ∀ p ∈ tfN, h.get? (He.cT K p).2 = some { cls := .none, data := .fields #[] }
theorem saysN_of {w : World} {h : Heap} (e : obsN h.get? = valN w) : SaysN w h (KN h.get?) := by
  have e1 := congrArg (fun z : AlN => z.1.1) e
  have e2 := congrArg (fun z : AlN => z.1.2) e
  have e3 := congrArg (fun z : AlN => z.2) e
  have e2' : ((allB (KN h.get?) lawP.main.file).all id && (cloAt (KN h.get?) (gProp (KN h.get?))).isEmpty && (cloAt (KN h.get?) (gOf (KN h.get?))).isEmpty && He.tabsB h.get? tfN (KN h.get?)) = true := e2
  rw [Bool.and_eq_true, Bool.and_eq_true, Bool.and_eq_true] at e2'
  obtain ⟨⟨⟨h1, h2⟩, h3⟩, h4⟩ := e2'
  have key : ∀ p ∈ tfN, PySem.W.codeHdIn (KN h.get?) (He.cT (KN h.get?) p).1 (He.cT (KN h.get?) p).2 = true ∧ ∃ o, h.get? (He.cT (KN h.get?) p).2 = some o ∧ He.emptyTab o = true := fun p hp => by
    obtain ⟨h5, h6⟩ := Bool.and_eq_true_iff.mp (List.all_eq_true.mp h4 p hp)
    refine ⟨h5, ?_⟩
    cases q : h.get? (He.cT (KN h.get?) p).2 with
    | none => rw [q] at h6; cases h6
    | some o => rw [q] at h6; exact ⟨o, rfl, h6⟩
  exact ⟨e1, h1, h2, h3, e3, fun p hp => (key p hp).1, fun p hp => by
    obtain ⟨_, o, q, z⟩ := key p hp
    exact He.frT_none q z, fun p hp => by
    obtain ⟨_, o, q, z⟩ := key p hp
    rw [q, He.emptyTab_eq z]⟩
def hookN : PySem.W.Hook where
  α := AlN
  obs := fun s => obsN s.heap.get?
  val := fun w => valN w
  says := fun w h => ∃ K : Frag, K.In h ∧ SaysN w h K
  of := fun _ _ e => ⟨_, He.frT_in, saysN_of e⟩
  keeps := fun _ _ _ ⟨K, hK, c⟩ k => ⟨K, PySem.W.Frag.In.keeps hK k, ⟨c.t, c.all, c.c1, c.c2, c.told, c.hd, c.out, fun p hp => k _ _ (c.empty p hp)⟩⟩
def obHN (s : PySem.W.SharedT) : AlN := obsN (HandSHeadRun.getT s)
theorem obHN_eq (s : PySem.W.SharedT) : obHN s = hookN.obs s.abs := by
  have e : HandSHeadRun.getT s = s.abs.heap.get? := funext (HandSHeadRun.getT_eq s)
  show obsN (HandSHeadRun.getT s) = obsN s.abs.heap.get?
  rw [e]
end K14
end

-- K14End
section
set_option maxRecDepth 100000
set_option maxHeartbeats 2000000
/-! the law called behind the head: nothing is being shown there; one table of code objects -/
namespace K14
open PySem PySem.Spec PyProof.Rows L2 LamX
open PySem.W (Frag)
section
variable {P : Program} {w : World} {K : Frag} {mg mb : Str → Option Value} {k : Nat} {fa a cd Pt : Addr} {fd : FuncData} {x : Str} {sp : Sp} {s₁ : Shared} {vs : List Value} {ns : List Int}
theorem callG (KX : K.In s₁.heap) (hns : s₁.heap.Ns mainGlobals mg) (hb : s₁.heap.Ns builtinsNs mb) (hbb : ∀ x : Str, x ≠ "__name__" → mb x = bootBuiltins x) (hlim : s₁.heap.NoLimit) (hg : s₁.gens = #[])
    (hT : s₁.heap.get? Pt = some { cls := .none, data := .fields #[] }) (nT : K.lookup Pt = none) (C : PySem.W.CodeHd s₁.heap cd Pt)
    (hbm : ∃ (bm : Addr) (ob : Obj), mg "__builtins__" = some (.ref bm) ∧ bm ≠ builtinsNs ∧ s₁.heap.get? bm = some ob ∧ ob.cls = .type "module" ∧ ob.dict = some builtinsNs ∧ ob.data = .plain)
    (ha : s₁.heap.get? a = some { cls := .type "list", data := .seq vs.toArray }) (hi : IntsAre vs ns) (hl : ns.length ≤ sizeLine) (hr : Room k callerA)
    (F : ∀ base : Heap, K.In base → base.Ns mainGlobals mg → TabB base mg cd Pt → FnG P w K mg base CX0 k fa fd [x] sp) (hbind : ∀ (s : Shared) (u : Value), BindsTo s fd ⟨[u], []⟩ [(x, u)])
    (hsp : ∀ H : Hp, H Pt = some (.tbl #[]) → SqL K H a (ns.map V.int) → sp [.ref a] H (fun v _ => v = .bl true) fun _ _ _ => False) :
    codeAny (model P w) callerA (.call (.ref fa) ⟨[.ref a], []⟩) (fun r s' => r = .ok (.ret (.bool true)) ∧ OldK s₁.heap s'.heap ∧ s'.os = s₁.os ∧ AllBare s'.gens) s₁ := by
  have rv := vals_ints hi
  have lenV := hi.length
  have aT : a ≠ Pt := fun z => by
    rw [z, hT] at ha
    have z' : Data.fields #[] = Data.seq vs.toArray _ := congrArg Obj.data (Option.some.inj ha)
    cases z'
  have core : ∀ H : Hp, H Pt = some (.tbl #[]) → (∀ b, H b = none ∨ b = Pt ∨ ∃ o xs, H b = some (.frz o (.lst xs))) → SqL K H a (ns.map V.int) → HOk P w H s₁.heap → (∀ b, H b ≠ none → b = a ∨ b = Pt) → (H a ≠ none → K.lookup a = none) →
      codeAny (model P w) callerA (.call (.ref fa) ⟨[.ref a], []⟩) (fun r s' => r = .ok (.ret (.bool true)) ∧ OldK s₁.heap s'.heap ∧ s'.os = s₁.os ∧ AllBare s'.gens) s₁ := by
    intro H hH hO hS hok hA hK
    have stays : ∀ {b : Addr} {o : Obj}, s₁.heap.get? b = some o → H b = none → (hidT s₁.heap H).get? b = some o := fun e n => hidT_get e n
    have free : ∀ {b : Addr} {o : Obj}, s₁.heap.get? b = some o → (∀ vs n, o.data ≠ .seq vs n) → o.data ≠ .fields #[] → H b = none := fun {b o} e h1 h2 => by
      cases q : H b with
      | none => rfl
      | some u =>
        rcases hA b (by rw [q]; simp) with e' | e'
        · rw [e', ha] at e
          cases e
          exact (h1 _ _ rfl).elim
        · rw [e', hT] at e
          cases e
          exact (h2 rfl).elim
    have freeD : ∀ {b : Addr} {o : Obj} {es : Array DictEntry} {ep : Nat}, s₁.heap.get? b = some o → o.data = .dict es ep → H b = none := fun e d => free e (fun vs n z => by rw [d] at z; cases z) fun z => by rw [d] at z; cases z
    have nsK : ∀ {b : Addr} {m : Str → Option Value}, s₁.heap.Ns b m → (hidT s₁.heap H).Ns b m := fun {b m} ⟨o, es, ep, e, d, r⟩ => ⟨o, es, ep, stays e (freeD e d), d, r⟩
    have kinB : K.In (hidT s₁.heap H) := fun b o e => stays (KX b o e) (by
      cases q : H b with
      | none => rfl
      | some u =>
        rcases hA b (by rw [q]; simp) with e' | e'
        · rw [e'] at e q
          rw [hK (by rw [q]; simp)] at e
          cases e
        · rw [e', nT] at e
          cases e)
    have hM : L2.Mod K mg (hidT s₁.heap H) := ⟨kinB, nsK hns, ⟨mb, nsK hb, hbb⟩, let ⟨mc, h1, h2⟩ := hlim; ⟨mc, nsK h1, h2⟩⟩
    have TB : TabB (hidT s₁.heap H) mg cd Pt := by
      refine ⟨?_, ?_, fun z => ?_⟩
      · obtain ⟨o, us, file, tf, flags, tg, inF, text, tt, e1, r1, r2, r3, r4, r5, r6, r7, r8, hne⟩ := C
        refine ⟨o, us, file, tf, flags, tg, inF, text, tt, stays e1 (free e1 (fun vs n z => ?_) fun z => ?_), r1, r2, r3, r4, r5, r6, r7, r8, hne⟩
        · rw [r2] at z; cases z
        · rw [r2] at z
          cases z
          simp at r3
      · obtain ⟨bm, ob, b1, b2, b3, b4, b5, b6⟩ := hbm
        have nG : bm ≠ mainGlobals := fun q => by
          obtain ⟨o, es, ep, e, hd, _⟩ := hns
          rw [q, e] at b3
          cases b3
          rw [hd] at b6
          cases b6
        have nP : bm ≠ Pt := fun q => by
          rw [q, hT] at b3
          cases b3
          cases b6
        exact ⟨bm, ob, b1, b2, nG, nP, stays b3 (free b3 (fun vs n z => by rw [b6] at z; cases z) fun z => by rw [b6] at z; cases z), b4, b5, b6⟩
      · obtain ⟨o, es, ep, e, hd, _⟩ := hns
        rw [z, hT] at e
        cases e
        cases hd
    have e0 : Env0 P w K mg (hidT s₁.heap H) callerA [] s₁ H := ⟨rfl, hM, fun b o e => of_hidT e, Nat.le_of_eq (hidT_size _ _), trivial, fun b hb => absurd (show b ∈ ([] : List Addr) from hb) (by simp), hok, .of_eq hg⟩
    refine codeAny_mono ((F _ kinB (nsK hns) TB).run callerA [] s₁ H ⟨[.ref a], []⟩ [.ref a] [.ref a] _ _ hr rfl e0 (hbind s₁ (.ref a)) (.cons rfl .nil) (hsp H hH hS)) fun r s' h => ?_
    cases r with
    | error e => exact False.elim h
    | ok fl =>
      cases fl with
      | next => exact False.elim h
      | brk => exact False.elim h
      | cont => exact False.elim h
      | ret u =>
        obtain ⟨v, H', os, bare, un, hok', r', q⟩ := h
        obtain rfl : v = .bl true := q
        obtain rfl : u = Value.bool true := r'
        have key : ∀ b o, b ≠ Pt → s₁.heap.get? b = some o → s'.heap.get? b = some o := fun b o nb e => by
          cases q : H b with
          | none => exact un.keep b o e q (fun z => absurd (show b ∈ ([] : List Addr) from z) (by simp)) (by simp)
          | some u =>
            rcases hO b with z | z | ⟨ob, xs, z⟩
            · rw [q] at z; cases z
            · exact absurd z nb
            · obtain ⟨e1, _⟩ := hok b _ z
              obtain ⟨e2, _⟩ := hok' b _ (un.frzs b ob _ z)
              rw [e] at e1
              cases e1
              exact e2
        obtain ⟨more, zt⟩ := un.tbls Pt #[] hH
        have grown := hok' Pt _ zt
        refine ⟨rfl, ⟨fun b o e => ?_, fun b o e => ?_⟩, os, bare⟩
        · by_cases hb : b = Pt
          · rw [hb] at e ⊢
            rw [hT] at e
            cases e
            exact .inr (.inl ⟨(C.tab hT).isCodeTable, rfl, #[], _, rfl, grown⟩)
          · exact .inl (key b o hb e)
        · by_cases hb : b = Pt
          · rw [hb]
            exact ⟨_, grown⟩
          · exact ⟨o, key b o hb e⟩
  cases hk : K.lookup a with
  | some o =>
    have e := KX a o hk
    rw [ha] at e
    cases e
    refine core (fun b => if b = Pt then some (.tbl #[]) else none) (if_pos rfl) (fun b => ?_) (.inr ⟨_, vs.toArray, _, hk, rfl, rfl, rfl, by rw [List.size_toArray, lenV]; exact hl, by simpa using rv⟩) (fun b u z => ?_) (fun b z => ?_) fun z => absurd (if_neg aT) z
    · by_cases hb : b = Pt
      · exact .inr (.inl hb)
      · exact .inl (if_neg hb)
    · by_cases hb : b = Pt
      · have z' := (if_pos hb).symm.trans z
        cases z'
        rw [hb]
        exact hT
      · have z' := (if_neg hb).symm.trans z
        cases z'
    · by_cases hb : b = Pt
      · exact .inr hb
      · exact absurd (if_neg hb) z
  | none =>
    refine core (fun b => if b = a then some (.frz { cls := .type "list", data := .seq vs.toArray } (.lst (ns.map V.int))) else if b = Pt then some (.tbl #[]) else none) ((if_neg aT.symm).trans (if_pos rfl)) (fun b => ?_)
      (.inl (.inr ⟨{ cls := .type "list", data := .seq vs.toArray }, if_pos rfl⟩)) (fun b u z => ?_) (fun b z => ?_) fun _ => hk
    · by_cases hb : b = a
      · exact .inr (.inr ⟨_, _, if_pos hb⟩)
      · by_cases hb2 : b = Pt
        · exact .inr (.inl hb2)
        · exact .inl ((if_neg hb).trans (if_neg hb2))
    · by_cases hb : b = a
      · have z' := (if_pos hb).symm.trans z
        cases z'
        rw [hb]
        exact ⟨ha, by rw [List.length_map]; exact hl, vs, _, rv, ha⟩
      · have z1 := (if_neg hb).symm.trans z
        by_cases hb2 : b = Pt
        · have z' := (if_pos hb2).symm.trans z1
          cases z'
          rw [hb2]
          exact hT
        · have z' := (if_neg hb2).symm.trans z1
          cases z'
    · by_cases hb : b = a
      · exact .inl hb
      · by_cases hb2 : b = Pt
        · exact .inr hb2
        · exact absurd ((if_neg hb).trans (if_neg hb2)) z
end
/-- what the join gives of the law at the head's heap -/
def LawG (l : PySem.W.OpenLaw) (w : World) (K : Frag) (k n : Nat) (x : Str) (mg : Str → Option Value) (fa : Addr) (h : Heap) : Prop :=
  ∃ (fd : FuncData) (cd Pt : Addr) (sp : Sp), h.get? Pt = some { cls := .none, data := .fields #[] } ∧ K.lookup Pt = none ∧ PySem.W.CodeHd h cd Pt ∧ (∀ (s : Shared) (u : Value), BindsTo s fd ⟨[u], []⟩ [(x, u)]) ∧
    (∀ (H : Hp) (a : Addr) (ns : List Int), ns.length ≤ n → H Pt = some (.tbl #[]) → SqL K H a (ns.map V.int) → sp [.ref a] H (fun v _ => v = .bl true) fun _ _ _ => False) ∧
    ∀ base : Heap, K.In base → base.Ns mainGlobals mg → TabB base mg cd Pt → FnG l.prog w K mg base CX0 k fa fd [x] sp
theorem walkG {l : PySem.W.OpenLaw} {n k : Nat} {q : Program} {loose : List Str} {XP : (Str → Option Value) → Heap → Prop} {YP : World → Heap → Prop} {d : DefRec} {x : Str}
    (hn : l.most = some n) (hn2 : n ≤ sizeLine) (hdf : d.params.defaults = []) (hr : Room k callerA)
    (F : ∀ (w : World) (mg : Str → Option Value) (fa : Addr) (h : Heap), YP w h → h.Ns mainGlobals mg → mg d.name = some (.ref fa) → ∃ K : Frag, K.In h ∧ LawG l w K k n x mg fa h) :
    PySem.W.WalkO q loose XP YP l.row.toRowW d [] (fun f vs => PySem.call f vs) := by
  refine Att.attach_callB hn hdf fun w s₀ s₁ mg mb fa o pm cd doc a vs ns G Y ho hd hcd hmg hobj hints hlen hbits hg => ?_
  obtain ⟨K, KX, fd, cdd, Pt, sp, hT, nT, C, hb, hsp, hF⟩ := F w mg fa _ Y G.T.g hmg
  exact callG KX G.T.g G.T.b G.T.builtins G.T.nolimit hg hT nT C G.T.bmain hobj hints (Nat.le_trans hlen hn2) hr hF hb fun H hH hS => hsp H a ns hlen hH hS
end K14
end

-- K14Join
section
set_option maxRecDepth 100000
set_option maxHeartbeats 4000000
/-! from what the head tells to the law's promise -/
namespace K14
open PySem PySem.Spec PyProof.Rows L2
open PySem.W (Frag)
open PySem.HandSPX (refsVE)
section
variable {K : Frag}
theorem funAt {g : Addr} {x qual : Str} {st : Stmt} (e : fnAt K g = defAt x qual st) (b : fnB0 K g qual = true) (c : (cloAt K g).isEmpty = true) : ∃ fd, FunD K x qual (defArgs st) (defBody st) (defScope st) [] [] g fd := by
  obtain ⟨kp, b2⟩ := Bool.and_eq_true_iff.mp b
  unfold fnAt defAt at e
  unfold cloAt at c
  cases q : K.lookup g with
  | none =>
    rw [q] at b2
    cases b2
  | some o =>
    obtain ⟨oc, od, dt, osl⟩ := o
    rw [q] at b2 e c
    cases dt with
    | func fd =>
      obtain ⟨n1, n2, n3, n4, n5, n6, n7, n8, n9, n10, n11, n12, n13, n14, n15⟩ := fd
      have e2 : (some (n1, n2, n3, n4, n5, n6, ([] : List (Str × Addr)), n15) : He.FnW) = some (x, qual, defArgs st, .stmts (defBody st), defScope st, mainGlobals, [], builtinsNs) := e
      simp only [Option.some.injEq, Prod.mk.injEq] at e2
      obtain ⟨h1, h2, h3, h4, h5, h6, _, h8⟩ := e2
      subst h1 h2 h3 h4 h5 h6 h8
      have c2 : n7.isEmpty = true := c
      have c3 : n7 = [] := List.isEmpty_iff.mp c2
      subst c3
      have k12 : PySem.W.codeIn K n13 n2 = true ∧ n8 = .none := by
        clear q e c
        cases n8 with
        | none => exact ⟨(Bool.and_eq_true_iff.mp (show (PySem.W.codeIn K n13 n2 && true) = true from b2)).1, rfl⟩
        | _ => exact absurd (Bool.and_eq_true_iff.mp (show (PySem.W.codeIn K n13 n2 && false) = true from b2)).2 Bool.false_ne_true
      obtain ⟨k1, k3⟩ := k12
      subst k3
      exact ⟨_, ⟨oc, od, .none, n9, n10, n11, n12, n13, n14, osl, rfl, q, k1, .inl ⟨rfl, rfl⟩, .inl rfl⟩, kp⟩
    | _ => cases b2
theorem nuCls_ok (h : nuClsB K = true) : ∃ nm q N bs bm sn sub ab col dd k0 k1 k2 k3 k5, K.lookup (cNu K) = some (excClassObj nm q (cNu K) N bs bm true sn sub ab col dd k0 k1 k2 k3 k5 "ValueError.__new__") ∧ refsVE bm = true ∧ PySem.W.alongIn K "__init__" bm = some (some (.builtin "ValueError.__init__")) := by
  unfold nuClsB at h
  split at h
  · rename_i dd cd sl ho
    split at h
    · rename_i C' bm k0 k1 k2 k3 n k5 hm hs
      simp only [Bool.and_eq_true, beq_iff_eq, Bool.not_eq_true', decide_eq_true_eq] at h
      obtain ⟨⟨⟨⟨⟨rfl, rfl⟩, hdel⟩, hdict⟩, hb⟩, hal⟩ := h
      obtain ⟨nm, bs, mro, ns, qn, hd, sn, sub, ab, col, del⟩ := cd
      dsimp only at hm hdel hdict
      subst hm hdel hdict
      have hsl : sl = #[k0, k1, k2, k3, some (.builtin "ValueError.__new__"), k5] := by
        obtain ⟨l⟩ := sl
        simp only at hs
        rw [hs]
      subst hsl
      exact ⟨nm, qn, ns, bs, bm, sn, sub, ab, col, dd, k0, k1, k2, k3, k5, ho, hb, hal⟩
    · cases h
  · cases h
theorem nuFn_ok {base : Heap} (X : K.In base) (e : fnAt K (fNu K) = defAt "__init__" "NotUsable.__init__" sNuInit) (b : fnB0 K (fNu K) "NotUsable.__init__" = true) (h : nuFnB K lawP.main.file = true) :
    ∃ (oc : Value) (od : Option Addr) (doc pm ct kV : Value) (an : Option Addr) (cda cc : Addr) (osl : Array (Option Value)),
    K.lookup (fNu K) = some ⟨oc, od, .func (PySem.W.fnX "__init__" "NotUsable.__init__" (defArgs sNuInit) (defBody sNuInit) (defScope sNuInit) [("__class__", cc)] .none kV doc pm an (.ref cda) ct), osl⟩ ∧
    PySem.W.codeIn K (.ref cda) "NotUsable.__init__" = true ∧
    (∃ cl cld csl, base.get? cc = some ⟨cl, cld, .cell (some (.ref (cNu K))), csl⟩) ∧
    (∃ ccl cdd vs ccs file tf, base.get? cda = some ⟨ccl, cdd, .fields vs, ccs⟩ ∧ vs[2]? = some (.str file tf) ∧ ((lawP.main.file : Str) == file) = true) := by
  obtain ⟨kp, b2⟩ := Bool.and_eq_true_iff.mp b
  unfold fnAt defAt at e
  unfold nuFnB at h
  cases q : K.lookup (fNu K) with
  | none =>
    rw [q] at b2
    cases b2
  | some o =>
    obtain ⟨oc, od, dt, osl⟩ := o
    rw [q] at b2 e h
    cases dt with
    | func fd =>
      obtain ⟨n1, n2, n3, n4, n5, n6, n7, n8, n9, n10, n11, n12, n13, n14, n15⟩ := fd
      have e2 : (some (n1, n2, n3, n4, n5, n6, ([] : List (Str × Addr)), n15) : He.FnW) = some (("__init__" : Str), ("NotUsable.__init__" : Str), defArgs sNuInit, FuncBody.stmts (defBody sNuInit), defScope sNuInit, mainGlobals, ([] : List (Str × Addr)), builtinsNs) := e
      simp only [Option.some.injEq, Prod.mk.injEq] at e2
      obtain ⟨h1, h2, h3, h4, h5, h6, _, h8⟩ := e2
      subst h1 h2 h3 h4 h5 h6 h8
      have k12 : PySem.W.codeIn K n13 ("NotUsable.__init__" : Str) = true ∧ n8 = .none := by
        clear q e h
        cases n8 with
        | none => exact ⟨(Bool.and_eq_true_iff.mp (show (PySem.W.codeIn K n13 ("NotUsable.__init__" : Str) && true) = true from b2)).1, rfl⟩
        | _ => exact absurd (Bool.and_eq_true_iff.mp (show (PySem.W.codeIn K n13 ("NotUsable.__init__" : Str) && false) = true from b2)).2 Bool.false_ne_true
      obtain ⟨k1, k3⟩ := k12
      subst k3
      obtain ⟨g1, g2⟩ := Bool.and_eq_true_iff.mp h
      clear e b2 h
      dsimp only at g1 g2
      split at g1
      · rename_i n cc
        obtain ⟨gn, gc⟩ := Bool.and_eq_true_iff.mp g1
        have gn' := of_decide_eq_true gn
        subst gn'
        split at gc
        · rename_i cl cld c0 csl hcc
          have ec : c0 = cNu K := beq_iff_eq.mp gc
          subst ec
          split at g2
          · rename_i cda
            split at g2
            · rename_i ccl cdd vs ccs hcd
              split at g2
              · rename_i f tf hf
                exact ⟨oc, od, n10, n11, n14, n9, n12, cda, cc, osl, rfl, k1, ⟨_, _, _, X _ _ hcc⟩, ⟨_, _, _, _, f, tf, X _ _ hcd, hf, g2⟩⟩
              · cases g2
            · cases g2
          · cases g2
        · cases gc
      · cases g1
    | _ => cases b2
end
end K14
end

-- K14Join2
section
set_option maxRecDepth 100000
set_option maxHeartbeats 8000000
/-! the join (these lines were printed by a program) -/
namespace K14
open PySem PySem.Spec PyProof.Rows L2
open PySem.W (Frag)
section
variable {P : Program} {w : World} {K : Frag} {mg : Str → Option Value} {base : Heap}
theorem raw0 {CX : CXT} {k : Nat} {f : Addr} {fd : FuncData} {ps : List Str} {sp : Sp} (F : FnOk P w K mg base CX k f fd ps sp) (b : Binds K fd ps []) : FnR P w K mg base CX k f sp := by
  have h := F.raw b .nil
  simpa only [List.append_nil] using h
theorem dn0 {CX : CXT} {k : Nat} {x : Str} {f : Addr} {fd : FuncData} {ps : List Str} {sp : Sp} (g : mg x = some (.ref f)) (kp : PySem.W.keepIn K (.ref f) = true) (F : FnOk P w K mg base CX k f fd ps sp) (b : Binds K fd ps []) : Dn P w K mg base CX k x [] sp :=
  ⟨⟨f, fd, ps, [], g, kp, F, b, .nil⟩⟩
theorem dnG {CX : CXT} {k : Nat} {x : Str} {f : Addr} {fd : FuncData} {ps : List Str} {sp : Sp} (g : mg x = some (.ref f)) (kp : PySem.W.keepIn K (.ref f) = true) (F : FnG P w K mg base CX k f fd ps sp) (b : Binds K fd ps []) : DnG P w K mg base CX k x sp := ⟨⟨f, fd, ps, g, kp, F, b⟩⟩
theorem dnX {k : Nat} {x : Str} {f : Addr} {fd : FuncData} {ps : List Str} {sp : Addr × Obj → Sp} (g : mg x = some (.ref f)) (kp : PySem.W.keepIn K (.ref f) = true) (F : FnX P w K mg base k f fd ps sp) (b : Binds K fd ps []) : DnX P w K mg base k x sp := ⟨⟨f, fd, ps, g, kp, F, b⟩⟩
/-- its code object, told -/
theorem funC {x : Str} {st : Stmt} {f : Addr} {fd : FuncData} (F : FnP K x st f fd) : ∃ c, FunC K x st f fd c ∧ (match K.lookup f with | some ⟨_, _, .func fd, _⟩ => fd.code | _ => .none) = .ref c := by
  obtain ⟨oc, od, dV, kV, doc, pm, an, cdv, ct, osl, rfl, lk, hcd, _, _⟩ := F.ex
  obtain ⟨c, rfl⟩ := He.codeIn_ref hcd
  refine ⟨c, ⟨oc, od, dV, kV, doc, pm, an, ct, osl, rfl, lk, hcd⟩, ?_⟩
  rw [lk]
end
theorem join {w : World} {h : Heap} {K : Frag} {mg : Str → Option Value} {fa : Addr} (X : K.In h) (G : h.Ns mainGlobals mg) (hmg : mg ("law" : Str) = some (.ref fa)) (c : SaysN w h K) : LawG PySem.Challenge.rw_roomrings_k14_whole_trees_grown w K 12 63 "_law_script" mg fa h := by
  have at_ : ∀ (i : Nat) (b : Bool), (allB K lawP.main.file)[i]? = some b → b = true := fun i b e => List.all_eq_true.mp c.all b (List.mem_of_getElem? e)
  have D := c.t.d
  have g_is_integer : mg ("is_integer" : Str) = some (.ref (He.ga K "is_integer")) := He.glo_ok X G (D.fact 34 (f := .glo "is_integer") rfl)
  have g_is_number : mg ("is_number" : Str) = some (.ref (He.ga K "is_number")) := He.glo_ok X G (D.fact 35 (f := .glo "is_number") rfl)
  have g_is_name : mg ("is_name" : Str) = some (.ref (He.ga K "is_name")) := He.glo_ok X G (D.fact 36 (f := .glo "is_name") rfl)
  have g_is_spot : mg ("is_spot" : Str) = some (.ref (He.ga K "is_spot")) := He.glo_ok X G (D.fact 37 (f := .glo "is_spot") rfl)
  have g_is_triple : mg ("is_triple" : Str) = some (.ref (He.ga K "is_triple")) := He.glo_ok X G (D.fact 38 (f := .glo "is_triple") rfl)
  have g_is_folder : mg ("is_folder" : Str) = some (.ref (He.ga K "is_folder")) := He.glo_ok X G (D.fact 39 (f := .glo "is_folder") rfl)
  have g_names_in : mg ("names_in" : Str) = some (.ref (He.ga K "names_in")) := He.glo_ok X G (D.fact 40 (f := .glo "names_in") rfl)
  have g_parents_by : mg ("parents_by" : Str) = some (.ref (He.ga K "parents_by")) := He.glo_ok X G (D.fact 41 (f := .glo "parents_by") rfl)
  have g_first_ringed : mg ("first_ringed" : Str) = some (.ref (He.ga K "first_ringed")) := He.glo_ok X G (D.fact 42 (f := .glo "first_ringed") rfl)
  have g_first_unparented : mg ("first_unparented" : Str) = some (.ref (He.ga K "first_unparented")) := He.glo_ok X G (D.fact 43 (f := .glo "first_unparented") rfl)
  have g_tree_fault : mg ("tree_fault" : Str) = some (.ref (He.ga K "tree_fault")) := He.glo_ok X G (D.fact 44 (f := .glo "tree_fault") rfl)
  have g_want : mg ("want" : Str) = some (.ref (He.ga K "want")) := He.glo_ok X G (D.fact 45 (f := .glo "want") rfl)
  have g_want_tree : mg ("want_tree" : Str) = some (.ref (He.ga K "want_tree")) := He.glo_ok X G (D.fact 46 (f := .glo "want_tree") rfl)
  have g_is_folder_of : mg ("is_folder_of" : Str) = some (.ref (He.ga K "is_folder_of")) := He.glo_ok X G (D.fact 47 (f := .glo "is_folder_of") rfl)
  have g_want_folder : mg ("want_folder" : Str) = some (.ref (He.ga K "want_folder")) := He.glo_ok X G (D.fact 48 (f := .glo "want_folder") rfl)
  have g_spot_word : mg ("spot_word" : Str) = some (.ref (He.ga K "spot_word")) := He.glo_ok X G (D.fact 49 (f := .glo "spot_word") rfl)
  have g_tree_text : mg ("tree_text" : Str) = some (.ref (He.ga K "tree_text")) := He.glo_ok X G (D.fact 50 (f := .glo "tree_text") rfl)
  have g_lets_tree : mg ("lets_tree" : Str) = some (.ref (He.ga K "lets_tree")) := He.glo_ok X G (D.fact 51 (f := .glo "lets_tree") rfl)
  have g_law_spool : mg ("_law_spool" : Str) = some (.ref (He.ga K "_law_spool")) := He.glo_ok X G (D.fact 52 (f := .glo "_law_spool") rfl)
  have g_law_pull : mg ("_law_pull" : Str) = some (.ref (He.ga K "_law_pull")) := He.glo_ok X G (D.fact 53 (f := .glo "_law_pull") rfl)
  have g_law_any : mg ("_law_any" : Str) = some (.ref (He.ga K "_law_any")) := He.glo_ok X G (D.fact 54 (f := .glo "_law_any") rfl)
  have g_law_names : mg ("_law_names" : Str) = some (.ref (He.ga K "_law_names")) := He.glo_ok X G (D.fact 55 (f := .glo "_law_names") rfl)
  have g_law_forest : mg ("_law_forest" : Str) = some (.ref (He.ga K "_law_forest")) := He.glo_ok X G (D.fact 56 (f := .glo "_law_forest") rfl)
  have g_law_up : mg ("_law_up" : Str) = some (.ref (He.ga K "_law_up")) := He.glo_ok X G (D.fact 57 (f := .glo "_law_up") rfl)
  have g_law_uses : mg ("_law_uses" : Str) = some (.ref (He.ga K "_law_uses")) := He.glo_ok X G (D.fact 58 (f := .glo "_law_uses") rfl)
  have g_law_case : mg ("_law_case" : Str) = some (.ref (He.ga K "_law_case")) := He.glo_ok X G (D.fact 59 (f := .glo "_law_case") rfl)
  have g_law_refusal : mg ("_law_refusal" : Str) = some (.ref (He.ga K "_law_refusal")) := He.glo_ok X G (D.fact 60 (f := .glo "_law_refusal") rfl)
  have g_law_said : mg ("_law_said" : Str) = some (.ref (He.ga K "_law_said")) := He.glo_ok X G (D.fact 61 (f := .glo "_law_said") rfl)
  have g_law_word : mg ("_law_word" : Str) = some (.ref (He.ga K "_law_word")) := He.glo_ok X G (D.fact 62 (f := .glo "_law_word") rfl)
  have g_law_row : mg ("_law_row" : Str) = some (.ref (He.ga K "_law_row")) := He.glo_ok X G (D.fact 63 (f := .glo "_law_row") rfl)
  have g_law_tree_lines : mg ("_law_tree_lines" : Str) = some (.ref (He.ga K "_law_tree_lines")) := He.glo_ok X G (D.fact 64 (f := .glo "_law_tree_lines") rfl)
  have g_law_put_due : mg ("_law_put_due" : Str) = some (.ref (He.ga K "_law_put_due")) := He.glo_ok X G (D.fact 65 (f := .glo "_law_put_due") rfl)
  have g_law_taken_due : mg ("_law_taken_due" : Str) = some (.ref (He.ga K "_law_taken_due")) := He.glo_ok X G (D.fact 66 (f := .glo "_law_taken_due") rfl)
  have g_law_is_tree : mg ("_law_is_tree" : Str) = some (.ref (He.ga K "_law_is_tree")) := He.glo_ok X G (D.fact 67 (f := .glo "_law_is_tree") rfl)
  have g_law_step_right : mg ("_law_step_right" : Str) = some (.ref (He.ga K "_law_step_right")) := He.glo_ok X G (D.fact 68 (f := .glo "_law_step_right") rfl)
  have g_law_are_equal_right : mg ("_law_are_equal_right" : Str) = some (.ref (He.ga K "_law_are_equal_right")) := He.glo_ok X G (D.fact 69 (f := .glo "_law_are_equal_right") rfl)
  have g_law_are_orders_right : mg ("_law_are_orders_right" : Str) = some (.ref (He.ga K "_law_are_orders_right")) := He.glo_ok X G (D.fact 70 (f := .glo "_law_are_orders_right") rfl)
  have g_law : mg ("law" : Str) = some (.ref (He.ga K "law")) := He.glo_ok X G (D.fact 71 (f := .glo "law") rfl)
  have gTree : mg ("Tree" : Str) = some (.ref (cTr K)) := He.glo_ok X G (D.fact 22 (f := .glo "Tree") rfl)
  have gNu : mg ("NotUsable" : Str) = some (.ref (cNu K)) := He.glo_ok X G (D.fact 23 (f := .glo "NotUsable") rfl)
  have gPaperError : mg ("PaperError" : Str) = some (.ref (He.ga K "PaperError")) := He.glo_ok X G (D.fact 72 (f := .glo "PaperError") rfl)
  have gTreeError : mg ("TreeError" : Str) = some (.ref (He.ga K "TreeError")) := He.glo_ok X G (D.fact 73 (f := .glo "TreeError") rfl)
  have gTextError : mg ("TextError" : Str) = some (.ref (He.ga K "TextError")) := He.glo_ok X G (D.fact 74 (f := .glo "TextError") rfl)
  have gMovingError : mg ("MovingError" : Str) = some (.ref (He.ga K "MovingError")) := He.glo_ok X G (D.fact 75 (f := .glo "MovingError") rfl)
  have gInvalidEvent : mg ("InvalidEvent" : Str) = some (.ref (He.ga K "InvalidEvent")) := He.glo_ok X G (D.fact 76 (f := .glo "InvalidEvent") rfl)
  have gNothingToUndo : mg ("NothingToUndo" : Str) = some (.ref (He.ga K "NothingToUndo")) := He.glo_ok X G (D.fact 77 (f := .glo "NothingToUndo") rfl)
  have gBarred : mg ("Barred" : Str) = some (.ref (He.ga K "Barred")) := He.glo_ok X G (D.fact 78 (f := .glo "Barred") rfl)
  have gInvalidRow : mg ("InvalidRow" : Str) = some (.ref (He.ga K "InvalidRow")) := He.glo_ok X G (D.fact 79 (f := .glo "InvalidRow") rfl)
  have gInvalidPaper : mg ("InvalidPaper" : Str) = some (.ref (He.ga K "InvalidPaper")) := He.glo_ok X G (D.fact 80 (f := .glo "InvalidPaper") rfl)
  have gRoomError : mg ("RoomError" : Str) = some (.ref (He.ga K "RoomError")) := He.glo_ok X G (D.fact 81 (f := .glo "RoomError") rfl)
  obtain ⟨d_is_integer, F_is_integer⟩ := D.def_ 0 (d := dF "is_integer" 17) rfl
  obtain ⟨d_is_number, F_is_number⟩ := D.def_ 1 (d := dF "is_number" 18) rfl
  obtain ⟨d_is_name, F_is_name⟩ := D.def_ 2 (d := dF "is_name" 19) rfl
  obtain ⟨d_is_spot, F_is_spot⟩ := D.def_ 3 (d := dF "is_spot" 20) rfl
  obtain ⟨d_is_triple, F_is_triple⟩ := D.def_ 4 (d := dF "is_triple" 21) rfl
  obtain ⟨d_is_folder, F_is_folder⟩ := D.def_ 5 (d := dF "is_folder" 22) rfl
  obtain ⟨d_names_in, F_names_in⟩ := D.def_ 6 (d := dF "names_in" 24) rfl
  obtain ⟨d_parents_by, F_parents_by⟩ := D.def_ 7 (d := dF "parents_by" 25) rfl
  obtain ⟨d_first_ringed, F_first_ringed⟩ := D.def_ 8 (d := dF "first_ringed" 28) rfl
  obtain ⟨d_first_unparented, F_first_unparented⟩ := D.def_ 9 (d := dF "first_unparented" 29) rfl
  obtain ⟨d_tree_fault, F_tree_fault⟩ := D.def_ 10 (d := dF "tree_fault" 30) rfl
  obtain ⟨d_want, F_want⟩ := D.def_ 11 (d := ⟨("want", none), "want", "want", defArgs (top 32), defBody (top 32), defScope (top 32), [.int (-1)], []⟩) rfl
  obtain ⟨d_want_tree, F_want_tree⟩ := D.def_ 12 (d := dF "want_tree" 33) rfl
  obtain ⟨d_is_folder_of, F_is_folder_of⟩ := D.def_ 13 (d := dF "is_folder_of" 34) rfl
  obtain ⟨d_want_folder, F_want_folder⟩ := D.def_ 14 (d := dF "want_folder" 35) rfl
  obtain ⟨d_spot_word, F_spot_word⟩ := D.def_ 15 (d := dF "spot_word" 38) rfl
  obtain ⟨d_tree_text, F_tree_text⟩ := D.def_ 16 (d := dF "tree_text" 39) rfl
  obtain ⟨d_lets_tree, F_lets_tree⟩ := D.def_ 17 (d := dF "lets_tree" 53) rfl
  obtain ⟨d_init, F_init⟩ := D.def_ 18 (d := dM "__init__" 0) rfl
  obtain ⟨d_add, F_add⟩ := D.def_ 19 (d := dM "__add__" 6) rfl
  obtain ⟨d_sub, F_sub⟩ := D.def_ 20 (d := dM "__sub__" 7) rfl
  obtain ⟨d_iter, F_iter⟩ := D.def_ 21 (d := dM "__iter__" 9) rfl
  obtain ⟨d_len, F_len⟩ := D.def_ 22 (d := dM "__len__" 11) rfl
  obtain ⟨d_eq, F_eq⟩ := D.def_ 23 (d := dM "__eq__" 12) rfl
  obtain ⟨d_str, F_str⟩ := D.def_ 24 (d := dM "__str__" 13) rfl
  obtain ⟨d_law_spool, F_law_spool⟩ := D.def_ 25 (d := dF "_law_spool" 55) rfl
  obtain ⟨d_law_pull, F_law_pull⟩ := D.def_ 26 (d := dF "_law_pull" 56) rfl
  obtain ⟨d_law_any, F_law_any⟩ := D.def_ 27 (d := dF "_law_any" 57) rfl
  obtain ⟨d_law_names, F_law_names⟩ := D.def_ 28 (d := dF "_law_names" 58) rfl
  obtain ⟨d_law_forest, F_law_forest⟩ := D.def_ 29 (d := dF "_law_forest" 59) rfl
  obtain ⟨d_law_up, F_law_up⟩ := D.def_ 30 (d := dF "_law_up" 60) rfl
  obtain ⟨d_law_uses, F_law_uses⟩ := D.def_ 31 (d := dF "_law_uses" 61) rfl
  obtain ⟨d_law_case, F_law_case⟩ := D.def_ 32 (d := dF "_law_case" 62) rfl
  obtain ⟨d_law_refusal, F_law_refusal⟩ := D.def_ 33 (d := dF "_law_refusal" 63) rfl
  obtain ⟨d_law_said, F_law_said⟩ := D.def_ 34 (d := dF "_law_said" 64) rfl
  obtain ⟨d_law_word, F_law_word⟩ := D.def_ 35 (d := dF "_law_word" 65) rfl
  obtain ⟨d_law_row, F_law_row⟩ := D.def_ 36 (d := dF "_law_row" 66) rfl
  obtain ⟨d_law_tree_lines, F_law_tree_lines⟩ := D.def_ 37 (d := dF "_law_tree_lines" 67) rfl
  obtain ⟨d_law_put_due, F_law_put_due⟩ := D.def_ 38 (d := dF "_law_put_due" 68) rfl
  obtain ⟨d_law_taken_due, F_law_taken_due⟩ := D.def_ 39 (d := dF "_law_taken_due" 69) rfl
  obtain ⟨d_law_is_tree, F_law_is_tree⟩ := D.def_ 40 (d := dF "_law_is_tree" 70) rfl
  obtain ⟨d_law_step_right, F_law_step_right⟩ := D.def_ 41 (d := dF "_law_step_right" 71) rfl
  obtain ⟨d_law_are_equal_right, F_law_are_equal_right⟩ := D.def_ 42 (d := dF "_law_are_equal_right" 72) rfl
  obtain ⟨d_law_are_orders_right, F_law_are_orders_right⟩ := D.def_ 43 (d := dF "_law_are_orders_right" 73) rfl
  obtain ⟨d_law, F_law⟩ := D.def_ 44 (d := dF "law" 74) rfl
  have B_is_integer := FunD.bindsN (ps := ["thing"]) F_is_integer fun _ _ _ _ _ _ us hl => match us, hl with | [_], _ => rfl
  have B_is_number := FunD.bindsN (ps := ["thing"]) F_is_number fun _ _ _ _ _ _ us hl => match us, hl with | [_], _ => rfl
  have B_is_name := FunD.bindsN (ps := ["thing"]) F_is_name fun _ _ _ _ _ _ us hl => match us, hl with | [_], _ => rfl
  have B_is_spot := FunD.bindsN (ps := ["thing"]) F_is_spot fun _ _ _ _ _ _ us hl => match us, hl with | [_], _ => rfl
  have B_is_triple := FunD.bindsN (ps := ["thing"]) F_is_triple fun _ _ _ _ _ _ us hl => match us, hl with | [_], _ => rfl
  have B_is_folder := FunD.bindsN (ps := ["thing"]) F_is_folder fun _ _ _ _ _ _ us hl => match us, hl with | [_], _ => rfl
  have B_names_in := FunD.bindsN (ps := ["tree"]) F_names_in fun _ _ _ _ _ _ us hl => match us, hl with | [_], _ => rfl
  have B_parents_by := FunD.bindsN (ps := ["tree"]) F_parents_by fun _ _ _ _ _ _ us hl => match us, hl with | [_], _ => rfl
  have B_first_ringed := FunD.bindsN (ps := ["tree"]) F_first_ringed fun _ _ _ _ _ _ us hl => match us, hl with | [_], _ => rfl
  have B_first_unparented := FunD.bindsN (ps := ["tree"]) F_first_unparented fun _ _ _ _ _ _ us hl => match us, hl with | [_], _ => rfl
  have B_tree_fault := FunD.bindsN (ps := ["thing"]) F_tree_fault fun _ _ _ _ _ _ us hl => match us, hl with | [_], _ => rfl
  have B_want_tree := FunD.bindsN (ps := ["tree"]) F_want_tree fun _ _ _ _ _ _ us hl => match us, hl with | [_], _ => rfl
  have B_is_folder_of := FunD.bindsN (ps := ["tree", "thing"]) F_is_folder_of fun _ _ _ _ _ _ us hl => match us, hl with | [_, _], _ => rfl
  have B_want_folder := FunD.bindsN (ps := ["tree", "folder"]) F_want_folder fun _ _ _ _ _ _ us hl => match us, hl with | [_, _], _ => rfl
  have B_spot_word := FunD.bindsN (ps := ["spot"]) F_spot_word fun _ _ _ _ _ _ us hl => match us, hl with | [_], _ => rfl
  have B_tree_text := FunD.bindsN (ps := ["tree"]) F_tree_text fun _ _ _ _ _ _ us hl => match us, hl with | [_], _ => rfl
  have B_lets_tree := FunD.bindsN (ps := ["thing"]) F_lets_tree fun _ _ _ _ _ _ us hl => match us, hl with | [_], _ => rfl
  have B_add := FunD.bindsN (ps := ["self", "row"]) F_add fun _ _ _ _ _ _ us hl => match us, hl with | [_, _], _ => rfl
  have B_sub := FunD.bindsN (ps := ["self", "folder"]) F_sub fun _ _ _ _ _ _ us hl => match us, hl with | [_, _], _ => rfl
  have B_iter := FunD.bindsN (ps := ["self"]) F_iter fun _ _ _ _ _ _ us hl => match us, hl with | [_], _ => rfl
  have B_len := FunD.bindsN (ps := ["self"]) F_len fun _ _ _ _ _ _ us hl => match us, hl with | [_], _ => rfl
  have B_eq := FunD.bindsN (ps := ["self", "other"]) F_eq fun _ _ _ _ _ _ us hl => match us, hl with | [_, _], _ => rfl
  have B_str := FunD.bindsN (ps := ["self"]) F_str fun _ _ _ _ _ _ us hl => match us, hl with | [_], _ => rfl
  have B_law_spool := FunD.bindsN (ps := ["_law_script"]) F_law_spool fun _ _ _ _ _ _ us hl => match us, hl with | [_], _ => rfl
  have B_law_pull := FunD.bindsN (ps := ["_law_spool_here", "_law_many"]) F_law_pull fun _ _ _ _ _ _ us hl => match us, hl with | [_, _], _ => rfl
  have B_law_any := FunD.bindsN (ps := ["_law_spool_here", "_law_rows"]) F_law_any fun _ _ _ _ _ _ us hl => match us, hl with | [_, _], _ => rfl
  have B_law_names := FunD.bindsN (ps := ["_law_spool_here"]) F_law_names fun _ _ _ _ _ _ us hl => match us, hl with | [_], _ => rfl
  have B_law_forest := FunD.bindsN (ps := ["_law_spool_here", "_law_names_here"]) F_law_forest fun _ _ _ _ _ _ us hl => match us, hl with | [_, _], _ => rfl
  have B_law_up := FunD.bindsN (ps := ["_law_pairs", "_law_place"]) F_law_up fun _ _ _ _ _ _ us hl => match us, hl with | [_, _], _ => rfl
  have B_law_uses := FunD.bindsN (ps := ["_law_pairs", "_law_load", "_law_label"]) F_law_uses fun _ _ _ _ _ _ us hl => match us, hl with | [_, _, _], _ => rfl
  have B_law_case := FunD.bindsN (ps := ["_law_spool_here", "_law_most"]) F_law_case fun _ _ _ _ _ _ us hl => match us, hl with | [_, _], _ => rfl
  have B_law_refusal := FunD.bindsN (ps := ["_law_e"]) F_law_refusal fun _ _ _ _ _ _ us hl => match us, hl with | [_], _ => rfl
  have B_law_said := FunD.bindsN (ps := ["_law_ask"]) F_law_said fun _ _ _ _ _ _ us hl => match us, hl with | [_], _ => rfl
  have B_law_word := FunD.bindsN (ps := ["_law_place"]) F_law_word fun _ _ _ _ _ _ us hl => match us, hl with | [_], _ => rfl
  have B_law_row := FunD.bindsN (ps := ["_law_row_here"]) F_law_row fun _ _ _ _ _ _ us hl => match us, hl with | [_], _ => rfl
  have B_law_tree_lines := FunD.bindsN (ps := ["_law_plan"]) F_law_tree_lines fun _ _ _ _ _ _ us hl => match us, hl with | [_], _ => rfl
  have B_law_put_due := FunD.bindsN (ps := ["_law_rows", "_law_row_here"]) F_law_put_due fun _ _ _ _ _ _ us hl => match us, hl with | [_, _], _ => rfl
  have B_law_taken_due := FunD.bindsN (ps := ["_law_rows", "_law_label"]) F_law_taken_due fun _ _ _ _ _ _ us hl => match us, hl with | [_, _], _ => rfl
  have B_law_is_tree := FunD.bindsN (ps := ["_law_one", "_law_rows"]) F_law_is_tree fun _ _ _ _ _ _ us hl => match us, hl with | [_, _], _ => rfl
  have B_law_step_right := FunD.bindsN (ps := ["_law_spool_here", "_law_names_here", "_law_one", "_law_rows"]) F_law_step_right fun _ _ _ _ _ _ us hl => match us, hl with | [_, _, _, _], _ => rfl
  have B_law_are_equal_right := FunD.bindsN (ps := ["_law_trees"]) F_law_are_equal_right fun _ _ _ _ _ _ us hl => match us, hl with | [_], _ => rfl
  have B_law_are_orders_right := FunD.bindsN (ps := ["_law_spool_here", "_law_names_here"]) F_law_are_orders_right fun _ _ _ _ _ _ us hl => match us, hl with | [_, _], _ => rfl
  have T : Txt mg := ⟨He.free_ok X G (D.fact 0 (f := .free "isinstance") rfl), He.free_ok X G (D.fact 1 (f := .free "int") rfl), He.free_ok X G (D.fact 2 (f := .free "bool") rfl), He.free_ok X G (D.fact 3 (f := .free "str") rfl), He.free_ok X G (D.fact 4 (f := .free "len") rfl), He.free_ok X G (D.fact 5 (f := .free "all") rfl), He.free_ok X G (D.fact 6 (f := .free "tuple") rfl), He.free_ok X G (D.fact 7 (f := .free "enumerate") rfl), He.free_ok X G (D.fact 8 (f := .free "sorted") rfl), He.free_ok X G (D.fact 9 (f := .free "set") rfl), He.free_ok X G (D.fact 10 (f := .free "list") rfl), He.free_ok X G (D.fact 11 (f := .free "dict") rfl), He.free_ok X G (D.fact 12 (f := .free "range") rfl), He.free_ok X G (D.fact 13 (f := .free "sum") rfl), He.free_ok X G (D.fact 14 (f := .free "min") rfl), He.free_ok X G (D.fact 15 (f := .free "repr") rfl), He.free_ok X G (D.fact 16 (f := .free "iter") rfl), He.free_ok X G (D.fact 17 (f := .free "super") rfl), He.free_ok X G (D.fact 18 (f := .free "ValueError") rfl), He.str_ok X G (D.fact 19 (f := .str "LETTERS" "abcdefghijklmnopqrstuvwxyz") rfl), He.int_ok X G (D.fact 20 (f := .int "MOST_LETTERS" 8) rfl), He.str_ok X G (D.fact 21 (f := .str "OUTSIDE" "-") rfl)⟩
  have TX : TrTxt K mg (cTr K) (mTr K "__init__") := ⟨gTree, He.cls_ok (D.fact 24 (f := .cls "Tree") rfl), He.mkr_ok (D.fact 27 (f := .mkr "Tree") rfl), He.noat_ok (D.fact 25 (f := .noat "Tree" "held_tree") rfl), He.noat_ok (D.fact 26 (f := .noat "Tree" "held_names") rfl)⟩
  have IT : IsTr K (cTr K) := ⟨of_decide_eq_true (at_ 0 _ rfl), of_decide_eq_true (at_ 1 _ rfl), of_decide_eq_true (at_ 2 _ rfl), of_decide_eq_true (at_ 3 _ rfl), of_decide_eq_true (at_ 4 _ rfl)⟩
  have m_add := He.meth_ok (D.fact 28 (f := .meth "Tree" "__add__") rfl)
  have m_sub := He.meth_ok (D.fact 29 (f := .meth "Tree" "__sub__") rfl)
  have m_iter := He.meth_ok (D.fact 30 (f := .meth "Tree" "__iter__") rfl)
  have m_len := He.meth_ok (D.fact 31 (f := .meth "Tree" "__len__") rfl)
  have m_eq := He.meth_ok (D.fact 32 (f := .meth "Tree" "__eq__") rfl)
  have m_str := He.meth_ok (D.fact 33 (f := .meth "Tree" "__str__") rfl)
  have PT : PropOf K (cTr K) "tree" (mTr K "tree") (gProp K) := ⟨of_decide_eq_true (at_ 5 _ rfl), of_decide_eq_true (at_ 6 _ rfl), of_decide_eq_true (at_ 7 _ rfl), recB_ok (at_ 8 _ rfl)⟩
  have told := c.told
  have t0 : fnAt K (gProp K) = defAt "tree" "Tree.tree" (sT 4) := (List.cons.inj told).1
  have t1 : fnAt K (gOf K) = defAt "of" "Tree.of" (sT 1) := (List.cons.inj (List.cons.inj told).2).1
  have t2 : fnAt K (fNu K) = defAt "__init__" "NotUsable.__init__" sNuInit := (List.cons.inj (List.cons.inj (List.cons.inj told).2).2).1
  obtain ⟨d_tree, F_tree⟩ := funAt t0 (at_ 9 _ rfl) c.c1
  obtain ⟨d_of, F_of⟩ := funAt t1 (at_ 15 _ rfl) c.c2
  have B_tree := FunD.bindsN (ps := ["self"]) F_tree fun _ _ _ _ _ _ us hl => match us, hl with | [_], _ => rfl
  have B_of := FunD.bindsN (ps := ["cls", "tree"]) F_of fun _ _ _ _ _ _ us hl => match us, hl with | [_, _], _ => rfl
  have cr : ClX.CRead K (cTr K) (.type "type") := ⟨at_ 10 _ rfl, of_decide_eq_true (at_ 11 _ rfl)⟩
  have cmB : cmB K = true := at_ 12 _ rfl
  have cm : ClX.CMet K (cTr K) (.type "type") "of" (mTr K "of") (gOf K) := by
    refine ⟨?_, recB_ok (at_ 13 _ rfl), at_ 14 _ rfl⟩
    unfold K14.cmB at cmB
    split at cmB
    · rename_i n p c0 he
      simp only [Bool.and_eq_true, beq_iff_eq] at cmB
      obtain ⟨rfl, rfl, rfl⟩ := cmB
      exact he
    · cases cmB
  have bAdd : BinC K (cTr K) .Add "tuple" (mTr K "__add__") := ⟨at_ 16 _ rfl, m_add.at_, m_add.fn, of_decide_eq_true (at_ 17 _ rfl), of_decide_eq_true (at_ 19 _ rfl)⟩
  have bSub : BinC K (cTr K) .Sub "str" (mTr K "__sub__") := ⟨at_ 16 _ rfl, m_sub.at_, m_sub.fn, of_decide_eq_true (at_ 18 _ rfl), of_decide_eq_true (at_ 20 _ rfl)⟩
  have eqC : EqC K (cTr K) (mTr K "__eq__") := ⟨m_eq.at_, m_eq.fn, of_decide_eq_true (at_ 21 _ rfl), IT.top⟩
  have exC : ExcC K (cNu K) := ⟨of_decide_eq_true (at_ 22 _ rfl), of_decide_eq_true (at_ 23 _ rfl), of_decide_eq_true (at_ 24 _ rfl), at_ 25 _ rfl, of_decide_eq_true (at_ 26 _ rfl), IT.get, IT.tak, of_decide_eq_true (at_ 27 _ rfl)⟩
  have RT : RefTxt K mg (cNu K) := ⟨exC, ⟨exC.hg, exC.hk, exC.hs, exC.hd⟩, of_decide_eq_true (at_ 28 _ rfl), of_decide_eq_true (at_ 29 _ rfl),
    ⟨_, gPaperError, of_decide_eq_true (at_ 30 _ rfl)⟩, ⟨_, gTreeError, of_decide_eq_true (at_ 31 _ rfl)⟩, ⟨_, gTextError, of_decide_eq_true (at_ 32 _ rfl)⟩, ⟨_, gMovingError, of_decide_eq_true (at_ 33 _ rfl)⟩, ⟨_, gInvalidEvent, of_decide_eq_true (at_ 34 _ rfl)⟩,
    ⟨_, gNothingToUndo, of_decide_eq_true (at_ 35 _ rfl)⟩, ⟨_, gBarred, of_decide_eq_true (at_ 36 _ rfl)⟩, ⟨_, gInvalidRow, of_decide_eq_true (at_ 37 _ rfl)⟩, ⟨_, gInvalidPaper, of_decide_eq_true (at_ 38 _ rfl)⟩, ⟨_, gNu, of_decide_eq_true (at_ 39 _ rfl)⟩, of_decide_eq_true (at_ 40 _ rfl)⟩
  have hex : PySem.W.exmOne K (.ref (cNu K)) (.ref (He.ga K "RoomError")) = some true := of_decide_eq_true (at_ 41 _ rfl)
  obtain ⟨cd, FC, hcd⟩ := funC (x := "_law_step_right") (st := top 71) (show FnP K "_law_step_right" (top 71) _ d_law_step_right from F_law_step_right)
  have ecd : He.codeOf K ("_law_step_right", none) = cd := by
    obtain ⟨oc, od, dV, kV, doc, pm, an, ct, osl, efd, lk, _⟩ := FC.ex
    subst efd
    exact He.codeOf_eq (p := ("_law_step_right", none)) lk rfl
  have chd : PySem.W.codeHdIn K cd (He.tabOf K cd) = true := by
    have z := c.hd ("_law_step_right", none) List.mem_cons_self
    unfold He.cT at z
    rwa [ecd] at z
  have cout : K.lookup (He.tabOf K cd) = none := by
    have z := c.out ("_law_step_right", none) List.mem_cons_self
    unfold He.cT at z
    rwa [ecd] at z
  have cemp : h.get? (He.tabOf K cd) = some { cls := .none, data := .fields #[] } := by
    have z := c.empty ("_law_step_right", none) List.mem_cons_self
    unfold He.cT at z
    rwa [ecd] at z
  have efa : He.ga K "law" = fa := by
    have z := hmg.symm.trans g_law
    cases z
    rfl
  rw [efa] at g_law
  have F_law' : FnP K "law" (top 74) fa d_law := efa ▸ F_law
  refine ⟨d_law, cd, He.tabOf K cd, spLaw K (He.tabOf K cd), cemp, cout, PySem.W.codeHd_of_K X chd, fun s u => FunD.bindsA (ps := ["_law_script"]) F_law' (fun _ _ _ _ _ _ us hl => match us, hl with | [_], _ => rfl) s [u] rfl, fun H a ns hns hH hS => ⟨a, ns, rfl, hS, hns, hH, fun _ => rfl⟩, fun base KB GB TB => ?_⟩
  have NT : NuTxt lawP K mg base (cNu K) (fNu K) := ⟨gNu, T.super, nuCls_ok (at_ 42 _ rfl), of_decide_eq_true (at_ 43 _ rfl), RT.word, RT.at_, of_decide_eq_true (at_ 44 _ rfl), of_decide_eq_true (at_ 45 _ rfl), at_ 46 _ rfl, exC.hs, of_decide_eq_true (at_ 47 _ rfl), of_decide_eq_true (at_ 48 _ rfl),
    ⟨K, KB, of_decide_eq_true (at_ 49 _ rfl)⟩, nuFn_ok KB t2 (at_ 50 _ rfl) (at_ 51 _ rfl), by kernel_rfl⟩
  have D_int := dn0 (P := lawP) (w := w) (base := base) g_is_integer F_is_integer.kp (ok_isInt F_is_integer T) B_is_integer
  have D_num := dn0 (P := lawP) (w := w) (base := base) g_is_number F_is_number.kp (ok_isNum F_is_number D_int) B_is_number
  have D_name := dn0 (P := lawP) (w := w) (base := base) g_is_name F_is_name.kp (ok_isName F_is_name T) B_is_name
  have D_spot := dn0 (P := lawP) (w := w) (base := base) g_is_spot F_is_spot.kp (ok_isSpot F_is_spot T D_name) B_is_spot
  have D_triple := dn0 (P := lawP) (w := w) (base := base) g_is_triple F_is_triple.kp (ok_isTriple F_is_triple T) B_is_triple
  have D_folder := dn0 (P := lawP) (w := w) (base := base) g_is_folder F_is_folder.kp (ok_isFolder F_is_folder T D_triple D_name D_spot D_num) B_is_folder
  have D_names := dn0 (P := lawP) (w := w) (base := base) g_names_in F_names_in.kp (ok_names F_names_in T) B_names_in
  have D_parents := dn0 (P := lawP) (w := w) (base := base) g_parents_by F_parents_by.kp (ok_parents F_parents_by T) B_parents_by
  have D_unpar := dn0 (P := lawP) (w := w) (base := base) g_first_unparented F_first_unparented.kp (ok_unpar F_first_unparented T D_names D_parents) B_first_unparented
  have D_ringed := dn0 (P := lawP) (w := w) (base := base) g_first_ringed F_first_ringed.kp (ok_ringed F_first_ringed T D_names D_parents) B_first_ringed
  have D_fault := dn0 (P := lawP) (w := w) (base := base) g_tree_fault F_tree_fault.kp (ok_fault F_tree_fault T D_folder D_unpar D_ringed) B_tree_fault
  have okW := ok_want (w := w) (dvs := [.int (-1)]) F_want NT
  have D_w2 : Dn lawP w K mg base (L2.CX lawP w) 1 "want" [.int (-1)] (spWant (cNu K)) := by
    obtain ⟨ds, hv, b⟩ := FunD.binds1 (ps := ["is_right", "word", "at"]) F_want 2 0 (fun z => nomatch z) rfl fun T kV doc pm an cdv ct us its hu hi => match us, its, hu, hi with | [_, _], [_], _, _ => ⟨_, rfl, rfl⟩
    exact ⟨⟨_, d_want, _, ds, g_want, F_want.kp, okW, b, hv⟩⟩
  have D_w3 : Dn lawP w K mg base (L2.CX lawP w) 1 "want" [] (spWant (cNu K)) := by
    obtain ⟨ds, hv, b⟩ := FunD.binds1 (ps := ["is_right", "word", "at"]) F_want 3 1 (fun z => nomatch z) rfl fun T kV doc pm an cdv ct us its hu hi => match us, its, hu, hi with | [_, _, _], [_], _, _ => ⟨_, rfl, rfl⟩
    exact ⟨⟨_, d_want, _, ds, g_want, F_want.kp, okW, b, hv⟩⟩
  have D_wantTree := dn0 (P := lawP) (w := w) (base := base) g_want_tree F_want_tree.kp (ok_wantTree F_want_tree D_w2 D_fault) B_want_tree
  have D_isOf := dn0 (P := lawP) (w := w) (base := base) g_is_folder_of F_is_folder_of.kp (ok_isOf F_is_folder_of T D_names) B_is_folder_of
  have D_wantF := dn0 (P := lawP) (w := w) (base := base) g_want_folder F_want_folder.kp (ok_wantF F_want_folder D_w3 D_isOf) B_want_folder
  have D_spotWord := dn0 (P := lawP) (w := w) (base := base) g_spot_word F_spot_word.kp (ok_spotWord F_spot_word T) B_spot_word
  have D_text := dn0 (P := lawP) (w := w) (base := base) g_tree_text F_tree_text.kp (ok_text F_tree_text T D_wantTree D_spotWord) B_tree_text
  have D_lets := dn0 (P := lawP) (w := w) (base := base) g_lets_tree F_lets_tree.kp (ok_lets F_lets_tree T D_fault) B_lets_tree
  have R_init := ok_init (P := lawP) (w := w) (base := base) F_init T TX D_fault D_names
  have R_add := raw0 (ok_add (P := lawP) (w := w) (base := base) (C2 := cNu K) F_add T TX R_init D_folder D_isOf D_w2) B_add
  have R_sub := raw0 (ok_sub (P := lawP) (w := w) (base := base) (C2 := cNu K) F_sub T TX R_init D_wantF D_parents D_w3) B_sub
  have R_iter := raw0 (ok_iter (P := lawP) (w := w) (base := base) F_iter T TX) B_iter
  have R_len := raw0 (ok_len (P := lawP) (w := w) (base := base) F_len T TX) B_len
  have R_eq := raw0 (ok_eq (P := lawP) (w := w) (base := base) F_eq T TX IT) B_eq
  have R_str := raw0 (ok_str (P := lawP) (w := w) (base := base) F_str TX D_text) B_str
  have O_tree := ok_treeP (P := lawP) (w := w) (base := base) F_tree TX
  have R_of := raw0 (ok_of (P := lawP) (w := w) (base := base) F_of TX R_init D_wantTree) B_of
  have TT : TU lawP w K mg base (cTr K) (cNu K) := ⟨TX.cls, ⟨_, _, d_tree, PT, O_tree, B_tree⟩, ⟨_, _, m_iter.at_, m_iter.fn, R_iter, m_len.at_, m_len.fn, R_len⟩, ⟨_, m_str.at_, m_str.fn, R_str⟩, ⟨_, eqC, R_eq⟩, ⟨_, bAdd, R_add⟩, ⟨_, bSub, R_sub⟩, ⟨_, _, _, cr, cm, R_of⟩⟩
  have D_spool := dn0 (P := lawP) (w := w) (base := base) g_law_spool F_law_spool.kp (ok_spool F_law_spool T) B_law_spool
  have D_pull := dn0 (P := lawP) (w := w) (base := base) g_law_pull F_law_pull.kp (ok_pull F_law_pull T) B_law_pull
  have D_any := dn0 (P := lawP) (w := w) (base := base) g_law_any F_law_any.kp (ok_any F_law_any T D_pull) B_law_any
  have D_n16 := dn0 (P := lawP) (w := w) (base := base) g_law_names F_law_names.kp (ok_names16 F_law_names T D_pull D_any) B_law_names
  have D_forest := dn0 (P := lawP) (w := w) (base := base) g_law_forest F_law_forest.kp (ok_forest F_law_forest T D_pull D_any) B_law_forest
  have D_up := dn0 (P := lawP) (w := w) (base := base) g_law_up F_law_up.kp (ok_up F_law_up T) B_law_up
  have D_uses := dn0 (P := lawP) (w := w) (base := base) g_law_uses F_law_uses.kp (ok_uses F_law_uses T D_up) B_law_uses
  have D_case := dn0 (P := lawP) (w := w) (base := base) g_law_case F_law_case.kp (ok_case F_law_case T D_pull D_any D_n16 D_forest D_uses) B_law_case
  have D_wordL := dn0 (P := lawP) (w := w) (base := base) g_law_word F_law_word.kp (ok_wordL F_law_word T) B_law_word
  have D_rowL := dn0 (P := lawP) (w := w) (base := base) g_law_row F_law_row.kp (ok_rowL F_law_row T D_wordL) B_law_row
  have D_lines := dn0 (P := lawP) (w := w) (base := base) g_law_tree_lines F_law_tree_lines.kp (ok_lines F_law_tree_lines T D_rowL) B_law_tree_lines
  have D_put := dn0 (P := lawP) (w := w) (base := base) g_law_put_due F_law_put_due.kp (ok_put F_law_put_due T) B_law_put_due
  have D_take := dn0 (P := lawP) (w := w) (base := base) g_law_taken_due F_law_taken_due.kp (ok_take F_law_taken_due T) B_law_taken_due
  have D_ref := dnX (P := lawP) (w := w) (base := base) g_law_refusal F_law_refusal.kp (ok_ref F_law_refusal T RT) B_law_refusal
  have D_is := dnG (P := lawP) (w := w) (base := base) g_law_is_tree F_law_is_tree.kp (ok_is F_law_is_tree T TT D_lets D_lines) B_law_is_tree
  have D_step := dnG (P := lawP) (w := w) (base := base) g_law_step_right F_law_step_right.kp (ok_step FC T TT TB F_law_said g_law_said B_law_said gRoomError hex D_ref D_pull D_any D_put D_take D_is) B_law_step_right
  have D_eq := dnG (P := lawP) (w := w) (base := base) g_law_are_equal_right F_law_are_equal_right.kp (ok_equal F_law_are_equal_right T TT) B_law_are_equal_right
  have D_ord := dnG (P := lawP) (w := w) (base := base) g_law_are_orders_right F_law_are_orders_right.kp (ok_ord F_law_are_orders_right T TT TX R_init D_forest D_is) B_law_are_orders_right
  exact ok_law (P := lawP) (w := w) (base := base) F_law' T TT gTree D_spool D_case D_n16 D_pull D_step D_is D_eq D_ord
end K14
end

-- K14Run
section
set_option maxRecDepth 100000
set_option maxHeartbeats 0
/-! the head's run -/
namespace K14
open PySem PySem.Spec PyProof.Rows L2
abbrev lawR : PySem.W.OpenRow := PySem.W.OpenLaw.row PySem.Challenge.rw_roomrings_k14_whole_trees_grown
def looseA : List Str := ["_wall", "RoomError", "PaperError", "TreeError", "MovingError", "TextError", "InvalidPaper", "NotUsable", "InvalidEvent", "NothingToUndo", "Barred", "InvalidText", "InvalidRow", "LETTERS", "MOST_LETTERS", "is_integer", "is_number", "is_name", "is_spot", "is_triple", "is_folder", "names_in", "parents_by", "rooms_by", "first_ringed", "first_unparented", "tree_fault", "want", "want_tree", "is_folder_of"]
def looseB : List Str := ["want_folder", "OUTSIDE", "spot_word", "tree_text", "DIGITS", "MOST_DIGITS", "WORDS_OF_FOLDERS", "PARENT_FIELD", "number_of", "spot_of", "is_word_right", "folder_in", "tree_read", "Tree", "lets_tree"]
def looseC : List Str := ["_law_spool", "_law_pull", "_law_any", "_law_names", "_law_forest", "_law_up", "_law_uses", "_law_case", "_law_refusal", "_law_said", "_law_word", "_law_row", "_law_tree_lines", "_law_put_due", "_law_taken_due", "_law_is_tree", "_law_step_right", "_law_are_equal_right", "_law_are_orders_right"]
abbrev looseN : List Str := looseA ++ looseB ++ looseC
theorem runN (w : World) : HandSHeadRun.RunEq lawR (PySem.W.view lawR.prog [74]) hookN obHN 20000 looseN w := by
  intro os
  kernel_rfl
end K14
end

-- K14Last
section
set_option maxRecDepth 100000
set_option maxHeartbeats 0
open PySem PySem.W PySem.Calls PyProof.Rows
theorem PySem.Challenge.cw_roomrings_k14_whole_trees_grown_holds : PySem.Challenge.rw_roomrings_k14_whole_trees_grown.Holds := by
  w_on; o_law
  refine HandSHeadRun.head_any (r := OpenLaw.row PySem.Challenge.rw_roomrings_k14_whole_trees_grown) (q := view (OpenLaw.row PySem.Challenge.rw_roomrings_k14_whole_trees_grown).prog [74]) (H := K14.hookN) (ob := K14.obHN) (M := 20000) (loose := K14.looseN) (d := HandSHeadRun.topDef (OpenLaw.row PySem.Challenge.rw_roomrings_k14_whole_trees_grown).prog 74) (kwd := []) K14.obHN_eq
    (by kernel_rfl) (fun s => by kernel_rfl) K14.runN (by kernel_rfl) (by kernel_rfl) (by kernel_rfl) (by rfl) (by first | assumption | decide +kernel) (by decide +kernel) ⟨rfl, rfl, rfl, rfl, rfl, by decide +kernel⟩ ?hw ?hc
  case hw => w_witness2
  case hc =>
    refine K14.walkG (l := PySem.Challenge.rw_roomrings_k14_whole_trees_grown) (n := 63) (k := 12) (x := "_law_script") rfl (by decide) (by kernel_rfl) ⟨rfl, by decide, by decide⟩ ?F
    intro w mg fa h Y G hmg0
    obtain ⟨K, KX, c⟩ := Y
    have hmg : mg ("law" : PySem.Str) = some (.ref fa) := by
      have e : (HandSHeadRun.topDef (OpenLaw.row PySem.Challenge.rw_roomrings_k14_whole_trees_grown).prog 74).name = ("law" : PySem.Str) := by kernel_rfl
      rw [← e]
      exact hmg0
    exact ⟨K, KX, K14.join KX G hmg c⟩
end
