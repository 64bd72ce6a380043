/- This text proves what functions of this seat's program answer, run by the evaluator; no condition. -/
import Derived.Test.YtfegdmkaahfhgaaGreatDoorTb1
set_option linter.unusedVariables false
set_option linter.unusedSimpArgs false
set_option linter.unusedSectionVars false
set_option maxRecDepth 10000
namespace Go.LcRun
open Go Go.Eng
structure Pt2 where
  x : Int
  y : Int
  deriving DecidableEq
structure Ln where
  kind : Int
  pts : List Pt2
  half : Int
  limit : Int
  next : List Int
  deriving DecidableEq
structure Pa where
  lane : Int
  fr : Int
  to : Int
  rank : Int
  deriving DecidableEq
structure Zo where
  parts : List Pa
  sig : Int
  deriving DecidableEq
structure Ph where
  ticks : Int
  green : List Int
  deriving DecidableEq
structure Sg where
  off : Int
  phases : List Ph
  deriving DecidableEq
structure Wk where
  lane : Int
  fr : Int
  to : Int
  bg : Int
  en : Int
  lim : Int
  deriving DecidableEq
structure Mp where
  ver : Int
  lanes : List Ln
  zones : List Zo
  sigs : List Sg
  works : List Wk
  deriving DecidableEq
structure Ag where
  route : List Int
  s : Int
  v : Int
  len : Int
  bg : Int
  obey : Bool
  gone : Bool
  deriving DecidableEq
structure Ev where
  kind : Int
  tick : Int
  til : Int
  agent : Int
  n : Int
  deriving DecidableEq
structure Sc where
  map : Mp
  c1 : Int
  c2 : Int
  c3 : Int
  c4 : Int
  c5 : Int
  agents : List Ag
  budget : Int
  silence : Int
  signals : Bool
  ticks : Int
  view : Int
  seed : Int
  events : List Ev
  deriving DecidableEq
def rows1 (l : List Int) : List (List Cl) := l.map fun x => [I x]
@[simp] def Pt2.C (p : Pt2) : List Cl := [I p.x, I p.y]
def Pt2.rows (l : List Pt2) : List (List Cl) := l.map Pt2.C
@[simp] def Ln.C (l : Ln) : List Cl := [I l.kind, .rslice (Pt2.rows l.pts), I l.half, I l.limit, .rslice (rows1 l.next)]
def Ln.rows (l : List Ln) : List (List Cl) := l.map Ln.C
@[simp] def Pa.C (p : Pa) : List Cl := [I p.lane, I p.fr, I p.to, I p.rank]
def Pa.rows (l : List Pa) : List (List Cl) := l.map Pa.C
@[simp] def Zo.C (z : Zo) : List Cl := [.rslice (Pa.rows z.parts), I z.sig]
def Zo.rows (l : List Zo) : List (List Cl) := l.map Zo.C
@[simp] def Ph.C (p : Ph) : List Cl := [I p.ticks, .rslice (rows1 p.green)]
def Ph.rows (l : List Ph) : List (List Cl) := l.map Ph.C
@[simp] def Sg.C (s : Sg) : List Cl := [I s.off, .rslice (Ph.rows s.phases)]
def Sg.rows (l : List Sg) : List (List Cl) := l.map Sg.C
@[simp] def Wk.C (w : Wk) : List Cl := [I w.lane, I w.fr, I w.to, I w.bg, I w.en, I w.lim]
def Wk.rows (l : List Wk) : List (List Cl) := l.map Wk.C
@[simp] def Mp.C (m : Mp) : List Cl := [I m.ver, .rslice (Ln.rows m.lanes), .rslice (Zo.rows m.zones), .rslice (Sg.rows m.sigs), .rslice (Wk.rows m.works)]
@[simp] def Ag.C (a : Ag) : List Cl := [.rslice (rows1 a.route), I a.s, I a.v, I a.len, I a.bg, .bool a.obey, .bool a.gone]
def Ag.rows (l : List Ag) : List (List Cl) := l.map Ag.C
@[simp] def Ev.C (e : Ev) : List Cl := [I e.kind, I e.tick, I e.til, I e.agent, I e.n]
def Ev.rows (l : List Ev) : List (List Cl) := l.map Ev.C
@[simp] def Sc.C (s : Sc) : List Cl := [I s.map.ver, .rslice (Ln.rows s.map.lanes), .rslice (Zo.rows s.map.zones), .rslice (Sg.rows s.map.sigs), .rslice (Wk.rows s.map.works), I s.c1, I s.c2, I s.c3, I s.c4, I s.c5,
  .rslice (Ag.rows s.agents), I s.budget, I s.silence, .bool s.signals, I s.ticks, I s.view, I s.seed, .rslice (Ev.rows s.events)]
abbrev sI : Sh := .int .i64
theorem int_sh {r : List Cl} (h : HasSh sI r) : ∃ x, r = [I x] := by
  simp only [HasSh] at h
  obtain ⟨x, rfl, _⟩ := h
  exact ⟨x, rfl⟩
theorem rows_sh {α : Type} {s : Sh} {f : α → List Cl} (h1 : ∀ r, HasSh s r → ∃ x, r = f x) : ∀ {rows : List (List Cl)}, (∀ r ∈ rows, HasSh s r) → ∃ l : List α, rows = l.map f
  | [], _ => ⟨[], rfl⟩
  | r :: rows, h => by
    obtain ⟨x, rfl⟩ := h1 r (h r (List.mem_cons_self ..))
    obtain ⟨l, rfl⟩ := rows_sh h1 (rows := rows) fun x hx => h x (List.mem_cons_of_mem _ hx)
    exact ⟨x :: l, rfl⟩
theorem slice_sh {α : Type} {s : Sh} {f : α → List Cl} (h1 : ∀ r, HasSh s r → ∃ x, r = f x) {c : List Cl} (h : HasSh (.slice s) c) : ∃ l : List α, c = [.rslice (l.map f)] ∧ l.length ≤ maxLen := by
  simp only [HasSh] at h
  obtain ⟨rows, rfl, hl, hr⟩ := h
  obtain ⟨l, rfl⟩ := rows_sh h1 hr
  exact ⟨l, rfl, by simpa using hl⟩
theorem ints_sh {c : List Cl} (h : HasSh (.slice sI) c) : ∃ l : List Int, c = [.rslice (rows1 l)] := by
  obtain ⟨l, rfl, _⟩ := slice_sh (f := fun x : Int => [I x]) (fun r h => int_sh h) h
  exact ⟨l, rfl⟩
theorem st_cons {s : Sh} {l : List Sh} {cs : List Cl} (h : HasShs (s :: l) cs) : ∃ c d, cs = c ++ d ∧ HasSh s c ∧ HasShs l d := by
  simpa only [HasShs] using h
theorem st_sh {l : List Sh} {cs : List Cl} (h : HasSh (.st l) cs) : HasShs l cs := by simpa only [HasSh] using h
theorem st_nil {cs : List Cl} (h : HasShs [] cs) : cs = [] := by simpa only [HasShs] using h
theorem bool_sh {r : List Cl} (h : HasSh .bool r) : ∃ x, r = [.bool x] := by simpa only [HasSh] using h
abbrev spotS : Sh := .st [sI, sI]
abbrev laneS : Sh := .st [sI, .st [.slice spotS], sI, sI, .slice sI]
abbrev partS : Sh := .st [sI, sI, sI, sI]
abbrev zoneS : Sh := .st [.slice partS, sI]
abbrev phaseS : Sh := .st [sI, .slice sI]
abbrev sigS : Sh := .st [sI, .slice phaseS]
abbrev workS : Sh := .st [sI, sI, sI, sI, sI, sI]
abbrev mapS : Sh := .st [sI, .slice laneS, .slice zoneS, .slice sigS, .slice workS]
abbrev carS : Sh := .st [sI, sI, sI, sI, sI]
abbrev agS : Sh := .st [.slice sI, sI, sI, sI, sI, .bool, .bool]
abbrev evS : Sh := .st [sI, sI, sI, sI, sI]
abbrev scS : Sh := .st [mapS, carS, .slice agS, sI, sI, .bool, sI, sI, sI, .slice evS]
theorem spot_sh {r : List Cl} (h : HasSh spotS r) : ∃ p : Pt2, r = p.C := by
  obtain ⟨_, _, rfl, h1_1, h_1⟩ := st_cons (st_sh h)
  obtain ⟨_, _, rfl, h2_2, h_2⟩ := st_cons h_1
  obtain ⟨x, rfl⟩ := int_sh h1_1
  obtain ⟨y, rfl⟩ := int_sh h2_2
  rw [st_nil h_2]
  exact ⟨⟨x, y⟩, rfl⟩
theorem part_sh {r : List Cl} (h : HasSh partS r) : ∃ p : Pa, r = p.C := by
  obtain ⟨_, _, rfl, h1_3, h_3⟩ := st_cons (st_sh h)
  obtain ⟨_, _, rfl, h2_4, h_4⟩ := st_cons h_3
  obtain ⟨_, _, rfl, h3_5, h_5⟩ := st_cons h_4
  obtain ⟨_, _, rfl, h4_6, h_6⟩ := st_cons h_5
  obtain ⟨x1, rfl⟩ := int_sh h1_3
  obtain ⟨x2, rfl⟩ := int_sh h2_4
  obtain ⟨x3, rfl⟩ := int_sh h3_5
  obtain ⟨x4, rfl⟩ := int_sh h4_6
  rw [st_nil h_6]
  exact ⟨⟨x1, x2, x3, x4⟩, rfl⟩
theorem work_sh {r : List Cl} (h : HasSh workS r) : ∃ p : Wk, r = p.C := by
  obtain ⟨_, _, rfl, h1_7, h_7⟩ := st_cons (st_sh h)
  obtain ⟨_, _, rfl, h2_8, h_8⟩ := st_cons h_7
  obtain ⟨_, _, rfl, h3_9, h_9⟩ := st_cons h_8
  obtain ⟨_, _, rfl, h4_10, h_10⟩ := st_cons h_9
  obtain ⟨_, _, rfl, h5_11, h_11⟩ := st_cons h_10
  obtain ⟨_, _, rfl, h6_12, h_12⟩ := st_cons h_11
  obtain ⟨x1, rfl⟩ := int_sh h1_7
  obtain ⟨x2, rfl⟩ := int_sh h2_8
  obtain ⟨x3, rfl⟩ := int_sh h3_9
  obtain ⟨x4, rfl⟩ := int_sh h4_10
  obtain ⟨x5, rfl⟩ := int_sh h5_11
  obtain ⟨x6, rfl⟩ := int_sh h6_12
  rw [st_nil h_12]
  exact ⟨⟨x1, x2, x3, x4, x5, x6⟩, rfl⟩
theorem ev_sh {r : List Cl} (h : HasSh evS r) : ∃ p : Ev, r = p.C := by
  obtain ⟨_, _, rfl, h1_13, h_13⟩ := st_cons (st_sh h)
  obtain ⟨_, _, rfl, h2_14, h_14⟩ := st_cons h_13
  obtain ⟨_, _, rfl, h3_15, h_15⟩ := st_cons h_14
  obtain ⟨_, _, rfl, h4_16, h_16⟩ := st_cons h_15
  obtain ⟨_, _, rfl, h5_17, h_17⟩ := st_cons h_16
  obtain ⟨x1, rfl⟩ := int_sh h1_13
  obtain ⟨x2, rfl⟩ := int_sh h2_14
  obtain ⟨x3, rfl⟩ := int_sh h3_15
  obtain ⟨x4, rfl⟩ := int_sh h4_16
  obtain ⟨x5, rfl⟩ := int_sh h5_17
  rw [st_nil h_17]
  exact ⟨⟨x1, x2, x3, x4, x5⟩, rfl⟩
theorem lane_sh {r : List Cl} (h : HasSh laneS r) : ∃ p : Ln, r = p.C := by
  obtain ⟨_, _, rfl, h1_18, h_18⟩ := st_cons (st_sh h)
  obtain ⟨_, _, rfl, h2_19, h_19⟩ := st_cons h_18
  obtain ⟨_, _, rfl, h2_20, h2q_20⟩ := st_cons (st_sh h2_19)
  obtain ⟨_, _, rfl, h3_21, h_21⟩ := st_cons h_19
  obtain ⟨_, _, rfl, h4_22, h_22⟩ := st_cons h_21
  obtain ⟨_, _, rfl, h5_23, h_23⟩ := st_cons h_22
  obtain ⟨x1, rfl⟩ := int_sh h1_18
  obtain ⟨l2, rfl, _⟩ := slice_sh (fun r h => spot_sh h) h2_20
  obtain ⟨x3, rfl⟩ := int_sh h3_21
  obtain ⟨x4, rfl⟩ := int_sh h4_22
  obtain ⟨l5, rfl⟩ := ints_sh h5_23
  rw [st_nil h_23, st_nil h2q_20]
  exact ⟨⟨x1, l2, x3, x4, l5⟩, rfl⟩
theorem zone_sh {r : List Cl} (h : HasSh zoneS r) : ∃ p : Zo, r = p.C := by
  obtain ⟨_, _, rfl, h1_24, h_24⟩ := st_cons (st_sh h)
  obtain ⟨_, _, rfl, h2_25, h_25⟩ := st_cons h_24
  obtain ⟨l1, rfl, _⟩ := slice_sh (fun r h => part_sh h) h1_24
  obtain ⟨x2, rfl⟩ := int_sh h2_25
  rw [st_nil h_25]
  exact ⟨⟨l1, x2⟩, rfl⟩
theorem phase_sh {r : List Cl} (h : HasSh phaseS r) : ∃ p : Ph, r = p.C := by
  obtain ⟨_, _, rfl, h1_26, h_26⟩ := st_cons (st_sh h)
  obtain ⟨_, _, rfl, h2_27, h_27⟩ := st_cons h_26
  obtain ⟨x1, rfl⟩ := int_sh h1_26
  obtain ⟨l2, rfl⟩ := ints_sh h2_27
  rw [st_nil h_27]
  exact ⟨⟨x1, l2⟩, rfl⟩
theorem sig_sh {r : List Cl} (h : HasSh sigS r) : ∃ p : Sg, r = p.C := by
  obtain ⟨_, _, rfl, h1_28, h_28⟩ := st_cons (st_sh h)
  obtain ⟨_, _, rfl, h2_29, h_29⟩ := st_cons h_28
  obtain ⟨x1, rfl⟩ := int_sh h1_28
  obtain ⟨l2, rfl, _⟩ := slice_sh (fun r h => phase_sh h) h2_29
  rw [st_nil h_29]
  exact ⟨⟨x1, l2⟩, rfl⟩
theorem ag_sh {r : List Cl} (h : HasSh agS r) : ∃ p : Ag, r = p.C := by
  obtain ⟨_, _, rfl, h1_30, h_30⟩ := st_cons (st_sh h)
  obtain ⟨_, _, rfl, h2_31, h_31⟩ := st_cons h_30
  obtain ⟨_, _, rfl, h3_32, h_32⟩ := st_cons h_31
  obtain ⟨_, _, rfl, h4_33, h_33⟩ := st_cons h_32
  obtain ⟨_, _, rfl, h5_34, h_34⟩ := st_cons h_33
  obtain ⟨_, _, rfl, h6_35, h_35⟩ := st_cons h_34
  obtain ⟨_, _, rfl, h7_36, h_36⟩ := st_cons h_35
  obtain ⟨l1, rfl⟩ := ints_sh h1_30
  obtain ⟨x2, rfl⟩ := int_sh h2_31
  obtain ⟨x3, rfl⟩ := int_sh h3_32
  obtain ⟨x4, rfl⟩ := int_sh h4_33
  obtain ⟨x5, rfl⟩ := int_sh h5_34
  obtain ⟨x6, rfl⟩ := bool_sh h6_35
  obtain ⟨x7, rfl⟩ := bool_sh h7_36
  rw [st_nil h_36]
  exact ⟨⟨l1, x2, x3, x4, x5, x6, x7⟩, rfl⟩
theorem sc_sh {r : List Cl} (h : HasSh scS r) : ∃ p : Sc, r = p.C := by
  obtain ⟨_, _, rfl, h1_37, h_37⟩ := st_cons (st_sh h)
  obtain ⟨_, _, rfl, m1_38, m_38⟩ := st_cons (st_sh h1_37)
  obtain ⟨_, _, rfl, m2_39, m_39⟩ := st_cons m_38
  obtain ⟨_, _, rfl, m3_40, m_40⟩ := st_cons m_39
  obtain ⟨_, _, rfl, m4_41, m_41⟩ := st_cons m_40
  obtain ⟨_, _, rfl, m5_42, m_42⟩ := st_cons m_41
  obtain ⟨_, _, rfl, h2_43, h_43⟩ := st_cons h_37
  obtain ⟨_, _, rfl, c1_44, c_44⟩ := st_cons (st_sh h2_43)
  obtain ⟨_, _, rfl, c2_45, c_45⟩ := st_cons c_44
  obtain ⟨_, _, rfl, c3_46, c_46⟩ := st_cons c_45
  obtain ⟨_, _, rfl, c4_47, c_47⟩ := st_cons c_46
  obtain ⟨_, _, rfl, c5_48, c_48⟩ := st_cons c_47
  obtain ⟨_, _, rfl, h3_49, h_49⟩ := st_cons h_43
  obtain ⟨_, _, rfl, h4_50, h_50⟩ := st_cons h_49
  obtain ⟨_, _, rfl, h5_51, h_51⟩ := st_cons h_50
  obtain ⟨_, _, rfl, h6_52, h_52⟩ := st_cons h_51
  obtain ⟨_, _, rfl, h7_53, h_53⟩ := st_cons h_52
  obtain ⟨_, _, rfl, h8_54, h_54⟩ := st_cons h_53
  obtain ⟨_, _, rfl, h9_55, h_55⟩ := st_cons h_54
  obtain ⟨_, _, rfl, h10_56, h_56⟩ := st_cons h_55
  obtain ⟨y1, rfl⟩ := int_sh m1_38
  obtain ⟨y2, rfl, _⟩ := slice_sh (fun r h => lane_sh h) m2_39
  obtain ⟨y3, rfl, _⟩ := slice_sh (fun r h => zone_sh h) m3_40
  obtain ⟨y4, rfl, _⟩ := slice_sh (fun r h => sig_sh h) m4_41
  obtain ⟨y5, rfl, _⟩ := slice_sh (fun r h => work_sh h) m5_42
  obtain ⟨z1, rfl⟩ := int_sh c1_44
  obtain ⟨z2, rfl⟩ := int_sh c2_45
  obtain ⟨z3, rfl⟩ := int_sh c3_46
  obtain ⟨z4, rfl⟩ := int_sh c4_47
  obtain ⟨z5, rfl⟩ := int_sh c5_48
  obtain ⟨x3, rfl, _⟩ := slice_sh (fun r h => ag_sh h) h3_49
  obtain ⟨x4, rfl⟩ := int_sh h4_50
  obtain ⟨x5, rfl⟩ := int_sh h5_51
  obtain ⟨x6, rfl⟩ := bool_sh h6_52
  obtain ⟨x7, rfl⟩ := int_sh h7_53
  obtain ⟨x8, rfl⟩ := int_sh h8_54
  obtain ⟨x9, rfl⟩ := int_sh h9_55
  obtain ⟨x10, rfl, _⟩ := slice_sh (fun r h => ev_sh h) h10_56
  rw [st_nil h_56, st_nil m_42, st_nil c_48]
  exact ⟨⟨⟨y1, y2, y3, y4, y5⟩, z1, z2, z3, z4, z5, x3, x4, x5, x6, x7, x8, x9, x10⟩, rfl⟩
end Go.LcRun
set_option maxRecDepth 10000
namespace Go.LcRun
open Go Go.Eng
theorem drop_get {α : Type} {f : α → List Cl} {l r : List α} {i : Nat} {x : α} (hd : l.drop i = x :: r) : i < l.length ∧ (∀ h : i < (l.map f).length, (l.map f)[i] = f x) ∧ l.drop (i + 1) = r ∧ l[i]? = some x := by
  have h1 : i < l.length := by
    have := congrArg List.length hd
    simp at this; omega
  rw [List.drop_eq_getElem_cons h1] at hd
  obtain ⟨e1, e2⟩ := List.cons.inj hd
  exact ⟨h1, fun h => by simp [e1], e2, by rw [List.getElem?_eq_getElem h1, e1]⟩
theorem drop_end {α : Type} {l : List α} {i : Nat} (h : l.drop i = []) (hi : i ≤ l.length) : i = l.length := by
  have := congrArg List.length h
  simp at this
  omega
theorem wrap1 {i : Nat} (h : i < 1000000) : IntKind.i64.wrap ((i : Int) + 1) = ((i + 1 : Nat) : Int) := by
  rw [i64_id _ (by omega) (by omega)]; simp
@[simp] theorem rows1_len (l : List Int) : (rows1 l).length = l.length := by simp [rows1]
@[simp] theorem Pt2.rows_len (l : List Pt2) : (Pt2.rows l).length = l.length := by simp [Pt2.rows]
@[simp] theorem Ln.rows_len (l : List Ln) : (Ln.rows l).length = l.length := by simp [Ln.rows]
@[simp] theorem Pa.rows_len (l : List Pa) : (Pa.rows l).length = l.length := by simp [Pa.rows]
@[simp] theorem Zo.rows_len (l : List Zo) : (Zo.rows l).length = l.length := by simp [Zo.rows]
@[simp] theorem Ph.rows_len (l : List Ph) : (Ph.rows l).length = l.length := by simp [Ph.rows]
@[simp] theorem Sg.rows_len (l : List Sg) : (Sg.rows l).length = l.length := by simp [Sg.rows]
@[simp] theorem Wk.rows_len (l : List Wk) : (Wk.rows l).length = l.length := by simp [Wk.rows]
@[simp] theorem Ag.rows_len (l : List Ag) : (Ag.rows l).length = l.length := by simp [Ag.rows]
@[simp] theorem Ev.rows_len (l : List Ev) : (Ev.rows l).length = l.length := by simp [Ev.rows]
theorem eq_Pt2 (x y : Pt2) : eqCells [false, false] [I x.x, I x.y] [I y.x, I y.y] = some (decide (x = y)) := by
  obtain ⟨x0, x1⟩ := x
  obtain ⟨y0, y1⟩ := y
  by_cases h0 : x0 = y0
  case neg => simp [eqCells, eqC1, h0]
  by_cases h1 : x1 = y1
  case neg => simp [eqCells, eqC1, h0, h1]
  simp [eqCells, eqC1, h0, h1]
theorem eq_Pa (x y : Pa) : eqCells [false, false, false, false] [I x.lane, I x.fr, I x.to, I x.rank] [I y.lane, I y.fr, I y.to, I y.rank] = some (decide (x = y)) := by
  obtain ⟨x0, x1, x2, x3⟩ := x
  obtain ⟨y0, y1, y2, y3⟩ := y
  by_cases h0 : x0 = y0
  case neg => simp [eqCells, eqC1, h0]
  by_cases h1 : x1 = y1
  case neg => simp [eqCells, eqC1, h0, h1]
  by_cases h2 : x2 = y2
  case neg => simp [eqCells, eqC1, h0, h1, h2]
  by_cases h3 : x3 = y3
  case neg => simp [eqCells, eqC1, h0, h1, h2, h3]
  simp [eqCells, eqC1, h0, h1, h2, h3]
theorem eq_Wk (x y : Wk) : eqCells [false, false, false, false, false, false] [I x.lane, I x.fr, I x.to, I x.bg, I x.en, I x.lim] [I y.lane, I y.fr, I y.to, I y.bg, I y.en, I y.lim] = some (decide (x = y)) := by
  obtain ⟨x0, x1, x2, x3, x4, x5⟩ := x
  obtain ⟨y0, y1, y2, y3, y4, y5⟩ := y
  by_cases h0 : x0 = y0
  case neg => simp [eqCells, eqC1, h0]
  by_cases h1 : x1 = y1
  case neg => simp [eqCells, eqC1, h0, h1]
  by_cases h2 : x2 = y2
  case neg => simp [eqCells, eqC1, h0, h1, h2]
  by_cases h3 : x3 = y3
  case neg => simp [eqCells, eqC1, h0, h1, h2, h3]
  by_cases h4 : x4 = y4
  case neg => simp [eqCells, eqC1, h0, h1, h2, h3, h4]
  by_cases h5 : x5 = y5
  case neg => simp [eqCells, eqC1, h0, h1, h2, h3, h4, h5]
  simp [eqCells, eqC1, h0, h1, h2, h3, h4, h5]
theorem eq_Ev (x y : Ev) : eqCells [false, false, false, false, false] [I x.kind, I x.tick, I x.til, I x.agent, I x.n] [I y.kind, I y.tick, I y.til, I y.agent, I y.n] = some (decide (x = y)) := by
  obtain ⟨x0, x1, x2, x3, x4⟩ := x
  obtain ⟨y0, y1, y2, y3, y4⟩ := y
  by_cases h0 : x0 = y0
  case neg => simp [eqCells, eqC1, h0]
  by_cases h1 : x1 = y1
  case neg => simp [eqCells, eqC1, h0, h1]
  by_cases h2 : x2 = y2
  case neg => simp [eqCells, eqC1, h0, h1, h2]
  by_cases h3 : x3 = y3
  case neg => simp [eqCells, eqC1, h0, h1, h2, h3]
  by_cases h4 : x4 = y4
  case neg => simp [eqCells, eqC1, h0, h1, h2, h3, h4]
  simp [eqCells, eqC1, h0, h1, h2, h3, h4]
set_option maxHeartbeats 1000000 in
theorem Equal_int_loop (a b : List Int) (hab : a.length = b.length) (hl : a.length ≤ 1000) : ∀ (r r' : List Int) (i : Nat), a.drop i = r → b.drop i = r' → i ≤ a.length →
    ∃ E', Y L Cs c_slices_Equal_int_l1 (some [12, 0, 1, 13]) 0 [(12, .w (W a.length)), (0, .w (.c (.rslice (rows1 a)))), (1, .w (.c (.rslice (rows1 b)))), (13, .w (W i))] [] = some (if r = r' then (.exit 0, E', []) else (.ret, [(4, .w (Bo false))], []))
  | [], r', i, hd, hd', hi => by
    obtain rfl := drop_end hd hi
    have : r' = [] := by rw [← hd']; exact List.drop_of_length_le (by omega)
    subst this
    rw [Y_step c_slices_Equal_int_l1.eq_1]
    simp
  | x :: r, [], i, hd, hd', hi => by
    obtain ⟨h1, _, _, _⟩ := drop_get (f := (fun x : Int => [I x])) hd
    have := congrArg List.length hd'
    simp at this; omega
  | x :: r, y :: r', i, hd, hd', hi => by
    obtain ⟨h1, h2, h3, _⟩ := drop_get (f := (fun x : Int => [I x])) hd
    obtain ⟨h1', h2', h3', _⟩ := drop_get (f := (fun x : Int => [I x])) hd'
    obtain ⟨E', ih⟩ := Equal_int_loop a b hab hl r r' (i + 1) h3 h3' (by omega)
    have w1 := wrap1 (i := i) (by omega)
    refine ⟨E', ?_⟩
    rw [Y_step c_slices_Equal_int_l1.eq_1]
    unfold rows1 at *
    by_cases hxy : x = y
    · subst hxy
      simp only [List.cons.injEq, true_and]
      rw [← ih]
      simp [h1, h1', h2, h2', w1]
    · have hne : ¬(x :: r = y :: r') := fun e => hxy (List.cons.inj e).1
      rw [if_neg hne]
      simp [h1, h1', h2, h2', w1, hxy]
theorem R_Equal_int (a b : List Int) (hl : a.length ≤ 1000) : R L Cs f_slices_Equal_int [.c (.rslice (rows1 a)), .c (.rslice (rows1 b))] [] = some (.w (Bo (decide (a = b))), []) := by
  rw [R_fn F_slices_Equal_int rfl]
  by_cases hab : a.length = b.length
  · obtain ⟨E', hY⟩ := Equal_int_loop a b hab hl a b 0 rfl rfl (Nat.zero_le _)
    by_cases h : a = b
    · subst h
      simp at hY
      simp [c_slices_Equal_int, hY]
    · simp [h, hab] at hY
      simp [c_slices_Equal_int, hab, hY, h]
  · have h : a ≠ b := fun e => hab (by rw [e])
    have hab' : ¬ ((a.length : Int) = b.length) := by omega
    simp [c_slices_Equal_int, hab, hab', h]
set_option maxHeartbeats 1000000 in
theorem Equal_Spot_loop (a b : List Pt2) (hab : a.length = b.length) (hl : a.length ≤ 1000) : ∀ (r r' : List Pt2) (i : Nat), a.drop i = r → b.drop i = r' → i ≤ a.length →
    ∃ E', Y L Cs c_slices_Equal_Spot_l1 (some [12, 0, 1, 13]) 0 [(12, .w (W a.length)), (0, .w (.c (.rslice (Pt2.rows a)))), (1, .w (.c (.rslice (Pt2.rows b)))), (13, .w (W i))] [] = some (if r = r' then (.exit 0, E', []) else (.ret, [(4, .w (Bo false))], []))
  | [], r', i, hd, hd', hi => by
    obtain rfl := drop_end hd hi
    have : r' = [] := by rw [← hd']; exact List.drop_of_length_le (by omega)
    subst this
    rw [Y_step c_slices_Equal_Spot_l1.eq_1]
    simp
  | x :: r, [], i, hd, hd', hi => by
    obtain ⟨h1, _, _, _⟩ := drop_get (f := Pt2.C) hd
    have := congrArg List.length hd'
    simp at this; omega
  | x :: r, y :: r', i, hd, hd', hi => by
    obtain ⟨h1, h2, h3, _⟩ := drop_get (f := Pt2.C) hd
    obtain ⟨h1', h2', h3', _⟩ := drop_get (f := Pt2.C) hd'
    obtain ⟨E', ih⟩ := Equal_Spot_loop a b hab hl r r' (i + 1) h3 h3' (by omega)
    have w1 := wrap1 (i := i) (by omega)
    refine ⟨E', ?_⟩
    rw [Y_step c_slices_Equal_Spot_l1.eq_1]
    unfold Pt2.rows at *
    by_cases hxy : x = y
    · subst hxy
      simp only [List.cons.injEq, true_and]
      rw [← ih]
      simp [h1, h1', h2, h2', w1, -eqCells, eq_Pt2]
    · have hne : ¬(x :: r = y :: r') := fun e => hxy (List.cons.inj e).1
      rw [if_neg hne]
      simp [h1, h1', h2, h2', w1, -eqCells, eq_Pt2, hxy]
theorem R_Equal_Spot (a b : List Pt2) (hl : a.length ≤ 1000) : R L Cs f_slices_Equal_Spot [.c (.rslice (Pt2.rows a)), .c (.rslice (Pt2.rows b))] [] = some (.w (Bo (decide (a = b))), []) := by
  rw [R_fn F_slices_Equal_Spot rfl]
  by_cases hab : a.length = b.length
  · obtain ⟨E', hY⟩ := Equal_Spot_loop a b hab hl a b 0 rfl rfl (Nat.zero_le _)
    by_cases h : a = b
    · subst h
      simp at hY
      simp [c_slices_Equal_Spot, hY]
    · simp [h, hab] at hY
      simp [c_slices_Equal_Spot, hab, hY, h]
  · have h : a ≠ b := fun e => hab (by rw [e])
    have hab' : ¬ ((a.length : Int) = b.length) := by omega
    simp [c_slices_Equal_Spot, hab, hab', h]
set_option maxHeartbeats 1000000 in
theorem Equal_Part_loop (a b : List Pa) (hab : a.length = b.length) (hl : a.length ≤ 1000) : ∀ (r r' : List Pa) (i : Nat), a.drop i = r → b.drop i = r' → i ≤ a.length →
    ∃ E', Y L Cs c_slices_Equal_Part_l1 (some [12, 0, 1, 13]) 0 [(12, .w (W a.length)), (0, .w (.c (.rslice (Pa.rows a)))), (1, .w (.c (.rslice (Pa.rows b)))), (13, .w (W i))] [] = some (if r = r' then (.exit 0, E', []) else (.ret, [(4, .w (Bo false))], []))
  | [], r', i, hd, hd', hi => by
    obtain rfl := drop_end hd hi
    have : r' = [] := by rw [← hd']; exact List.drop_of_length_le (by omega)
    subst this
    rw [Y_step c_slices_Equal_Part_l1.eq_1]
    simp
  | x :: r, [], i, hd, hd', hi => by
    obtain ⟨h1, _, _, _⟩ := drop_get (f := Pa.C) hd
    have := congrArg List.length hd'
    simp at this; omega
  | x :: r, y :: r', i, hd, hd', hi => by
    obtain ⟨h1, h2, h3, _⟩ := drop_get (f := Pa.C) hd
    obtain ⟨h1', h2', h3', _⟩ := drop_get (f := Pa.C) hd'
    obtain ⟨E', ih⟩ := Equal_Part_loop a b hab hl r r' (i + 1) h3 h3' (by omega)
    have w1 := wrap1 (i := i) (by omega)
    refine ⟨E', ?_⟩
    rw [Y_step c_slices_Equal_Part_l1.eq_1]
    unfold Pa.rows at *
    by_cases hxy : x = y
    · subst hxy
      simp only [List.cons.injEq, true_and]
      rw [← ih]
      simp [h1, h1', h2, h2', w1, -eqCells, eq_Pa]
    · have hne : ¬(x :: r = y :: r') := fun e => hxy (List.cons.inj e).1
      rw [if_neg hne]
      simp [h1, h1', h2, h2', w1, -eqCells, eq_Pa, hxy]
theorem R_Equal_Part (a b : List Pa) (hl : a.length ≤ 1000) : R L Cs f_slices_Equal_Part [.c (.rslice (Pa.rows a)), .c (.rslice (Pa.rows b))] [] = some (.w (Bo (decide (a = b))), []) := by
  rw [R_fn F_slices_Equal_Part rfl]
  by_cases hab : a.length = b.length
  · obtain ⟨E', hY⟩ := Equal_Part_loop a b hab hl a b 0 rfl rfl (Nat.zero_le _)
    by_cases h : a = b
    · subst h
      simp at hY
      simp [c_slices_Equal_Part, hY]
    · simp [h, hab] at hY
      simp [c_slices_Equal_Part, hab, hY, h]
  · have h : a ≠ b := fun e => hab (by rw [e])
    have hab' : ¬ ((a.length : Int) = b.length) := by omega
    simp [c_slices_Equal_Part, hab, hab', h]
set_option maxHeartbeats 1000000 in
theorem Equal_Work_loop (a b : List Wk) (hab : a.length = b.length) (hl : a.length ≤ 1000) : ∀ (r r' : List Wk) (i : Nat), a.drop i = r → b.drop i = r' → i ≤ a.length →
    ∃ E', Y L Cs c_slices_Equal_Work_l1 (some [12, 0, 1, 13]) 0 [(12, .w (W a.length)), (0, .w (.c (.rslice (Wk.rows a)))), (1, .w (.c (.rslice (Wk.rows b)))), (13, .w (W i))] [] = some (if r = r' then (.exit 0, E', []) else (.ret, [(4, .w (Bo false))], []))
  | [], r', i, hd, hd', hi => by
    obtain rfl := drop_end hd hi
    have : r' = [] := by rw [← hd']; exact List.drop_of_length_le (by omega)
    subst this
    rw [Y_step c_slices_Equal_Work_l1.eq_1]
    simp
  | x :: r, [], i, hd, hd', hi => by
    obtain ⟨h1, _, _, _⟩ := drop_get (f := Wk.C) hd
    have := congrArg List.length hd'
    simp at this; omega
  | x :: r, y :: r', i, hd, hd', hi => by
    obtain ⟨h1, h2, h3, _⟩ := drop_get (f := Wk.C) hd
    obtain ⟨h1', h2', h3', _⟩ := drop_get (f := Wk.C) hd'
    obtain ⟨E', ih⟩ := Equal_Work_loop a b hab hl r r' (i + 1) h3 h3' (by omega)
    have w1 := wrap1 (i := i) (by omega)
    refine ⟨E', ?_⟩
    rw [Y_step c_slices_Equal_Work_l1.eq_1]
    unfold Wk.rows at *
    by_cases hxy : x = y
    · subst hxy
      simp only [List.cons.injEq, true_and]
      rw [← ih]
      simp [h1, h1', h2, h2', w1, -eqCells, eq_Wk]
    · have hne : ¬(x :: r = y :: r') := fun e => hxy (List.cons.inj e).1
      rw [if_neg hne]
      simp [h1, h1', h2, h2', w1, -eqCells, eq_Wk, hxy]
theorem R_Equal_Work (a b : List Wk) (hl : a.length ≤ 1000) : R L Cs f_slices_Equal_Work [.c (.rslice (Wk.rows a)), .c (.rslice (Wk.rows b))] [] = some (.w (Bo (decide (a = b))), []) := by
  rw [R_fn F_slices_Equal_Work rfl]
  by_cases hab : a.length = b.length
  · obtain ⟨E', hY⟩ := Equal_Work_loop a b hab hl a b 0 rfl rfl (Nat.zero_le _)
    by_cases h : a = b
    · subst h
      simp at hY
      simp [c_slices_Equal_Work, hY]
    · simp [h, hab] at hY
      simp [c_slices_Equal_Work, hab, hY, h]
  · have h : a ≠ b := fun e => hab (by rw [e])
    have hab' : ¬ ((a.length : Int) = b.length) := by omega
    simp [c_slices_Equal_Work, hab, hab', h]
set_option maxHeartbeats 1000000 in
theorem Equal_Event_loop (a b : List Ev) (hab : a.length = b.length) (hl : a.length ≤ 1000) : ∀ (r r' : List Ev) (i : Nat), a.drop i = r → b.drop i = r' → i ≤ a.length →
    ∃ E', Y L Cs c_slices_Equal_Event_l1 (some [12, 0, 1, 13]) 0 [(12, .w (W a.length)), (0, .w (.c (.rslice (Ev.rows a)))), (1, .w (.c (.rslice (Ev.rows b)))), (13, .w (W i))] [] = some (if r = r' then (.exit 0, E', []) else (.ret, [(4, .w (Bo false))], []))
  | [], r', i, hd, hd', hi => by
    obtain rfl := drop_end hd hi
    have : r' = [] := by rw [← hd']; exact List.drop_of_length_le (by omega)
    subst this
    rw [Y_step c_slices_Equal_Event_l1.eq_1]
    simp
  | x :: r, [], i, hd, hd', hi => by
    obtain ⟨h1, _, _, _⟩ := drop_get (f := Ev.C) hd
    have := congrArg List.length hd'
    simp at this; omega
  | x :: r, y :: r', i, hd, hd', hi => by
    obtain ⟨h1, h2, h3, _⟩ := drop_get (f := Ev.C) hd
    obtain ⟨h1', h2', h3', _⟩ := drop_get (f := Ev.C) hd'
    obtain ⟨E', ih⟩ := Equal_Event_loop a b hab hl r r' (i + 1) h3 h3' (by omega)
    have w1 := wrap1 (i := i) (by omega)
    refine ⟨E', ?_⟩
    rw [Y_step c_slices_Equal_Event_l1.eq_1]
    unfold Ev.rows at *
    by_cases hxy : x = y
    · subst hxy
      simp only [List.cons.injEq, true_and]
      rw [← ih]
      simp [h1, h1', h2, h2', w1, -eqCells, eq_Ev]
    · have hne : ¬(x :: r = y :: r') := fun e => hxy (List.cons.inj e).1
      rw [if_neg hne]
      simp [h1, h1', h2, h2', w1, -eqCells, eq_Ev, hxy]
theorem R_Equal_Event (a b : List Ev) (hl : a.length ≤ 1000) : R L Cs f_slices_Equal_Event [.c (.rslice (Ev.rows a)), .c (.rslice (Ev.rows b))] [] = some (.w (Bo (decide (a = b))), []) := by
  rw [R_fn F_slices_Equal_Event rfl]
  by_cases hab : a.length = b.length
  · obtain ⟨E', hY⟩ := Equal_Event_loop a b hab hl a b 0 rfl rfl (Nat.zero_le _)
    by_cases h : a = b
    · subst h
      simp at hY
      simp [c_slices_Equal_Event, hY]
    · simp [h, hab] at hY
      simp [c_slices_Equal_Event, hab, hY, h]
  · have h : a ≠ b := fun e => hab (by rw [e])
    have hab' : ¬ ((a.length : Int) = b.length) := by omega
    simp [c_slices_Equal_Event, hab, hab', h]
set_option maxHeartbeats 1000000 in
theorem EqualFunc_Agent_loop (f : Nat) (hf0 : ∀ x, headOK f [.a x] = true) (a b : List Ag) (hf : ∀ x ∈ a, ∀ y, R L Cs f [.a x.C, .a y.C] [] = some (.w (Bo (decide (x = y))), [])) (hab : a.length = b.length) (hl : a.length ≤ 1000) : ∀ (r r' : List Ag) (i : Nat), a.drop i = r → b.drop i = r' → i ≤ a.length →
    ∃ E' M', Y L Cs c_slices_EqualFunc_Agent_l1 (some [16, 15, 1, 2, 17]) 0 [(16, .w (W a.length)), (15, .w (.c (.rslice (Ag.rows a)))), (1, .w (.c (.rslice (Ag.rows b)))), (2, .w (.c (.fn f [] []))), (17, .w (W i))] [] = some (if r = r' then (.exit 0, E', []) else (.ret, [(6, .w (Bo false))], M'))
  | [], r', i, hd, hd', hi => by
    obtain rfl := drop_end hd hi
    have : r' = [] := by rw [← hd']; exact List.drop_of_length_le (by omega)
    subst this
    rw [Y_step c_slices_EqualFunc_Agent_l1.eq_1]
    simp
  | x :: r, [], i, hd, hd', hi => by
    obtain ⟨h1, _, _, _⟩ := drop_get (f := Ag.C) hd
    have := congrArg List.length hd'
    simp at this; omega
  | x :: r, y :: r', i, hd, hd', hi => by
    obtain ⟨h1, h2, h3, h4⟩ := drop_get (f := Ag.C) hd
    obtain ⟨h1', h2', h3', _⟩ := drop_get (f := Ag.C) hd'
    obtain ⟨E', M', ih⟩ := EqualFunc_Agent_loop f hf0 a b hf hab hl r r' (i + 1) h3 h3' (by omega)
    have w1 := wrap1 (i := i) (by omega)
    have hg := hf x (List.mem_of_getElem? h4) y
    by_cases hxy : x = y
    · subst hxy
      refine ⟨E', M', ?_⟩
      rw [Y_step c_slices_EqualFunc_Agent_l1.eq_1]
      unfold Ag.rows at *
      simp only [List.cons.injEq, true_and]
      rw [← ih]
      simp at hg
      simp [h1, h1', h2, h2', w1, hg, hf0]
    · have hne : ¬(x :: r = y :: r') := fun e => hxy (List.cons.inj e).1
      refine ⟨E', [bxv 1 7 x.C, bxv 1 7 y.C], ?_⟩
      rw [Y_step c_slices_EqualFunc_Agent_l1.eq_1]
      unfold Ag.rows at *
      rw [if_neg hne]
      simp [hxy] at hg
      simp [h1, h1', h2, h2', w1, hg, hf0]
theorem R_EqualFunc_Agent (f : Nat) (hf0 : ∀ x, headOK f [.a x] = true) (a b : List Ag) (hf : ∀ x ∈ a, ∀ y, R L Cs f [.a x.C, .a y.C] [] = some (.w (Bo (decide (x = y))), [])) (hl : a.length ≤ 1000) : R L Cs f_slices_EqualFunc_Agent [.c (.rslice (Ag.rows a)), .c (.rslice (Ag.rows b)), .c (.fn f [] [])] [] = some (.w (Bo (decide (a = b))), []) := by
  rw [R_fn F_slices_EqualFunc_Agent rfl]
  by_cases hab : a.length = b.length
  · obtain ⟨E', M', hY⟩ := EqualFunc_Agent_loop f hf0 a b hf hab hl a b 0 rfl rfl (Nat.zero_le _)
    by_cases h : a = b
    · subst h
      simp at hY
      simp [c_slices_EqualFunc_Agent, hY]
    · simp [h, hab] at hY
      simp [c_slices_EqualFunc_Agent, hab, hY, h]
  · have h : a ≠ b := fun e => hab (by rw [e])
    have hab' : ¬ ((a.length : Int) = b.length) := by omega
    simp [c_slices_EqualFunc_Agent, hab, hab', h]
set_option maxHeartbeats 1000000 in
theorem EqualFunc_Lane_loop (f : Nat) (hf0 : ∀ x, headOK f [.a x] = true) (a b : List Ln) (hf : ∀ x ∈ a, ∀ y, R L Cs f [.a x.C, .a y.C] [] = some (.w (Bo (decide (x = y))), [])) (hab : a.length = b.length) (hl : a.length ≤ 1000) : ∀ (r r' : List Ln) (i : Nat), a.drop i = r → b.drop i = r' → i ≤ a.length →
    ∃ E' M', Y L Cs c_slices_EqualFunc_Lane_l1 (some [16, 15, 1, 2, 17]) 0 [(16, .w (W a.length)), (15, .w (.c (.rslice (Ln.rows a)))), (1, .w (.c (.rslice (Ln.rows b)))), (2, .w (.c (.fn f [] []))), (17, .w (W i))] [] = some (if r = r' then (.exit 0, E', []) else (.ret, [(6, .w (Bo false))], M'))
  | [], r', i, hd, hd', hi => by
    obtain rfl := drop_end hd hi
    have : r' = [] := by rw [← hd']; exact List.drop_of_length_le (by omega)
    subst this
    rw [Y_step c_slices_EqualFunc_Lane_l1.eq_1]
    simp
  | x :: r, [], i, hd, hd', hi => by
    obtain ⟨h1, _, _, _⟩ := drop_get (f := Ln.C) hd
    have := congrArg List.length hd'
    simp at this; omega
  | x :: r, y :: r', i, hd, hd', hi => by
    obtain ⟨h1, h2, h3, h4⟩ := drop_get (f := Ln.C) hd
    obtain ⟨h1', h2', h3', _⟩ := drop_get (f := Ln.C) hd'
    obtain ⟨E', M', ih⟩ := EqualFunc_Lane_loop f hf0 a b hf hab hl r r' (i + 1) h3 h3' (by omega)
    have w1 := wrap1 (i := i) (by omega)
    have hg := hf x (List.mem_of_getElem? h4) y
    by_cases hxy : x = y
    · subst hxy
      refine ⟨E', M', ?_⟩
      rw [Y_step c_slices_EqualFunc_Lane_l1.eq_1]
      unfold Ln.rows at *
      simp only [List.cons.injEq, true_and]
      rw [← ih]
      simp at hg
      simp [h1, h1', h2, h2', w1, hg, hf0]
    · have hne : ¬(x :: r = y :: r') := fun e => hxy (List.cons.inj e).1
      refine ⟨E', [bxv 1 5 x.C, bxv 1 5 y.C], ?_⟩
      rw [Y_step c_slices_EqualFunc_Lane_l1.eq_1]
      unfold Ln.rows at *
      rw [if_neg hne]
      simp [hxy] at hg
      simp [h1, h1', h2, h2', w1, hg, hf0]
theorem R_EqualFunc_Lane (f : Nat) (hf0 : ∀ x, headOK f [.a x] = true) (a b : List Ln) (hf : ∀ x ∈ a, ∀ y, R L Cs f [.a x.C, .a y.C] [] = some (.w (Bo (decide (x = y))), [])) (hl : a.length ≤ 1000) : R L Cs f_slices_EqualFunc_Lane [.c (.rslice (Ln.rows a)), .c (.rslice (Ln.rows b)), .c (.fn f [] [])] [] = some (.w (Bo (decide (a = b))), []) := by
  rw [R_fn F_slices_EqualFunc_Lane rfl]
  by_cases hab : a.length = b.length
  · obtain ⟨E', M', hY⟩ := EqualFunc_Lane_loop f hf0 a b hf hab hl a b 0 rfl rfl (Nat.zero_le _)
    by_cases h : a = b
    · subst h
      simp at hY
      simp [c_slices_EqualFunc_Lane, hY]
    · simp [h, hab] at hY
      simp [c_slices_EqualFunc_Lane, hab, hY, h]
  · have h : a ≠ b := fun e => hab (by rw [e])
    have hab' : ¬ ((a.length : Int) = b.length) := by omega
    simp [c_slices_EqualFunc_Lane, hab, hab', h]
set_option maxHeartbeats 1000000 in
theorem EqualFunc_Zone_loop (f : Nat) (hf0 : ∀ x, headOK f [.a x] = true) (a b : List Zo) (hf : ∀ x ∈ a, ∀ y, R L Cs f [.a x.C, .a y.C] [] = some (.w (Bo (decide (x = y))), [])) (hab : a.length = b.length) (hl : a.length ≤ 1000) : ∀ (r r' : List Zo) (i : Nat), a.drop i = r → b.drop i = r' → i ≤ a.length →
    ∃ E' M', Y L Cs c_slices_EqualFunc_Zone_l1 (some [16, 15, 1, 2, 17]) 0 [(16, .w (W a.length)), (15, .w (.c (.rslice (Zo.rows a)))), (1, .w (.c (.rslice (Zo.rows b)))), (2, .w (.c (.fn f [] []))), (17, .w (W i))] [] = some (if r = r' then (.exit 0, E', []) else (.ret, [(6, .w (Bo false))], M'))
  | [], r', i, hd, hd', hi => by
    obtain rfl := drop_end hd hi
    have : r' = [] := by rw [← hd']; exact List.drop_of_length_le (by omega)
    subst this
    rw [Y_step c_slices_EqualFunc_Zone_l1.eq_1]
    simp
  | x :: r, [], i, hd, hd', hi => by
    obtain ⟨h1, _, _, _⟩ := drop_get (f := Zo.C) hd
    have := congrArg List.length hd'
    simp at this; omega
  | x :: r, y :: r', i, hd, hd', hi => by
    obtain ⟨h1, h2, h3, h4⟩ := drop_get (f := Zo.C) hd
    obtain ⟨h1', h2', h3', _⟩ := drop_get (f := Zo.C) hd'
    obtain ⟨E', M', ih⟩ := EqualFunc_Zone_loop f hf0 a b hf hab hl r r' (i + 1) h3 h3' (by omega)
    have w1 := wrap1 (i := i) (by omega)
    have hg := hf x (List.mem_of_getElem? h4) y
    by_cases hxy : x = y
    · subst hxy
      refine ⟨E', M', ?_⟩
      rw [Y_step c_slices_EqualFunc_Zone_l1.eq_1]
      unfold Zo.rows at *
      simp only [List.cons.injEq, true_and]
      rw [← ih]
      simp at hg
      simp [h1, h1', h2, h2', w1, hg, hf0]
    · have hne : ¬(x :: r = y :: r') := fun e => hxy (List.cons.inj e).1
      refine ⟨E', [bxv 1 2 x.C, bxv 1 2 y.C], ?_⟩
      rw [Y_step c_slices_EqualFunc_Zone_l1.eq_1]
      unfold Zo.rows at *
      rw [if_neg hne]
      simp [hxy] at hg
      simp [h1, h1', h2, h2', w1, hg, hf0]
theorem R_EqualFunc_Zone (f : Nat) (hf0 : ∀ x, headOK f [.a x] = true) (a b : List Zo) (hf : ∀ x ∈ a, ∀ y, R L Cs f [.a x.C, .a y.C] [] = some (.w (Bo (decide (x = y))), [])) (hl : a.length ≤ 1000) : R L Cs f_slices_EqualFunc_Zone [.c (.rslice (Zo.rows a)), .c (.rslice (Zo.rows b)), .c (.fn f [] [])] [] = some (.w (Bo (decide (a = b))), []) := by
  rw [R_fn F_slices_EqualFunc_Zone rfl]
  by_cases hab : a.length = b.length
  · obtain ⟨E', M', hY⟩ := EqualFunc_Zone_loop f hf0 a b hf hab hl a b 0 rfl rfl (Nat.zero_le _)
    by_cases h : a = b
    · subst h
      simp at hY
      simp [c_slices_EqualFunc_Zone, hY]
    · simp [h, hab] at hY
      simp [c_slices_EqualFunc_Zone, hab, hY, h]
  · have h : a ≠ b := fun e => hab (by rw [e])
    have hab' : ¬ ((a.length : Int) = b.length) := by omega
    simp [c_slices_EqualFunc_Zone, hab, hab', h]
set_option maxHeartbeats 1000000 in
theorem EqualFunc_Signal_loop (f : Nat) (hf0 : ∀ x, headOK f [.a x] = true) (a b : List Sg) (hf : ∀ x ∈ a, ∀ y, R L Cs f [.a x.C, .a y.C] [] = some (.w (Bo (decide (x = y))), [])) (hab : a.length = b.length) (hl : a.length ≤ 1000) : ∀ (r r' : List Sg) (i : Nat), a.drop i = r → b.drop i = r' → i ≤ a.length →
    ∃ E' M', Y L Cs c_slices_EqualFunc_Signal_l1 (some [16, 15, 1, 2, 17]) 0 [(16, .w (W a.length)), (15, .w (.c (.rslice (Sg.rows a)))), (1, .w (.c (.rslice (Sg.rows b)))), (2, .w (.c (.fn f [] []))), (17, .w (W i))] [] = some (if r = r' then (.exit 0, E', []) else (.ret, [(6, .w (Bo false))], M'))
  | [], r', i, hd, hd', hi => by
    obtain rfl := drop_end hd hi
    have : r' = [] := by rw [← hd']; exact List.drop_of_length_le (by omega)
    subst this
    rw [Y_step c_slices_EqualFunc_Signal_l1.eq_1]
    simp
  | x :: r, [], i, hd, hd', hi => by
    obtain ⟨h1, _, _, _⟩ := drop_get (f := Sg.C) hd
    have := congrArg List.length hd'
    simp at this; omega
  | x :: r, y :: r', i, hd, hd', hi => by
    obtain ⟨h1, h2, h3, h4⟩ := drop_get (f := Sg.C) hd
    obtain ⟨h1', h2', h3', _⟩ := drop_get (f := Sg.C) hd'
    obtain ⟨E', M', ih⟩ := EqualFunc_Signal_loop f hf0 a b hf hab hl r r' (i + 1) h3 h3' (by omega)
    have w1 := wrap1 (i := i) (by omega)
    have hg := hf x (List.mem_of_getElem? h4) y
    by_cases hxy : x = y
    · subst hxy
      refine ⟨E', M', ?_⟩
      rw [Y_step c_slices_EqualFunc_Signal_l1.eq_1]
      unfold Sg.rows at *
      simp only [List.cons.injEq, true_and]
      rw [← ih]
      simp at hg
      simp [h1, h1', h2, h2', w1, hg, hf0]
    · have hne : ¬(x :: r = y :: r') := fun e => hxy (List.cons.inj e).1
      refine ⟨E', [bxv 1 2 x.C, bxv 1 2 y.C], ?_⟩
      rw [Y_step c_slices_EqualFunc_Signal_l1.eq_1]
      unfold Sg.rows at *
      rw [if_neg hne]
      simp [hxy] at hg
      simp [h1, h1', h2, h2', w1, hg, hf0]
theorem R_EqualFunc_Signal (f : Nat) (hf0 : ∀ x, headOK f [.a x] = true) (a b : List Sg) (hf : ∀ x ∈ a, ∀ y, R L Cs f [.a x.C, .a y.C] [] = some (.w (Bo (decide (x = y))), [])) (hl : a.length ≤ 1000) : R L Cs f_slices_EqualFunc_Signal [.c (.rslice (Sg.rows a)), .c (.rslice (Sg.rows b)), .c (.fn f [] [])] [] = some (.w (Bo (decide (a = b))), []) := by
  rw [R_fn F_slices_EqualFunc_Signal rfl]
  by_cases hab : a.length = b.length
  · obtain ⟨E', M', hY⟩ := EqualFunc_Signal_loop f hf0 a b hf hab hl a b 0 rfl rfl (Nat.zero_le _)
    by_cases h : a = b
    · subst h
      simp at hY
      simp [c_slices_EqualFunc_Signal, hY]
    · simp [h, hab] at hY
      simp [c_slices_EqualFunc_Signal, hab, hY, h]
  · have h : a ≠ b := fun e => hab (by rw [e])
    have hab' : ¬ ((a.length : Int) = b.length) := by omega
    simp [c_slices_EqualFunc_Signal, hab, hab', h]
set_option maxHeartbeats 1000000 in
theorem EqualFunc_Phase_loop (f : Nat) (hf0 : ∀ x, headOK f [.a x] = true) (a b : List Ph) (hf : ∀ x ∈ a, ∀ y, R L Cs f [.a x.C, .a y.C] [] = some (.w (Bo (decide (x = y))), [])) (hab : a.length = b.length) (hl : a.length ≤ 1000) : ∀ (r r' : List Ph) (i : Nat), a.drop i = r → b.drop i = r' → i ≤ a.length →
    ∃ E' M', Y L Cs c_slices_EqualFunc_Phase_l1 (some [16, 15, 1, 2, 17]) 0 [(16, .w (W a.length)), (15, .w (.c (.rslice (Ph.rows a)))), (1, .w (.c (.rslice (Ph.rows b)))), (2, .w (.c (.fn f [] []))), (17, .w (W i))] [] = some (if r = r' then (.exit 0, E', []) else (.ret, [(6, .w (Bo false))], M'))
  | [], r', i, hd, hd', hi => by
    obtain rfl := drop_end hd hi
    have : r' = [] := by rw [← hd']; exact List.drop_of_length_le (by omega)
    subst this
    rw [Y_step c_slices_EqualFunc_Phase_l1.eq_1]
    simp
  | x :: r, [], i, hd, hd', hi => by
    obtain ⟨h1, _, _, _⟩ := drop_get (f := Ph.C) hd
    have := congrArg List.length hd'
    simp at this; omega
  | x :: r, y :: r', i, hd, hd', hi => by
    obtain ⟨h1, h2, h3, h4⟩ := drop_get (f := Ph.C) hd
    obtain ⟨h1', h2', h3', _⟩ := drop_get (f := Ph.C) hd'
    obtain ⟨E', M', ih⟩ := EqualFunc_Phase_loop f hf0 a b hf hab hl r r' (i + 1) h3 h3' (by omega)
    have w1 := wrap1 (i := i) (by omega)
    have hg := hf x (List.mem_of_getElem? h4) y
    by_cases hxy : x = y
    · subst hxy
      refine ⟨E', M', ?_⟩
      rw [Y_step c_slices_EqualFunc_Phase_l1.eq_1]
      unfold Ph.rows at *
      simp only [List.cons.injEq, true_and]
      rw [← ih]
      simp at hg
      simp [h1, h1', h2, h2', w1, hg, hf0]
    · have hne : ¬(x :: r = y :: r') := fun e => hxy (List.cons.inj e).1
      refine ⟨E', [bxv 1 2 x.C, bxv 1 2 y.C], ?_⟩
      rw [Y_step c_slices_EqualFunc_Phase_l1.eq_1]
      unfold Ph.rows at *
      rw [if_neg hne]
      simp [hxy] at hg
      simp [h1, h1', h2, h2', w1, hg, hf0]
theorem R_EqualFunc_Phase (f : Nat) (hf0 : ∀ x, headOK f [.a x] = true) (a b : List Ph) (hf : ∀ x ∈ a, ∀ y, R L Cs f [.a x.C, .a y.C] [] = some (.w (Bo (decide (x = y))), [])) (hl : a.length ≤ 1000) : R L Cs f_slices_EqualFunc_Phase [.c (.rslice (Ph.rows a)), .c (.rslice (Ph.rows b)), .c (.fn f [] [])] [] = some (.w (Bo (decide (a = b))), []) := by
  rw [R_fn F_slices_EqualFunc_Phase rfl]
  by_cases hab : a.length = b.length
  · obtain ⟨E', M', hY⟩ := EqualFunc_Phase_loop f hf0 a b hf hab hl a b 0 rfl rfl (Nat.zero_le _)
    by_cases h : a = b
    · subst h
      simp at hY
      simp [c_slices_EqualFunc_Phase, hY]
    · simp [h, hab] at hY
      simp [c_slices_EqualFunc_Phase, hab, hY, h]
  · have h : a ≠ b := fun e => hab (by rw [e])
    have hab' : ¬ ((a.length : Int) = b.length) := by omega
    simp [c_slices_EqualFunc_Phase, hab, hab', h]
end Go.LcRun
set_option maxRecDepth 10000
namespace Go.LcRun
open Go Go.Eng
def Ln.ok (l : Ln) : Prop := l.pts.length ≤ 1000 ∧ l.next.length ≤ 1000
def Zo.ok (z : Zo) : Prop := z.parts.length ≤ 1000
def Ph.ok (p : Ph) : Prop := p.green.length ≤ 1000
def Sg.ok (s : Sg) : Prop := s.phases.length ≤ 1000 ∧ ∀ p ∈ s.phases, p.ok
def Ag.ok (a : Ag) : Prop := a.route.length ≤ 1000
structure Mp.ok (m : Mp) : Prop where
  l : m.lanes.length ≤ 1000
  z : m.zones.length ≤ 1000
  s : m.sigs.length ≤ 1000
  w : m.works.length ≤ 1000
  ls : ∀ x ∈ m.lanes, x.ok
  zs : ∀ x ∈ m.zones, x.ok
  ss : ∀ x ∈ m.sigs, x.ok
structure Sc.ok (s : Sc) : Prop where
  m : s.map.ok
  a : s.agents.length ≤ 100
  e : s.events.length ≤ 1000
  as : ∀ x ∈ s.agents, x.ok
theorem bf {α : Type} [BEq α] [LawfulBEq α] {a b : α} (h : ¬ a = b) : (a == b) = false := by simpa using h
theorem R_curve_Same (a b : List Pt2) (hl : a.length ≤ 1000) : R L Cs f_curve_Same [.a [.rslice (Pt2.rows a)], .a [.rslice (Pt2.rows b)]] [] = some (.w (Bo (decide (a = b))), []) := by
  have h := R_Equal_Spot a b hl
  rw [R_fn F_curve_Same rfl]
  simp [c_curve_Same, h]
set_option maxHeartbeats 1000000 in
theorem R_sameLane (x y : Ln) (h : x.ok) : R L Cs f_roads_sameLane [.a x.C, .a y.C] [] = some (.w (Bo (decide (x = y))), []) := by
  obtain ⟨k, p, hf, li, nx⟩ := x
  obtain ⟨k', p', hf', li', nx'⟩ := y
  have h1 := R_curve_Same p p' h.1
  have h2 := R_Equal_int nx nx' h.2
  rw [R_fn F_roads_sameLane rfl]
  by_cases e1 : k = k'
  case neg => simp [c_roads_sameLane, e1, bf e1]
  by_cases e2 : hf = hf'
  case neg => simp [c_roads_sameLane, e1, e2, bf e2]
  by_cases e3 : li = li'
  case neg => simp [c_roads_sameLane, e1, e2, e3, bf e3]
  by_cases e4 : p = p'
  case neg =>
    simp [e4] at h1
    simp [c_roads_sameLane, e1, e2, e3, e4, h1]
  simp [e4] at h1
  simp [c_roads_sameLane, e1, e2, e3, e4, h1, h2]
theorem R_sameZone (x y : Zo) (h : x.ok) : R L Cs f_roads_sameZone [.a x.C, .a y.C] [] = some (.w (Bo (decide (x = y))), []) := by
  obtain ⟨p, s⟩ := x
  obtain ⟨p', s'⟩ := y
  have h1 := R_Equal_Part p p' h
  rw [R_fn F_roads_sameZone rfl]
  by_cases e1 : s = s'
  case neg => simp [c_roads_sameZone, e1, bf e1]
  simp [c_roads_sameZone, e1, h1]
theorem R_sameSignal_1 (x y : Ph) (h : x.ok) : R L Cs f_roads_sameSignal_1 [.a x.C, .a y.C] [] = some (.w (Bo (decide (x = y))), []) := by
  obtain ⟨p, s⟩ := x
  obtain ⟨p', s'⟩ := y
  have h1 := R_Equal_int s s' h
  rw [R_fn F_roads_sameSignal_1 rfl]
  by_cases e1 : p = p'
  case neg => simp [c_roads_sameSignal_1, e1, bf e1]
  simp [c_roads_sameSignal_1, e1, h1]
theorem R_sameSignal (x y : Sg) (h : x.ok) : R L Cs f_roads_sameSignal [.a x.C, .a y.C] [] = some (.w (Bo (decide (x = y))), []) := by
  obtain ⟨p, s⟩ := x
  obtain ⟨p', s'⟩ := y
  have h1 := R_EqualFunc_Phase f_roads_sameSignal_1 (fun x => rfl) s s' (fun x hx y => R_sameSignal_1 x y (h.2 x hx)) h.1
  rw [R_fn F_roads_sameSignal rfl]
  by_cases e1 : p = p'
  case neg => simp [c_roads_sameSignal, e1, bf e1]
  simp [c_roads_sameSignal, e1, h1]
set_option maxHeartbeats 1000000 in
theorem R_roads_Same (x y : Mp) (h : x.ok) : R L Cs f_roads_Same [.a x.C, .a y.C] [] = some (.w (Bo (decide (x = y))), []) := by
  obtain ⟨v, l, z, s, w⟩ := x
  obtain ⟨v', l', z', s', w'⟩ := y
  have h1 := R_EqualFunc_Lane f_roads_sameLane (fun x => rfl) l l' (fun x hx y => R_sameLane x y (h.ls x hx)) h.l
  have h2 := R_EqualFunc_Zone f_roads_sameZone (fun x => rfl) z z' (fun x hx y => R_sameZone x y (h.zs x hx)) h.z
  have h3 := R_EqualFunc_Signal f_roads_sameSignal (fun x => rfl) s s' (fun x hx y => R_sameSignal x y (h.ss x hx)) h.s
  have h4 := R_Equal_Work w w' h.w
  rw [R_fn F_roads_Same rfl]
  by_cases e1 : v = v'
  case neg => simp [c_roads_Same, e1, bf e1]
  by_cases e2 : l = l'
  case neg =>
    simp [e2] at h1
    simp [c_roads_Same, e1, e2, h1]
  simp [e2] at h1
  by_cases e3 : z = z'
  case neg =>
    simp [e3] at h2
    simp [c_roads_Same, e1, e2, e3, h1, h2]
  simp [e3] at h2
  by_cases e4 : s = s'
  case neg =>
    simp [e4] at h3
    simp [c_roads_Same, e1, e2, e3, e4, h1, h2, h3]
  simp [e4] at h3
  simp [c_roads_Same, e1, e2, e3, e4, h1, h2, h3, h4]
set_option maxHeartbeats 1000000 in
theorem R_lab_Same_1 (x y : Ag) (h : x.ok) : R L Cs f_lab_Same_1 [.a x.C, .a y.C] [] = some (.w (Bo (decide (x = y))), []) := by
  obtain ⟨r, s, v, l, b, o, g⟩ := x
  obtain ⟨r', s', v', l', b', o', g'⟩ := y
  have h1 := R_Equal_int r r' h
  rw [R_fn F_lab_Same_1 rfl]
  by_cases e1 : r = r'
  case neg =>
    simp [e1] at h1
    simp [c_lab_Same_1, e1, h1]
  simp [e1] at h1
  by_cases e2 : s = s'
  case neg => simp [c_lab_Same_1, e1, e2, h1, bf e2]
  by_cases e3 : v = v'
  case neg => simp [c_lab_Same_1, e1, e2, e3, h1, bf e3]
  by_cases e4 : l = l'
  case neg => simp [c_lab_Same_1, e1, e2, e3, e4, h1, bf e4]
  by_cases e5 : b = b'
  case neg => simp [c_lab_Same_1, e1, e2, e3, e4, e5, h1, bf e5]
  by_cases e6 : o = o'
  case neg => simp [c_lab_Same_1, e1, e2, e3, e4, e5, e6, h1, bf e6]
  by_cases e7 : g = g'
  case neg => simp [c_lab_Same_1, e1, e2, e3, e4, e5, e6, h1, e7]
  simp [c_lab_Same_1, e1, e2, e3, e4, e5, e6, h1, e7]
theorem eq_car (a b c d e a' b' c' d' e' : Int) : eqCells [false, false, false, false, false] [I a, I b, I c, I d, I e] [I a', I b', I c', I d', I e'] = some (decide (a = a' ∧ b = b' ∧ c = c' ∧ d = d' ∧ e = e')) := by
  have := eq_Ev ⟨a, b, c, d, e⟩ ⟨a', b', c', d', e'⟩
  rw [this]
  simp
set_option maxHeartbeats 4000000 in
theorem R_lab_Same (x y : Sc) (h : x.ok) : R L Cs f_lab_Same [.a x.C, .a y.C] [] = some (.w (Bo (decide (x = y))), []) := by
  obtain ⟨m, c1, c2, c3, c4, c5, a, bu, si, sg, ti, vi, se, ev⟩ := x
  obtain ⟨m', c1', c2', c3', c4', c5', a', bu', si', sg', ti', vi', se', ev'⟩ := y
  have h1 := R_roads_Same m m' h.m
  have h2 := R_EqualFunc_Agent f_lab_Same_1 (fun x => rfl) a a' (fun x hx y => R_lab_Same_1 x y (h.as x hx)) (Nat.le_trans h.a (by omega))
  have h3 := R_Equal_Event ev ev' h.e
  have hm : (m = m') = (m.ver = m'.ver ∧ m.lanes = m'.lanes ∧ m.zones = m'.zones ∧ m.sigs = m'.sigs ∧ m.works = m'.works) := by
    obtain ⟨q1, q2, q3, q4, q5⟩ := m
    obtain ⟨r1, r2, r3, r4, r5⟩ := m'
    simp
  rw [R_fn F_lab_Same rfl]
  by_cases e1 : m = m'
  case neg =>
    simp [e1] at h1
    simp [c_lab_Same, e1, h1]
  subst e1
  simp at h1
  by_cases e2 : (c1 = c1' ∧ c2 = c2' ∧ c3 = c3' ∧ c4 = c4' ∧ c5 = c5')
  case neg =>
    have e2' : decide (c1 = c1' ∧ c2 = c2' ∧ c3 = c3' ∧ c4 = c4' ∧ c5 = c5') = false := by simpa using e2
    have e2'' : ¬ (Sc.mk m c1 c2 c3 c4 c5 a bu si sg ti vi se ev = Sc.mk m c1' c2' c3' c4' c5' a' bu' si' sg' ti' vi' se' ev') := fun e => e2 (by simp at e; exact ⟨e.1, e.2.1, e.2.2.1, e.2.2.2.1, e.2.2.2.2.1⟩)
    rw [decide_eq_false e2'']
    simp [c_lab_Same, h1, -eqCells, eq_car, e2', -Bool.decide_and]
  obtain ⟨rfl, rfl, rfl, rfl, rfl⟩ := e2
  by_cases e3 : a = a'
  case neg =>
    simp [e3] at h2
    simp [c_lab_Same, h1, e3, h2]
  subst e3
  simp at h2
  by_cases e4 : ev = ev'
  case neg =>
    simp [e4] at h3
    simp [c_lab_Same, h1, e4, h2, h3]
  subst e4
  simp at h3
  by_cases e5 : bu = bu'
  case neg => simp [c_lab_Same, h1, h2, h3, e5, bf e5]
  by_cases e6 : si = si'
  case neg => simp [c_lab_Same, h1, h2, h3, e5, e6, bf e6]
  by_cases e7 : sg = sg'
  case neg => simp [c_lab_Same, h1, h2, h3, e5, e6, e7, bf e7]
  by_cases e8 : ti = ti'
  case neg => simp [c_lab_Same, h1, h2, h3, e5, e6, e7, e8, bf e8]
  by_cases e9 : vi = vi'
  case neg => simp [c_lab_Same, h1, h2, h3, e5, e6, e7, e8, e9, bf e9]
  by_cases e10 : se = se'
  case neg => simp [c_lab_Same, h1, h2, h3, e5, e6, e7, e8, e9, e10]
  simp [c_lab_Same, h1, h2, h3, e5, e6, e7, e8, e9, e10]
end Go.LcRun
set_option maxRecDepth 10000
namespace Go.LcRun
open Go Go.Eng
def pre {α : Type} [DecidableEq α] : List α → List α → Bool
  | x :: r, y :: s => decide (x = y) && pre r s
  | _, _ => true
theorem pre_eq {α : Type} [DecidableEq α] : ∀ (a b : List α), (pre a b = true ∧ a.length = b.length) ↔ a = b
  | [], [] => by simp [pre]
  | [], y :: b => by simp [pre]
  | x :: a, [] => by simp [pre]
  | x :: a, y :: b => by
    have := pre_eq a b
    simp only [pre, Bool.and_eq_true, decide_eq_true_eq, List.length_cons, List.cons.injEq, Nat.succ.injEq]
    rw [← this]
    constructor
    · rintro ⟨⟨h1, h2⟩, h3⟩; exact ⟨h1, h2, by omega⟩
    · rintro ⟨h1, h2, h3⟩; exact ⟨⟨h1, h2⟩, by omega⟩
theorem pre_false {α : Type} [DecidableEq α] {a b : List α} (h : pre a b = false) : a ≠ b := fun e => by
  have := ((pre_eq a b).2 e).1
  rw [h] at this; cases this
set_option maxHeartbeats 2000000 in
theorem kerbstoneref01_Same_loop1  (a b : List Pt2)  (hab : a.length = b.length) (hl : a.length ≤ 1000) : ∀ (r r' : List Pt2) (i : Nat), a.drop i = r → b.drop i = r' → i ≤ a.length →
    ∃ E', Y L Cs c_kerbstoneref01_Same_l1 (some [2, 3, 5]) 2 [(2, .w (Pt 0)), (3, .w (Pt 1)), (5, .w (W i))] [bx 1 [.rslice (Pt2.rows a)], bx 1 [.rslice (Pt2.rows b)]] = some (if r = r' then (.exit 0, E', [bx 1 [.rslice (Pt2.rows a)], bx 1 [.rslice (Pt2.rows b)]]) else (.ret, [(4, .w (Bo false))], [bx 1 [.rslice (Pt2.rows a)], bx 1 [.rslice (Pt2.rows b)]])) ∧ Env.get E' 2 = some (.w (Pt 0)) ∧ Env.get E' 3 = some (.w (Pt 1))
  | [], r', i, hd, hd', hi => by
    obtain rfl := drop_end hd hi
    have : r' = [] := by rw [← hd']; exact List.drop_of_length_le (by omega)
    subst this
    rw [Y_step c_kerbstoneref01_Same_l1.eq_1]
    simp
  | x :: r, [], i, hd, hd', hi => by
    obtain ⟨h1, _, _, _⟩ := drop_get (f := Pt2.C) hd
    have := congrArg List.length hd'
    simp at this; omega
  | x :: r, y :: r', i, hd, hd', hi => by
    obtain ⟨h1, h2, h3, h4⟩ := drop_get (f := Pt2.C) hd
    obtain ⟨h1', h2', h3', h4'⟩ := drop_get (f := Pt2.C) hd'
    obtain ⟨E', ih, g1, g2⟩ := kerbstoneref01_Same_loop1  a b  hab hl r r' (i + 1) h3 h3' (by omega)
    have w1 := wrap1 (i := i) (by omega)
    refine ⟨E', ?_, g1, g2⟩
    rw [Y_step c_kerbstoneref01_Same_l1.eq_1]
    unfold Pt2.rows at *
    by_cases hxy : x = y
    · subst hxy
      simp only [List.cons.injEq, true_and]
      rw [← ih]
      simp [h1, h1', h2, h2', w1, -eqCells, eq_Pt2]
    · have hne : ¬(x :: r = y :: r') := fun e => hxy (List.cons.inj e).1
      rw [if_neg hne]
      simp [h1, h1', h2, h2', w1, -eqCells, eq_Pt2, hxy]
theorem R_Same01 (a b : List Pt2) (hl : a.length ≤ 1000) : R L Cs f_kerbstoneref01_Same [.a [.rslice (Pt2.rows a)], .a [.rslice (Pt2.rows b)]] [] = some (.w (Bo (decide (a = b))), []) := by
  rw [R_fn F_kerbstoneref01_Same rfl]
  by_cases hab : a.length = b.length
  · obtain ⟨E', hY, _, _⟩ := kerbstoneref01_Same_loop1 a b hab hl a b 0 rfl rfl (Nat.zero_le _)
    by_cases h : a = b
    · subst h
      simp at hY
      simp [c_kerbstoneref01_Same, hY]
    · simp [h] at hY
      simp [c_kerbstoneref01_Same, hab, hY, h]
  · have h : a ≠ b := fun e => hab (by rw [e])
    have hab' : ¬ ((a.length : Int) = b.length) := by omega
    simp [c_kerbstoneref01_Same, hab, hab', h]
set_option maxHeartbeats 2000000 in
theorem kerbstoneref03_sameInts_loop1  (a b : List Int)  (hl : a.length ≤ 1000) : ∀ (r r' : List Int) (i : Nat), a.drop i = r → b.drop i = r' → i ≤ a.length → i ≤ b.length →
    ∃ E', Y L Cs c_kerbstoneref03_sameInts_l1 (some [0, 1, 5]) 0 [(0, .w (.c (.rslice (rows1 a)))), (1, .w (.c (.rslice (rows1 b)))), (5, .w (W i))] [] = some (if pre r r' = true then (.exit 0, E', []) else (.ret, [(4, .w (Bo false))], [])) ∧ Env.get E' 0 = some (.w (.c (.rslice (rows1 a)))) ∧ Env.get E' 1 = some (.w (.c (.rslice (rows1 b))))
  | [], r', i, hd, hd', hi, hi' => by
    obtain rfl := drop_end hd hi
    rw [Y_step c_kerbstoneref03_sameInts_l1.eq_1]
    simp [pre]
  | x :: r, [], i, hd, hd', hi, hi' => by
    obtain rfl := drop_end hd' hi'
    obtain ⟨h1, _, _, _⟩ := drop_get (f := (fun x : Int => [I x])) hd
    rw [Y_step c_kerbstoneref03_sameInts_l1.eq_1]
    simp [pre, h1]
  | x :: r, y :: r', i, hd, hd', hi, hi' => by
    obtain ⟨h1, h2, h3, h4⟩ := drop_get (f := (fun x : Int => [I x])) hd
    obtain ⟨h1', h2', h3', h4'⟩ := drop_get (f := (fun x : Int => [I x])) hd'
    obtain ⟨E', ih, g1, g2⟩ := kerbstoneref03_sameInts_loop1  a b  hl r r' (i + 1) h3 h3' (by omega) (by omega)
    have w1 := wrap1 (i := i) (by omega)
    refine ⟨E', ?_, g1, g2⟩
    rw [Y_step c_kerbstoneref03_sameInts_l1.eq_1]
    unfold rows1 at *
    by_cases hxy : x = y
    · subst hxy
      simp only [pre, decide_true, Bool.true_and]
      rw [← ih]
      simp [h1, h1', h2, h2', w1]
    · have hne : ¬(pre (x :: r) (y :: r') = true) := by simp [pre, hxy]
      rw [if_neg hne]
      simp [h1, h1', h2, h2', w1, hxy]
theorem R_sameInts (a b : List Int) (hl : a.length ≤ 1000) : R L Cs f_kerbstoneref03_sameInts [.c (.rslice (rows1 a)), .c (.rslice (rows1 b))] [] = some (.w (Bo (decide (a = b))), []) := by
  rw [R_fn F_kerbstoneref03_sameInts rfl]
  obtain ⟨E', hY, g1, g2⟩ := kerbstoneref03_sameInts_loop1 a b hl a b 0 rfl rfl (Nat.zero_le _) (Nat.zero_le _)
  cases hp : pre a b with
  | false =>
    simp [hp] at hY
    simp [c_kerbstoneref03_sameInts, hY, pre_false hp]
  | true =>
    simp [hp] at hY
    by_cases hab : a.length = b.length
    · have h := (pre_eq a b).1 ⟨hp, hab⟩
      subst h
      simp [c_kerbstoneref03_sameInts, hY, g1, g2]
    · have h : a ≠ b := fun e => hab (by rw [e])
      have hab' : ((a.length : Int) == b.length) = false := by simp; omega
      simp [c_kerbstoneref03_sameInts, hY, g1, g2, h, hab']
set_option maxHeartbeats 2000000 in
theorem kerbstoneref03_SameZone_loop1 (s t : Int) (a b : List Pa)  (hl : a.length ≤ 1000) : ∀ (r r' : List Pa) (i : Nat), a.drop i = r → b.drop i = r' → i ≤ a.length → i ≤ b.length →
    ∃ E', Y L Cs c_kerbstoneref03_SameZone_l1 (some [2, 3, 5]) 2 [(2, .w (Pt 0)), (3, .w (Pt 1)), (5, .w (W i))] [bx 2 [.rslice (Pa.rows a), I s], bx 2 [.rslice (Pa.rows b), I t]] = some (if pre r r' = true then (.exit 0, E', [bx 2 [.rslice (Pa.rows a), I s], bx 2 [.rslice (Pa.rows b), I t]]) else (.ret, [(4, .w (Bo false))], [bx 2 [.rslice (Pa.rows a), I s], bx 2 [.rslice (Pa.rows b), I t]])) ∧ Env.get E' 2 = some (.w (Pt 0)) ∧ Env.get E' 3 = some (.w (Pt 1))
  | [], r', i, hd, hd', hi, hi' => by
    obtain rfl := drop_end hd hi
    rw [Y_step c_kerbstoneref03_SameZone_l1.eq_1]
    simp [pre]
  | x :: r, [], i, hd, hd', hi, hi' => by
    obtain rfl := drop_end hd' hi'
    obtain ⟨h1, _, _, _⟩ := drop_get (f := Pa.C) hd
    rw [Y_step c_kerbstoneref03_SameZone_l1.eq_1]
    simp [pre, h1]
  | x :: r, y :: r', i, hd, hd', hi, hi' => by
    obtain ⟨h1, h2, h3, h4⟩ := drop_get (f := Pa.C) hd
    obtain ⟨h1', h2', h3', h4'⟩ := drop_get (f := Pa.C) hd'
    obtain ⟨E', ih, g1, g2⟩ := kerbstoneref03_SameZone_loop1 s t a b  hl r r' (i + 1) h3 h3' (by omega) (by omega)
    have w1 := wrap1 (i := i) (by omega)
    refine ⟨E', ?_, g1, g2⟩
    rw [Y_step c_kerbstoneref03_SameZone_l1.eq_1]
    unfold Pa.rows at *
    by_cases hxy : x = y
    · subst hxy
      simp only [pre, decide_true, Bool.true_and]
      rw [← ih]
      simp [h1, h1', h2, h2', w1, -eqCells, eq_Pa]
    · have hne : ¬(pre (x :: r) (y :: r') = true) := by simp [pre, hxy]
      rw [if_neg hne]
      simp [h1, h1', h2, h2', w1, -eqCells, eq_Pa, hxy]
theorem R_SameZone (x y : Zo) (h : x.ok) : R L Cs f_kerbstoneref03_SameZone [.a x.C, .a y.C] [] = some (.w (Bo (decide (x = y))), []) := by
  obtain ⟨a, s⟩ := x
  obtain ⟨b, t⟩ := y
  rw [R_fn F_kerbstoneref03_SameZone rfl]
  obtain ⟨E', hY, g1, g2⟩ := kerbstoneref03_SameZone_loop1 s t a b h a b 0 rfl rfl (Nat.zero_le _) (Nat.zero_le _)
  cases hp : pre a b with
  | false =>
    simp [hp] at hY
    simp [c_kerbstoneref03_SameZone, hY, pre_false hp]
  | true =>
    simp [hp] at hY
    by_cases e1 : s = t
    case neg => simp [c_kerbstoneref03_SameZone, hY, g1, g2, e1, bf e1]
    by_cases hab : a.length = b.length
    · have h := (pre_eq a b).1 ⟨hp, hab⟩
      subst h
      subst e1
      simp [c_kerbstoneref03_SameZone, hY, g1, g2]
    · have h : a ≠ b := fun e => hab (by rw [e])
      have hab' : ((a.length : Int) == b.length) = false := by simp; omega
      subst e1
      simp [c_kerbstoneref03_SameZone, hY, g1, g2, h, hab']
set_option maxHeartbeats 2000000 in
theorem SameSignal_loop (s t : Int) (a b : List Ph) (hf : ∀ p ∈ a, p.ok) (hl : a.length ≤ 1000) : ∀ (r r' : List Ph) (i : Nat), a.drop i = r → b.drop i = r' → i ≤ a.length → i ≤ b.length →
    ∃ E', Y L Cs c_kerbstoneref03_SameSignal_l1 (some [2, 3, 5]) 2 [(2, .w (Pt 0)), (3, .w (Pt 1)), (5, .w (W i))] [bx 2 [I s, .rslice (Ph.rows a)], bx 2 [I t, .rslice (Ph.rows b)]] = some (if pre r r' = true then (.exit 0, E', [bx 2 [I s, .rslice (Ph.rows a)], bx 2 [I t, .rslice (Ph.rows b)]]) else (.ret, [(4, .w (Bo false))], [bx 2 [I s, .rslice (Ph.rows a)], bx 2 [I t, .rslice (Ph.rows b)]])) ∧ Env.get E' 2 = some (.w (Pt 0)) ∧ Env.get E' 3 = some (.w (Pt 1))
  | [], r', i, hd, hd', hi, hi' => by
    obtain rfl := drop_end hd hi
    rw [Y_step c_kerbstoneref03_SameSignal_l1.eq_1]
    simp [pre]
  | x :: r, [], i, hd, hd', hi, hi' => by
    obtain rfl := drop_end hd' hi'
    obtain ⟨h1, _, _, _⟩ := drop_get (f := Ph.C) hd
    rw [Y_step c_kerbstoneref03_SameSignal_l1.eq_1]
    simp [pre, h1]
  | x :: r, y :: r', i, hd, hd', hi, hi' => by
    obtain ⟨h1, h2, h3, h4⟩ := drop_get (f := Ph.C) hd
    obtain ⟨h1', h2', h3', h4'⟩ := drop_get (f := Ph.C) hd'
    obtain ⟨E', ih, g1, g2⟩ := SameSignal_loop s t a b hf hl r r' (i + 1) h3 h3' (by omega) (by omega)
    have w1 := wrap1 (i := i) (by omega)
    have hg := R_sameInts x.green y.green (hf x (List.mem_of_getElem? h4))
    refine ⟨E', ?_, g1, g2⟩
    rw [Y_step c_kerbstoneref03_SameSignal_l1.eq_1]
    unfold Ph.rows at *
    obtain ⟨xt, xg⟩ := x
    obtain ⟨yt, yg⟩ := y
    by_cases e1 : xt = yt
    · by_cases e2 : xg = yg
      · subst e1
        subst e2
        simp only [pre, decide_true, Bool.true_and]
        rw [← ih]
        simp at hg
        simp [h1, h1', h2, h2', w1, hg]
      · have hne : ¬(pre (Ph.mk xt xg :: r) (Ph.mk yt yg :: r') = true) := by simp [pre, e2]
        rw [if_neg hne]
        simp [e2] at hg
        simp [h1, h1', h2, h2', w1, hg, e1]
    · have hne : ¬(pre (Ph.mk xt xg :: r) (Ph.mk yt yg :: r') = true) := by simp [pre, e1]
      rw [if_neg hne]
      have e1' : (xt != yt) = true := by simpa using e1
      simp [h1, h1', h2, h2', w1, e1, e1', bf e1]
theorem R_SameSignal (x y : Sg) (h : x.ok) : R L Cs f_kerbstoneref03_SameSignal [.a x.C, .a y.C] [] = some (.w (Bo (decide (x = y))), []) := by
  obtain ⟨s, a⟩ := x
  obtain ⟨t, b⟩ := y
  rw [R_fn F_kerbstoneref03_SameSignal rfl]
  obtain ⟨E', hY, g1, g2⟩ := SameSignal_loop s t a b h.2 h.1 a b 0 rfl rfl (Nat.zero_le _) (Nat.zero_le _)
  cases hp : pre a b with
  | false =>
    simp [hp] at hY
    simp [c_kerbstoneref03_SameSignal, hY, pre_false hp]
  | true =>
    simp [hp] at hY
    by_cases e1 : s = t
    case neg => simp [c_kerbstoneref03_SameSignal, hY, g1, g2, e1, bf e1]
    by_cases hab : a.length = b.length
    · have h := (pre_eq a b).1 ⟨hp, hab⟩
      subst h
      subst e1
      simp [c_kerbstoneref03_SameSignal, hY, g1, g2]
    · have h : a ≠ b := fun e => hab (by rw [e])
      have hab' : ((a.length : Int) == b.length) = false := by simp; omega
      subst e1
      simp [c_kerbstoneref03_SameSignal, hY, g1, g2, h, hab']
set_option maxHeartbeats 1000000 in
theorem R_SameLane (x y : Ln) (h : x.ok) : R L Cs f_kerbstoneref03_SameLane [.a x.C, .a y.C] [] = some (.w (Bo (decide (x = y))), []) := by
  obtain ⟨k, p, hf, li, nx⟩ := x
  obtain ⟨k', p', hf', li', nx'⟩ := y
  have h1 := R_Same01 p p' h.1
  have h2 := R_sameInts nx nx' h.2
  rw [R_fn F_kerbstoneref03_SameLane rfl]
  by_cases e1 : k = k'
  case neg => simp [c_kerbstoneref03_SameLane, e1, bf e1]
  by_cases e2 : hf = hf'
  case neg => simp [c_kerbstoneref03_SameLane, e1, e2, bf e2]
  by_cases e3 : li = li'
  case neg => simp [c_kerbstoneref03_SameLane, e1, e2, e3, bf e3]
  by_cases e4 : p = p'
  case neg =>
    simp [e4] at h1
    simp [c_kerbstoneref03_SameLane, e1, e2, e3, e4, h1]
  simp [e4] at h1
  simp [c_kerbstoneref03_SameLane, e1, e2, e3, e4, h1, h2]
set_option maxHeartbeats 2000000 in
theorem kerbstoneref10_sameAgent_loop1 (s v l g s' v' l' g' : Int) (o q o' q' : Bool) (a b : List Int)  (hab : a.length = b.length) (hl : a.length ≤ 1000) : ∀ (r r' : List Int) (i : Nat), a.drop i = r → b.drop i = r' → i ≤ a.length →
    ∃ E', Y L Cs c_kerbstoneref10_sameAgent_l1 (some [2, 3, 5]) 2 [(2, .w (Pt 0)), (3, .w (Pt 1)), (5, .w (W i))] [bx 7 [.rslice (rows1 a), I s, I v, I l, I g, .bool o, .bool q], bx 7 [.rslice (rows1 b), I s', I v', I l', I g', .bool o', .bool q']] = some (if r = r' then (.exit 0, E', [bx 7 [.rslice (rows1 a), I s, I v, I l, I g, .bool o, .bool q], bx 7 [.rslice (rows1 b), I s', I v', I l', I g', .bool o', .bool q']]) else (.ret, [(4, .w (Bo false))], [bx 7 [.rslice (rows1 a), I s, I v, I l, I g, .bool o, .bool q], bx 7 [.rslice (rows1 b), I s', I v', I l', I g', .bool o', .bool q']])) ∧ Env.get E' 2 = some (.w (Pt 0)) ∧ Env.get E' 3 = some (.w (Pt 1))
  | [], r', i, hd, hd', hi => by
    obtain rfl := drop_end hd hi
    have : r' = [] := by rw [← hd']; exact List.drop_of_length_le (by omega)
    subst this
    rw [Y_step c_kerbstoneref10_sameAgent_l1.eq_1]
    simp
  | x :: r, [], i, hd, hd', hi => by
    obtain ⟨h1, _, _, _⟩ := drop_get (f := (fun x : Int => [I x])) hd
    have := congrArg List.length hd'
    simp at this; omega
  | x :: r, y :: r', i, hd, hd', hi => by
    obtain ⟨h1, h2, h3, h4⟩ := drop_get (f := (fun x : Int => [I x])) hd
    obtain ⟨h1', h2', h3', h4'⟩ := drop_get (f := (fun x : Int => [I x])) hd'
    obtain ⟨E', ih, g1, g2⟩ := kerbstoneref10_sameAgent_loop1 s v l g s' v' l' g' o q o' q' a b  hab hl r r' (i + 1) h3 h3' (by omega)
    have w1 := wrap1 (i := i) (by omega)
    refine ⟨E', ?_, g1, g2⟩
    rw [Y_step c_kerbstoneref10_sameAgent_l1.eq_1]
    unfold rows1 at *
    by_cases hxy : x = y
    · subst hxy
      simp only [List.cons.injEq, true_and]
      rw [← ih]
      simp [h1, h1', h2, h2', w1]
    · have hne : ¬(x :: r = y :: r') := fun e => hxy (List.cons.inj e).1
      rw [if_neg hne]
      simp [h1, h1', h2, h2', w1, hxy]
set_option maxHeartbeats 16000000 in
theorem R_sameAgent (x y : Ag) (h : x.ok) : R L Cs f_kerbstoneref10_sameAgent [.a x.C, .a y.C] [] = some (.w (Bo (decide (x = y))), []) := by
  obtain ⟨r, s, v, l, b, o, g⟩ := x
  obtain ⟨r', s', v', l', b', o', g'⟩ := y
  rw [R_fn F_kerbstoneref10_sameAgent rfl]
  by_cases hab : r.length = r'.length
  case neg =>
    have e : r ≠ r' := fun e => hab (by rw [e])
    have hab' : ¬ ((r.length : Int) = r'.length) := by omega
    simp (maxSteps := 4000000) [c_kerbstoneref10_sameAgent, hab, hab', e]
  obtain ⟨E', hY, q1, q2⟩ := kerbstoneref10_sameAgent_loop1 s v l b s' v' l' b' o g o' g' r r' hab h r r' 0 rfl rfl (Nat.zero_le _)
  by_cases e1 : r = r'
  case neg =>
    simp [e1] at hY
    simp (maxSteps := 4000000) [c_kerbstoneref10_sameAgent, hab, e1, hY]
  subst e1
  simp at hY
  by_cases e2 : s = s'
  case neg => simp (maxSteps := 4000000) [c_kerbstoneref10_sameAgent, hY, q1, q2, e2, bf e2]
  subst e2
  by_cases e3 : v = v'
  case neg => simp (maxSteps := 4000000) [c_kerbstoneref10_sameAgent, hY, q1, q2, e3, bf e3]
  subst e3
  by_cases e4 : l = l'
  case neg => simp (maxSteps := 4000000) [c_kerbstoneref10_sameAgent, hY, q1, q2, e4, bf e4]
  subst e4
  by_cases e5 : b = b'
  case neg => simp (maxSteps := 4000000) [c_kerbstoneref10_sameAgent, hY, q1, q2, e5, bf e5]
  subst e5
  by_cases e6 : o = o'
  case neg => simp (maxSteps := 4000000) [c_kerbstoneref10_sameAgent, hY, q1, q2, e6, bf e6]
  subst e6
  by_cases e7 : g = g'
  case neg => simp (maxSteps := 4000000) [c_kerbstoneref10_sameAgent, hY, q1, q2, e7, bf e7]
  subst e7
  simp (maxSteps := 4000000) [c_kerbstoneref10_sameAgent, hY, q1, q2]
end Go.LcRun
set_option maxRecDepth 10000
namespace Go.LcRun
open Go Go.Eng
theorem wrc0 : IntKind.i64.wrap 0 = 0 := by decide
theorem wrc1 : IntKind.i64.wrap 1 = 1 := by decide
theorem wrc2 : IntKind.i64.wrap 2 = 2 := by decide
theorem wrc3 : IntKind.i64.wrap 3 = 3 := by decide
theorem R_rows1 (m : Mp) : R L Cs f_kerbstoneref03_rows [.a m.C, W 1] [] = some (.w (W m.lanes.length), []) := by
  rw [R_fn F_kerbstoneref03_rows rfl]
  simp [c_kerbstoneref03_rows, wrc0]
theorem R_rows2 (m : Mp) : R L Cs f_kerbstoneref03_rows [.a m.C, W 2] [] = some (.w (W m.zones.length), []) := by
  rw [R_fn F_kerbstoneref03_rows rfl]
  simp [c_kerbstoneref03_rows, wrc1]
theorem R_rows3 (m : Mp) : R L Cs f_kerbstoneref03_rows [.a m.C, W 3] [] = some (.w (W m.sigs.length), []) := by
  rw [R_fn F_kerbstoneref03_rows rfl]
  simp [c_kerbstoneref03_rows, wrc2]
theorem R_rows4 (m : Mp) : R L Cs f_kerbstoneref03_rows [.a m.C, W 4] [] = some (.w (W m.works.length), []) := by
  rw [R_fn F_kerbstoneref03_rows rfl]
  simp [c_kerbstoneref03_rows, wrc3]
def sameAt {α : Type} [DecidableEq α] (a b : List α) (i : Nat) : Bool := decide (a[i]? = b[i]?)
theorem at_rows {α : Type} {f : α → List Cl} {l : List α} {i : Nat} (h : i < l.length) : ∀ h' : i < (l.map f).length, (l.map f)[i] = f l[i] := fun h' => by simp
theorem sameAt_get {α : Type} [DecidableEq α] {a b : List α} {i : Nat} (h : i < a.length) (h' : i < b.length) : sameAt a b i = decide (a[i] = b[i]) := by
  simp [sameAt, h, h']
set_option maxHeartbeats 1000000 in
theorem R_sameRow1 (m n : Mp) (h : m.ok) (i : Nat) (hi : i < m.lanes.length) (hi' : i < n.lanes.length) : R L Cs f_kerbstoneref03_sameRow [.a m.C, .a n.C, W 1, W i] [] = some (.w (Bo (sameAt m.lanes n.lanes i)), []) := by
  have hg := R_SameLane m.lanes[i] n.lanes[i] (h.ls _ (List.getElem_mem hi))
  rw [sameAt_get hi hi']
  have e1 := at_rows (f := Ln.C) hi
  have e2 := at_rows (f := Ln.C) hi'
  generalize m.lanes[i] = x at *
  generalize n.lanes[i] = y at *
  rw [R_fn F_kerbstoneref03_sameRow rfl]
  simp only [Ln.C] at hg e1 e2
  unfold Mp.C Ln.rows
  simp [c_kerbstoneref03_sameRow, hi, hi', e1, e2, hg]
set_option maxHeartbeats 1000000 in
theorem R_sameRow2 (m n : Mp) (h : m.ok) (i : Nat) (hi : i < m.zones.length) (hi' : i < n.zones.length) : R L Cs f_kerbstoneref03_sameRow [.a m.C, .a n.C, W 2, W i] [] = some (.w (Bo (sameAt m.zones n.zones i)), []) := by
  have hg := R_SameZone m.zones[i] n.zones[i] (h.zs _ (List.getElem_mem hi))
  rw [sameAt_get hi hi']
  have e1 := at_rows (f := Zo.C) hi
  have e2 := at_rows (f := Zo.C) hi'
  generalize m.zones[i] = x at *
  generalize n.zones[i] = y at *
  rw [R_fn F_kerbstoneref03_sameRow rfl]
  simp only [Zo.C] at hg e1 e2
  unfold Mp.C Zo.rows
  simp [c_kerbstoneref03_sameRow, hi, hi', e1, e2, hg]
set_option maxHeartbeats 1000000 in
theorem R_sameRow3 (m n : Mp) (h : m.ok) (i : Nat) (hi : i < m.sigs.length) (hi' : i < n.sigs.length) : R L Cs f_kerbstoneref03_sameRow [.a m.C, .a n.C, W 3, W i] [] = some (.w (Bo (sameAt m.sigs n.sigs i)), []) := by
  have hg := R_SameSignal m.sigs[i] n.sigs[i] (h.ss _ (List.getElem_mem hi))
  rw [sameAt_get hi hi']
  have e1 := at_rows (f := Sg.C) hi
  have e2 := at_rows (f := Sg.C) hi'
  generalize m.sigs[i] = x at *
  generalize n.sigs[i] = y at *
  rw [R_fn F_kerbstoneref03_sameRow rfl]
  simp only [Sg.C] at hg e1 e2
  unfold Mp.C Sg.rows
  simp [c_kerbstoneref03_sameRow, hi, hi', e1, e2, hg]
set_option maxHeartbeats 1000000 in
theorem R_sameRow4 (m n : Mp) (h : m.ok) (i : Nat) (hi : i < m.works.length) (hi' : i < n.works.length) : R L Cs f_kerbstoneref03_sameRow [.a m.C, .a n.C, W 4, W i] [] = some (.w (Bo (sameAt m.works n.works i)), []) := by
  rw [sameAt_get hi hi']
  have e1 := at_rows (f := Wk.C) hi
  have e2 := at_rows (f := Wk.C) hi'
  generalize m.works[i] = x at *
  generalize n.works[i] = y at *
  have hg := eq_Wk x y
  rw [R_fn F_kerbstoneref03_sameRow rfl]
  simp only [Wk.C] at e1 e2
  unfold Mp.C Wk.rows
  simp [c_kerbstoneref03_sameRow, hi, hi', e1, e2, hg, -eqCells]
def allFrom (p : Nat → Bool) : Nat → Nat → Bool
  | _, 0 => true
  | i, k + 1 => p i && allFrom p (i + 1) k
theorem allFrom_iff (p : Nat → Bool) : ∀ (k i : Nat), allFrom p i k = true ↔ ∀ j, i ≤ j → j < i + k → p j = true
  | 0, i => by simp [allFrom]; intro j h1 h2; omega
  | k + 1, i => by
    simp only [allFrom, Bool.and_eq_true, allFrom_iff p k (i + 1)]
    constructor
    · rintro ⟨h1, h2⟩ j h3 h4
      rcases Nat.eq_or_lt_of_le h3 with rfl | h5
      · exact h1
      · exact h2 j h5 (by omega)
    · intro h
      exact ⟨h i (Nat.le_refl _) (by omega), fun j h1 h2 => h j (by omega) (by omega)⟩
theorem allAt {α : Type} [DecidableEq α] {a b : List α} (h : a.length = b.length) : allFrom (sameAt a b) 0 a.length = decide (a = b) := by
  have : allFrom (sameAt a b) 0 a.length = true ↔ a = b := by
    rw [allFrom_iff]
    constructor
    · intro h1
      apply List.ext_getElem?
      intro i
      by_cases hi : i < a.length
      · simpa [sameAt] using h1 i (Nat.zero_le _) (by omega)
      · rw [List.getElem?_eq_none (by omega), List.getElem?_eq_none (by omega)]
    · rintro rfl j _ _
      simp [sameAt]
  by_cases e : a = b
  · simp [e, this.2 e]
    subst e; exact this.2 rfl
  · simp [e]
    cases hq : allFrom (sameAt a b) 0 a.length with
    | false => rfl
    | true => exact absurd (this.1 hq) e
abbrev mm (m n : Mp) : Mem := [bx 5 m.C, bx 5 n.C]
set_option maxHeartbeats 1000000 in
theorem rows_loop (m n : Mp) (t : Int) (N : Nat) (hN : N ≤ 1000) (p : Nat → Bool) (hr : R L Cs f_kerbstoneref03_rows [.a m.C, W t] [] = some (.w (W N), [])) (hs : ∀ i, i < N → R L Cs f_kerbstoneref03_sameRow [.a m.C, .a n.C, W t, W i] [] = some (.w (Bo (p i)), [])) : ∀ (k i : Nat), i + k = N →
    ∃ E', Y L Cs c_kerbstoneref03_Same_l1 (some [2, 3, 5, 6]) 2 [(2, .w (Pt 0)), (3, .w (Pt 1)), (5, .w (W t)), (6, .w (W i))] (mm m n) = some (if allFrom p i k = true then (.exit 2, E', mm m n) else (.ret, [(4, .w (Bo false))], mm m n)) ∧ Env.get E' 5 = some (.w (W t)) ∧ Env.get E' 2 = some (.w (Pt 0)) ∧ Env.get E' 3 = some (.w (Pt 1))
  | 0, i, hk => by
    obtain rfl : i = N := by omega
    rw [Y_step c_kerbstoneref03_Same_l1.eq_1]
    simp only [Mp.C] at hr
    simp [allFrom, hr]
  | k + 1, i, hk => by
    obtain ⟨E', ih, g1, g2, g3⟩ := rows_loop m n t N hN p hr hs k (i + 1) (by omega)
    have hi : i < N := by omega
    have hi' : (i : Int) < N := by omega
    have w1 := wrap1 (i := i) (by omega)
    have h1 := hs i hi
    refine ⟨E', ?_, g1, g2, g3⟩
    rw [Y_step c_kerbstoneref03_Same_l1.eq_1]
    simp only [Mp.C] at hr h1
    cases hp : p i with
    | false =>
      rw [hp] at h1
      simp [allFrom, hp, hr, h1, hi]
    | true =>
      rw [hp] at h1
      simp only [allFrom, hp, Bool.true_and]
      rw [← ih]
      simp [hr, h1, hi, w1]
theorem wri1 : IntKind.i64.wrap (1 + 1) = 2 := by decide
theorem wri2 : IntKind.i64.wrap (2 + 1) = 3 := by decide
theorem wri3 : IntKind.i64.wrap (3 + 1) = 4 := by decide
theorem wri4 : IntKind.i64.wrap (4 + 1) = 5 := by decide
set_option maxHeartbeats 4000000 in
theorem tab_step (m n : Mp) (t t' : Int) (ht : t ≤ 4) (hw : IntKind.i64.wrap (t + 1) = t') (N N' : Nat) (hN : N ≤ 1000) (p : Nat → Bool) (hr : R L Cs f_kerbstoneref03_rows [.a m.C, W t] [] = some (.w (W N), [])) (hr' : R L Cs f_kerbstoneref03_rows [.a n.C, W t] [] = some (.w (W N'), [])) (hs : N = N' → ∀ i, i < N → R L Cs f_kerbstoneref03_sameRow [.a m.C, .a n.C, W t, W i] [] = some (.w (Bo (p i)), [])) :
    Y L Cs c_kerbstoneref03_Same_l2 (some [5, 3, 2]) 2 [(5, .w (W t)), (3, .w (Pt 1)), (2, .w (Pt 0))] (mm m n) = if N = N' ∧ allFrom p 0 N = true then Y L Cs c_kerbstoneref03_Same_l2 (some [5, 3, 2]) 2 [(5, .w (W t')), (3, .w (Pt 1)), (2, .w (Pt 0))] (mm m n) else some (.ret, [(4, .w (Bo false))], mm m n) := by
  rw [Y_step c_kerbstoneref03_Same_l2.eq_1]
  simp only [Mp.C] at hr hr' hs
  by_cases hNN : N = N'
  case neg =>
    have hNN' : ¬ ((N : Int) = N') := by omega
    rw [if_neg (fun h => hNN h.1)]
    simp [ht, hr, hr', hNN, hNN']
  subst hNN
  obtain ⟨E', hY, g1, g2, g3⟩ := rows_loop m n t N hN p hr (hs rfl) N 0 (by omega)
  cases hp : allFrom p 0 N with
  | false =>
    simp only [hp] at hY
    simp at hY
    simp [ht, hr, hr', hY]
  | true =>
    simp only [hp] at hY
    simp at hY
    simp [ht, hr, hr', hY, g1, g2, g3, hw]
set_option maxHeartbeats 4000000 in
theorem R_Same03 (m n : Mp) (h : m.ok) : R L Cs f_kerbstoneref03_Same [.a m.C, .a n.C] [] = some (.w (Bo (decide (m = n))), []) := by
  have s1 := tab_step m n 1 2 (by omega) wri1 _ _ h.l (sameAt m.lanes n.lanes) (R_rows1 m) (R_rows1 n) (fun e i hi => R_sameRow1 m n h i hi (by omega))
  have s2 := tab_step m n 2 3 (by omega) wri2 _ _ h.z (sameAt m.zones n.zones) (R_rows2 m) (R_rows2 n) (fun e i hi => R_sameRow2 m n h i hi (by omega))
  have s3 := tab_step m n 3 4 (by omega) wri3 _ _ h.s (sameAt m.sigs n.sigs) (R_rows3 m) (R_rows3 n) (fun e i hi => R_sameRow3 m n h i hi (by omega))
  have s4 := tab_step m n 4 5 (by omega) wri4 _ _ h.w (sameAt m.works n.works) (R_rows4 m) (R_rows4 n) (fun e i hi => R_sameRow4 m n h i hi (by omega))
  have s5 : Y L Cs c_kerbstoneref03_Same_l2 (some [5, 3, 2]) 2 [(5, .w (W 5)), (3, .w (Pt 1)), (2, .w (Pt 0))] (mm m n) = some (.exit 0, [(8, .w (Bo false)), (5, .w (W 5)), (3, .w (Pt 1)), (2, .w (Pt 0))], mm m n) := by
    rw [Y_step c_kerbstoneref03_Same_l2.eq_1]
    simp
  have key : ∀ {α : Type} [DecidableEq α] (a b : List α), (a.length = b.length ∧ allFrom (sameAt a b) 0 a.length = true) ↔ a = b := fun a b => by
    constructor
    · rintro ⟨h1, h2⟩
      rw [allAt h1] at h2
      simpa using h2
    · rintro rfl
      exact ⟨rfl, by rw [allAt rfl]; simp⟩
  simp only [key] at s1 s2 s3 s4
  obtain ⟨v, l, z, s, w⟩ := m
  obtain ⟨v', l', z', s', w'⟩ := n
  simp only [mm, Mp.C] at *
  rw [R_fn F_kerbstoneref03_Same rfl]
  by_cases e1 : l = l'
  case neg =>
    simp only [e1, if_false] at s1
    simp [c_kerbstoneref03_Same, s1, e1]
  subst e1
  simp only [if_true] at s1
  by_cases e2 : z = z'
  case neg =>
    simp only [e2, if_false] at s2
    simp [c_kerbstoneref03_Same, s1, s2, e2]
  subst e2
  simp only [if_true] at s2
  by_cases e3 : s = s'
  case neg =>
    simp only [e3, if_false] at s3
    simp [c_kerbstoneref03_Same, s1, s2, s3, e3]
  subst e3
  simp only [if_true] at s3
  by_cases e4 : w = w'
  case neg =>
    simp only [e4, if_false] at s4
    simp [c_kerbstoneref03_Same, s1, s2, s3, s4, e4]
  subst e4
  simp only [if_true] at s4
  by_cases e5 : v = v'
  case neg => simp [c_kerbstoneref03_Same, s1, s2, s3, s4, s5, e5]
  subst e5
  simp [c_kerbstoneref03_Same, s1, s2, s3, s4, s5]
abbrev ss (m n : Sc) : Mem := [bx 18 m.C, bx 18 n.C]
set_option maxHeartbeats 2000000 in
theorem ag_loop (m n : Sc) (hf : ∀ x ∈ m.agents, x.ok) (hab : m.agents.length = n.agents.length) (hl : m.agents.length ≤ 1000) : ∀ (r r' : List Ag) (i : Nat), m.agents.drop i = r → n.agents.drop i = r' → i ≤ m.agents.length →
    ∃ E', Y L Cs c_kerbstoneref10_Same_l1 (some [2, 3, 5]) 2 [(2, .w (Pt 0)), (3, .w (Pt 1)), (5, .w (W i))] (ss m n) = some (if r = r' then (.exit 0, E', ss m n) else (.ret, [(4, .w (Bo false))], ss m n)) ∧ Env.get E' 2 = some (.w (Pt 0)) ∧ Env.get E' 3 = some (.w (Pt 1))
  | [], r', i, hd, hd', hi => by
    obtain rfl := drop_end hd hi
    have : r' = [] := by rw [← hd']; exact List.drop_of_length_le (by omega)
    subst this
    rw [Y_step c_kerbstoneref10_Same_l1.eq_1]
    simp
  | x :: r, [], i, hd, hd', hi => by
    obtain ⟨h1, _, _, _⟩ := drop_get (f := Ag.C) hd
    have := congrArg List.length hd'
    simp at this; omega
  | x :: r, y :: r', i, hd, hd', hi => by
    obtain ⟨h1, h2, h3, h4⟩ := drop_get (f := Ag.C) hd
    obtain ⟨h1', h2', h3', h4'⟩ := drop_get (f := Ag.C) hd'
    obtain ⟨E', ih, g1, g2⟩ := ag_loop m n hf hab hl r r' (i + 1) h3 h3' (by omega)
    have w1 := wrap1 (i := i) (by omega)
    have hg := R_sameAgent x y (hf x (List.mem_of_getElem? h4))
    refine ⟨E', ?_, g1, g2⟩
    rw [Y_step c_kerbstoneref10_Same_l1.eq_1]
    unfold ss Sc.C Ag.rows at *
    by_cases hxy : x = y
    · subst hxy
      simp only [List.cons.injEq, true_and]
      rw [← ih]
      simp at hg; simp [h1, h1', h2, h2', w1, hg]
    · have hne : ¬(x :: r = y :: r') := fun e => hxy (List.cons.inj e).1
      rw [if_neg hne]
      simp [hxy] at hg; simp [h1, h1', h2, h2', w1, hg]
set_option maxHeartbeats 2000000 in
theorem ev_loop (m n : Sc) (hab : m.events.length = n.events.length) (hl : m.events.length ≤ 1000) : ∀ (r r' : List Ev) (i : Nat), m.events.drop i = r → n.events.drop i = r' → i ≤ m.events.length →
    ∃ E', Y L Cs c_kerbstoneref10_Same_l2 (some [2, 3, 6]) 2 [(2, .w (Pt 0)), (3, .w (Pt 1)), (6, .w (W i))] (ss m n) = some (if r = r' then (.exit 2, E', ss m n) else (.ret, [(4, .w (Bo false))], ss m n)) ∧ Env.get E' 2 = some (.w (Pt 0)) ∧ Env.get E' 3 = some (.w (Pt 1))
  | [], r', i, hd, hd', hi => by
    obtain rfl := drop_end hd hi
    have : r' = [] := by rw [← hd']; exact List.drop_of_length_le (by omega)
    subst this
    rw [Y_step c_kerbstoneref10_Same_l2.eq_1]
    simp
  | x :: r, [], i, hd, hd', hi => by
    obtain ⟨h1, _, _, _⟩ := drop_get (f := Ev.C) hd
    have := congrArg List.length hd'
    simp at this; omega
  | x :: r, y :: r', i, hd, hd', hi => by
    obtain ⟨h1, h2, h3, h4⟩ := drop_get (f := Ev.C) hd
    obtain ⟨h1', h2', h3', h4'⟩ := drop_get (f := Ev.C) hd'
    obtain ⟨E', ih, g1, g2⟩ := ev_loop m n hab hl r r' (i + 1) h3 h3' (by omega)
    have w1 := wrap1 (i := i) (by omega)
    refine ⟨E', ?_, g1, g2⟩
    rw [Y_step c_kerbstoneref10_Same_l2.eq_1]
    unfold ss Sc.C Ev.rows at *
    by_cases hxy : x = y
    · subst hxy
      simp only [List.cons.injEq, true_and]
      rw [← ih]
      simp [h1, h1', h2, h2', w1, -eqCells, eq_Ev]
    · have hne : ¬(x :: r = y :: r') := fun e => hxy (List.cons.inj e).1
      rw [if_neg hne]
      simp [h1, h1', h2, h2', w1, -eqCells, eq_Ev, hxy]
set_option maxHeartbeats 8000000 in
theorem R_Same10 (x y : Sc) (h : x.ok) : R L Cs f_kerbstoneref10_Same [.a x.C, .a y.C] [] = some (.w (Bo (decide (x = y))), []) := by
  have h1 := R_Same03 x.map y.map h.m
  have hA := fun e => ag_loop x y h.as e (Nat.le_trans h.a (by omega)) x.agents y.agents 0 rfl rfl (Nat.zero_le _)
  have hE := fun e => ev_loop x y e h.e x.events y.events 0 rfl rfl (Nat.zero_le _)
  obtain ⟨m, c1, c2, c3, c4, c5, a, bu, si, sg, ti, vi, se, ev⟩ := x
  obtain ⟨m', c1', c2', c3', c4', c5', a', bu', si', sg', ti', vi', se', ev'⟩ := y
  rw [R_fn F_kerbstoneref10_Same rfl]
  simp only [ss, Sc.C, Mp.C] at *
  by_cases e1 : m = m'
  case neg =>
    simp [e1] at h1
    simp [c_kerbstoneref10_Same, e1, h1]
  subst e1
  simp at h1
  by_cases e2 : (c1 = c1' ∧ c2 = c2' ∧ c3 = c3' ∧ c4 = c4' ∧ c5 = c5')
  case neg =>
    have e2' : decide (c1 = c1' ∧ c2 = c2' ∧ c3 = c3' ∧ c4 = c4' ∧ c5 = c5') = false := by simpa using e2
    have e2'' : ¬ (Sc.mk m c1 c2 c3 c4 c5 a bu si sg ti vi se ev = Sc.mk m c1' c2' c3' c4' c5' a' bu' si' sg' ti' vi' se' ev') := fun e => e2 (by simp at e; exact ⟨e.1, e.2.1, e.2.2.1, e.2.2.2.1, e.2.2.2.2.1⟩)
    rw [decide_eq_false e2'']
    simp [c_kerbstoneref10_Same, h1, -eqCells, eq_car, e2', -Bool.decide_and]
  obtain ⟨rfl, rfl, rfl, rfl, rfl⟩ := e2
  by_cases e3 : a.length = a'.length
  case neg =>
    have e3' : ¬ ((a.length : Int) = a'.length) := by omega
    have e3'' : ((a.length : Int) != a'.length) = true := by simpa using e3'
    have e : a ≠ a' := fun e => e3 (by rw [e])
    simp [c_kerbstoneref10_Same, h1, e, e3, e3', e3'']
  have e3'' : ((a.length : Int) != a'.length) = false := by simp [e3]
  by_cases e4 : ev.length = ev'.length
  case neg =>
    have e4' : ¬ ((ev.length : Int) = ev'.length) := by omega
    have e4'' : ((ev.length : Int) != ev'.length) = true := by simpa using e4'
    have e : ev ≠ ev' := fun e => e4 (by rw [e])
    simp [c_kerbstoneref10_Same, h1, e, e3, e4, e4', e3'', e4'']
  have e4'' : ((ev.length : Int) != ev'.length) = false := by simp [e4]
  obtain ⟨E1, hA, p1, p2⟩ := hA e3
  obtain ⟨E2, hE, q1, q2⟩ := hE e4
  by_cases e5 : a = a'
  case neg =>
    simp [e5] at hA
    simp [c_kerbstoneref10_Same, h1, e3, e4, e5, hA, e3'', e4'']
  subst e5
  simp at hA
  by_cases e6 : ev = ev'
  case neg =>
    simp [e6] at hE
    simp [c_kerbstoneref10_Same, h1, e4, e6, hA, hE, p1, p2, e4'']
  subst e6
  simp at hE
  by_cases e7 : bu = bu'
  case neg => simp [c_kerbstoneref10_Same, h1, hA, hE, p1, p2, q1, q2, e7, bf e7]
  subst e7
  by_cases e7 : si = si'
  case neg => simp [c_kerbstoneref10_Same, h1, hA, hE, p1, p2, q1, q2, e7, bf e7]
  subst e7
  by_cases e7 : sg = sg'
  case neg => simp [c_kerbstoneref10_Same, h1, hA, hE, p1, p2, q1, q2, e7, bf e7]
  subst e7
  by_cases e7 : ti = ti'
  case neg => simp [c_kerbstoneref10_Same, h1, hA, hE, p1, p2, q1, q2, e7, bf e7]
  subst e7
  by_cases e7 : vi = vi'
  case neg => simp [c_kerbstoneref10_Same, h1, hA, hE, p1, p2, q1, q2, e7, bf e7]
  subst e7
  by_cases e7 : se = se'
  case neg => simp [c_kerbstoneref10_Same, h1, hA, hE, p1, p2, q1, q2, e7, bf e7]
  subst e7
  simp [c_kerbstoneref10_Same, h1, hA, hE, p1, p2, q1, q2]
end Go.LcRun
set_option maxRecDepth 10000
namespace Go.LcRun
open Go Go.Eng
theorem R_cl {f esz bytes : Nat} (hN : L.lookup f = none) (hC : Cs.lookup f = some (esz, bytes, false)) (h0 : 0 < esz) (hb : bytes < 1048576) {ys : List (List Cl)} (hy : ∀ r ∈ ys, r.length = esz) (hr : ys.length ≤ 1000) :
    R L Cs f [.c (.rslice ys)] [] = some (.w (.c (.slice 0 ys.length esz 0 ys.length none)), [some (own esz ys)]) := by
  have h1 : ¬ 1048576 ≤ bytes := by omega
  have h2 : bytes % 1048576 = bytes := Nat.mod_eq_of_lt hb
  have h3 : esz ≠ 0 := by omega
  have h4 : ys.length * bytes ≤ 140737488355328 := Nat.le_trans (Nat.mul_le_mul hr (Nat.le_of_lt hb)) (by decide)
  have h5 : ys.all (fun r => r.length == esz) = true := by simpa using hy
  rw [R_oracle hN]
  unfold clones
  rw [hC]
  simp [h1, h2, h3, h4, h5, h0, cloneX, castB, roomy, own, -List.all_eq_true]
theorem rows1_all (l : List Int) : ∀ r ∈ rows1 l, r.length = 1 := fun r hr => by
  simp only [rows1, List.mem_map] at hr
  obtain ⟨_, _, rfl⟩ := hr
  rfl
theorem R_Clone_int (l : List Int) (h : l.length ≤ 1000) : R L Cs 19 [.c (.rslice (rows1 l))] [] = some (.w (.c (.slice 0 (rows1 l).length 1 0 (rows1 l).length none)), [some (own 1 (rows1 l))]) :=
  R_cl rfl rfl (by decide) (by decide) (rows1_all l) (by simpa [rows1] using h)
theorem R_ownZone (z : Zo) (h : z.ok) : R L Cs f_roads_ownZone [.a z.C] [] = some (.w (.a z.C), []) := by
  have hc := R_cl (f := 67) rfl rfl (by decide) (by decide) (ys := Pa.rows z.parts) (fun r hr => by simp only [Pa.rows, List.mem_map] at hr; obtain ⟨_, _, rfl⟩ := hr; rfl) (by have h : z.parts.length ≤ 1000 := h; simpa [Pa.rows] using h)
  rw [R_fn F_roads_ownZone rfl]
  simp only [Zo.C]
  generalize Pa.rows z.parts = rows at *
  simp [c_roads_ownZone, hc]
theorem R_curveCopy (p : List Pt2) (h : p.length ≤ 1000) : R L Cs f_curve_Copy [.a [.rslice (Pt2.rows p)]] [] = some (.w (.a [.rslice (Pt2.rows p)]), []) := by
  have hc := R_cl (f := 133) rfl rfl (by decide) (by decide) (ys := Pt2.rows p) (fun r hr => by simp only [Pt2.rows, List.mem_map] at hr; obtain ⟨_, _, rfl⟩ := hr; rfl) (by simpa [Pt2.rows] using h)
  generalize Pt2.rows p = rows at *
  have ht : R L Cs f_curve_through [.c (.rslice rows)] [] = some (.w (.a [.rslice rows]), []) := by
    rw [R_fn F_curve_through rfl]
    simp [c_curve_through, hc]
  rw [R_fn F_curve_Copy rfl]
  simp [c_curve_Copy, ht]
theorem R_ownLane (l : Ln) (h : l.ok) : R L Cs f_roads_ownLane [.a l.C] [] = some (.w (.a l.C), []) := by
  have h1 := R_curveCopy l.pts h.1
  have hc := R_Clone_int l.next h.2
  rw [R_fn F_roads_ownLane rfl]
  simp only [Ln.C]
  generalize Pt2.rows l.pts = r1 at *
  generalize rows1 l.next = r2 at *
  simp [c_roads_ownLane, h1, hc]
theorem R_ownWork (w : Wk) : R L Cs f_roads_ownWork [.a w.C] [] = some (.w (.a w.C), []) := by
  rw [R_fn F_roads_ownWork rfl]
  simp [c_roads_ownWork]
abbrev osE (i n : Nat) : Env := [(11, .w (W i)), (10, .w (W n)), (2, .w (Pt 1)), (1, .w (Pt 0))]
abbrev osM (s : Sg) (v w : Nat) : Mem := [bxv v 2 [I s.off, .slice 2 s.phases.length 2 0 s.phases.length none], bx 2 [I 0, .nilslice], some { box := false, esz := 2, rows := Ph.rows s.phases, gen := s.phases.length, fz := false, ver := w }]
set_option maxHeartbeats 4000000 in
theorem ownSignal_loop (s : Sg) (h : s.ok) (v : Nat) : ∀ (r : List Ph) (i w : Nat), s.phases.drop i = r → i ≤ s.phases.length →
    ∃ w', Y L Cs c_roads_ownSignal_l1 (some [11, 10, 2, 1]) 3 (osE i s.phases.length) (osM s v w) = some (.exit 0, (12, .w (Bo false)) :: osE s.phases.length s.phases.length, osM s v w')
  | [], i, w, hd, hi => by
    obtain rfl := drop_end hd hi
    refine ⟨w, ?_⟩
    rw [Y_step c_roads_ownSignal_l1.eq_1]
    simp
  | x :: r, i, w, hd, hi => by
    obtain ⟨hi1, hx, hd', hg⟩ := drop_get (f := Ph.C) hd
    have hok : x.ok := h.2 x (List.mem_of_getElem? hg)
    have hc := R_Clone_int x.green hok
    obtain ⟨w', ih⟩ := ownSignal_loop s h v r (i + 1) (w + 1) hd' (by omega)
    refine ⟨w', ?_⟩
    rw [← ih]
    have hl := h.1
    have hw := wrap1 (i := i) (by omega)
    have hci : (i : Int) < s.phases.length := by omega
    have hrl : (Ph.rows s.phases).length = s.phases.length := by simp [Ph.rows]
    have hget : (Ph.rows s.phases)[i]? = some x.C := by simp [Ph.rows, hg]
    have hset : (Ph.rows s.phases).set i x.C = Ph.rows s.phases := by
      have := List.getElem?_eq_some_iff.1 hget
      obtain ⟨a, b⟩ := this
      rw [← b, List.set_getElem_self]
    simp only [Ph.C] at hget hset
    simp only [osM]
    clear ih
    generalize Ph.rows s.phases = rows at *
    generalize rows1 x.green = gr at *
    rw [Y_step c_roads_ownSignal_l1.eq_1]
    simp [hi1, hci, hw, hget, hset, hc, newAt, markOne, own]
    rfl
theorem R_ownSignal (s : Sg) (h : s.ok) : R L Cs f_roads_ownSignal [.a s.C] [] = some (.w (.a s.C), []) := by
  have hrl : (Ph.rows s.phases).length = s.phases.length := by simp [Ph.rows]
  have hc := R_cl (f := 68) rfl rfl (by decide) (by decide) (ys := Ph.rows s.phases) (fun r hr => by simp only [Ph.rows, List.mem_map] at hr; obtain ⟨_, _, rfl⟩ := hr; rfl) (by simpa [Ph.rows] using h.1)
  obtain ⟨w', hL⟩ := ownSignal_loop s h 1 s.phases 0 s.phases.length rfl (Nat.zero_le _)
  rw [hrl] at hc
  simp only [osM, osE, Int.natCast_zero] at hL
  rw [R_fn F_roads_ownSignal rfl]
  simp only [Sg.C]
  generalize Ph.rows s.phases = rows at *
  generalize s.phases.length = n at *
  have htk : List.take n rows = rows := by rw [← hrl, List.take_length]
  simp [c_roads_ownSignal, hc, own, hrl, hL, htk, markOne]
end Go.LcRun
set_option maxRecDepth 10000
namespace Go.LcRun
open Go Go.Eng
abbrev ebk (es n : Nat) (rows : List (List Cl)) : Option Blk := some { box := false, esz := es, rows := rows, gen := n, fz := false, ver := n }
abbrev eaE (es f i n : Nat) (rows : List (List Cl)) : Env := [(5, .w (.c (.slice 1 i es 0 i none))), (10, .w (W i)), (9, .w (W n)), (8, .w (.c (.rslice rows))), (1, .w (.c (.fn f [] [])))]
set_option maxHeartbeats 4000000 in
theorem each_Lane_loop (l : List Ln) (h : ∀ x ∈ l, x.ok) (hl : l.length ≤ 1000) : ∀ (r : List Ln) (i : Nat), l.drop i = r → i ≤ l.length →
    Y L Cs c_roads_each_Lane_l1 (some [5, 10, 9, 8, 1]) 2 (eaE 5 35 i l.length (Ln.rows l)) [ebk 5 0 [], ebk 5 i (Ln.rows (l.take i))] = some (.exit 0, (11, .w (Bo false)) :: eaE 5 35 l.length l.length (Ln.rows l), [ebk 5 0 [], ebk 5 l.length (Ln.rows l)])
  | [], i, hd, hi => by
    obtain rfl := drop_end hd hi
    rw [Y_step c_roads_each_Lane_l1.eq_1]
    simp
  | x :: r, i, hd, hi => by
    obtain ⟨hi1, hx, hd', hg⟩ := drop_get (f := Ln.C) hd
    have ho := R_ownLane x (h x (List.mem_of_getElem? hg))
    rw [← each_Lane_loop l h hl r (i + 1) hd' (by omega)]
    have hw := wrap1 (i := i) (by omega)
    have hci : (i : Int) < l.length := by omega
    have hrl : (Ln.rows l).length = l.length := by simp [Ln.rows]
    have hrt : (Ln.rows (l.take i)).length = i := by simp [Ln.rows]; omega
    have hget : ∀ h : i < (Ln.rows l).length, (Ln.rows l)[i]'h = x.C := hx
    have hro : (i + 1) * 72 ≤ 140737488355328 := by omega
    have hta : Ln.rows (l.take (i + 1)) = Ln.rows (l.take i) ++ [x.C] := by
      rw [List.take_add_one, hg]; simp [Ln.rows]
    have htt : List.take i (Ln.rows (l.take i)) = Ln.rows (l.take i) := List.take_of_length_le (by omega)
    rw [hta]
    generalize Ln.rows (l.take i) = acc at *
    generalize Ln.rows l = rows at *
    have hi2 : i < rows.length := by omega
    simp only [Ln.C] at hget ho ⊢
    rw [Y_step c_roads_each_Lane_l1.eq_1]
    simp [hi1, hci, hw, hget, ho, newAt, hrl, hrt, hro, htt, hi2]
    rfl
theorem R_each_Lane (l : List Ln) (h : ∀ x ∈ l, x.ok) (hl : l.length ≤ 1000) : R L Cs f_roads_each_Lane [.c (.rslice (Ln.rows l)), .c (.fn 35 [] [])] [] = some (.w (.c (.rslice (Ln.rows l))), []) := by
  have hL := each_Lane_loop l h hl l 0 rfl (Nat.zero_le _)
  have hrl : (Ln.rows l).length = l.length := by simp [Ln.rows]
  have h0 : Ln.rows (l.take 0) = [] := rfl
  rw [h0] at hL
  rw [R_fn F_roads_each_Lane rfl]
  simp only [eaE, Int.natCast_zero] at hL
  generalize Ln.rows l = rows at *
  have htk : List.take l.length rows = rows := List.take_of_length_le (by omega)
  simp [c_roads_each_Lane, hL, newAt, hrl, htk, markOne]
set_option maxHeartbeats 4000000 in
theorem each_Zone_loop (l : List Zo) (h : ∀ x ∈ l, x.ok) (hl : l.length ≤ 1000) : ∀ (r : List Zo) (i : Nat), l.drop i = r → i ≤ l.length →
    Y L Cs c_roads_each_Zone_l1 (some [5, 10, 9, 8, 1]) 2 (eaE 2 37 i l.length (Zo.rows l)) [ebk 2 0 [], ebk 2 i (Zo.rows (l.take i))] = some (.exit 0, (11, .w (Bo false)) :: eaE 2 37 l.length l.length (Zo.rows l), [ebk 2 0 [], ebk 2 l.length (Zo.rows l)])
  | [], i, hd, hi => by
    obtain rfl := drop_end hd hi
    rw [Y_step c_roads_each_Zone_l1.eq_1]
    simp
  | x :: r, i, hd, hi => by
    obtain ⟨hi1, hx, hd', hg⟩ := drop_get (f := Zo.C) hd
    have ho := R_ownZone x (h x (List.mem_of_getElem? hg))
    rw [← each_Zone_loop l h hl r (i + 1) hd' (by omega)]
    have hw := wrap1 (i := i) (by omega)
    have hci : (i : Int) < l.length := by omega
    have hrl : (Zo.rows l).length = l.length := by simp [Zo.rows]
    have hrt : (Zo.rows (l.take i)).length = i := by simp [Zo.rows]; omega
    have hget : ∀ h : i < (Zo.rows l).length, (Zo.rows l)[i]'h = x.C := hx
    have hro : (i + 1) * 32 ≤ 140737488355328 := by omega
    have hta : Zo.rows (l.take (i + 1)) = Zo.rows (l.take i) ++ [x.C] := by
      rw [List.take_add_one, hg]; simp [Zo.rows]
    have htt : List.take i (Zo.rows (l.take i)) = Zo.rows (l.take i) := List.take_of_length_le (by omega)
    rw [hta]
    generalize Zo.rows (l.take i) = acc at *
    generalize Zo.rows l = rows at *
    have hi2 : i < rows.length := by omega
    simp only [Zo.C] at hget ho ⊢
    rw [Y_step c_roads_each_Zone_l1.eq_1]
    simp [hi1, hci, hw, hget, ho, newAt, hrl, hrt, hro, htt, hi2]
    rfl
theorem R_each_Zone (l : List Zo) (h : ∀ x ∈ l, x.ok) (hl : l.length ≤ 1000) : R L Cs f_roads_each_Zone [.c (.rslice (Zo.rows l)), .c (.fn 37 [] [])] [] = some (.w (.c (.rslice (Zo.rows l))), []) := by
  have hL := each_Zone_loop l h hl l 0 rfl (Nat.zero_le _)
  have hrl : (Zo.rows l).length = l.length := by simp [Zo.rows]
  have h0 : Zo.rows (l.take 0) = [] := rfl
  rw [h0] at hL
  rw [R_fn F_roads_each_Zone rfl]
  simp only [eaE, Int.natCast_zero] at hL
  generalize Zo.rows l = rows at *
  have htk : List.take l.length rows = rows := List.take_of_length_le (by omega)
  simp [c_roads_each_Zone, hL, newAt, hrl, htk, markOne]
set_option maxHeartbeats 4000000 in
theorem each_Signal_loop (l : List Sg) (h : ∀ x ∈ l, x.ok) (hl : l.length ≤ 1000) : ∀ (r : List Sg) (i : Nat), l.drop i = r → i ≤ l.length →
    Y L Cs c_roads_each_Signal_l1 (some [5, 10, 9, 8, 1]) 2 (eaE 2 39 i l.length (Sg.rows l)) [ebk 2 0 [], ebk 2 i (Sg.rows (l.take i))] = some (.exit 0, (11, .w (Bo false)) :: eaE 2 39 l.length l.length (Sg.rows l), [ebk 2 0 [], ebk 2 l.length (Sg.rows l)])
  | [], i, hd, hi => by
    obtain rfl := drop_end hd hi
    rw [Y_step c_roads_each_Signal_l1.eq_1]
    simp
  | x :: r, i, hd, hi => by
    obtain ⟨hi1, hx, hd', hg⟩ := drop_get (f := Sg.C) hd
    have ho := R_ownSignal x (h x (List.mem_of_getElem? hg))
    rw [← each_Signal_loop l h hl r (i + 1) hd' (by omega)]
    have hw := wrap1 (i := i) (by omega)
    have hci : (i : Int) < l.length := by omega
    have hrl : (Sg.rows l).length = l.length := by simp [Sg.rows]
    have hrt : (Sg.rows (l.take i)).length = i := by simp [Sg.rows]; omega
    have hget : ∀ h : i < (Sg.rows l).length, (Sg.rows l)[i]'h = x.C := hx
    have hro : (i + 1) * 32 ≤ 140737488355328 := by omega
    have hta : Sg.rows (l.take (i + 1)) = Sg.rows (l.take i) ++ [x.C] := by
      rw [List.take_add_one, hg]; simp [Sg.rows]
    have htt : List.take i (Sg.rows (l.take i)) = Sg.rows (l.take i) := List.take_of_length_le (by omega)
    rw [hta]
    generalize Sg.rows (l.take i) = acc at *
    generalize Sg.rows l = rows at *
    have hi2 : i < rows.length := by omega
    simp only [Sg.C] at hget ho ⊢
    rw [Y_step c_roads_each_Signal_l1.eq_1]
    simp [hi1, hci, hw, hget, ho, newAt, hrl, hrt, hro, htt, hi2]
    rfl
theorem R_each_Signal (l : List Sg) (h : ∀ x ∈ l, x.ok) (hl : l.length ≤ 1000) : R L Cs f_roads_each_Signal [.c (.rslice (Sg.rows l)), .c (.fn 39 [] [])] [] = some (.w (.c (.rslice (Sg.rows l))), []) := by
  have hL := each_Signal_loop l h hl l 0 rfl (Nat.zero_le _)
  have hrl : (Sg.rows l).length = l.length := by simp [Sg.rows]
  have h0 : Sg.rows (l.take 0) = [] := rfl
  rw [h0] at hL
  rw [R_fn F_roads_each_Signal rfl]
  simp only [eaE, Int.natCast_zero] at hL
  generalize Sg.rows l = rows at *
  have htk : List.take l.length rows = rows := List.take_of_length_le (by omega)
  simp [c_roads_each_Signal, hL, newAt, hrl, htk, markOne]
set_option maxHeartbeats 4000000 in
theorem each_Work_loop (l : List Wk) (hl : l.length ≤ 1000) : ∀ (r : List Wk) (i : Nat), l.drop i = r → i ≤ l.length →
    Y L Cs c_roads_each_Work_l1 (some [5, 10, 9, 8, 1]) 2 (eaE 6 41 i l.length (Wk.rows l)) [ebk 6 0 [], ebk 6 i (Wk.rows (l.take i))] = some (.exit 0, (11, .w (Bo false)) :: eaE 6 41 l.length l.length (Wk.rows l), [ebk 6 0 [], ebk 6 l.length (Wk.rows l)])
  | [], i, hd, hi => by
    obtain rfl := drop_end hd hi
    rw [Y_step c_roads_each_Work_l1.eq_1]
    simp
  | x :: r, i, hd, hi => by
    obtain ⟨hi1, hx, hd', hg⟩ := drop_get (f := Wk.C) hd
    have ho := R_ownWork x
    rw [← each_Work_loop l hl r (i + 1) hd' (by omega)]
    have hw := wrap1 (i := i) (by omega)
    have hci : (i : Int) < l.length := by omega
    have hrl : (Wk.rows l).length = l.length := by simp [Wk.rows]
    have hrt : (Wk.rows (l.take i)).length = i := by simp [Wk.rows]; omega
    have hget : ∀ h : i < (Wk.rows l).length, (Wk.rows l)[i]'h = x.C := hx
    have hro : (i + 1) * 48 ≤ 140737488355328 := by omega
    have hta : Wk.rows (l.take (i + 1)) = Wk.rows (l.take i) ++ [x.C] := by
      rw [List.take_add_one, hg]; simp [Wk.rows]
    have htt : List.take i (Wk.rows (l.take i)) = Wk.rows (l.take i) := List.take_of_length_le (by omega)
    rw [hta]
    generalize Wk.rows (l.take i) = acc at *
    generalize Wk.rows l = rows at *
    have hi2 : i < rows.length := by omega
    simp only [Wk.C] at hget ho ⊢
    rw [Y_step c_roads_each_Work_l1.eq_1]
    simp [hi1, hci, hw, hget, ho, newAt, hrl, hrt, hro, htt, hi2]
    rfl
theorem R_each_Work (l : List Wk) (hl : l.length ≤ 1000) : R L Cs f_roads_each_Work [.c (.rslice (Wk.rows l)), .c (.fn 41 [] [])] [] = some (.w (.c (.slice 0 l.length 6 0 l.length none)), [ebk 6 l.length (Wk.rows l)]) := by
  have hL := each_Work_loop l hl l 0 rfl (Nat.zero_le _)
  have hrl : (Wk.rows l).length = l.length := by simp [Wk.rows]
  have h0 : Wk.rows (l.take 0) = [] := rfl
  rw [h0] at hL
  rw [R_fn F_roads_each_Work rfl]
  simp only [eaE, Int.natCast_zero] at hL
  generalize Wk.rows l = rows at *
  have htk : List.take l.length rows = rows := List.take_of_length_le (by omega)
  simp [c_roads_each_Work, hL, newAt, hrl, htk, markOne, collect, idsAt, Blk.ids, takeBlks, renB, idxIn]
end Go.LcRun
set_option maxRecDepth 10000
namespace Go.LcRun
open Go Go.Eng
set_option maxHeartbeats 4000000 in
theorem R_roadsCopy (m : Mp) (h : m.ok) : R L Cs f_roads_Copy [.a m.C] [] = some (.w (.a [I m.ver, .rslice (Ln.rows m.lanes), .rslice (Zo.rows m.zones), .rslice (Sg.rows m.sigs), .slice 0 m.works.length 6 0 m.works.length none]), [ebk 6 m.works.length (Wk.rows m.works)]) := by
  have h1 := R_each_Lane m.lanes h.ls h.l
  have h2 := R_each_Zone m.zones h.zs h.z
  have h3 := R_each_Signal m.sigs h.ss h.s
  have h4 := R_each_Work m.works h.w
  have hrl : (Wk.rows m.works).length = m.works.length := by simp [Wk.rows]
  rw [R_fn F_roads_Copy rfl]
  simp only [Mp.C]
  generalize Ln.rows m.lanes = r1 at *
  generalize Zo.rows m.zones = r2 at *
  generalize Sg.rows m.sigs = r3 at *
  generalize Wk.rows m.works = r4 at *
  simp [c_roads_Copy, h1, h2, h3, h4]
theorem app_nil {M : Mem} {es bs : Nat} {ys : List (List Cl)} (hy : ∀ r ∈ ys, r.length = es) (he : 0 < es) (hr : ys.length * bs ≤ 140737488355328) : appendOp M es bs .nilslice (.rslice ys) = if ys = [] then some (.w (.c .nilslice), M, .no) else some (.w (.c (.slice M.length ys.length es 0 ys.length none)), M ++ [some (own es ys)], .no) := by
  have h5 : ys.all (fun r => r.length == es) = true := by simpa using hy
  unfold appendOp elemsOf
  simp [h5, roomy, hr, he, own, -List.all_eq_true]
end Go.LcRun
set_option maxRecDepth 10000
namespace Go.LcRun
open Go Go.Eng
theorem el_rs {rows : List (List Cl)} {n : Nat} (hy : ∀ r ∈ rows, r.length = n) (M : Mem) : elemsOf M n (.rslice rows) = some rows := by
  simp [elemsOf]
  exact hy
theorem R_Copy01 (p : List Pt2) (h : p.length ≤ 1000) : R L Cs f_kerbstoneref01_Copy [.a [.rslice (Pt2.rows p)]] [] = some (.w (.a [.rslice (Pt2.rows p)]), []) := by
  have hy : ∀ r ∈ Pt2.rows p, r.length = 2 := fun r hr => by simp only [Pt2.rows, List.mem_map] at hr; obtain ⟨_, _, rfl⟩ := hr; rfl
  have hl : (Pt2.rows p).length * 16 ≤ 140737488355328 := by simp [Pt2.rows]; omega
  generalize Pt2.rows p = rows at *
  rw [R_fn F_kerbstoneref01_Copy rfl]
  by_cases h0 : rows = []
  · subst h0
    simp [c_kerbstoneref01_Copy, newAt]
  · simp [-elemsOf, c_kerbstoneref01_Copy, newAt, el_rs hy, hl, h0]
theorem R_refints (l : List Int) (h : l.length ≤ 1000) : R L Cs f_kerbstoneref03_ints [.c (.rslice (rows1 l))] [] = some (.w (.c (.rslice (rows1 l))), []) := by
  have hy := rows1_all l
  have hl : (rows1 l).length * 8 ≤ 140737488355328 := by simp [rows1]; omega
  generalize rows1 l = rows at *
  rw [R_fn F_kerbstoneref03_ints rfl]
  by_cases h0 : rows = []
  · subst h0
    simp [c_kerbstoneref03_ints, newAt]
  · simp [-elemsOf, c_kerbstoneref03_ints, newAt, el_rs hy, hl, h0]
theorem R_OwnLane (l : Ln) (h : l.ok) : R L Cs f_kerbstoneref03_OwnLane [.a l.C] [] = some (.w (.a l.C), []) := by
  have h1 := R_Copy01 l.pts h.1
  have h2 := R_refints l.next h.2
  rw [R_fn F_kerbstoneref03_OwnLane rfl]
  simp only [Ln.C]
  generalize Pt2.rows l.pts = r1 at *
  generalize rows1 l.next = r2 at *
  simp [c_kerbstoneref03_OwnLane, h1, h2]
theorem R_OwnZone (z : Zo) (h : z.ok) : R L Cs f_kerbstoneref03_OwnZone [.a z.C] [] = some (.w (.a z.C), []) := by
  have hy : ∀ r ∈ Pa.rows z.parts, r.length = 4 := fun r hr => by simp only [Pa.rows, List.mem_map] at hr; obtain ⟨_, _, rfl⟩ := hr; rfl
  have h : z.parts.length ≤ 1000 := h
  have hl : (Pa.rows z.parts).length * 32 ≤ 140737488355328 := by simp [Pa.rows]; omega
  rw [R_fn F_kerbstoneref03_OwnZone rfl]
  simp only [Zo.C]
  generalize Pa.rows z.parts = rows at *
  by_cases h0 : rows = []
  · subst h0
    simp [c_kerbstoneref03_OwnZone]
  · simp [-elemsOf, c_kerbstoneref03_OwnZone, el_rs hy, hl, h0, markOne]
abbrev orE (i : Nat) : Env := [(3, .w (.c (.slice 2 i 2 0 i none))), (4, .w (W i)), (2, .w (Pt 1)), (1, .w (Pt 0))]
abbrev orM (s : Sg) (acc : List (List Cl)) (i : Nat) : Mem := [bx 2 s.C, bx 2 [I 0, .nilslice], ebk 2 i acc]
set_option maxHeartbeats 4000000 in
theorem OwnSignal_loop (s : Sg) (h : s.ok) : ∀ (r : List Ph) (i : Nat), s.phases.drop i = r → i ≤ s.phases.length →
    Y L Cs c_kerbstoneref03_OwnSignal_l1 (some [3, 4, 2, 1]) 3 (orE i) (orM s (Ph.rows (s.phases.take i)) i) = some (.exit 0, (9, .w (Bo false)) :: orE s.phases.length, orM s (Ph.rows s.phases) s.phases.length)
  | [], i, hd, hi => by
    obtain rfl := drop_end hd hi
    have hrl : (Ph.rows s.phases).length = s.phases.length := by simp [Ph.rows]
    rw [Y_step c_kerbstoneref03_OwnSignal_l1.eq_1]
    simp [hrl]
  | x :: r, i, hd, hi => by
    obtain ⟨hi1, hx, hd', hg⟩ := drop_get (f := Ph.C) hd
    have ho := R_refints x.green (h.2 x (List.mem_of_getElem? hg))
    rw [← OwnSignal_loop s h r (i + 1) hd' (by omega)]
    have hl := h.1
    have hw := wrap1 (i := i) (by omega)
    have hci : (i : Int) < s.phases.length := by omega
    have hrl : (Ph.rows s.phases).length = s.phases.length := by simp [Ph.rows]
    have hrt : (Ph.rows (s.phases.take i)).length = i := by simp [Ph.rows]; omega
    have hget : ∀ h : i < (Ph.rows s.phases).length, (Ph.rows s.phases)[i]'h = x.C := hx
    have hro : (i + 1) * 32 ≤ 140737488355328 := by omega
    have hta : Ph.rows (s.phases.take (i + 1)) = Ph.rows (s.phases.take i) ++ [x.C] := by
      rw [List.take_add_one, hg]; simp [Ph.rows]
    have htt : List.take i (Ph.rows (s.phases.take i)) = Ph.rows (s.phases.take i) := List.take_of_length_le (by omega)
    rw [hta]
    simp only [orM, Sg.C]
    generalize Ph.rows (s.phases.take i) = acc at *
    generalize Ph.rows s.phases = rows at *
    have hi2 : i < rows.length := by omega
    simp only [Ph.C] at hget ⊢
    generalize rows1 x.green = gr at *
    rw [Y_step c_kerbstoneref03_OwnSignal_l1.eq_1]
    simp [hi1, hci, hw, hget, ho, newAt, hrl, hrt, hro, htt, hi2]
    rfl
theorem R_OwnSignal (s : Sg) (h : s.ok) : R L Cs f_kerbstoneref03_OwnSignal [.a s.C] [] = some (.w (.a s.C), []) := by
  have hL := OwnSignal_loop s h s.phases 0 rfl (Nat.zero_le _)
  have hrl : (Ph.rows s.phases).length = s.phases.length := by simp [Ph.rows]
  have h0 : Ph.rows (s.phases.take 0) = [] := rfl
  rw [h0] at hL
  rw [R_fn F_kerbstoneref03_OwnSignal rfl]
  simp only [orE, orM, Sg.C, Int.natCast_zero] at hL ⊢
  generalize Ph.rows s.phases = rows at *
  have htk : List.take s.phases.length rows = rows := List.take_of_length_le (by omega)
  simp [c_kerbstoneref03_OwnSignal, hL, newAt, hrl, htk, markOne]
end Go.LcRun
set_option maxRecDepth 10000
namespace Go.LcRun
open Go Go.Eng
abbrev gbk (es g v : Nat) (rows : List (List Cl)) : Option Blk := some { box := false, esz := es, rows := rows, gen := g, fz := false, ver := v }
inductive Lh (es n : Nat) (M : Mem) : Option Nat → List (List Cl) → Cl → Prop
  | nil : Lh es n M none [] .nilslice
  | own (j g v len : Nat) (rows : List (List Cl)) (hj : n ≤ j) (hl : len ≤ rows.length) (h : M[j]? = some (gbk es g v rows)) : Lh es n M (some j) (rows.take len) (.slice j g es 0 len none)
section
variable {es n : Nat} {M M' : Mem} {o : Option Nat} {A : List (List Cl)} {S : Cl}
theorem Lh.keep (h : Lh es n M o A S) (hk : ∀ j, o = some j → n ≤ j → j < M.length → M'[j]? = M[j]?) : Lh es n M' o A S := by
  cases h with
  | nil => exact .nil
  | own j g v len rows hj hl h => exact .own j g v len rows hj hl ((hk j rfl hj (List.getElem?_eq_some_iff.1 h).1).trans h)
theorem Lh.lt (h : Lh es n M o A S) {j : Nat} (ho : o = some j) : n ≤ j ∧ j < M.length := by
  cases h with
  | nil => grind
  | own j g v len rows hj hl h => grind
theorem Lh.frz (h : Lh es n M o A S) : frzC M S = some (.rslice A) := by
  cases h with
  | nil => rfl
  | own j g v len rows hj hl h => simp_all
theorem Lh.app (l : Lh es n M o A S) (h0e : 0 < es) (hn : n ≤ M.length) {x : Cl} {R : List (List Cl)} (he : elemsOf M es x = some R) (bs : Nat) (hr : (A.length + R.length) * bs ≤ 140737488355328) :
    ∃ S' M1 fp o', appendOp M es bs S x = some (.w (.c S'), M1, fp) ∧ Lh es n M1 o' (A ++ R) S' ∧ (o' = o ∨ o' = some M.length) ∧ M.length ≤ M1.length ∧ (∀ k, k < M.length → o ≠ some k → M1[k]? = M[k]?) := by
  by_cases h0 : R = []
  · subst h0
    cases l with
    | nil => exact ⟨.nilslice, M, .no, none, by simp [-elemsOf, appendOp, he], .nil, .inl rfl, Nat.le_refl _, fun _ _ _ => rfl⟩
    | own j g v len rows hj hl h =>
      refine ⟨_, M, .wr [(j, 0, whole)], some j, ?_, by rw [List.append_nil]; exact .own j g v len rows hj hl h, .inl rfl, Nat.le_refl _, fun _ _ _ => rfl⟩
      have : len * bs ≤ 140737488355328 := by simpa [hl] using hr
      simp [-elemsOf, appendOp, he, Eng.look, h, roomy, this, hl, h0e]
  · cases l with
    | nil =>
      have hro : R.length * bs ≤ 140737488355328 := by simpa using hr
      refine ⟨.slice M.length R.length es 0 R.length none, M ++ [gbk es R.length R.length R], .no, some M.length, by simp [-elemsOf, appendOp, he, h0, roomy, hro, h0e], ?_, .inr rfl, by simp, fun k hk _ => List.getElem?_append_left hk⟩
      have := Lh.own (es := es) (M := M ++ [gbk es R.length R.length R]) M.length R.length R.length R.length R hn (Nat.le_refl _) (by simp)
      simpa using this
    | own j g v len rows hj hl h =>
      have hjl := (List.getElem?_eq_some_iff.1 h).1
      have hro : (len + R.length) * bs ≤ 140737488355328 := by simpa [hl] using hr
      refine ⟨.slice j (g + R.length) es 0 (len + R.length) none, M.set j (gbk es (g + R.length) (v + R.length) (rows.take len ++ R)), .wr [(j, 0, whole)], some j, by simp [-elemsOf, appendOp, he, h0, Eng.look, h, roomy, hro, hl, h0e], ?_, .inl rfl, by simp, fun k hk hne => List.getElem?_set_ne (fun e => hne (by rw [e]))⟩
      have := Lh.own (es := es) (M := M.set j (gbk es (g + R.length) (v + R.length) (rows.take len ++ R))) j (g + R.length) (v + R.length) (len + R.length) (rows.take len ++ R) hj (by simp [hl]) (List.getElem?_set_self hjl)
      rwa [List.take_of_length_le (i := len + R.length) (l := rows.take len ++ R) (by simp [hl])] at this
end
def eS : Nat → Nat
  | 0 => 5
  | 3 => 6
  | _ => 2
def up {α : Type} (f : Nat → α) (i : Nat) (x : α) : Nat → α := fun k => if k = i then x else f k
structure Bk (n b : Nat) (t : Int) (M0 : Mem) (f : Nat → List (List Cl)) (M : Mem) : Prop where
  len : n ≤ M.length
  keep : ∀ k, k < n → k ≠ b → M[k]? = M0[k]?
  bx : ∃ v, ∃ F : Nat → Cl, ∃ o : Nat → Option Nat, M[b]? = some (bxv v 5 [I t, F 0, F 1, F 2, F 3]) ∧ (∀ i, i < 4 → Lh (eS i) n M (o i) (f i) (F i)) ∧ ∀ i j, i < 4 → j < 4 → i ≠ j → ∀ k, o i = some k → o j ≠ some k
variable {n b : Nat} {t : Int} {M0 M : Mem} {f : Nat → List (List Cl)}
theorem Bk.more (h : Bk n b t M0 f M) (hb : b < n) (X : Mem) : Bk n b t M0 f (M ++ X) := by
  obtain ⟨h1, h2, v, F, o, hx, l, d⟩ := h
  exact ⟨by simp; omega, fun k hk hkb => by rw [List.getElem?_append_left (by omega)]; exact h2 k hk hkb, v, F, o, by rw [List.getElem?_append_left (by omega)]; exact hx, fun i hi => (l i hi).keep fun j _ _ hj => List.getElem?_append_left hj, d⟩
theorem Bk.drop (h : Bk n b t M0 f M) (hb : b < n) {m : Nat} (hm : n ≤ m) (E : Env) : Bk n b t M0 f (drop0 m E M) := by
  unfold drop0
  split
  · exact h
  · split
    · rename_i hl hw
      obtain ⟨h1, h2, v, F, o, hx, l, d⟩ := h
      simp only [Bool.and_eq_true] at hw
      have hx' : (M.take m)[b]? = some (bxv v 5 [I t, F 0, F 1, F 2, F 3]) := by rw [List.getElem?_take_of_lt (by omega)]; exact hx
      have hr : ([[I t, F 0, F 1, F 2, F 3]] : List (List Cl)).all (fun r => r.all (Eng.below m)) = true := List.all_eq_true.1 hw.2 _ (List.mem_of_getElem? hx')
      simp only [List.all_cons, List.all_nil, Bool.and_true, Bool.and_eq_true] at hr
      obtain ⟨_, r0, r1, r2, r3⟩ := hr
      have key : ∀ {es : Nat} {o : Option Nat} {rows : List (List Cl)} {S : Cl}, Lh es n M o rows S → Eng.below m S = true → Lh es n (M.take m) o rows S := fun {es o rows S} l hs => by
        cases l with
        | nil => exact .nil
        | own j g v len rows hj hl' h =>
          have : j < m := of_decide_eq_true hs
          exact .own j g v len rows hj hl' (by rw [List.getElem?_take_of_lt this]; exact h)
      exact ⟨by simp; omega, fun k hk hkb => by rw [List.getElem?_take_of_lt (by omega)]; exact h2 k hk hkb, v, F, o, hx', fun i hi => key (l i hi) (by match i, hi with | 0, _ => exact r0 | 1, _ => exact r1 | 2, _ => exact r2 | 3, _ => exact r3), d⟩
    · exact h
theorem Bk.put (h1 : n ≤ M.length) (h2 : ∀ k, k < n → k ≠ b → M[k]? = M0[k]?) (hb : b < n) {F : Nat → Cl} {o : Nat → Option Nat} (l : ∀ i, i < 4 → Lh (eS i) n M (o i) (f i) (F i)) (d : ∀ i j, i < 4 → j < 4 → i ≠ j → ∀ k, o i = some k → o j ≠ some k)
    {i : Nat} {M1 : Mem} {o' : Option Nat} {A : List (List Cl)} {S : Cl} (l' : Lh (eS i) n M1 o' A S) (ho : o' = o i ∨ o' = some M.length) (hle : M.length ≤ M1.length) (hk : ∀ k, k < M.length → o i ≠ some k → M1[k]? = M[k]?) (hi : i < 4) (w : Nat) :
    Bk n b t M0 (up f i A) (M1.set b (bxv w 5 [I t, up F i S 0, up F i S 1, up F i S 2, up F i S 3])) := by
  have hge : ∀ k, o i = some k → n ≤ k := fun k e => ((l i hi).lt e).1
  refine ⟨by simp; omega, fun k hk1 hkb => ?_, w, up F i S, up o i o', List.getElem?_set_self (by omega), fun j hj => ?_, fun a c ha3 hc3 hac k ha hc => ?_⟩
  · rw [List.getElem?_set_ne (Ne.symm hkb), hk k (by omega) (fun e => by have := hge k e; omega)]
    exact h2 k hk1 hkb
  · unfold up
    by_cases e : j = i
    · subst e
      rw [if_pos rfl, if_pos rfl, if_pos rfl]
      exact l'.keep fun k _ hn _ => List.getElem?_set_ne (by omega)
    · rw [if_neg e, if_neg e, if_neg e]
      refine (l j hj).keep fun k ho hn hl => ?_
      rw [List.getElem?_set_ne (by omega)]
      exact hk k hl (fun e2 => d j i hj hi e k ho e2)
  · unfold up at ha hc
    by_cases e : a = i
    · rw [if_pos e] at ha
      have e2 : c ≠ i := fun e2 => hac (e.trans e2.symm)
      rw [if_neg e2] at hc
      rcases ho with q | q <;> rw [q] at ha
      · exact d i c hi hc3 (Ne.symm e2) k ha hc
      · cases ha
        exact absurd ((l c hc3).lt hc).2 (by omega)
    · rw [if_neg e] at ha
      by_cases e2 : c = i
      · rw [if_pos e2] at hc
        rcases ho with q | q <;> rw [q] at hc
        · exact d a i ha3 hi e k ha hc
        · cases hc
          exact absurd ((l a ha3).lt ha).2 (by omega)
      · rw [if_neg e2] at hc
        exact d a c ha3 hc3 hac k ha hc
end Go.LcRun
set_option maxRecDepth 10000
namespace Go.LcRun
open Go Go.Eng
theorem el_one {M : Mem} {r : List Cl} {es : Nat} : elemsOf (M ++ [gbk es 1 1 [r]]) es (.slice M.length 1 es 0 1 none) = some [r] := by simp [elemsOf, Eng.look]
abbrev cp1E (i : Nat) : Env := [(4, .w (W i)), (2, .w (Pt 1)), (1, .w (Pt 0)), (3, .w (Pt 2))]
set_option maxHeartbeats 8000000 in
theorem cp1_loop (m : Mp) (h : m.ok) (z : Option Blk) (M0 : Mem) (hM0 : M0[0]? = some (bx 5 m.C)) (n1 : Nat) (hn1 : 3 ≤ n1) : ∀ (r : List Ln) (i : Nat) (f : Nat → List (List Cl)) (M : Mem), m.lanes.drop i = r → i ≤ m.lanes.length → f 0 = Ln.rows (m.lanes.take i) → Bk 3 2 m.ver M0 f M →
    ∃ M', Y L Cs c_kerbstoneref03_Copy_l1 (some [4,2,1,3]) n1 (cp1E i) M = some (.exit 0, (17, .w (Bo false)) :: cp1E m.lanes.length, M') ∧ Bk 3 2 m.ver M0 (up f 0 (Ln.rows m.lanes)) M'
  | [], i, f, M, hd, hi, hf, H => by
    obtain rfl := drop_end hd hi
    have hrl : (Ln.rows m.lanes).length = m.lanes.length := by simp [Ln.rows]
    have h0 := (H.keep 0 (by decide) (by decide)).trans hM0
    refine ⟨M, ?_, ?_⟩
    · rw [Y_step c_kerbstoneref03_Copy_l1.eq_1]
      simp [h0, hrl]
    · rw [List.take_length] at hf
      rwa [show up f 0 (Ln.rows m.lanes) = f from funext fun k => by unfold up; split <;> simp_all]
  | x :: r, i, f, M, hd, hi, hf, H => by
    obtain ⟨hi1, hx0, hd', hg⟩ := drop_get (f := Ln.C) hd
    have ho := R_OwnLane x (h.ls x (List.mem_of_getElem? hg))
    have hl := h.l
    have hlf : (f 0).length = i := by rw [hf]; simp [Ln.rows]; omega
    have H2 := H.more (by decide) [gbk 5 1 1 [x.C]]
    obtain ⟨v, F, o, hx, l, d⟩ := H2.bx
    obtain ⟨S', M1, fp, o', hA, l', ho', hle, hk⟩ := (l 0 (by decide)).app (by decide) H2.len el_one 72 (by simp; omega)
    have hbo : o 0 ≠ some 2 := fun e => by have := ((l 0 (by decide)).lt e).1; omega
    have hx1 := (hk 2 (by have := H2.len; omega) hbo).trans hx
    have H3 := (Bk.put (t := m.ver) H2.len H2.keep (by decide) l d l' ho' hle hk (by decide) (v + 1)).drop (by decide) hn1 (cp1E (i + 1))
    have hta : f 0 ++ [x.C] = Ln.rows (m.lanes.take (i + 1)) := by
      rw [hf, List.take_add_one, hg]; simp [Ln.rows]
    obtain ⟨M', y, H4⟩ := cp1_loop m h z M0 hM0 n1 hn1 r (i + 1) _ _ hd' (by omega) (by show f 0 ++ [x.C] = _; exact hta) H3
    refine ⟨M', ?_, ?_⟩
    · rw [← y]
      have h0 := (H.keep 0 (by decide) (by decide)).trans hM0
      have hlm := H.len
      rw [List.getElem?_append_left (by omega)] at hx
      have g8 : ∀ X : Mem, (M ++ X)[0]? = some (bx 5 m.C) := fun X => by rw [List.getElem?_append_left (by omega)]; exact h0
      have g7 : ∀ (X : Mem) (hh : 0 < (M ++ X).length), (M ++ X)[0]'hh = bx 5 m.C := fun X hh => Option.some.inj ((List.getElem?_eq_getElem hh).symm.trans (g8 X))
      have g9 : ∀ X : Mem, (M ++ X)[2]? = some (bxv v 5 [I m.ver, F 0, F 1, F 2, F 3]) := fun X => by rw [List.getElem?_append_left (by omega)]; exact hx
      have hw := wrap1 (i := i) (by omega)
      have hci : (i : Int) < m.lanes.length := by omega
      have hrl : (Ln.rows m.lanes).length = m.lanes.length := by simp [Ln.rows]
      have hget : ∀ h : i < (Ln.rows m.lanes).length, (Ln.rows m.lanes)[i]'h = x.C := hx0
      have hi2 : i < (Ln.rows m.lanes).length := by omega
      simp only [Mp.C] at h0 g7 g8
      generalize Ln.rows m.lanes = rows at *
      simp only [Ln.C] at hget ho hA
      simp only [eS] at hA
      rw [Y_step c_kerbstoneref03_Copy_l1.eq_1]
      simp [-drop0, -appendOp, hi1, hci, hw, hget, ho, h0, g7, g8, g9, hx, hx1, hrl, hi2, hA, newAt, up]
      try rfl
    · rwa [show up (up f 0 (f 0 ++ [x.C])) 0 (Ln.rows m.lanes) = up f 0 (Ln.rows m.lanes) from funext fun k => by unfold up; split <;> rfl] at H4
abbrev cp2E (i : Nat) : Env := [(5, .w (W i)), (2, .w (Pt 1)), (1, .w (Pt 0)), (3, .w (Pt 2))]
set_option maxHeartbeats 8000000 in
theorem cp2_loop (m : Mp) (h : m.ok) (z : Option Blk) (M0 : Mem) (hM0 : M0[0]? = some (bx 5 m.C)) (n1 : Nat) (hn1 : 3 ≤ n1) : ∀ (r : List Zo) (i : Nat) (f : Nat → List (List Cl)) (M : Mem), m.zones.drop i = r → i ≤ m.zones.length → f 1 = Zo.rows (m.zones.take i) → Bk 3 2 m.ver M0 f M →
    ∃ M', Y L Cs c_kerbstoneref03_Copy_l2 (some [5,2,1,3]) n1 (cp2E i) M = some (.exit 2, (35, .w (Bo false)) :: cp2E m.zones.length, M') ∧ Bk 3 2 m.ver M0 (up f 1 (Zo.rows m.zones)) M'
  | [], i, f, M, hd, hi, hf, H => by
    obtain rfl := drop_end hd hi
    have hrl : (Zo.rows m.zones).length = m.zones.length := by simp [Zo.rows]
    have h0 := (H.keep 0 (by decide) (by decide)).trans hM0
    refine ⟨M, ?_, ?_⟩
    · rw [Y_step c_kerbstoneref03_Copy_l2.eq_1]
      simp [h0, hrl]
    · rw [List.take_length] at hf
      rwa [show up f 1 (Zo.rows m.zones) = f from funext fun k => by unfold up; split <;> simp_all]
  | x :: r, i, f, M, hd, hi, hf, H => by
    obtain ⟨hi1, hx0, hd', hg⟩ := drop_get (f := Zo.C) hd
    have ho := R_OwnZone x (h.zs x (List.mem_of_getElem? hg))
    have hl := h.z
    have hlf : (f 1).length = i := by rw [hf]; simp [Zo.rows]; omega
    have H2 := H.more (by decide) [gbk 2 1 1 [x.C]]
    obtain ⟨v, F, o, hx, l, d⟩ := H2.bx
    obtain ⟨S', M1, fp, o', hA, l', ho', hle, hk⟩ := (l 1 (by decide)).app (by decide) H2.len el_one 32 (by simp; omega)
    have hbo : o 1 ≠ some 2 := fun e => by have := ((l 1 (by decide)).lt e).1; omega
    have hx1 := (hk 2 (by have := H2.len; omega) hbo).trans hx
    have H3 := (Bk.put (t := m.ver) H2.len H2.keep (by decide) l d l' ho' hle hk (by decide) (v + 1)).drop (by decide) hn1 (cp2E (i + 1))
    have hta : f 1 ++ [x.C] = Zo.rows (m.zones.take (i + 1)) := by
      rw [hf, List.take_add_one, hg]; simp [Zo.rows]
    obtain ⟨M', y, H4⟩ := cp2_loop m h z M0 hM0 n1 hn1 r (i + 1) _ _ hd' (by omega) (by show f 1 ++ [x.C] = _; exact hta) H3
    refine ⟨M', ?_, ?_⟩
    · rw [← y]
      have h0 := (H.keep 0 (by decide) (by decide)).trans hM0
      have hlm := H.len
      rw [List.getElem?_append_left (by omega)] at hx
      have g8 : ∀ X : Mem, (M ++ X)[0]? = some (bx 5 m.C) := fun X => by rw [List.getElem?_append_left (by omega)]; exact h0
      have g7 : ∀ (X : Mem) (hh : 0 < (M ++ X).length), (M ++ X)[0]'hh = bx 5 m.C := fun X hh => Option.some.inj ((List.getElem?_eq_getElem hh).symm.trans (g8 X))
      have g9 : ∀ X : Mem, (M ++ X)[2]? = some (bxv v 5 [I m.ver, F 0, F 1, F 2, F 3]) := fun X => by rw [List.getElem?_append_left (by omega)]; exact hx
      have hw := wrap1 (i := i) (by omega)
      have hci : (i : Int) < m.zones.length := by omega
      have hrl : (Zo.rows m.zones).length = m.zones.length := by simp [Zo.rows]
      have hget : ∀ h : i < (Zo.rows m.zones).length, (Zo.rows m.zones)[i]'h = x.C := hx0
      have hi2 : i < (Zo.rows m.zones).length := by omega
      simp only [Mp.C] at h0 g7 g8
      generalize Zo.rows m.zones = rows at *
      simp only [Zo.C] at hget ho hA
      simp only [eS] at hA
      rw [Y_step c_kerbstoneref03_Copy_l2.eq_1]
      simp [-drop0, -appendOp, hi1, hci, hw, hget, ho, h0, g7, g8, g9, hx, hx1, hrl, hi2, hA, newAt, up]
      try rfl
    · rwa [show up (up f 1 (f 1 ++ [x.C])) 1 (Zo.rows m.zones) = up f 1 (Zo.rows m.zones) from funext fun k => by unfold up; split <;> rfl] at H4
abbrev cp3E (i : Nat) : Env := [(6, .w (W i)), (2, .w (Pt 1)), (1, .w (Pt 0)), (3, .w (Pt 2))]
set_option maxHeartbeats 8000000 in
theorem cp3_loop (m : Mp) (h : m.ok) (z : Option Blk) (M0 : Mem) (hM0 : M0[0]? = some (bx 5 m.C)) (n1 : Nat) (hn1 : 3 ≤ n1) : ∀ (r : List Sg) (i : Nat) (f : Nat → List (List Cl)) (M : Mem), m.sigs.drop i = r → i ≤ m.sigs.length → f 2 = Sg.rows (m.sigs.take i) → Bk 3 2 m.ver M0 f M →
    ∃ M', Y L Cs c_kerbstoneref03_Copy_l3 (some [6,2,1,3]) n1 (cp3E i) M = some (.exit 4, (53, .w (Bo false)) :: cp3E m.sigs.length, M') ∧ Bk 3 2 m.ver M0 (up f 2 (Sg.rows m.sigs)) M'
  | [], i, f, M, hd, hi, hf, H => by
    obtain rfl := drop_end hd hi
    have hrl : (Sg.rows m.sigs).length = m.sigs.length := by simp [Sg.rows]
    have h0 := (H.keep 0 (by decide) (by decide)).trans hM0
    refine ⟨M, ?_, ?_⟩
    · rw [Y_step c_kerbstoneref03_Copy_l3.eq_1]
      simp [h0, hrl]
    · rw [List.take_length] at hf
      rwa [show up f 2 (Sg.rows m.sigs) = f from funext fun k => by unfold up; split <;> simp_all]
  | x :: r, i, f, M, hd, hi, hf, H => by
    obtain ⟨hi1, hx0, hd', hg⟩ := drop_get (f := Sg.C) hd
    have ho := R_OwnSignal x (h.ss x (List.mem_of_getElem? hg))
    have hl := h.s
    have hlf : (f 2).length = i := by rw [hf]; simp [Sg.rows]; omega
    have H2 := H.more (by decide) [gbk 2 1 1 [x.C]]
    obtain ⟨v, F, o, hx, l, d⟩ := H2.bx
    obtain ⟨S', M1, fp, o', hA, l', ho', hle, hk⟩ := (l 2 (by decide)).app (by decide) H2.len el_one 32 (by simp; omega)
    have hbo : o 2 ≠ some 2 := fun e => by have := ((l 2 (by decide)).lt e).1; omega
    have hx1 := (hk 2 (by have := H2.len; omega) hbo).trans hx
    have H3 := (Bk.put (t := m.ver) H2.len H2.keep (by decide) l d l' ho' hle hk (by decide) (v + 1)).drop (by decide) hn1 (cp3E (i + 1))
    have hta : f 2 ++ [x.C] = Sg.rows (m.sigs.take (i + 1)) := by
      rw [hf, List.take_add_one, hg]; simp [Sg.rows]
    obtain ⟨M', y, H4⟩ := cp3_loop m h z M0 hM0 n1 hn1 r (i + 1) _ _ hd' (by omega) (by show f 2 ++ [x.C] = _; exact hta) H3
    refine ⟨M', ?_, ?_⟩
    · rw [← y]
      have h0 := (H.keep 0 (by decide) (by decide)).trans hM0
      have hlm := H.len
      rw [List.getElem?_append_left (by omega)] at hx
      have g8 : ∀ X : Mem, (M ++ X)[0]? = some (bx 5 m.C) := fun X => by rw [List.getElem?_append_left (by omega)]; exact h0
      have g7 : ∀ (X : Mem) (hh : 0 < (M ++ X).length), (M ++ X)[0]'hh = bx 5 m.C := fun X hh => Option.some.inj ((List.getElem?_eq_getElem hh).symm.trans (g8 X))
      have g9 : ∀ X : Mem, (M ++ X)[2]? = some (bxv v 5 [I m.ver, F 0, F 1, F 2, F 3]) := fun X => by rw [List.getElem?_append_left (by omega)]; exact hx
      have hw := wrap1 (i := i) (by omega)
      have hci : (i : Int) < m.sigs.length := by omega
      have hrl : (Sg.rows m.sigs).length = m.sigs.length := by simp [Sg.rows]
      have hget : ∀ h : i < (Sg.rows m.sigs).length, (Sg.rows m.sigs)[i]'h = x.C := hx0
      have hi2 : i < (Sg.rows m.sigs).length := by omega
      simp only [Mp.C] at h0 g7 g8
      generalize Sg.rows m.sigs = rows at *
      simp only [Sg.C] at hget ho hA
      simp only [eS] at hA
      rw [Y_step c_kerbstoneref03_Copy_l3.eq_1]
      simp [-drop0, -appendOp, hi1, hci, hw, hget, ho, h0, g7, g8, g9, hx, hx1, hrl, hi2, hA, newAt, up]
      try rfl
    · rwa [show up (up f 2 (f 2 ++ [x.C])) 2 (Sg.rows m.sigs) = up f 2 (Sg.rows m.sigs) from funext fun k => by unfold up; split <;> rfl] at H4
end Go.LcRun
set_option maxRecDepth 10000
namespace Go.LcRun
open Go Go.Eng
theorem frz_int (M : Mem) (k : IntKind) (n : Int) : frzC M (.int k n) = some (.int k n) := rfl
def cpF (l : List (List Cl)) : Nat → List (List Cl)
  | 3 => l
  | _ => []
theorem Wk.all (l : List Wk) : ∀ r ∈ Wk.rows l, r.length = 6 := fun r hr => by simp only [Wk.rows, List.mem_map] at hr; obtain ⟨_, _, rfl⟩ := hr; rfl
abbrev cpM (m : Mp) (S : Cl) : Mem := [bx 5 m.C, bx 5 [I 0, .nilslice, .nilslice, .nilslice, .nilslice], bxv 1 5 [I m.ver, .nilslice, .nilslice, .nilslice, S]]
theorem cp_all (m : Mp) (h : m.ok) (S : Cl) (X : Mem) (o3 : Option Nat) (hS : Lh 6 3 (cpM m S ++ X) o3 (Wk.rows m.works) S) :
    ∃ (M1 M2 M3 : Mem) (v : Nat) (F : Nat → Cl), Y L Cs c_kerbstoneref03_Copy_l1 (some [4,2,1,3]) (3 + X.length) (cp1E 0) (cpM m S ++ X) = some (.exit 0, (17, .w (Bo false)) :: cp1E m.lanes.length, M1) ∧
      Y L Cs c_kerbstoneref03_Copy_l2 (some [5,2,1,3]) M1.length (cp2E 0) M1 = some (.exit 2, (35, .w (Bo false)) :: cp2E m.zones.length, M2) ∧
      Y L Cs c_kerbstoneref03_Copy_l3 (some [6,2,1,3]) M2.length (cp3E 0) M2 = some (.exit 4, (53, .w (Bo false)) :: cp3E m.sigs.length, M3) ∧
      M3[2]? = some (bxv v 5 [I m.ver, F 0, F 1, F 2, F 3]) ∧ M3[1]? = some (bx 5 [I 0, .nilslice, .nilslice, .nilslice, .nilslice]) ∧
      (∀ X, (M3.set 1 X)[1]? = some X ∧ frzC (M3.set 1 X) (F 0) = some (.rslice (Ln.rows m.lanes)) ∧ frzC (M3.set 1 X) (F 1) = some (.rslice (Zo.rows m.zones)) ∧ frzC (M3.set 1 X) (F 2) = some (.rslice (Sg.rows m.sigs)) ∧ frzC (M3.set 1 X) (F 3) = some (.rslice (Wk.rows m.works))) := by
  have HB : Bk 3 2 m.ver (cpM m S ++ X) (cpF (Wk.rows m.works)) (cpM m S ++ X) := by
    refine ⟨by simp, fun _ _ _ => rfl, 1, fun | 3 => S | _ => .nilslice, fun | 3 => o3 | _ => none, rfl, ?_, ?_⟩
    · intro i hi
      match i, hi with
      | 0, _ => exact .nil
      | 1, _ => exact .nil
      | 2, _ => exact .nil
      | 3, _ => exact hS
    · intro i j hi hj hij k ho
      match i, j, hi, hj with
      | 0, _, _, _ => cases ho
      | 1, _, _, _ => cases ho
      | 2, _, _, _ => cases ho
      | 3, 0, _, _ => simp
      | 3, 1, _, _ => simp
      | 3, 2, _, _ => simp
      | 3, 3, _, _ => exact absurd rfl hij
  obtain ⟨M1, y1, H1⟩ := cp1_loop m h none _ rfl (3 + X.length) (by omega) m.lanes 0 _ _ rfl (Nat.zero_le _) rfl HB
  obtain ⟨M2, y2, H2⟩ := cp2_loop m h none _ rfl M1.length H1.len m.zones 0 _ _ rfl (Nat.zero_le _) rfl H1
  obtain ⟨M3, y3, H3⟩ := cp3_loop m h none _ rfl M2.length H2.len m.sigs 0 _ _ rfl (Nat.zero_le _) rfl H2
  obtain ⟨v, F, o, hx, l, d⟩ := H3.bx
  have l' : ∀ i (hi : i < 4) (X : Option Blk), frzC (M3.set 1 X) (F i) = some (.rslice _) := fun i hi X => ((l i hi).keep (M' := M3.set 1 X) fun j _ hj _ => List.getElem?_set_ne (by omega)).frz
  exact ⟨M1, M2, M3, v, F, y1, y2, y3, hx, H3.keep 1 (by decide) (by decide), fun X => ⟨List.getElem?_set_self (by have := H3.len; omega), l' 0 (by decide) X, l' 1 (by decide) X, l' 2 (by decide) X, l' 3 (by decide) X⟩⟩
set_option maxHeartbeats 8000000 in
theorem R_refCopy (m : Mp) (h : m.ok) : R L Cs f_kerbstoneref03_Copy [.a m.C] [] = some (.w (.a m.C), []) := by
  have hl : (Wk.rows m.works).length * 48 ≤ 140737488355328 := by have := h.w; simp [Wk.rows]; omega
  have hrl : (Wk.rows m.works).length = m.works.length := by simp [Wk.rows]
  have key := cp_all m h
  rw [R_fn F_kerbstoneref03_Copy rfl]
  simp only [cpM, Mp.C] at key
  simp only [Mp.C]
  have hA : ∀ (M : Mem), appendOp M 6 48 .nilslice (.rslice (Wk.rows m.works)) = _ := fun M => (app_nil (Wk.all m.works) (by decide) hl)
  generalize Wk.rows m.works = r4 at *
  generalize Ln.rows m.lanes = r1 at *
  generalize Zo.rows m.zones = r2 at *
  generalize Sg.rows m.sigs = r3 at *
  by_cases hw : r4 = []
  · subst hw
    obtain ⟨M1, M2, M3, v, F, y1, y2, y3, hx, hx1, e⟩ := key .nilslice [] none .nil
    simp only [cp1E, cp2E, cp3E, Int.natCast_zero, List.length_nil, Nat.add_zero, List.append_nil] at y1 y2 y3
    simp [-elemsOf, -appendOp, -frzC, c_kerbstoneref03_Copy, hA, y1, y2, y3, hx, hx1, (e _).1, (e _).2.1, (e _).2.2.1, (e _).2.2.2.1, (e _).2.2.2.2, frz_int]
  · obtain ⟨M1, M2, M3, v, F, y1, y2, y3, hx, hx1, e⟩ := key (.slice 3 r4.length 6 0 r4.length none) [some (own 6 r4)] (some 3) (by simpa using Lh.own (es := 6) (n := 3) 3 r4.length r4.length r4.length r4 (Nat.le_refl _) (Nat.le_refl _) rfl)
    simp only [own, cp1E, cp2E, cp3E, Int.natCast_zero, List.length_cons, List.length_nil, Nat.add_zero, Nat.zero_add, List.cons_append, List.nil_append, Nat.reduceAdd, hrl] at y1 y2 y3
    simp [-elemsOf, -appendOp, -frzC, c_kerbstoneref03_Copy, hA, hw, hrl, y1, y2, y3, hx, hx1, (e _).1, (e _).2.1, (e _).2.2.1, (e _).2.2.2.1, (e _).2.2.2.2, frz_int]
end Go.LcRun
set_option maxRecDepth 10000
namespace Go.LcRun
open Go Go.Eng
abbrev zS : List Cl := [I 0, .nilslice, .nilslice, .nilslice, .nilslice, I 0, I 0, I 0, I 0, I 0, .nilslice, I 0, I 0, .bool false, I 0, I 0, I 0, .nilslice]
abbrev agE (i : Nat) : Env := [(3, .w (.c (.slice 2 i 7 0 i none))), (4, .w (W i)), (2, .w (Pt 1)), (1, .w (Pt 0))]
abbrev agM (s : Sc) (acc : List (List Cl)) (i : Nat) : Mem := [bxv 1 18 s.C, bx 18 zS, ebk 7 i acc]
theorem el_sl (M : Mem) (esz id g a off len : Nat) (c : Option Nat) : elemsOf M esz (.slice id g a off len c) = match Eng.look M id g with
    | some b => if !b.box && b.esz = esz && off + len ≤ b.rows.length then some ((b.rows.drop off).take len) else none
    | none => none := rfl
set_option maxHeartbeats 4000000 in
theorem agc_loop (s : Sc) (h : s.ok) : ∀ (r : List Ag) (i : Nat), s.agents.drop i = r → i ≤ s.agents.length →
    Y L Cs c_kerbstoneref10_Copy_l1 (some [3, 4, 2, 1]) 3 (agE i) (agM s (Ag.rows (s.agents.take i)) i) = some (.exit 0, (14, .w (Bo false)) :: agE s.agents.length, agM s (Ag.rows s.agents) s.agents.length)
  | [], i, hd, hi => by
    obtain rfl := drop_end hd hi
    have hrl : (Ag.rows s.agents).length = s.agents.length := by simp [Ag.rows]
    rw [Y_step c_kerbstoneref10_Copy_l1.eq_1]
    simp [hrl]
  | x :: r, i, hd, hi => by
    obtain ⟨hi1, hx, hd', hg⟩ := drop_get (f := Ag.C) hd
    have ha := h.as
    have hok : x.route.length ≤ 1000 := ha x (List.mem_of_getElem? hg)
    rw [← agc_loop s h r (i + 1) hd' (by omega)]
    have hl := h.a
    have hw := wrap1 (i := i) (by omega)
    have hci : (i : Int) < s.agents.length := by omega
    have hrl : (Ag.rows s.agents).length = s.agents.length := by simp [Ag.rows]
    have hrt : (Ag.rows (s.agents.take i)).length = i := by simp [Ag.rows]; omega
    have hget : ∀ h : i < (Ag.rows s.agents).length, (Ag.rows s.agents)[i]'h = x.C := hx
    have hro : (i + 1) * 64 ≤ 140737488355328 := by omega
    have hro2 : (rows1 x.route).length * 8 ≤ 140737488355328 := by simp [rows1]; omega
    have hta : Ag.rows (s.agents.take (i + 1)) = Ag.rows (s.agents.take i) ++ [x.C] := by
      rw [List.take_add_one, hg]; simp [Ag.rows]
    have htt : List.take i (Ag.rows (s.agents.take i)) = Ag.rows (s.agents.take i) := List.take_of_length_le (by omega)
    rw [hta]
    simp only [agM, Sc.C]
    generalize Ag.rows (s.agents.take i) = acc at *
    generalize Ag.rows s.agents = rows at *
    have hi2 : i < rows.length := by omega
    simp only [Ag.C] at hget ⊢
    have hy := rows1_all x.route
    generalize rows1 x.route = gr at *
    generalize Ln.rows s.map.lanes = r1 at *
    generalize Zo.rows s.map.zones = r2 at *
    generalize Sg.rows s.map.sigs = r3 at *
    generalize Wk.rows s.map.works = r4 at *
    generalize Ev.rows s.events = r5 at *
    rw [Y_step c_kerbstoneref10_Copy_l1.eq_1]
    by_cases h0 : gr = []
    · subst h0
      simp [-elemsOf, hi1, hci, hw, hget, newAt, hrl, hrt, hro, htt, hi2, el_rs (n := 1) hy, el_sl, Eng.look]
      rfl
    · simp [-elemsOf, hi1, hci, hw, hget, newAt, hrl, hrt, hro, htt, hi2, el_rs hy, el_sl, Eng.look, hro2, h0, markOne]
      rfl
theorem Ev.all (l : List Ev) : ∀ r ∈ Ev.rows l, r.length = 5 := fun r hr => by simp only [Ev.rows, List.mem_map] at hr; obtain ⟨_, _, rfl⟩ := hr; rfl
set_option maxHeartbeats 4000000 in
theorem R_Copy10 (s : Sc) (h : s.ok) : R L Cs f_kerbstoneref10_Copy [.a s.C] [] = some (.w (.a s.C), []) := by
  have hL := agc_loop s h s.agents 0 rfl (Nat.zero_le _)
  have hm := R_refCopy s.map h.m
  have hrl : (Ag.rows s.agents).length = s.agents.length := by simp [Ag.rows]
  have hel : (Ev.rows s.events).length * 40 ≤ 140737488355328 := by have := h.e; simp [Ev.rows]; omega
  have hey := Ev.all s.events
  have h0 : Ag.rows (s.agents.take 0) = [] := rfl
  rw [h0] at hL
  rw [R_fn F_kerbstoneref10_Copy rfl]
  simp only [agE, agM, Sc.C, Mp.C, Int.natCast_zero] at hL hm ⊢
  generalize Ag.rows s.agents = rows at *
  generalize Ln.rows s.map.lanes = r1 at *
  generalize Zo.rows s.map.zones = r2 at *
  generalize Sg.rows s.map.sigs = r3 at *
  generalize Wk.rows s.map.works = r4 at *
  generalize Ev.rows s.events = r5 at *
  have htk : List.take s.agents.length rows = rows := List.take_of_length_le (by omega)
  by_cases he : r5 = []
  · subst he
    simp [-elemsOf, c_kerbstoneref10_Copy, hm, hL, newAt, hrl, htk, markOne, el_rs (n := 5) hey]
  · simp [-elemsOf, c_kerbstoneref10_Copy, hm, hL, newAt, hrl, htk, markOne, el_rs hey, hel, he]
end Go.LcRun
set_option maxRecDepth 10000
namespace Go.LcRun
open Go Go.Eng
def smLn (l : Ln) : Bool := decide (l.pts.length ≤ 18) && decide (l.next.length ≤ 5)
def smZo (l : Zo) : Bool := decide (l.parts.length ≤ 8)
def smPh (l : Ph) : Bool := decide (l.green.length ≤ 14)
def smSg (l : Sg) : Bool := decide (l.phases.length ≤ 8) && l.phases.all smPh
theorem sm1_loop (m : Mp) (hl : m.lanes.length ≤ 14) : ∀ (r : List Ln) (i : Nat), m.lanes.drop i = r → i ≤ m.lanes.length →
    Y L Cs c_kerbstonekit_Small_l1 (some [1, 3]) 1 [(1, .w (Pt 0)), (3, .w (W i))] [bx 5 m.C] = some (if r.all smLn = true then (.exit 0, [(33, .w (Bo false)), (1, .w (Pt 0)), (3, .w (W m.lanes.length))], [bx 5 m.C]) else (.ret, [(2, .w (Bo false))], [bx 5 m.C]))
  | [], i, hd, hi => by
    obtain rfl := drop_end hd hi
    have hrl : (Ln.rows m.lanes).length = m.lanes.length := by simp [Ln.rows]
    rw [Y_step c_kerbstonekit_Small_l1.eq_1]
    simp [hrl]
  | x :: r, i, hd, hi => by
    obtain ⟨hi1, hx, hd', hg⟩ := drop_get (f := Ln.C) hd
    have ih := sm1_loop m hl r (i + 1) hd' (by omega)
    have hw := wrap1 (i := i) (by omega)
    have hci : (i : Int) < m.lanes.length := by omega
    have hrl : (Ln.rows m.lanes).length = m.lanes.length := by simp [Ln.rows]
    have hget : ∀ h : i < (Ln.rows m.lanes).length, (Ln.rows m.lanes)[i]'h = x.C := hx
    have e1 : (Pt2.rows x.pts).length = x.pts.length := by simp [Pt2.rows]
    have e2 : (rows1 x.next).length = x.next.length := by simp [rows1]
    simp only [Mp.C] at ih ⊢
    generalize Ln.rows m.lanes = rows at *
    have hi2 : i < rows.length := by omega
    simp only [Ln.C] at hget ⊢
    generalize Pt2.rows x.pts = g1 at *
    generalize rows1 x.next = g2 at *
    rw [List.all_cons, Y_step c_kerbstonekit_Small_l1.eq_1]
    by_cases h1 : x.pts.length ≤ 18
    · have n1 : ¬ (18 : Int) < x.pts.length := by omega
      by_cases h2 : x.next.length ≤ 5
      · have n2 : ¬ (5 : Int) < x.next.length := by omega
        rw [show smLn x = true by simp [smLn, h1, h2], Bool.true_and, ← ih]
        simp [hi1, hci, hw, hget, hrl, hi2, e1, e2, n1, n2]
      · have n2 : (5 : Int) < x.next.length := by omega
        rw [show smLn x = false by simp [smLn, h1, h2], Bool.false_and]
        simp [hi1, hci, hw, hget, hrl, hi2, e1, e2, n1, n2]
    · have n1 : (18 : Int) < x.pts.length := by omega
      rw [show smLn x = false by simp [smLn, h1], Bool.false_and]
      simp [hi1, hci, hw, hget, hrl, hi2, e1, e2, n1]
theorem sm2_loop (m : Mp) (hl : m.zones.length ≤ 14) : ∀ (r : List Zo) (i : Nat), m.zones.drop i = r → i ≤ m.zones.length →
    Y L Cs c_kerbstonekit_Small_l2 (some [1, 4]) 1 [(1, .w (Pt 0)), (4, .w (W i))] [bx 5 m.C] = some (if r.all smZo = true then (.exit 2, [(59, .w (Bo false)), (1, .w (Pt 0)), (4, .w (W m.zones.length))], [bx 5 m.C]) else (.ret, [(2, .w (Bo false))], [bx 5 m.C]))
  | [], i, hd, hi => by
    obtain rfl := drop_end hd hi
    have hrl : (Zo.rows m.zones).length = m.zones.length := by simp [Zo.rows]
    rw [Y_step c_kerbstonekit_Small_l2.eq_1]
    simp [hrl]
  | x :: r, i, hd, hi => by
    obtain ⟨hi1, hx, hd', hg⟩ := drop_get (f := Zo.C) hd
    have ih := sm2_loop m hl r (i + 1) hd' (by omega)
    have hw := wrap1 (i := i) (by omega)
    have hci : (i : Int) < m.zones.length := by omega
    have hrl : (Zo.rows m.zones).length = m.zones.length := by simp [Zo.rows]
    have hget : ∀ h : i < (Zo.rows m.zones).length, (Zo.rows m.zones)[i]'h = x.C := hx
    have e1 : (Pa.rows x.parts).length = x.parts.length := by simp [Pa.rows]
    simp only [Mp.C] at ih ⊢
    generalize Zo.rows m.zones = rows at *
    have hi2 : i < rows.length := by omega
    simp only [Zo.C] at hget ⊢
    generalize Pa.rows x.parts = g1 at *
    rw [List.all_cons, Y_step c_kerbstonekit_Small_l2.eq_1]
    by_cases h1 : x.parts.length ≤ 8
    · have n1 : ¬ (8 : Int) < x.parts.length := by omega
      rw [show smZo x = true by simp [smZo, h1], Bool.true_and, ← ih]
      simp [hi1, hci, hw, hget, hrl, hi2, e1, n1]
    · have n1 : (8 : Int) < x.parts.length := by omega
      rw [show smZo x = false by simp [smZo, h1], Bool.false_and]
      simp [hi1, hci, hw, hget, hrl, hi2, e1, n1]
theorem sm3_loop (m : Mp) (j : Nat) (hl : m.sigs.length ≤ 14) (s : Sg) (hj : m.sigs[j]? = some s) (hs : s.phases.length ≤ 8) : ∀ (r : List Ph) (i : Nat), s.phases.drop i = r → i ≤ s.phases.length →
    Y L Cs c_kerbstonekit_Small_l3 (some [1, 5, 6]) 1 [(1, .w (Pt 0)), (5, .w (W j)), (6, .w (W i))] [bx 5 m.C] = some (if r.all smPh = true then (.exit 6, [(93, .w (Bo false)), (5, .w (W j)), (1, .w (Pt 0)), (6, .w (W s.phases.length))], [bx 5 m.C]) else (.ret, [(2, .w (Bo false))], [bx 5 m.C]))
  | [], i, hd, hi => by
    obtain rfl := drop_end hd hi
    have hj1 : j < m.sigs.length := (List.getElem?_eq_some_iff.1 hj).1
    have hcj : (j : Int) < m.sigs.length := by omega
    have hrs : (Sg.rows m.sigs).length = m.sigs.length := by simp [Sg.rows]
    have hgs : ∀ h : j < (Sg.rows m.sigs).length, (Sg.rows m.sigs)[j]'h = s.C := fun h => by simp only [Sg.rows, List.getElem_map]; rw [(List.getElem?_eq_some_iff.1 hj).2]
    have hj2 : j < (Sg.rows m.sigs).length := by omega
    have hrl : (Ph.rows s.phases).length = s.phases.length := by simp [Ph.rows]
    simp only [Mp.C, Sg.C] at hgs ⊢
    generalize Sg.rows m.sigs = srows at *
    rw [Y_step c_kerbstonekit_Small_l3.eq_1]
    simp [hrl, hcj, hj1, hj2, hgs, hrs]
  | x :: r, i, hd, hi => by
    have hj1 : j < m.sigs.length := (List.getElem?_eq_some_iff.1 hj).1
    have hcj : (j : Int) < m.sigs.length := by omega
    have hrs : (Sg.rows m.sigs).length = m.sigs.length := by simp [Sg.rows]
    have hgs : ∀ h : j < (Sg.rows m.sigs).length, (Sg.rows m.sigs)[j]'h = s.C := fun h => by simp only [Sg.rows, List.getElem_map]; rw [(List.getElem?_eq_some_iff.1 hj).2]
    have hj2 : j < (Sg.rows m.sigs).length := by omega
    obtain ⟨hi1, hx, hd', hg⟩ := drop_get (f := Ph.C) hd
    have ih := sm3_loop m j hl s hj hs r (i + 1) hd' (by omega)
    have hw := wrap1 (i := i) (by omega)
    have hci : (i : Int) < s.phases.length := by omega
    have hrl : (Ph.rows s.phases).length = s.phases.length := by simp [Ph.rows]
    have hget : ∀ h : i < (Ph.rows s.phases).length, (Ph.rows s.phases)[i]'h = x.C := hx
    have e1 : (rows1 x.green).length = x.green.length := by simp [rows1]
    simp only [Mp.C, Sg.C] at ih hgs ⊢
    generalize Sg.rows m.sigs = srows at *
    generalize Ph.rows s.phases = rows at *
    have hi2 : i < rows.length := by omega
    simp only [Ph.C] at hget ⊢
    generalize rows1 x.green = g1 at *
    rw [List.all_cons, Y_step c_kerbstonekit_Small_l3.eq_1]
    by_cases h1 : x.green.length ≤ 14
    · have n1 : ¬ (14 : Int) < x.green.length := by omega
      rw [show smPh x = true by simp [smPh, h1], Bool.true_and, ← ih]
      simp [hi1, hci, hw, hget, hrl, hi2, e1, n1, hrs, hj1, hj2, hcj, hgs]
    · have n1 : (14 : Int) < x.green.length := by omega
      rw [show smPh x = false by simp [smPh, h1], Bool.false_and]
      simp [hi1, hci, hw, hget, hrl, hi2, e1, n1, hrs, hj1, hj2, hcj, hgs]
theorem sm4_loop (m : Mp) (hl : m.sigs.length ≤ 14) : ∀ (r : List Sg) (i : Nat), m.sigs.drop i = r → i ≤ m.sigs.length →
    Y L Cs c_kerbstonekit_Small_l4 (some [5, 1]) 1 [(5, .w (W i)), (1, .w (Pt 0))] [bx 5 m.C] = some (if r.all smSg = true then (.exit 4, [(74, .w (Bo false)), (5, .w (W m.sigs.length)), (1, .w (Pt 0))], [bx 5 m.C]) else (.ret, [(2, .w (Bo false))], [bx 5 m.C]))
  | [], i, hd, hi => by
    obtain rfl := drop_end hd hi
    have hrl : (Sg.rows m.sigs).length = m.sigs.length := by simp [Sg.rows]
    rw [Y_step c_kerbstonekit_Small_l4.eq_1]
    simp [hrl]
  | x :: r, i, hd, hi => by
    obtain ⟨hi1, hx, hd', hg⟩ := drop_get (f := Sg.C) hd
    have ih := sm4_loop m hl r (i + 1) hd' (by omega)
    have h3 := fun hs => sm3_loop m i hl x hg hs x.phases 0 rfl (Nat.zero_le _)
    have hw := wrap1 (i := i) (by omega)
    have hci : (i : Int) < m.sigs.length := by omega
    have hrl : (Sg.rows m.sigs).length = m.sigs.length := by simp [Sg.rows]
    have hget : ∀ h : i < (Sg.rows m.sigs).length, (Sg.rows m.sigs)[i]'h = x.C := hx
    have e1 : (Ph.rows x.phases).length = x.phases.length := by simp [Ph.rows]
    simp only [Mp.C, Int.natCast_zero] at ih h3 ⊢
    generalize Sg.rows m.sigs = rows at *
    have hi2 : i < rows.length := by omega
    simp only [Sg.C] at hget ⊢
    generalize Ph.rows x.phases = g1 at *
    rw [List.all_cons, Y_step c_kerbstonekit_Small_l4.eq_1]
    by_cases h1 : x.phases.length ≤ 8
    · have n1 : ¬ (8 : Int) < x.phases.length := by omega
      have h3 := h3 h1
      cases h2 : x.phases.all smPh with
      | true =>
        rw [h2, if_pos rfl] at h3
        rw [show smSg x = true by simp [smSg, h1, -List.all_eq_true, h2], Bool.true_and, ← ih]
        simp [hi1, hci, hw, hget, hrl, hi2, e1, n1, h3]
      | false =>
        rw [h2, if_neg (by decide)] at h3
        rw [show smSg x = false by simp [smSg, h1, -List.all_eq_true, h2], Bool.false_and]
        simp [hi1, hci, hw, hget, hrl, hi2, e1, n1, h3]
    · have n1 : (8 : Int) < x.phases.length := by omega
      rw [show smSg x = false by simp [smSg, h1], Bool.false_and]
      simp [hi1, hci, hw, hget, hrl, hi2, e1, n1]
def smMp (m : Mp) : Bool := m.lanes.all smLn && (m.zones.all smZo && m.sigs.all smSg)
theorem R_Small (m : Mp) (h1 : m.lanes.length ≤ 14) (h2 : m.zones.length ≤ 14) (h3 : m.sigs.length ≤ 6) (h4 : m.works.length ≤ 10) : R L Cs f_kerbstonekit_Small [.a m.C] [] = some (.w (Bo (smMp m)), []) := by
  have y1 := sm1_loop m h1 m.lanes 0 rfl (Nat.zero_le _)
  have y2 := sm2_loop m h2 m.zones 0 rfl (Nat.zero_le _)
  have y3 := sm4_loop m (by omega) m.sigs 0 rfl (Nat.zero_le _)
  have r1 : (Ln.rows m.lanes).length = m.lanes.length := by simp [Ln.rows]
  have r2 : (Zo.rows m.zones).length = m.zones.length := by simp [Zo.rows]
  have r3 : (Sg.rows m.sigs).length = m.sigs.length := by simp [Sg.rows]
  have r4 : (Wk.rows m.works).length = m.works.length := by simp [Wk.rows]
  have n1 : ¬ (14 : Int) < m.lanes.length := by omega
  have n2 : ¬ (14 : Int) < m.zones.length := by omega
  have n3 : ¬ (6 : Int) < m.sigs.length := by omega
  have n4 : ¬ (10 : Int) < m.works.length := by omega
  unfold smMp
  rw [R_fn F_kerbstonekit_Small rfl]
  simp only [Mp.C, Int.natCast_zero] at y1 y2 y3 ⊢
  generalize Ln.rows m.lanes = g1 at *
  generalize Zo.rows m.zones = g2 at *
  generalize Sg.rows m.sigs = g3 at *
  generalize Wk.rows m.works = g4 at *
  generalize m.lanes.all smLn = b1 at *
  generalize m.zones.all smZo = b2 at *
  generalize m.sigs.all smSg = b3 at *
  cases b1
  · rw [if_neg (by decide)] at y1
    simp [c_kerbstonekit_Small, r1, r2, r3, r4, n1, n2, n3, n4, y1]
  cases b2
  · rw [if_neg (by decide)] at y2
    rw [if_pos rfl] at y1
    simp [c_kerbstonekit_Small, r1, r2, r3, r4, n1, n2, n3, n4, y1, y2]
  rw [if_pos rfl] at y1 y2
  cases b3
  · rw [if_neg (by decide)] at y3
    simp [c_kerbstonekit_Small, r1, r2, r3, r4, n1, n2, n3, n4, y1, y2, y3]
  · rw [if_pos rfl] at y3
    simp [c_kerbstonekit_Small, r1, r2, r3, r4, n1, n2, n3, n4, y1, y2, y3]
def smAg (a : Ag) : Bool := decide (a.route.length ≤ 10)
theorem big_loop (m : Sc) (hl : m.agents.length ≤ 10) : ∀ (r : List Ag) (i : Nat), m.agents.drop i = r → i ≤ m.agents.length →
    Y L Cs c_kerbstonekit_BigScenario_l1 (some [1, 3]) 1 [(1, .w (Pt 0)), (3, .w (W i))] [bx 18 m.C] = some (if r.all smAg = true then (.exit 0, [(46, .w (Bo false)), (1, .w (Pt 0)), (3, .w (W m.agents.length))], [bx 18 m.C]) else (.ret, [(2, .w (Bo true))], [bx 18 m.C]))
  | [], i, hd, hi => by
    obtain rfl := drop_end hd hi
    have hrl : (Ag.rows m.agents).length = m.agents.length := by simp [Ag.rows]
    rw [Y_step c_kerbstonekit_BigScenario_l1.eq_1]
    simp [hrl]
  | x :: r, i, hd, hi => by
    obtain ⟨hi1, hx, hd', hg⟩ := drop_get (f := Ag.C) hd
    have ih := big_loop m hl r (i + 1) hd' (by omega)
    have hw := wrap1 (i := i) (by omega)
    have hci : (i : Int) < m.agents.length := by omega
    have hrl : (Ag.rows m.agents).length = m.agents.length := by simp [Ag.rows]
    have hget : ∀ h : i < (Ag.rows m.agents).length, (Ag.rows m.agents)[i]'h = x.C := hx
    have e1 : (rows1 x.route).length = x.route.length := by simp [rows1]
    simp only [Sc.C] at ih ⊢
    generalize Ag.rows m.agents = rows at *
    have hi2 : i < rows.length := by omega
    simp only [Ag.C] at hget ⊢
    generalize rows1 x.route = g1 at *
    rw [List.all_cons, Y_step c_kerbstonekit_BigScenario_l1.eq_1]
    by_cases h1 : x.route.length ≤ 10
    · have n1 : ¬ (10 : Int) < x.route.length := by omega
      rw [show smAg x = true by simp [smAg, h1], Bool.true_and, ← ih]
      simp [hi1, hci, hw, hget, hrl, hi2, e1, n1]
    · have n1 : (10 : Int) < x.route.length := by omega
      rw [show smAg x = false by simp [smAg, h1], Bool.false_and]
      simp [hi1, hci, hw, hget, hrl, hi2, e1, n1]
structure Sm (s : Sc) : Prop where
  l : s.map.lanes.length ≤ 14
  z : s.map.zones.length ≤ 14
  g : s.map.sigs.length ≤ 6
  w : s.map.works.length ≤ 10
  a : s.agents.length ≤ 10
  e : s.events.length ≤ 25
  as : s.agents.all smAg = true
  m : smMp s.map = true
theorem Sm.ok {s : Sc} (h : Sm s) : s.ok := by
  have h1 := h.l; have h2 := h.z; have h3 := h.g; have h4 := h.w; have h5 := h.a; have h6 := h.e
  have h7 := List.all_eq_true.1 h.as
  have h8 := h.m
  unfold smMp at h8
  simp only [Bool.and_eq_true, List.all_eq_true] at h8
  obtain ⟨q1, q2, q3⟩ := h8
  refine ⟨⟨by omega, by omega, by omega, by omega, fun x hx => ?_, fun x hx => ?_, fun x hx => ?_⟩, by omega, by omega, fun x hx => ?_⟩
  · have := q1 x hx; simp only [smLn, Bool.and_eq_true, decide_eq_true_eq] at this; exact ⟨by omega, by omega⟩
  · have := q2 x hx; simp only [smZo, decide_eq_true_eq] at this; show x.parts.length ≤ 1000; omega
  · have := q3 x hx; simp only [smSg, Bool.and_eq_true, List.all_eq_true, decide_eq_true_eq] at this
    exact ⟨by omega, fun p hp => by have := this.2 p hp; simp only [smPh, decide_eq_true_eq] at this; show p.green.length ≤ 1000; omega⟩
  · have := h7 x hx; simp only [smAg, decide_eq_true_eq] at this; show x.route.length ≤ 1000; omega
set_option maxHeartbeats 2000000 in
theorem R_Big (s : Sc) : ∃ b, R L Cs f_kerbstonekit_BigScenario [.a s.C] [] = some (.w (Bo b), []) ∧ (b = false → Sm s) := by
  have r1 : (Ln.rows s.map.lanes).length = s.map.lanes.length := by simp [Ln.rows]
  have r2 : (Zo.rows s.map.zones).length = s.map.zones.length := by simp [Zo.rows]
  have r3 : (Sg.rows s.map.sigs).length = s.map.sigs.length := by simp [Sg.rows]
  have r4 : (Wk.rows s.map.works).length = s.map.works.length := by simp [Wk.rows]
  have r5 : (Ag.rows s.agents).length = s.agents.length := by simp [Ag.rows]
  have r6 : (Ev.rows s.events).length = s.events.length := by simp [Ev.rows]
  by_cases hs : s.map.lanes.length ≤ 14 ∧ s.map.zones.length ≤ 14 ∧ s.map.sigs.length ≤ 6 ∧ s.map.works.length ≤ 10 ∧ s.agents.length ≤ 10 ∧ s.events.length ≤ 25
  · obtain ⟨h1, h2, h3, h4, h5, h6⟩ := hs
    have n1 : ¬ (14 : Int) < s.map.lanes.length := by omega
    have n2 : ¬ (14 : Int) < s.map.zones.length := by omega
    have n3 : ¬ (6 : Int) < s.map.sigs.length := by omega
    have n4 : ¬ (10 : Int) < s.map.works.length := by omega
    have n5 : ¬ (10 : Int) < s.agents.length := by omega
    have n6 : ¬ (25 : Int) < s.events.length := by omega
    have y := big_loop s h5 s.agents 0 rfl (Nat.zero_le _)
    have hS := R_Small s.map h1 h2 h3 h4
    rw [R_fn F_kerbstonekit_BigScenario rfl]
    cases hA : s.agents.all smAg with
    | false =>
      refine ⟨true, ?_, fun e => by cases e⟩
      rw [hA, if_neg (by decide)] at y
      simp only [Sc.C, Int.natCast_zero] at y ⊢
      generalize Ln.rows s.map.lanes = g1 at *
      generalize Zo.rows s.map.zones = g2 at *
      generalize Sg.rows s.map.sigs = g3 at *
      generalize Wk.rows s.map.works = g4 at *
      generalize Ag.rows s.agents = g5 at *
      generalize Ev.rows s.events = g6 at *
      simp [c_kerbstonekit_BigScenario, r1, r2, r3, r4, r5, r6, n1, n2, n3, n4, n5, n6, y]
    | true =>
      rw [hA, if_pos rfl] at y
      refine ⟨!(smMp s.map), ?_, fun e => ⟨h1, h2, h3, h4, h5, h6, hA, by simpa using e⟩⟩
      simp only [Sc.C, Mp.C, Int.natCast_zero] at y hS ⊢
      generalize Ln.rows s.map.lanes = g1 at *
      generalize Zo.rows s.map.zones = g2 at *
      generalize Sg.rows s.map.sigs = g3 at *
      generalize Wk.rows s.map.works = g4 at *
      generalize Ag.rows s.agents = g5 at *
      generalize Ev.rows s.events = g6 at *
      simp [c_kerbstonekit_BigScenario, r1, r2, r3, r4, r5, r6, n1, n2, n3, n4, n5, n6, y, hS]
  · refine ⟨true, ?_, fun e => by cases e⟩
    rw [R_fn F_kerbstonekit_BigScenario rfl]
    simp only [Sc.C]
    generalize Ln.rows s.map.lanes = g1 at *
    generalize Zo.rows s.map.zones = g2 at *
    generalize Sg.rows s.map.sigs = g3 at *
    generalize Wk.rows s.map.works = g4 at *
    generalize Ag.rows s.agents = g5 at *
    generalize Ev.rows s.events = g6 at *
    by_cases h1 : (14 : Int) < s.map.lanes.length
    · simp [c_kerbstonekit_BigScenario, r1, r2, r3, r4, r5, r6, h1]
    by_cases h2 : (14 : Int) < s.map.zones.length
    · simp [c_kerbstonekit_BigScenario, r1, r2, r3, r4, r5, r6, h1, h2]
    by_cases h3 : (6 : Int) < s.map.sigs.length
    · simp [c_kerbstonekit_BigScenario, r1, r2, r3, r4, r5, r6, h1, h2, h3]
    by_cases h4 : (10 : Int) < s.map.works.length
    · simp [c_kerbstonekit_BigScenario, r1, r2, r3, r4, r5, r6, h1, h2, h3, h4]
    by_cases h5 : (10 : Int) < s.agents.length
    · simp [c_kerbstonekit_BigScenario, r1, r2, r3, r4, r5, r6, h1, h2, h3, h4, h5]
    by_cases h6 : (25 : Int) < s.events.length
    · simp [c_kerbstonekit_BigScenario, r1, r2, r3, r4, r5, r6, h1, h2, h3, h4, h5, h6]
    · exact absurd ⟨by omega, by omega, by omega, by omega, by omega, by omega⟩ hs
end Go.LcRun
set_option maxRecDepth 10000
namespace Go.LcRun
open Go Go.Eng
def agO (b : Nat) : List Ag → List (List Cl)
  | [] => []
  | a :: l => [.slice b a.route.length 1 0 a.route.length none, I a.s, I a.v, I a.len, I a.bg, .bool a.obey, .bool a.gone] :: agO (b + 1) l
theorem agO_len : ∀ (l : List Ag) (b : Nat), (agO b l).length = l.length
  | [], _ => rfl
  | a :: l, b => by simp [agO, agO_len l]
theorem agO_get : ∀ (l : List Ag) (b i : Nat) (a : Ag), l[i]? = some a → (agO b l)[i]? = some [.slice (b + i) a.route.length 1 0 a.route.length none, I a.s, I a.v, I a.len, I a.bg, .bool a.obey, .bool a.gone]
  | a :: l, b, 0, x, h => by cases h; rfl
  | a :: l, b, i + 1, x, h => by
    have := agO_get l (b + 1) i x h
    rw [show b + 1 + i = b + (i + 1) by omega] at this
    exact this
theorem agO_app : ∀ (l m : List Ag) (b : Nat), agO b (l ++ m) = agO b l ++ agO (b + l.length) m
  | [], m, b => rfl
  | a :: l, m, b => by
    have := agO_app l m (b + 1)
    simp only [List.cons_append, agO, this, List.length_cons]
    rw [show b + 1 + l.length = b + (l.length + 1) by omega]
theorem agO_ids : ∀ (l : List Ag) (b : Nat), (agO b l).flatMap (fun r => r.flatMap idsC) = List.range' b l.length
  | [], _ => rfl
  | a :: l, b => by
    have := agO_ids l (b + 1)
    simp only [agO, List.flatMap_cons, this, List.length_cons, List.range'_succ]
    rfl
theorem ren_agO (ρ : Nat → Option Nat) : ∀ (l : List Ag) (p q : Nat), (∀ k, k < l.length → ρ (p + k) = some (q + k)) → renRows ρ (agO p l) = some (agO q l)
  | [], _, _, _ => rfl
  | a :: l, p, q, h => by
    have h0 := h 0 (by simp)
    have := ren_agO ρ l (p + 1) (q + 1) fun k hk => by
      have := h (k + 1) (by simpa using hk)
      rwa [show p + 1 + k = p + (k + 1) by omega, show q + 1 + k = q + (k + 1) by omega]
    simp only [Nat.add_zero] at h0
    simp only [agO, renRows, renCs, renC, ren1, h0, this, Option.map_some]
theorem collect_seg (M : Mem) : ∀ (l todo seen : List Nat) (f : Nat), (∀ k ∈ l, idsAt M k = []) → l.Nodup → (∀ k ∈ l, k ∉ seen) → collect M (l.length + f) (l ++ todo) seen = collect M f todo (seen ++ l)
  | [], todo, seen, f, _, _, _ => by simp
  | x :: l, todo, seen, f, h, hn, hs => by
    have hx := h x (List.mem_cons_self ..)
    have hxs : seen.contains x = false := by
      have := hs x (List.mem_cons_self ..)
      simpa using this
    obtain ⟨h1, h2⟩ := List.nodup_cons.1 hn
    rw [show (x :: l).length + f = (l.length + f) + 1 by simp; omega, List.cons_append, collect, hxs]
    simp only [Bool.false_eq_true, if_false, hx, List.nil_append]
    rw [collect_seg M l todo (seen ++ [x]) f (fun k hk => h k (List.mem_cons_of_mem _ hk)) h2 (fun k hk hm => ?_)]
    · simp
    · rcases List.mem_append.1 hm with hm | hm
      · exact hs k (List.mem_cons_of_mem _ hk) hm
      · rw [List.mem_singleton.1 hm] at hk
        exact h1 hk
theorem collect_nil (M : Mem) (f : Nat) (seen : List Nat) : collect M (f + 1) [] seen = seen := rfl
theorem collect_sc (M : Mem) (w a e : Nat) (R : List Nat) (hw : idsAt M w = []) (ha : idsAt M a = R) (hR : ∀ k ∈ R, idsAt M k = []) (he : idsAt M e = []) (hd : (w :: a :: (R ++ [e])).Nodup) (hl : R.length ≤ 100) :
    collect M collectFuel [w, a, e] [] = w :: a :: (R ++ [e]) := by
  have d1 := List.nodup_cons.1 hd
  have d2 := List.nodup_cons.1 d1.2
  have hwa : a ≠ w := fun e => d1.1 (by rw [← e]; exact List.mem_cons_self ..)
  have hseg := collect_seg M (R ++ [e]) [] [w, a] (4094 - (R.length + 1)) (fun k hk => by
    rcases List.mem_append.1 hk with hk | hk
    · exact hR k hk
    · rw [List.mem_singleton.1 hk]; exact he) d2.2 (fun k hk hm => by
      rcases List.mem_cons.1 hm with rfl | hm
      · exact d1.1 (List.mem_cons_of_mem _ hk)
      · rw [List.mem_singleton.1 hm] at hk
        exact d2.1 hk)
  rw [show (R ++ [e]).length + (4094 - (R.length + 1)) = 4094 by simp; omega, show 4094 - (R.length + 1) = (4093 - (R.length + 1)) + 1 by omega, collect_nil, List.append_nil] at hseg
  show collect M 4096 [w, a, e] [] = _
  rw [collect]
  simp only [List.contains_nil, Bool.false_eq_true, if_false, hw, List.nil_append]
  rw [collect]
  have : ([w] : List Nat).contains a = false := by simp [hwa]
  simp only [this, Bool.false_eq_true, if_false, ha, List.singleton_append]
  rw [hseg]
  rfl
theorem nodupB_of : ∀ {l : List Nat}, l.Nodup → nodupB l = true
  | [], _ => rfl
  | x :: l, h => by
    obtain ⟨h1, h2⟩ := List.nodup_cons.1 h
    simp [nodupB, nodupB_of h2, h1]
theorem idx_range : ∀ (n p k : Nat) (X : List Nat), k < n → idxIn (List.range' p n ++ X) (p + k) = some k
  | 0, _, _, _, h => absurd h (Nat.not_lt_zero _)
  | n + 1, p, 0, X, _ => by simp [List.range'_succ, idxIn]
  | n + 1, p, k + 1, X, h => by
    have := idx_range n (p + 1) k X (by omega)
    rw [show p + 1 + k = p + (k + 1) by omega] at this
    rw [List.range'_succ, List.cons_append, idxIn, if_neg (by omega), this]
    rfl
theorem idx_past : ∀ (n p e : Nat), e < p ∨ p + n ≤ e → idxIn (List.range' p n ++ [e]) e = some n
  | 0, _, _, _ => by simp [idxIn]
  | n + 1, p, e, h => by
    rw [List.range'_succ, List.cons_append, idxIn, if_neg (by omega), idx_past n (p + 1) e (by omega)]
    rfl
abbrev rbk (a : Ag) : Option Blk := some { box := false, esz := 1, rows := rows1 a.route, gen := a.route.length, fz := false, ver := a.route.length }
theorem take_app (M : Mem) (ρ : Nat → Option Nat) : ∀ {l1 l2 : List Nat} {B1 B2 : Mem}, takeBlks M ρ l1 = some B1 → takeBlks M ρ l2 = some B2 → takeBlks M ρ (l1 ++ l2) = some (B1 ++ B2)
  | [], l2, B1, B2, h1, h2 => by
    cases h1; exact h2
  | x :: l1, l2, B1, B2, h1, h2 => by
    simp only [takeBlks] at h1
    split at h1
    · rename_i b bs e1 e2
      rw [Option.map_eq_some_iff] at h1
      obtain ⟨b', hb, rfl⟩ := h1
      rw [List.cons_append, takeBlks, e1, take_app M ρ e2 h2]
      show (renB ρ b).map _ = _
      rw [hb]
      rfl
    · cases h1
theorem take_one (M : Mem) (ρ : Nat → Option Nat) {x : Nat} {b b' : Blk} (h : M[x]? = some (some b)) (hb : renB ρ b = some b') : takeBlks M ρ [x] = some [some b'] := by
  rw [takeBlks, h]
  show (renB ρ b).map _ = _
  rw [hb]
  rfl
theorem take_routes (M : Mem) (ρ : Nat → Option Nat) : ∀ (l : List Ag) (p : Nat), (∀ k a, l[k]? = some a → M[p + k]? = some (rbk a)) → takeBlks M ρ (List.range' p l.length) = some (l.map rbk)
  | [], _, _ => rfl
  | a :: l, p, h => by
    have h0 := h 0 a rfl
    have := take_routes M ρ l (p + 1) fun k x hk => by
      have := h (k + 1) x hk
      rwa [show p + 1 + k = p + (k + 1) by omega]
    simp only [Nat.add_zero] at h0
    simp only [List.length_cons, List.range'_succ, takeBlks, h0, this, List.map_cons]
    rfl
theorem new_app (ρ : Nat → Option Nat) : ∀ {l1 l2 B1 B2 : Mem}, renNew ρ l1 = some B1 → renNew ρ l2 = some B2 → renNew ρ (l1 ++ l2) = some (B1 ++ B2)
  | [], l2, B1, B2, h1, h2 => by
    cases h1; exact h2
  | none :: l1, l2, B1, B2, h1, h2 => by cases h1
  | some x :: l1, l2, B1, B2, h1, h2 => by
    simp only [renNew] at h1
    split at h1
    · rename_i b bs e1 e2
      cases h1
      rw [List.cons_append, renNew, e1, new_app ρ e2 h2]
      rfl
    · cases h1
theorem new_routes (ρ : Nat → Option Nat) : ∀ (l : List Ag), renNew ρ (l.map rbk) = some (l.map rbk)
  | [] => rfl
  | a :: l => by
    simp only [List.map_cons, renNew, new_routes ρ l]
    rfl
abbrev abk (b : Bool) (v : Nat) (p : Nat) (l : List Ag) : Option Blk := some { box := b, esz := 7, rows := agO p l, gen := l.length, fz := false, ver := v }
theorem ren_abk (ρ : Nat → Option Nat) {b : Bool} {v p q : Nat} {l : List Ag} (hb : l ≠ [] → b = true) (h : ∀ k, k < l.length → ρ (p + k) = some (q + k)) : renB ρ { box := b, esz := 7, rows := agO p l, gen := l.length, fz := false, ver := v } = some { box := b, esz := 7, rows := agO q l, gen := l.length, fz := false, ver := v } := by
  cases b with
  | true => simp [renB, ren_agO ρ l p q h]
  | false =>
    have : l = [] := Classical.byContradiction fun e => by cases hb e
    subst this
    rfl
theorem ids_abk {b : Bool} {v p : Nat} {l : List Ag} (hb : l ≠ [] → b = true) : Blk.ids { box := b, esz := 7, rows := agO p l, gen := l.length, fz := false, ver := v } = List.range' p l.length := by
  cases b with
  | true => simp [Blk.ids, agO_ids]
  | false =>
    have : l = [] := Classical.byContradiction fun e => by cases hb e
    subst this
    rfl
end Go.LcRun
set_option maxRecDepth 10000
namespace Go.LcRun
open Go Go.Eng
theorem drop0_keep {n : Nat} {E : Env} {M : Mem} {k : Nat} {b : Blk} (hk : k < n) (h : M[k]? = some (some b)) (hb : b.below n = false) : drop0 n E M = M := by
  unfold drop0
  split
  · rfl
  · have : memBelow n (M.take n) = false := by
      unfold memBelow
      rw [List.all_eq_false]
      exact ⟨some b, List.mem_of_getElem? (i := k) (by rw [List.getElem?_take_of_lt hk]; exact h), by simpa using hb⟩
    rw [this, Bool.and_false, if_neg (by decide)]
abbrev scO (s : Sc) (w a e : Nat) : List Cl := [I s.map.ver, .rslice (Ln.rows s.map.lanes), .rslice (Zo.rows s.map.zones), .rslice (Sg.rows s.map.sigs), .slice w s.map.works.length 6 0 s.map.works.length none, I s.c1, I s.c2, I s.c3, I s.c4, I s.c5,
  .slice a s.agents.length 7 0 s.agents.length none, I s.budget, I s.silence, .bool s.signals, I s.ticks, I s.view, I s.seed, .slice e s.events.length 5 0 s.events.length none]
abbrev lcE (i n : Nat) : Env := [(19, .w (W i)), (18, .w (W n)), (2, .w (Pt 1)), (1, .w (Pt 0))]
abbrev lcM (s : Sc) (v0 : Nat) (rows : List (List Cl)) (v : Nat) (R : Mem) : Mem := bxv v0 18 (scO s 2 4 3) :: bx 18 zS :: ebk 6 s.map.works.length (Wk.rows s.map.works) :: ebk 5 s.events.length (Ev.rows s.events) ::
  some { box := true, esz := 7, rows := rows, gen := s.agents.length, fz := false, ver := v } :: R
set_option maxHeartbeats 4000000 in
theorem lc_loop (s : Sc) (h : s.ok) (v0 : Nat) : ∀ (r : List Ag) (i : Nat), s.agents.drop i = r → i ≤ s.agents.length →
    Y L Cs c_lab_Copy_l1 (some [19, 18, 2, 1]) 5 (lcE i s.agents.length) (lcM s v0 (agO 5 (s.agents.take i) ++ Ag.rows r) (s.agents.length + i) ((s.agents.take i).map rbk)) =
      some (.exit 0, (20, .w (Bo false)) :: lcE s.agents.length s.agents.length, lcM s v0 (agO 5 s.agents) (s.agents.length + s.agents.length) (s.agents.map rbk))
  | [], i, hd, hi => by
    obtain rfl := drop_end hd hi
    rw [List.take_length, show Ag.rows [] = [] from rfl, List.append_nil]
    rw [Y_step c_lab_Copy_l1.eq_1]
    simp
  | x :: r, i, hd, hi => by
    obtain ⟨hi1, hx, hd', hg⟩ := drop_get (f := Ag.C) hd
    have hok : x.route.length ≤ 1000 := h.as x (List.mem_of_getElem? hg)
    have hc := R_Clone_int x.route hok
    have ih := lc_loop s h v0 r (i + 1) hd' (by omega)
    have hl := h.a
    have hw := wrap1 (i := i) (by omega)
    have hci : (i : Int) < s.agents.length := by omega
    have hta : s.agents.take (i + 1) = s.agents.take i ++ [x] := by rw [List.take_add_one, hg]; rfl
    have htl : (s.agents.take i).length = i := by simp; omega
    have e1 : (rows1 x.route).length = x.route.length := by simp [rows1]
    have hRl : ((s.agents.take i).map rbk).length = i := by simp; omega
    have hAl : (agO 5 (s.agents.take i)).length = i := by rw [agO_len]; exact htl
    have hk : ∀ E, drop0 5 E (lcM s v0 (agO 5 (s.agents.take (i + 1)) ++ Ag.rows r) (s.agents.length + (i + 1)) ((s.agents.take (i + 1)).map rbk)) = _ := fun E => drop0_keep (k := 4) (by decide) rfl (by
      cases hh : s.agents.take (i + 1) with
      | nil => rw [hta] at hh; simp at hh
      | cons a m => simp [Blk.below, agO, Eng.below, topC, top1])
    rw [← hk (lcE (i + 1) s.agents.length), hta, agO_app, htl, List.map_append] at ih
    simp only [agO, List.map_cons, List.map_nil] at ih
    rw [← ih, show Ag.rows (x :: r) = x.C :: Ag.rows r from rfl]
    clear ih hk hta
    simp only [lcM, scO, Ag.C]
    generalize agO 5 (s.agents.take i) = acc at *
    generalize (s.agents.take i).map rbk = R at *
    generalize Ag.rows r = tl at *
    generalize Ln.rows s.map.lanes = r1 at *
    generalize Zo.rows s.map.zones = r2 at *
    generalize Sg.rows s.map.sigs = r3 at *
    generalize Wk.rows s.map.works = r4 at *
    generalize Ev.rows s.events = r5 at *
    dsimp only [rbk]
    generalize rows1 x.route = gr at *
    subst hAl
    rw [Y_step c_lab_Copy_l1.eq_1]
    rw [Nat.add_comm 5 acc.length, ← Nat.add_assoc]
    simp [-drop0, -Int.natCast_add, hci, hi1, hw, hc, e1, hRl, own]
theorem R_clB {f esz bytes : Nat} (hN : L.lookup f = none) (hC : Cs.lookup f = some (esz, bytes, false)) (h0 : 0 < esz) (hb : 1048576 ≤ bytes) {ys : List (List Cl)} (hy : ∀ r ∈ ys, r.length = esz) (hr : ys.length ≤ 1000) :
    R L Cs f [.c (.rslice ys)] [] = some (.w (.c (.slice 0 ys.length esz 0 ys.length none)), [some { box := !ys.isEmpty, esz := esz, rows := ys, gen := ys.length, fz := false, ver := ys.length }]) := by
  have h3 : esz ≠ 0 := by omega
  have h4 : ys.length * (bytes % 1048576) ≤ 140737488355328 := Nat.le_trans (Nat.mul_le_mul hr (Nat.le_of_lt (Nat.mod_lt _ (by decide)))) (by decide)
  have h5 : ys.all (fun r => r.length == esz) = true := by simpa using hy
  rw [R_oracle hN]
  unfold clones
  rw [hC]
  by_cases he : ys = []
  · subst he
    simp [hb, h3, h0, cloneX, castB, roomy]
  · simp [hb, h3, h4, h5, h0, cloneX, castB, roomy, he, -List.all_eq_true]
theorem Ag.all (l : List Ag) : ∀ r ∈ Ag.rows l, r.length = 7 := fun r hr => by simp only [Ag.rows, List.mem_map] at hr; obtain ⟨_, _, rfl⟩ := hr; rfl
abbrev labM (s : Sc) (b : Bool) (v p : Nat) : Mem := ebk 6 s.map.works.length (Wk.rows s.map.works) :: abk b v p s.agents :: (s.agents.map rbk ++ [ebk 5 s.events.length (Ev.rows s.events)])
theorem nd_lc (n : Nat) : (2 :: 4 :: (List.range' 5 n ++ [3])).Nodup := by
  simp only [List.nodup_cons, List.mem_cons, List.mem_append, List.mem_range'_1, List.nodup_append]
  refine ⟨by simp, by simp, List.nodup_range', by simp, by simp; omega⟩
theorem fin_lc (s : Sc) (ha : s.agents.length ≤ 100) (b : Bool) (v v0 : Nat) (Z : Option Blk) (hb : s.agents ≠ [] → b = true) :
    finish 0 (.w (.a (scO s 2 4 3))) (bxv v0 18 (scO s 2 4 3) :: Z :: ebk 6 s.map.works.length (Wk.rows s.map.works) :: ebk 5 s.events.length (Ev.rows s.events) :: abk b v 5 s.agents :: s.agents.map rbk) =
      some (.w (.a (scO s 0 1 (2 + s.agents.length))), labM s b v 2) := by
  generalize hM : (bxv v0 18 (scO s 2 4 3) :: Z :: ebk 6 s.map.works.length (Wk.rows s.map.works) :: ebk 5 s.events.length (Ev.rows s.events) :: abk b v 5 s.agents :: s.agents.map rbk : Mem) = M
  have g2 : M[2]? = some (ebk 6 s.map.works.length (Wk.rows s.map.works)) := by rw [← hM]; rfl
  have g3 : M[3]? = some (ebk 5 s.events.length (Ev.rows s.events)) := by rw [← hM]; rfl
  have g4 : M[4]? = some (abk b v 5 s.agents) := by rw [← hM]; rfl
  have g5 : ∀ k a, s.agents[k]? = some a → M[5 + k]? = some (rbk a) := fun k a h => by
    rw [← hM, show 5 + k = k + 1 + 1 + 1 + 1 + 1 by omega]
    simp [h]
  have hl : M.length = 5 + s.agents.length := by rw [← hM]; simp; omega
  have hc : collect M collectFuel [2, 4, 3] [] = 2 :: 4 :: (List.range' 5 s.agents.length ++ [3]) := by
    refine collect_sc M 2 4 3 _ (by simp [idsAt, g2, Blk.ids]) (by simp only [idsAt, g4]; exact ids_abk hb) (fun k hk => ?_) (by simp [idsAt, g3, Blk.ids]) (nd_lc _) (by simpa using ha)
    obtain ⟨h1, h2⟩ := List.mem_range'_1.1 hk
    have h3 : k - 5 < s.agents.length := by omega
    have := g5 (k - 5) _ (List.getElem?_eq_getElem h3)
    rw [show 5 + (k - 5) = k by omega] at this
    simp [idsAt, this, Blk.ids]
  have i0 : idxIn (2 :: 4 :: (List.range' 5 s.agents.length ++ [3])) 2 = some 0 := by simp [idxIn]
  have i1 : idxIn (2 :: 4 :: (List.range' 5 s.agents.length ++ [3])) 4 = some 1 := by simp [idxIn]
  have i2 : ∀ k, k < s.agents.length → idxIn (2 :: 4 :: (List.range' 5 s.agents.length ++ [3])) (5 + k) = some (2 + k) := fun k hk => by
    rw [idxIn, if_neg (by omega), idxIn, if_neg (by omega), idx_range _ _ _ _ hk]
    simp; omega
  have i3 : idxIn (2 :: 4 :: (List.range' 5 s.agents.length ++ [3])) 3 = some (2 + s.agents.length) := by
    rw [idxIn, if_neg (by omega), idxIn, if_neg (by omega), idx_past _ _ _ (.inl (by omega))]
    simp; omega
  have t : takeBlks M (idxIn (2 :: 4 :: (List.range' 5 s.agents.length ++ [3]))) (2 :: 4 :: (List.range' 5 s.agents.length ++ [3])) = some (labM s b v 2) :=
    take_app (l1 := [2]) M _ (take_one M _ g2 rfl) (take_app (l1 := [4]) M _ (take_one M _ g4 (ren_abk _ hb i2)) (take_app M _ (take_routes M _ _ _ g5) (take_one M _ g3 rfl)))
  unfold finish
  rw [if_neg (by omega), if_neg (by simp [AV.below, WV.below, WV.cells, Eng.below, topC, top1])]
  have hids : AV.ids (.w (.a (scO s 2 4 3))) = [2, 4, 3] := rfl
  have hr : renA (idxIn (2 :: 4 :: (List.range' 5 s.agents.length ++ [3]))) (.w (.a (scO s 2 4 3))) = some (.w (.a (scO s 0 1 (2 + s.agents.length)))) := by simp only [renA, renW, renCs, renC, ren1, i0, i1, i3, Option.map_some]
  simp only [List.range_zero, List.flatMap_nil, List.append_nil, hids, hc, nodupB_of (nd_lc _), List.take_zero, t, hr]
  rfl
theorem ren_ag (ρ : Nat → Option Nat) : ∀ (l : List Ag), renRows ρ (Ag.rows l) = some (Ag.rows l)
  | [] => rfl
  | a :: l => by
    have := ren_ag ρ l
    simp only [Ag.rows] at this
    simp only [Ag.rows, List.map_cons, renRows, Ag.C, renCs, renC, ren1, this]
theorem lc_loop0 (M : Mem) : Y L Cs c_lab_Copy_l1 (some [19, 18, 2, 1]) 5 (lcE 0 0) M = some (.exit 0, (20, .w (Bo false)) :: lcE 0 0, M) := by
  rw [Y_step c_lab_Copy_l1.eq_1]
  simp
set_option maxHeartbeats 4000000 in
theorem R_labCopy (s : Sc) (h : s.ok) : ∃ b, (s.agents ≠ [] → b = true) ∧ R L Cs f_lab_Copy [.a s.C] [] = some (.w (.a (scO s 0 1 (2 + s.agents.length))), labM s b (s.agents.length + s.agents.length) 2) := by
  have hm := R_roadsCopy s.map h.m
  have c1 := R_cl (f := 17) rfl rfl (by decide) (by decide) (Ev.all s.events) (by simp [Ev.rows]; exact h.e)
  have c2 := R_clB (f := 18) rfl rfl (by decide) (by decide) (Ag.all s.agents) (by have := h.a; simp [Ag.rows]; omega)
  have r5 : (Ag.rows s.agents).length = s.agents.length := by simp [Ag.rows]
  have r6 : (Ev.rows s.events).length = s.events.length := by simp [Ev.rows]
  have hL := fun v0 => lc_loop s h v0 s.agents 0 rfl (Nat.zero_le _)
  have hF := fin_lc s h.a
  refine ⟨!(Ag.rows s.agents).isEmpty, fun e => by cases hh : s.agents with | nil => exact absurd hh e | cons => simp [Ag.rows], ?_⟩
  rw [R_fn F_lab_Copy rfl]
  simp only [lcE, lcM, scO, Mp.C, Int.natCast_zero, List.take_zero, agO, List.nil_append, List.map_nil, Nat.add_zero] at hL hm
  simp only [Sc.C]
  by_cases he : s.agents = []
  · have q1 : Ag.rows s.agents = [] := by rw [he]; rfl
    rw [q1] at c2
    have hF0 := hF false 0
    simp only [scO, labM, he, agO, List.map_nil, List.length_nil, List.nil_append, List.isEmpty_nil, Bool.not_true, q1] at hF0 c2 ⊢
    simp only [r6] at c1
    have hL0 := lc_loop0
    simp only [lcE, Int.natCast_zero] at hL0
    have q3 : Ag.rows [] = [] := rfl
    simp [-finish, c_lab_Copy, hm, c1, c2, own, r6, hL0, q3]
    exact hF0 _ _ (fun e => absurd rfl e)
  · have q1 : Ag.rows s.agents ≠ [] := by simpa [Ag.rows] using he
    have q2 : (!(Ag.rows s.agents).isEmpty) = true := by simpa using q1
    rw [q2] at c2 ⊢
    simp only [r5, r6] at c1 c2
    have hra := fun ρ => ren_ag ρ s.agents
    simp [-finish, c_lab_Copy, hm, c1, c2, hL, hra, own, r5, r6]
    exact hF true _ _ _ (fun _ => rfl)
end Go.LcRun
set_option maxRecDepth 10000
namespace Go.LcRun
open Go Go.Eng
theorem fm_len : ∀ (l : List Nat) (M : Mem), (List.foldl markOne M l).length = M.length
  | [], M => rfl
  | id :: l, M => by
    show (List.foldl markOne (markOne M id) l).length = _
    rw [fm_len l]
    unfold markOne
    split
    · split <;> simp
    · rfl
theorem call_own {f : Nat} {args as : List WV} {M : Mem} {r : Bool} (h1 : frzWs M args = some as) (h2 : as.flatMap WV.ids = []) (h3 : headOK f as = true) (h4 : renWs (idxIn []) as = some as) (hR : R L Cs f as [] = some (.w (Bo r), [])) :
    callOp (R L Cs) ⟨true⟩ (.c (.fn f [] [])) args M = some (.w (Bo r), M, .no) := by
  have key : ∀ M1 : Mem, callOn (R L Cs) f as M1 = some (.w (Bo r), M1, .no) := fun M1 => by
    unfold callOn
    rw [h2]
    rw [show idxIn [] = fun _ => none from rfl] at h4
    simp [-callOn, collectFuel, collect, nodupB, takeBlks, h4, hR, landed, back, renNew, renA, renW, renC, ren1]
  unfold callOp
  simp only [callee, h1, List.map_nil, List.append_nil, List.nil_append, h3, Bool.or_true, if_true]
  split
  · exact key M
  · rw [key]
    simp [FP.isNo, AV.plain, WV.plain, WV.cells, plainC, markAll, fm_len]
structure SmI (s : Sc) (k e : Nat) (M : Mem) : Prop where
  len : M.length = k + 2
  g0 : frzC M (.slice 0 s.map.works.length 6 0 s.map.works.length none) = some (.rslice (Wk.rows s.map.works))
  g1 : ∃ b v, M[1]? = some (abk b v 2 s.agents)
  ge : M[e]? = some (ebk 5 s.events.length (Ev.rows s.events))
  gr : ∀ i a, s.agents[i]? = some a → frzC M (.slice (2 + i) a.route.length 1 0 a.route.length none) = some (.rslice (rows1 a.route))
  gk : M[k]? = some (bx 18 (scO s 0 1 e))
  gk1 : M[k + 1]? = some (bx 18 s.C)
theorem frz_rs (M : Mem) (r : List (List Cl)) : frzC M (.rslice r) = some (.rslice r) := rfl
theorem frz_b (M : Mem) (b : Bool) : frzC M (.bool b) = some (.bool b) := rfl
set_option maxHeartbeats 2000000 in
theorem so_ag (s : Sc) (h : s.ok) (k e : Nat) (M : Mem) (H : SmI s k e M) : ∀ (r : List Ag) (i : Nat), s.agents.drop i = r → i ≤ s.agents.length →
    Y L Cs c_kerbstoneref10_Same_l1 (some [2, 3, 5]) (k + 2) [(2, .w (Pt k)), (3, .w (Pt (k + 1))), (5, .w (W i))] M = some (.exit 0, [(42, .w (Bo false)), (3, .w (Pt (k + 1))), (2, .w (Pt k)), (5, .w (W s.agents.length))], M)
  | [], i, hd, hi => by
    obtain rfl := drop_end hd hi
    have gk := H.gk
    rw [Y_step c_kerbstoneref10_Same_l1.eq_1]
    simp [gk]
  | x :: r, i, hd, hi => by
    obtain ⟨hi1, hx, hd', hg⟩ := drop_get (f := Ag.C) hd
    have ih := so_ag s h k e M H r (i + 1) hd' (by omega)
    have gk := H.gk
    have gk1 := H.gk1
    obtain ⟨b, v, g1⟩ := H.g1
    have gr := H.gr i x hg
    have hl := h.a
    have hw := wrap1 (i := i) (by omega)
    have hci : (i : Int) < s.agents.length := by omega
    have hag : ∀ hh : i < (agO 2 s.agents).length, (agO 2 s.agents)[i]'hh = _ := fun hh => (List.getElem?_eq_some_iff.1 (agO_get s.agents 2 i x hg)).2
    have hi3 : i < (agO 2 s.agents).length := by rw [agO_len]; exact hi1
    have hrl : (Ag.rows s.agents).length = s.agents.length := by simp [Ag.rows]
    have hal : (agO 2 s.agents).length = s.agents.length := agO_len _ _
    have hget : ∀ h : i < (Ag.rows s.agents).length, (Ag.rows s.agents)[i]'h = x.C := hx
    have hi2 : i < (Ag.rows s.agents).length := by omega
    have hdr : ∀ E, drop0 (k + 2) E M = M := fun E => by unfold drop0; rw [if_pos (by have := H.len; omega)]
    have hc : callOp (R L Cs) ⟨true⟩ (.c (.fn 26 [] [])) [.a [.slice (2 + i) x.route.length 1 0 x.route.length none, I x.s, I x.v, I x.len, I x.bg, .bool x.obey, .bool x.gone], .a x.C] M = some (.w (Bo true), M, .no) :=
      call_own (as := [.a x.C, .a x.C]) (by simp only [Ag.C, frzWs, frzW, frzs, gr, frz_rs, frz_int, frz_b, Option.map_some]) rfl rfl rfl (by have := R_sameAgent x x (h.as x (List.mem_of_getElem? hg)); rwa [decide_eq_true rfl] at this)
    simp only [Sc.C] at gk1
    generalize Ag.rows s.agents = rows at *
    simp only [Ag.C] at hc hget
    generalize rows1 x.route = gr0 at *
    rw [Y_step c_kerbstoneref10_Same_l1.eq_1, ← ih]
    simp [-callOp, -drop0, -Int.natCast_add, gk, gk1, g1, hci, hi1, hw, hag, hrl, hal, hget, hi2, hi3, hc, hdr]
set_option maxHeartbeats 2000000 in
theorem so_ev (s : Sc) (h : s.ok) (k e : Nat) (M : Mem) (H : SmI s k e M) : ∀ (r : List Ev) (i : Nat), s.events.drop i = r → i ≤ s.events.length →
    Y L Cs c_kerbstoneref10_Same_l2 (some [2, 3, 6]) (k + 2) [(2, .w (Pt k)), (3, .w (Pt (k + 1))), (6, .w (W i))] M = some (.exit 2, [(61, .w (Bo false)), (3, .w (Pt (k + 1))), (2, .w (Pt k)), (6, .w (W s.events.length))], M)
  | [], i, hd, hi => by
    obtain rfl := drop_end hd hi
    have gk := H.gk
    rw [Y_step c_kerbstoneref10_Same_l2.eq_1]
    simp [gk]
  | x :: r, i, hd, hi => by
    obtain ⟨hi1, hx, hd', hg⟩ := drop_get (f := Ev.C) hd
    have ih := so_ev s h k e M H r (i + 1) hd' (by omega)
    have gk := H.gk
    have gk1 := H.gk1
    have ge := H.ge
    have hl := h.e
    have hw := wrap1 (i := i) (by omega)
    have hci : (i : Int) < s.events.length := by omega
    have hrl : (Ev.rows s.events).length = s.events.length := by simp [Ev.rows]
    have hget : ∀ h : i < (Ev.rows s.events).length, (Ev.rows s.events)[i]'h = x.C := hx
    have hi2 : i < (Ev.rows s.events).length := by omega
    have hdr : ∀ E, drop0 (k + 2) E M = M := fun E => by unfold drop0; rw [if_pos (by have := H.len; omega)]
    have hq := eq_Ev x x
    rw [decide_eq_true rfl] at hq
    simp only [Sc.C] at gk1
    generalize Ev.rows s.events = rows at *
    simp only [Ev.C] at hget
    rw [Y_step c_kerbstoneref10_Same_l2.eq_1, ← ih]
    simp [-eqCells, -drop0, -Int.natCast_add, gk, gk1, ge, hci, hi1, hw, hrl, hget, hi2, hdr, hq]
theorem lab_below (s : Sc) (b : Bool) (v : Nat) : memBelow (s.agents.length + 3) (labM s b v 2) = true := by
  have key : ∀ (l : List Ag) (p n : Nat), p + l.length ≤ n → (agO p l).all (fun r => r.all (Eng.below n)) = true := by
    intro l
    induction l with
    | nil => intros; rfl
    | cons a l ih =>
      intro p n hp
      simp only [List.length_cons] at hp
      simp only [agO, List.all_cons, ih (p + 1) n (by omega), Bool.and_true]
      have hp1 : p + 1 ≤ n := by omega
      simp [Eng.below, topC, top1, hp1]
  simp only [memBelow, labM, List.all_cons, List.all_append, List.all_map]
  simp only [Blk.below, key s.agents 2 (s.agents.length + 3) (by omega)]
  simp [Function.comp_def]
theorem lab_SmI (s : Sc) (b : Bool) (v : Nat) : SmI s (s.agents.length + 3) (2 + s.agents.length) (labM s b v 2 ++ [bx 18 (scO s 0 1 (2 + s.agents.length)), bx 18 s.C]) := by
  have hw : (Wk.rows s.map.works).length = s.map.works.length := by simp [Wk.rows]
  have g : ∀ i a, s.agents[i]? = some a → (labM s b v 2 ++ [bx 18 (scO s 0 1 (2 + s.agents.length)), bx 18 s.C])[2 + i]? = some (rbk a) := fun i a h => by
    have hi := (List.getElem?_eq_some_iff.1 h).1
    rw [show 2 + i = i + 1 + 1 by omega]
    simp only [labM, List.cons_append, List.getElem?_cons_succ]
    rw [List.append_assoc, List.getElem?_append_left (by simpa using hi), List.getElem?_map, h]
    rfl
  refine ⟨by simp, ?_, ⟨b, v, rfl⟩, ?_, fun i a h => ?_, ?_, ?_⟩
  · have ht : (Wk.rows s.map.works).take s.map.works.length = Wk.rows s.map.works := List.take_of_length_le (by omega)
    simp [frzC, Eng.look, hw, ht]
  · rw [show 2 + s.agents.length = s.agents.length + 1 + 1 by omega]
    simp only [labM, List.cons_append, List.getElem?_cons_succ]
    rw [List.append_assoc, List.getElem?_append_right (by simp)]
    simp
  · have e1 : (rows1 a.route).length = a.route.length := by simp [rows1]
    have ht : (rows1 a.route).take a.route.length = rows1 a.route := List.take_of_length_le (by omega)
    have g := g i a h
    generalize labM s b v 2 ++ [bx 18 (scO s 0 1 (2 + s.agents.length)), bx 18 s.C] = M at g
    simp [frzC, Eng.look, g, e1, ht]
  · simp only [labM, List.cons_append, List.getElem?_cons_succ]
    rw [List.append_assoc, List.getElem?_append_right (by simp)]
    simp
  · simp only [labM, List.cons_append, List.getElem?_cons_succ]
    rw [List.append_assoc, List.getElem?_append_right (by simp)]
    simp [show s.agents.length + 1 + 1 - s.agents.length = 2 by omega]
set_option maxHeartbeats 8000000 in
theorem so_core (s : Sc) (h : s.ok) (A : Mem) (k e : Nat) (hl : A.length = k) (hB : memBelow k A = true) (H : SmI s k e (A ++ [bx 18 (scO s 0 1 e), bx 18 s.C])) :
    R L Cs f_kerbstoneref10_Same [.a (scO s 0 1 e), .a s.C] A = some (.w (Bo true), A) := by
  have hA := so_ag s h _ _ _ H s.agents 0 rfl (Nat.zero_le _)
  have hE := so_ev s h _ _ _ H s.events 0 rfl (Nat.zero_le _)
  have hr1 : (Ag.rows s.agents).length = s.agents.length := by simp [Ag.rows]
  have hr2 : (Ev.rows s.events).length = s.events.length := by simp [Ev.rows]
  have h1 := R_Same03 s.map s.map h.m
  rw [decide_eq_true rfl] at h1
  have c25 := call_own (M := A ++ [bx 18 (scO s 0 1 e), bx 18 s.C]) (args := [.a [I s.map.ver, .rslice (Ln.rows s.map.lanes), .rslice (Zo.rows s.map.zones), .rslice (Sg.rows s.map.sigs), .slice 0 s.map.works.length 6 0 s.map.works.length none], .a s.map.C]) (by simp only [Mp.C, frzWs, frzW, frzs, H.g0, frz_rs, frz_int, frz_b, Option.map_some]) rfl rfl rfl h1
  have m1 : ∀ x y : Option Blk, (A ++ [x, y])[k]? = some x := fun x y => by rw [List.getElem?_append_right (by omega)]; simp [hl]
  have m2 : ∀ x y : Option Blk, (A ++ [x, y])[k + 1]? = some y := fun x y => by rw [List.getElem?_append_right (by omega)]; simp [hl]
  have m3 : ∀ x y z : Option Blk, (A ++ [x, y]).set k z = A ++ [z, y] := fun x y z => by rw [List.set_append_right _ _ (by omega)]; simp [hl]
  have m4 : ∀ x y z : Option Blk, (A ++ [x, y]).set (k + 1) z = A ++ [x, z] := fun x y z => by rw [List.set_append_right _ _ (by omega)]; simp [hl]
  have m5 : ∀ x y : Option Blk, (A ++ [x, y]).take k = A := fun x y => by rw [← hl]; simp
  have hdr : ∀ (E : Env) (x y : Option Blk), drop0 (k + 2) E (A ++ [x, y]) = A ++ [x, y] := fun E x y => by unfold drop0; rw [if_pos (by simp [hl])]
  have hq := eq_car s.c1 s.c2 s.c3 s.c4 s.c5 s.c1 s.c2 s.c3 s.c4 s.c5
  rw [decide_eq_true ⟨rfl, rfl, rfl, rfl, rfl⟩] at hq
  rw [R_fn F_kerbstoneref10_Same rfl]
  simp only [Sc.C, Mp.C, Int.natCast_zero] at *
  simp [-callOp, -drop0, -eqCells, -memBelow, c_kerbstoneref10_Same, hl, hA, hE, hr1, hr2, c25, m1, m2, m3, m4, m5, hB, hq, hdr]
theorem R_SameO (s : Sc) (h : s.ok) (b : Bool) (v : Nat) : R L Cs f_kerbstoneref10_Same [.a (scO s 0 1 (2 + s.agents.length)), .a s.C] (labM s b v 2) = some (.w (Bo true), labM s b v 2) :=
  so_core s h _ (s.agents.length + 3) _ (by simp) (lab_below s b v) (lab_SmI s b v)
end Go.LcRun
set_option maxRecDepth 10000
namespace Go.LcRun
open Go Go.Eng
theorem nodup_r (p n : Nat) : (p :: (p + 1) :: (List.range' (p + 2) n ++ [p + 2 + n])).Nodup := by
  have : p :: (p + 1) :: (List.range' (p + 2) n ++ [p + 2 + n]) = List.range' p (n + 3) := by
    rw [List.range'_succ, List.range'_succ, List.range'_concat]
    simp
  rw [this]
  exact List.nodup_range'
theorem frzs_ag (M : Mem) (s : Sc) : frzWs M [.a s.C] = some [.a s.C] := by
  simp only [Sc.C, frzWs, frzW, frzs, frz_rs, frz_int, frz_b, Option.map_some]
theorem new_lab (s : Sc) (b : Bool) (v q : Nat) (ρ : Nat → Option Nat) (hb : s.agents ≠ [] → b = true) (hρ : ∀ k, ρ (2 + k) = some (q + k)) : renNew ρ (labM s b v 2) = some (labM s b v q) := by
  have h1 : renNew ρ [ebk 6 s.map.works.length (Wk.rows s.map.works)] = some [ebk 6 s.map.works.length (Wk.rows s.map.works)] := rfl
  have h2 : renNew ρ [abk b v 2 s.agents] = some [abk b v q s.agents] := by
    rw [renNew, ren_abk ρ hb fun k _ => hρ k]
    rfl
  have h3 : renNew ρ [ebk 5 s.events.length (Ev.rows s.events)] = some [ebk 5 s.events.length (Ev.rows s.events)] := rfl
  exact new_app ρ h1 (new_app ρ h2 (new_app ρ (new_routes ρ s.agents) h3))
theorem call_copy (s : Sc) (b : Bool) (v : Nat) (hb : s.agents ≠ [] → b = true) (hR : R L Cs f_lab_Copy [.a s.C] [] = some (.w (.a (scO s 0 1 (2 + s.agents.length))), labM s b v 2)) (M : Mem) :
    callOp (R L Cs) ⟨true⟩ (.c (.fn 7 [] [])) [.a s.C] M = some (.w (.a (scO s M.length (M.length + 1) (M.length + (2 + s.agents.length)))), M ++ labM s b v (M.length + 2), .no) := by
  have hn := new_lab s b v (M.length + 2) (fun j => some (M.length + j)) hb (fun k => by rw [show M.length + (2 + k) = M.length + 2 + k by omega])
  have hr : renA (fun j => some (M.length + j)) (.w (.a (scO s 0 1 (2 + s.agents.length)))) = some (.w (.a (scO s M.length (M.length + 1) (M.length + (2 + s.agents.length))))) := by simp only [renA, renW, renCs, renC, ren1, Option.map_some, Nat.add_zero]
  have hw : renWs (fun _ => none) [.a s.C] = some [.a s.C] := by simp only [Sc.C, renWs, renW, renCs, renC, ren1, Option.map_some]
  have h2 : ([WV.a s.C] : List WV).flatMap WV.sls = [] := rfl
  have h3 : ([WV.a s.C] : List WV).flatMap WV.ids = [] := rfl
  unfold callOp
  simp only [callee, frzs_ag, List.map_nil, List.append_nil, List.nil_append, if_true, h2]
  rw [if_pos (by rfl)]
  simp only [List.isEmpty_nil, if_true]
  unfold callOn
  have hc0 : collect M collectFuel [] [] = [] := rfl
  dsimp only
  rw [h3, hc0, show idxIn [] = fun _ => none from rfl]
  have hR' : R L Cs 7 [.a s.C] [] = _ := hR
  simp only [nodupB, if_true, takeBlks, hw, hR', landed]
  simp only [List.getElem?_nil, List.length_nil, Nat.sub_zero, List.drop_zero, back, hn, hr, List.isEmpty_nil, if_true]
theorem back_same (M : Mem) (ρ ρ' : Nat → Option Nat) : ∀ {ids : List Nat} {Ms : Mem}, takeBlks M ρ ids = some Ms → back ρ' ids Ms M = some (M, [])
  | [], Ms, h => rfl
  | x :: ids, Ms, h => by
    simp only [takeBlks] at h
    split at h
    · rename_i b bs e1 e2
      rw [Option.map_eq_some_iff] at h
      obtain ⟨b', hb, rfl⟩ := h
      have hv : b'.ver = b.ver := by
        unfold renB at hb
        split at hb
        · rw [Option.map_eq_some_iff] at hb
          obtain ⟨_, _, rfl⟩ := hb
          rfl
        · cases hb; rfl
      rw [back, e1]
      simp only [hv, if_true]
      exact back_same M ρ ρ' e2
    · cases h
theorem take_len (M : Mem) (ρ : Nat → Option Nat) : ∀ {ids : List Nat} {Ms : Mem}, takeBlks M ρ ids = some Ms → Ms.length = ids.length
  | [], Ms, h => by cases h; rfl
  | x :: ids, Ms, h => by
    simp only [takeBlks] at h
    split at h
    · rename_i b bs e1 e2
      rw [Option.map_eq_some_iff] at h
      obtain ⟨b', hb, rfl⟩ := h
      simp [take_len M ρ e2]
    · cases h
structure LabAt (s : Sc) (b : Bool) (v p : Nat) (M : Mem) : Prop where
  g0 : M[p]? = some (ebk 6 s.map.works.length (Wk.rows s.map.works))
  g1 : M[p + 1]? = some (abk b v (p + 2) s.agents)
  gr : ∀ k a, s.agents[k]? = some a → M[p + 2 + k]? = some (rbk a)
  ge : M[p + 2 + s.agents.length]? = some (ebk 5 s.events.length (Ev.rows s.events))
theorem call_same (s : Sc) (h : s.ok) (b : Bool) (v p : Nat) (M : Mem) (hb : s.agents ≠ [] → b = true) (H : LabAt s b v p M) :
    callOp (R L Cs) ⟨false⟩ (.c (.fn 9 [] [])) [.a (scO s p (p + 1) (p + 2 + s.agents.length)), .a s.C] M = some (.w (Bo true), M, .no) := by
  obtain ⟨g0, g1, gr, ge⟩ := H
  have hR : R L Cs 9 [.a (scO s 0 1 (2 + s.agents.length)), .a s.C] (labM s b v 2) = some (.w (Bo true), labM s b v 2) := R_SameO s h b v
  have hc : collect M collectFuel [p, p + 1, p + 2 + s.agents.length] [] = p :: (p + 1) :: (List.range' (p + 2) s.agents.length ++ [p + 2 + s.agents.length]) := by
    refine collect_sc M p (p + 1) _ _ (by simp [idsAt, g0, Blk.ids]) (by simp only [idsAt, g1]; exact ids_abk hb) (fun k hk => ?_) (by simp [idsAt, ge, Blk.ids]) (nodup_r p _) (by simpa using h.a)
    obtain ⟨h1, h2⟩ := List.mem_range'_1.1 hk
    have h3 : k - (p + 2) < s.agents.length := by omega
    have := gr (k - (p + 2)) _ (List.getElem?_eq_getElem h3)
    rw [show p + 2 + (k - (p + 2)) = k by omega] at this
    simp [idsAt, this, Blk.ids]
  generalize hI : p :: (p + 1) :: (List.range' (p + 2) s.agents.length ++ [p + 2 + s.agents.length]) = ids at *
  have i0 : idxIn ids p = some 0 := by rw [← hI]; simp [idxIn]
  have i1 : idxIn ids (p + 1) = some 1 := by rw [← hI]; simp [idxIn]
  have i2 : ∀ k, k < s.agents.length → idxIn ids (p + 2 + k) = some (2 + k) := fun k hk => by
    rw [← hI, idxIn, if_neg (by omega), idxIn, if_neg (by omega), idx_range _ _ _ _ hk]
    simp; omega
  have i3 : idxIn ids (p + 2 + s.agents.length) = some (2 + s.agents.length) := by
    rw [← hI, idxIn, if_neg (by omega), idxIn, if_neg (by omega), idx_past _ _ _ (.inr (by omega))]
    simp; omega
  have hnd : nodupB ids = true := by rw [← hI]; exact nodupB_of (nodup_r p _)
  have t : takeBlks M (idxIn ids) ids = some (labM s b v 2) := by
    generalize hρ : idxIn ids = ρ at *
    rw [← hI]
    exact take_app (l1 := [p]) M _ (take_one M _ g0 rfl) (take_app (l1 := [p + 1]) M _ (take_one M _ g1 (ren_abk _ hb i2)) (take_app M _ (take_routes M _ _ _ gr) (take_one M _ ge rfl)))
  have hw : renWs (idxIn ids) [.a (scO s p (p + 1) (p + 2 + s.agents.length)), .a s.C] = some [.a (scO s 0 1 (2 + s.agents.length)), .a s.C] := by
    simp only [Sc.C, renWs, renW, renCs, renC, ren1, i0, i1, i3, Option.map_some]
  have hb2 := fun ρ' => back_same M (idxIn ids) ρ' t
  have hl := take_len M _ t
  have h3 : ([WV.a (scO s p (p + 1) (p + 2 + s.agents.length)), WV.a s.C] : List WV).flatMap WV.ids = [p, p + 1, p + 2 + s.agents.length] := rfl
  unfold callOp
  simp only [callee, List.map_nil, List.append_nil, List.nil_append, Bool.false_eq_true, if_false]
  rw [if_pos (by rfl)]
  unfold callOn
  rw [h3, hc]
  simp only [hnd, if_true, hw, t, hR]
  unfold landed
  have hd : (labM s b v 2).drop ids.length = [] := by rw [← hl]; exact List.drop_length
  dsimp only
  rw [hb2, hd]
  simp [renNew, renA, renW, renC, ren1]
end Go.LcRun
set_option maxRecDepth 10000
namespace Go.LcRun
open Go Go.Eng
abbrev agR (p : Nat) (a : Ag) : List Cl := [.slice p a.route.length 1 0 a.route.length none, I a.s, I a.v, I a.len, I a.bg, .bool a.obey, .bool a.gone]
theorem agO_set : ∀ (l : List Ag) (p i : Nat) (a : Ag), (agO p l).set i (agR (p + i) a) = agO p (l.set i a)
  | [], _, _, _ => rfl
  | x :: l, p, 0, a => rfl
  | x :: l, p, i + 1, a => by
    have := agO_set l (p + 1) i a
    rw [show p + 1 + i = p + (i + 1) by omega] at this
    simp only [agO, List.set_cons_succ, this]
theorem rows1_set (l : List Int) (k : Nat) (z : Int) : (rows1 l).set k [I z] = rows1 (l.set k z) := by
  simp [rows1, List.map_set]
structure CI (s : Sc) (M : Mem) : Prop where
  len : M.length = 7 + s.agents.length
  c0 : M[0]? = some (bx 18 s.C)
  c2 : M[2]? = some (bxv 1 18 s.C)
  c3 : M[3]? = some (bxv 1 18 (scO s 4 5 (6 + s.agents.length)))
  gw : ∃ v, ∃ ws : List Wk, ws.length = s.map.works.length ∧ M[4]? = some (gbk 6 s.map.works.length v (Wk.rows ws))
  ga : ∃ b v, ∃ as : List Ag, as.length = s.agents.length ∧ (as ≠ [] → b = true) ∧ (∀ (k : Nat) (a a' : Ag), as[k]? = some a → s.agents[k]? = some a' → a.route.length = a'.route.length) ∧ M[5]? = some (some { box := b, esz := 7, rows := agO 6 as, gen := s.agents.length, fz := false, ver := v })
  gr : ∀ k a, s.agents[k]? = some a → ∃ v, ∃ l : List Int, l.length = a.route.length ∧ M[6 + k]? = some (gbk 1 a.route.length v (rows1 l))
  ge : ∃ v, ∃ es : List Ev, es.length = s.events.length ∧ M[6 + s.agents.length]? = some (gbk 5 s.events.length v (Ev.rows es))
variable {s : Sc} {M : Mem}
theorem CI.setR (H : CI s M) {i : Nat} {a : Ag} (hi : s.agents[i]? = some a) (v : Nat) (l : List Int) (hl : l.length = a.route.length) : CI s (M.set (6 + i) (gbk 1 a.route.length v (rows1 l))) := by
  have hi1 := (List.getElem?_eq_some_iff.1 hi).1
  obtain ⟨h1, h2, h3, h4, h5, h6, h7, h8⟩ := H
  refine ⟨by simpa using h1, ?_, ?_, ?_, ?_, ?_, fun k a' hk => ?_, ?_⟩
  · rw [List.getElem?_set_ne (by omega)]; exact h2
  · rw [List.getElem?_set_ne (by omega)]; exact h3
  · rw [List.getElem?_set_ne (by omega)]; exact h4
  · rw [List.getElem?_set_ne (by omega)]; exact h5
  · rw [List.getElem?_set_ne (by omega)]; exact h6
  · by_cases e : k = i
    · subst e
      rw [hi] at hk
      cases hk
      exact ⟨v, l, hl, List.getElem?_set_self (by omega)⟩
    · rw [List.getElem?_set_ne (by omega)]
      exact h7 k a' hk
  · rw [List.getElem?_set_ne (by omega)]; exact h8
theorem CI.setA (H : CI s M) (b : Bool) (v : Nat) (as : List Ag) (hl : as.length = s.agents.length) (hb : as ≠ [] → b = true) (hr : ∀ (k : Nat) (a a' : Ag), as[k]? = some a → s.agents[k]? = some a' → a.route.length = a'.route.length) : CI s (M.set 5 (some { box := b, esz := 7, rows := agO 6 as, gen := s.agents.length, fz := false, ver := v })) := by
  obtain ⟨h1, h2, h3, h4, h5, h6, h7, h8⟩ := H
  refine ⟨by simpa using h1, ?_, ?_, ?_, ?_, ⟨b, v, as, hl, hb, hr, List.getElem?_set_self (by omega)⟩, fun k a' hk => ?_, ?_⟩
  · rw [List.getElem?_set_ne (by omega)]; exact h2
  · rw [List.getElem?_set_ne (by omega)]; exact h3
  · rw [List.getElem?_set_ne (by omega)]; exact h4
  · rw [List.getElem?_set_ne (by omega)]; exact h5
  · rw [List.getElem?_set_ne (by omega)]; exact h7 k a' hk
  · rw [List.getElem?_set_ne (by omega)]; exact h8
theorem CI.setW (H : CI s M) (v : Nat) (ws : List Wk) (hl : ws.length = s.map.works.length) : CI s (M.set 4 (gbk 6 s.map.works.length v (Wk.rows ws))) := by
  obtain ⟨h1, h2, h3, h4, h5, h6, h7, h8⟩ := H
  refine ⟨by simpa using h1, ?_, ?_, ?_, ⟨v, ws, hl, List.getElem?_set_self (by omega)⟩, ?_, fun k a' hk => ?_, ?_⟩
  · rw [List.getElem?_set_ne (by omega)]; exact h2
  · rw [List.getElem?_set_ne (by omega)]; exact h3
  · rw [List.getElem?_set_ne (by omega)]; exact h4
  · rw [List.getElem?_set_ne (by omega)]; exact h6
  · rw [List.getElem?_set_ne (by omega)]; exact h7 k a' hk
  · rw [List.getElem?_set_ne (by omega)]; exact h8
theorem CI.setE (H : CI s M) (v : Nat) (es : List Ev) (hl : es.length = s.events.length) : CI s (M.set (6 + s.agents.length) (gbk 5 s.events.length v (Ev.rows es))) := by
  obtain ⟨h1, h2, h3, h4, h5, h6, h7, h8⟩ := H
  refine ⟨by simpa using h1, ?_, ?_, ?_, ?_, ?_, fun k a' hk => ?_, ⟨v, es, hl, List.getElem?_set_self (by omega)⟩⟩
  · rw [List.getElem?_set_ne (by omega)]; exact h2
  · rw [List.getElem?_set_ne (by omega)]; exact h3
  · rw [List.getElem?_set_ne (by omega)]; exact h4
  · rw [List.getElem?_set_ne (by omega)]; exact h5
  · rw [List.getElem?_set_ne (by omega)]; exact h6
  · have := (List.getElem?_eq_some_iff.1 hk).1
    rw [List.getElem?_set_ne (by omega)]; exact h7 k a' hk
theorem CI.drop (H : CI s M) (E : Env) : drop0 (7 + s.agents.length) E M = M := by
  unfold drop0
  rw [if_pos (by have := H.len; omega)]
abbrev w1E (i k : Nat) : Env := [(8, .w (W k)), (2, .w (Pt 0)), (5, .w (Pt 2)), (6, .w (Pt 3)), (7, .w (W i))]
set_option maxHeartbeats 2000000 in
theorem w1_loop (s : Sc) (h : s.ok) (i : Nat) (a : Ag) (hi : s.agents[i]? = some a) : ∀ (r k : Nat) (M : Mem), k + r = a.route.length → CI s M →
    ∃ M', Y L Cs c_kerbstonelaw10_LabCopies_l1 (some [8, 2, 5, 6, 7]) (7 + s.agents.length) (w1E i k) M = some (.exit 2, (65, .w (Bo false)) :: w1E i a.route.length, M') ∧ CI s M'
  | r, k, M, hk, H => by
    obtain ⟨b, v, as, hal, hb, har, g5⟩ := H.ga
    have hi1 := (List.getElem?_eq_some_iff.1 hi).1
    obtain ⟨x, hx⟩ : ∃ x, as[i]? = some x := ⟨as[i]'(by omega), List.getElem?_eq_getElem (by omega)⟩
    have hxa := har i x a hx hi
    have hag : ∀ hh : i < (agO 6 as).length, (agO 6 as)[i]'hh = agR (6 + i) x := fun hh => (List.getElem?_eq_some_iff.1 (agO_get as 6 i x hx)).2
    have hi3 : i < (agO 6 as).length := by rw [agO_len]; omega
    have hci : (i : Int) < s.agents.length := by omega
    have g3 := H.c3
    have hok : a.route.length ≤ 1000 := h.as a (List.mem_of_getElem? hi)
    match r with
    | 0 =>
      obtain rfl : k = a.route.length := by omega
      refine ⟨M, ?_, H⟩
      rw [Y_step c_kerbstonelaw10_LabCopies_l1.eq_1]
      simp [-drop0, g3, g5, hci, hi1, hi3, hag, hxa]
    | r + 1 =>
      obtain ⟨v2, l, hl, g6⟩ := H.gr i a hi
      have hk1 : k < l.length := by omega
      have hka : k < a.route.length := by omega
      have hkc : (k : Int) < a.route.length := by omega
      have hgl : ∀ hh : k < (rows1 l).length, (rows1 l)[k]'hh = [I l[k]] := fun hh => by simp [rows1]
      have hkl : k < (rows1 l).length := by simpa [rows1] using hk1
      have hw := wrap1 (i := k) (by omega)
      have H2 := H.setR hi (v2 + 1) (l.set k (IntKind.i64.wrap (l[k] + 1))) (by simpa using hl)
      obtain ⟨M', y, HM⟩ := w1_loop s h i a hi r (k + 1) _ (by omega) H2
      refine ⟨M', ?_, HM⟩
      rw [← y]
      rw [← CI.drop H2 (w1E i (k + 1)), ← rows1_set]
      generalize rows1 l = gr at *
      rw [Y_step c_kerbstonelaw10_LabCopies_l1.eq_1]
      simp [-drop0, -Int.natCast_add, g3, g5, g6, hci, hi1, hi3, hag, hxa, hkc, hka, hkl, hgl, hw]
abbrev w2E (i : Nat) : Env := [(5, .w (Pt 2)), (2, .w (Pt 0)), (6, .w (Pt 3)), (7, .w (W i))]
set_option maxHeartbeats 2000000 in
theorem w2_loop (s : Sc) (h : s.ok) : ∀ (r i : Nat) (M : Mem), i + r = s.agents.length → CI s M →
    ∃ M', Y L Cs c_kerbstonelaw10_LabCopies_l2 (some [5, 2, 6, 7]) (7 + s.agents.length) (w2E i) M = some (.exit 0, [(45, .w (Bo false)), (2, .w (Pt 0)), (5, .w (Pt 2)), (6, .w (Pt 3)), (7, .w (W s.agents.length))], M') ∧ CI s M'
  | r, i, M, hk, H => by
    have g3 := H.c3
    match r with
    | 0 =>
      obtain rfl : i = s.agents.length := by omega
      refine ⟨M, ?_, H⟩
      rw [Y_step c_kerbstonelaw10_LabCopies_l2.eq_1]
      simp [-drop0, g3]
    | r + 1 =>
      obtain ⟨b, v, as, hal, hb, har, g5⟩ := H.ga
      have hi1 : i < s.agents.length := by omega
      obtain ⟨a, hi⟩ : ∃ a, s.agents[i]? = some a := ⟨s.agents[i], List.getElem?_eq_getElem hi1⟩
      obtain ⟨x, hx⟩ : ∃ x, as[i]? = some x := ⟨as[i]'(by omega), List.getElem?_eq_getElem (by omega)⟩
      have hne : as ≠ [] := fun e => by rw [e] at hx; cases hx
      have hbt := hb hne
      subst hbt
      have hxa := har i x a hx hi
      have hag : ∀ hh : i < (agO 6 as).length, (agO 6 as)[i]'hh = agR (6 + i) x := fun hh => (List.getElem?_eq_some_iff.1 (agO_get as 6 i x hx)).2
      have hi3 : i < (agO 6 as).length := by rw [agO_len]; omega
      have hci : (i : Int) < s.agents.length := by omega
      have hl := h.a
      have hw := wrap1 (i := i) (by omega)
      let x' : Ag := { x with s := IntKind.i64.wrap (x.s + 1) }
      have hset : (agO 6 as).set i (agR (6 + i) x') = agO 6 (as.set i x') := agO_set as 6 i x'
      have H2 := H.setA true (v + 1) (as.set i x') (by simpa using hal) (fun _ => rfl) (fun k q q' hq hq' => by
        by_cases e : i = k
        · subst e
          rw [List.getElem?_set_self (by omega)] at hq
          cases hq
          rw [hi] at hq'
          cases hq'
          exact hxa
        · rw [List.getElem?_set_ne e] at hq
          exact har k q q' hq hq')
      obtain ⟨M1, y1, H3⟩ := w1_loop s h i a hi a.route.length 0 _ (by omega) H2
      have hdr : ∀ E X, drop0 (7 + s.agents.length) E (M.set 5 X) = M.set 5 X := fun E X => by unfold drop0; rw [if_pos (by have := H.len; simp; omega)]
      obtain ⟨M', y, HM⟩ := w2_loop s h r (i + 1) M1 (by omega) H3
      refine ⟨M', ?_, HM⟩
      have hlm := H.len
      rw [← y, ← CI.drop H3 (w2E (i + 1))]
      rw [← hset] at y1
      simp only [w1E, Int.natCast_zero] at y1
      rw [Y_step c_kerbstonelaw10_LabCopies_l2.eq_1]
      simp [-drop0, -Int.natCast_add, g3, g5, hci, hi1, hi3, hag, hw, hdr, hlm]
      simp only [x', agR] at y1
      simp [-drop0, -Int.natCast_add, y1, hw]
abbrev w3E (i : Nat) : Env := [(9, .w (W i)), (2, .w (Pt 0)), (5, .w (Pt 2)), (6, .w (Pt 3))]
set_option maxHeartbeats 2000000 in
theorem w3_loop (s : Sc) (h : s.ok) : ∀ (r i : Nat) (M : Mem), i + r = s.events.length → CI s M →
    ∃ M', Y L Cs c_kerbstonelaw10_LabCopies_l3 (some [9, 2, 5, 6]) (7 + s.agents.length) (w3E i) M = some (.exit 4, (83, .w (Bo false)) :: w3E s.events.length, M') ∧ CI s M'
  | r, i, M, hk, H => by
    have g3 := H.c3
    match r with
    | 0 =>
      obtain rfl : i = s.events.length := by omega
      refine ⟨M, ?_, H⟩
      rw [Y_step c_kerbstonelaw10_LabCopies_l3.eq_1]
      simp [-drop0, g3]
    | r + 1 =>
      obtain ⟨v, es, hel, g7⟩ := H.ge
      have hi1 : i < s.events.length := by omega
      have hi2 : i < es.length := by omega
      have hget : ∀ hh : i < (Ev.rows es).length, (Ev.rows es)[i]'hh = es[i].C := fun hh => by simp [Ev.rows]
      have hi3 : i < (Ev.rows es).length := by simpa [Ev.rows] using hi2
      have hci : (i : Int) < s.events.length := by omega
      have hl := h.e
      have hw := wrap1 (i := i) (by omega)
      let x' : Ev := { es[i] with n := IntKind.i64.wrap (es[i].n + 1) }
      have hset : Ev.rows (es.set i x') = (Ev.rows es).set i x'.C := by simp [Ev.rows, List.map_set]
      have H2 := H.setE (v + 1) (es.set i x') (by simpa using hel)
      obtain ⟨M', y, HM⟩ := w3_loop s h r (i + 1) _ (by omega) H2
      refine ⟨M', ?_, HM⟩
      rw [← y, ← CI.drop H2 (w3E (i + 1)), hset]
      simp only [x', Ev.C] at hget ⊢
      generalize Ev.rows es = rows at *
      rw [Y_step c_kerbstonelaw10_LabCopies_l3.eq_1]
      simp [-drop0, -Int.natCast_add, g3, g7, hci, hi1, hi3, hget, hw]
abbrev w4E (i : Nat) : Env := [(10, .w (W i)), (5, .w (Pt 2)), (2, .w (Pt 0)), (6, .w (Pt 3))]
set_option maxHeartbeats 2000000 in
theorem w4_loop (s : Sc) (h : s.ok) : ∀ (r i : Nat) (M : Mem), i + r = s.map.works.length → CI s M →
    ∃ M', Y L Cs c_kerbstonelaw10_LabCopies_l4 (some [10, 5, 2, 6]) (7 + s.agents.length) (w4E i) M = some (.exit 6, (100, .w (Bo false)) :: w4E s.map.works.length, M') ∧ CI s M'
  | r, i, M, hk, H => by
    have g3 := H.c3
    match r with
    | 0 =>
      obtain rfl : i = s.map.works.length := by omega
      refine ⟨M, ?_, H⟩
      rw [Y_step c_kerbstonelaw10_LabCopies_l4.eq_1]
      simp [-drop0, g3]
    | r + 1 =>
      obtain ⟨v, es, hel, g7⟩ := H.gw
      have hi1 : i < s.map.works.length := by omega
      have hi2 : i < es.length := by omega
      have hget : ∀ hh : i < (Wk.rows es).length, (Wk.rows es)[i]'hh = es[i].C := fun hh => by simp [Wk.rows]
      have hi3 : i < (Wk.rows es).length := by simpa [Wk.rows] using hi2
      have hci : (i : Int) < s.map.works.length := by omega
      have hl := h.m.w
      have hw := wrap1 (i := i) (by omega)
      let x' : Wk := { es[i] with lim := IntKind.i64.wrap (es[i].lim + 1) }
      have hset : Wk.rows (es.set i x') = (Wk.rows es).set i x'.C := by simp [Wk.rows, List.map_set]
      have H2 := H.setW (v + 1) (es.set i x') (by simpa using hel)
      obtain ⟨M', y, HM⟩ := w4_loop s h r (i + 1) _ (by omega) H2
      refine ⟨M', ?_, HM⟩
      rw [← y, ← CI.drop H2 (w4E (i + 1)), hset]
      simp only [x', Wk.C] at hget ⊢
      generalize Wk.rows es = rows at *
      rw [Y_step c_kerbstonelaw10_LabCopies_l4.eq_1]
      simp [-drop0, -Int.natCast_add, g3, g7, hci, hi1, hi3, hget, hw]
end Go.LcRun
set_option maxRecDepth 100000
namespace Go.LcRun
open Go Go.Eng
theorem erun {e : Ent} (h : checkE tree Cs [] [] 3000 e = true) : Holds L Cs e := ent_run (t := tree) (hot := []) (es := []) (n := 3000) tree_eq L_nodup Cs_none .nil h
theorem R_awake : R L Cs f_kerbstonelaw10_awake [] [] = some (.w (Bo true), []) := erun (e := ⟨f_kerbstonelaw10_awake, [], [], .w (Bo true), []⟩) (by kernel_rfl)
end Go.LcRun
set_option maxRecDepth 10000
namespace Go.LcRun
open Go Go.Eng
theorem ci_start (s o : Sc) (b : Bool) (v : Nat) (hb : s.agents ≠ [] → b = true) : CI s (bx 18 s.C :: bx 18 o.C :: bxv 1 18 s.C :: bxv 1 18 (scO s 4 5 (6 + s.agents.length)) :: labM s b v 6) ∧ LabAt s b v 4 (bx 18 s.C :: bx 18 o.C :: bxv 1 18 s.C :: bxv 1 18 (scO s 4 5 (6 + s.agents.length)) :: labM s b v 6) := by
  generalize hM : bx 18 s.C :: bx 18 o.C :: bxv 1 18 s.C :: bxv 1 18 (scO s 4 5 (6 + s.agents.length)) :: labM s b v 6 = M
  have g4 : M[4]? = some (ebk 6 s.map.works.length (Wk.rows s.map.works)) := by rw [← hM]; rfl
  have g5 : M[5]? = some (abk b v 6 s.agents) := by rw [← hM]; rfl
  have gr : ∀ k a, s.agents[k]? = some a → M[6 + k]? = some (rbk a) := fun k a h => by
    have hi := (List.getElem?_eq_some_iff.1 h).1
    rw [← hM, show 6 + k = k + 1 + 1 + 1 + 1 + 1 + 1 by omega]
    simp only [labM, List.getElem?_cons_succ]
    rw [List.getElem?_append_left (by simpa using hi), List.getElem?_map, h]
    rfl
  have ge : M[6 + s.agents.length]? = some (ebk 5 s.events.length (Ev.rows s.events)) := by
    rw [← hM, show 6 + s.agents.length = s.agents.length + 1 + 1 + 1 + 1 + 1 + 1 by omega]
    simp only [labM, List.getElem?_cons_succ]
    rw [List.getElem?_append_right (by simp)]
    simp
  have hl : M.length = 7 + s.agents.length := by rw [← hM]; simp; omega
  refine ⟨⟨hl, ?_, ?_, ?_, ⟨_, s.map.works, rfl, g4⟩, ⟨b, v, s.agents, rfl, hb, fun k a a' h h' => ?_, g5⟩, fun k a h => ⟨_, a.route, rfl, gr k a h⟩, ⟨_, s.events, rfl, ge⟩⟩, g4, g5, gr, ge⟩
  · rw [← hM]; rfl
  · rw [← hM]; rfl
  · rw [← hM]; rfl
  · rw [h] at h'
    cases h'
    rfl
theorem call_plain {f : Nat} {args : List WV} {M : Mem} {r : Bool} {m : CMode} (h1 : frzWs M args = some args) (h2 : args.flatMap WV.ids = []) (h0 : (args.flatMap WV.sls).isEmpty = true) (h3 : headOK f args = true) (h4 : renWs (idxIn []) args = some args) (hR : R L Cs f args [] = some (.w (Bo r), [])) :
    callOp (R L Cs) m (.c (.fn f [] [])) args M = some (.w (Bo r), M, .no) := by
  have key : ∀ M1 : Mem, callOn (R L Cs) f args M1 = some (.w (Bo r), M1, .no) := fun M1 => by
    unfold callOn
    rw [h2]
    rw [show idxIn [] = fun _ => none from rfl] at h4
    simp [-callOn, collectFuel, collect, nodupB, takeBlks, h4, hR, landed, back, renNew, renA, renW, renC, ren1]
  unfold callOp
  simp only [callee, h1, List.map_nil, List.append_nil, List.nil_append, h3, h0, Bool.or_true, if_true, key]
  split <;> rfl
theorem call_was {s : Sc} (hR : R L Cs f_kerbstoneref10_Copy [.a s.C] [] = some (.w (.a s.C), [])) (M : Mem) : callOp (R L Cs) ⟨true⟩ (.c (.fn 6 [] [])) [.a s.C] M = some (.w (.a s.C), M, .no) := by
  have hR' : R L Cs 6 [.a s.C] [] = _ := hR
  have hw : renWs (fun _ => none) [.a s.C] = some [.a s.C] := by simp only [Sc.C, renWs, renW, renCs, renC, ren1, Option.map_some]
  have hr : renA (fun j => some (M.length + j)) (.w (.a s.C)) = some (.w (.a s.C)) := by simp only [Sc.C, renA, renW, renCs, renC, ren1, Option.map_some]
  have h2 : ([WV.a s.C] : List WV).flatMap WV.sls = [] := rfl
  have h3 : ([WV.a s.C] : List WV).flatMap WV.ids = [] := rfl
  unfold callOp
  simp only [callee, frzs_ag, List.map_nil, List.append_nil, List.nil_append, if_true, h2]
  rw [if_pos (by rfl)]
  simp only [List.isEmpty_nil, if_true]
  unfold callOn
  have hc0 : collect M collectFuel [] [] = [] := rfl
  dsimp only
  rw [h3, hc0, show idxIn [] = fun _ => none from rfl]
  simp only [nodupB, if_true, takeBlks, hw, hR', landed]
  simp only [List.getElem?_nil, List.length_nil, Nat.sub_zero, List.drop_zero, back, renNew, hr, List.isEmpty_nil, if_true, List.append_nil]
theorem ren_s (s : Sc) : renWs (idxIn []) [.a s.C] = some [.a s.C] := by
  rw [show idxIn [] = fun _ => none from rfl]
  simp only [Sc.C, renWs, renW, renCs, renC, ren1, Option.map_some]
theorem ren_so (s o : Sc) : renWs (idxIn []) [.a s.C, .a o.C] = some [.a s.C, .a o.C] := by
  rw [show idxIn [] = fun _ => none from rfl]
  simp only [Sc.C, renWs, renW, renCs, renC, ren1, Option.map_some]
theorem frzs_so (M : Mem) (s o : Sc) : frzWs M [.a s.C, .a o.C] = some [.a s.C, .a o.C] := by
  simp only [Sc.C, frzWs, frzW, frzs, frz_rs, frz_int, frz_b, Option.map_some]
theorem fin0 (M : Mem) (h : 0 < M.length) : finish 0 (.w (Bo true)) M = some (.w (Bo true), []) := by
  have hb : (AV.below 0 (.w (Bo true)) && memBelow 0 (M.take 0)) = true := rfl
  unfold finish
  rw [if_neg (by omega), hb]
  rfl
set_option maxHeartbeats 8000000 in
theorem R_law (s o : Sc) : ∃ M', R L Cs f_kerbstonelaw10_LabCopies [.a s.C, .a o.C] [] = some (.w (Bo true), M') := by
  obtain ⟨b1, hb1, hs1⟩ := R_Big s
  obtain ⟨b2, hb2, hs2⟩ := R_Big o
  have k4s : ∀ M, callOp (R L Cs) ⟨true⟩ (.c (.fn 4 [] [])) [.a s.C] M = some (.w (Bo b1), M, .no) := fun M => call_plain (frzs_ag M s) rfl rfl rfl (ren_s s) hb1
  have k4o : ∀ M, callOp (R L Cs) ⟨true⟩ (.c (.fn 4 [] [])) [.a o.C] M = some (.w (Bo b2), M, .no) := fun M => call_plain (frzs_ag M o) rfl rfl rfl (ren_s o) hb2
  have k5 : ∀ M, callOp (R L Cs) ⟨true⟩ (.c (.fn 5 [] [])) [] M = some (.w (Bo true), M, .no) := fun M => call_plain rfl rfl rfl rfl rfl R_awake
  cases b1 with
  | true =>
    refine ⟨[], ?_⟩
    rw [R_fn F_kerbstonelaw10_LabCopies rfl]
    simp only [Sc.C] at *
    simp [-callOp, c_kerbstonelaw10_LabCopies, k4s, k4o, k5]
  | false =>
  cases b2 with
  | true =>
    refine ⟨[], ?_⟩
    rw [R_fn F_kerbstonelaw10_LabCopies rfl]
    simp only [Sc.C] at *
    simp [-callOp, c_kerbstonelaw10_LabCopies, k4s, k4o, k5]
  | false =>
  have h := (hs1 rfl).ok
  have h2 := (hs2 rfl).ok
  have k6 := call_was (R_Copy10 s h)
  obtain ⟨b, hb, hR⟩ := R_labCopy s h
  have k7 := call_copy s b _ hb hR
  have e1 := R_lab_Same s o h
  have e2 := R_Same10 s o h
  have e3 := R_lab_Same s s h
  have e4 := R_Same10 s s h
  rw [decide_eq_true rfl] at e3 e4
  have k8o : ∀ M, callOp (R L Cs) ⟨true⟩ (.c (.fn 8 [] [])) [.a s.C, .a o.C] M = _ := fun M => call_plain (frzs_so M s o) rfl rfl rfl (ren_so s o) e1
  have k9o : ∀ M, callOp (R L Cs) ⟨false⟩ (.c (.fn 9 [] [])) [.a s.C, .a o.C] M = _ := fun M => call_plain (frzs_so M s o) rfl rfl rfl (ren_so s o) e2
  have k8s : ∀ M, callOp (R L Cs) ⟨true⟩ (.c (.fn 8 [] [])) [.a s.C, .a s.C] M = _ := fun M => call_plain (frzs_so M s s) rfl rfl rfl (ren_so s s) e3
  have k9s : ∀ M, callOp (R L Cs) ⟨false⟩ (.c (.fn 9 [] [])) [.a s.C, .a s.C] M = _ := fun M => call_plain (frzs_so M s s) rfl rfl rfl (ren_so s s) e4
  obtain ⟨HC, HL⟩ := ci_start s o b (s.agents.length + s.agents.length) hb
  have k9c := call_same s h b _ 4 _ hb HL
  have hlm : (labM s b (s.agents.length + s.agents.length) 6).length = 3 + s.agents.length := by simp; omega
  have hN : 7 + s.agents.length = (labM s b (s.agents.length + s.agents.length) 6).length + 4 := by omega
  obtain ⟨M1, y1, H1⟩ := w2_loop s h s.agents.length 0 _ (by omega) HC
  obtain ⟨M2, y2, H2⟩ := w3_loop s h s.events.length 0 M1 (by omega) H1
  obtain ⟨M3, y3, H3⟩ := w4_loop s h s.map.works.length 0 M2 (by omega) H2
  have d0 := HC.drop
  have d1 := H1.drop
  have d2 := H2.drop
  have l1 := H1.len
  have l2 := H2.len
  have g0 := H3.c0
  have g2 := H3.c2
  rw [hN] at y1 y2 y3 d0 d1 d2 l1 l2
  refine ⟨[], ?_⟩
  rw [R_fn F_kerbstonelaw10_LabCopies rfl]
  simp only [Sc.C, w2E, w3E, w4E, Int.natCast_zero] at *
  have k7' := k7 [bx 18 s.C, bx 18 o.C, bxv 1 18 s.C, none]
  simp only [Sc.C, List.length_cons, List.length_nil, Nat.zero_add, Nat.reduceAdd, ← Nat.add_assoc] at k7' k9c
  generalize labM s b (s.agents.length + s.agents.length) 6 = LM at *
  simp [-callOp, -drop0, -finish, c_kerbstonelaw10_LabCopies, k4s, k4o, k5, k6, k7', k8o, k9o, k8s, k9s, k9c, y1, y2, y3, d0, d1, d2, l1, l2, g0, g2]
  exact fin0 _ (by have := H3.len; omega)
theorem runs_copies : ∀ xs, HasArgs [scS, scS] xs → ∃ M', R L Cs f_kerbstonelaw10_LabCopies xs [] = some (.w (Bo true), M') := by
  intro xs h
  simp only [HasArgs] at h
  obtain ⟨a, _, rfl, h1, b, _, rfl, h2, rfl⟩ := h
  obtain ⟨s, rfl⟩ := sc_sh h1
  obtain ⟨o, rfl⟩ := sc_sh h2
  exact R_law s o
end Go.LcRun
