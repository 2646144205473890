import PyProof.Rows.All
import Wide.All
import OpenK.AllK
import Wide.FinOn
import HandS.ForMost
import HandS.ForExc
import HandS.IsInst
import HandS.DictComp
import HandS.Deep
import HandS.Style
import HandS.Star
import HandS.TupAny
import HandS.Wide
import HandS.StrMore
import HandS.Flow
import PySem.Challenge.RW_primetalks_k08_whole_steps
import HandS.Walk
import KE.KDictKeyed
import KE.KeyNested
import KE.SortData
import KE.KDictSum
import KE.KDictCopyH
import KE.KDictItemsList
import HandS.ListItems
import HandS.TupLen
import KE.OsSortAny
import HandS.Conv
import KE.DataMinMax
import HandS.Small
import KE.GoesEnum
import HandS.WordsDict
import HandS.TryOnly
import HandS.TryMany
import HandS.ExcField
import HandS.ExcInit
import HandS.ExcIs
import HandS.ExcValue
import HandS.Zip
import HandS.Lambda
import PyProof.ReprRoads
import PyProof.StrHeap
import PyProof.StrLawsRepr
import HandS.Defaults
import HandS.EndTab
set_option Elab.async false
set_option linter.all false
set_option maxRecDepth 100000
set_option maxHeartbeats 4000000
namespace K8
open PySem L2
/-! ### the text by places -/
def top (i : Nat) : Stmt := PySem.Challenge.pw_primetalks_k08_whole_steps.main.body.getD i (.Pass ⟨0, 0, 0, 0⟩)
/-! ### heaps: what stands outside of some places -/
def hid (M : List Addr) (H : Hp) : Hp := fun a => if a ∈ M then none else H a
theorem hid_of {M : List Addr} {H : Hp} {a : Addr} {o : HO} (h : hid M H a = some o) : a ∉ M ∧ H a = some o := by
  unfold hid at h
  split at h
  · cases h
  · rename_i n; exact ⟨n, h⟩
theorem hid_get {M : List Addr} {H : Hp} {a : Addr} {o : HO} (n : a ∉ M) (h : H a = some o) : hid M H a = some o := by
  unfold hid; rw [if_neg n]; exact h
theorem hid_same {M : List Addr} {H : Hp} : Same (hid M H) H := fun _ _ h => (hid_of h).2
theorem hid_none {M : List Addr} {H : Hp} {a : Addr} (h : H a = none) : hid M H a = none := by
  unfold hid; split
  · rfl
  · exact h
theorem hid_at {M : List Addr} {H : Hp} {a : Addr} (h : a ∈ M) : hid M H a = none := if_pos h
theorem sHid {M : List Addr} {H H' : Hp} (s : Same H H') : Same (hid M H) (hid M H') := fun _ _ h => hid_get (hid_of h).1 (s _ _ (hid_of h).2)
theorem hid_sub {M N : List Addr} {H : Hp} (h : ∀ a ∈ N, a ∈ M) : Same (hid M H) (hid N H) := fun _ _ q => hid_get (fun z => (hid_of q).1 (h _ z)) (hid_of q).2
theorem hid_in {M : List Addr} {H : Hp} {a : Addr} {o : HO} (h : a ∈ M) : hid M (upd H a o) = hid M H := by
  funext b
  unfold hid
  by_cases hb : b ∈ M
  · rw [if_pos hb, if_pos hb]
  · rw [if_neg hb, if_neg hb, upd_ne]
    intro e; exact hb (e ▸ h)
theorem same_new {H : Hp} {p : Addr} {o : HO} (h : H p = none) : Same H (upd H p o) := fun b u q => by rw [upd_ne (ne_of_none q h)]; exact q
theorem hid_new {M : List Addr} {H : Hp} {p : Addr} {o : HO} (h : H p = none) : Same (hid M H) (hid M (upd H p o)) := sHid (same_new h)
/-- a new place, changed from now on -/
theorem hid_push {M : List Addr} {H : Hp} {p : Addr} {o : HO} (h : H p = none) : Same (hid M H) (hid (p :: M) (upd H p o)) := fun b u q => by
  have nb := ne_of_none (hid_of q).2 h
  refine hid_get (fun z => ?_) (by rw [upd_ne nb]; exact (hid_of q).2)
  rcases List.mem_cons.mp z with e | z
  · exact nb e
  · exact (hid_of q).1 z
theorem hid_tail {M : List Addr} {H : Hp} {p : Addr} : Same (hid (p :: M) H) (hid M H) := hid_sub fun _ h => List.mem_cons_of_mem _ h
theorem hid_more {M N : List Addr} {H H' : Hp} (s : Same (hid N H) (hid N H')) (h : ∀ a ∈ N, a ∈ M) : Same (hid M H) (hid M H') := fun a o q => hid_get (hid_of q).1 (hid_of (s a o (hid_get (fun z => (hid_of q).1 (h a z)) (hid_of q).2))).2
theorem hid_put {M : List Addr} {H : Hp} {p : Addr} {o : HO} : hid (p :: M) (upd H p o) = hid (p :: M) H := hid_in List.mem_cons_self
/-- a place that is in none of the hidden ones stays none of them where it was not there -/
theorem sSeqT {K : PySem.W.Frag} {H H' : Hp} {a : Addr} {xs : List V} (e : Same H H') (h : SqT K H a xs) : SqT K H' a xs := by
  rcases h with (h | ⟨o, h⟩) | h
  · exact .inl (.inl (e _ _ h))
  · exact .inl (.inr ⟨o, e _ _ h⟩)
  · exact .inr h
/-! ### data -/
mutual
theorem sDp {K : PySem.W.Frag} {H H' : Hp} (e : Same H H') : ∀ (d : PyData) (v : V), Dp K H v d → Dp K H' v d
  | .none, _, h => by cases h; exact .non
  | .bool _, _, h => by cases h; exact .bl _
  | .int _, _, h => by cases h; exact .int _
  | .str _, _, h => by cases h; exact .str _
  | .list ds, _, h => by
    cases h with
    | lst h1 h2 => exact .lst (e.seq h1) (sDpAll e ds _ h2)
  | .tuple ds, _, h => by
    cases h with
    | tup h1 h2 => exact .tup (sSeqT e h1) (sDpAll e ds _ h2)
  | .dict _, _, h => by cases h
theorem sDpAll {K : PySem.W.Frag} {H H' : Hp} (e : Same H H') : ∀ (ds : List PyData) (vs : List V), DpAll K H vs ds → DpAll K H' vs ds
  | [], _, h => by cases h; exact .nil
  | d :: ds, _, h => by
    cases h with
    | cons h1 h2 => exact .cons (sDp e d _ h1) (sDpAll e ds _ h2)
end
theorem DpAll.len {K : PySem.W.Frag} {H : Hp} : ∀ {vs : List V} {ds : List PyData}, DpAll K H vs ds → vs.length = ds.length
  | _, _, .nil => rfl
  | _, _, .cons _ t => congrArg Nat.succ (DpAll.len t)
theorem DpAll.get {K : PySem.W.Frag} {H : Hp} : ∀ {vs : List V} {ds : List PyData} {i : Nat} {v : V}, DpAll K H vs ds → vs[i]? = some v → ∃ d, ds[i]? = some d ∧ Dp K H v d
  | _, _, _, _, .nil, h => by simp at h
  | _, _, 0, _, .cons a _, h => by
    simp at h; subst h; exact ⟨_, rfl, a⟩
  | _, _, i + 1, _, .cons _ t, h => DpAll.get (i := i) t (by simpa using h)
theorem DpAll.getD {K : PySem.W.Frag} {H : Hp} : ∀ {vs : List V} {ds : List PyData} {i : Nat} {d : PyData}, DpAll K H vs ds → ds[i]? = some d → ∃ v, vs[i]? = some v ∧ Dp K H v d
  | _, _, _, _, .nil, h => by simp at h
  | _, _, 0, _, .cons a _, h => by
    simp at h; subst h; exact ⟨_, rfl, a⟩
  | _, _, i + 1, _, .cons _ t, h => DpAll.getD (i := i) t (by simpa using h)
theorem DpAll.app {K : PySem.W.Frag} {H : Hp} : ∀ {vs ws : List V} {ds es : List PyData}, DpAll K H vs ds → DpAll K H ws es → DpAll K H (vs ++ ws) (ds ++ es)
  | _, _, _, _, .nil, s => s
  | _, _, _, _, .cons r t, s => .cons r (DpAll.app t s)
theorem DpAll.one {K : PySem.W.Frag} {H : Hp} {v : V} {d : PyData} (h : Dp K H v d) : DpAll K H [v] [d] := .cons h .nil
theorem dp_strs {K : PySem.W.Frag} {H : Hp} : ∀ r : List Str, DpAll K H (r.map V.str) (r.map PyData.str)
  | [] => .nil
  | x :: r => .cons (.str x) (dp_strs r)
theorem dp_strs_inv {K : PySem.W.Frag} {H : Hp} : ∀ {r : List Str} {vs : List V}, DpAll K H vs (r.map PyData.str) → vs = r.map V.str
  | [], _, h => by cases h; rfl
  | x :: r, _, h => by
    cases h with
    | cons a t => cases a; rw [dp_strs_inv t]; rfl
theorem dp_ints {K : PySem.W.Frag} {H : Hp} : ∀ r : List Int, DpAll K H (r.map V.int) (r.map PyData.int)
  | [] => .nil
  | x :: r => .cons (.int x) (dp_ints r)
theorem ne_of_none' {H : Hp} {a b : Addr} {o : HO} (h : H a = some o) (h' : H b = none) : b ≠ a := (ne_of_none h h').symm
/-- the limit of draws -/
abbrev LIM : Nat := 1099511627776
/-! ### the spring of draws: at S, its cells at S0, at most c draws so far -/
structure Stm (S S0 : Addr) (c : Nat) (H : Hp) : Prop where
  ne : S ≠ S0
  ex : ∃ (ns : List Int) (l n m : Int), H S = some (.lst [.ref S0, .int l, .int n, .int m]) ∧ H S0 = some (.lst (ns.map V.int)) ∧ 0 ≤ l ∧ 0 ≤ n ∧ n ≤ c ∧ 0 ≤ m ∧ m < 2147483647 ∧ ns.length ≤ 1000
theorem Stm.mono {S S0 : Addr} {c d : Nat} {H : Hp} (s : Stm S S0 c H) (h : c ≤ d) : Stm S S0 d H := by
  obtain ⟨ne, ns, l, n, m, h1, h2, h3, h4, h5, h6, h7, h8⟩ := s
  exact ⟨ne, ns, l, n, m, h1, h2, h3, h4, by omega, h6, h7, h8⟩
theorem Stm.same {S S0 : Addr} {c : Nat} {H H' : Hp} (s : Stm S S0 c H) (e : Same H H') : Stm S S0 c H' := by
  obtain ⟨ne, ns, l, n, m, h1, h2, h3⟩ := s
  exact ⟨ne, ns, l, n, m, e _ _ h1, e _ _ h2, h3⟩
theorem Stm.S_ne {S S0 p : Addr} {c : Nat} {H : Hp} (s : Stm S S0 c H) (h : H p = none) : p ≠ S ∧ p ≠ S0 := by
  obtain ⟨ne, ns, l, n, m, h1, h2, h3⟩ := s
  exact ⟨ne_of_none' h1 h, ne_of_none' h2 h⟩
theorem Stm.put {S S0 p : Addr} {c : Nat} {H : Hp} {o : HO} (s : Stm S S0 c H) (h : p ≠ S) (h' : p ≠ S0) : Stm S S0 c (upd H p o) := by
  obtain ⟨ne, ns, l, n, m, h1, h2, h3⟩ := s
  exact ⟨ne, ns, l, n, m, by rw [upd_ne h.symm]; exact h1, by rw [upd_ne h'.symm]; exact h2, h3⟩
theorem Stm.new {S S0 p : Addr} {c : Nat} {H : Hp} {o : HO} (s : Stm S S0 c H) (h : H p = none) : Stm S S0 c (upd H p o) := s.same (same_new h)
/-! ### a def as it stands behind the top -/
structure DefD (K : PySem.W.Frag) (mg : Str → Option Value) (x : Str) (st : Stmt) (ps : List Str) where
  f : Addr
  fd : FuncData
  g : mg x = some (.ref f)
  F : Fun K x x st f fd
  b : Binds K fd ps []
/-! ### loops and branches whose end is shown once -/
theorem while_x {c : TT} {tb : TS} {D : Ends} {σ : St} {H : Hp} (W : Nat → St → Hp → Prop) (Z : St → Hp → Prop) (n : Nat) (h0 : W n σ H) (hx : ∀ σ H, Z σ H → D.nx σ H)
    (hs : (∀ σ H, Z σ H → D.nx σ H) → ∀ m σ H, W m σ H → c σ H fun b H1 => if b = true then ∃ N : St → Hp → Prop, (∀ σ' H', N σ' H' → ∃ m', m' < m ∧ W m' σ' H') ∧ tb { D with nx := N, ct := N, bk := D.nx } σ H1 else D.nx σ H1) : tWhile c tb D σ H := ⟨W, ⟨n, h0⟩, hs hx⟩
theorem if_x {c : TT} {t u : TS} {D : Ends} {σ : St} {H : Hp} (Z : St → Hp → Prop) (hx : ∀ σ H, Z σ H → D.nx σ H) (h : (∀ σ H, Z σ H → D.nx σ H) → c σ H fun b H1 => if b = true then t D σ H1 else u D σ H1) : tIfS c t u D σ H := h hx
theorem seq_at {r : Int} {n : Nat} (h0 : 0 ≤ r) (h1 : r < n) : seqIndex? r n = some r.toNat := by
  unfold seqIndex?
  have e : ¬ r < 0 := by omega
  simp only [e, if_false, h0, h1, decide_true, Bool.and_self, if_true]
theorem seq0 (n : Nat) : seqIndex? 0 (n + 1) = some 0 := by
  unfold seqIndex?
  simp
theorem tYesI {σ : St} {H : Hp} {A B : Hp → Prop} (h : A H) : tYes σ H (fun b H3 => if b = true then A H3 else B H3) := by
  show if true = true then A H else B H
  rw [if_pos rfl]
  exact h
theorem small1000000 {n : Nat} (h : n ≤ 1000000) : n < sizeLine := Nat.lt_of_le_of_lt h (by decide)
theorem small1000000' {n : Nat} (h : n ≤ 1000000) : n < sizeLine := small1000000 h
/-! ### shapes of data -/
theorem shaped_flat : ∀ (ds : List PyData), (∀ d ∈ ds, d.canLay0 = true ∧ d.depth = 0) → SeqAt.shaped (.list ds) = true ∧ SeqAt.shaped (.tuple ds) = true := by
  intro ds h
  have h1 : PyData.canLayAll0 ds = true ∧ PyData.depthAll ds = 0 := by
    induction ds with
    | nil => exact ⟨rfl, rfl⟩
    | cons d ds ih =>
      have a := h d List.mem_cons_self
      have b := ih fun e he => h e (List.mem_cons_of_mem _ he)
      simp [PyData.canLayAll0, PyData.depthAll, a.1, a.2, b.1, b.2]
  unfold SeqAt.shaped
  simp [PyData.canLay0, PyData.depth, h1.1, h1.2]
theorem shaped_ints (ns : List Int) : SeqAt.shaped (.list (ns.map .int)) = true := (shaped_flat _ fun d hd => by
  obtain ⟨i, _, rfl⟩ := List.mem_map.mp hd
  exact ⟨rfl, rfl⟩).1
end K8
set_option maxRecDepth 100000
set_option maxHeartbeats 4000000
namespace K8
open PySem L2
abbrev s_is_list : Stmt := top 13
abbrev s_is_name : Stmt := top 14
abbrev s_is_bare_letter : Stmt := top 15
abbrev s_is_letter : Stmt := top 16
abbrev s_is_row : Stmt := top 17
abbrev s_is_one_of : Stmt := top 18
abbrev s_is_rule : Stmt := top 20
abbrev s_as_rule : Stmt := top 21
abbrev s_is_talk : Stmt := top 22
abbrev s_lacking_in : Stmt := top 23
abbrev s_norms_in : Stmt := top 24
abbrev s_checked_talks : Stmt := top 25
abbrev s_checked_book : Stmt := top 27
abbrev s_checked_row : Stmt := top 28
abbrev s_norm_of : Stmt := top 30
abbrev s_steps_in : Stmt := top 32
abbrev s_steps_of : Stmt := top 33
abbrev s_behind : Stmt := top 34
abbrev s_lessening : Stmt := top 35
abbrev s_d_names : Stmt := top 37
abbrev s_d_book : Stmt := top 38
abbrev s_d_parted : Stmt := top 39
abbrev s_d_planted : Stmt := top 40
abbrev s_d_made : Stmt := top 41
abbrev s_d_row : Stmt := top 42
abbrev s_d_norms : Stmt := top 43
abbrev s_d_odd_rows : Stmt := top 44
abbrev s_start : Stmt := top 45
abbrev s_draw : Stmt := top 46
abbrev s_pick : Stmt := top 47
abbrev s_mixed : Stmt := top 48
abbrev s_same : Stmt := top 49
abbrev s_each_once : Stmt := top 50
abbrev s_loose : Stmt := top 51
abbrev s_b_size : Stmt := top 52
abbrev s_b_steps : Stmt := top 53
abbrev s_b_less : Stmt := top 54
abbrev s_b_signed : Stmt := top 55
abbrev s_met : Stmt := top 56
abbrev s_row_right : Stmt := top 57
abbrev s_refused_right : Stmt := top 58
abbrev s_law : Stmt := top 59
def small26 : Str := "abcdefghijklmnopqrstuvwxyz"
def figs10 : Str := "0123456789"
def words16 : List Str := ["talk", "proc", "keeps", "say", "hear", "do", "pick", "nothing", "is", "watch", "hold", "norm", "prime", "row", "alike", "simple"]
/-- what the top has left: built-ins not bound, constants, defs -/
structure Txt (K : PySem.W.Frag) (mg : Str → Option Value) where
  z_isinstance : mg "isinstance" = none
  z_list : mg "list" = none
  z_tuple : mg "tuple" = none
  z_str : mg "str" = none
  z_len : mg "len" = none
  z_all : mg "all" = none
  z_sorted : mg "sorted" = none
  z_dict : mg "dict" = none
  z_sum : mg "sum" = none
  z_enumerate : mg "enumerate" = none
  z_range : mg "range" = none
  z_max : mg "max" = none
  z_min : mg "min" = none
  z_int : mg "int" = none
  z_zip : mg "zip" = none
  z_bool : mg "bool" = none
  z_repr : mg "repr" = none
  z_any : mg "any" = none
  g_SMALL : ∃ t, mg "SMALL" = some (.str small26 t)
  g_FIGURES : ∃ t, mg "FIGURES" = some (.str figs10 t)
  a_WORDS : Addr
  g_WORDS : mg "WORDS" = some (.ref a_WORDS)
  k_WORDS : ∀ H, SqT K H a_WORDS (words16.map V.str)
  is_list : DefD K mg "is_list" s_is_list ["thing"]
  is_name : DefD K mg "is_name" s_is_name ["thing"]
  is_bare_letter : DefD K mg "is_bare_letter" s_is_bare_letter ["thing"]
  is_letter : DefD K mg "is_letter" s_is_letter ["thing"]
  is_row : DefD K mg "is_row" s_is_row ["thing"]
  is_one_of : DefD K mg "is_one_of" s_is_one_of ["known", "thing"]
  is_rule : DefD K mg "is_rule" s_is_rule ["thing"]
  as_rule : DefD K mg "as_rule" s_as_rule ["thing"]
  is_talk : DefD K mg "is_talk" s_is_talk ["thing"]
  lacking_in : DefD K mg "lacking_in" s_lacking_in ["rules"]
  norms_in : DefD K mg "norms_in" s_norms_in ["rules", "known"]
  checked_talks : DefD K mg "checked_talks" s_checked_talks ["talks"]
  checked_book : DefD K mg "checked_book" s_checked_book ["book"]
  checked_row : DefD K mg "checked_row" s_checked_row ["book", "row"]
  norm_of : DefD K mg "norm_of" s_norm_of ["book", "row"]
  steps_in : DefD K mg "steps_in" s_steps_in ["book", "row"]
  steps_of : DefD K mg "steps_of" s_steps_of ["book", "row"]
  behind : DefD K mg "behind" s_behind ["book", "row", "letter"]
  lessening : DefD K mg "lessening" s_lessening ["book", "row"]
  d_names : DefD K mg "_law_d_names" s_d_names ["_law_stream", "_law_many"]
  d_book : DefD K mg "_law_d_book" s_d_book ["_law_stream", "_law_most"]
  d_parted : DefD K mg "_law_d_parted" s_d_parted ["_law_stream", "_law_words", "_law_word"]
  d_planted : DefD K mg "_law_d_planted" s_d_planted ["_law_stream", "_law_most"]
  d_made : DefD K mg "_law_d_made" s_d_made ["_law_stream", "_law_rules"]
  d_row : DefD K mg "_law_d_row" s_d_row ["_law_stream", "_law_rules", "_law_most"]
  d_norms : DefD K mg "_law_d_norms" s_d_norms ["_law_rules"]
  d_odd_rows : DefD K mg "_law_d_odd_rows" s_d_odd_rows ["_law_rules"]
  start : DefD K mg "_law_start" s_start ["_law_script"]
  draw : DefD K mg "_law_draw" s_draw ["_law_stream", "_law_many"]
  pick : DefD K mg "_law_pick" s_pick ["_law_stream", "_law_some"]
  mixed : DefD K mg "_law_mixed" s_mixed ["_law_stream", "_law_some"]
  same : DefD K mg "_law_same" s_same ["_law_found", "_law_due"]
  each_once : DefD K mg "_law_each_once" s_each_once ["_law_things"]
  loose : DefD K mg "_law_loose" s_loose ["_law_stream", "_law_thing"]
  b_size : DefD K mg "_law_b_size" s_b_size ["_law_sizes", "_law_row"]
  b_steps : DefD K mg "_law_b_steps" s_b_steps ["_law_rules", "_law_row"]
  b_less : DefD K mg "_law_b_less" s_b_less ["_law_rules", "_law_sizes", "_law_row"]
  b_signed : DefD K mg "_law_b_signed" s_b_signed ["_law_stream", "_law_rules"]
  met : DefD K mg "_law_met" s_met ["_law_ask"]
  row_right : DefD K mg "_law_row_right" s_row_right ["_law_stream", "_law_rules", "_law_made", "_law_row"]
  refused_right : DefD K mg "_law_refused_right" s_refused_right ["_law_stream", "_law_rules", "_law_made"]
  law : DefD K mg "law" s_law ["_law_script"]
end K8
set_option maxRecDepth 100000
set_option maxHeartbeats 4000000
namespace K8
open PySem L2
abbrev sDraw : Stmt := s_draw
def spDraw : Sp := fun vs H Q _ => ∃ (S S0 : Addr) (c : Nat) (m : Int), vs = [.ref S, .int m] ∧ Stm S S0 c H ∧ c ≤ LIM ∧ 1 ≤ m ∧ m < 1073741824 ∧
  ∀ (r : Int) (H' : Hp), 0 ≤ r → r < m → Stm S S0 (c + 1) H' → Same (hid [S, S0] H) (hid [S, S0] H') → Q (.int r) H'
theorem scDraw : FnScope ["_law_stream", "_law_many", "_law_cell", "_law_digit", "_law_mixed_here"] ["_law_stream", "_law_many"] (defScope sDraw) := ⟨rfl, rfl, rfl, by decide +kernel, rfl, by decide +kernel, by decide +kernel⟩
section
variable {P : Program} {w : World} {K : PySem.W.Frag} {mg : Str → Option Value} {base : Heap}
theorem ok_draw (T : Txt K mg) : FnOk P w K mg base CX0 1 T.draw.f T.draw.fd ["_law_stream", "_law_many"] spDraw := by
  have zint := T.z_int
  refine T.draw.F.ok scDraw (fun vs H Q E h => ?_) (fun cdv A outer s H vs Q E hr h => ?_)
  · obtain ⟨S, S0, c, m, rfl, _⟩ := h
    rfl
  obtain ⟨S, S0, c, m, rfl, st, hc, hm, hm2, k⟩ := h
  have hc : c ≤ 1099511627776 := hc
  refine ⟨_, pss_cons (ps_asg (pe_op op_add (pe_ix ix_list (pv 0) pe_int (fun _ _ => rfl)) pe_int) (pg_sub (pv 0) pe_int set_list))
    (pss_cons (ps_while PassesOwn.never (PW.pt (pw_and (pt_cmpR op_eq (pe_ix ix_list (pv 0) pe_int (fun _ _ => rfl)) pe_int (nomark _)) (pw_and1 (pt_cmpR (op_neD hr.units) (pe_ix ix_list (pv 0) pe_int (fun _ _ => rfl)) (pe_lst pa_nil) (nomark _)))))
      (pss_cons (ps_set (i := 2) scDraw.nd rfl (Or.inl rfl) (pe_bm PySem.F.plainAttrs_list PySem.F.slot_list_pop PySem.F.type_list_pop mt_popAt (pe_ix ix_list (pv 0) pe_int (fun _ _ => rfl)) (pa_cons pe_int pa_nil)))
      (pss_cons (ps_asg (pe_op op_modN (pe_callTy call_int1 (by rfl) zint (by decide +kernel) (pa_cons (pe_op op_add (pe_op op_add (pe_op op_mul (pe_ix ix_list (pv 0) pe_int (fun _ _ => rfl)) pe_int) (pv 2)) pe_int) pa_nil)) pe_int) (pg_sub (pv 0) pe_int set_list))
      (pss_one (ps_asg (pe_ifExp (pt_cmpR op_ge (pv 2) (pe_op op_pow pe_int pe_int) (nomark _)) (pv 2) pe_int) (pg_sub (pv 0) pe_int set_list))))))
    (pss_cons (ps_if (pt_cmpR op_gt (pe_ix ix_list (pv 0) pe_int (fun _ _ => rfl)) pe_int (nomark _))
      (pss_cons (ps_set (i := 3) scDraw.nd rfl (Or.inl rfl) (pe_op op_modN (pe_callTy call_int1 (by rfl) zint (by decide +kernel) (pa_cons (pe_ix ix_list (pv 0) pe_int (fun _ _ => rfl)) pa_nil)) (pv 1)))
      (pss_cons (ps_asg (pe_op op_fdivN (pe_ix ix_list (pv 0) pe_int (fun _ _ => rfl)) (pv 1)) (pg_sub (pv 0) pe_int set_list))
      (pss_one (ps_ret (pv 3))))) pss_nil)
    (pss_cons (ps_set (i := 4) scDraw.nd rfl (Or.inl rfl) (pe_op op_modN (pe_callTy call_int1 (by rfl) zint (by decide +kernel) (pa_cons (pe_op op_pow (pe_op op_add (pe_op op_add (pe_ix ix_list (pv 0) pe_int (fun _ _ => rfl)) (pe_op op_mul pe_int (pe_ix ix_list (pv 0) pe_int (fun _ _ => rfl)))) pe_int) pe_int) pa_nil)) pe_int))
    (pss_one (ps_ret (pe_op op_modN (pe_op op_modN (pe_callTy call_int1 (by rfl) zint (by decide +kernel) (pa_cons (pe_op op_pow (pe_op op_add (pe_op op_add (pe_op op_mul (pv 4) pe_int) (pe_op op_mul pe_int (pe_ix ix_list (pv 0) pe_int (fun _ _ => rfl)))) pe_int) pe_int) pa_nil)) pe_int) (pv 1))))))), ?_⟩
  obtain ⟨ne, ns, l, n, x, h1, h2, hl, hn, hnc, hx, hx2, hlen⟩ := st
  have nS : S ∈ [S, S0] := List.mem_cons_self
  have nS0 : S0 ∈ [S, S0] := List.mem_cons_of_mem _ List.mem_cons_self
  -- stream[2] = stream[2] + 1
  refine ⟨_, rfl, S, _, _, _, rfl, rfl, SqL.of h1, rfl, _, _, rfl, rfl, _, rfl, S, _, _, 2, rfl, rfl, h1, rfl, ?_⟩
  have hmod : ∀ z : Int, 0 ≤ z.fmod m ∧ z.fmod m < m := fun z => by
    rw [Int.fmod_eq_emod_of_nonneg z (by omega)]
    exact ⟨Int.emod_nonneg _ (by omega), Int.emod_lt_of_pos _ (by omega)⟩
  have hmm : ∀ z k : Int, 0 < k → 0 ≤ z.fmod k ∧ z.fmod k < k := fun z k hk => by
    rw [Int.fmod_eq_emod_of_nonneg z (by omega)]
    exact ⟨Int.emod_nonneg _ (by omega), Int.emod_lt_of_pos _ hk⟩
  -- while
  refine while_x (fun q σ H' => ∃ (ns : List Int) (l x : Int) (v : Option V), q = ns.length ∧ σ = [some (.ref S), some (.int m), v, none, none] ∧ H' S = some (.lst [.ref S0, .int l, .int (n + 1), .int x]) ∧ H' S0 = some (.lst (ns.map V.int)) ∧ 0 ≤ l ∧ 0 ≤ x ∧ x < 2147483647 ∧ ns.length ≤ 1000 ∧ Same (hid [S, S0] H) (hid [S, S0] H'))
    (fun σ H' => ∃ (ns : List Int) (l x : Int) (v : Option V), σ = [some (.ref S), some (.int m), v, none, none] ∧ H' S = some (.lst [.ref S0, .int l, .int (n + 1), .int x]) ∧ H' S0 = some (.lst (ns.map V.int)) ∧ 0 ≤ l ∧ 0 ≤ x ∧ x < 2147483647 ∧ ns.length ≤ 1000 ∧ Same (hid [S, S0] H) (hid [S, S0] H'))
    _ ⟨ns, l, x, none, rfl, rfl, upd_same, (by rw [upd_ne ne.symm]; exact h2), hl, hx, hx2, hlen, (by rw [hid_in nS]; exact Same.refl _)⟩ ?_ ?_
  · -- behind the while
    rintro σ H2 ⟨ns, l, x, v, rfl, h1, h2, hl, hx, hx2, hlen, sm⟩
    refine ⟨_, rfl, S, _, _, _, rfl, rfl, SqL.of h1, rfl, _, _, rfl, rfl, _, rfl, ?_⟩
    refine ite2 (fun c1 => ?_) (fun c1 => ?_)
    · refine ⟨_, rfl, S, _, _, _, rfl, rfl, SqL.of h1, rfl, .inl ⟨_, rfl, _, rfl, _, _, rfl, rfl, (by omega), ?_⟩⟩
      have hl' : 0 ≤ l.fdiv m := by
        rw [Int.fdiv_eq_ediv_of_nonneg _ (by omega)]
        exact Int.ediv_nonneg hl (by omega)
      refine ⟨_, rfl, S, _, _, _, rfl, rfl, SqL.of h1, rfl, _, rfl, _, _, rfl, rfl, ⟨by omega, by omega⟩, _, rfl, S, _, _, 1, rfl, rfl, h1, rfl, ?_⟩
      refine ⟨_, rfl, k _ _ (hmod l).1 (hmod l).2 ⟨ne, ns, l.fdiv m, n + 1, x, upd_same, (by rw [upd_ne ne.symm]; exact h2), hl', by omega, by omega, hx, hx2, hlen⟩ (by rw [hid_in nS]; exact sm)⟩
    · have b1 : (x + 7919 * (n + 1) + 104729).natAbs < 2 ^ 64 := by omega
      refine ⟨_, rfl, S, _, _, _, rfl, rfl, SqL.of h1, rfl, _, rfl, S, _, _, _, rfl, rfl, SqL.of h1, rfl, _, _, rfl, rfl, .inl ⟨by decide, by decide⟩, _, _, rfl, rfl, _, _, rfl, rfl, _, _, rfl, rfl, ⟨by decide, by decide, b1⟩, .inl ⟨_, rfl, _, _, rfl, rfl, (by show (2147483629 : Int) ≠ 0; decide), ?_⟩⟩
      obtain ⟨a1, a2⟩ := hmm ((x + 7919 * (n + 1) + 104729) ^ (5 : Int).toNat) 2147483629 (by decide)
      have b2 : (((x + 7919 * (n + 1) + 104729) ^ (5 : Int).toNat).fmod 2147483629 * 48271 + 30011 * (n + 1) + 29).natAbs < 2 ^ 64 := by omega
      refine ⟨_, rfl, _, _, rfl, rfl, .inl ⟨(by show -(2 ^ 64) < ((x + 7919 * (n + 1) + 104729) ^ (5 : Int).toNat).fmod 2147483629; omega), (by show ((x + 7919 * (n + 1) + 104729) ^ (5 : Int).toNat).fmod 2147483629 < 2 ^ 64; omega)⟩, _, rfl, S, _, _, _, rfl, rfl, SqL.of h1, rfl, _, _, rfl, rfl, .inl ⟨by decide, by decide⟩, _, _, rfl, rfl, _, _, rfl, rfl, _, _, rfl, rfl, ⟨by decide, by decide, b2⟩, .inl ⟨_, rfl, _, _, rfl, rfl, (by show (1000000007 : Int) ≠ 0; decide), _, rfl, _, _, rfl, rfl, (by show m ≠ 0; omega), ?_⟩⟩
      exact k _ _ (hmod _).1 (hmod _).2 ⟨ne, ns, l, n + 1, x, h1, h2, hl, by omega, by omega, hx, hx2, hlen⟩ sm
  · rintro ex q σ H1 ⟨ns, l, x, v, rfl, rfl, h1, h2, hl, hx, hx2, hlen, sm⟩
    refine ⟨_, rfl, S, _, _, _, rfl, rfl, SqL.of h1, rfl, rfl, _, rfl, ?_⟩
    refine ite2 (fun c1 => ?_) (fun c1 => ?_)
    · refine ⟨_, rfl, S, _, _, _, rfl, rfl, SqL.of h1, rfl, (by show 0 ≤ sizeLine; decide), fun p hp => ?_⟩
      have hn' := same_new (o := .lst []) hp
      have d1 : Dp K (upd H1 p (.lst [])) (.ref S0) (.list (ns.map .int)) := .lst (SqL.of (hn' _ _ h2)) (dp_ints ns)
      have d2 : Dp K (upd H1 p (.lst [])) (.ref p) (.list []) := .lst (SqL.of upd_same) .nil
      have sm2 : Same (hid [S, S0] H) (hid [S, S0] (upd H1 p (.lst []))) := fun b o e => hid_new hp _ _ (sm _ _ e)
      refine ⟨_, _, d1, d2, shaped_ints ns, rfl, _, rfl, ?_⟩
      cases ns with
      | nil =>
        refine iteF ?_
        exact ex _ _ ⟨[], l, x, v, rfl, hn' _ _ h1, hn' _ _ h2, hl, hx, hx2, hlen, sm2⟩
      | cons z zs =>
        refine iteT ⟨_, fun _ _ z => z, ?_⟩
        have h1' := hn' _ _ h1
        have h2' := hn' _ _ h2
        generalize upd H1 p (.lst []) = H1 at h1' h2' sm2 ⊢
        refine ⟨_, rfl, S, _, _, _, rfl, rfl, SqL.of h1', rfl, .inl ⟨rfl, _, SqL.of h2'⟩, S0, _, _, 0, _, rfl, rfl, h2', by decide, by decide, seq0 _, rfl, ?_⟩
        have g0 : hid [S, S0] (upd H1 S0 (.lst ((List.map V.int (z :: zs)).eraseIdx 0))) = hid [S, S0] H1 := hid_in nS0
        have g1 : upd H1 S0 (.lst ((List.map V.int (z :: zs)).eraseIdx 0)) S = some (.lst [.ref S0, .int l, .int (n + 1), .int x]) := by rw [upd_ne ne]; exact h1'
        have g2 : upd H1 S0 (.lst ((List.map V.int (z :: zs)).eraseIdx 0)) S0 = some (.lst (zs.map V.int)) := upd_same
        generalize upd H1 S0 (.lst ((List.map V.int (z :: zs)).eraseIdx 0)) = H2 at g0 g1 g2 ⊢
        have hl0 : l = 0 := by
          have q := of_decide_eq_true c1
          injection q
        obtain ⟨a1, a2⟩ := hmm (x * 8191 + z + 3) 2147483647 (by decide)
        refine ⟨_, rfl, S, _, _, _, rfl, rfl, SqL.of g1, rfl, _, _, rfl, rfl, .inl ⟨by omega, by omega⟩, _, rfl, _, _, rfl, rfl, _, _, rfl, rfl, .inl ⟨_, rfl, _, _, rfl, rfl, (by show (2147483647 : Int) ≠ 0; decide), _, rfl, S, _, _, 3, rfl, rfl, g1, rfl, ?_⟩⟩
        refine ⟨_, rfl, _, _, rfl, rfl, ⟨by decide, by decide, by decide⟩, _, _, rfl, rfl, _, rfl, ?_⟩
        have e2 : ∀ o, upd (upd H2 S (.lst [.ref S0, .int l, .int (n + 1), .int ((x * 8191 + z + 3).fmod 2147483647)])) S o S0 = some (.lst (zs.map V.int)) := fun o => by rw [upd_ne ne.symm, upd_ne ne.symm]; exact g2
        have e3 : ∀ o, Same (hid [S, S0] H) (hid [S, S0] (upd (upd H2 S (.lst [.ref S0, .int l, .int (n + 1), .int ((x * 8191 + z + 3).fmod 2147483647)])) S o)) := fun o => by rw [hid_in nS, hid_in nS, g0]; exact sm2
        have hzs : zs.length < (z :: zs).length := Nat.lt_succ_self _
        refine ite2 (fun c2 => ?_) (fun c2 => ?_)
        · have c2' : z ≥ (10 : Int) ^ (18 : Int).toNat := of_decide_eq_true c2
          have hz : 0 ≤ z := by
            have q : (0 : Int) ≤ (10 : Int) ^ (18 : Int).toNat := by decide
            omega
          exact ⟨_, rfl, _, rfl, S, _, _, 1, rfl, rfl, upd_same, rfl, zs.length, hzs, zs, z, _, _, rfl, rfl, upd_same, e2 _, hz, a1, a2, by have := hzs; omega, e3 _⟩
        · exact ⟨_, rfl, S, _, _, 1, rfl, rfl, upd_same, rfl, zs.length, hzs, zs, 0, _, _, rfl, rfl, upd_same, e2 _, Int.le_refl 0, a1, a2, by have := hzs; omega, e3 _⟩
    · exact iteF (ex _ _ ⟨ns, l, x, v, rfl, h1, h2, hl, hx, hx2, hlen, sm⟩)
end
end K8
set_option maxRecDepth 100000
set_option maxHeartbeats 4000000
namespace K8
open PySem L2 PyProof.Rows
/-! ### rules whose readings name K alone -/
section
variable {X : Cx} (K : PySem.W.Frag)
theorem ixL (h : X.K = K := by rfl) : IxR X (rIxL K) := by subst h; exact ix_list
theorem ixT (h : X.K = K := by rfl) : IxR X (rIxT K) := by subst h; exact ix_tup
theorem ixQ (h : X.K = K := by rfl) : IxR X (rIx K) := by subst h; exact ix_seq
theorem slL (h : X.K = K := by rfl) : SlR X (rSlL K) := by subst h; exact sl_list
theorem slA (h : X.K = K := by rfl) : SlR X (rSlA K) := by subst h; exact sl_tupA
theorem oEqD (hu : X.A.units + 64 < cLine) (h : X.K = K := by rfl) : OpR X (compareOp .Eq) (rEqD K) := by subst h; exact op_eqD hu
theorem oNeD (hu : X.A.units + 64 < cLine) (h : X.K = K := by rfl) : OpR X (compareOp .NotEq) (rNeD K) := by subst h; exact op_neD hu
theorem oIn (h : X.K = K := by rfl) : OpR X (compareOp .In) (rIn K false) := by subst h; exact op_in_seq
theorem oNotIn (h : X.K = K := by rfl) : OpR X (compareOp .NotIn) (rIn K true) := by subst h; exact op_notIn_seq
theorem oNotInD (hu : X.A.units + 65 < cLine) (h : X.K = K := by rfl) : OpR X (compareOp .NotIn) (rNotInD K) := by subst h; exact op_notInD hu
theorem oCatA (h : X.K = K := by rfl) : OpR X (binaryOp .Add) (rCatA K) := by subst h; exact op_catA
variable {x o e l i tg : Expr} {es ks : List Expr} {te to tl : TE} {t : TA} {pos p apos cpos tpos : Pos} {name : Str} {T id : String} {r : V → List V → Hp → VK → Prop}
theorem eBm (pa : PlainAttrs T) (slot : Slot T name id) (hty : typeOf (.builtin id) = pure (.type "method_descriptor")) (hm : MtR X id r) (ho : PE X o to) (ha : PA X (e :: es) t) (h : X.K = K := by rfl)
    (hbase : attributeBase o name X.env (eval o X.env) = eval o X.env := by rfl)
    (hfew : ((backTo cpos (starEach (e :: es) X.env)).all (fun x => !x.1) && (backToKw cpos (keywordEach [] X.env)).all (fun x => x.1.isSome)
      && decide ((e :: es).length + ([] : List Keyword).length + (if ([] : List Keyword).isEmpty then 0 else 1) < 30)) = true := by rfl)
    (hline : (apos.endLine == cpos.line) = true := by rfl) (hs : starEach (e :: es) X.env = (false, eval e X.env) :: starEach es X.env := by rfl) (hplain : (backTo cpos (starEach es X.env)).any (·.1) = false := by rfl) :
    PE X (.Call (.Attribute o name apos) (e :: es) [] cpos) (tBM K T r to t) := by subst h; exact pe_bm pa slot hty hm ho ha hbase hfew hline hs hplain
theorem eBm0 (pa : PlainAttrs T) (slot : Slot T name id) (hty : typeOf (.builtin id) = pure (.type "method_descriptor")) (hm : MtR X id r) (ho : PE X o to) (h : X.K = K := by rfl)
    (hbase : attributeBase o name X.env (eval o X.env) = eval o X.env := by rfl) (hline : (apos.endLine == cpos.line) = true := by rfl) : PE X (.Call (.Attribute o name apos) [] [] cpos) (tBM0 K T r to) := by subst h; exact pe_bm0 pa slot hty hm ho hbase hline
/-- l.append(e) -/
theorem eAppend (ho : PE X o to) (he : PE X e te) (h : X.K = K := by rfl)
    (hbase : attributeBase o "append" X.env (eval o X.env) = eval o X.env := by rfl)
    (hfew : ((backTo cpos (starEach [e] X.env)).all (fun x => !x.1) && (backToKw cpos (keywordEach [] X.env)).all (fun x => x.1.isSome)
      && decide (([e] : List Expr).length + ([] : List Keyword).length + (if ([] : List Keyword).isEmpty then 0 else 1) < 30)) = true := by rfl)
    (hline : (apos.endLine == cpos.line) = true := by rfl) (hs : starEach [e] X.env = (false, eval e X.env) :: starEach [] X.env := by rfl) (hplain : (backTo cpos (starEach [] X.env)).any (·.1) = false := by rfl) :
    PE X (.Call (.Attribute o "append" apos) [e] [] cpos) (tBM K "list" rAppend to (tCons te tNil)) := eBm K PySem.F.plainAttrs_list PySem.F.slot_list_append PySem.F.type_list_append mt_append ho (pa_cons he pa_nil hs) h hbase hfew hline hs hplain
theorem eExtend (ho : PE X o to) (he : PE X e te) (h : X.K = K := by rfl)
    (hbase : attributeBase o "extend" X.env (eval o X.env) = eval o X.env := by rfl)
    (hfew : ((backTo cpos (starEach [e] X.env)).all (fun x => !x.1) && (backToKw cpos (keywordEach [] X.env)).all (fun x => x.1.isSome)
      && decide (([e] : List Expr).length + ([] : List Keyword).length + (if ([] : List Keyword).isEmpty then 0 else 1) < 30)) = true := by rfl)
    (hline : (apos.endLine == cpos.line) = true := by rfl) (hs : starEach [e] X.env = (false, eval e X.env) :: starEach [] X.env := by rfl) (hplain : (backTo cpos (starEach [] X.env)).any (·.1) = false := by rfl) :
    PE X (.Call (.Attribute o "extend" apos) [e] [] cpos) (tBM K "list" rExtend to (tCons te tNil)) := eBm K PySem.F.plainAttrs_list PySem.F.slot_list_extend PySem.F.type_list_extend mt_extend ho (pa_cons he pa_nil hs) h hbase hfew hline hs hplain
theorem ePopAt (ho : PE X o to) (he : PE X e te) (h : X.K = K := by rfl)
    (hbase : attributeBase o "pop" X.env (eval o X.env) = eval o X.env := by rfl)
    (hfew : ((backTo cpos (starEach [e] X.env)).all (fun x => !x.1) && (backToKw cpos (keywordEach [] X.env)).all (fun x => x.1.isSome)
      && decide (([e] : List Expr).length + ([] : List Keyword).length + (if ([] : List Keyword).isEmpty then 0 else 1) < 30)) = true := by rfl)
    (hline : (apos.endLine == cpos.line) = true := by rfl) (hs : starEach [e] X.env = (false, eval e X.env) :: starEach [] X.env := by rfl) (hplain : (backTo cpos (starEach [] X.env)).any (·.1) = false := by rfl) :
    PE X (.Call (.Attribute o "pop" apos) [e] [] cpos) (tBM K "list" rPopAt to (tCons te tNil)) := eBm K PySem.F.plainAttrs_list PySem.F.slot_list_pop PySem.F.type_list_pop mt_popAt ho (pa_cons he pa_nil hs) h hbase hfew hline hs hplain
theorem eFld {f : Str} (he : PE X e te) (h : X.K = K := by rfl) (hb : attributeBase e f X.env (eval e X.env) = eval e X.env := by rfl) : PE X (.Attribute e f pos) (tFld K te f) := by subst h; exact pe_fld he hb
theorem iL (hl : PE X l tl) (h : X.K = K := by rfl) : PI X tg l (iList K tl) := by subst h; exact pi_list hl
theorem iT (hl : PE X l tl) (h : X.K = K := by rfl) : PI X tg l (iTup K tl) := by subst h; exact pi_tup hl
theorem gTu {n kk : Nat} {t : TGs} (hc : X.calm = true) (h : PGs X ks t) (hK : X.K = K := by rfl) (hn : (assignEach ks X.env).length = n := by rfl) (hst : (assignEach ks X.env).findIdx? (·.1) = none := by rfl) : PG X (.Tuple ks kk pos) (gTup K n t) := by subst hK; exact pg_tup hc h hn hst
/-! ### built-in calls, one argument -/
def rLenS (K : PySem.W.Frag) : List V → Hp → VK → Prop := fun xs H Q => ∃ p ys, xs = [.ref p] ∧ (SqL K H p ys ∨ SqT K H p ys) ∧ Q (.int ys.length) H
def rListS (K : PySem.W.Frag) : List V → Hp → VK → Prop := fun xs H Q => ∃ p ys, xs = [.ref p] ∧ (SqL K H p ys ∨ SqT K H p ys) ∧ ∀ l, H l = none → Q (.ref l) (upd H l (.lst ys))
def rTupS (K : PySem.W.Frag) : List V → Hp → VK → Prop := fun xs H Q => ∃ p ys, xs = [.ref p] ∧ ((SqL K H p ys ∧ ∀ l, H l = none → Q (.ref l) (upd H l (.tup ys))) ∨ (SqT K H p ys ∧ Q (.ref p) H))
def rLenD : List V → Hp → VK → Prop := fun xs H Q => ∃ a kvs, xs = [V.ref a] ∧ H a = some (.dK kvs) ∧ Q (.int kvs.length) H
section
variable (ha : PE X e te) (he : starEach [e] X.env = (false, eval e X.env) :: starEach [] X.env) (hpl : (backTo pos (starEach [] X.env)).any (·.1) = false)
end
theorem eLen (hm : X.mg "len" = none) (ha : PE X e te) (h : X.K = K := by rfl) (hg : Gl X "len" := by rfl) (he : starEach [e] X.env = (false, eval e X.env) :: starEach [] X.env := by rfl) (hpl : (backTo pos (starEach [] X.env)).any (·.1) = false := by rfl) :
    PE X (.Call (.Name "len" p) [e] [] pos) (tCB (rLenS K) (tCons te tNil)) := by subst h; exact pe_callB call_len_seq hg hm PySem.boot_len (pa_cons ha pa_nil he) (by decide) (by decide) he hpl
theorem eLenStr (hm : X.mg "len" = none) (ha : PE X e te) (hg : Gl X "len" := by rfl) (he : starEach [e] X.env = (false, eval e X.env) :: starEach [] X.env := by rfl) (hpl : (backTo pos (starEach [] X.env)).any (·.1) = false := by rfl) :
    PE X (.Call (.Name "len" p) [e] [] pos) (tCB (fun xs H Q => ∃ z, xs = [.str z] ∧ z.length ≤ sizeLine ∧ Q (.int z.length) H) (tCons te tNil)) := pe_callB call_len_str hg hm PySem.boot_len (pa_cons ha pa_nil he) (by decide) (by decide) he hpl
theorem eLenD (hm : X.mg "len" = none) (ha : PE X e te) (hg : Gl X "len" := by rfl) (he : starEach [e] X.env = (false, eval e X.env) :: starEach [] X.env := by rfl) (hpl : (backTo pos (starEach [] X.env)).any (·.1) = false := by rfl) :
    PE X (.Call (.Name "len" p) [e] [] pos) (tCB rLenD (tCons te tNil)) := pe_callB call_lenD hg hm PySem.boot_len (pa_cons ha pa_nil he) (by decide) (by decide) he hpl
theorem eListS (hm : X.mg "list" = none) (ha : PE X e te) (h : X.K = K := by rfl) (hg : Gl X "list" := by rfl) (he : starEach [e] X.env = (false, eval e X.env) :: starEach [] X.env := by rfl) (hpl : (backTo pos (starEach [] X.env)).any (·.1) = false := by rfl) :
    PE X (.Call (.Name "list" p) [e] [] pos) (tCB (rListS K) (tCons te tNil)) := by subst h; exact pe_callTy call_list_of hg hm PyProof.Rows.boot_list (pa_cons ha pa_nil he) (by decide) (by decide) he hpl
theorem eTupS (hm : X.mg "tuple" = none) (ha : PE X e te) (h : X.K = K := by rfl) (hg : Gl X "tuple" := by rfl) (he : starEach [e] X.env = (false, eval e X.env) :: starEach [] X.env := by rfl) (hpl : (backTo pos (starEach [] X.env)).any (·.1) = false := by rfl) :
    PE X (.Call (.Name "tuple" p) [e] [] pos) (tCB (rTupS K) (tCons te tNil)) := by subst h; exact pe_callTy call_tuple_of hg hm PyProof.Rows.boot_tuple (pa_cons ha pa_nil he) (by decide) (by decide) he hpl
theorem eSum (hc : X.calm = true) (hm : X.mg "sum" = none) (ha : PE X e te) (h : X.K = K := by rfl) (hg : Gl X "sum" := by rfl) (he : starEach [e] X.env = (false, eval e X.env) :: starEach [] X.env := by rfl) (hpl : (backTo pos (starEach [] X.env)).any (·.1) = false := by rfl) :
    PE X (.Call (.Name "sum" p) [e] [] pos) (tCB (rSum K) (tCons te tNil)) := by subst h; exact pe_callB (cr_sum hc) hg hm PyProof.Rows.boot_sum (pa_cons ha pa_nil he) (by decide) (by decide) he hpl
theorem eAll (hc : X.calm = true) (hm : X.mg "all" = none) (ha : PE X e te) (h : X.K = K := by rfl) (hg : Gl X "all" := by rfl) (he : starEach [e] X.env = (false, eval e X.env) :: starEach [] X.env := by rfl) (hpl : (backTo pos (starEach [] X.env)).any (·.1) = false := by rfl) :
    PE X (.Call (.Name "all" p) [e] [] pos) (tCB (rAll K) (tCons te tNil)) := by subst h; exact pe_callB (cr_all hc) hg hm PyProof.Rows.boot_all (pa_cons ha pa_nil he) (by decide) (by decide) he hpl
theorem eAny (hc : X.calm = true) (hm : X.mg "any" = none) (ha : PE X e te) (h : X.K = K := by rfl) (hg : Gl X "any" := by rfl) (he : starEach [e] X.env = (false, eval e X.env) :: starEach [] X.env := by rfl) (hpl : (backTo pos (starEach [] X.env)).any (·.1) = false := by rfl) :
    PE X (.Call (.Name "any" p) [e] [] pos) (tCB (rAny K) (tCons te tNil)) := by subst h; exact pe_callB (cr_any hc) hg hm PyProof.Rows.boot_any (pa_cons ha pa_nil he) (by decide) (by decide) he hpl
theorem eMax (hc : X.calm = true) (hm : X.mg "max" = none) (ha : PE X e te) (h : X.K = K := by rfl) (hg : Gl X "max" := by rfl) (he : starEach [e] X.env = (false, eval e X.env) :: starEach [] X.env := by rfl) (hpl : (backTo pos (starEach [] X.env)).any (·.1) = false := by rfl) :
    PE X (.Call (.Name "max" p) [e] [] pos) (tCB (rMax K) (tCons te tNil)) := by subst h; exact pe_callB (cr_max hc) hg hm PyProof.Rows.boot_max (pa_cons ha pa_nil he) (by decide) (by decide) he hpl
theorem eMin (hc : X.calm = true) (hm : X.mg "min" = none) (ha : PE X e te) (h : X.K = K := by rfl) (hg : Gl X "min" := by rfl) (he : starEach [e] X.env = (false, eval e X.env) :: starEach [] X.env := by rfl) (hpl : (backTo pos (starEach [] X.env)).any (·.1) = false := by rfl) :
    PE X (.Call (.Name "min" p) [e] [] pos) (tCB (rMin K) (tCons te tNil)) := by subst h; exact pe_callB (cr_min hc) hg hm PyProof.Rows.boot_min (pa_cons ha pa_nil he) (by decide) (by decide) he hpl
/-! ### a def of the text, called -/
variable {K}
theorem eC {mg : Str → Option Value} {st : Stmt} {fx : Str} {ps : List Str} {k : Nat} {sp : Sp} {P : Program} {w : World} {base : Heap} (D : DefD K mg fx st ps) (G : FnOk P w K mg base CX0 k D.f D.fd ps sp) (hr : Room k X.A) (ha : PA X (e :: es) t)
    (h1 : X.prog = P := by rfl) (h2 : X.w = w := by rfl) (h3 : X.K = K := by rfl) (h4 : X.mg = mg := by rfl) (h5 : X.base = base := by rfl)
    (hg : Gl X fx := by rfl) (hdb : (fx == ("__debug__" : Str)) = false := by decide) (he : starEach (e :: es) X.env = (false, eval e X.env) :: starEach es X.env := by rfl) (hpl : (backTo pos (starEach es X.env)).any (·.1) = false := by rfl) :
    PE X (.Call (.Name fx p) (e :: es) [] pos) (tCall sp [] E0 t) := by
  subst h1 h2 h3 h4 h5
  exact pe_call G hr hg D.g D.F.kp D.b .nil pass0 ha hdb he hpl
end
end K8
set_option maxRecDepth 100000
set_option maxHeartbeats 4000000
namespace K8
open PySem L2
theorem hidz_ne {S S0 a : Addr} {H : Hp} {o : HO} (h : hid [S, S0] H a = some o) : a ≠ S ∧ a ≠ S0 := by
  have q := (hid_of h).1
  simp only [List.mem_cons, List.not_mem_nil, or_false, not_or] at q
  exact q
theorem sqL_some {K : PySem.W.Frag} {M : List Addr} {H : Hp} {a : Addr} {xs : List V} (h : SqL K (hid M H) a xs) : SqL K H a xs := hid_same.seq h
theorem perm_eraseIdx {α : Type} : ∀ {l : List α} {i : Nat} (h : i < l.length), List.Perm ([l[i]] ++ l.eraseIdx i) l
  | [], i, h => by simp at h
  | x :: l, 0, h => by simp
  | x :: l, i + 1, h => by
    have ih := perm_eraseIdx (l := l) (i := i) (by simpa using h)
    simp only [List.getElem_cons_succ, List.eraseIdx_cons_succ, List.singleton_append] at ih ⊢
    exact (List.Perm.swap _ _ _).trans (List.Perm.cons _ ih)
/-! ### pick -/
def spPick (K : PySem.W.Frag) : Sp := fun vs H Q _ => ∃ (S S0 : Addr) (c : Nat) (a : Addr) (xs : List V), vs = [.ref S, .ref a] ∧ Stm S S0 c H ∧ c ≤ LIM ∧ SqL K (hid [S, S0] H) a xs ∧ 0 < xs.length ∧ xs.length < 1073741824 ∧
  ∀ (v : V) (H' : Hp), v ∈ xs → Stm S S0 (c + 1) H' → Same (hid [S, S0] H) (hid [S, S0] H') → Q v H'
theorem sc_pick : FnScope ["_law_stream", "_law_some"] ["_law_stream", "_law_some"] (defScope s_pick) := ⟨rfl, rfl, rfl, by decide +kernel, rfl, by decide +kernel, by decide +kernel⟩
section
variable {P : Program} {w : World} {K : PySem.W.Frag} {mg : Str → Option Value} {base : Heap}
theorem ok_pick (T : Txt K mg) : FnOk P w K mg base CX0 2 T.pick.f T.pick.fd ["_law_stream", "_law_some"] (spPick K) := by
  have G : FnOk P w K mg base CX0 1 T.draw.f T.draw.fd _ spDraw := ok_draw T
  refine T.pick.F.ok sc_pick (fun vs H Q E h => ?_) (fun cdv A outer s H vs Q E hr h => ?_)
  · obtain ⟨S, S0, c, a, xs, rfl, _⟩ := h
    rfl
  obtain ⟨S, S0, c, a, xs, rfl, st, hc, hx, h0, hl, k⟩ := h
  refine ⟨_, pss_one (ps_ret (pe_ix (ixL K) (pv 1) (eC T.draw G hr (pa_cons (pv 0) (pa_cons (eLen K T.z_len (pv 1)) pa_nil))) (fun _ _ => rfl))), ?_⟩
  refine ⟨_, rfl, _, rfl, _, rfl, a, xs, rfl, .inl (sqL_some hx), S, S0, c, _, rfl, st, hc, by omega, by omega, fun r H' r0 r1 st' sm => ?_⟩
  have hr2 : r.toNat < xs.length := by omega
  have e : atI xs r = some xs[r.toNat] := by
    have q := atI_nat (List.getElem?_eq_getElem hr2)
    rwa [show ((r.toNat : Nat) : Int) = r by omega] at q
  exact ⟨a, xs, r, _, rfl, rfl, sqL_some (sm.seq hx), e, k _ _ (List.getElem_mem _) st' sm⟩
end
/-! ### mixed -/
def spMixed (K : PySem.W.Frag) : Sp := fun vs H Q _ => ∃ (S S0 : Addr) (c : Nat) (a : Addr) (xs : List V), vs = [.ref S, .ref a] ∧ Stm S S0 c H ∧ c + xs.length ≤ LIM ∧ SqL K (hid [S, S0] H) a xs ∧ xs.length ≤ 1000000 ∧
  ∀ (p : Addr) (ys : List V) (H' : Hp), ys.Perm xs → H p = none → H' p = some (.lst ys) → Stm S S0 (c + xs.length) H' → Same (hid [S, S0] H) (hid [S, S0] H') → Q (.ref p) H'
theorem sc_mixed : FnScope ["_law_stream", "_law_some", "_law_left", "_law_k"] ["_law_stream", "_law_some"] (defScope s_mixed) := ⟨rfl, rfl, rfl, by decide +kernel, rfl, by decide +kernel, by decide +kernel⟩
section
variable {P : Program} {w : World} {K : PySem.W.Frag} {mg : Str → Option Value} {base : Heap}
theorem ok_mixed (T : Txt K mg) : FnOk P w K mg base CX0 2 T.mixed.f T.mixed.fd ["_law_stream", "_law_some"] (spMixed K) := by
  have G : FnOk P w K mg base CX0 1 T.draw.f T.draw.fd _ spDraw := ok_draw T
  refine T.mixed.F.ok sc_mixed (fun vs H Q E h => ?_) (fun cdv A outer s H vs Q E hr h => ?_)
  · obtain ⟨S, S0, c, a, xs, rfl, _⟩ := h
    rfl
  obtain ⟨S, S0, c, a, xs, rfl, st, hc, hx, hl, k⟩ := h
  refine ⟨_, pss_cons (ps_set (i := 2) sc_mixed.nd rfl (Or.inr rfl) (eListS K T.z_list (pv 1)))
    (pss_one (ps_ret (pe_lc (own := [("_law_k", 3)]) (g := gName 3) (tt := tYes) rfl sc_mixed.nd (pi_range1 rfl T.z_range (pa_cons (eLen K T.z_len (pv 2)) pa_nil)) (blkOk_by (N := ["_law_stream", "_law_some", "_law_left", "_law_k"]) (sc := defScope s_mixed) (by decide +kernel))
      (fun _ _ _ _ _ => pg_name (i := 3) sc_mixed.nd rfl (Or.inl rfl)) (fun _ _ _ _ _ => pts_nil)
      (fun _ _ _ _ _ => ePopAt K (pv 2) (eC T.draw G hr (pa_cons (pv 0) (pa_cons (eLen K T.z_len (pv 2)) pa_nil))))))), ?_⟩
  have hx' := sqL_some hx
  refine ⟨_, rfl, a, xs, rfl, .inl hx', fun l nl => ?_⟩
  have sl := st.S_ne nl
  have e0 : (upd H l (.lst xs)) l = some (.lst xs) := upd_same
  refine ⟨_, rfl, l, xs, rfl, .inl (SqL.of e0), _, rfl, by omega, by omega, fun D nD => ?_⟩
  have nDl : D ≠ l := ne_of_none' e0 nD
  have sD := (st.new nl).S_ne nD
  refine lc_range (lo := 0) (n := (xs.length : Int).toNat) (fun i H' => ∃ done left, H' l = some (.lst left) ∧ H' D = some (.lst done) ∧ (done ++ left).Perm xs ∧ done.length = i ∧ Stm S S0 (c + i) H' ∧ Same (hid [S, S0] H) (hid [D, l, S, S0] H'))
    ⟨[], xs, by rw [upd_ne nDl.symm]; exact e0, upd_same, .refl _, rfl, (st.new nl).new nD, fun b o q => hid_push nD _ _ (hid_push nl _ _ q)⟩ ?_ ?_
  · rintro i H1 hi ⟨done, left, h1, h2, pm, hd, st1, sm⟩
    have ll : done.length + left.length = xs.length := by rw [← List.length_append]; exact pm.length_eq
    refine ⟨rfl, tYesI ?_⟩
    refine ⟨_, rfl, .inl ⟨rfl, _, SqL.of h1⟩, _, rfl, _, rfl, l, left, rfl, .inl (SqL.of h1), S, S0, c + i, _, rfl, st1, by omega, by omega, by omega, fun r H2 r0 r1 st2 sm2 => ?_⟩
    have h1' : H2 l = some (.lst left) := (hid_of (sm2 l _ (hid_get (by simp; exact ⟨sl.1, sl.2⟩) h1))).2
    have h2' : H2 D = some (.lst done) := (hid_of (sm2 D _ (hid_get (by simp; exact ⟨sD.1, sD.2⟩) h2))).2
    have hr2 : r.toNat < left.length := by omega
    refine ⟨l, left, r, r.toNat, left[r.toNat], rfl, rfl, h1', by omega, by omega, ?_, List.getElem?_eq_getElem hr2, ?_⟩
    · exact seq_at r0 r1
    · refine ⟨done, by rw [upd_ne nDl]; exact h2', small1000000 (by omega), done ++ [left[r.toNat]], left.eraseIdx r.toNat, by rw [upd_ne nDl.symm]; exact upd_same, upd_same, ?_, by simp [hd], ?_, ?_⟩
      · refine List.Perm.trans ?_ pm
        rw [List.append_assoc]
        exact List.Perm.append_left _ (perm_eraseIdx hr2)
      · have st3 := (st2.put (o := .lst (left.eraseIdx r.toNat)) sl.1 sl.2).put (o := .lst (done ++ [left[r.toNat]])) sD.1 sD.2
        exact st3
      · rw [hid_in List.mem_cons_self, hid_in (by simp)]
        exact fun b o q => hid_more sm2 (by simp) _ _ (sm _ _ q)
  · rintro H1 ⟨done, left, h1, h2, pm, hd, st1, sm⟩
    have ll : done.length + left.length = xs.length := by rw [← List.length_append]; exact pm.length_eq
    have : left = [] := List.eq_nil_of_length_eq_zero (by omega)
    subst this
    rw [List.append_nil] at pm
    exact k D done H1 pm (Same.free (same_new nl) nD) h2 (st1.mono (by omega)) fun b o q => hid_sub (by simp) _ _ (sm _ _ q)
end
end K8
set_option maxRecDepth 100000
set_option maxHeartbeats 4000000
namespace K8
open PySem L2
theorem Paired_snoc {α β : Type} {R : α → β → Prop} : ∀ {as : List α} {bs : List β} {a : α} {b : β}, Paired R as bs → R a b → Paired R (as ++ [a]) (bs ++ [b])
  | _, _, _, _, .nil, h => .cons h .nil
  | _, _, _, _, .cons q t, h => .cons q (Paired_snoc t h)
theorem Paired_mono {α β : Type} {R R' : α → β → Prop} (f : ∀ a b, R a b → R' a b) : ∀ {as : List α} {bs : List β}, Paired R as bs → Paired R' as bs
  | _, _, .nil => .nil
  | _, _, .cons q t => .cons (f _ _ q) (Paired_mono f t)
theorem Paired_map {α β : Type} {f : α → β} : ∀ {as : List α} {bs : List β}, Paired (fun a b => b = f a) as bs → bs = as.map f
  | _, _, .nil => rfl
  | _, _, .cons q t => by rw [q, Paired_map t]; rfl
theorem Paired_dp {α : Type} {K : PySem.W.Frag} {G : Hp} {f : α → PyData} : ∀ {as : List α} {bs : List V}, Paired (fun a b => Dp K G b (f a)) as bs → DpAll K G bs (as.map f)
  | _, _, .nil => .nil
  | _, _, .cons q t => .cons q (Paired_dp t)
theorem range_snoc (keep : Nat → Bool) (i : Nat) : (List.range (i + 1)).filter keep = (List.range i).filter keep ++ (if keep i = true then [i] else []) := by
  rw [List.range_succ, List.filter_append]
  congr 1
  simp [List.filter_cons]
/-- a comprehension over anything that is walked: M hides what may change, Ex is an invariant of one's own, Rel says what an element is; keep: the turns that the test lets pass -/
theorem lc_g {J : It} {n : Nat} {G : Hp → Prop} {Y : Nat → Hp → V → Hp → Prop} (w : Walk J n G Y) {g : TG} {tt : TT} {te : TE} {vs : List Nat} {σ : St} {H1 : Hp} {D : Addr} {Qd : Hp → Prop}
    (M : List Addr) (nD : H1 D = none) (hn : n ≤ 1000000) (Ex : Nat → Hp → Prop) (ex0 : Ex 0 (upd H1 D (.lst []))) (exD : ∀ i H o ys, H D = some (.lst ys) → Ex i H → Ex i (upd H D (.lst o)))
    (Rel : Nat → Hp → V → Prop) (mono : ∀ i H H' y, i < n → Same (hid (D :: M) H) (hid (D :: M) H') → Rel i H y → Rel i H' y) (keep : Nat → Bool)
    (hG : ∀ i H, i ≤ n → Ex i H → Same (hid M H1) (hid (D :: M) H) → G H)
    (hs : ∀ i x H H' ys (k : VK) (k' : Hp → Prop), i < n → Ex i H → Same (hid M H1) (hid (D :: M) H) → H D = some (.lst ys) → Y i H x H' →
      (keep i = true → ∀ y H4, Same (hid (D :: M) H) (hid (D :: M) H4) → H4 D = some (.lst ys) → Ex (i + 1) H4 → Rel i H4 y → k y H4) →
      (keep i = false → ∀ H4, Same (hid (D :: M) H) (hid (D :: M) H4) → H4 D = some (.lst ys) → Ex (i + 1) H4 → k' H4) →
      g x (wipe σ vs) H' fun σ2 H2 => wipe σ2 vs = wipe σ vs ∧ tt σ2 H2 fun b H3 => if b = true then te σ2 H3 k else k' H3)
    (hd : ∀ H ys, Ex n H → Same (hid M H1) (hid (D :: M) H) → H D = some (.lst ys) → Paired (fun i y => Rel i H y) ((List.range n).filter keep) ys → Qd H) :
    ∃ W : Nat → Nat → Hp → Prop, (∃ m, W 0 m (upd H1 D (.lst []))) ∧ ∀ i m H, W i m H →
      (J.stop i H ∧ Qd H) ∨ (J.go i H ∧ ∃ Nx : Hp → Prop, (∀ H', Nx H' → ∃ m', m' < m ∧ W (i + 1) m' H') ∧ ∀ x H', J.yld i H x H' → g x (wipe σ vs) H' fun σ2 H2 => wipe σ2 vs = wipe σ vs ∧ tt σ2 H2 fun b H3 =>
        if b = true then te σ2 H3 fun y H4 => ∃ acc, H4 D = some (.lst acc) ∧ acc.length < sizeLine ∧ Nx (upd H4 D (.lst (acc ++ [y]))) else Nx H3) := by
  refine lc_it w (fun i H => ∃ ys, Ex i H ∧ Same (hid M H1) (hid (D :: M) H) ∧ H D = some (.lst ys) ∧ ys.length ≤ i ∧ i ≤ n ∧ Paired (fun i y => Rel i H y) ((List.range i).filter keep) ys) ?_ ?_ ?_ ?_
  · exact ⟨[], ex0, hid_push nD, upd_same, Nat.le_refl _, Nat.zero_le _, .nil⟩
  · rintro i H hi ⟨ys, h1, h2, _⟩
    exact hG i H hi h1 h2
  · rintro i x H H' hi ⟨ys, h1, h2, h3, h4, h5, h6⟩ y
    refine hs i x H H' ys _ _ hi h1 h2 h3 y (fun kp z H4 s4 d4 e4 r4 => ?_) (fun kp H4 s4 d4 e4 => ?_)
    · refine ⟨ys, d4, Nat.lt_of_le_of_lt (Nat.le_trans h4 (Nat.le_trans h5 hn)) (by decide), ys ++ [z], exD _ _ _ _ d4 e4, ?_, upd_same, by rw [List.length_append]; exact Nat.succ_le_succ h4, hi, ?_⟩
      · rw [hid_in List.mem_cons_self]
        exact h2.trans s4
      · rw [range_snoc, if_pos kp]
        have st : Same (hid (D :: M) H4) (hid (D :: M) (upd H4 D (.lst (ys ++ [z])))) := by rw [hid_in List.mem_cons_self]; exact Same.refl _
        refine Paired_snoc ?_ (mono _ _ _ _ hi st r4)
        have all : ∀ (l : List Nat) (ys : List V), (∀ j ∈ l, j < n) → Paired (fun i y => Rel i H y) l ys → Paired (fun i y => Rel i (upd H4 D (.lst (ys ++ [z]))) y) l ys → True := fun _ _ _ _ _ => trivial
        have go : ∀ (l : List Nat) (zs : List V), (∀ j ∈ l, j < n) → Paired (fun i y => Rel i H y) l zs → Paired (fun i y => Rel i (upd H4 D (.lst (ys ++ [z]))) y) l zs := by
          intro l zs hl p
          induction p with
          | nil => exact .nil
          | cons q t ih => exact .cons (mono _ _ _ _ (hl _ List.mem_cons_self) (s4.trans st) q) (ih fun j hj => hl j (List.mem_cons_of_mem _ hj))
        refine go _ _ (fun j hj => ?_) h6
        have := List.mem_range.mp (List.mem_filter.mp hj).1
        omega
    · refine ⟨ys, e4, h2.trans s4, d4, Nat.le_succ_of_le h4, hi, ?_⟩
      rw [range_snoc, if_neg (by rw [kp]; decide), List.append_nil]
      have go : ∀ (l : List Nat) (zs : List V), (∀ j ∈ l, j < n) → Paired (fun i y => Rel i H y) l zs → Paired (fun i y => Rel i H4 y) l zs := by
        intro l zs hl p
        induction p with
        | nil => exact .nil
        | cons q t ih => exact .cons (mono _ _ _ _ (hl _ List.mem_cons_self) s4 q) (ih fun j hj => hl j (List.mem_cons_of_mem _ hj))
      refine go _ _ (fun j hj => ?_) h6
      have := List.mem_range.mp (List.mem_filter.mp hj).1
      omega
  · rintro H ⟨ys, h1, h2, h3, h4, h5, h6⟩
    exact hd H ys h1 h2 h3 h6
/-- the same where nothing but the new list changes: M empty -/
theorem lc_p {J : It} {n : Nat} {G : Hp → Prop} {Y : Nat → Hp → V → Hp → Prop} (w : Walk J n G Y) {g : TG} {tt : TT} {te : TE} {vs : List Nat} {σ : St} {H1 : Hp} {D : Addr} {Qd : Hp → Prop}
    (nD : H1 D = none) (hn : n ≤ 1000000) (Rel : Nat → Hp → V → Prop) (mono : ∀ i H H' y, i < n → Same H H' → Rel i H y → Rel i H' y) (keep : Nat → Bool)
    (hG : ∀ H, Same H1 H → G H)
    (hs : ∀ i x H H' (k : VK) (k' : Hp → Prop), i < n → Same H1 H → Y i H x H' →
      (keep i = true → ∀ y H4, Same H H4 → Rel i (hid [D] H4) y → k y H4) →
      (keep i = false → ∀ H4, Same H H4 → k' H4) →
      g x (wipe σ vs) H' fun σ2 H2 => wipe σ2 vs = wipe σ vs ∧ tt σ2 H2 fun b H3 => if b = true then te σ2 H3 k else k' H3)
    (hd : ∀ H ys, Same H1 H → H D = some (.lst ys) → Paired (fun i y => Rel i (hid [D] H) y) ((List.range n).filter keep) ys → Qd H) :
    ∃ W : Nat → Nat → Hp → Prop, (∃ m, W 0 m (upd H1 D (.lst []))) ∧ ∀ i m H, W i m H →
      (J.stop i H ∧ Qd H) ∨ (J.go i H ∧ ∃ Nx : Hp → Prop, (∀ H', Nx H' → ∃ m', m' < m ∧ W (i + 1) m' H') ∧ ∀ x H', J.yld i H x H' → g x (wipe σ vs) H' fun σ2 H2 => wipe σ2 vs = wipe σ vs ∧ tt σ2 H2 fun b H3 =>
        if b = true then te σ2 H3 fun y H4 => ∃ acc, H4 D = some (.lst acc) ∧ acc.length < sizeLine ∧ Nx (upd H4 D (.lst (acc ++ [y]))) else Nx H3) := by
  have e0 : ∀ H : Hp, hid [] H = H := fun H => by funext b; unfold hid; rw [if_neg (by simp)]
  have go : ∀ H, Same (hid [] H1) (hid [D] H) → Same H1 H := fun H s => by rw [e0] at s; exact s.trans hid_same
  refine lc_g w [] nD hn (fun _ _ => True) trivial (fun _ _ _ _ _ _ => trivial) (fun i H y => Rel i (hid [D] H) y) (fun i H H' y hi s r => mono i _ _ y hi s r) keep (fun i H _ _ s => hG H (go H s)) ?_ ?_
  · intro i x H H' ys k k' hi _ s hD y h1 h2
    exact hs i x H H' k k' hi (go H s) y (fun kp z H4 s4 r4 => h1 kp z H4 (sHid s4) (s4 _ _ hD) trivial r4) fun kp H4 s4 => h2 kp H4 (sHid s4) (s4 _ _ hD) trivial
  · intro H ys _ s hD p
    exact hd H ys (go H s) hD p
theorem filter_true {α : Type} (l : List α) : l.filter (fun _ => true) = l := by simp
end K8
set_option maxRecDepth 100000
set_option maxHeartbeats 4000000
namespace K8
open PySem L2 PyProof.Rows
/-! ### kinds of values -/
theorem ty_dp {K : PySem.W.Frag} {H : Hp} : ∀ {v : V} {d : PyData}, Dp K H v d → TyX K H v (.type (match d with | .none => "NoneType" | .bool _ => "bool" | .int _ => "int" | .str _ => "str" | .list _ => "list" | .tuple _ => "tuple" | .dict _ => "dict"))
  | _, _, .non => .base .non
  | _, _, .bl _ => .base (.bl _)
  | _, _, .int _ => .base (.int _)
  | _, _, .str _ => .base (.str _)
  | _, _, .lst h _ => by
    rcases h with (h | ⟨o, h⟩) | ⟨o, its, n, h, hc, _⟩
    · exact .base (.lst h)
    · exact .base (.frz h)
    · exact .kList h hc
  | _, _, .tup h _ => by
    rcases h with (h | ⟨o, h⟩) | ⟨o, its, n, h, hc, _⟩
    · exact .base (.tup h)
    · exact .fTuple h
    · exact .kTuple h hc
abbrev kinds : List String := ["NoneType", "bool", "int", "str", "list", "tuple", "dict"]
section
variable {K : PySem.W.Frag}
theorem kit_str {n : String} (h : n ∈ kinds) : PySem.W.kitOne K (.type n) (.type "str") = some (n == "str") := by
  simp only [kinds, List.mem_cons, List.not_mem_nil, or_false] at h
  rcases h with rfl | rfl | rfl | rfl | rfl | rfl | rfl <;> exact kit_ty (by decide +kernel)
theorem kit_seq {n : String} (h : n ∈ kinds) : PySem.W.kitAny K (.type n) [.type "list", .type "tuple"] = some (n == "list" || n == "tuple") := by
  simp only [kinds, List.mem_cons, List.not_mem_nil, or_false] at h
  rcases h with rfl | rfl | rfl | rfl | rfl | rfl | rfl
  · exact kitAny_cons (kit_ty (b := "list") (r := false) (by decide +kernel)) (fun _ => kitAny_cons (kit_ty (b := "tuple") (r := false) (by decide +kernel)) (fun _ => kitAny_nil) (fun z => by cases z)) (fun z => by cases z)
  · exact kitAny_cons (kit_ty (b := "list") (r := false) (by decide +kernel)) (fun _ => kitAny_cons (kit_ty (b := "tuple") (r := false) (by decide +kernel)) (fun _ => kitAny_nil) (fun z => by cases z)) (fun z => by cases z)
  · exact kitAny_cons (kit_ty (b := "list") (r := false) (by decide +kernel)) (fun _ => kitAny_cons (kit_ty (b := "tuple") (r := false) (by decide +kernel)) (fun _ => kitAny_nil) (fun z => by cases z)) (fun z => by cases z)
  · exact kitAny_cons (kit_ty (b := "list") (r := false) (by decide +kernel)) (fun _ => kitAny_cons (kit_ty (b := "tuple") (r := false) (by decide +kernel)) (fun _ => kitAny_nil) (fun z => by cases z)) (fun z => by cases z)
  · exact kitAny_cons (kit_ty (b := "list") (r := true) (by decide +kernel)) (fun z => by cases z) (fun _ => by decide)
  · exact kitAny_cons (kit_ty (b := "list") (r := false) (by decide +kernel)) (fun _ => kitAny_cons (kit_ty (b := "tuple") (r := true) (by decide +kernel)) (fun z => by cases z) (fun _ => rfl)) (fun z => by cases z)
  · exact kitAny_cons (kit_ty (b := "list") (r := false) (by decide +kernel)) (fun _ => kitAny_cons (kit_ty (b := "tuple") (r := false) (by decide +kernel)) (fun _ => kitAny_nil) (fun z => by cases z)) (fun z => by cases z)
end
section
variable {X : Cx} (K : PySem.W.Frag) {e c : Expr} {es : List Expr} {te tc : TE} {t : TA} {pos p tpos : Pos} {k : Nat}
theorem eIsi (hm : X.mg "isinstance" = none) (ha : PE X e te) (hc : PE X c tc) (h : X.K = K := by rfl) (hg : Gl X "isinstance" := by rfl) (h1 : starEach [e, c] X.env = (false, eval e X.env) :: starEach [c] X.env := by rfl) (h2 : starEach [c] X.env = (false, eval c X.env) :: starEach [] X.env := by rfl)
    (hpl : (backTo pos (starEach [c] X.env)).any (·.1) = false := by rfl) : PE X (.Call (.Name "isinstance" p) [e, c] [] pos) (tCB (rIsi K) (tCons te (tCons tc tNil))) := by
  subst h; exact pe_callB call_isi hg hm PyProof.Rows.boot_isinstance (pa_cons ha (pa_cons hc pa_nil h2) h1) (by decide) (by decide) h1 hpl
/-- isinstance(e, (c1, c2, ..)) -/
theorem eIsiT (hm : X.mg "isinstance" = none) (ha : PE X e te) (hc : PA X es t) (h : X.K = K := by rfl) (hg : Gl X "isinstance" := by rfl) (h1 : starEach [e, .Tuple es k tpos] X.env = (false, eval e X.env) :: starEach [.Tuple es k tpos] X.env := by rfl) (h2 : starEach [.Tuple es k tpos] X.env = (false, eval (.Tuple es k tpos) X.env) :: starEach [] X.env := by rfl)
    (hpl : (backTo pos (starEach [.Tuple es k tpos] X.env)).any (·.1) = false := by rfl) : PE X (.Call (.Name "isinstance" p) [e, .Tuple es k tpos] [] pos) (tCB (rIsiT K) (tCons te (tCons (tTup t) tNil))) := by
  subst h; exact pe_callB call_isiT hg hm PyProof.Rows.boot_isinstance (pa_cons ha (pa_cons (pe_tup hc) pa_nil h2) h1) (by decide) (by decide) h1 hpl
theorem eTy {x : Str} {n : String} (hm : X.mg x = none) (hv : bootBuiltins x = some (.type n)) (hg : Gl X x := by rfl) (hn : x ≠ "__name__" := by decide) (hd : (x == ("__debug__" : Str)) = false := by decide) : PE X (.Name x pos) (tC (.ty n)) := pe_bltn hg hm hv rfl hn hd
end
/-! ### is_list -/
def spIsList (K : PySem.W.Frag) : Sp := fun vs H Q _ => ∃ (v : V) (n : String), vs = [v] ∧ n ∈ kinds ∧ TyX K H v (.type n) ∧ ∀ H', Same H H' → Q (.bl (n == "list" || n == "tuple")) H'
theorem sc_is_list : FnScope ["thing"] ["thing"] (defScope s_is_list) := ⟨rfl, rfl, rfl, by decide +kernel, rfl, by decide +kernel, by decide +kernel⟩
section
variable {P : Program} {w : World} {K : PySem.W.Frag} {mg : Str → Option Value} {base : Heap}
theorem sTyX {H H' : Hp} (s : Same H H') {v : V} {n : String} (h : TyX K H v (.type n)) : TyX K H' v (.type n) := by
  cases h with
  | base b =>
    cases b with
    | non => exact .base .non
    | bl y => exact .base (.bl y)
    | int i => exact .base (.int i)
    | str y => exact .base (.str y)
    | flt y => exact .base (.flt y)
    | lst e => exact .base (.lst (s _ _ e))
    | frz e => exact .base (.frz (s _ _ e))
    | tup e => exact .base (.tup (s _ _ e))
    | dK e => exact .base (.dK (s _ _ e))
    | dT e => exact .base (.dT (s _ _ e))
  | byt y => exact .byt y
  | set e => exact .set (s _ _ e)
  | kList e c => exact .kList e c
  | kTuple e c => exact .kTuple e c
  | kDict e c => exact .kDict e c
  | fTuple e => exact .fTuple (s _ _ e)
  | fDict e => exact .fDict (s _ _ e)
theorem ok_is_list (T : Txt K mg) : FnOk P w K mg base CX0 1 T.is_list.f T.is_list.fd ["thing"] (spIsList K) := by
  refine T.is_list.F.ok sc_is_list (fun vs H Q E h => ?_) (fun cdv A outer s H vs Q E hr h => ?_)
  · obtain ⟨v, n, rfl, _⟩ := h
    rfl
  obtain ⟨v, n, rfl, hn, ty, q⟩ := h
  refine ⟨_, pss_one (ps_ret (eIsiT K T.z_isinstance (pv 0) (pa_cons (eTy T.z_list PyProof.Rows.boot_list) (pa_cons (eTy T.z_tuple PyProof.Rows.boot_tuple) pa_nil)))), ?_⟩
  refine ⟨_, rfl, (by show 2 ≤ sizeLine; decide), fun p np => ?_⟩
  exact ⟨v, p, [.ty "list", .ty "tuple"], .type n, [.type "list", .type "tuple"], _, rfl, upd_same, .cons (.ty _) (.cons (.ty _) .nil), sTyX (same_new np) ty, kit_seq hn, q _ (same_new np)⟩
end
end K8
set_option maxRecDepth 100000
set_option maxHeartbeats 4000000
namespace K8
open PySem L2 PyProof.Rows
/-! ### what names and letters are -/
def lowS (c : Nat) : Bool := decide (c ∈ small26.cps.toList)
def bareB (z : Str) : Bool := (decide (0 < z.length) && decide (z.length ≤ 8)) && !(words16.contains z) && z.cps.toList.all lowS
def nameB (z : Str) : Bool := (decide (0 < z.length) && decide (z.length ≤ 8)) && lowS (z.cps.getD 0 0) && !(words16.contains z) && z.cps.toList.all fun c => decide (c ∈ (small26 ++ figs10).cps.toList)
def letterB (z : Str) : Bool := if (cutS z none (some 1) = "!" ∨ cutS z none (some 1) = "?") then bareB (cutS z (some 1) none) else bareB z
theorem inV_words (z : Str) : inV (.str z) (words16.map V.str) = words16.contains z := by
  unfold inV
  generalize words16 = l
  induction l with
  | nil => rfl
  | cons a l ih =>
    rw [List.map_cons, List.any_cons, ih, List.contains_cons]
    congr 1
    show eqV (.str a) (.str z) = (z == a)
    have : eqV (.str a) (.str z) = decide (a = z) := rfl
    rw [this, Bool.beq_eq_decide_eq]
    by_cases h : a = z
    · subst h; simp
    · have h' : ¬ z = a := fun e => h e.symm
      simp [h, h']
theorem flat_words : (words16.map V.str).all flatV = true := by decide +kernel
theorem range_get {α : Type} (l : List α) (f : α → V) (g : Nat → V) (h : ∀ i, (hi : i < l.length) → g i = f l[i]) : (List.range l.length).map g = l.map f := by
  apply List.ext_getElem
  · simp
  · intro i h1 h2
    simp only [List.getElem_map, List.getElem_range]
    exact h i (by simpa using h2)
def spBare (K : PySem.W.Frag) : Sp := fun vs H Q _ => ∃ (v : V) (n : String), vs = [v] ∧ n ∈ kinds ∧ TyX K H v (.type n) ∧ (n = "str" → ∃ z, v = .str z) ∧ ∀ (b : Bool) (H' : Hp), Same H H' → (∀ z, v = .str z → z.length ≤ 1000000 → b = bareB z) → (n ≠ "str" → b = false) → (∀ z, v = .str z → z.length ≤ 1000000) → Q (.bl b) H'
theorem sc_is_bare : FnScope ["thing", "sign"] ["thing"] (defScope s_is_bare_letter) := ⟨rfl, rfl, rfl, by decide +kernel, rfl, by decide +kernel, by decide +kernel⟩
section
variable {P : Program} {w : World} {K : PySem.W.Frag} {mg : Str → Option Value} {base : Heap}
/-- what is_bare_letter, is_letter answer of any thing: no text, no letter -/
def spLet (K : PySem.W.Frag) (f : Str → Bool) : Sp := fun vs H Q _ => ∃ (v : V), vs = [v] ∧ ((∃ z, v = .str z ∧ z.length ≤ 1000000 ∧ ∀ H', Same H H' → Q (.bl (f z)) H') ∨ (∃ n, n ∈ kinds ∧ n ≠ "str" ∧ TyX K H v (.type n) ∧ ∀ H', Same H H' → Q (.bl false) H'))
theorem ok_is_bare_letter (T : Txt K mg) : FnOk P w K mg base CX0 1 T.is_bare_letter.f T.is_bare_letter.fd ["thing"] (spLet K bareB) := by
  obtain ⟨tS, gS⟩ := T.g_SMALL
  refine T.is_bare_letter.F.ok sc_is_bare (fun vs H Q E h => ?_) (fun cdv A outer s H vs Q E hr h => ?_)
  · obtain ⟨v, rfl, _⟩ := h
    rfl
  obtain ⟨v, rfl, h⟩ := h
  refine ⟨_, pss_cons (ps_if (PW.pt (pw_or (pt_not (pt_val (eIsi K T.z_isinstance (pv 0) (eTy T.z_str PyProof.Rows.boot_str)))) (pw_or (pt_not (pt_chain op_lt op_le pe_int (eLenStr T.z_len (pv 0)) pe_int)) (pw_or1 (pt_cmpR (oIn K) (pv 0) (pe_glob (v := .ref T.a_WORDS) rfl T.g_WORDS rfl) (by rfl)))))) (pss_one (ps_ret pe_bl)) pss_nil)
    (pss_one (ps_ret (eAll K rfl T.z_all (pe_lc (own := [("sign", 1)]) (g := gName 1) (tt := tYes) rfl sc_is_bare.nd (pi_str (pv 0)) (blkOk_by (N := ["thing", "sign"]) (sc := defScope s_is_bare_letter) (by decide +kernel))
      (fun _ _ _ _ _ => pg_name (i := 1) sc_is_bare.nd rfl (Or.inl rfl)) (fun _ _ _ _ _ => pts_nil)
      (fun _ _ _ _ _ => pe_cmpR op_in_sign (pv 1) (pe_glob (v := .str small26) rfl gS ⟨_, rfl⟩) (by rfl)))))), ?_⟩
  rcases h with ⟨z, rfl, hz, q⟩ | ⟨n, hn, hs, ty, q⟩
  · refine ⟨_, rfl, .str z, .ty "str", .type "str", .type "str", true, rfl, .ty _, .base (.str z), kit_str (n := "str") (by decide), _, rfl, ?_⟩
    refine iteF ⟨_, rfl, z, rfl, Nat.le_of_lt (small1000000' hz), _, _, rfl, rfl, _, rfl, ?_⟩
    have fin : ∀ b : Bool, b = bareB z → (∀ H', Same H H' → Q (.bl b) H') := fun b e => by rw [e]; exact q
    by_cases h0 : (0 : Int) < z.length
    · rw [decide_eq_true h0]
      refine iteT ⟨_, _, rfl, rfl, _, rfl, ?_⟩
      by_cases h8 : (z.length : Int) ≤ 8
      · rw [decide_eq_true h8]
        refine iteF ⟨_, rfl, T.a_WORDS, words16.map V.str, rfl, .inr (T.k_WORDS H), rfl, flat_words, _, rfl, ?_⟩
        rw [inV_words]
        cases hw : words16.contains z with
        | true =>
          refine iteT ?_
          refine fin false ?_ H (Same.refl H)
          unfold bareB; rw [hw]; simp
        | false =>
          refine iteF ?_
          refine ⟨_, rfl, z, rfl, fun D nD => ?_⟩
          refine lc_p walk_str nD (by rw [show z.cps.size = z.length from rfl]; exact hz) (fun i _ y => y = .bl (lowS (z.cps.getD i 0))) (fun _ _ _ _ _ _ r => r) (fun _ => true) (fun _ _ => trivial) ?_ ?_
          · rintro i x H1 H1' k k' hi s ⟨rfl, c, hc, rfl⟩ k1 _
            refine ⟨rfl, tYesI ⟨_, rfl, c, small26, rfl, rfl, k1 rfl _ _ (Same.refl _) ?_⟩⟩
            rw [Array.getD_eq_getD_getElem?, hc]
            rfl
          · intro H1 ys s hD pr
            rw [filter_true] at pr
            have e := Paired_map (f := fun i => V.bl (lowS (z.cps.getD i 0))) pr
            have e2 : ys = (z.cps.toList.map lowS).map V.bl := by
              rw [e, List.map_map]
              have := range_get z.cps.toList (fun c => V.bl (lowS c)) (fun i => V.bl (lowS (z.cps.getD i 0))) (fun i hi => by
                have hi' : i < z.cps.size := by simpa using hi
                simp [Array.getD, hi'])
              rw [Array.length_toList] at this
              exact this
            refine ⟨D, z.cps.toList.map lowS, rfl, SqL.of (by rw [hD, e2]), ?_⟩
            refine fin _ ?_ H1 s
            unfold bareB
            rw [hw, List.all_map, decide_eq_true (show 0 < z.length by omega), decide_eq_true (show z.length ≤ 8 by omega)]
            simp [Function.comp_def]
      · rw [decide_eq_false h8]
        refine iteT ?_
        refine fin false ?_ H (Same.refl H)
        unfold bareB; rw [decide_eq_false (show ¬ z.length ≤ 8 by omega)]; simp
    · rw [decide_eq_false h0]
      refine iteF ⟨_, rfl, iteT ?_⟩
      refine fin false ?_ H (Same.refl H)
      unfold bareB; rw [decide_eq_false (show ¬ 0 < z.length by omega)]; simp
  · refine ⟨_, rfl, v, .ty "str", .type n, .type "str", _, rfl, .ty _, ty, kit_str hn, _, rfl, ?_⟩
    rw [beq_eq_false_iff_ne.mpr hs]
    exact iteT (iteT (q H (Same.refl H)))
end
end K8
set_option maxRecDepth 100000
set_option maxHeartbeats 4000000
namespace K8
open PySem L2 PyProof.Rows
section
variable {P : Program} {w : World} {K : PySem.W.Frag} {mg : Str → Option Value} {base : Heap}
/-! ### is_letter -/
theorem sc_is_letter : FnScope ["thing"] ["thing"] (defScope s_is_letter) := ⟨rfl, rfl, rfl, by decide +kernel, rfl, by decide +kernel, by decide +kernel⟩
theorem inV_marks (x : Str) : inV (.str x) [.str "!", .str "?"] = decide (x = "!" ∨ x = "?") := by
  show (decide (("!" : Str) = x) || (decide (("?" : Str) = x) || false)) = _
  by_cases h1 : x = "!"
  · subst h1; simp
  · by_cases h2 : x = "?"
    · subst h2; simp
    · have e1 : ¬ (("!" : Str) = x) := fun e => h1 e.symm
      have e2 : ¬ (("?" : Str) = x) := fun e => h2 e.symm
      simp [h1, h2, e1, e2]
theorem ok_is_letter (T : Txt K mg) : FnOk P w K mg base CX0 2 T.is_letter.f T.is_letter.fd ["thing"] (spLet K letterB) := by
  have G : FnOk P w K mg base CX0 1 T.is_bare_letter.f T.is_bare_letter.fd _ (spLet K bareB) := ok_is_bare_letter T
  refine T.is_letter.F.ok sc_is_letter (fun vs H Q E h => ?_) (fun cdv A outer s H vs Q E hr h => ?_)
  · obtain ⟨v, rfl, _⟩ := h
    rfl
  obtain ⟨v, rfl, h⟩ := h
  refine ⟨_, pss_cons (ps_if (PW.pt (pw_and (pt_val (eIsi K T.z_isinstance (pv 0) (eTy T.z_str PyProof.Rows.boot_str))) (pw_and1 (pt_cmpR (oIn K) (pe_slice sl_str (pv 0) po_none (po_some pe_int)) (pe_tup (pa_cons pe_str (pa_cons pe_str pa_nil))) (by rfl)))))
      (pss_one (ps_ret (eC T.is_bare_letter G hr (pa_cons (pe_slice sl_str (pv 0) (po_some pe_int) po_none) pa_nil)))) pss_nil)
    (pss_one (ps_ret (eC T.is_bare_letter G hr (pa_cons (pv 0) pa_nil)))), ?_⟩
  rcases h with ⟨z, rfl, hz, q⟩ | ⟨n, hn, hs, ty, q⟩
  · refine ⟨_, rfl, .str z, .ty "str", .type "str", .type "str", true, rfl, .ty _, .base (.str z), kit_str (n := "str") (by decide), _, rfl, ?_⟩
    refine iteT ⟨_, rfl, 1, rfl, z, rfl, Nat.le_of_lt (small1000000' hz), (by show 2 ≤ sizeLine; decide), fun p np => ?_⟩
    refine ⟨p, [.str "!", .str "?"], rfl, .inr (SqT.of upd_same), rfl, rfl, _, rfl, ?_⟩
    rw [inV_marks]
    have s1 : Same H (upd H p (.tup [.str "!", .str "?"])) := same_new np
    by_cases hm : cutS z none (some 1) = "!" ∨ cutS z none (some 1) = "?"
    · rw [decide_eq_true hm]
      refine iteT ⟨_, rfl, 1, rfl, z, rfl, Nat.le_of_lt (small1000000' hz), _, rfl, .inl ⟨_, rfl, Nat.le_trans (cutS_length _ _ _) hz, fun H' s2 => ?_⟩⟩
      have q' := q H' (s1.trans s2)
      unfold letterB at q'
      rw [if_pos hm] at q'
      exact q'
    · rw [decide_eq_false hm]
      refine iteF ⟨_, rfl, _, rfl, .inl ⟨z, rfl, hz, fun H' s2 => ?_⟩⟩
      have q' := q H' (s1.trans s2)
      unfold letterB at q'
      rw [if_neg hm] at q'
      exact q'
  · refine ⟨_, rfl, v, .ty "str", .type n, .type "str", _, rfl, .ty _, ty, kit_str hn, _, rfl, ?_⟩
    rw [beq_eq_false_iff_ne.mpr hs]
    exact iteF (iteF ⟨_, rfl, v, rfl, .inr ⟨n, hn, hs, ty, q⟩⟩)
/-! ### is_name: of names -/
def spName : Sp := fun vs H Q _ => ∃ (z : Str), vs = [.str z] ∧ nameB z = true ∧ ∀ H', Same H H' → Q (.bl true) H'
theorem sc_is_name : FnScope ["thing", "sign"] ["thing"] (defScope s_is_name) := ⟨rfl, rfl, rfl, by decide +kernel, rfl, by decide +kernel, by decide +kernel⟩
theorem ok_is_name (T : Txt K mg) : FnOk P w K mg base CX0 1 T.is_name.f T.is_name.fd ["thing"] spName := by
  obtain ⟨tS, gS⟩ := T.g_SMALL
  obtain ⟨tF, gF⟩ := T.g_FIGURES
  refine T.is_name.F.ok sc_is_name (fun vs H Q E h => ?_) (fun cdv A outer s H vs Q E hr h => ?_)
  · obtain ⟨z, rfl, _⟩ := h
    rfl
  obtain ⟨z, rfl, hn, q⟩ := h
  refine ⟨_, pss_cons (ps_if (PW.pt (pw_or (pt_not (pt_val (eIsi K T.z_isinstance (pv 0) (eTy T.z_str PyProof.Rows.boot_str)))) (pw_or (pt_not (pt_chain op_lt op_le pe_int (eLenStr T.z_len (pv 0)) pe_int))
      (pw_or (pt_cmpR op_notIn_sign (pe_ix ix_str (pv 0) pe_int (fun _ _ => rfl)) (pe_glob (v := .str small26) rfl gS ⟨_, rfl⟩) (by rfl)) (pw_or1 (pt_cmpR (oIn K) (pv 0) (pe_glob (v := .ref T.a_WORDS) rfl T.g_WORDS rfl) (by rfl))))))) (pss_one (ps_ret pe_bl)) pss_nil)
    (pss_one (ps_ret (eAll K rfl T.z_all (pe_lc (own := [("sign", 1)]) (g := gName 1) (tt := tYes) rfl sc_is_name.nd (pi_str (pv 0)) (blkOk_by (N := ["thing", "sign"]) (sc := defScope s_is_name) (by decide +kernel))
      (fun _ _ _ _ _ => pg_name (i := 1) sc_is_name.nd rfl (Or.inl rfl)) (fun _ _ _ _ _ => pts_nil)
      (fun _ _ _ _ _ => pe_cmpR op_in_sign (pv 1) (pe_op op_add_str (pe_glob (v := .str small26) rfl gS ⟨_, rfl⟩) (pe_glob (v := .str figs10) rfl gF ⟨_, rfl⟩)) (by rfl)))))), ?_⟩
  have hn0 := hn
  unfold nameB at hn0
  simp only [Bool.and_eq_true, decide_eq_true_eq, Bool.not_eq_true'] at hn0
  obtain ⟨⟨⟨⟨h0, h8⟩, hf⟩, hw⟩, hall⟩ := hn0
  have hsz : z.cps.size = z.length := rfl
  refine ⟨_, rfl, .str z, .ty "str", .type "str", .type "str", true, rfl, .ty _, .base (.str z), kit_str (n := "str") (by decide), _, rfl, ?_⟩
  refine iteF ⟨_, rfl, z, rfl, Nat.le_of_lt (small1000 (by omega)), _, _, rfl, rfl, _, rfl, ?_⟩
  rw [decide_eq_true (show (0 : Int) < z.length by omega)]
  refine iteT ⟨_, _, rfl, rfl, _, rfl, ?_⟩
  rw [decide_eq_true (show (z.length : Int) ≤ 8 by omega)]
  have hc : z.cps.toList[0]? = some (z.cps.getD 0 0) := by
    have : 0 < z.cps.size := by omega
    simp [Array.getD, this]
  refine iteF ⟨_, rfl, z, 0, z.cps.getD 0 0, rfl, rfl, Nat.le_of_lt (small1000 (by omega)), atI_nat (j := 0) hc, _, small26, rfl, rfl, _, rfl, ?_⟩
  rw [show decide (z.cps.getD 0 0 ∈ small26.cps.toList) = true from hf]
  refine iteF ⟨_, rfl, T.a_WORDS, words16.map V.str, rfl, .inr (T.k_WORDS H), rfl, flat_words, _, rfl, ?_⟩
  rw [inV_words, hw]
  refine iteF ?_
  refine ⟨_, rfl, z, rfl, fun D nD => ?_⟩
  refine lc_p walk_str nD (by omega) (fun i _ y => y = .bl true) (fun _ _ _ _ _ _ r => r) (fun _ => true) (fun _ _ => trivial) ?_ ?_
  · rintro i x H1 H1' k k' hi s ⟨rfl, c, hc, rfl⟩ k1 _
    refine ⟨rfl, tYesI ⟨_, rfl, small26, figs10, rfl, rfl, (by decide +kernel), c, small26 ++ figs10, rfl, rfl, k1 rfl _ _ (Same.refl _) ?_⟩⟩
    have hm : c ∈ z.cps.toList := List.mem_of_getElem? (i := i) (by simpa using hc)
    exact congrArg V.bl (List.all_eq_true.mp hall c hm)
  · intro H1 ys s hD pr
    rw [filter_true] at pr
    have e := Paired_map (f := fun _ : Nat => V.bl true) pr
    refine ⟨D, (List.range z.cps.size).map fun _ => true, rfl, SqL.of (by rw [hD, e, List.map_map]; rfl), ?_⟩
    have : ((List.range z.cps.size).map fun _ => true).all id = true := by simp
    rw [this]
    exact q H1 s
/-! ### is_one_of: isinstance(thing, str) and thing in known -/
def spOneOf (K : PySem.W.Frag) : Sp := fun vs H Q _ => ∃ (d : Addr) (kvs : List (Key × V)) (v : V), vs = [.ref d, v] ∧ Rd H d (.dK kvs) ∧ ((∃ z, v = .str z ∧ Q (.bl (valV kvs (Sum.inr z)).isSome) H) ∨ (∃ n, n ∈ kinds ∧ n ≠ "str" ∧ TyX K H v (.type n) ∧ Q (.bl false) H))
theorem sc_is_one_of : FnScope ["known", "thing"] ["known", "thing"] (defScope s_is_one_of) := ⟨rfl, rfl, rfl, by decide +kernel, rfl, by decide +kernel, by decide +kernel⟩
theorem ok_is_one_of (T : Txt K mg) : FnOk P w K mg base CX0 1 T.is_one_of.f T.is_one_of.fd ["known", "thing"] (spOneOf K) := by
  refine T.is_one_of.F.ok sc_is_one_of (fun vs H Q E h => ?_) (fun cdv A outer s H vs Q E hr h => ?_)
  · obtain ⟨d, kvs, v, rfl, _⟩ := h
    rfl
  obtain ⟨d, kvs, v, rfl, hd, h⟩ := h
  have hu := hu_of hr
  refine ⟨_, pss_one (ps_ret (pe_and (eIsi K T.z_isinstance (pv 1) (eTy T.z_str PyProof.Rows.boot_str)) (pe_one (pe_cmp (pc_din hu (pv 1) (pv 0)) (by rfl))))), ?_⟩
  rcases h with ⟨z, rfl, q⟩ | ⟨n, hn, hs, ty, q⟩
  · refine ⟨_, rfl, .str z, .ty "str", .type "str", .type "str", true, rfl, .ty _, .base (.str z), kit_str (n := "str") (by decide), _, rfl, ?_⟩
    exact iteT ⟨_, rfl, _, rfl, d, _, rfl, .inl ⟨kvs, Sum.inr z, hd, rfl, rfl⟩, q⟩
  · refine ⟨_, rfl, v, .ty "str", .type n, .type "str", _, rfl, .ty _, ty, kit_str hn, _, rfl, ?_⟩
    rw [beq_eq_false_iff_ne.mpr hs]
    exact iteF q
end
end K8
set_option maxRecDepth 100000
set_option maxHeartbeats 4000000
namespace K8
open PySem L2 PyProof.Rows
/-! ### data with lists and tuples in one another's place -/
def SqA (K : PySem.W.Frag) (H : Hp) (a : Addr) (xs : List V) : Prop := SqL K H a xs ∨ SqT K H a xs
mutual
inductive Lo (K : PySem.W.Frag) (H : Hp) : V → PyData → Prop
  | str (x : Str) : Lo K H (.str x) (.str x)
  | lst {a : Addr} {xs : List V} {ds : List PyData} : SqA K H a xs → LoAll K H xs ds → Lo K H (.ref a) (.list ds)
  | tup {a : Addr} {xs : List V} {ds : List PyData} : SqA K H a xs → LoAll K H xs ds → Lo K H (.ref a) (.tuple ds)
inductive LoAll (K : PySem.W.Frag) (H : Hp) : List V → List PyData → Prop
  | nil : LoAll K H [] []
  | cons {v : V} {vs : List V} {d : PyData} {ds : List PyData} : Lo K H v d → LoAll K H vs ds → LoAll K H (v :: vs) (d :: ds)
end
theorem SqA.same {K : PySem.W.Frag} {H H' : Hp} {a : Addr} {xs : List V} (h : SqA K H a xs) (s : Same H H') : SqA K H' a xs := h.imp (s.seq ·) (sSeqT s ·)
mutual
theorem sLo {K : PySem.W.Frag} {H H' : Hp} (e : Same H H') : ∀ (d : PyData) (v : V), Lo K H v d → Lo K H' v d
  | .none, _, h => by cases h
  | .bool _, _, h => by cases h
  | .int _, _, h => by cases h
  | .str _, _, h => by cases h; exact .str _
  | .list ds, _, h => by
    cases h with
    | lst h1 h2 => exact .lst (h1.same e) (sLoAll e ds _ h2)
  | .tuple ds, _, h => by
    cases h with
    | tup h1 h2 => exact .tup (h1.same e) (sLoAll e ds _ h2)
  | .dict _, _, h => by cases h
theorem sLoAll {K : PySem.W.Frag} {H H' : Hp} (e : Same H H') : ∀ (ds : List PyData) (vs : List V), LoAll K H vs ds → LoAll K H' vs ds
  | [], _, h => by cases h; exact .nil
  | d :: ds, _, h => by
    cases h with
    | cons h1 h2 => exact .cons (sLo e d _ h1) (sLoAll e ds _ h2)
end
theorem LoAll.len {K : PySem.W.Frag} {H : Hp} : ∀ {vs : List V} {ds : List PyData}, LoAll K H vs ds → vs.length = ds.length
  | _, _, .nil => rfl
  | _, _, .cons _ t => congrArg Nat.succ (LoAll.len t)
theorem LoAll.getI {K : PySem.W.Frag} {H : Hp} : ∀ {vs : List V} {ds : List PyData} {i : Nat} {v : V}, LoAll K H vs ds → vs[i]? = some v → ∃ d, ds[i]? = some d ∧ Lo K H v d
  | _, _, _, _, .nil, h => by simp at h
  | _, _, 0, _, .cons a _, h => by
    simp at h; subst h; exact ⟨_, rfl, a⟩
  | _, _, i + 1, _, .cons _ t, h => LoAll.getI (i := i) t (by simpa using h)
theorem lo_strs {K : PySem.W.Frag} {H : Hp} : ∀ {r : List Str} {vs : List V}, LoAll K H vs (r.map PyData.str) → vs = r.map V.str
  | [], _, h => by cases h; rfl
  | x :: r, _, h => by
    cases h with
    | cons a t => cases a; rw [lo_strs t]; rfl
theorem sqA_ty {K : PySem.W.Frag} {H : Hp} {a : Addr} {xs : List V} (h : SqA K H a xs) : ∃ n, n ∈ kinds ∧ (n == "list" || n == "tuple") = true ∧ TyX K H (.ref a) (.type n) := by
  rcases h with ((h | ⟨o, h⟩) | ⟨o, its, n, h, hc, _⟩) | ((h | ⟨o, h⟩) | ⟨o, its, n, h, hc, _⟩)
  · exact ⟨"list", by decide, by decide, .base (.lst h)⟩
  · exact ⟨"list", by decide, by decide, .base (.frz h)⟩
  · exact ⟨"list", by decide, by decide, .kList h hc⟩
  · exact ⟨"tuple", by decide, by decide, .base (.tup h)⟩
  · exact ⟨"tuple", by decide, by decide, .fTuple h⟩
  · exact ⟨"tuple", by decide, by decide, .kTuple h hc⟩
abbrev Rule := Str × List Str
/-- a rule of the law's, of the program's -/
def encL (r : Rule) : PyData := .tuple [.str r.1, .list (r.2.map .str)]
def encP (r : Rule) : PyData := .tuple [.str r.1, .tuple (r.2.map .str)]
def ruleB (r : Rule) : Bool := letterB r.1 && decide (r.1.length ≤ 1000000) && r.2.all nameB && decide (r.2.length ≤ 1000000)
theorem lo_rule {K : PySem.W.Frag} {H : Hp} {v : V} {r : Rule} (h : Lo K H v (encL r)) : ∃ a b, v = .ref a ∧ SqA K H a [.str r.1, .ref b] ∧ SqA K H b (r.2.map .str) := by
  cases h with
  | tup h1 h2 =>
    cases h2 with
    | cons x y =>
      cases x
      cases y with
      | cons x z =>
        cases z
        cases x with
        | lst h3 h4 =>
          rw [lo_strs h4] at h3
          exact ⟨_, _, rfl, h1, h3⟩
/-- one rule for lists, one for tuples: either, by what stands there -/
theorem rIx_of {K : PySem.W.Frag} {H : Hp} {a : Addr} {xs : List V} {i : Nat} {v : V} {Q : VK} (h : SqA K H a xs) (hv : xs[i]? = some v) (q : Q v H) : rIx K (.ref a) (.int (i : Nat)) H Q := by
  rcases h with h | h
  · exact .inl ⟨a, xs, _, v, rfl, rfl, h, atI_nat hv, q⟩
  · exact .inr (.inl ⟨a, xs, _, v, rfl, rfl, h, atI_nat hv, q⟩)
section
variable {P : Program} {w : World} {K : PySem.W.Frag} {mg : Str → Option Value} {base : Heap}
/-! ### is_row -/
def spIsRow (K : PySem.W.Frag) : Sp := fun vs H Q _ => ∃ (a : Addr) (r : List Str), vs = [.ref a] ∧ SqA K H a (r.map .str) ∧ r.all nameB = true ∧ r.length ≤ 1000000 ∧ ∀ H', Same H H' → Q (.bl true) H'
theorem sc_is_row : FnScope ["thing", "one"] ["thing"] (defScope s_is_row) := ⟨rfl, rfl, rfl, by decide +kernel, rfl, by decide +kernel, by decide +kernel⟩
theorem ok_is_row (T : Txt K mg) : FnOk P w K mg base CX0 2 T.is_row.f T.is_row.fd ["thing"] (spIsRow K) := by
  have G : FnOk P w K mg base CX0 1 T.is_list.f T.is_list.fd _ (spIsList K) := ok_is_list T
  have G2 : FnOk P w K mg base CX0 1 T.is_name.f T.is_name.fd _ spName := ok_is_name T
  refine T.is_row.F.ok sc_is_row (fun vs H Q E h => ?_) (fun cdv A outer s H vs Q E hr h => ?_)
  · obtain ⟨a, r, rfl, _⟩ := h
    rfl
  obtain ⟨a, r, rfl, ha, hr1, hl, q⟩ := h
  obtain ⟨n, hn, ht, ty⟩ := sqA_ty ha
  have step : ∀ {i : Nat} {x : V}, (r.map V.str)[i]? = some x → ∃ z, x = .str z ∧ nameB z = true := fun {i x} e => by
    rw [List.getElem?_map] at e
    cases h : r[i]? with
    | none => rw [h] at e; cases e
    | some z =>
      rw [h] at e
      exact ⟨z, (Option.some.inj e).symm, List.all_eq_true.mp hr1 z (List.mem_of_getElem? h)⟩
  have hl2 : (r.map V.str).length ≤ 1000000 := by rw [List.length_map]; exact hl
  have fin : ∀ (H0 H1 : Hp) (D : Addr) (ys : List V), Same H H0 → Same H0 H1 → H1 D = some (.lst ys) → Paired (fun i y => y = V.bl true) ((List.range (r.map V.str).length).filter fun _ => true) ys → rAll K [.ref D] H1 Q := fun H0 H1 D ys s0 s hD pr => by
    rw [filter_true] at pr
    have e := Paired_map (f := fun _ : Nat => V.bl true) pr
    refine ⟨D, (List.range (r.map V.str).length).map fun _ => true, rfl, SqL.of (by rw [hD, e, List.map_map]; rfl), ?_⟩
    have : ((List.range (r.map V.str).length).map fun _ => true).all id = true := by simp
    rw [this]
    exact q H1 (s0.trans s)
  rcases ha with ha | ha
  · refine ⟨_, pss_one (ps_ret (pe_and (eC T.is_list G hr (pa_cons (pv 0) pa_nil)) (pe_one (eAll K rfl T.z_all (pe_lc (own := [("one", 1)]) (g := gName 1) (tt := tYes) rfl sc_is_row.nd (iL K (pv 0)) (blkOk_by (N := ["thing", "one"]) (sc := defScope s_is_row) (by decide +kernel))
      (fun _ _ _ _ _ => pg_name (i := 1) sc_is_row.nd rfl (Or.inl rfl)) (fun _ _ _ _ _ => pts_nil) (fun _ _ _ _ _ => eC T.is_name G2 hr (pa_cons (pv 1) pa_nil))))))), ?_⟩
    refine ⟨_, rfl, .ref a, n, rfl, hn, ty, fun H0 s0 => ⟨_, rfl, ?_⟩⟩
    rw [ht]
    refine iteT ⟨_, rfl, a, rfl, ⟨_, s0.seq ha⟩, fun D nD => ?_⟩
    refine lc_p walk_list nD hl2 (fun i _ y => y = .bl true) (fun _ _ _ _ _ _ r => r) (fun _ => true) (fun H2 s2 => s2.seq (s0.seq ha)) ?_ (fun H2 ys s hD pr => fin H0 H2 D ys s0 s hD pr)
    rintro i x H1 H1' k k' hi s ⟨rfl, hx⟩ k1 _
    obtain ⟨z, rfl, hz⟩ := step hx
    exact ⟨rfl, tYesI ⟨_, rfl, z, rfl, hz, fun H2 s2 => k1 rfl _ _ s2 rfl⟩⟩
  · refine ⟨_, pss_one (ps_ret (pe_and (eC T.is_list G hr (pa_cons (pv 0) pa_nil)) (pe_one (eAll K rfl T.z_all (pe_lc (own := [("one", 1)]) (g := gName 1) (tt := tYes) rfl sc_is_row.nd (iT K (pv 0)) (blkOk_by (N := ["thing", "one"]) (sc := defScope s_is_row) (by decide +kernel))
      (fun _ _ _ _ _ => pg_name (i := 1) sc_is_row.nd rfl (Or.inl rfl)) (fun _ _ _ _ _ => pts_nil) (fun _ _ _ _ _ => eC T.is_name G2 hr (pa_cons (pv 1) pa_nil))))))), ?_⟩
    refine ⟨_, rfl, .ref a, n, rfl, hn, ty, fun H0 s0 => ⟨_, rfl, ?_⟩⟩
    rw [ht]
    refine iteT ⟨_, rfl, a, rfl, ⟨_, sSeqT s0 ha⟩, fun D nD => ?_⟩
    refine lc_p walk_tup nD hl2 (fun i _ y => y = .bl true) (fun _ _ _ _ _ _ r => r) (fun _ => true) (fun H2 s2 => sSeqT s2 (sSeqT s0 ha)) ?_ (fun H2 ys s hD pr => fin H0 H2 D ys s0 s hD pr)
    rintro i x H1 H1' k k' hi s ⟨rfl, hx⟩ k1 _
    obtain ⟨z, rfl, hz⟩ := step hx
    exact ⟨rfl, tYesI ⟨_, rfl, z, rfl, hz, fun H2 s2 => k1 rfl _ _ s2 rfl⟩⟩
/-! ### is_rule -/
def spIsRule (K : PySem.W.Frag) : Sp := fun vs H Q _ => ∃ (v : V) (r : Rule), vs = [v] ∧ Lo K H v (encL r) ∧ ruleB r = true ∧ ∀ H', Same H H' → Q (.bl true) H'
theorem sc_is_rule : FnScope ["thing"] ["thing"] (defScope s_is_rule) := ⟨rfl, rfl, rfl, by decide +kernel, rfl, by decide +kernel, by decide +kernel⟩
theorem ok_is_rule (T : Txt K mg) : FnOk P w K mg base CX0 3 T.is_rule.f T.is_rule.fd ["thing"] (spIsRule K) := by
  have G : FnOk P w K mg base CX0 2 T.is_list.f T.is_list.fd _ (spIsList K) := (ok_is_list T).mono (by decide)
  have G2 : FnOk P w K mg base CX0 2 T.is_letter.f T.is_letter.fd _ (spLet K letterB) := ok_is_letter T
  have G3 : FnOk P w K mg base CX0 2 T.is_row.f T.is_row.fd _ (spIsRow K) := ok_is_row T
  refine T.is_rule.F.ok sc_is_rule (fun vs H Q E h => ?_) (fun cdv A outer s H vs Q E hr h => ?_)
  · obtain ⟨a, r, rfl, _⟩ := h
    rfl
  obtain ⟨v, r, rfl, h, hb, q⟩ := h
  obtain ⟨a, b, rfl, ha, hb2⟩ := lo_rule h
  obtain ⟨n, hn, ht, ty⟩ := sqA_ty ha
  unfold ruleB at hb
  simp only [Bool.and_eq_true, decide_eq_true_eq] at hb
  obtain ⟨⟨⟨b1, b2⟩, b3⟩, b4⟩ := hb
  refine ⟨_, pss_one (ps_ret (pe_and (eC T.is_list G hr (pa_cons (pv 0) pa_nil)) (pe_and (pe_cmpR op_eq (eLen K T.z_len (pv 0)) pe_int (nomark _)) (pe_and (eC T.is_letter G2 hr (pa_cons (pe_ix (ixQ K) (pv 0) pe_int (fun _ _ => rfl)) pa_nil)) (pe_one (eC T.is_row G3 hr (pa_cons (pe_ix (ixQ K) (pv 0) pe_int (fun _ _ => rfl)) pa_nil))))))), ?_⟩
  refine ⟨_, rfl, .ref a, n, rfl, hn, ty, fun H0 s0 => ⟨_, rfl, ?_⟩⟩
  rw [ht]
  have ha0 := ha.same s0
  refine iteT ⟨_, rfl, a, _, rfl, ha0, rfl, _, rfl, iteT ⟨_, rfl, rIx_of (i := 0) ha0 rfl ⟨_, rfl, .inl ⟨_, rfl, b2, fun H1 s1 => ⟨_, rfl, ?_⟩⟩⟩⟩⟩
  rw [b1]
  refine iteT ⟨_, rfl, rIx_of (i := 1) (ha0.same s1) rfl ⟨b, r.2, rfl, (hb2.same s0).same s1, b3, b4, fun H2 s2 => q H2 ((s0.trans s1).trans s2)⟩⟩
/-! ### as_rule -/
def spAsRule (K : PySem.W.Frag) : Sp := fun vs H Q _ => ∃ (v : V) (r : Rule), vs = [v] ∧ Lo K H v (encL r) ∧ ∀ (p t : Addr) H', Same H H' → H p = none → H' p = some (.tup [.str r.1, .ref t]) → SqT K H' t (r.2.map .str) → Q (.ref p) H'
theorem sc_as_rule : FnScope ["thing"] ["thing"] (defScope s_as_rule) := ⟨rfl, rfl, rfl, by decide +kernel, rfl, by decide +kernel, by decide +kernel⟩
theorem ok_as_rule (T : Txt K mg) : FnOk P w K mg base CX0 1 T.as_rule.f T.as_rule.fd ["thing"] (spAsRule K) := by
  refine T.as_rule.F.ok sc_as_rule (fun vs H Q E h => ?_) (fun cdv A outer s H vs Q E hr h => ?_)
  · obtain ⟨a, r, rfl, _⟩ := h
    rfl
  obtain ⟨v, r, rfl, h, q⟩ := h
  obtain ⟨a, b, rfl, ha, hb⟩ := lo_rule h
  refine ⟨_, pss_one (ps_ret (pe_tup (pa_cons (pe_ix (ixQ K) (pv 0) pe_int (fun _ _ => rfl)) (pa_cons (eTupS K T.z_tuple (pe_ix (ixQ K) (pv 0) pe_int (fun _ _ => rfl))) pa_nil)))), ?_⟩
  refine ⟨_, rfl, rIx_of (i := 0) ha rfl ⟨_, rfl, rIx_of (i := 1) ha rfl ⟨b, r.2.map .str, rfl, ?_⟩⟩⟩
  rcases hb with hb | hb
  · refine .inl ⟨hb, fun t nt => ⟨(by show 2 ≤ sizeLine; decide), fun p np => ?_⟩⟩
    have ntp : t ≠ p := ne_of_none upd_same np
    exact q p t _ ((same_new nt).trans (same_new np)) (Same.free (same_new nt) np) upd_same (SqT.of (by rw [upd_ne ntp]; exact upd_same))
  · exact .inr ⟨hb, (by show 2 ≤ sizeLine; decide), fun p np => q p b _ (same_new np) np upd_same (sSeqT (same_new np) hb)⟩
end
end K8
set_option maxRecDepth 100000
set_option maxHeartbeats 4000000
namespace K8
open PySem PySem.Spec PyProof.Rows L2
/-! ### dicts whose keys are rules: (letter, (name, ..)), every value True -/
def rkey (r : Rule) : NestedKey := .tup [.text r.1, .tup (r.2.map .text)]
theorem map_text_inj : ∀ {a b : List Str}, a.map NestedKey.text = b.map NestedKey.text → a = b
  | [], [], _ => rfl
  | [], _ :: _, h => by cases h
  | _ :: _, [], h => by cases h
  | x :: a, y :: b, h => by
    injection h with h1 h2
    injection h1 with h1
    rw [h1, map_text_inj h2]
theorem rkey_inj {r q : Rule} (h : rkey r = rkey q) : r = q := by
  injection h with h
  injection h with h1 h2
  injection h1 with h1
  injection h2 with h2 _
  injection h2 with h2
  exact Prod.ext h1 (map_text_inj h2)
def RK (K : PySem.W.Frag) (H : Hp) (a : Addr) (r : Rule) : Prop := ∃ t, SqT K H a [.str r.1, .ref t] ∧ SqT K H t (r.2.map .str)
theorem RK.same {K : PySem.W.Frag} {H H' : Hp} {a : Addr} {r : Rule} (h : RK K H a r) (s : Same H H') : RK K H' a r := let ⟨t, h1, h2⟩ := h; ⟨t, sSeqT s h1, sSeqT s h2⟩
def putR (xs : List (Rule × Addr)) (r : Rule) (a : Addr) : List (Rule × Addr) := if r ∈ xs.map (·.1) then xs else xs ++ [(r, a)]
def rowH (x : Rule × Addr) : NestedKey × Addr × Value := (rkey x.1, x.2, .bool true)
section
variable {P : Program} {w : World}
def DkO (P : Program) (w : World) (d : Addr) (xs : List (Rule × Addr)) : HO :=
  (.ext fun h => (d == sysModules) = false ∧ ∃ o es ep, h.get? d = some o ∧ o.ExactDict ∧ o.data = .dict es ep ∧ es.toList = (xs.map rowH).map (entryOfKey (nestedKind P w)) ∧ ((xs.map rowH).map (·.1)).Nodup)
theorem dkO_ok {H : Hp} {h : Heap} {d : Addr} {xs : List (Rule × Addr)} {o : Obj} {es : Array DictEntry} {ep : Nat} (h0 : (d == sysModules) = false) (h1 : h.get? d = some o) (h2 : o.ExactDict) (h3 : o.data = .dict es ep) (h4 : es.toList = (xs.map rowH).map (entryOfKey (nestedKind P w))) (h5 : ((xs.map rowH).map (·.1)).Nodup) :
    ObjOk P w H h d (DkO P w d xs) := ⟨⟨h0, o, es, ep, h1, h2, h3, h4, h5⟩, ⟨o, h1⟩, fun _ _ ⟨h0, o, es, ep, a, b, c⟩ k => ⟨h0, o, es, ep, k _ a, b, c⟩⟩
theorem rows_put (xs : List (Rule × Addr)) (r : Rule) (a : Addr) : storedH (xs.map rowH) (rkey r) a (.bool true) = (putR xs r a).map rowH := by
  have mem : (atKey (xs.map rowH) (rkey r)).isSome = decide (r ∈ xs.map (·.1)) := by
    unfold atKey
    rw [Option.isSome_map, Bool.eq_iff_iff, List.find?_isSome]
    simp only [decide_eq_true_eq, List.mem_map]
    constructor
    · rintro ⟨x, ⟨y, hy, rfl⟩, e⟩
      exact ⟨y, hy, rkey_inj e⟩
    · rintro ⟨y, hy, rfl⟩
      exact ⟨rowH y, ⟨y, hy, rfl⟩, rfl⟩
  unfold storedH putR
  rw [mem]
  by_cases h : r ∈ xs.map (·.1)
  · rw [decide_eq_true h, if_pos rfl, if_pos h, List.map_map]
    refine List.map_congr_left fun x _ => ?_
    show putAt (rkey r) (Value.bool true) (rowH x) = rowH x
    unfold putAt rowH
    split <;> rfl
  · rw [decide_eq_false h, if_neg (by decide), if_neg h, List.map_append]
    rfl
end
section
variable {X : Cx} {pins : List (Addr × Obj)} {σ : L2.St} {H : Hp} {s : Shared}
theorem nested_texts (h : Heap) : ∀ {r : List Str} {its : List Value}, Vals (r.map V.str) its → NestedAll h (r.map .text) its
  | [], _, q => by cases q; exact .nil
  | x :: r, _, q => by
    cases q with
    | cons a t =>
      obtain ⟨tk, rfl⟩ := a
      exact .cons (.text _ _) (nested_texts h t)
theorem nk_of (I : Inv X pins σ H s) {a : Addr} {r : Rule} (h : RK X.K H a r) : (nestedKind X.prog X.w).is s.heap (rkey r) a := by
  obtain ⟨t, h1, h2⟩ := h
  obtain ⟨i1, r1, ⟨o1, a1, b1, n1, c1⟩, _⟩ := I.tuple h1
  obtain ⟨i2, r2, ⟨o2, a2, b2, n2, c2⟩, _⟩ := I.tuple h2
  refine ⟨.tup a1 b1 c1 ?_, ?_⟩
  · cases r1 with
    | cons x y =>
      obtain ⟨tk, rfl⟩ := x
      cases y with
      | cons x z =>
        cases z
        cases x
        exact .cons (.text _ _) (.cons (.tup a2 b2 c2 (nested_texts _ r2)) .nil)
  · have : ∀ l : List Str, NestedKey.depthAll (l.map .text) = 0 := fun l => by
      induction l with
      | nil => rfl
      | cons x l ih => simp [NestedKey.depthAll, NestedKey.depth, ih]
    simp [rkey, NestedKey.depth, NestedKey.depthAll, this]
theorem dk_set {D a : Addr} {xs : List (Rule × Addr)} {r : Rule} {E : Value → Shared → Prop} {Q : Unit → Shared → Prop} (I : Inv X pins σ H s) (hD : H D = some (DkO X.prog X.w D xs)) (hz : xs.length < sizeLine) (hu : X.A.units + 8 < cLine)
    (hk : RK X.K H a r) (hall : ∀ x ∈ xs, RK X.K H x.2 x.1) (h : ∀ s', Inv X pins σ (upd H D (DkO X.prog X.w D (putR xs r a))) s' → Q () s') : wpAny (model X.prog X.w) X.A (dictSet D (.ref a) (.bool true)) Q E s := by
  obtain ⟨⟨d0, o, es, ep, d1, d2, d3, d4, d5⟩, _, _⟩ := I.hok D _ hD
  have dd : s.heap.DictOfH (nestedKind X.prog X.w) D (xs.map rowH) := ⟨o, es, ep, d1, d2, d3, d4, fun y hy => by
    obtain ⟨x, hx, rfl⟩ := List.mem_map.mp hy
    exact nk_of I (hall x hx), d5⟩
  refine wpAny_dictSet_heap hu (nk_of I hk) dd (fun h' dd' sb => ?_) (by rw [List.length_map]; exact Nat.le_of_lt hz)
  rw [rows_put] at dd'
  obtain ⟨o', es', ep', e1, e2, e3, e4, e5, e6⟩ := dd'
  exact h _ (I.write (x := D) (e := D) (by rw [hD]; exact True.intro) (.inl rfl) (fun b u hb q => (sb.2 b hb).trans q) ⟨o', e1⟩ (dkO_ok d0 e1 e2 e3 e4 e6))
end
/-- {k: True for target in iter if ..}, the keys rules -/
def tDcR (P : Program) (w : World) (K : PySem.W.Frag) (wi : TI) (g : TG) (tt : TT) (tk tv : TE) (vs : List Nat) : TE := fun σ H Q => wi σ H fun J H1 => ∀ D, H1 D = none → ∃ W : Nat → Nat → Hp → Prop, (∃ m, W 0 m (upd H1 D (DkO P w D []))) ∧
  ∀ i m H, W i m H → (J.stop i H ∧ Q (.ref D) H) ∨ (J.go i H ∧ ∃ Nx : Hp → Prop, (∀ H', Nx H' → ∃ m', m' < m ∧ W (i + 1) m' H') ∧
    ∀ x H', J.yld i H x H' → g x (wipe σ vs) H' fun σ2 H2 => wipe σ2 vs = wipe σ vs ∧ tt σ2 H2 fun b H3 => if b = true then tk σ2 H3 fun y H4 => tv σ2 H4 fun z H5 => z = .bl true ∧
      ∃ xs r a, y = .ref a ∧ H5 D = some (DkO P w D xs) ∧ xs.length < sizeLine ∧ RK K H5 a r ∧ (∀ x ∈ xs, RK K H5 x.2 x.1) ∧ Nx (upd H5 D (DkO P w D (putR xs r a))) else Nx H3)
section
variable {X : Cx} {kx vx tg iter : Expr} {ifs : List Expr} {scope : Scope} {own : List (Str × Nat)} {pos : Pos} {wi : TI} {g : TG} {tt : TT} {tk tv : TE}
theorem dcR_core {pins : List (Addr × Obj)} {s : Shared} {σ : L2.St} {H : Hp} {Q : VK} {pos' : Pos} {use : Option (Value → Sem Unit)} {Qf : Value → Shared → Prop} (hc : X.calm = true) (hN : X.N.Nodup) (I : Inv X pins σ H s) (hu : X.A.units + 8 < cLine) (hi : PI X tg iter wi) (ok : BlkOk X.N X.env.scope scope own)
    (hg : ∀ s H C cl fp, PG (X.blk s H scope (compEnvC scope cl C X.env) fp) tg g) (ht : ∀ s H C cl fp, PTs (X.blk s H scope (compEnvC scope cl C X.env) fp) ifs tt)
    (hk : ∀ s H C cl fp, PE (X.blk s H scope (compEnvC scope cl C X.env) fp) kx tk) (he : ∀ s H C cl fp, PE (X.blk s H scope (compEnvC scope cl C X.env) fp) vx tv) (hs : ∀ x, foldedSetIterable iter X.env x = pure x)
    (h : tDcR X.prog X.w X.K wi g tt tk tv (own.map (·.2)) σ H Q) (hRR : ∀ D C s' m H', Inv X pins σ H' s' → Q (.ref D) H' → s'.heap.Ns C m → FpOk X pins H' C → compPost (model X.prog X.w) X.A X.xe use Qf (.ref D) C (.ok .next) s') :
    wpAny (model X.prog X.w) X.A (comprehension (.DictComp kx vx [⟨tg, iter, ifs, 0⟩] scope pos) scope X.env pos' newDict false (eval iter X.env) use) Qf X.xe s := by
  have free : ∀ y ∈ scope.names, y.2 = .free → ∃ c, X.env.cells.lookup y.1 = some c := fun y hy e => (ok.free y hy e).elim (fun k => I.ok.has _ (.inl k)) fun k => I.ok.has _ (.inr k)
  refine wpAny_comprehension_free (use := use) rfl hs (closure_ok free) ok.kind (fun y hy e => by rw [ok.uniq y hy, e]) (thn (hi.run pins s σ H _ I h) fun xv s1 hx => thn hx fun itv s2 h2 => ?_)
  obtain ⟨it, fp, tn, J, H2, e, I2, T, st2, f2, q⟩ := h2
  subst e
  refine wpAny_newObj_type (newEnv_comp ?_)
  -- the new dict at D; the block's names at C
  obtain ⟨D, eD⟩ : ∃ D, D = s2.heap.objs.size := ⟨_, rfl⟩
  obtain ⟨s3, e3⟩ : ∃ s3 : Shared, s3 = { s2 with heap := s2.heap.push { cls := .type "dict", data := .dict #[] } } := ⟨_, rfl⟩
  have new3 : s3.heap = s2.heap.push { cls := .type "dict", data := .dict #[] } := by rw [e3]
  have freshD : H2 D = none := I2.hok.fresh (by rw [eD]; exact Nat.le_refl _)
  obtain ⟨W, ⟨m0, w0⟩, turn⟩ := q D freshD
  have I3 : Inv X pins σ (upd H2 D (DkO X.prog X.w D [])) s3 := by
    rw [e3]
    refine I2.laid (t' := s2.toks) (fun b o e => Heap.get?_push_of_some _ e) (by rw [eD]; exact Nat.le_refl _) ?_
    rw [eD]
    exact dkO_ok (beq_eq_false_iff_ne.mpr (Ne.symm (Nat.ne_of_lt I2.big))) (Heap.get?_push_size _ rfl) ⟨rfl, rfl, rfl⟩ rfl rfl List.nodup_nil
  obtain ⟨H3, eH3⟩ : ∃ H3, H3 = upd H2 D (DkO X.prog X.w D []) := ⟨_, rfl⟩
  rw [← eH3] at I3 w0
  have below : ∀ b ∈ fp, b < s2.heap.objs.size := fun b hb => let ⟨_, e, _⟩ := T.obj _ _ st2 b hb; Heap.lt_size e
  have f3 : ∀ b ∈ fp, FpOk X pins H3 b ∧ b < s3.heap.objs.size := fun b hb => by
    have lt := below b hb
    refine ⟨⟨?_, (f2 b hb).2⟩, by rw [new3, Heap.size_push]; exact Nat.lt_succ_of_lt lt⟩
    rw [eH3, upd_ne (by rw [eD]; exact Nat.ne_of_lt lt)]
    exact (f2 b hb).1
  have st3 : tn 0 s3.heap := T.keep _ _ _ st2 fun b _ o e => by rw [new3]; exact Heap.get?_push_of_some _ e
  have I4 := block_start I3 ok hN f3
  show codeAny _ _ (.compStart (.DictComp kx vx [⟨tg, iter, ifs, 0⟩] scope pos) 0 (.ref it) (.ref s2.heap.objs.size) (compEnvC scope (cellsFrom ((s2.heap.push { cls := .type "dict", data := .dict #[] }).objs.size + 1) scope.names (cloFrom X.env.cells scope.names [])) (s2.heap.push { cls := .type "dict", data := .dict #[] }).objs.size X.env)) _ _
  rw [← new3, ← eD]
  obtain ⟨cl, ecl⟩ : ∃ cl, cl = cellsFrom (s3.heap.objs.size + 1) scope.names (cloFrom X.env.cells scope.names []) := ⟨_, rfl⟩
  rw [← ecl] at I4 ⊢
  have pg := hg s3 H3 s3.heap.objs.size cl fp
  have pt := ht s3 H3 s3.heap.objs.size cl fp
  have pk := hk s3 H3 s3.heap.objs.size cl fp
  have pv' := he s3 H3 s3.heap.objs.size cl fp
  obtain ⟨ce, ece⟩ : ∃ ce, ce = compEnvC scope cl s3.heap.objs.size X.env := ⟨_, rfl⟩
  have cL : ce.locals = s3.heap.objs.size := by rw [ece]; rfl
  rw [← ece] at I4 pg pt pk pv' ⊢
  obtain ⟨s4, e4⟩ : ∃ s4 : Shared, s4 = { s3 with heap := pushCells (s3.heap.push { cls := .type "dict", data := .dict #[] }) scope.names } := ⟨_, rfl⟩
  have goal4 : ({ s2 with heap := pushCells (s3.heap.push { cls := .type "dict", data := .dict #[] }) scope.names } : Shared) = s4 := by rw [e4, e3]
  rw [← e4] at I4
  have st4 : tn 0 s4.heap := T.keep _ _ _ st3 fun b _ o e => by rw [e4]; exact pushCells_keeps _ _ _ _ (Heap.get?_push_of_some _ e)
  have stat : ∀ {σ' : L2.St} {H' : Hp} {s' : Shared}, Inv (X.blk s3 H3 scope ce fp) [] σ' H' s' → (∀ b ∈ fp, H' b = none) → ∀ b ∈ fp, FpOk (X.blk s3 H3 scope ce fp) [] H' b := fun I' hn b hb =>
    ⟨hn b hb, (I'.ok.exf b hb).1, I'.ok.exfs b hb, .inl hb, fun x c e => (I'.ok.exf b hb).2 x c e, fun p hp => nomatch (show p ∈ ([] : List (Addr × Obj)) from by simpa using hp)⟩
  have loop : codeAny (model X.prog X.w) X.A (.compLoop (.DictComp kx vx [⟨tg, iter, ifs, 0⟩] scope pos) 0 (.ref it) (.ref D) ce) (compPost (model X.prog X.w) X.A X.xe use Qf (.ref D) s3.heap.objs.size) s4 := by
    refine compLoop_anyD (fun n s' => ∃ i H', Inv (X.blk s3 H3 scope ce fp) [] (wipe σ (own.map (·.2))) H' s' ∧ tn i s'.heap ∧ (∀ b ∈ fp, H' b = none) ∧ W i n H') ?_ m0 ⟨0, H3, I4, st4, fun b hb => (f3 b hb).1.1, w0⟩
    rintro n s5 ⟨i, H5, I5, st5, n5, w5⟩
    rcases turn i n H5 w5 with ⟨stop, fin⟩ | ⟨go, Nx, hNx, step⟩
    · refine thnF (T.done (X.blk s3 H3 scope ce fp) rfl rfl rfl hc i [] s5 _ H5 (fun _ _ => False) I5 (stat I5 n5) st5 stop) fun r s6 ⟨hr, I6⟩ => ?_
      subst hr
      have I7 : Inv X pins σ H5 s6 := I3.call' (ch := fp) I6.os I6.base I6.hok I6.bare fun b hb => ⟨(f3 b hb).1.2.2.2.1, (f3 b hb).1.2.1, (f3 b hb).1.2.2.2.2.1, (f3 b hb).1.2.2.2.2.2⟩
      have nC : H5 s3.heap.objs.size = none := by rw [← cL]; exact I6.free
      obtain ⟨m, hn, _⟩ := I6.loc
      have hn' : s6.heap.Ns s3.heap.objs.size m := by rw [← cL]; exact hn
      exact hRR D s3.heap.objs.size s6 m H5 I7 fin hn' (I3.fpOk (Nat.le_refl s3.heap.objs.size) nC)
    · refine thnF (T.item (X.blk s3 H3 scope ce fp) rfl rfl rfl hc i [] s5 _ H5 (fun _ _ => False) I5 (stat I5 n5) st5 go) fun r s6 ⟨u, hr, h6⟩ => ?_
      subst hr
      refine thnF h6 fun _ s7 ⟨x, H7, I7, r7, y7, st7, n7⟩ => ?_
      refine thnF (pg.run _ s7 _ H7 x u _ (I7.pinned (stat I7 n7) (T.obj _ _ st7)) r7 (step x H7 y7)) fun _ s8 ⟨σ8, H8, I8, hw8, q8⟩ => ?_
      refine thnF (pt.run _ s8 σ8 H8 _ I8 q8) fun b s9 ⟨H9, I9, q9⟩ => ?_
      have next : ∀ {s' : Shared} {H' : Hp}, Inv (X.blk s3 H3 scope ce fp) ([] ++ pinsAt fp s7.heap) σ8 H' s' → Nx H' →
          ∃ m, m < n ∧ ∃ i H', Inv (X.blk s3 H3 scope ce fp) [] (wipe σ (own.map (·.2))) H' s' ∧ tn i s'.heap ∧ (∀ b ∈ fp, H' b = none) ∧ W i m H' := fun {s' H'} I' nx => by
        obtain ⟨m', hm, w'⟩ := hNx H' nx
        have at' : ∀ b ∈ fp, ∀ o, s7.heap.get? b = some o → s'.heap.get? b = some o ∧ H' b = none := fun b hb o e =>
          let z := I'.pin (b, o) (List.mem_append_right _ (List.mem_append_right _ (mem_pinsAt hb e)))
          ⟨z.1, z.2.1⟩
        refine ⟨m', hm, i + 1, H', (I'.unpinned (pins := [])).weak (by rw [← hw8, wipe_length]) (fun j v e => (wipe_some (by rw [hw8]; exact e)).1), T.keep _ _ _ st7 fun b hb o e => (at' b hb o e).1, fun b hb => ?_, w'⟩
        obtain ⟨o, e, _⟩ := T.obj _ _ st7 b hb
        exact (at' b hb o e).2
      cases b with
      | false => exact next I9 q9
      | true =>
        refine thnF (pk.run _ s9 σ8 H9 _ I9 q9) fun z s10 ⟨yk, H10, I10, r10, q10⟩ => ?_
        refine thnF (pv'.run _ s10 σ8 H10 _ I10 q10) fun z2 s11 ⟨yv, H11, I11, r11, ev, xs, r, a, ek, hD, hz, rk, all, nx⟩ => ?_
        subst ev
        subst ek
        cases r10
        cases r11
        exact dk_set (X := X.blk s3 H3 scope ce fp) I11 hD hz hu rk all fun s12 I12 => next I12 nx
  rw [goal4]
  exact codeAny_compStart_dict loop (T.self X.A 0 _ _ _ st4 loop)
theorem pe_dcR0 (hc : X.calm = true) (hN : X.N.Nodup) (hu : X.A.units + 8 < cLine) (hi : PI X tg iter wi) (ok : BlkOk X.N X.env.scope scope own)
    (hg : ∀ s H C cl fp, PG (X.blk s H scope (compEnvC scope cl C X.env) fp) tg g) (ht : ∀ s H C cl fp, PTs (X.blk s H scope (compEnvC scope cl C X.env) fp) ifs tt)
    (hk : ∀ s H C cl fp, PE (X.blk s H scope (compEnvC scope cl C X.env) fp) kx tk) (he : ∀ s H C cl fp, PE (X.blk s H scope (compEnvC scope cl C X.env) fp) vx tv) (hs : ∀ x, foldedSetIterable iter X.env x = pure x) :
    PE X (.DictComp kx vx [⟨tg, iter, ifs, 0⟩] scope pos) (tDcR X.prog X.w X.K wi g tt tk tv (own.map (·.2))) := by
  refine ⟨fun pins s σ H Q I h => ?_⟩
  rw [arm_eval_DictComp]
  refine dcR_core hc hN I hu hi ok hg ht hk he hs h fun D C s' m H' I' q hn f => ⟨m, hn, fun h'' sb => ?_⟩
  obtain ⟨f0, f1, f2, f3, f4, f5⟩ := f
  exact ⟨.ref D, H', I'.turned (t' := s'.toks) (fun b o hb e => (sb.2 b hb).trans e) f0 f1 f3 f4 f5, rfl, q⟩
/-- name = {..}, the name a local, on one line -/
theorem ps_setDcR0 {i : Nat} {y : Str} {py spos : Pos} (hc : X.calm = true) (hN : X.N.Nodup) (hy : X.N[i]? = some y) (hyl : X.env.scope.names.lookup y = some .local) (hsw : swapsWith (.DictComp kx vx [⟨tg, iter, ifs, 0⟩] scope pos) (some (.Name y py)) spos.line X.env = pure true)
    (hu : X.A.units + 8 < cLine) (hi : PI X tg iter wi) (ok : BlkOk X.N X.env.scope scope own)
    (hg : ∀ s H C cl fp, PG (X.blk s H scope (compEnvC scope cl C X.env) fp) tg g) (ht : ∀ s H C cl fp, PTs (X.blk s H scope (compEnvC scope cl C X.env) fp) ifs tt)
    (hk : ∀ s H C cl fp, PE (X.blk s H scope (compEnvC scope cl C X.env) fp) kx tk) (he : ∀ s H C cl fp, PE (X.blk s H scope (compEnvC scope cl C X.env) fp) vx tv) (hs : ∀ x, foldedSetIterable iter X.env x = pure x) :
    PS X (.Assign [.Name y py] (.DictComp kx vx [⟨tg, iter, ifs, 0⟩] scope pos) spos) (tAsg (tDcR X.prog X.w X.K wi g tt tk tv (own.map (·.2))) (gName i)) := by
  refine ⟨fun pins s σ H D I h => ?_⟩
  rw [exec_Assign_Name_used _ _ _ _ hsw]
  refine wpAny_bind (wpAny_standAt (wpAny_bind ?_))
  show wpAny _ X.A (do let _ ← comprehension (.DictComp kx vx [⟨tg, iter, ifs, 0⟩] scope pos) scope X.env (firstIterPos [⟨tg, iter, ifs, 0⟩] pos) newDict false (eval iter X.env) (some (assign (.Name y py) X.env))) _ _ s
  have h : tDcR X.prog X.w X.K wi g tt tk tv (own.map (·.2)) σ H (fun x H1 => gName i x σ H1 D.nx) := h
  refine wpAny_bind (thn (dcR_core (Qf := fun _ s' => SP X pins D .next s') hc hN I hu hi ok hg ht hk he hs h fun L C s' m H' I' q hn f => ?_) fun _ s' hq => wpAny_pure (wpAny_pure hq))
  obtain ⟨f0, f1, f2, f3, f4, f5⟩ := f
  show wpAny _ _ (assign (.Name y py) X.env (.ref L)) _ _ _
  refine wpAny_assign_Name (store_ok2 (v := V.ref L) I' hN hy (.inl hyl) rfl (fun s2 I2 ⟨a, sb, ha⟩ => ?_) (.inr hyl))
  have apart : C ≠ a := ha.elim (fun z => by rw [z]; exact f1) fun z e => f4 y a z e.symm
  exact ⟨m, hn.sameBut sb apart, fun h3 sb3 => ⟨_, H', I2.turned (t' := s2.toks) (fun b o hb e => (sb3.2 b hb).trans e) f0 f1 f3 f4 f5, q⟩⟩
theorem sw_dict {kx vx : Expr} {gs : List Comprehension} {scope : Scope} {pos py : Pos} {y : Str} {l : Nat} {env : Env} (hk : env.scope.kind = .function) (hy : env.scope.names.lookup y = some .local) (hl : (py.line == pos.line) = true)
    (ha : (scope.names.any fun (n, k) => n == y && (k == .local || k == .cell)) = false) : swapsWith (.DictComp kx vx gs scope pos) (some (.Name y py)) l env = pure true := by
  have hb : env.blockKind = .function := by unfold Env.blockKind; rw [hk]; rfl
  unfold swapsWith
  simp only [hb, show env.kindOf y = some .local from hy, ha, Expr.pos, hl]
  rfl
end
end K8
set_option maxRecDepth 100000
set_option maxHeartbeats 4000000
namespace K8
open PySem PySem.Spec PyProof.Rows L2
/-! ### sorted over data -/
mutual
theorem reads_lt {h : Heap} : ∀ {v : Value} {d : PyData} {as : List Addr}, Reads h v d as → ∀ a ∈ as, a < h.objs.size
  | _, _, _, .none => fun _ z => nomatch z
  | _, _, _, .bool _ => fun _ z => nomatch z
  | _, _, _, .int _ _ => fun _ z => nomatch z
  | _, _, _, .str _ _ => fun _ z => nomatch z
  | _, _, _, .list h1 _ _ h4 => fun a z => (List.mem_cons.mp z).elim (fun e => e ▸ Heap.lt_size h1) (readsAll_lt h4 a)
  | _, _, _, .tuple _ _ _ h4 => readsAll_lt h4
  | _, _, _, .dict h1 _ _ h4 h5 => fun a z => (List.mem_append.mp z).elim (fun z => (List.mem_cons.mp z).elim (fun e => e ▸ Heap.lt_size h1) (readsAll_lt h4 a)) (readsAll_lt h5 a)
theorem readsAll_lt {h : Heap} : ∀ {vs : List Value} {ds : List PyData} {as : List Addr}, ReadsAll h vs ds as → ∀ a ∈ as, a < h.objs.size
  | _, _, _, .nil => fun _ z => nomatch z
  | _, _, _, .cons h1 h2 => fun a z => (List.mem_append.mp z).elim (reads_lt h1 a) (readsAll_lt h2 a)
end
/-- pairs of a value and its datum, in the order of the data -/
abbrev sortB (bs : List (V × PyData)) : List (V × PyData) := bs.mergeSort (PySem.W.dataLe false fun b => b.2)
structure SortOk (K : PySem.W.Frag) (H : Hp) (bs : List (V × PyData)) : Prop where
  dp : ∀ b ∈ bs, Dp K H b.1 b.2
  al : PySem.W.AllAlike (bs.map (·.2))
  so : PySem.W.Sortable (bs.map (·.2))
  dep : ∀ b ∈ bs, b.2.depth ≤ 32
  len : bs.length ≤ 1000000
theorem each_of_vals : ∀ {bs : List (V × PyData)} {vs : List Value}, Vals (bs.map (·.1)) vs → PySem.W.EachIs (fun v b => RelV b.1 v) vs bs
  | [], _, h => by cases h; exact .nil
  | b :: bs, _, h => by
    cases h with
    | cons a t => exact .cons a (each_of_vals t)
theorem vals_of_each : ∀ {bs : List (V × PyData)} {vs : List Value}, PySem.W.EachIs (fun v b => RelV b.1 v) vs bs → Vals (bs.map (·.1)) vs
  | _, _, .nil => .nil
  | _, _, .cons a t => .cons a (vals_of_each t)
theorem each_and {R S : Value → V × PyData → Prop} : ∀ {bs : List (V × PyData)} {vs : List Value}, PySem.W.EachIs R vs bs → (∀ v b, b ∈ bs → R v b → S v b) → PySem.W.EachIs S vs bs
  | _, _, .nil, _ => .nil
  | _, _, .cons a t, f => .cons (f _ _ List.mem_cons_self a) (each_and t fun v b hb r => f v b (List.mem_cons_of_mem _ hb) r)
section
variable {X : Cx} {pins : List (Addr × Obj)} {σ : L2.St} {H : Hp} {s : Shared} {Q : VK}
/-- behind the collecting: the new list of the values, its sort -/
theorem sort_tail {A : Around} {vs : List Value} {bs : List (V × PyData)} {a : Addr} {n : Nat} {E : Value → Shared → Prop} {R : Value → Shared → Prop} (I : Inv X pins σ H s) (rv : Vals (bs.map (·.1)) vs) (ok : SortOk X.K H bs) (hu : A.units + 64 < cLine)
    (h : ∀ s', Inv X pins σ (upd H s.heap.objs.size (.lst ((sortB bs).map (·.1)))) s' → R .none s') :
    wpAny (model X.prog X.w) A (call (.builtin "list.sort") [.ref s.heap.objs.size]) R E { s with heap := s.heap.push (seqObj "list" vs.toArray 0) } := by
  have e := each_of_vals rv
  have ho : (s.heap.push (seqObj "list" vs.toArray 0)).get? s.heap.objs.size = some (seqObj "list" vs.toArray 0) := Heap.get?_push_size _ rfl
  have er : PySem.W.EachIs (fun v b => ∃ as, Reads (s.heap.push (seqObj "list" vs.toArray 0)) v b.2 as ∧ s.heap.objs.size ∉ as) vs bs := each_and e fun v b hb r => by
    obtain ⟨as, q⟩ := Dp.reads I b.2 b.1 v (ok.dp b hb) r
    exact ⟨as, PyProof.Rows.Reads.keeps (fun b o e => Heap.get?_push_of_some _ e) q, fun z => Nat.lt_irrefl _ (reads_lt q _ z)⟩
  have hL : bs.length ≤ sizeLine := Nat.le_trans ok.len (by decide)
  refine PySem.W.list_sort_data (s := { s with heap := s.heap.push (seqObj "list" vs.toArray 0) }) (enc := fun b : V × PyData => b.2) ho e er ok.al ok.so hL (fun b hb => by have := ok.dep b hb; omega) fun out hl eo => ?_
  obtain ⟨c, hc⟩ := sortedHeap_at (vs := vs) (out := out.toArray) ho
  refine h _ (I.laid (t' := s.toks) (fun b u q => ?_) (Nat.le_refl _) ?_)
  · have lt := Heap.lt_size q
    show (sortedHeap (s.heap.push (seqObj "list" vs.toArray 0)) s.heap.objs.size vs out.toArray).get? b = some u
    rw [sortedHeap_old (Nat.ne_of_lt lt) (by rw [size_push']; exact Nat.lt_succ_of_lt lt)]
    exact Heap.get?_push_of_some _ q
  · refine ⟨?_, out, c, vals_of_each eo, hc⟩
    rw [List.length_map, List.length_mergeSort]
    exact hL
/-- sorted(v): what collecting v gives, sorted -/
theorem sorted_any {v : Value} (hu : X.A.units + 65 < cLine) (hc : wpAny (model X.prog X.w) X.A.in1 (collect v) (fun vs s' => ∃ (bs : List (V × PyData)) (H1 : Hp), Inv X pins σ H1 s' ∧ Vals (bs.map (·.1)) vs ∧ SortOk X.K H1 bs ∧
      ∀ p, H1 p = none → Q (.ref p) (upd H1 p (.lst ((sortB bs).map (·.1))))) X.xe s) : wpAny (model X.prog X.w) X.A (call (.builtin "sorted") [v]) (EP X pins σ Q) X.xe s := by
  refine Calls.call_function_entry PyProof.Rows.kind_sorted PyProof.Rows.plain_sorted PyProof.Rows.entry_sorted (PyProof.Rows.args_sorted1 _) ?_
  unfold Builtin.«sorted»
  refine wpAny_bind (m := checkCount "sorted" 1 1 _) (wpAny_pure ?_)
  refine wpAny_bind (thn hc fun vs s' h => ?_)
  obtain ⟨bs, H1, I, rv, ok, q⟩ := h
  have hL : vs.length ≤ sizeLine := by
    rw [← rv.length, List.length_map]
    exact Nat.le_trans ok.len (by decide)
  refine wpAny_bind (wpAny_newList ?_ hL)
  have hu1 : X.A.in1.units + 64 < cLine := by rw [Around.in1_units]; omega
  show wpAny _ _ _ _ _ { s' with heap := s'.heap.push (seqObj "list" vs.toArray 0) }
  refine wpAny_bind (wpAny_holding (sort_tail (a := s'.heap.objs.size) (n := 0) I rv ok hu1 fun s2 J => ?_))
  exact wpAny_pure ⟨_, rfl, .ref s'.heap.objs.size, _, J, rfl, q _ (I.hok.fresh (Nat.le_refl _))⟩
end
end K8
set_option maxRecDepth 100000
set_option maxHeartbeats 4000000
namespace K8
open PySem PySem.Spec PyProof.Rows L2
/-! ### sorted(list of data) -/
def rSortD (K : PySem.W.Frag) : List V → Hp → VK → Prop := fun xs H Q => ∃ (a : Addr) (bs : List (V × PyData)), xs = [.ref a] ∧ SqL K H a (bs.map (·.1)) ∧ SortOk K H bs ∧ ∀ p, H p = none → Q (.ref p) (upd H p (.lst ((sortB bs).map (·.1))))
/-- sorted(a dict of rules) -/
def rSortDk (P : Program) (w : World) (K : PySem.W.Frag) : List V → Hp → VK → Prop := fun vs H Q => ∃ (a : Addr) (xs : List (Rule × Addr)), vs = [.ref a] ∧ H a = some (DkO P w a xs) ∧ xs.length ≤ 1000000 ∧ (∀ x ∈ xs, RK K H x.2 x.1) ∧
  ∀ p, H p = none → Q (.ref p) (upd H p (.lst ((sortB (xs.map fun x => (V.ref x.2, encP x.1))).map (·.1))))
def rLenDk (P : Program) (w : World) : List V → Hp → VK → Prop := fun vs H Q => ∃ (a : Addr) (xs : List (Rule × Addr)), vs = [.ref a] ∧ H a = some (DkO P w a xs) ∧ xs.length ≤ 1000000 ∧ Q (.int xs.length) H
theorem alike_strs : ∀ a b : List Str, PySem.W.alikeAll (a.map PyData.str) (b.map PyData.str) = true
  | [], _ => by simp [PySem.W.alikeAll]
  | _ :: _, [] => by simp [PySem.W.alikeAll]
  | x :: a, y :: b => by simp [PySem.W.alikeAll, PySem.W.alike, alike_strs a b]
theorem depth_strs : ∀ a : List Str, PyData.depthAll (a.map PyData.str) = 0
  | [] => rfl
  | x :: a => by simp [PyData.depthAll, PyData.depth, depth_strs a]
theorem alike_P (r q : Rule) : PySem.W.alike (encP r) (encP q) = true := by simp [encP, PySem.W.alike, PySem.W.alikeAll, alike_strs]
theorem alike_L (r q : Rule) : PySem.W.alike (encL r) (encL q) = true := by simp [encL, PySem.W.alike, PySem.W.alikeAll, alike_strs]
theorem depth_P (r : Rule) : (encP r).depth ≤ 32 := by simp [encP, PyData.depth, PyData.depthAll, depth_strs]
theorem depth_L (r : Rule) : (encL r).depth ≤ 32 := by simp [encL, PyData.depth, PyData.depthAll, depth_strs]
theorem sortOk_of {α : Type} {K : PySem.W.Frag} {H : Hp} {f : α → V × PyData} {xs : List α} (h : ∀ x ∈ xs, Dp K H (f x).1 (f x).2) (al : ∀ x y, PySem.W.alike (f x).2 (f y).2 = true) (tu : (∀ x, ∃ d r, (f x).2 = .tuple (d :: r)) ∨ (∀ x, (f x).2 ≠ .none ∧ ∀ xs, (f x).2 ≠ .tuple xs)) (dp : ∀ x, (f x).2.depth ≤ 32) (hl : xs.length ≤ 1000000) : SortOk K H (xs.map f) := by
  refine ⟨fun b hb => ?_, fun d hd d' hd' => ?_, ?_, fun b hb => ?_, by rw [List.length_map]; exact hl⟩
  · obtain ⟨x, hx, rfl⟩ := List.mem_map.mp hb
    exact h x hx
  · rw [List.map_map] at hd hd'
    obtain ⟨x, _, rfl⟩ := List.mem_map.mp hd
    obtain ⟨y, _, rfl⟩ := List.mem_map.mp hd'
    exact al x y
  · rw [List.map_map]
    rcases tu with tu | tu
    · refine .inl fun d hd => ?_
      obtain ⟨x, _, rfl⟩ := List.mem_map.mp hd
      exact tu x
    · refine .inr fun d hd => ?_
      obtain ⟨x, _, rfl⟩ := List.mem_map.mp hd
      exact tu x
  · obtain ⟨x, _, rfl⟩ := List.mem_map.mp hb
    exact dp x
theorem RK.dp {K : PySem.W.Frag} {H : Hp} {a : Addr} {r : Rule} (h : RK K H a r) : Dp K H (.ref a) (encP r) := by
  obtain ⟨t, h1, h2⟩ := h
  exact .tup h1 (.cons (.str _) (.cons (.tup h2 (dp_strs _)) .nil))
section
variable {X : Cx} {pins : List (Addr × Obj)} {σ : L2.St} {H : Hp} {s : Shared}
theorem ins_kept {h' : Heap} {tk : Nat} (I : Inv X pins σ H s) (k : ∀ b o, s.heap.get? b = some o → h'.get? b = some o) : Inv X pins σ H { s with heap := h', toks := tk } := I.kept k
theorem c_sortD (hu : X.A.units + 65 < cLine) : CallR X (.builtin "sorted") (rSortD X.K) := by
  intro pins s σ H xs us Q I r h
  obtain ⟨a, bs, rfl, ha, ok, q⟩ := h
  obtain ⟨u, rfl, ru⟩ := r.one
  obtain rfl : u = Value.ref a := ru
  obtain ⟨its, rv, hl, hz⟩ := I.list ha
  refine sorted_any hu (collect_list hl.isList ?_ (by rw [← rv.length]; exact hz))
  refine ⟨bs, H, ins_kept (tk := s.toks) I fun b o e => ?_, rv, ok, q⟩
  rw [Heap.get?_update_ne _ _ _ _ (Nat.ne_of_lt (Heap.lt_size e))]
  exact Heap.get?_push_of_some _ e
theorem row_entry {P : Program} {w : World} {es : Array DictEntry} {xs : List (Rule × Addr)} (h : es.toList = (xs.map rowH).map (entryOfKey (nestedKind P w))) : es.size = xs.length ∧ ∀ j (hj : j < es.size), ∃ x : Rule × Addr, xs[j]? = some x ∧ (es[j]'hj).key = Value.ref x.2 := by
  have hl : es.size = xs.length := by rw [← Array.length_toList, h]; simp
  refine ⟨hl, fun j hj => ?_⟩
  have hx : j < xs.length := by omega
  refine ⟨xs[j], List.getElem?_eq_getElem hx, ?_⟩
  have e : es.toList[j]? = ((xs.map rowH).map (entryOfKey (nestedKind P w)))[j]? := by rw [h]
  rw [List.getElem?_map, List.getElem?_map, List.getElem?_eq_getElem hx, List.getElem?_eq_getElem (by simpa using hj)] at e
  have e2 : es[j] = entryOfKey (nestedKind P w) (rowH xs[j]) := by simpa using Option.some.inj e
  rw [e2]
  rfl
theorem vals_rows {xs : List (Rule × Addr)} {l : List Value} (hl : l.length = xs.length) (h : ∀ (j : Nat) v, l[j]? = some v → ∃ x : Rule × Addr, xs[j]? = some x ∧ v = Value.ref x.2) : Vals ((xs.map fun x => (V.ref x.2, encP x.1)).map (·.1)) l := by
  induction xs generalizing l with
  | nil =>
    cases l with
    | nil => exact .nil
    | cons _ _ => simp at hl
  | cons x xs ih =>
    cases l with
    | nil => simp at hl
    | cons v l =>
      obtain ⟨y, e1, e2⟩ := h 0 v (by simp)
      have e1' : x = y := by simpa using e1
      subst e1'
      exact .cons e2 (ih (by simpa using hl) fun j v e => by simpa using h (j + 1) v (by simpa using e))
theorem c_sortDk (hc : X.calm = true) (hu : X.A.units + 65 < cLine) : CallR X (.builtin "sorted") (rSortDk X.prog X.w X.K) := by
  intro pins s σ H xs us Q I r h
  obtain ⟨a, ys, rfl, ha, hl, hk, q⟩ := h
  obtain ⟨u, rfl, ru⟩ := r.one
  obtain rfl : u = Value.ref a := ru
  obtain ⟨⟨d0, o, es, ep, d1, d2, d3, d4, d5⟩, _, _⟩ := I.hok a _ ha
  obtain ⟨hs, he⟩ := row_entry d4
  refine sorted_any hu (PySem.W.kdu_collect (A := X.A.in1) (PySem.KdlSrc.rawDict (es := es) (ep := ep) d0) (I.ok.hd hc) ⟨o, d1, d2, d3⟩ (by rw [hs]; exact Nat.le_trans hl (by decide)) fun h' tk acc kp hacc => ?_)
  refine ⟨ys.map fun x => (V.ref x.2, encP x.1), H, ins_kept I kp, vals_rows (by rw [Array.length_toList, hacc.1, hs]) (fun j v e => ?_), sortOk_of (fun x hx => (hk x hx).dp) (fun x y => alike_P _ _) (.inl fun x => ⟨_, _, rfl⟩) (fun x => depth_P _) hl, q⟩
  obtain ⟨hj, ev⟩ := hacc.2 j v (by rw [← Array.getElem?_toList]; exact e)
  obtain ⟨x, e1, e2⟩ := he j hj
  exact ⟨x, e1, by rw [ev, e2]⟩
end
section
variable {X : Cx} (K : PySem.W.Frag) {e : Expr} {te : TE} {p pos : Pos}
theorem eSortD (hu : X.A.units + 65 < cLine) (hm : X.mg "sorted" = none) (ha : PE X e te) (h : X.K = K := by rfl) (hg : Gl X "sorted" := by rfl) (he : starEach [e] X.env = (false, eval e X.env) :: starEach [] X.env := by rfl) (hpl : (backTo pos (starEach [] X.env)).any (·.1) = false := by rfl) :
    PE X (.Call (.Name "sorted" p) [e] [] pos) (tCB (rSortD K) (tCons te tNil)) := by subst h; exact pe_callB (c_sortD hu) hg hm PyProof.Rows.boot_sorted (pa_cons ha pa_nil he) (by decide) (by decide) he hpl
theorem eSortDk (P : Program) (w : World) (hc : X.calm = true) (hu : X.A.units + 65 < cLine) (hm : X.mg "sorted" = none) (ha : PE X e te) (h : X.K = K := by rfl) (h1 : X.prog = P := by rfl) (h2 : X.w = w := by rfl) (hg : Gl X "sorted" := by rfl) (he : starEach [e] X.env = (false, eval e X.env) :: starEach [] X.env := by rfl) (hpl : (backTo pos (starEach [] X.env)).any (·.1) = false := by rfl) :
    PE X (.Call (.Name "sorted" p) [e] [] pos) (tCB (rSortDk P w K) (tCons te tNil)) := by subst h h1 h2; exact pe_callB (c_sortDk hc hu) hg hm PyProof.Rows.boot_sorted (pa_cons ha pa_nil he) (by decide) (by decide) he hpl
variable {kx vx tg iter : Expr} {ifs : List Expr} {scope : Scope} {own : List (Str × Nat)} {wi : TI} {g : TG} {tt : TT} {tk tv : TE}
theorem eDcR (P : Program) (w : World) (hc : X.calm = true) (hN : X.N.Nodup) (hu : X.A.units + 8 < cLine) (hi : PI X tg iter wi) (ok : BlkOk X.N X.env.scope scope own)
    (hg : ∀ s H C cl fp, PG (X.blk s H scope (compEnvC scope cl C X.env) fp) tg g) (ht : ∀ s H C cl fp, PTs (X.blk s H scope (compEnvC scope cl C X.env) fp) ifs tt)
    (hk : ∀ s H C cl fp, PE (X.blk s H scope (compEnvC scope cl C X.env) fp) kx tk) (he : ∀ s H C cl fp, PE (X.blk s H scope (compEnvC scope cl C X.env) fp) vx tv) (h : X.K = K := by rfl) (h1 : X.prog = P := by rfl) (h2 : X.w = w := by rfl) (hs : ∀ x, foldedSetIterable iter X.env x = pure x := by intro _; rfl) :
    PE X (.DictComp kx vx [⟨tg, iter, ifs, 0⟩] scope pos) (tDcR P w K wi g tt tk tv (own.map (·.2))) := by subst h h1 h2; exact pe_dcR0 hc hN hu hi ok hg ht hk he hs
end
end K8
set_option maxRecDepth 100000
set_option maxHeartbeats 4000000
namespace K8
open PySem PySem.Spec PyProof.Rows L2
/-! ### what is walked is a list or a tuple -/
def iSqI (K : PySem.W.Frag) (x : V) (H1 : Hp) (R : It → Hp → Prop) : Prop := ∃ a, x = .ref a ∧ (((∃ xs, SqL K H1 a xs) ∧ R (Itl K a) H1) ∨ ((∃ xs, SqT K H1 a xs) ∧ R (Itt K a) H1))
def iSq (K : PySem.W.Frag) (tl : TE) : TI := fun σ H R => tl σ H fun x H1 => iSqI K x H1 R
theorem iSq_of {K : PySem.W.Frag} {H1 : Hp} {a : Addr} {xs : List V} {R : It → Hp → Prop} (h : SqA K H1 a xs) (main : ∀ (J : It) (G : Hp → Prop), Walk J xs.length G (YAt xs) → (∀ H, Same H1 H → G H) → R J H1) : iSqI K (.ref a) H1 R := by
  rcases h with h | h
  · exact ⟨a, rfl, .inl ⟨⟨_, h⟩, main _ _ walk_list fun H s => s.seq h⟩⟩
  · exact ⟨a, rfl, .inr ⟨⟨_, h⟩, main _ _ walk_tup fun H s => sSeqT s h⟩⟩
section
variable {X : Cx} (K : PySem.W.Frag) {tg l : Expr} {tl : TE}
theorem pi_sq0 (hl : PE X l tl) : PI X tg l (iSq X.K tl) := by
  refine ⟨fun pins s σ H R I h => thn (hl.run pins s σ H _ I h) fun v s1 ⟨x, H1, I1, r1, a, e, q⟩ => ?_⟩
  subst e
  cases r1
  rcases q with ⟨⟨xs, hq⟩, q⟩ | ⟨⟨xs, hq⟩, q⟩
  · obtain ⟨its, rv, p, hz⟩ := I1.list hq
    refine wpAny_pyIter_list p.isList ⟨s1.heap.objs.size, [s1.heap.objs.size], _, _, H1, rfl, I1.kept (t' := s1.toks) fun b o e => Heap.get?_push_of_some _ e, turn_list a _, ⟨_, Heap.get?_push_size _ rfl, rfl, rfl⟩, fun b hb => ?_, q⟩
    rw [List.mem_singleton.mp hb]
    exact I1.fpOk (Nat.le_refl _) (I1.hok.fresh (Nat.le_refl _))
  · obtain ⟨its, rv, p, hz⟩ := I1.tuple hq
    refine wpAny_pyIter_tuple (show s1.heap.IsTuple a its.toArray from p) ⟨s1.heap.objs.size, [s1.heap.objs.size], _, _, H1, rfl, I1.kept (t' := s1.toks) fun b o e => Heap.get?_push_of_some _ e, turn_tuple a _, ⟨_, Heap.get?_push_size _ rfl, rfl, rfl⟩, fun b hb => ?_, q⟩
    rw [List.mem_singleton.mp hb]
    exact I1.fpOk (Nat.le_refl _) (I1.hok.fresh (Nat.le_refl _))
theorem iQ (hl : PE X l tl) (h : X.K = K := by rfl) : PI X tg l (iSq K tl) := by subst h; exact pi_sq0 hl
end
/-! ### len of a dict of rules -/
theorem c_lenDk {X : Cx} : CallR X (.builtin "len") (fun vs H Q => ∃ (a : Addr) (xs : List (Rule × Addr)), vs = [.ref a] ∧ H a = some (DkO X.prog X.w a xs) ∧ xs.length ≤ 1000000 ∧ (∀ x ∈ xs, RK X.K H x.2 x.1) ∧ Q (.int xs.length) H) := by
  intro pins s σ H xs us Q I r h
  obtain ⟨a, ys, rfl, ha, hl, hk, q⟩ := h
  obtain ⟨u, rfl, ru⟩ := r.one
  obtain rfl : u = Value.ref a := ru
  obtain ⟨⟨d0, o, es, ep, d1, d2, d3, d4, d5⟩, _, _⟩ := I.hok a _ ha
  have dd : s.heap.DictOfH (nestedKind X.prog X.w) a (ys.map rowH) := ⟨o, es, ep, d1, d2, d3, d4, fun y hy => by
    obtain ⟨x, hx, rfl⟩ := List.mem_map.mp hy
    exact nk_of I (hk x hx), d5⟩
  refine call_len_dictH d0 dd (by rw [List.length_map]; omega) ?_
  rw [List.length_map]
  exact ⟨.int ((ys.length : Nat) : Int), H, I.tok _, ⟨_, rfl⟩, q⟩
def rLenR (P : Program) (w : World) (K : PySem.W.Frag) : List V → Hp → VK → Prop := fun vs H Q => ∃ (a : Addr) (xs : List (Rule × Addr)), vs = [.ref a] ∧ H a = some (DkO P w a xs) ∧ xs.length ≤ 1000000 ∧ (∀ x ∈ xs, RK K H x.2 x.1) ∧ Q (.int xs.length) H
theorem eLenR {X : Cx} (K : PySem.W.Frag) (P : Program) (w : World) {e : Expr} {te : TE} {p pos : Pos} (hm : X.mg "len" = none) (ha : PE X e te) (h : X.K = K := by rfl) (h1 : X.prog = P := by rfl) (h2 : X.w = w := by rfl) (hg : Gl X "len" := by rfl) (he : starEach [e] X.env = (false, eval e X.env) :: starEach [] X.env := by rfl) (hpl : (backTo pos (starEach [] X.env)).any (·.1) = false := by rfl) :
    PE X (.Call (.Name "len" p) [e] [] pos) (tCB (rLenR P w K) (tCons te tNil)) := by subst h h1 h2; exact pe_callB c_lenDk hg hm PySem.boot_len (pa_cons ha pa_nil he) (by decide) (by decide) he hpl
/-! ### a dict of rules, made turn by turn -/
theorem putR_nd {xs : List (Rule × Addr)} {r : Rule} {a : Addr} (h : (xs.map (·.1)).Nodup) : ((putR xs r a).map (·.1)).Nodup := by
  unfold putR
  split
  · exact h
  · rename_i n
    rw [List.map_append]
    refine List.nodup_append.mpr ⟨h, by simp, fun x hx y hy e => ?_⟩
    have hy' : y = r := by simpa using hy
    exact n (by rw [← hy', ← e]; exact hx)
theorem putR_mem {xs : List (Rule × Addr)} {r q : Rule} {a : Addr} : q ∈ (putR xs r a).map (·.1) ↔ q ∈ xs.map (·.1) ∨ q = r := by
  unfold putR
  split
  · rename_i h
    exact ⟨.inl, fun z => z.elim id fun e => e ▸ h⟩
  · simp
theorem putR_all {xs : List (Rule × Addr)} {r : Rule} {a : Addr} {F : Rule × Addr → Prop} (h : ∀ x ∈ xs, F x) (hr : F (r, a)) : ∀ x ∈ putR xs r a, F x := by
  unfold putR
  split
  · exact h
  · intro x hx
    rcases List.mem_append.mp hx with hx | hx
    · exact h x hx
    · rw [List.mem_singleton.mp hx]
      exact hr
theorem putR_len {xs : List (Rule × Addr)} {r : Rule} {a : Addr} : (putR xs r a).length ≤ xs.length + 1 := by
  unfold putR
  split
  · exact Nat.le_succ _
  · simp
theorem sqT_hid {K : PySem.W.Frag} {H : Hp} {D a : Addr} {xs : List V} {φ : Heap → Prop} (h : SqT K H a xs) (hD : H D = some (.ext φ)) : SqT K (hid [D] H) a xs := by
  rcases h with (h | ⟨o, h⟩) | h
  · exact .inl (.inl (hid_get (fun z => by rw [List.mem_singleton.mp z, hD] at h; cases h) h))
  · exact .inl (.inr ⟨o, hid_get (fun z => by rw [List.mem_singleton.mp z, hD] at h; cases h) h⟩)
  · exact .inr h
theorem rk_hid {K : PySem.W.Frag} {H : Hp} {P : Program} {w : World} {D a : Addr} {r : Rule} {xs : List (Rule × Addr)} (h : RK K H a r) (hD : H D = some (DkO P w D xs)) : RK K (hid [D] H) a r :=
  let ⟨t, h1, h2⟩ := h
  ⟨t, sqT_hid h1 hD, sqT_hid h2 hD⟩
theorem dc_r {P : Program} {w : World} {K : PySem.W.Frag} {J : It} {n : Nat} {G : Hp → Prop} {Y : Nat → Hp → V → Hp → Prop} (wk : Walk J n G Y) {g : TG} {tk : TE} {vs : List Nat} {σ : L2.St} {H1 : Hp} {D : Addr} {Qd : Hp → Prop}
    (nD : H1 D = none) (hn : n ≤ 1000000) (rs : Nat → Rule) (hG : ∀ H, Same H1 H → G H)
    (hs : ∀ i x H H' (k : VK), i < n → Same H1 H → Y i H x H' → (∀ a H4, Same H H4 → RK K H4 a (rs i) → k (.ref a) H4) → g x (wipe σ vs) H' fun σ2 H2 => wipe σ2 vs = wipe σ vs ∧ tk σ2 H2 k)
    (hd : ∀ H xs, Same H1 H → H D = some (DkO P w D xs) → (∀ x ∈ xs, RK K (hid [D] H) x.2 x.1) → xs.length ≤ n → (xs.map (·.1)).Nodup → (∀ r, r ∈ xs.map (·.1) ↔ ∃ i, i < n ∧ rs i = r) → Qd H) :
    ∃ W : Nat → Nat → Hp → Prop, (∃ m, W 0 m (upd H1 D (DkO P w D []))) ∧ ∀ i m H, W i m H → (J.stop i H ∧ Qd H) ∨ (J.go i H ∧ ∃ Nx : Hp → Prop, (∀ H', Nx H' → ∃ m', m' < m ∧ W (i + 1) m' H') ∧
      ∀ x H', J.yld i H x H' → g x (wipe σ vs) H' fun σ2 H2 => wipe σ2 vs = wipe σ vs ∧ tYes σ2 H2 fun b H3 => if b = true then tk σ2 H3 fun y H4 => tC (.bl true) σ2 H4 fun z H5 => z = .bl true ∧
        ∃ xs r a, y = .ref a ∧ H5 D = some (DkO P w D xs) ∧ xs.length < sizeLine ∧ RK K H5 a r ∧ (∀ x ∈ xs, RK K H5 x.2 x.1) ∧ Nx (upd H5 D (DkO P w D (putR xs r a))) else Nx H3) := by
  have inv : ∀ i H, (∃ xs, Same (hid [] H1) (hid [D] H) ∧ H D = some (DkO P w D xs) ∧ (∀ x ∈ xs, RK K (hid [D] H) x.2 x.1) ∧ xs.length ≤ i ∧ (xs.map (·.1)).Nodup ∧ (∀ r, r ∈ xs.map (·.1) ↔ ∃ j, j < i ∧ rs j = r)) → True := fun _ _ _ => trivial
  have e0 : ∀ H : Hp, hid [] H = H := fun H => by funext b; unfold hid; rw [if_neg (by simp)]
  have out : ∀ H, Same (hid [] H1) (hid [D] H) → Same H1 H := fun H s => by rw [e0] at s; exact s.trans hid_same
  refine ⟨fun i m H => m = n - i ∧ i ≤ n ∧ ∃ xs, Same (hid [] H1) (hid [D] H) ∧ H D = some (DkO P w D xs) ∧ (∀ x ∈ xs, RK K (hid [D] H) x.2 x.1) ∧ xs.length ≤ i ∧ (xs.map (·.1)).Nodup ∧ (∀ r, r ∈ xs.map (·.1) ↔ ∃ j, j < i ∧ rs j = r),
    ⟨n, rfl, Nat.zero_le _, [], hid_push nD, upd_same, (fun _ z => by cases z), Nat.le_refl _, List.nodup_nil, fun r => ⟨(fun z => by cases z), fun ⟨j, hj, _⟩ => absurd hj (Nat.not_lt_zero _)⟩⟩, ?_⟩
  rintro i m H ⟨rfl, hi, xs, s0, hD, hk, hl, nd, mem⟩
  have s1 := out H s0
  by_cases hlt : i < n
  · refine .inr ⟨wk.goes i H hlt (hG H s1), fun H' => ∃ xs, Same (hid [] H1) (hid [D] H') ∧ H' D = some (DkO P w D xs) ∧ (∀ x ∈ xs, RK K (hid [D] H') x.2 x.1) ∧ xs.length ≤ i + 1 ∧ (xs.map (·.1)).Nodup ∧ (∀ r, r ∈ xs.map (·.1) ↔ ∃ j, j < i + 1 ∧ rs j = r),
      fun H' p => ⟨n - (i + 1), by omega, rfl, hlt, p⟩, fun x H' y => ?_⟩
    have st := hs i x H H' (fun y H4 => tC (.bl true) σ H4 fun z H5 => z = .bl true ∧ ∃ xs r a, y = .ref a ∧ H5 D = some (DkO P w D xs) ∧ xs.length < sizeLine ∧ RK K H5 a r ∧ (∀ x ∈ xs, RK K H5 x.2 x.1) ∧
      ∃ xs', Same (hid [] H1) (hid [D] (upd H5 D (DkO P w D (putR xs r a)))) ∧ (upd H5 D (DkO P w D (putR xs r a))) D = some (DkO P w D xs') ∧ (∀ x ∈ xs', RK K (hid [D] (upd H5 D (DkO P w D (putR xs r a)))) x.2 x.1) ∧ xs'.length ≤ i + 1 ∧ (xs'.map (·.1)).Nodup ∧ (∀ r, r ∈ xs'.map (·.1) ↔ ∃ j, j < i + 1 ∧ rs j = r)) hlt s1 (wk.yields i H x H' hlt (hG H s1) y) (fun a H4 s4 rk0 => ?_)
    · exact st
    · have rk : RK K (hid [D] H4) a (rs i) := rk_hid rk0 (s4 _ _ hD)
      have s5 : Same (hid [D] H) (hid [D] H4) := sHid s4
      have ek : hid [D] (upd H4 D (DkO P w D (putR xs (rs i) a))) = hid [D] H4 := hid_in List.mem_cons_self
      refine ⟨rfl, xs, rs i, a, rfl, s4 _ _ hD, Nat.lt_of_le_of_lt (Nat.le_trans hl (Nat.le_trans hi hn)) (by decide), rk.same hid_same, fun x hx => ((hk x hx).same s5).same hid_same, putR xs (rs i) a, by rw [ek]; exact s0.trans s5, upd_same, ?_, Nat.le_trans putR_len (Nat.succ_le_succ hl), putR_nd nd, fun r => ?_⟩
      · rw [ek]
        exact putR_all (fun x hx => (hk x hx).same s5) rk
      · rw [putR_mem, mem]
        constructor
        · rintro (⟨j, hj, e⟩ | e)
          · exact ⟨j, Nat.lt_succ_of_lt hj, e⟩
          · exact ⟨i, Nat.lt_succ_self _, e.symm⟩
        · rintro ⟨j, hj, e⟩
          by_cases h : j = i
          · subst h; exact .inr e.symm
          · exact .inl ⟨j, by omega, e⟩
  · have e : i = n := by omega
    subst e
    exact .inl ⟨wk.stops H (hG H s1), hd H xs s1 hD hk hl nd mem⟩
end K8
set_option maxRecDepth 100000
set_option maxHeartbeats 4000000
namespace K8
open PySem PySem.Spec PyProof.Rows L2
def encT (t : Str × List Rule) : PyData := .tuple [.str t.1, .list (t.2.map encL)]
def talkB (t : Str × List Rule) : Prop := nameB t.1 = true ∧ t.2 ≠ [] ∧ t.2.all ruleB = true ∧ t.2.Nodup ∧ t.2.length ≤ 1000000
theorem lo_talk {K : PySem.W.Frag} {H : Hp} {v : V} {t : Str × List Rule} (h : Lo K H v (encT t)) : ∃ a b xs, v = .ref a ∧ SqA K H a [.str t.1, .ref b] ∧ SqA K H b xs ∧ LoAll K H xs (t.2.map encL) := by
  cases h with
  | tup h1 h2 =>
    cases h2 with
    | cons x y =>
      cases x
      cases y with
      | cons x z =>
        cases z
        cases x with
        | lst h3 h4 => exact ⟨_, _, _, rfl, h1, h3, h4⟩
theorem lo_rule_at {K : PySem.W.Frag} {H : Hp} {xs : List V} {rs : List Rule} {i : Nat} {x : V} (h : LoAll K H xs (rs.map encL)) (hx : xs[i]? = some x) : ∃ r, rs[i]? = some r ∧ Lo K H x (encL r) := by
  obtain ⟨d, e, l⟩ := h.getI hx
  rw [List.getElem?_map] at e
  cases h : rs[i]? with
  | none => rw [h] at e; cases e
  | some r =>
    rw [h] at e
    have e' : encL r = d := Option.some.inj e
    subst e'
    exact ⟨r, rfl, l⟩
theorem perm_of_mem {α : Type} [BEq α] [LawfulBEq α] {l m : List α} (h1 : l.Nodup) (h2 : m.Nodup) (h : ∀ x, x ∈ l ↔ x ∈ m) : l.Perm m := (List.perm_ext_iff_of_nodup h1 h2).mpr h
def spIsTalk (K : PySem.W.Frag) : Sp := fun vs H Q _ => ∃ (v : V) (t : Str × List Rule), vs = [v] ∧ Lo K H v (encT t) ∧ talkB t ∧ ∀ H', Same H H' → Q (.bl true) H'
theorem sc_is_talk : FnScope ["thing", "rule"] ["thing"] (defScope s_is_talk) := ⟨rfl, rfl, rfl, by decide +kernel, rfl, by decide +kernel, by decide +kernel⟩
section
variable {P : Program} {w : World} {K : PySem.W.Frag} {mg : Str → Option Value} {base : Heap}
theorem ok_is_talk (T : Txt K mg) : FnOk P w K mg base CX0 4 T.is_talk.f T.is_talk.fd ["thing"] (spIsTalk K) := by
  have G : FnOk P w K mg base CX0 3 T.is_list.f T.is_list.fd _ (spIsList K) := (ok_is_list T).mono (by decide)
  have G2 : FnOk P w K mg base CX0 3 T.is_name.f T.is_name.fd _ spName := (ok_is_name T).mono (by decide)
  have G3 : FnOk P w K mg base CX0 3 T.is_rule.f T.is_rule.fd _ (spIsRule K) := ok_is_rule T
  have G4 : FnOk P w K mg base CX0 3 T.as_rule.f T.as_rule.fd _ (spAsRule K) := (ok_as_rule T).mono (by decide)
  refine T.is_talk.F.ok sc_is_talk (fun vs H Q E h => ?_) (fun cdv A outer s H vs Q E hr h => ?_)
  · obtain ⟨v, t, rfl, _⟩ := h
    rfl
  obtain ⟨v, ⟨n, rs⟩, rfl, hv, ⟨t1, t2, t3, t4, t5⟩, q⟩ := h
  have t5 : rs.length ≤ 1000000 := t5
  have hu8 : ∀ {A : Around}, A.units + 64 < cLine → A.units + 8 < cLine := fun h => by omega
  refine ⟨_, pss_cons (ps_if (PW.pt (pw_or (pt_not (pt_val (eC T.is_list G hr (pa_cons (pv 0) pa_nil)))) (pw_or (pt_cmpR op_ne (eLen K T.z_len (pv 0)) pe_int (nomark _)) (pw_or (pt_not (pt_val (eC T.is_name G2 hr (pa_cons (pe_ix (ixQ K) (pv 0) pe_int (fun _ _ => rfl)) pa_nil))))
      (pw_or1 (pt_not (pt_val (eC T.is_list G hr (pa_cons (pe_ix (ixQ K) (pv 0) pe_int (fun _ _ => rfl)) pa_nil))))))))) (pss_one (ps_ret pe_bl)) pss_nil)
    (pss_cons (ps_if (PW.pt (pw_or (pt_cmpR op_eq (eLen K T.z_len (pe_ix (ixQ K) (pv 0) pe_int (fun _ _ => rfl))) pe_int (nomark _)) (pw_or1 (pt_not (pt_val (eAll K rfl T.z_all (pe_lc (own := [("rule", 1)]) (g := gName 1) (tt := tYes) rfl sc_is_talk.nd (iQ K (pe_ix (ixQ K) (pv 0) pe_int (fun _ _ => rfl))) (blkOk_by (N := ["thing", "rule"]) (sc := defScope s_is_talk) (by decide +kernel))
      (fun _ _ _ _ _ => pg_name (i := 1) sc_is_talk.nd rfl (Or.inl rfl)) (fun _ _ _ _ _ => pts_nil) (fun _ _ _ _ _ => eC T.is_rule G3 hr (pa_cons (pv 1) pa_nil))))))))) (pss_one (ps_ret pe_bl)) pss_nil)
    (pss_one (ps_ret (pe_cmpR op_eq (eLenR K P w T.z_len (eDcR K (own := [("rule", 1)]) (g := gName 1) (tt := tYes) (tv := tC (.bl true)) P w rfl sc_is_talk.nd (hu8 hr.units) (iQ K (pe_ix (ixQ K) (pv 0) pe_int (fun _ _ => rfl))) (blkOk_by (N := ["thing", "rule"]) (sc := defScope s_is_talk) (by decide +kernel))
      (fun _ _ _ _ _ => pg_name (i := 1) sc_is_talk.nd rfl (Or.inl rfl)) (fun _ _ _ _ _ => pts_nil) (fun _ _ _ _ _ => eC T.as_rule G4 hr (pa_cons (pv 1) pa_nil)) (fun _ _ _ _ _ => pe_bl))) (eLen K T.z_len (pe_ix (ixQ K) (pv 0) pe_int (fun _ _ => rfl))) (nomark _))))), ?_⟩
  obtain ⟨a, b, xs, rfl, ha, hb, hall⟩ := lo_talk hv
  have hxl : xs.length = rs.length := by rw [hall.len, List.length_map]
  have hxm : xs.length ≤ 1000000 := by rw [hxl]; exact t5
  obtain ⟨k1, hn1, ht1, ty1⟩ := sqA_ty ha
  obtain ⟨k2, hn2, ht2, ty2⟩ := sqA_ty hb
  refine ⟨_, rfl, .ref a, k1, rfl, hn1, ty1, fun H0 s0 => ⟨_, rfl, ?_⟩⟩
  rw [ht1]
  refine iteF ⟨_, rfl, a, _, rfl, ha.same s0, rfl, _, rfl, iteF ⟨_, rfl, rIx_of (i := 0) (ha.same s0) rfl ⟨n, rfl, t1, fun H1 s1 => ⟨_, rfl, ?_⟩⟩⟩⟩
  have u1 := s0.trans s1
  refine iteF ⟨_, rfl, rIx_of (i := 1) (ha.same u1) rfl ⟨.ref b, k2, rfl, hn2, sTyX u1 ty2, fun H2 s2 => ⟨_, rfl, ?_⟩⟩⟩
  rw [ht2]
  have u2 := u1.trans s2
  refine iteF ?_
  have hb2 := hb.same u2
  refine ⟨_, rfl, rIx_of (i := 1) (ha.same u2) rfl ⟨b, xs, rfl, hb2, rfl, _, rfl, ?_⟩⟩
  have hne : (decide (V.int (xs.length : Nat) = V.int 0)) = false := decide_eq_false fun e => by
    injection e with e
    have : rs.length = 0 := by omega
    exact t2 (List.eq_nil_of_length_eq_zero this)
  rw [hne]
  have ruleAt : ∀ {i : Nat} {x : V} {H' : Hp}, Same H H' → xs[i]? = some x → ∃ r, rs[i]? = some r ∧ Lo K H' x (encL r) ∧ ruleB r = true := fun {i x H'} s e => by
    obtain ⟨r, er, lr⟩ := lo_rule_at hall e
    exact ⟨r, er, sLo s _ _ lr, List.all_eq_true.mp t3 r (List.mem_of_getElem? er)⟩
  refine iteF ⟨_, rfl, rIx_of (i := 1) (ha.same u2) rfl (iSq_of hb2 fun J Gd wk hG D nD => ?_)⟩
  refine lc_p wk nD hxm (fun i _ y => y = .bl true) (fun _ _ _ _ _ _ r => r) (fun _ => true) hG ?_ ?_
  · rintro i x H3 H3' kk kk' hi s3 ⟨rfl, hx⟩ k1 _
    obtain ⟨r, er, lr, hrb⟩ := ruleAt (u2.trans s3) hx
    exact ⟨rfl, tYesI ⟨_, rfl, x, r, rfl, lr, hrb, fun H4 s4 => k1 rfl _ _ s4 rfl⟩⟩
  · intro H3 ys s3 hD pr
    rw [filter_true] at pr
    have e := Paired_map (f := fun _ : Nat => V.bl true) pr
    refine ⟨D, (List.range xs.length).map fun _ => true, rfl, SqL.of (by rw [hD, e, List.map_map]; rfl), _, rfl, ?_⟩
    have ea : ((List.range xs.length).map fun _ => true).all id = true := by simp
    rw [ea]
    have u3 := u2.trans s3
    refine iteF ?_
    refine ⟨_, rfl, rIx_of (i := 1) (ha.same u3) rfl (iSq_of (hb.same u3) fun J Gd wk hG D nD => ?_)⟩
    refine dc_r wk nD hxm (fun i => rs.getD i (Str.empty, [])) hG ?_ ?_
    · rintro i x H4 H4' kk hi s4 ⟨rfl, hx⟩ k1
      obtain ⟨r, er, lr, hrb⟩ := ruleAt (u3.trans s4) hx
      refine ⟨rfl, _, rfl, x, r, rfl, lr, fun p tt H5 s5 np h5 ht5 => ?_⟩
      have eg : rs.getD i (Str.empty, []) = r := by rw [List.getD_eq_getElem?_getD, er]; rfl
      exact k1 p H5 s5 (by rw [eg]; exact ⟨tt, SqT.of h5, ht5⟩)
    · intro H4 zs s4 hD hk hl nd mem
      refine ⟨D, zs, rfl, hD, by omega, fun x hx => (hk x hx).same hid_same, ?_⟩
      have u4 := u3.trans s4
      refine ⟨_, rfl, rIx_of (i := 1) (ha.same u4) rfl ⟨b, xs, rfl, hb.same u4, rfl, ?_⟩⟩
      have pm : (zs.map (·.1)).Perm rs := perm_of_mem nd t4 fun r => by
        rw [mem, List.mem_iff_getElem?]
        constructor
        · rintro ⟨i, hi, e⟩
          refine ⟨i, ?_⟩
          rw [← e, List.getD_eq_getElem?_getD, List.getElem?_eq_getElem (by omega)]
          rfl
        · rintro ⟨i, e⟩
          have hi : i < rs.length := (List.getElem?_eq_some_iff.mp e).1
          exact ⟨i, by omega, by rw [List.getD_eq_getElem?_getD, e]; rfl⟩
      have ez : zs.length = xs.length := by rw [hxl, ← pm.length_eq, List.length_map]
      rw [ez]
      have : decide (V.int (xs.length : Nat) = V.int (xs.length : Nat)) = true := decide_eq_true rfl
      show Q (.bl (decide (V.int ((xs.length : Nat) : Int) = V.int ((xs.length : Nat) : Int)))) H4
      rw [this]
      exact q H4 u4
end
end K8
set_option maxRecDepth 100000
set_option maxHeartbeats 4000000
namespace K8
open PySem PySem.Spec PyProof.Rows L2
/-! ### the order of rules -/
def toksR (r : Rule) : List (Int ⊕ List Nat) := PySem.W.keyToks (encL r)
theorem toksP (r : Rule) : PySem.W.keyToks (encP r) = toksR r := by simp [toksR, encL, encP, PySem.W.keyToks, PySem.W.keyToksAll]
theorem strToks_inj : ∀ {a b : List Str}, PySem.W.keyToksAll (a.map PyData.str) = PySem.W.keyToksAll (b.map PyData.str) → a = b
  | [], [], _ => rfl
  | [], _ :: _, h => by simp [PySem.W.keyToksAll] at h
  | _ :: _, [], h => by simp [PySem.W.keyToksAll] at h
  | x :: a, y :: b, h => by
    simp [PySem.W.keyToksAll, PySem.W.keyToks] at h
    rw [PySem.W.str_of_cps (x := x) (y := y) (by rw [h.1]), strToks_inj h.2]
theorem toksR_inj {r q : Rule} (h : toksR r = toksR q) : r = q := by
  simp [toksR, encL, PySem.W.keyToksAll, PySem.W.keyToks] at h
  exact Prod.ext (PySem.W.str_of_cps (by rw [h.1])) (strToks_inj h.2)
abbrev leD : PyData → PyData → Bool := PySem.W.dataLe false fun d => d
abbrev leR : Rule → Rule → Bool := PySem.W.dataLe false encL
theorem leR_anti (a b : Rule) (h1 : leR a b = true) (h2 : leR b a = true) : a = b := by
  have h1' : (!(listOrd itemOrd).blt (toksR b) (toksR a)) = true := h1
  have h2' : (!(listOrd itemOrd).blt (toksR a) (toksR b)) = true := h2
  rw [Bool.not_eq_true'] at h1' h2'
  exact toksR_inj ((listOrd itemOrd).total _ _ h2' h1')
theorem leR_tot : PySem.W.TotalLe leR := PySem.W.sortLe_total _ _ _
def sortR (l : List Rule) : List Rule := l.mergeSort leR
theorem sortR_perm (l : List Rule) : (sortR l).Perm l := List.mergeSort_perm _ _
theorem sortR_eq {a b : List Rule} (h : a.Perm b) : sortR a = sortR b :=
  PySem.W.Srt.the_of_perm leR leR_tot.trans (fun a b => Bool.or_eq_true_iff.mpr (leR_tot.total a b)) leR_anti ((sortR_perm a).trans h) (PySem.W.sort_pairwise leR_tot a)
theorem sortB_snd (bs : List (V × PyData)) : (sortB bs).map (·.2) = (bs.map (·.2)).mergeSort leD := PySem.W.sort_maps (fun b : V × PyData => b.2) fun _ _ _ _ => rfl
theorem sortD_P (rs : List Rule) : (rs.map encP).mergeSort leD = (sortR rs).map encP := by
  refine (PySem.W.sort_maps (r := leR) encP fun a _ b _ => ?_).symm
  show (!(listOrd itemOrd).blt (toksR b) (toksR a)) = (!(listOrd itemOrd).blt (PySem.W.keyToks (encP b)) (PySem.W.keyToks (encP a)))
  rw [toksP, toksP]
theorem sortD_L (rs : List Rule) : (rs.map encL).mergeSort leD = (sortR rs).map encL := (PySem.W.sort_maps (r := leR) encL fun a _ b _ => rfl).symm
theorem dpAll_pairs {K : PySem.W.Frag} {H : Hp} : ∀ {bs : List (V × PyData)}, (∀ b ∈ bs, Dp K H b.1 b.2) → DpAll K H (bs.map (·.1)) (bs.map (·.2))
  | [], _ => .nil
  | b :: bs, h => .cons (h b List.mem_cons_self) (dpAll_pairs fun c hc => h c (List.mem_cons_of_mem _ hc))
theorem sortB_dp {K : PySem.W.Frag} {H : Hp} {bs : List (V × PyData)} (h : ∀ b ∈ bs, Dp K H b.1 b.2) : DpAll K H ((sortB bs).map (·.1)) ((bs.map (·.2)).mergeSort leD) := by
  rw [← sortB_snd]
  exact dpAll_pairs fun b hb => h b ((List.mergeSort_perm _ _).mem_iff.mp hb)
/-! ### each once -/
def once {α : Type} [DecidableEq α] (l : List α) : List α := l.foldl (fun acc x => if x ∈ acc then acc else acc ++ [x]) []
section
variable {α : Type} [DecidableEq α]
def onceIn (acc l : List α) : List α := l.foldl (fun acc x => if x ∈ acc then acc else acc ++ [x]) acc
theorem onceIn_snoc (acc l : List α) (x : α) : onceIn acc (l ++ [x]) = if x ∈ onceIn acc l then onceIn acc l else onceIn acc l ++ [x] := by
  unfold onceIn; rw [List.foldl_append]; rfl
theorem once_snoc (l : List α) (x : α) : once (l ++ [x]) = if x ∈ once l then once l else once l ++ [x] := onceIn_snoc [] l x
theorem onceIn_mem : ∀ (l acc : List α) (x : α), x ∈ onceIn acc l ↔ x ∈ acc ∨ x ∈ l
  | [], acc, x => by simp [onceIn]
  | y :: l, acc, x => by
    have ih := onceIn_mem l (if y ∈ acc then acc else acc ++ [y]) x
    show x ∈ onceIn (if y ∈ acc then acc else acc ++ [y]) l ↔ _
    rw [ih]
    by_cases h : y ∈ acc
    · rw [if_pos h]
      constructor
      · rintro (h1 | h1)
        · exact .inl h1
        · exact .inr (List.mem_cons_of_mem _ h1)
      · rintro (h1 | h1)
        · exact .inl h1
        · rcases List.mem_cons.mp h1 with e | h1
          · exact .inl (e ▸ h)
          · exact .inr h1
    · rw [if_neg h]
      simp only [List.mem_append, List.mem_cons, List.mem_singleton, List.not_mem_nil, or_false]
      constructor
      · rintro ((h1 | h1) | h1)
        · exact .inl h1
        · exact .inr (.inl h1)
        · exact .inr (.inr h1)
      · rintro (h1 | h1 | h1)
        · exact .inl (.inl h1)
        · exact .inl (.inr h1)
        · exact .inr h1
theorem once_mem {l : List α} {x : α} : x ∈ once l ↔ x ∈ l := by
  have := onceIn_mem l [] x
  simpa [onceIn, once] using this
theorem onceIn_nd : ∀ (l acc : List α), acc.Nodup → (onceIn acc l).Nodup
  | [], acc, h => h
  | y :: l, acc, h => by
    show (onceIn (if y ∈ acc then acc else acc ++ [y]) l).Nodup
    refine onceIn_nd l _ ?_
    by_cases hy : y ∈ acc
    · rw [if_pos hy]; exact h
    · rw [if_neg hy]
      refine List.nodup_append.mpr ⟨h, by simp, fun a ha b hb e => ?_⟩
      exact hy (by rw [← List.mem_singleton.mp hb, ← e]; exact ha)
theorem once_nd (l : List α) : (once l).Nodup := onceIn_nd l [] List.nodup_nil
theorem onceIn_len : ∀ (l acc : List α), (onceIn acc l).length ≤ acc.length + l.length
  | [], acc => by simp [onceIn]
  | y :: l, acc => by
    show (onceIn (if y ∈ acc then acc else acc ++ [y]) l).length ≤ _
    refine Nat.le_trans (onceIn_len l _) ?_
    split <;> simp <;> omega
theorem once_len (l : List α) : (once l).length ≤ l.length := by simpa [once, onceIn] using onceIn_len l []
theorem onceIn_ne {l acc : List α} (h : l ≠ []) : onceIn acc l ≠ [] := by
  cases l with
  | nil => exact absurd rfl h
  | cons x l =>
    intro e
    have : x ∈ onceIn acc (x :: l) := (onceIn_mem _ _ _).mpr (.inr List.mem_cons_self)
    rw [e] at this
    cases this
theorem once_ne {l : List α} (h : l ≠ []) : once l ≠ [] := onceIn_ne h
end
theorem perm_of_mem' {α : Type} [DecidableEq α] {l m : List α} (h1 : l.Nodup) (h2 : m.Nodup) (h : ∀ x, x ∈ l ↔ x ∈ m) : l.Perm m := (List.perm_ext_iff_of_nodup h1 h2).mpr h
theorem nd_len {α : Type} [DecidableEq α] {l m : List α} (h : l.Nodup) (hs : ∀ x ∈ l, x ∈ m) : l.length ≤ m.length := List.Nodup.length_le_of_subset h hs
/-! ### steps -/
def onward (rs : List Rule) (tail : List Str) : List Rule := rs.map fun q => (q.1, q.2 ++ tail)
def stepsR (rs : List Rule) (tail : List Str) : List Rule := sortR (once (onward rs tail))
theorem stepsR_mem {rs : List Rule} {tail : List Str} {x : Rule} : x ∈ stepsR rs tail ↔ ∃ q ∈ rs, (q.1, q.2 ++ tail) = x := by
  unfold stepsR onward
  rw [(sortR_perm _).mem_iff, once_mem, List.mem_map]
theorem stepsR_of {rs zs : List Rule} {tail : List Str} (nd : zs.Nodup) (h : ∀ x, x ∈ zs ↔ ∃ q ∈ rs, (q.1, q.2 ++ tail) = x) : sortR zs = stepsR rs tail := by
  refine sortR_eq (perm_of_mem' nd (once_nd _) fun x => ?_)
  rw [h, once_mem]
  unfold onward
  rw [List.mem_map]
theorem stepsR_perm {rs rs' : List Rule} {tail : List Str} (h : rs.Perm rs') : stepsR rs tail = stepsR rs' tail := by
  refine sortR_eq (perm_of_mem' (once_nd _) (once_nd _) fun x => ?_)
  rw [once_mem, once_mem]
  exact (h.map _).mem_iff
theorem stepsR_len (rs : List Rule) (tail : List Str) : (stepsR rs tail).length ≤ rs.length := by
  unfold stepsR
  rw [(sortR_perm _).length_eq]
  refine Nat.le_trans (once_len _) ?_
  unfold onward; rw [List.length_map]; exact Nat.le_refl _
end K8
set_option maxRecDepth 100000
set_option maxHeartbeats 4000000
namespace K8
open PySem PySem.Spec PyProof.Rows L2
/-! ### books, plainly -/
abbrev Bk := List (Str × List Rule)
def sumN (M : Str → Nat) (r : List Str) : Nat := (r.map M).sum
theorem sumN_app (M : Str → Nat) (a b : List Str) : sumN M (a ++ b) = sumN M a + sumN M b := by simp [sumN]
theorem sumN_mem {M : Str → Nat} : ∀ {r : List Str} {n : Str}, n ∈ r → M n ≤ sumN M r
  | x :: r, n, h => by
    have e : sumN M (x :: r) = M x + sumN M r := by simp [sumN]
    rcases List.mem_cons.mp h with h | h
    · subst h; omega
    · have := sumN_mem (M := M) h; omega
theorem sumN_le {M M' : Str → Nat} : ∀ {r : List Str}, (∀ n ∈ r, M n ≤ M' n) → sumN M r ≤ sumN M' r
  | [], _ => Nat.le_refl _
  | x :: r, h => by
    have e : ∀ N : Str → Nat, sumN N (x :: r) = N x + sumN N r := fun N => by simp [sumN]
    rw [e, e]
    have := sumN_le (M := M) (M' := M') (r := r) fun n hn => h n (List.mem_cons_of_mem _ hn)
    have := h x List.mem_cons_self
    omega
theorem sumN_congr {M M' : Str → Nat} {r : List Str} (h : ∀ n ∈ r, M n = M' n) : sumN M r = sumN M' r := Nat.le_antisymm (sumN_le fun n hn => Nat.le_of_eq (h n hn)) (sumN_le fun n hn => Nat.le_of_eq (h n hn).symm)
structure GB (R : Bk) : Prop where
  nd : (R.map (·.1)).Nodup
  few : R.length ≤ 12
  some : R ≠ []
  nb : ∀ t ∈ R, nameB t.1 = true
  ne : ∀ t ∈ R, t.2 ≠ []
  rn : ∀ t ∈ R, t.2.Nodup
  rl : ∀ t ∈ R, t.2.length ≤ 8
  lb : ∀ t ∈ R, ∀ q ∈ t.2, letterB q.1 = true ∧ q.1.length ≤ 9
  rw : ∀ t ∈ R, ∀ q ∈ t.2, q.2.length ≤ 8
  cl : ∀ t ∈ R, ∀ q ∈ t.2, ∀ n ∈ q.2, n ∈ R.map (·.1)
  en : ∃ M : Str → Nat, ∀ t ∈ R, ∃ q ∈ t.2, 1 + sumN M q.2 ≤ M t.1
/-- the norms -/
structure IsN (R : Bk) (N : Str → Nat) : Prop where
  le : ∀ t ∈ R, ∀ q ∈ t.2, N t.1 ≤ 1 + sumN N q.2
  at' : ∀ t ∈ R, ∃ q ∈ t.2, N t.1 = 1 + sumN N q.2
theorem le_sum : ∀ {l : List Nat} {a : Nat}, a ∈ l → a ≤ l.sum
  | x :: l, a, h => by
    rw [List.sum_cons]
    rcases List.mem_cons.mp h with e | h
    · omega
    · have := le_sum h; omega
theorem isN_ex0 (R : Bk) (hf : ∀ t ∈ R, ∀ u ∈ R, t.1 = u.1 → t = u) : ∀ (m : Nat) (M : Str → Nat), (R.map fun t => M t.1).sum ≤ m → (∀ t ∈ R, ∃ q ∈ t.2, 1 + sumN M q.2 ≤ M t.1) → ∃ N, IsN R N := by
  intro m
  induction m with
  | zero =>
    intro M hm h
    refine ⟨M, ⟨fun t ht q hq => ?_, fun t ht => ?_⟩⟩ <;>
    · obtain ⟨q', hq', h'⟩ := h t ht
      have : M t.1 ≤ (R.map fun t => M t.1).sum := by
        have hx : M t.1 ∈ R.map fun t => M t.1 := List.mem_map.mpr ⟨t, ht, rfl⟩
        exact le_sum hx
      omega
  | succ m ih =>
    intro M hm h
    by_cases hc : ∀ t ∈ R, ∀ q ∈ t.2, M t.1 ≤ 1 + sumN M q.2
    · refine ⟨M, ⟨hc, fun t ht => ?_⟩⟩
      obtain ⟨q, hq, h'⟩ := h t ht
      exact ⟨q, hq, Nat.le_antisymm (hc t ht q hq) h'⟩
    · have ⟨t, ht, q, hq, hlt⟩ : ∃ t, t ∈ R ∧ ∃ q, q ∈ t.2 ∧ 1 + sumN M q.2 < M t.1 := by
        apply Classical.byContradiction
        intro hn
        apply hc
        intro t ht q hq
        apply Classical.byContradiction
        intro h2
        exact hn ⟨t, ht, q, hq, by omega⟩
      let M' : Str → Nat := fun n => if n = t.1 then 1 + sumN M q.2 else M n
      have hM' : ∀ n, M' n ≤ M n := fun n => by
        show (if n = t.1 then 1 + sumN M q.2 else M n) ≤ M n
        split
        · rename_i e; rw [e]; omega
        · exact Nat.le_refl _
      refine ih M' ?_ fun u hu => ?_
      · have hs : ∀ (l : Bk), t ∈ l → (l.map fun t => M' t.1).sum < (l.map fun t => M t.1).sum := by
          have hle : ∀ l : Bk, (l.map fun t => M' t.1).sum ≤ (l.map fun t => M t.1).sum := fun l => by
            induction l with
            | nil => exact Nat.le_refl _
            | cons x l ih => 
              simp only [List.map_cons, List.sum_cons]
              have := hM' x.1
              omega
          intro l
          induction l with
          | nil => intro h; cases h
          | cons x l ih2 =>
            intro h
            simp only [List.map_cons, List.sum_cons]
            rcases List.mem_cons.mp h with e | h
            · subst e
              have e1 : M' t.1 = 1 + sumN M q.2 := if_pos rfl
              have := hle l
              omega
            · have := ih2 h
              have := hM' x.1
              omega
        have := hs R ht
        omega
      · by_cases e : u.1 = t.1
        · have e2 : u = t := hf u hu t ht e
          subst e2
          refine ⟨q, hq, ?_⟩
          have e1 : M' u.1 = 1 + sumN M q.2 := if_pos rfl
          have := sumN_le (r := q.2) fun n _ => hM' n
          omega
        · obtain ⟨q', hq', h'⟩ := h u hu
          refine ⟨q', hq', ?_⟩
          have e1 : M' u.1 = M u.1 := if_neg e
          have := sumN_le (r := q'.2) fun n _ => hM' n
          omega
theorem key_uniq {α : Type} {R : List (Str × α)} (h : (R.map (·.1)).Nodup) : ∀ t ∈ R, ∀ u ∈ R, t.1 = u.1 → t = u := by
  induction R with
  | nil => intro t ht; cases ht
  | cons x R ih =>
    rw [List.map_cons, List.nodup_cons] at h
    intro t ht u hu e
    rcases List.mem_cons.mp ht with h1 | h1 <;> rcases List.mem_cons.mp hu with h2 | h2
    · rw [h1, h2]
    · exact absurd (List.mem_map.mpr ⟨u, h2, by rw [← e, h1]⟩) h.1
    · exact absurd (List.mem_map.mpr ⟨t, h1, by rw [e, h2]⟩) h.1
    · exact ih h.2 t h1 u h2 e
theorem GB.isN {R : Bk} (g : GB R) : ∃ N, IsN R N := let ⟨M, h⟩ := g.en; isN_ex0 R (key_uniq g.nd) _ M (Nat.le_refl _) h
/-! ### lists of keys and values -/
section
variable {α : Type}
def getA (F : List (Str × α)) (n : Str) : Option α := (F.find? fun t => decide (t.1 = n)).map (·.2)
def putA (F : List (Str × α)) (n : Str) (x : α) : List (Str × α) := if n ∈ F.map (·.1) then F.map (fun t => if t.1 = n then (t.1, x) else t) else F ++ [(n, x)]
theorem getA_cons (t : Str × α) (F : List (Str × α)) (n : Str) : getA (t :: F) n = if t.1 = n then some t.2 else getA F n := by
  unfold getA
  rw [List.find?_cons]
  by_cases h : t.1 = n
  · simp [h]
  · simp [h]
theorem getA_none {F : List (Str × α)} {n : Str} : getA F n = none ↔ n ∉ F.map (·.1) := by
  induction F with
  | nil => simp [getA]
  | cons t F ih =>
    rw [getA_cons]
    by_cases h : t.1 = n
    · simp [h]
    · rw [if_neg h, ih]
      simp only [List.map_cons, List.mem_cons, not_or]
      exact ⟨fun q => ⟨fun e => h e.symm, q⟩, fun q => q.2⟩
theorem getA_mem {F : List (Str × α)} {n : Str} {x : α} (h : getA F n = some x) : (n, x) ∈ F := by
  induction F with
  | nil => cases h
  | cons t F ih =>
    rw [getA_cons] at h
    split at h
    · rename_i e
      have h' := Option.some.inj h
      rw [← e, ← h']
      exact List.mem_cons_self
    · exact List.mem_cons_of_mem _ (ih h)
theorem getA_of {F : List (Str × α)} (nd : (F.map (·.1)).Nodup) {t : Str × α} (h : t ∈ F) : getA F t.1 = some t.2 := by
  induction F with
  | nil => cases h
  | cons u F ih =>
    rw [List.map_cons, List.nodup_cons] at nd
    rw [getA_cons]
    rcases List.mem_cons.mp h with e | h
    · subst e; rw [if_pos rfl]
    · rw [if_neg fun e => nd.1 (List.mem_map.mpr ⟨t, h, e.symm⟩)]
      exact ih nd.2 h
theorem getA_some {F : List (Str × α)} {n : Str} (h : n ∈ F.map (·.1)) : ∃ x, getA F n = some x := by
  cases e : getA F n with
  | none => exact absurd h (getA_none.mp e)
  | some x => exact ⟨x, rfl⟩
theorem getA_key {F : List (Str × α)} {n : Str} {x : α} (h : getA F n = some x) : n ∈ F.map (·.1) := List.mem_map.mpr ⟨_, getA_mem h, rfl⟩
theorem getA_map (F : List (Str × α)) (n m : Str) (x : α) : getA (F.map fun t => if t.1 = n then (t.1, x) else t) m = (getA F m).map fun y => if m = n then x else y := by
  induction F with
  | nil => rfl
  | cons t F ih =>
    rw [List.map_cons, getA_cons, getA_cons, ih]
    by_cases h : t.1 = m
    · by_cases h2 : t.1 = n
      · simp [h, h2]
        have : m = n := by rw [← h, h2]
        simp [this]
      · have : ¬ m = n := by rw [← h]; exact h2
        simp [h, h2, this]
    · by_cases h2 : t.1 = n <;> simp [h, h2]
      rw [h2] at h
      simp [h]
theorem getA_snoc (F : List (Str × α)) (n m : Str) (x : α) (h : n ∉ F.map (·.1)) : getA (F ++ [(n, x)]) m = if m = n then some x else getA F m := by
  induction F with
  | nil =>
    rw [List.nil_append, getA_cons]
    by_cases e : n = m
    · rw [if_pos e, if_pos e.symm]
    · rw [if_neg e, if_neg fun q => e q.symm]
  | cons t F ih =>
    simp only [List.map_cons, List.mem_cons, not_or] at h
    rw [List.cons_append, getA_cons, ih h.2, getA_cons]
    by_cases e : t.1 = m
    · have : ¬ m = n := fun q => h.1 (by rw [← q, e])
      simp [e, this]
    · simp [e]
theorem getA_put (F : List (Str × α)) (n m : Str) (x : α) : getA (putA F n x) m = if m = n then some x else getA F m := by
  unfold putA
  by_cases h : n ∈ F.map (·.1)
  · rw [if_pos h, getA_map]
    by_cases e : m = n
    · subst e
      obtain ⟨y, hy⟩ := getA_some h
      simp [hy]
    · simp [e]
  · rw [if_neg h]
    exact getA_snoc F n m x h
theorem putA_keys (F : List (Str × α)) (n : Str) (x : α) : (putA F n x).map (·.1) = if n ∈ F.map (·.1) then F.map (·.1) else F.map (·.1) ++ [n] := by
  unfold putA
  split
  · rw [List.map_map]
    refine List.map_congr_left fun t _ => ?_
    show (if t.1 = n then (t.1, x) else t).1 = t.1
    split <;> rfl
  · simp
theorem putA_nd {F : List (Str × α)} {n : Str} {x : α} (h : (F.map (·.1)).Nodup) : ((putA F n x).map (·.1)).Nodup := by
  rw [putA_keys]
  split
  · exact h
  · rename_i q
    refine List.nodup_append.mpr ⟨h, by simp, fun a ha b hb e => ?_⟩
    exact q (by rw [← List.mem_singleton.mp hb, ← e]; exact ha)
theorem putA_key {F : List (Str × α)} {n m : Str} {x : α} : m ∈ (putA F n x).map (·.1) ↔ m ∈ F.map (·.1) ∨ m = n := by
  rw [putA_keys]
  split
  · rename_i q
    exact ⟨.inl, fun h => h.elim id fun e => e ▸ q⟩
  · simp
theorem putA_new {F : List (Str × α)} {n : Str} {x : α} (h : n ∉ F.map (·.1)) : putA F n x = F ++ [(n, x)] := if_neg h
end
/-! ### finding the norms, turn by turn -/
def rk (R : Bk) (N : Str → Nat) (n : Str) : Nat := (R.filter fun t => decide (N t.1 < N n)).length
theorem rk_lt {R : Bk} {N : Str → Nat} {n : Str} (h : n ∈ R.map (·.1)) : rk R N n < R.length := by
  obtain ⟨t, ht, rfl⟩ := List.mem_map.mp h
  unfold rk
  have h1 := List.length_filter_le (fun u : Str × List Rule => decide (N u.1 < N t.1)) R
  rcases Nat.lt_or_ge (R.filter fun u => decide (N u.1 < N t.1)).length R.length with h2 | h2
  · exact h2
  · have h3 := (List.filter_sublist (p := fun u : Str × List Rule => decide (N u.1 < N t.1)) (l := R)).eq_of_length (Nat.le_antisymm h1 h2)
    have h4 : t ∈ R.filter fun u => decide (N u.1 < N t.1) := by rw [h3]; exact ht
    have := (List.mem_filter.mp h4).2
    simp at this
theorem rk_mono {R : Bk} {N : Str → Nat} {a b : Str} (h : N a < N b) (ha : a ∈ R.map (·.1)) : rk R N a < rk R N b := by
  obtain ⟨t, ht, rfl⟩ := List.mem_map.mp ha
  unfold rk
  have key : ∀ l : Bk, (l.filter fun u => decide (N u.1 < N t.1)).length ≤ (l.filter fun u => decide (N u.1 < N b)).length ∧ (t ∈ l → (l.filter fun u => decide (N u.1 < N t.1)).length < (l.filter fun u => decide (N u.1 < N b)).length) := by
    intro l
    induction l with
    | nil => exact ⟨Nat.le_refl _, fun z => by cases z⟩
    | cons x l ih =>
      obtain ⟨i1, i2⟩ := ih
      rw [List.filter_cons, List.filter_cons]
      by_cases c1 : N x.1 < N t.1
      · have c2 : N x.1 < N b := by omega
        simp only [c1, c2, decide_true, if_true, List.length_cons]
        refine ⟨by omega, fun z => ?_⟩
        rcases List.mem_cons.mp z with e | z
        · subst e; omega
        · have := i2 z; omega
      · by_cases c2 : N x.1 < N b
        · simp only [c1, c2, decide_true, decide_false, if_true, Bool.false_eq_true, if_false, List.length_cons]
          exact ⟨by omega, fun _ => by omega⟩
        · simp only [c1, c2, decide_false, Bool.false_eq_true, if_false]
          refine ⟨i1, fun z => ?_⟩
          rcases List.mem_cons.mp z with e | z
          · subst e; omega
          · exact i2 z
  exact (key R).2 ht
/-- nothing found is too small -/
def Sup (R : Bk) (N : Str → Nat) (F : List (Str × Nat)) : Prop := (F.map (·.1)).Nodup ∧ ∀ n v, getA F n = some v → n ∈ R.map (·.1) ∧ N n ≤ v
/-- all of rank below k are found, rightly -/
def Cor (R : Bk) (N : Str → Nat) (k : Nat) (F : List (Str × Nat)) : Prop := ∀ n ∈ R.map (·.1), rk R N n < k → getA F n = some (N n)
theorem Sup.len {R : Bk} {N : Str → Nat} {F : List (Str × Nat)} (h : Sup R N F) : F.length ≤ R.length := by
  have := nd_len (m := R.map (·.1)) h.1 fun x hx => by
    obtain ⟨v, hv⟩ := getA_some hx
    exact (h.2 x v hv).1
  simpa using this
def valF (F : List (Str × Nat)) (n : Str) : Nat := (getA F n).getD 0
/-- all names of a row are found -/
def allF (F : List (Str × Nat)) (r : List Str) : Bool := r.all fun n => (getA F n).isSome
theorem sup_sum {R : Bk} {N : Str → Nat} {F : List (Str × Nat)} (h : Sup R N F) {r : List Str} (ha : allF F r = true) : sumN N r ≤ sumN (valF F) r := sumN_le fun n hn => by
  have := List.all_eq_true.mp ha n hn
  cases e : getA F n with
  | none => rw [e] at this; cases this
  | some v =>
    unfold valF
    rw [e]
    exact (h.2 n v e).2
theorem Sup.put {R : Bk} {N : Str → Nat} {F : List (Str × Nat)} (h : Sup R N F) {n : Str} {v : Nat} (hn : n ∈ R.map (·.1)) (hv : N n ≤ v) : Sup R N (putA F n v) := by
  refine ⟨putA_nd h.1, fun m w e => ?_⟩
  rw [getA_put] at e
  split at e
  · rename_i q
    subst q
    have := Option.some.inj e
    subst this
    exact ⟨hn, hv⟩
  · exact h.2 m w e
/-- the rows of the least rule are found below -/
theorem cor_row {R : Bk} {N : Str → Nat} {k : Nat} {F : List (Str × Nat)} (cl : ∀ t ∈ R, ∀ q ∈ t.2, ∀ n ∈ q.2, n ∈ R.map (·.1)) {t : Str × List Rule} {q : Rule} (ht : t ∈ R) (hq : q ∈ t.2) (e : N t.1 = 1 + sumN N q.2) (hk : rk R N t.1 < k + 1) (c : Cor R N k F) :
    allF F q.2 = true ∧ 1 + sumN (valF F) q.2 = N t.1 := by
  have g : ∀ n ∈ q.2, getA F n = some (N n) := fun n hn => by
    have hm := cl t ht q hq n hn
    refine c n hm ?_
    have h1 := sumN_mem (M := N) hn
    have h2 := rk_mono (R := R) (N := N) (a := n) (b := t.1) (by omega) hm
    omega
  refine ⟨List.all_eq_true.mpr fun n hn => by rw [g n hn]; rfl, ?_⟩
  rw [e, sumN_congr (M := valF F) (M' := N) fun n hn => by unfold valF; rw [g n hn]; rfl]
theorem Cor.all {R : Bk} {N : Str → Nat} {F : List (Str × Nat)} (c : Cor R N R.length F) : ∀ n ∈ R.map (·.1), getA F n = some (N n) := fun n hn => c n hn (rk_lt hn)
theorem Cor.zero {R : Bk} {N : Str → Nat} {F : List (Str × Nat)} : Cor R N 0 F := fun _ _ h => absurd h (Nat.not_lt_zero _)
theorem Cor.iter {R : Bk} {N : Str → Nat} {F : List (Str × Nat)} (h : ∀ k, Cor R N k F → Cor R N (k + 1) F) : ∀ k, Cor R N k F
  | 0 => Cor.zero
  | k + 1 => h k (Cor.iter h k)
/-- within a pass: those below rank k all along, those of rank k once they were passed -/
def CorP (R : Bk) (N : Str → Nat) (k i : Nat) (F : List (Str × Nat)) : Prop := Cor R N k F ∧ ∀ n ∈ (R.take i).map (·.1), rk R N n < k + 1 → getA F n = some (N n)
theorem CorP.zero {R : Bk} {N : Str → Nat} {k : Nat} {F : List (Str × Nat)} (c : Cor R N k F) : CorP R N k 0 F := ⟨c, fun n h => by simp at h⟩
theorem CorP.done {R : Bk} {N : Str → Nat} {k : Nat} {F : List (Str × Nat)} (c : CorP R N k R.length F) : Cor R N (k + 1) F := fun n hn hk => c.2 n (by rw [List.take_length]; exact hn) hk
/-- one value is set: never below the norm, kept where it was right -/
theorem Cor.put {R : Bk} {N : Str → Nat} {k : Nat} {F : List (Str × Nat)} {m : Str} {v : Nat} (c : Cor R N k F) (h : rk R N m < k → v = N m) : Cor R N k (putA F m v) := fun n hn hk => by
  rw [getA_put]
  split
  · rename_i e
    subst e
    rw [h hk]
  · exact c n hn hk
theorem CorP.put {R : Bk} {N : Str → Nat} {k i : Nat} {F : List (Str × Nat)} {m : Str} {v : Nat} (c : CorP R N k i F) (h : rk R N m < k + 1 → v = N m) : CorP R N k i (putA F m v) :=
  ⟨c.1.put fun q => h (by omega), fun n hn hk => by
    rw [getA_put]
    split
    · rename_i e
      subst e
      rw [h hk]
    · exact c.2 n hn hk⟩
theorem CorP.next {R : Bk} {N : Str → Nat} {k i : Nat} {F : List (Str × Nat)} {t : Str × List Rule} (c : CorP R N k i F) (ht : R[i]? = some t) (h : rk R N t.1 < k + 1 → getA F t.1 = some (N t.1)) : CorP R N k (i + 1) F := by
  refine ⟨c.1, fun n hn hk => ?_⟩
  rw [List.take_succ, ht, List.map_append] at hn
  rcases List.mem_append.mp hn with hn | hn
  · exact c.2 n hn hk
  · have e : n = t.1 := by simpa using hn
    subst e
    exact h hk
end K8
set_option maxRecDepth 100000
set_option maxHeartbeats 4000000
namespace K8
open PySem PySem.Spec PyProof.Rows L2
/-! ### dicts from names to data -/
def KvD {α : Type} (K : PySem.W.Frag) (H : Hp) (f : α → PyData) (F : List (Str × α)) (kvs : List (Key × V)) : Prop := Paired (fun (t : Str × α) (kv : Key × V) => kv.1 = Sum.inr t.1 ∧ Dp K H kv.2 (f t.2)) F kvs
theorem Paired.get1 {α β : Type} {R : α → β → Prop} : ∀ {as : List α} {bs : List β} {i : Nat} {b : β}, Paired R as bs → bs[i]? = some b → ∃ a, as[i]? = some a ∧ R a b
  | _, _, _, _, .nil, h => by simp at h
  | _, _, 0, _, .cons q _, h => by
    simp at h; subst h; exact ⟨_, rfl, q⟩
  | _, _, i + 1, _, .cons _ t, h => Paired.get1 (i := i) t (by simpa using h)
section
variable {α : Type} {K : PySem.W.Frag} {H : Hp} {f : α → PyData} {F : List (Str × α)} {kvs : List (Key × V)}
theorem KvD.len (h : KvD K H f F kvs) : kvs.length = F.length := (Paired.length h).symm
theorem KvD.same {H' : Hp} (h : KvD K H f F kvs) (s : Same H H') : KvD K H' f F kvs := Paired_mono (fun _ _ q => ⟨q.1, sDp s _ _ q.2⟩) h
theorem KvD.get {i : Nat} {k : Key} {v : V} (h : KvD K H f F kvs) (e : kvs[i]? = some (k, v)) : ∃ t, F[i]? = some t ∧ k = Sum.inr t.1 ∧ Dp K H v (f t.2) := by
  obtain ⟨t, e1, e2, e3⟩ := Paired.get1 h e
  exact ⟨t, e1, e2, e3⟩
theorem KvD.val : ∀ {F : List (Str × α)} {kvs : List (Key × V)} {n : Str} {x : α}, KvD K H f F kvs → getA F n = some x → ∃ v, valV kvs (Sum.inr n) = some v ∧ Dp K H v (f x)
  | _, _, _, _, .nil, h => by cases h
  | t :: F, kv :: kvs, n, x, .cons q r, h => by
    rw [getA_cons] at h
    by_cases e : t.1 = n
    · rw [if_pos e] at h
      have h' := Option.some.inj h
      subst h'
      exact ⟨kv.2, valV_pos (by rw [q.1, e]), q.2⟩
    · rw [if_neg e] at h
      obtain ⟨v, h1, h2⟩ := KvD.val r h
      exact ⟨v, by rw [valV_neg (by rw [q.1]; intro z; injection z with z; exact e z)]; exact h1, h2⟩
theorem KvD.non : ∀ {F : List (Str × α)} {kvs : List (Key × V)} {n : Str}, KvD K H f F kvs → getA F n = .none → valV kvs (Sum.inr n) = .none
  | _, _, _, .nil, _ => rfl
  | t :: F, kv :: kvs, n, .cons q r, h => by
    rw [getA_cons] at h
    by_cases e : t.1 = n
    · rw [if_pos e] at h; cases h
    · rw [if_neg e] at h
      rw [valV_neg (by rw [q.1]; intro z; injection z with z; exact e z)]
      exact KvD.non r h
theorem KvD.isSome (h : KvD K H f F kvs) (n : Str) : (valV kvs (Sum.inr n)).isSome = (getA F n).isSome := by
  cases e : getA F n with
  | none => rw [h.non e]; rfl
  | some x =>
    obtain ⟨v, e2, _⟩ := h.val e
    rw [e2]
    rfl
theorem paired_map2 {α β : Type} {R R' : α → β → Prop} {g : α → α} {k : β → β} (f : ∀ a b, R a b → R' (g a) (k b)) : ∀ {as : List α} {bs : List β}, Paired R as bs → Paired R' (as.map g) (bs.map k)
  | _, _, .nil => .nil
  | _, _, .cons q t => .cons (f _ _ q) (paired_map2 f t)
theorem KvD.put {n : Str} {x : α} {v : V} (h : KvD K H f F kvs) (hv : Dp K H v (f x)) : KvD K H f (putA F n x) (putK kvs (Sum.inr n) v) := by
  cases e : getA F n with
  | none =>
    rw [putK_new v (h.non e), putA_new (getA_none.mp e)]
    exact Paired_snoc h ⟨rfl, hv⟩
  | some y =>
    have hm : n ∈ F.map (·.1) := getA_key e
    obtain ⟨w, ew, _⟩ := h.val e
    have hk : putK kvs (Sum.inr n) v = kvs.map fun kv => if kv.1 = Sum.inr n then (kv.1, v) else kv := by
      unfold putK
      rw [if_pos]
      rw [valV_any, ew]
      rfl
    rw [hk]
    unfold putA
    rw [if_pos hm]
    refine paired_map2 (fun t kv q => ?_) h
    obtain ⟨q1, q2⟩ := q
    by_cases c : t.1 = n
    · rw [if_pos c, if_pos (by rw [q1, c])]
      exact ⟨q1, hv⟩
    · rw [if_neg c, if_neg (by rw [q1]; intro z; injection z with z; exact c z)]
      exact ⟨q1, q2⟩
theorem kvD_nil : KvD K H f [] [] := Paired.nil
end
/-! ### what is neither list nor tuple hides nothing -/
def NoS (H : Hp) (D : Addr) : Prop := (∀ xs, H D ≠ some (.lst xs) ∧ (∀ o, H D ≠ some (.frz o (.lst xs)))) ∧ ∀ xs, H D ≠ some (.tup xs) ∧ ∀ o, H D ≠ some (.frz o (.tup xs))
theorem noS_dK {H : Hp} {D : Addr} {kvs : List (Key × V)} (h : H D = some (.dK kvs)) : NoS H D := by
  refine ⟨fun xs => ⟨?_, fun o => ?_⟩, fun xs => ⟨?_, fun o => ?_⟩⟩ <;> (rw [h]; intro z; cases z)
theorem noS_frz {H : Hp} {D : Addr} {o : Obj} {kvs : List (Key × V)} (h : H D = some (.frz o (.dK kvs))) : NoS H D := by
  refine ⟨fun xs => ⟨?_, fun o => ?_⟩, fun xs => ⟨?_, fun o => ?_⟩⟩ <;> (rw [h]; intro z; cases z)
theorem noS_none {H : Hp} {D : Addr} (h : H D = none) : NoS H D := by
  refine ⟨fun xs => ⟨?_, fun o => ?_⟩, fun xs => ⟨?_, fun o => ?_⟩⟩ <;> (rw [h]; intro z; cases z)
theorem noS_ins {H : Hp} {D C dx : Addr} {fs : List (Str × V)} (h : H D = some (.ins C dx fs)) : NoS H D := by
  refine ⟨fun xs => ⟨?_, fun o => ?_⟩, fun xs => ⟨?_, fun o => ?_⟩⟩ <;> (rw [h]; intro z; cases z)
section
variable {K : PySem.W.Frag} {H : Hp} {D : Addr} {M : List Addr}
theorem noS_sqL {a : Addr} {xs : List V} (h : SqL K (hid M H) a xs) (n : NoS H D) : SqL K (hid (D :: M) H) a xs := by
  rcases h with (h | ⟨o, h⟩) | h
  · refine .inl (.inl (hid_get (fun z => ?_) (hid_of h).2))
    rcases List.mem_cons.mp z with e | z
    · subst e; exact (n.1 xs).1 (hid_of h).2
    · exact (hid_of h).1 z
  · refine .inl (.inr ⟨o, hid_get (fun z => ?_) (hid_of h).2⟩)
    rcases List.mem_cons.mp z with e | z
    · subst e; exact (n.1 xs).2 o (hid_of h).2
    · exact (hid_of h).1 z
  · exact .inr h
theorem noS_sqT {a : Addr} {xs : List V} (h : SqT K (hid M H) a xs) (n : NoS H D) : SqT K (hid (D :: M) H) a xs := by
  rcases h with (h | ⟨o, h⟩) | h
  · refine .inl (.inl (hid_get (fun z => ?_) (hid_of h).2))
    rcases List.mem_cons.mp z with e | z
    · subst e; exact (n.2 xs).1 (hid_of h).2
    · exact (hid_of h).1 z
  · refine .inl (.inr ⟨o, hid_get (fun z => ?_) (hid_of h).2⟩)
    rcases List.mem_cons.mp z with e | z
    · subst e; exact (n.2 xs).2 o (hid_of h).2
    · exact (hid_of h).1 z
  · exact .inr h
mutual
theorem noS_dp (n : NoS H D) : ∀ (d : PyData) (v : V), Dp K (hid M H) v d → Dp K (hid (D :: M) H) v d
  | .none, _, h => by cases h; exact .non
  | .bool _, _, h => by cases h; exact .bl _
  | .int _, _, h => by cases h; exact .int _
  | .str _, _, h => by cases h; exact .str _
  | .list ds, _, h => by
    cases h with
    | lst h1 h2 => exact .lst (noS_sqL h1 n) (noS_dpAll n ds _ h2)
  | .tuple ds, _, h => by
    cases h with
    | tup h1 h2 => exact .tup (noS_sqT h1 n) (noS_dpAll n ds _ h2)
  | .dict _, _, h => by cases h
theorem noS_dpAll (n : NoS H D) : ∀ (ds : List PyData) (vs : List V), DpAll K (hid M H) vs ds → DpAll K (hid (D :: M) H) vs ds
  | [], _, h => by cases h; exact .nil
  | d :: ds, _, h => by
    cases h with
    | cons h1 h2 => exact .cons (noS_dp n d _ h1) (noS_dpAll n ds _ h2)
end
theorem noS_kv {α : Type} {f : α → PyData} {F : List (Str × α)} {kvs : List (Key × V)} (n : NoS H D) (h : KvD K (hid M H) f F kvs) : KvD K (hid (D :: M) H) f F kvs := Paired_mono (fun _ _ q => ⟨q.1, noS_dp n _ _ q.2⟩) h
end
theorem hid0 (H : Hp) : hid [] H = H := by
  funext b
  unfold hid
  rw [if_neg (by simp)]
theorem Same_hid0 {H H' : Hp} {M : List Addr} (h : Same (hid [] H) (hid M H')) : Same H H' := by
  rw [hid0] at h
  exact h.trans hid_same
/-- a dict from names to data at d, its data apart from d -/
def DD {α : Type} (K : PySem.W.Frag) (H : Hp) (f : α → PyData) (d : Addr) (F : List (Str × α)) : Prop := ∃ kvs, H d = some (.dK kvs) ∧ KvD K H f F kvs
/-! ### a lock taken and given back -/
theorem same_lock {H : Hp} {d : Addr} {u : HO} {o : Obj} (h : H d = some u) : hid [d] (upd H d (.frz o u)) = hid [d] H := hid_in List.mem_cons_self
theorem same_unlock {H H' : Hp} {d : Addr} {u : HO} {o : Obj} (h : H d = some u) (s : Same (upd H d (.frz o u)) H') : Same H (upd H' d u) := fun b x q => by
  by_cases e : b = d
  · subst e
    rw [h] at q
    rw [← q]
    exact upd_same
  · rw [upd_ne e]
    exact s _ _ (by rw [upd_ne e]; exact q)
theorem hid_unlock {H H' : Hp} {d : Addr} {M : List Addr} {u : HO} {o : Obj} (h : H d = some u) (s : Same (hid M (upd H d (.frz o u))) (hid M H')) : Same (hid M H) (hid M (upd H' d u)) := fun b x q => by
  obtain ⟨q1, q2⟩ := hid_of q
  refine hid_get q1 ?_
  by_cases e : b = d
  · subst e
    rw [h] at q2
    rw [← q2]
    exact upd_same
  · rw [upd_ne e]
    exact (hid_of (s b x (hid_get q1 (by rw [upd_ne e]; exact q2)))).2
end K8
set_option maxRecDepth 100000
set_option maxHeartbeats 4000000
namespace K8
open PySem PySem.Spec PyProof.Rows L2
/-! ### dict comprehensions over anything walked -/
theorem dc_it {J : It} {n : Nat} {G : Hp → Prop} {Y : Nat → Hp → V → Hp → Prop} (w : Walk J n G Y) {g : TG} {tt : TT} {tk tv : TE} {vs : List Nat} {σ : L2.St} {H1 : Hp} {D : Addr} {Qd : Hp → Prop} (Pv : Nat → Hp → Prop) (h0 : Pv 0 (upd H1 D (.dK []))) (hG : ∀ i H, i ≤ n → Pv i H → G H)
    (hs : ∀ i x H H', i < n → Pv i H → Y i H x H' → g x (wipe σ vs) H' fun σ2 H2 => wipe σ2 vs = wipe σ vs ∧ tt σ2 H2 fun b H3 =>
      if b = true then tk σ2 H3 fun y H4 => tv σ2 H4 fun z H5 => ∃ kvs k, y = kV k ∧ H5 D = some (.dK kvs) ∧ kvs.length < sizeLine ∧ Pv (i + 1) (upd H5 D (.dK (putK kvs k z))) else Pv (i + 1) H3) (hd : ∀ H, Pv n H → Qd H) :
    ∃ W : Nat → Nat → Hp → Prop, (∃ m, W 0 m (upd H1 D (.dK []))) ∧ ∀ i m H, W i m H →
      (J.stop i H ∧ Qd H) ∨ (J.go i H ∧ ∃ Nx : Hp → Prop, (∀ H', Nx H' → ∃ m', m' < m ∧ W (i + 1) m' H') ∧ ∀ x H', J.yld i H x H' → g x (wipe σ vs) H' fun σ2 H2 => wipe σ2 vs = wipe σ vs ∧ tt σ2 H2 fun b H3 =>
        if b = true then tk σ2 H3 fun y H4 => tv σ2 H4 fun z H5 => ∃ kvs k, y = kV k ∧ H5 D = some (.dK kvs) ∧ kvs.length < sizeLine ∧ Nx (upd H5 D (.dK (putK kvs k z))) else Nx H3) := by
  refine ⟨fun i m H => m = n - i ∧ i ≤ n ∧ Pv i H, ⟨n, by simp, Nat.zero_le _, h0⟩, ?_⟩
  rintro i m H ⟨rfl, hi, p⟩
  have q := hG i H hi p
  by_cases hlt : i < n
  · refine .inr ⟨w.goes i H hlt q, Pv (i + 1), fun H' p' => ⟨n - (i + 1), by omega, rfl, hlt, p'⟩, fun x H' y => hs i x H H' hlt p (w.yields i H x H' hlt q y)⟩
  · have e : i = n := by omega
    subst e
    exact .inl ⟨w.stops H q, hd H p⟩
theorem range_map_snoc {α : Type} (f : Nat → α) (i : Nat) : (List.range (i + 1)).map f = (List.range i).map f ++ [f i] := by rw [List.range_succ, List.map_append]; rfl
/-- {name i: value i for ..}, the names unlike; nothing else changes -/
theorem dc_p {α : Type} {K : PySem.W.Frag} {f : α → PyData} {J : It} {n : Nat} {G : Hp → Prop} {Y : Nat → Hp → V → Hp → Prop} (w : Walk J n G Y) {g : TG} {tk tv : TE} {vs : List Nat} {σ : L2.St} {H1 : Hp} {D : Addr} {Qd : Hp → Prop}
    (nD : H1 D = none) (hn : n ≤ 1000000) (its : Nat → Str × α) (inj : ∀ i j, i < n → j < n → (its i).1 = (its j).1 → i = j) (hG : ∀ H, Same H1 H → G H)
    (hs : ∀ i x H H' (k : V → V → Hp → Prop), i < n → Same H1 H → Y i H x H' → (∀ z H4, Same H H4 → Dp K H4 z (f (its i).2) → k (.str (its i).1) z H4) →
      g x (wipe σ vs) H' fun σ2 H2 => wipe σ2 vs = wipe σ vs ∧ tk σ2 H2 fun y H4 => tv σ2 H4 fun z H5 => k y z H5)
    (hd : ∀ H kvs, Same H1 H → H D = some (.dK kvs) → KvD K (hid [D] H) f ((List.range n).map its) kvs → Qd H) :
    ∃ W : Nat → Nat → Hp → Prop, (∃ m, W 0 m (upd H1 D (.dK []))) ∧ ∀ i m H, W i m H →
      (J.stop i H ∧ Qd H) ∨ (J.go i H ∧ ∃ Nx : Hp → Prop, (∀ H', Nx H' → ∃ m', m' < m ∧ W (i + 1) m' H') ∧ ∀ x H', J.yld i H x H' → g x (wipe σ vs) H' fun σ2 H2 => wipe σ2 vs = wipe σ vs ∧ tYes σ2 H2 fun b H3 =>
        if b = true then tk σ2 H3 fun y H4 => tv σ2 H4 fun z H5 => ∃ kvs k, y = kV k ∧ H5 D = some (.dK kvs) ∧ kvs.length < sizeLine ∧ Nx (upd H5 D (.dK (putK kvs k z))) else Nx H3) := by
  refine dc_it w (fun i H => i ≤ n ∧ ∃ kvs, Same (hid [] H1) (hid [D] H) ∧ H D = some (.dK kvs) ∧ KvD K (hid [D] H) f ((List.range i).map its) kvs) ⟨Nat.zero_le _, [], hid_push nD, upd_same, kvD_nil⟩ ?_ ?_ ?_
  · rintro i H hi ⟨_, kvs, s, _⟩
    exact hG H (Same_hid0 s)
  · rintro i x H H' hi ⟨_, kvs, s, hD, kv⟩ y
    have st := hs i x H H' (fun y z H5 => ∃ kvs k, y = kV k ∧ H5 D = some (.dK kvs) ∧ kvs.length < sizeLine ∧ i + 1 ≤ n ∧ ∃ kvs', Same (hid [] H1) (hid [D] (upd H5 D (.dK (putK kvs k z)))) ∧ upd H5 D (.dK (putK kvs k z)) D = some (.dK kvs') ∧ KvD K (hid [D] (upd H5 D (.dK (putK kvs k z)))) f ((List.range (i + 1)).map its) kvs') hi (Same_hid0 s) y
      (fun z H4 s4 d4 => ?_)
    · exact st
    · have h4 := s4 _ _ hD
      have e4 : hid [D] (upd H4 D (.dK (putK kvs (Sum.inr (its i).1) z))) = hid [D] H4 := hid_in List.mem_cons_self
      have hl : kvs.length = i := by rw [kv.len, List.length_map, List.length_range]
      refine ⟨kvs, Sum.inr (its i).1, rfl, h4, Nat.lt_of_le_of_lt (Nat.le_trans (Nat.le_of_eq hl) (Nat.le_trans (Nat.le_of_lt hi) hn)) (by decide), hi, putK kvs (Sum.inr (its i).1) z, by rw [e4]; exact s.trans (sHid s4), upd_same, ?_⟩
      rw [e4, range_map_snoc, ← putA_new (n := (its i).1) (x := (its i).2)]
      · exact KvD.put (kv.same (sHid s4)) (by rw [← hid0 H4] at d4; exact noS_dp (noS_dK h4) _ _ d4)
      · intro hm
        obtain ⟨t, ht, e⟩ := List.mem_map.mp hm
        obtain ⟨j, hj, rfl⟩ := List.mem_map.mp ht
        have hj' := List.mem_range.mp hj
        have := inj j i (by omega) hi e
        omega
  · rintro H ⟨_, kvs, s, hD, kv⟩
    exact hd H kvs (Same_hid0 s) hD kv
end K8
set_option maxRecDepth 100000
set_option maxHeartbeats 4000000
namespace K8
open PySem PySem.Spec PyProof.Rows L2
/-! ### more rules for dicts -/
section
variable {X : Cx} {e o : Expr} {te td : TE} {p pos apos cpos : Pos}
def rSortK : List V → Hp → VK → Prop := fun xs H Q => ∃ (a : Addr) (kvs : List (Key × V)) (ks : List Str), xs = [.ref a] ∧ Rd H a (.dK kvs) ∧ kvs.map (·.1) = ks.map Sum.inr ∧ ks.length < 64 ∧
    ∀ ys p, ys.Perm ks → sortedS ys = true → H p = none → Q (.ref p) (upd H p (.lst (ys.map V.str)))
theorem eSortK (hc : X.calm = true) (hm : X.mg "sorted" = none) (ha : PE X e te) (hg : Gl X "sorted" := by rfl) (he : starEach [e] X.env = (false, eval e X.env) :: starEach [] X.env := by rfl) (hpl : (backTo pos (starEach [] X.env)).any (·.1) = false := by rfl) :
    PE X (.Call (.Name "sorted" p) [e] [] pos) (tCB rSortK (tCons te tNil)) := pe_callB (call_sortedD hc) hg hm PyProof.Rows.boot_sorted (pa_cons ha pa_nil he) (by decide) (by decide) he hpl
theorem eListK (hc : X.calm = true) (hm : X.mg "list" = none) (ha : PE X e te) (hg : Gl X "list" := by rfl) (he : starEach [e] X.env = (false, eval e X.env) :: starEach [] X.env := by rfl) (hpl : (backTo pos (starEach [] X.env)).any (·.1) = false := by rfl) :
    PE X (.Call (.Name "list" p) [e] [] pos) (tCB rListD (tCons te tNil)) := pe_callTy (call_list_dK hc) hg hm PyProof.Rows.boot_list (pa_cons ha pa_nil he) (by decide) (by decide) he hpl
def rDictP (K : PySem.W.Frag) : List V → Hp → VK → Prop := fun xs H Q => ∃ (a : Addr) (ps : List Addr) (kvs : List (Key × V)), xs = [.ref a] ∧ SqL K H a (ps.map V.ref) ∧ Paired (fun p kv => SqT K H p [kV kv.1, kv.2]) ps kvs ∧
    ∀ p, H p = none → Q (.ref p) (upd H p (.dK (mergeK [] kvs)))
theorem eDictP (K : PySem.W.Frag) (hc : X.calm = true) (hm : X.mg "dict" = none) (ha : PE X e te) (h : X.K = K := by rfl) (hg : Gl X "dict" := by rfl) (he : starEach [e] X.env = (false, eval e X.env) :: starEach [] X.env := by rfl) (hpl : (backTo pos (starEach [] X.env)).any (·.1) = false := by rfl) :
    PE X (.Call (.Name "dict" p) [e] [] pos) (tCB (rDictP K) (tCons te tNil)) := by subst h; exact pe_callTy (call_dictP hc) hg hm (by decide +kernel) (pa_cons ha pa_nil he) (by decide) (by decide) he hpl
/-- dict(d) of a dict -/
def rUpd : V → List V → Hp → VK → Prop := fun x vs H Q => ∃ d b kvs more, x = .ref d ∧ vs = [.ref b] ∧ d ≠ b ∧ H d = some (.dK kvs) ∧ H b = some (.dK more) ∧ kvs.length + more.length ≤ sizeLine ∧ Q .non (upd H d (.dK (mergeK kvs more)))
theorem mt_upd : MtR X "dict.update" rUpd := by
  intro pins s σ H x xs v us Q I rx rv h
  obtain ⟨d, b, kvs, more, rfl, rfl, ne, hd, hb, hz, q⟩ := h
  cases rx
  obtain ⟨u, rfl, ru⟩ := rv.one
  obtain rfl : u = Value.ref b := ru
  obtain ⟨z1, s1, vs1, k1, o1⟩ := dk_of I.hok hd
  obtain ⟨z2, s2, vs2, k2, o2⟩ := dk_of I.hok hb
  refine call_meetsIn PySem.F.slot_dict_update o1.typeIs PySem.F.entry_dict_update (PySem.F.args_dict_update_2 _ _) (meets_dict_update (mixKind X.prog X.w) d b ne s2) ⟨vs1, vs2, o1, o2, ?_, fun h' hm _ sb => ?_⟩
  · rw [← k1.length, ← k2.length]; exact hz
  · have he : ∃ q, h'.get? d = some q := let ⟨q, _, _, hq, _⟩ := hm; ⟨q, hq⟩
    exact ⟨.non, _, d_write (t' := s.toks) I (by rw [hd]; exact True.intro) sb he (dk_new (Nat.le_trans (length_mergeK more kvs) hz) s1 (KV.merge k2 k1) hm), rfl, q⟩
theorem eUpd (K : PySem.W.Frag) (ho : PE X o td) (he : PE X e te) (h : X.K = K := by rfl)
    (hbase : attributeBase o "update" X.env (eval o X.env) = eval o X.env := by rfl)
    (hfew : ((backTo cpos (starEach [e] X.env)).all (fun x => !x.1) && (backToKw cpos (keywordEach [] X.env)).all (fun x => x.1.isSome)
      && decide (([e] : List Expr).length + ([] : List Keyword).length + (if ([] : List Keyword).isEmpty then 0 else 1) < 30)) = true := by rfl)
    (hline : (apos.endLine == cpos.line) = true := by rfl) (hs : starEach [e] X.env = (false, eval e X.env) :: starEach [] X.env := by rfl) (hplain : (backTo cpos (starEach [] X.env)).any (·.1) = false := by rfl) :
    PE X (.Call (.Attribute o "update" apos) [e] [] cpos) (tBM K "dict" rUpd td (tCons te tNil)) := eBm K PySem.F.plainAttrs_dict PySem.F.slot_dict_update PySem.F.type_dict_update mt_upd ho (pa_cons he pa_nil hs) h hbase hfew hline hs hplain
/-! ### dict(d) -/
end
/-! ### tuples laid somewhere behind -/
section
variable {X : Cx} {pins : List (Addr × Obj)} {σ : L2.St} {H : Hp} {s : Shared}
theorem un_more {fs ex : List Addr} {H H1 : Hp} {h h' : Heap} {a : Addr} {o : HO} (u : Un fs ex H H1 h h') (hp : h.objs.size ≤ a) (hn : H1 a = none) : Un fs ex H (upd H1 a o) h h' where
  keep := u.keep
  slot := u.slot
  free := fun b x q n e => by rw [upd_ne (Nat.ne_of_lt (Nat.lt_of_lt_of_le (Heap.lt_size q) hp))]; exact u.free b x q n e
  there := u.there
  tups := fun b xs q => by rw [upd_ne (ne_of_none (u.tups b xs q) hn)]; exact u.tups b xs q
  frzs := fun b x y q => by rw [upd_ne (ne_of_none (u.frzs b x y q) hn)]; exact u.frzs b x y q
  tbls := fun b ps q => by
    obtain ⟨m, hm⟩ := u.tbls b ps q
    exact ⟨m, by rw [upd_ne (ne_of_none hm hn)]; exact hm⟩
theorem hok_more {P : Program} {w : World} {H1 : Hp} {h' : Heap} {a : Addr} {o : HO} (k : HOk P w H1 h') (hn : H1 a = none) (new : ObjOk P w (upd H1 a o) h' a o) : HOk P w (upd H1 a o) h' := fun b x q => by
  by_cases e : b = a
  · subst e
    rw [upd_same] at q
    cases q
    exact new
  · rw [upd_ne e] at q
    exact (k b x q).stay (fun c v _ r => r) (fun c r => by rw [upd_ne (ne_of_none r hn)]; exact r) fun c xs r => by rw [upd_ne (ne_of_none r hn)]; exact r
theorem tups_laid {h' : Heap} {tk : Nat} (I : Inv X pins σ H s) (k : ∀ b o, s.heap.get? b = some o → h'.get? b = some o) : ∀ (as : List Addr) (ts : List (List V)), Paired (fun (a : Addr) (xs : List V) => s.heap.objs.size ≤ a ∧ xs.length ≤ sizeLine ∧ ∃ its : List Value, Vals xs its ∧ IsTup h' a its.toArray) as ts → as.Nodup →
    ∃ H', Inv X pins σ H' { s with heap := h', toks := tk } ∧ Same H H' ∧ Paired (fun (a : Addr) (xs : List V) => H a = none ∧ H' a = some (.tup xs)) as ts ∧ ∀ b, b ∉ as → H' b = H b := by
  have go : ∀ (as : List Addr) (ts : List (List V)), Paired (fun (a : Addr) (xs : List V) => s.heap.objs.size ≤ a ∧ xs.length ≤ sizeLine ∧ ∃ its : List Value, Vals xs its ∧ IsTup h' a its.toArray) as ts → as.Nodup →
      ∃ H', Un (frs X.stack) [] H H' s.heap h' ∧ HOk X.prog X.w H' h' ∧ Same H H' ∧ Paired (fun (a : Addr) (xs : List V) => H a = none ∧ H' a = some (.tup xs)) as ts ∧ ∀ b, b ∉ as → H' b = H b := by
    intro as ts hp
    induction hp with
    | nil => exact fun _ => ⟨H, Un.kept k, I.hok.kept k, Same.refl H, .nil, fun _ _ => rfl⟩
    | @cons a xs as ts q t ih =>
      intro nd
      obtain ⟨nd1, nd2⟩ := List.nodup_cons.mp nd
      obtain ⟨H', u, ok, sm, pr, off⟩ := ih nd2
      have na : H a = none := I.hok.fresh q.1
      have na' : H' a = none := by rw [off a nd1]; exact na
      refine ⟨upd H' a (.tup xs), un_more u q.1 na', hok_more ok na' q.2, sm.trans (same_new na'), .cons ⟨na, upd_same⟩ ?_, fun b hb => ?_⟩
      · have : ∀ {as : List Addr} {ts : List (List V)}, Paired (fun (a : Addr) (xs : List V) => H a = none ∧ H' a = some (.tup xs)) as ts → Paired (fun (b : Addr) (ys : List V) => H b = none ∧ upd H' a (.tup xs) b = some (.tup ys)) as ts :=
          fun p => Paired_mono (fun b ys r => ⟨r.1, same_new na' _ _ r.2⟩) p
        exact this pr
      · have h1 : b ≠ a := fun e => hb (by rw [e]; exact List.mem_cons_self)
        rw [upd_ne h1]
        exact off b fun z => hb (List.mem_cons_of_mem _ z)
  intro as ts hp nd
  obtain ⟨H', u, ok, sm, pr, off⟩ := go as ts hp nd
  exact ⟨H', I.call' (s' := { s with heap := h', toks := tk }) (ch := []) rfl u ok I.bare (fun b z => by cases z), sm, pr, off⟩
end
end K8
set_option maxRecDepth 100000
set_option maxHeartbeats 4000000
namespace K8
open PySem PySem.Spec PyProof.Rows L2
/-! ### sorted(d.items()), list(d.values()) -/
theorem alike_Ls : ∀ a b : List Rule, PySem.W.alikeAll (a.map encL) (b.map encL) = true
  | [], _ => by simp [PySem.W.alikeAll]
  | _ :: _, [] => by simp [PySem.W.alikeAll]
  | x :: a, y :: b => by simp [PySem.W.alikeAll, alike_L, alike_Ls a b]
theorem alike_T (t u : Str × List Rule) : PySem.W.alike (encT t) (encT u) = true := by simp [encT, PySem.W.alike, PySem.W.alikeAll, alike_Ls]
theorem depthAll_le {n : Nat} : ∀ {l : List PyData}, (∀ d ∈ l, d.depth ≤ n) → PyData.depthAll l ≤ n
  | [], _ => by simp [PyData.depthAll]
  | d :: l, h => by
    simp only [PyData.depthAll]
    exact Nat.max_le.mpr ⟨h d List.mem_cons_self, depthAll_le fun e he => h e (List.mem_cons_of_mem _ he)⟩
theorem depth_L2 (r : Rule) : (encL r).depth ≤ 2 := by simp [encL, PyData.depth, PyData.depthAll, depth_strs]
theorem depth_T (t : Str × List Rule) : (encT t).depth ≤ 32 := by
  have h : PyData.depthAll (t.2.map encL) ≤ 2 := depthAll_le fun d hd => by
    obtain ⟨r, _, rfl⟩ := List.mem_map.mp hd
    exact depth_L2 r
  simp only [encT, PyData.depth, PyData.depthAll]
  omega
abbrev encRs (rs : List Rule) : PyData := .list (rs.map encL)
abbrev encRp (rs : List Rule) : PyData := .list (rs.map encP)
theorem zip3 {α β γ : Type} {P : α → β → Prop} {Q : γ → β → Prop} : ∀ {as : List α} {bs : List β} {cs : List γ}, Paired P as bs → Paired Q cs bs → ∃ l : List (α × β × γ), l.map (·.1) = as ∧ l.map (·.2.1) = bs ∧ l.map (·.2.2) = cs ∧ ∀ x ∈ l, P x.1 x.2.1 ∧ Q x.2.2 x.2.1
  | _, _, _, .nil, .nil => ⟨[], rfl, rfl, rfl, fun _ z => by cases z⟩
  | a :: _, b :: _, c :: _, .cons p ps, .cons q qs => by
    obtain ⟨l, h1, h2, h3, h4⟩ := zip3 ps qs
    refine ⟨(a, b, c) :: l, by simp [h1], by simp [h2], by simp [h3], fun x hx => ?_⟩
    rcases List.mem_cons.mp hx with e | hx
    · subst e; exact ⟨p, q⟩
    · exact h4 x hx
theorem paired_of_mem {α β γ : Type} {P : α → β → Prop} {f : γ → α} {g : γ → β} : ∀ {l : List γ}, (∀ x ∈ l, P (f x) (g x)) → Paired P (l.map f) (l.map g)
  | [], _ => .nil
  | x :: l, h => .cons (h x List.mem_cons_self) (paired_of_mem fun y hy => h y (List.mem_cons_of_mem _ hy))
def tSortI (K : PySem.W.Frag) (te : TE) : TE := fun σ H Q => te σ H fun x H1 => ∃ (M : List Addr) (d : Addr) (kvs : List (Key × V)) (R : Bk), x = .ref d ∧ H1 d = some (.dK kvs) ∧ KvD K (hid M H1) encRs R kvs ∧ kvs.length ≤ 1000000 ∧
  ∀ (p : Addr) (ps : List Addr) (kvs' : List (Key × V)) (R' : Bk) (H' : Hp), Same H1 H' → H1 p = none → H' p = some (.lst (ps.map V.ref)) → Paired (fun t kv => SqT K H' t [kV kv.1, kv.2]) ps kvs' → R'.Perm R → KvD K (hid M H') encRs R' kvs' → Q (.ref p) H'
section
variable {X : Cx} {e : Expr} {te : TE} {p apos cpos pos : Pos}
theorem pe_sortItems (hc : X.calm = true) (hu : X.A.units + 65 < cLine) (he : PE X e te) (hg : Gl X "sorted") (hm : X.mg "sorted" = none) (hbase : attributeBase e "items" X.env (eval e X.env) = eval e X.env := by rfl) (hline : (apos.endLine == cpos.line) = true := by rfl)
    (hs : starEach [.Call (.Attribute e "items" apos) [] [] cpos] X.env = (false, eval (.Call (.Attribute e "items" apos) [] [] cpos) X.env) :: starEach [] X.env := by rfl) (hpl : (backTo pos (starEach [] X.env)).any (·.1) = false := by rfl) :
    PE X (.Call (.Name "sorted" p) [.Call (.Attribute e "items" apos) [] [] cpos] [] pos) (tSortI X.K te) := by
  refine ⟨fun pins s σ H Q I hq => wpAny_Call_Name_kw (ld_blt I hg hm PyProof.Rows.boot_sorted ?_ (by decide) (by decide))⟩
  refine PyProof.Rows.callWith_builtin1 ?_ hs hpl
  rw [hs]
  show wpAny _ _ (spliced ((false, eval (.Call (.Attribute e "items" apos) [] [] cpos) X.env) :: backTo pos (starEach [] X.env))) _ _ s
  refine Calls.spliced_cons ?_
  refine wpAny_Call_method (T := "dict") (id := "dict.items") hbase rfl hline F.plainAttrs_dict F.slot_dict_items F.type_dict_items (thn (he.run pins s σ H _ I hq) fun u s1 ⟨x, H1, I1, rx, M, d, kvs, R, ex, hd, kd, hz, q⟩ => ?_)
  subst ex
  obtain rfl : u = Value.ref d := rx
  obtain ⟨hz0, hs0, vs, kv, hdo⟩ := I1.hok d _ hd
  obtain ⟨ep, hat⟩ := hdo.dictAt
  have lk : kvs.length = vs.length := Paired.length kv
  have I2 : Inv X pins σ H1 { s1 with heap := s1.heap.push { cls := .type "dict_items", data := .fields #[.ref d] } } := I1.kept (t' := s1.toks) fun b ob q => Heap.get?_push_of_some _ q
  refine ⟨hdo.typeIs, hdo.mapOf.noDict, ?_⟩
  show wpAny _ _ (callWith cpos (.builtin "dict.items") [.ref d] [] []) _ X.xe s1
  refine method_meetsIn F.slot_dict_items F.entry_dict_items rfl (PySem.evalArgs_none ⟨rfl, hdo.typeIs, F.args_dict_items_1 _, _, meets_dict_items (mixKind X.prog X.w) d hs0, ⟨vs, hdo⟩, ?_⟩)
  refine Calls.spliced_nil ?_
  refine sorted_any hu (PySem.W.kdx_collect (A := X.A.in1) (knd := mixKind X.prog X.w) (kvs := vs) (ep := ep) (I1.ok.hd hc) ⟨_, Heap.get?_push_size _ rfl, rfl, rfl⟩ (hat.push _) (by omega) fun h' tk as hk hl hG => ?_)
  have nd : as.Nodup := List.Pairwise.imp (fun {a b} (h : a < b) => Nat.ne_of_lt h) hG.rise
  -- the tuples, beside the entries
  have pr : Paired (fun (a : Addr) (kv : Key × V) => (s1.heap.push { cls := .type "dict_items", data := .fields #[.ref d] }).objs.size ≤ a ∧ ∃ its : List Value, Vals [kV kv.1, kv.2] its ∧ IsTup h' a its.toArray) as kvs := by
    have get : ∀ (j : Nat) (a : Addr) (y : Key × V), as[j]? = some a → kvs[j]? = some y → (s1.heap.push { cls := .type "dict_items", data := .fields #[.ref d] }).objs.size ≤ a ∧ ∃ its : List Value, Vals [kV y.1, y.2] its ∧ IsTup h' a its.toArray := by
      intro j a y ea ey
      obtain ⟨key, k, x, f1, f2, f3⟩ := hG.pairs j a ea
      obtain ⟨qv, g1, g2, g3⟩ := LiI.paired_get kv ey
      rw [f1] at g1
      cases g1
      have rk : RelV (kV y.1) key := by
        rw [g2]
        exact relV_key (show keyIs k key = true from f2)
      exact ⟨Nat.le_of_lt (hG.above a (List.mem_of_getElem? ea)), [key, x], .cons rk (.cons g3 .nil), ⟨_, f3, rfl, _, rfl⟩⟩
    have all : ∀ (as : List Addr) (kvs : List (Key × V)), as.length = kvs.length → (∀ (j : Nat) (a : Addr) (y : Key × V), as[j]? = some a → kvs[j]? = some y → (s1.heap.push { cls := .type "dict_items", data := .fields #[.ref d] }).objs.size ≤ a ∧ ∃ its : List Value, Vals [kV y.1, y.2] its ∧ IsTup h' a its.toArray) →
        Paired (fun (a : Addr) (kv : Key × V) => (s1.heap.push { cls := .type "dict_items", data := .fields #[.ref d] }).objs.size ≤ a ∧ ∃ its : List Value, Vals [kV kv.1, kv.2] its ∧ IsTup h' a its.toArray) as kvs := by
      intro as
      induction as with
      | nil =>
        intro kvs e _
        cases kvs with
        | nil => exact .nil
        | cons _ _ => cases e
      | cons a as ih =>
        intro kvs e g
        cases kvs with
        | nil => cases e
        | cons y kvs => exact .cons (g 0 a y rfl rfl) (ih kvs (Nat.succ.inj e) fun j b z h1 h2 => g (j + 1) b z (by simpa using h1) (by simpa using h2))
    exact all as kvs (by omega) get
  have pr2 : Paired (fun (a : Addr) (xs : List V) => (s1.heap.push { cls := .type "dict_items", data := .fields #[.ref d] }).objs.size ≤ a ∧ xs.length ≤ sizeLine ∧ ∃ its : List Value, Vals xs its ∧ IsTup h' a its.toArray) as (kvs.map fun kv => [kV kv.1, kv.2]) := by
    have g : ∀ {as : List Addr} {kvs : List (Key × V)}, Paired (fun (a : Addr) (kv : Key × V) => (s1.heap.push { cls := .type "dict_items", data := .fields #[.ref d] }).objs.size ≤ a ∧ ∃ its : List Value, Vals [kV kv.1, kv.2] its ∧ IsTup h' a its.toArray) as kvs →
        Paired (fun (a : Addr) (xs : List V) => (s1.heap.push { cls := .type "dict_items", data := .fields #[.ref d] }).objs.size ≤ a ∧ xs.length ≤ sizeLine ∧ ∃ its : List Value, Vals xs its ∧ IsTup h' a its.toArray) as (kvs.map fun kv => [kV kv.1, kv.2]) := by
      intro as kvs p
      induction p with
      | nil => exact .nil
      | cons q t ih => exact .cons ⟨q.1, (by show 2 ≤ sizeLine; decide), q.2⟩ ih
    exact g pr
  obtain ⟨H2, J, sm, tp, off⟩ := tups_laid (tk := tk) I2 hk as _ pr2 nd
  have tp2 : Paired (fun (a : Addr) (kv : Key × V) => H2 a = some (.tup [kV kv.1, kv.2])) as kvs := by
    have g : ∀ {as : List Addr} {kvs : List (Key × V)}, Paired (fun (a : Addr) (xs : List V) => H1 a = none ∧ H2 a = some (.tup xs)) as (kvs.map fun kv => [kV kv.1, kv.2]) → Paired (fun (a : Addr) (kv : Key × V) => H2 a = some (.tup [kV kv.1, kv.2])) as kvs := by
      intro as kvs p
      induction kvs generalizing as with
      | nil => cases p; exact .nil
      | cons y kvs ih =>
        cases p with
        | cons q t => exact .cons q.2 (ih t)
    exact g tp
  obtain ⟨l, l1, l2, l3, l4⟩ := zip3 tp2 (kd.same (sHid (M := M) sm))
  have hll : l.length = kvs.length := by rw [← l2, List.length_map]
  let f : Addr × (Key × V) × (Str × List Rule) → V × PyData := fun x => (V.ref x.1, encT x.2.2)
  have dpx : ∀ x ∈ l, Dp X.K H2 (f x).1 (f x).2 := fun x hx => by
    obtain ⟨a1, a2, a3⟩ := l4 x hx
    refine .tup (SqT.of a1) (.cons ?_ (.cons (sDp hid_same _ _ a3) .nil))
    rw [a2]
    exact .str _
  refine ⟨l.map f, H2, J, ?_, sortOk_of dpx (fun x y => alike_T _ _) (.inl fun x => ⟨_, _, rfl⟩) (fun x => depth_T _) (by omega), fun p np => ?_⟩
  · have e1 : (l.map f).map (·.1) = as.map V.ref := by rw [← l1, List.map_map, List.map_map]; rfl
    rw [e1]
    exact LiI.vals_refs as
  · obtain ⟨l', el⟩ : ∃ l', l' = l.mergeSort (PySem.W.dataLe false fun x => (f x).2) := ⟨_, rfl⟩
    have pm : l'.Perm l := by rw [el]; exact List.mergeSort_perm _ _
    have es : (sortB (l.map f)).map (·.1) = (l'.map (·.1)).map V.ref := by
      have : sortB (l.map f) = l'.map f := by rw [el]; exact (PySem.W.sort_maps f fun _ _ _ _ => rfl).symm
      rw [this, List.map_map, List.map_map]
      rfl
    rw [es]
    have sn := same_new (o := .lst ((l'.map (·.1)).map V.ref)) np
    refine q p (l'.map (·.1)) (l'.map (·.2.1)) (l'.map (·.2.2)) _ (sm.trans sn) (Same.free sm np) upd_same (paired_of_mem fun x hx => ?_) ?_ (paired_of_mem fun x hx => ?_)
    · exact SqT.of (sn _ _ (l4 x (pm.mem_iff.mp hx)).1)
    · rw [← l3]; exact pm.map _
    · obtain ⟨a1, a2, a3⟩ := l4 x (pm.mem_iff.mp hx)
      exact ⟨a2, sDp (sHid sn) _ _ a3⟩
theorem eSortItems (K : PySem.W.Frag) (hc : X.calm = true) (hu : X.A.units + 65 < cLine) (hm : X.mg "sorted" = none) (he : PE X e te) (h : X.K = K := by rfl) (hg : Gl X "sorted" := by rfl) (hbase : attributeBase e "items" X.env (eval e X.env) = eval e X.env := by rfl) (hline : (apos.endLine == cpos.line) = true := by rfl)
    (hs : starEach [.Call (.Attribute e "items" apos) [] [] cpos] X.env = (false, eval (.Call (.Attribute e "items" apos) [] [] cpos) X.env) :: starEach [] X.env := by rfl) (hpl : (backTo pos (starEach [] X.env)).any (·.1) = false := by rfl) :
    PE X (.Call (.Name "sorted" p) [.Call (.Attribute e "items" apos) [] [] cpos] [] pos) (tSortI K te) := by subst h; exact pe_sortItems hc hu he hg hm hbase hline hs hpl
/-- list(d.values()) -/
def tListV (te : TE) : TE := fun σ H Q => te σ H fun x H1 => ∃ (d : Addr) (kvs : List (Key × V)), x = .ref d ∧ H1 d = some (.dK kvs) ∧ ∀ p, H1 p = none → Q (.ref p) (upd H1 p (.lst (kvs.map (·.2))))
theorem pe_listVals (hc : X.calm = true) (he : PE X e te) (hm : X.mg "list" = none) (hg : Gl X "list" := by rfl) (hbase : attributeBase e "values" X.env (eval e X.env) = eval e X.env := by rfl) (hline : (apos.endLine == cpos.line) = true := by rfl)
    (hs : starEach [.Call (.Attribute e "values" apos) [] [] cpos] X.env = (false, eval (.Call (.Attribute e "values" apos) [] [] cpos) X.env) :: starEach [] X.env := by rfl) (hpl : (backTo pos (starEach [] X.env)).any (·.1) = false := by rfl) :
    PE X (.Call (.Name "list" p) [.Call (.Attribute e "values" apos) [] [] cpos] [] pos) (tListV te) := by
  refine ⟨fun pins s σ H Q I hq => wpAny_Call_Name_kw (ld_blt I hg hm PyProof.Rows.boot_list ?_ (by decide) (by decide))⟩
  refine PyProof.Rows.callWith_type1 ?_ hs hpl
  rw [hs]
  show wpAny _ _ (spliced ((false, eval (.Call (.Attribute e "values" apos) [] [] cpos) X.env) :: backTo pos (starEach [] X.env))) _ _ s
  refine Calls.spliced_cons ?_
  refine wpAny_Call_method (T := "dict") (id := "dict.values") hbase rfl hline F.plainAttrs_dict F.slot_dict_values F.type_dict_values (thn (he.run pins s σ H _ I hq) fun u s1 ⟨x, H1, I1, rx, d, kvs, ex, hd, q⟩ => ?_)
  subst ex
  obtain rfl : u = Value.ref d := rx
  obtain ⟨hz0, hs0, vs, kv, hdo⟩ := I1.hok d _ hd
  obtain ⟨ep, hat⟩ := hdo.dictAt
  have lk : kvs.length = vs.length := Paired.length kv
  have I2 : Inv X pins σ H1 { s1 with heap := s1.heap.push { cls := .type "dict_values", data := .fields #[.ref d] } } := I1.kept (t' := s1.toks) fun b ob q => Heap.get?_push_of_some _ q
  refine ⟨hdo.typeIs, hdo.mapOf.noDict, ?_⟩
  show wpAny _ _ (callWith cpos (.builtin "dict.values") [.ref d] [] []) _ X.xe s1
  refine method_meetsIn F.slot_dict_values F.entry_dict_values rfl (PySem.evalArgs_none ⟨rfl, hdo.typeIs, F.args_dict_values_1 _, _, meets_dict_values (mixKind X.prog X.w) d hs0, ⟨vs, hdo⟩, ?_⟩)
  refine Calls.spliced_nil ?_
  refine PySem.W.kdl_call (PySem.W.kdl_values (knd := mixKind X.prog X.w) (kvs := vs) (ep := ep)) (I1.ok.hd hc) ⟨⟨_, Heap.get?_push_size _ rfl, rfl, rfl⟩, hat.push _⟩ (by omega) fun h' tk acc c hk hS hacc => ?_
  have J := I2.laid (t' := tk) (o := .lst (kvs.map (·.2))) hk (Nat.le_refl _) ⟨by rw [List.length_map]; exact hz0, acc.toList, c, ?_, by rw [Array.toArray_toList]; exact hS⟩
  · exact ⟨.ref _, _, J, rfl, q _ (I2.hok.fresh (Nat.le_refl _))⟩
  · refine vals_of_at (by have := hacc.1; simp only [List.length_map, Array.length_toList]; omega) fun j x w h1 h2 => ?_
    obtain ⟨k, e1⟩ := hacc.2 j w (by rw [← Array.getElem?_toList]; exact h2)
    rw [List.getElem?_map] at h1
    cases e2 : kvs[j]? with
    | none => rw [e2] at h1; cases h1
    | some y =>
      rw [e2] at h1
      have e3 := Option.some.inj h1
      subst e3
      obtain ⟨z, g1, g2, g3⟩ := LiI.paired_get kv e2
      rw [e1] at g1
      cases g1
      exact g3
end
end K8
set_option maxRecDepth 100000
set_option maxHeartbeats 4000000
namespace K8
open PySem PySem.Spec PyProof.Rows L2
/-! ### data where something that is no list, no tuple, is set -/
section
variable {K : PySem.W.Frag} {H : Hp} {d : Addr}
theorem dp_upd {o : HO} (n : NoS H d) {x : PyData} {v : V} (h : Dp K H v x) : Dp K (upd H d o) v x := by
  rw [← hid0 H] at h
  have h2 := noS_dp n _ _ h
  rw [← hid_in (H := H) (o := o) (List.mem_singleton.mpr rfl)] at h2
  exact sDp hid_same _ _ h2
theorem kv_upd {α : Type} {f : α → PyData} {F : List (Str × α)} {kvs : List (Key × V)} {o : HO} (n : NoS H d) (h : KvD K H f F kvs) : KvD K (upd H d o) f F kvs := Paired_mono (fun _ _ q => ⟨q.1, dp_upd n q.2⟩) h
end
theorem dp_list {K : PySem.W.Frag} {H : Hp} {v : V} {ds : List PyData} (h : Dp K H v (.list ds)) : ∃ a xs, v = .ref a ∧ SqL K H a xs ∧ DpAll K H xs ds := by
  cases h with
  | lst h1 h2 => exact ⟨_, _, rfl, h1, h2⟩
theorem dp_tup {K : PySem.W.Frag} {H : Hp} {v : V} {ds : List PyData} (h : Dp K H v (.tuple ds)) : ∃ a xs, v = .ref a ∧ SqT K H a xs ∧ DpAll K H xs ds := by
  cases h with
  | tup h1 h2 => exact ⟨_, _, rfl, h1, h2⟩
theorem dp_P {K : PySem.W.Frag} {H : Hp} {v : V} {r : Rule} (h : Dp K H v (encP r)) : ∃ a b, v = .ref a ∧ SqT K H a [.str r.1, .ref b] ∧ SqT K H b (r.2.map .str) := by
  obtain ⟨a, xs, rfl, h1, h2⟩ := dp_tup h
  cases h2 with
  | cons x y =>
    cases x
    cases y with
    | cons x z =>
      cases z
      obtain ⟨b, ys, rfl, h3, h4⟩ := dp_tup x
      rw [dp_strs_inv h4] at h3
      exact ⟨a, b, rfl, h1, h3⟩
theorem dp_L {K : PySem.W.Frag} {H : Hp} {v : V} {r : Rule} (h : Dp K H v (encL r)) : ∃ a b, v = .ref a ∧ SqT K H a [.str r.1, .ref b] ∧ SqL K H b (r.2.map .str) := by
  obtain ⟨a, xs, rfl, h1, h2⟩ := dp_tup h
  cases h2 with
  | cons x y =>
    cases x
    cases y with
    | cons x z =>
      cases z
      obtain ⟨b, ys, rfl, h3, h4⟩ := dp_list x
      rw [dp_strs_inv h4] at h3
      exact ⟨a, b, rfl, h1, h3⟩
theorem dpAll_at {α : Type} {K : PySem.W.Frag} {H : Hp} {f : α → PyData} {xs : List V} {rs : List α} {i : Nat} {x : V} (h : DpAll K H xs (rs.map f)) (hx : xs[i]? = some x) : ∃ r, rs[i]? = some r ∧ Dp K H x (f r) := by
  obtain ⟨d, e, q⟩ := DpAll.get h hx
  rw [List.getElem?_map] at e
  cases hr : rs[i]? with
  | none => rw [hr] at e; cases e
  | some r =>
    rw [hr] at e
    have e' : f r = d := Option.some.inj e
    subst e'
    exact ⟨r, rfl, q⟩
theorem dpAll_len {α : Type} {K : PySem.W.Frag} {H : Hp} {f : α → PyData} {xs : List V} {rs : List α} (h : DpAll K H xs (rs.map f)) : xs.length = rs.length := by rw [DpAll.len h, List.length_map]
theorem strs_at {r : List Str} {i : Nat} {x : V} (h : (r.map V.str)[i]? = some x) : ∃ z, x = .str z ∧ r[i]? = some z ∧ z ∈ r := by
  rw [List.getElem?_map] at h
  cases hr : r[i]? with
  | none => rw [hr] at h; cases h
  | some z =>
    rw [hr] at h
    exact ⟨z, (Option.some.inj h).symm, rfl, List.mem_of_getElem? hr⟩
/-! ### a statement, an expression that is never reached -/
def sNo : TS := fun _ _ _ => False
theorem ps_no {X : Cx} {st : Stmt} : PS X st sNo := ⟨fun _ _ _ _ _ _ h => h.elim⟩
theorem pss_no {X : Cx} {sts : List Stmt} : PSs X sts sNo := ⟨fun _ _ _ _ _ _ h => h.elim⟩
section
variable {P : Program} {w : World} {K : PySem.W.Frag} {mg : Str → Option Value} {base : Heap}
/-! ### lacking_in: nothing lacks -/
def spLack (K : PySem.W.Frag) : Sp := fun vs H Q _ => ∃ (d : Addr) (kvs : List (Key × V)) (R : Bk), vs = [.ref d] ∧ H d = some (.dK kvs) ∧ KvD K H encRp R kvs ∧ R.length ≤ 1000 ∧ (∀ t ∈ R, t.2.length ≤ 1000000 ∧ ∀ q ∈ t.2, q.2.length ≤ 1000000 ∧ ∀ n ∈ q.2, n ∈ R.map (·.1)) ∧
  ∀ p H', Same H H' → H p = none → H' p = some (.lst []) → Q (.ref p) H'
theorem sc_lacking : FnScope ["rules", "found", "some", "letter", "row", "one"] ["rules"] (defScope s_lacking_in) := ⟨rfl, rfl, rfl, by decide +kernel, rfl, by decide +kernel, by decide +kernel⟩
theorem ok_lacking (T : Txt K mg) : FnOk P w K mg base CX0 1 T.lacking_in.f T.lacking_in.fd ["rules"] (spLack K) := by
  refine T.lacking_in.F.ok sc_lacking (fun vs H Q E h => ?_) (fun cdv A outer s H vs Q E hr h => ?_)
  · obtain ⟨d, kvs, R, rfl, _⟩ := h
    rfl
  obtain ⟨d, kvs, R, rfl, hd, kd, hl, hc, q⟩ := h
  have nd := sc_lacking.nd
  refine ⟨_, pss_cons (ps_set (i := 1) nd rfl (Or.inl rfl) pe_dnewK)
    (pss_cons (ps_lock (ps_for PassesOwn.never rfl (pi_values (pv 0)) (pg_name (i := 2) nd rfl (Or.inl rfl)) (pss_one (ps_for PassesOwn.never rfl (iL K (pv 2)) (gTu (K := K) rfl (pgs_cons (pg_name (i := 3) nd rfl (Or.inl rfl)) (pgs_cons (pg_name (i := 4) nd rfl (Or.inl rfl)) pgs_nil)))
      (pss_one (ps_expr (eUpd K (pv 1) (pe_dc (own := [("one", 5)]) (g := gName 5) (tv := tC (.bl true)) rfl nd (iT K (pv 4)) (blkOk_by (N := ["rules", "found", "some", "letter", "row", "one"]) (sc := defScope s_lacking_in) (by decide +kernel))
        (fun _ _ _ _ _ => pg_name (i := 5) nd rfl (Or.inl rfl)) (fun _ _ _ _ _ => pts_one (pt_cmp (pc_dnotin (hu_of hr) (pv 5) (pv 0)) (by rfl))) (fun _ _ _ _ _ => pv 5) (fun _ _ _ _ _ => pe_bl)))))))))
    (pss_one (ps_ret (eSortK rfl T.z_sorted (pv 1))))), ?_⟩
  intro f nf
  have ndf : d ≠ f := ne_of_none hd nf
  have s0 := same_new (o := .dK []) nf
  obtain ⟨H1, e1⟩ : ∃ H1, H1 = upd H f (.dK []) := ⟨_, rfl⟩
  have hd1 : H1 d = some (.dK kvs) := by rw [e1]; exact s0 _ _ hd
  have hf1 : H1 f = some (.dK []) := by rw [e1]; exact upd_same
  rw [← e1] at s0 ⊢
  refine ⟨d, _, hd1, trivial, fun od => ?_⟩
  obtain ⟨H2, e2⟩ : ∃ H2, H2 = upd H1 d (.frz od (.dK kvs)) := ⟨_, rfl⟩
  have hd2 : H2 d = some (.frz od (.dK kvs)) := by rw [e2]; exact upd_same
  have hf2 : H2 f = some (.dK []) := by rw [e2, upd_ne ndf.symm]; exact hf1
  have kd2 : KvD K H2 encRp R kvs := by rw [e2]; exact kv_upd (noS_dK hd1) (kd.same s0)
  rw [← e2]
  refine ⟨_, rfl, d, od, kvs, rfl, hd2, ?_⟩
  refine for_it walk_values (fun i σ H' => (∃ v2 v3 v4, σ = [some (.ref d), some (.ref f), v2, v3, v4, none]) ∧ Same H2 H') ⟨⟨none, none, none, rfl⟩, Same.refl _⟩ (fun i σ H' _ p => p.2 _ _ hd2) ?_ ?_
  · rintro i x σ H3 H3' hi ⟨⟨v2, v3, v4, rfl⟩, s3⟩ ⟨rfl, k, hk⟩
    obtain ⟨t, ht, _, dt⟩ := (kd2.same s3).get hk
    have htm := List.mem_of_getElem? ht
    obtain ⟨a, xs, rfl, hx, hall⟩ := dp_list dt
    refine ⟨_, rfl, a, rfl, ⟨xs, hx⟩, ?_⟩
    refine for_it walk_list (fun j σ H' => (∃ v3 v4, σ = [some (.ref d), some (.ref f), some (.ref a), v3, v4, none]) ∧ Same H3' H') ⟨⟨v3, v4, rfl⟩, Same.refl _⟩ (fun j σ H' _ p => p.2.seq hx) ?_ ?_
    · rintro j y σ H4 H4' hj ⟨⟨v3, v4, rfl⟩, s4⟩ ⟨rfl, hy⟩
      obtain ⟨r, hr1, dr⟩ := dpAll_at hall hy
      have hrm := List.mem_of_getElem? hr1
      obtain ⟨b, c, rfl, hb, hcc⟩ := dp_P (sDp s4 _ _ dr)
      refine ⟨b, _, rfl, hb, rfl, _, _, rfl, _, _, rfl, rfl, ?_⟩

      have hf4 : H4' f = some (.dK []) := s4 _ _ (s3 _ _ hf2)
      have hd4 : H4' d = some (.frz od (.dK kvs)) := s4 _ _ (s3 _ _ hd2)
      refine ⟨_, rfl, .inr (.inr (.inl ⟨rfl, .inl ⟨_, hf4⟩⟩)), ?_⟩
      refine ⟨_, rfl, c, rfl, ⟨_, hcc⟩, fun D nD => ?_⟩
      have nfD : f ≠ D := ne_of_none hf4 nD
      refine dc_it walk_tup (fun i H => Same H4' H ∧ H D = some (.dK [])) ⟨same_new nD, upd_same⟩ (fun i H _ p => sSeqT p.1 hcc) ?_ ?_
      · rintro m z H5 H5' hm ⟨s5, hD5⟩ ⟨rfl, hz⟩
        obtain ⟨n, rfl, hn, hnm⟩ := strs_at hz
        refine ⟨rfl, _, rfl, _, rfl, d, _, rfl, .inl ⟨kvs, Sum.inr n, .inr ⟨od, s5 _ _ hd4⟩, rfl, rfl⟩, _, rfl, ?_⟩
        have : (valV kvs (Sum.inr n)).isSome = true := by
          rw [KvD.isSome kd]
          obtain ⟨x, hx⟩ := getA_some (((hc t htm).2 r hrm).2 n hnm)
          rw [hx]; rfl
        rw [this]
        exact iteF ⟨s5, hD5⟩
      · rintro H5 ⟨s5, hD5⟩
        refine ⟨f, D, [], [], rfl, rfl, nfD, s5 _ _ hf4, hD5, Nat.zero_le _, ?_⟩
        have : upd H5 f (.dK (mergeK [] [])) = H5 := by
          funext b
          by_cases e : b = f
          · subst e; rw [upd_same]; exact (s5 _ _ hf4).symm
          · rw [upd_ne e]
        rw [this]
        exact ⟨⟨_, _, rfl⟩, s4.trans s5⟩
    · rintro σ H4 ⟨⟨v3, v4, rfl⟩, s4⟩
      exact ⟨⟨_, _, _, rfl⟩, s3.trans s4⟩
  · rintro σ H3 ⟨⟨v2, v3, v4, rfl⟩, s3⟩
    refine ⟨s3 _ _ hd2, ?_⟩
    have s4 : Same H1 (upd H3 d (.dK kvs)) := same_unlock hd1 (by rw [← e2]; exact s3)
    refine ⟨_, rfl, f, [], [], rfl, .inl (s4 _ _ hf1), rfl, (by decide), fun ys p pm _ np => ?_⟩
    have : ys = [] := List.Perm.eq_nil pm
    subst this
    exact q p _ ((s0.trans s4).trans (same_new np)) (Same.free (s0.trans s4) np) upd_same
end
end K8
set_option maxRecDepth 100000
set_option maxHeartbeats 4000000
namespace K8
open PySem PySem.Spec PyProof.Rows L2
def AllCor (R : Bk) (N : Str → Nat) (F : List (Str × Nat)) : Prop := ∀ n ∈ R.map (·.1), getA F n = some (N n)
/-- within a pass over the book, i talks passed -/
structure PI1 (R : Bk) (N : Str → Nat) (F0 : List (Str × Nat)) (i : Nat) (F : List (Str × Nat)) (b : Bool) : Prop where
  sup : Sup R N F
  cor : ∀ k, Cor R N k F0 → CorP R N k i F
  no : b = false → F = F0
  all : AllCor R N F0 → b = false
/-- within a talk, j rules passed -/
structure PJ1 (R : Bk) (N : Str → Nat) (F0 : List (Str × Nat)) (i : Nat) (t : Str × List Rule) (j : Nat) (F : List (Str × Nat)) (b : Bool) : Prop extends PI1 R N F0 i F b where
  best : ∀ k, Cor R N k F0 → rk R N t.1 < k + 1 → (∃ q ∈ t.2.take j, N t.1 = 1 + sumN N q.2) → getA F t.1 = some (N t.1)
theorem PJ1.start {R : Bk} {N : Str → Nat} {F0 F : List (Str × Nat)} {i : Nat} {t : Str × List Rule} {b : Bool} (h : PI1 R N F0 i F b) : PJ1 R N F0 i t 0 F b := ⟨h, fun k _ _ ⟨q, hq, _⟩ => by simp at hq⟩
theorem PJ1.fin {R : Bk} {N : Str → Nat} {F0 F : List (Str × Nat)} {i : Nat} {t : Str × List Rule} {b : Bool} (hN : IsN R N) (ht : R[i]? = some t) (h : PJ1 R N F0 i t t.2.length F b) : PI1 R N F0 (i + 1) F b :=
  ⟨h.sup, fun k c => (h.cor k c).next ht fun hk => h.best k c hk (by
    obtain ⟨q, hq, e⟩ := hN.at' t (List.mem_of_getElem? ht)
    exact ⟨q, by rw [List.take_length]; exact hq, e⟩), h.no, h.all⟩
theorem take_snoc {α : Type} {l : List α} {j : Nat} {q x : α} (hq : l[j]? = some q) : x ∈ l.take (j + 1) ↔ x ∈ l.take j ∨ x = q := by
  rw [List.take_succ, hq]
  simp
section
variable {R : Bk} {N : Str → Nat} {F0 F : List (Str × Nat)} {i j : Nat} {t : Str × List Rule} {q : Rule} {b : Bool}
theorem PJ1.skip (cl : ∀ t ∈ R, ∀ q ∈ t.2, ∀ n ∈ q.2, n ∈ R.map (·.1)) (ht : R[i]? = some t) (hq : t.2[j]? = some q) (h : PJ1 R N F0 i t j F b) (ha : allF F q.2 = false) : PJ1 R N F0 i t (j + 1) F b := by
  refine ⟨h.toPI1, fun k c hk ⟨q', hq', e⟩ => ?_⟩
  rcases (take_snoc hq).mp hq' with h1 | h1
  · exact h.best k c hk ⟨q', h1, e⟩
  · subst h1
    obtain ⟨a, _⟩ := cor_row cl (List.mem_of_getElem? ht) (List.mem_of_getElem? hq) e hk (h.cor k c).1
    rw [ha] at a
    cases a
theorem many_le (hN : IsN R N) (ht : R[i]? = some t) (hq : t.2[j]? = some q) (h : Sup R N F) (ha : allF F q.2 = true) : N t.1 ≤ 1 + sumN (valF F) q.2 := by
  have h1 := hN.le t (List.mem_of_getElem? ht) q (List.mem_of_getElem? hq)
  have h2 := sup_sum h ha
  omega
theorem PJ1.keep (cl : ∀ t ∈ R, ∀ q ∈ t.2, ∀ n ∈ q.2, n ∈ R.map (·.1)) (ht : R[i]? = some t) (hq : t.2[j]? = some q) (h : PJ1 R N F0 i t j F b) {v : Nat} (hv : getA F t.1 = some v) (hle : v ≤ 1 + sumN (valF F) q.2) : PJ1 R N F0 i t (j + 1) F b := by
  refine ⟨h.toPI1, fun k c hk ⟨q', hq', e⟩ => ?_⟩
  rcases (take_snoc hq).mp hq' with h1 | h1
  · exact h.best k c hk ⟨q', h1, e⟩
  · subst h1
    obtain ⟨a, e2⟩ := cor_row cl (List.mem_of_getElem? ht) (List.mem_of_getElem? hq) e hk (h.cor k c).1
    have := (h.sup.2 _ _ hv).2
    rw [hv]
    congr 1
    omega
theorem not_before (nd : (R.map (·.1)).Nodup) (ht : R[i]? = some t) : t.1 ∉ (R.take i).map (·.1) := by
  intro hm
  have hi : i < R.length := (List.getElem?_eq_some_iff.mp ht).1
  obtain ⟨u, hu, e⟩ := List.mem_map.mp hm
  obtain ⟨m, hm2, e2⟩ := List.mem_iff_getElem.mp hu
  have hmi : m < i := by
    rw [List.length_take] at hm2
    omega
  rw [List.getElem_take] at e2
  have h3 : (R.map (·.1))[m]'(by rw [List.length_map]; omega) = (R.map (·.1))[i]'(by rw [List.length_map]; omega) := by
    rw [List.getElem_map, List.getElem_map, e2, e]
    have := (List.getElem?_eq_some_iff.mp ht).2
    rw [this]
  exact (List.pairwise_iff_getElem.mp nd) m i _ _ hmi h3
theorem PJ1.set (nd : (R.map (·.1)).Nodup) (cl : ∀ t ∈ R, ∀ q ∈ t.2, ∀ n ∈ q.2, n ∈ R.map (·.1)) (hN : IsN R N) (ht : R[i]? = some t) (hq : t.2[j]? = some q) (h : PJ1 R N F0 i t j F b) (ha : allF F q.2 = true)
    (hc : ∀ v, getA F t.1 = some v → 1 + sumN (valF F) q.2 < v) : PJ1 R N F0 i t (j + 1) (putA F t.1 (1 + sumN (valF F) q.2)) true := by
  have tm := List.mem_of_getElem? ht
  have tn : t.1 ∈ R.map (·.1) := List.mem_map.mpr ⟨t, tm, rfl⟩
  have hle := many_le hN ht hq h.sup ha
  have nat : ¬ getA F t.1 = some (N t.1) := fun e => by
    have := hc _ e
    omega
  refine ⟨⟨h.sup.put tn hle, fun k c => ?_, fun z => (by cases z), fun hA => absurd ?_ nat⟩, fun k c hk ⟨q', hq', e⟩ => ?_⟩
  · have cp := h.cor k c
    refine ⟨cp.1.put fun hk => absurd (cp.1 _ tn hk) nat, fun n hn hk => ?_⟩
    rw [getA_put]
    rw [if_neg fun e : n = t.1 => not_before nd ht (e ▸ hn)]
    exact cp.2 n hn hk
  · exact (h.cor R.length fun n hn _ => hA n hn).1 _ tn (rk_lt tn)
  · rcases (take_snoc hq).mp hq' with h1 | h1
    · exact absurd (h.best k c hk ⟨q', h1, e⟩) nat
    · subst h1
      obtain ⟨a, e2⟩ := cor_row cl tm (List.mem_of_getElem? hq) e hk (h.cor k c).1
      rw [getA_put, if_pos rfl, e2]
theorem PI1.start (h : Sup R N F) : PI1 R N F 0 F false := ⟨h, fun k c => CorP.zero c, fun _ => rfl, fun _ => rfl⟩
theorem PI1.stop (h : PI1 R N F0 R.length F false) : AllCor R N F := by
  have e := h.no rfl
  subst e
  exact fun n hn => Cor.all (Cor.iter (fun k c => (h.cor k c).done) R.length) n hn
theorem PI1.more (h : PI1 R N F0 R.length F true) {k : Nat} (c : Cor R N k F0) : Cor R N (k + 1) F ∧ k < R.length := by
  refine ⟨(h.cor k c).done, ?_⟩
  apply Nat.lt_of_not_le
  intro hk
  have := h.all fun n hn => c n hn (Nat.lt_of_lt_of_le (rk_lt hn) hk)
  cases this
end
theorem sup_nil (R : Bk) (N : Str → Nat) : Sup R N [] := ⟨List.nodup_nil, fun n v h => by cases h⟩
theorem sum_map_val (F : List (Str × Nat)) (r : List Str) : ((r.map fun n => ((valF F n : Nat) : Int))).sum = ((sumN (valF F) r : Nat) : Int) := by
  induction r with
  | nil => rfl
  | cons x r ih =>
    rw [List.map_cons, List.sum_cons, ih]
    simp [sumN]
end K8
set_option maxRecDepth 100000
set_option maxHeartbeats 4000000
namespace K8
open PySem PySem.Spec PyProof.Rows L2
abbrev encN (n : Nat) : PyData := .int (n : Int)
/-! ### a comprehension of numbers found, of whether they are -/
theorem dp_int {K : PySem.W.Frag} {H : Hp} {v : V} {n : Nat} (h : Dp K H v (encN n)) : v = .int (n : Int) := by cases h; rfl
section
variable {X : Cx} {e : Expr} {te : TE} {p pos : Pos}
def rDictD : List V → Hp → VK → Prop := fun xs H Q => ∃ (a : Addr) (kvs : List (Key × V)), xs = [.ref a] ∧ Rd H a (.dK kvs) ∧ ∀ p, H p = none → Q (.ref p) (upd H p (.dK kvs))
theorem eDictD (hm : X.mg "dict" = none) (ha : PE X e te) (hg : Gl X "dict" := by rfl) (he : starEach [e] X.env = (false, eval e X.env) :: starEach [] X.env := by rfl) (hpl : (backTo pos (starEach [] X.env)).any (·.1) = false := by rfl) :
    PE X (.Call (.Name "dict" p) [e] [] pos) (tCB rDictD (tCons te tNil)) := pe_callTy call_dictD hg hm (by decide +kernel) (pa_cons ha pa_nil he) (by decide) (by decide) he hpl
end
/-- what all([one in found for one in row]) answers -/
theorem allF_eq (F : List (Str × Nat)) (r : List Str) : ((List.range (r.map V.str).length).map fun i => (getA F (r.getD i Str.empty)).isSome).all id = allF F r := by
  unfold allF
  have : ((List.range (r.map V.str).length).map fun i => (getA F (r.getD i Str.empty)).isSome) = r.map fun n => (getA F n).isSome := by
    rw [List.length_map]
    apply List.ext_getElem
    · simp
    · intro i h1 h2
      simp only [List.getElem_map, List.getElem_range]
      rw [List.getD_eq_getElem?_getD, List.getElem?_eq_getElem (by simpa using h2)]
      rfl
  rw [this, List.all_map]
  rfl
theorem sumF_eq (F : List (Str × Nat)) (r : List Str) : ((List.range (r.map V.str).length).map fun i => ((valF F (r.getD i Str.empty) : Nat) : Int)).sum = ((sumN (valF F) r : Nat) : Int) := by
  have : ((List.range (r.map V.str).length).map fun i => ((valF F (r.getD i Str.empty) : Nat) : Int)) = r.map fun n => ((valF F n : Nat) : Int) := by
    rw [List.length_map]
    apply List.ext_getElem
    · simp
    · intro i h1 h2
      simp only [List.getElem_map, List.getElem_range]
      rw [List.getD_eq_getElem?_getD, List.getElem?_eq_getElem (by simpa using h2)]
      rfl
  rw [this, sum_map_val]
theorem getD_of {α : Type} {l : List α} {i : Nat} {x d : α} (h : l[i]? = some x) : l.getD i d = x := by rw [List.getD_eq_getElem?_getD, h]; rfl
theorem items_yp {kvs : List (Key × V)} {i : Nat} {nm vv : V} (h1 : kvs[i]?.map (fun kv => kV kv.1) = some nm) (h2 : kvs[i]?.map Prod.snd = some vv) : ∃ k, kvs[i]? = some (k, vv) ∧ nm = kV k := by
  cases e : kvs[i]? with
  | none => rw [e] at h1; cases h1
  | some kv =>
    rw [e] at h1 h2
    have a1 : kV kv.1 = nm := Option.some.inj h1
    have a2 : kv.2 = vv := Option.some.inj h2
    exact ⟨kv.1, by rw [← a2], a1.symm⟩
section
variable {P : Program} {w : World} {K : PySem.W.Frag} {mg : Str → Option Value} {base : Heap}
def spNorms (K : PySem.W.Frag) : Sp := fun vs H Q _ => ∃ (d kn : Addr) (kvs : List (Key × V)) (R : Bk) (N : Str → Nat), vs = [.ref d, .ref kn] ∧ H d = some (.dK kvs) ∧ H kn = some (.dK []) ∧ KvD K H encRp R kvs ∧ R.length ≤ 1000 ∧ (R.map (·.1)).Nodup ∧ (∀ t ∈ R, t.2.length ≤ 1000000 ∧ ∀ q ∈ t.2, q.2.length ≤ 1000000 ∧ ∀ n ∈ q.2, n ∈ R.map (·.1)) ∧ IsN R N ∧
  ∀ p H' fk F, Same H H' → H p = none → H' p = some (.dK fk) → KvD K H' encN F fk → AllCor R N F → Q (.ref p) H'
theorem sc_norms_in : FnScope ["rules", "known", "found", "is_more", "name", "some", "letter", "row", "many", "one"] ["rules", "known"] (defScope s_norms_in) := ⟨rfl, rfl, rfl, by decide +kernel, rfl, by decide +kernel, by decide +kernel⟩
theorem ok_norms (T : Txt K mg) : FnOk P w K mg base CX0 1 T.norms_in.f T.norms_in.fd ["rules", "known"] (spNorms K) := by
  refine T.norms_in.F.ok sc_norms_in (fun vs H Q E h => ?_) (fun cdv A outer s H vs Q E hr h => ?_)
  · obtain ⟨d, kn, kvs, R, N, rfl, _⟩ := h
    rfl
  obtain ⟨d, kn, kvs, R, N, rfl, hd, hkn, kd, hl, ndR, hc, hN, q⟩ := h
  have nd := sc_norms_in.nd
  have hu := hu_of hr
  refine ⟨_, (pss_cons (ps_asg (pe_tup (pa_cons (eDictD T.z_dict (pv 1)) (pa_cons pe_bl pa_nil))) (gTu (K := K) rfl (pgs_cons (pg_name (i := 2) nd rfl (Or.inr rfl)) (pgs_cons (pg_name (i := 3) nd rfl (Or.inl rfl)) pgs_nil))))
    (pss_cons (ps_while PassesOwn.never (pt_val (pv 3))
      (pss_cons (ps_set (i := 3) nd rfl (Or.inl rfl) pe_bl)
      (pss_one (ps_lock (ps_for PassesOwn.never rfl (pi_items (pv 0)) (gTu (K := K) rfl (pgs_cons (pg_name (i := 4) nd rfl (Or.inl rfl)) (pgs_cons (pg_name (i := 5) nd rfl (Or.inl rfl)) pgs_nil)))
        (pss_one (ps_for PassesOwn.never rfl (iL K (pv 5)) (gTu (K := K) rfl (pgs_cons (pg_name (i := 6) nd rfl (Or.inl rfl)) (pgs_cons (pg_name (i := 7) nd rfl (Or.inl rfl)) pgs_nil)))
          (pss_one (ps_if (pt_val (eAll K rfl T.z_all (pe_lc (own := [("one", 9)]) (g := gName 9) (tt := tYes) rfl nd (iT K (pv 7)) (blkOk_by (N := ["rules", "known", "found", "is_more", "name", "some", "letter", "row", "many", "one"]) (sc := defScope s_norms_in) (by decide +kernel)) (fun _ _ _ _ _ => (pg_name (i := 9) nd rfl (Or.inl rfl))) (fun _ _ _ _ _ => pts_nil) (fun _ _ _ _ _ => (pe_cmp (pc_din hu (pv 9) (pv 2)) (by rfl))))))
            (pss_cons (ps_set (i := 8) nd rfl (Or.inl rfl) (pe_op op_add pe_int (eSum K rfl T.z_sum (pe_lc (own := [("one", 9)]) (g := gName 9) (tt := tYes) rfl nd (iT K (pv 7)) (blkOk_by (N := ["rules", "known", "found", "is_more", "name", "some", "letter", "row", "many", "one"]) (sc := defScope s_norms_in) (by decide +kernel)) (fun _ _ _ _ _ => (pg_name (i := 9) nd rfl (Or.inl rfl))) (fun _ _ _ _ _ => pts_nil) (fun _ _ _ _ _ => (pe_dget hu (pv 2) (pv 9) (fun _ _ => rfl)))))))
            (pss_one (ps_if (PW.pt (pw_or (pt_cmp (pc_dnotin hu (pv 4) (pv 2)) (by rfl)) (pw_or1 (pt_cmpR op_lt (pv 8) (pe_dget hu (pv 2) (pv 4) (fun _ _ => rfl)) (nomark _)))))
              (pss_one (ps_asg (pe_tup (pa_cons (pv 8) (pa_cons pe_bl pa_nil))) (gTu (K := K) rfl (pgs_cons (pg_sub (pv 2) (pv 4) (set_dict hu)) (pgs_cons (pg_name (i := 3) nd rfl (Or.inl rfl)) pgs_nil))))) pss_nil))) pss_nil)))))))))
    (pss_one (ps_ret (pv 2))))), ?_⟩
  have cl : ∀ t ∈ R, ∀ q ∈ t.2, ∀ n ∈ q.2, n ∈ R.map (·.1) := fun t ht q hq => ((hc t ht).2 q hq).2
  refine ⟨_, rfl, kn, [], rfl, .inl hkn, fun p np => ?_⟩
  refine ⟨(by show 2 ≤ sizeLine; decide), fun z nz => ?_⟩
  have npz : p ≠ z := ne_of_none upd_same nz
  refine ⟨z, _, rfl, SqT.of upd_same, rfl, _, _, rfl, _, _, rfl, rfl, ?_⟩
  have sA : Same (hid [] H) (hid [p] (upd (upd H p (.dK [])) z (.tup [.ref p, .bl true]))) := fun b o e => sHid (same_new nz) _ _ (hid_push np _ _ e)
  have hpA : upd (upd H p (.dK [])) z (.tup [.ref p, .bl true]) p = some (.dK []) := by rw [upd_ne npz]; exact upd_same
  have ndp : d ≠ p := ne_of_none hd np
  generalize upd (upd H p (.dK [])) z (.tup [.ref p, .bl true]) = HA at sA hpA ⊢
  -- what holds at each test of the while
  let Sl : L2.St → Bool → Prop := fun σ b => ∃ v4 v5 v6 v7 v8, σ = [some (.ref d), some (.ref kn), some (.ref p), some (.bl b), v4, v5, v6, v7, v8, none]
  let Hq : List (Str × Nat) → Hp → Prop := fun F H' => Same (hid [] H) (hid [p] H') ∧ ∃ fk, H' p = some (.dK fk) ∧ KvD K (hid [p] H') encN F fk
  refine while_x (fun m σ H' => ∃ F b, Sl σ b ∧ Hq F H' ∧ Sup R N F ∧ ((b = false ∧ AllCor R N F ∧ m = 0) ∨ (b = true ∧ ∃ k, Cor R N k F ∧ k ≤ R.length ∧ m = R.length + 1 - k)))
    (fun σ H' => ∃ F, Sl σ false ∧ Hq F H' ∧ AllCor R N F) _ ⟨[], true, ⟨none, none, none, none, none, rfl⟩, ⟨sA, [], hpA, kvD_nil⟩, sup_nil R N, .inr ⟨rfl, 0, Cor.zero, Nat.zero_le _, rfl⟩⟩ ?_ ?_
  · rintro σ H1 ⟨F, ⟨v4, v5, v6, v7, v8, rfl⟩, ⟨s1, fk, h1, k1⟩, ac⟩
    exact ⟨_, rfl, q p H1 fk F (Same_hid0 s1) np h1 (k1.same hid_same) ac⟩
  · rintro ex m σ H1 ⟨F0, b0, ⟨v4, v5, v6, v7, v8, rfl⟩, ⟨s1, fk0, h1, k1⟩, sup0, hm⟩
    refine ⟨_, rfl, _, rfl, ?_⟩
    rcases hm with ⟨rfl, ac, rfl⟩ | ⟨rfl, k, ck, hk, rfl⟩
    · exact iteF (ex _ _ ⟨F0, ⟨_, _, _, _, _, rfl⟩, ⟨s1, fk0, h1, k1⟩, ac⟩)
    refine iteT ⟨_, fun _ _ z => z, ?_⟩
    have hd1 : H1 d = some (.dK kvs) := Same_hid0 s1 _ _ hd
    refine ⟨d, _, hd1, trivial, fun od => ?_⟩
    obtain ⟨H2, e2⟩ : ∃ H2, H2 = upd H1 d (.frz od (.dK kvs)) := ⟨_, rfl⟩
    have hd2 : H2 d = some (.frz od (.dK kvs)) := by rw [e2]; exact upd_same
    have hp2 : H2 p = some (.dK fk0) := by rw [e2, upd_ne ndp.symm]; exact h1
    have kd2 : KvD K (hid [p] H2) encRp R kvs := by
      have a1 : KvD K H1 encRp R kvs := kd.same (Same_hid0 s1)
      have a2 : KvD K H2 encRp R kvs := by rw [e2]; exact kv_upd (noS_dK hd1) a1
      rw [← hid0 H2] at a2
      exact noS_kv (noS_dK hp2) a2
    rw [← e2]
    refine ⟨_, rfl, d, od, kvs, rfl, hd2, ?_⟩
    refine for_it walk_items (fun i σ H' => ∃ F b, Sl σ b ∧ (Same (hid [p] H2) (hid [p] H') ∧ ∃ fk, H' p = some (.dK fk) ∧ KvD K (hid [p] H') encN F fk) ∧ PI1 R N F0 i F b)
      ⟨F0, false, ⟨v4, v5, v6, v7, v8, rfl⟩, ⟨Same.refl _, fk0, hp2, ?_⟩, PI1.start sup0⟩ (fun i σ H' _ ⟨F, b, _, ⟨s, _⟩, _⟩ => (hid_of (s _ _ (hid_get (by simp; exact ndp) hd2))).2) ?_ ?_
    · have a : KvD K (hid [p] H1) encN F0 fk0 := k1
      refine Paired_mono (fun t kv z => ⟨z.1, ?_⟩) a
      have e := dp_int z.2
      rw [e]
      exact .int _
    · rintro i x σ H3 H3' hi ⟨F, b, ⟨v4, v5, v6, v7, v8, rfl⟩, ⟨s3, fk, h3, k3⟩, pi⟩ ⟨Tq, nm, vv, rfl, nT, rfl, hnm, hvv⟩
      obtain ⟨ky, ekv, rfl⟩ := items_yp hnm hvv
      obtain ⟨t, ht, ek, dt⟩ := (kd2.same s3).get ekv
      have ek : ky = Sum.inr t.1 := ek
      subst ek
      have htm := List.mem_of_getElem? ht
      obtain ⟨a, xs, rfl, hx, hall⟩ := dp_list dt
      have pT : p ≠ Tq := ne_of_none h3 nT
      refine ⟨Tq, _, rfl, SqT.of upd_same, rfl, _, _, rfl, _, _, rfl, rfl, ?_⟩
      have s4 : Same (hid [p] H3) (hid [p] (upd H3 Tq (.tup [kV (Sum.inr t.1), .ref a]))) := hid_new nT
      have h4 : upd H3 Tq (.tup [kV (Sum.inr t.1), .ref a]) p = some (.dK fk) := by rw [upd_ne pT]; exact h3
      generalize upd H3 Tq (.tup [kV (Sum.inr t.1), .ref a]) = H4 at s4 h4 ⊢
      refine ⟨_, rfl, a, rfl, ⟨xs, hid_same.seq (s4.seq hx)⟩, ?_⟩
      have hxl : xs.length = t.2.length := dpAll_len hall
      refine for_it walk_list (fun j σ H' => ∃ F b, (∃ v6 v7 v8, σ = [some (.ref d), some (.ref kn), some (.ref p), some (.bl b), some (.str t.1), some (.ref a), v6, v7, v8, none]) ∧ (Same (hid [p] H4) (hid [p] H') ∧ ∃ fk, H' p = some (.dK fk) ∧ KvD K (hid [p] H') encN F fk) ∧ PJ1 R N F0 i t j F b)
        ⟨F, b, ⟨_, _, _, rfl⟩, ⟨Same.refl _, fk, h4, k3.same s4⟩, PJ1.start pi⟩ (fun j σ H' _ ⟨F, b, _, ⟨s, _⟩, _⟩ => hid_same.seq (s.seq (s4.seq hx))) ?_ ?_
      · rintro j y σ H5 H5' hj ⟨F, b, ⟨v6, v7, v8, rfl⟩, ⟨s5, fk, h5, k5⟩, pj⟩ ⟨rfl, hy⟩
        obtain ⟨r, hr1, dr⟩ := dpAll_at hall hy
        have hrm := List.mem_of_getElem? hr1
        obtain ⟨bb, c, rfl, hb, hcc⟩ := dp_P (sDp (s4.trans s5) _ _ dr)
        refine ⟨bb, _, rfl, sSeqT hid_same hb, rfl, _, _, rfl, _, _, rfl, rfl, ?_⟩
        have hcc' : SqT K H5' c (r.2.map V.str) := sSeqT hid_same hcc
        have hlen : (r.2.map V.str).length ≤ 1000000 := by rw [List.length_map]; exact ((hc t htm).2 r hrm).1
        refine ⟨_, rfl, c, rfl, ⟨_, hcc'⟩, fun D nD => ?_⟩
        refine lc_p walk_tup nD hlen (fun i _ y => y = .bl ((getA F (r.2.getD i Str.empty)).isSome)) (fun _ _ _ _ _ _ r => r) (fun _ => true) (fun H6 s6 => sSeqT s6 hcc') ?_ ?_
        · rintro m z H6 H6' kk kk' hm s6 ⟨rfl, hz⟩ k1 _
          obtain ⟨n, rfl, hn, hnm⟩ := strs_at hz
          refine ⟨rfl, tYesI ⟨_, rfl, _, rfl, p, _, rfl, .inl ⟨fk, Sum.inr n, .inl (s6 _ _ h5), rfl, rfl⟩, k1 rfl _ _ (Same.refl _) ?_⟩⟩
          rw [getD_of hn, KvD.isSome k5]
        · intro H6 ys s6 hD pr
          rw [filter_true] at pr
          have e := Paired_map (f := fun i => V.bl ((getA F (r.2.getD i Str.empty)).isSome)) pr
          refine ⟨D, (List.range (r.2.map V.str).length).map (fun i => (getA F (r.2.getD i Str.empty)).isSome), rfl, SqL.of (by rw [hD, e, List.map_map]; rfl), _, rfl, ?_⟩
          rw [allF_eq]
          have h6 := s6 _ _ h5
          have s6' : Same (hid [p] H5') (hid [p] H6) := sHid s6
          cases ha : allF F r.2 with
          | false => exact iteF ⟨F, b, ⟨_, _, _, rfl⟩, ⟨s5.trans s6', fk, h6, k5.same s6'⟩, pj.skip cl ht hr1 ha⟩
          | true =>
            refine iteT ?_
            refine ⟨_, rfl, c, rfl, ⟨_, sSeqT s6 hcc'⟩, fun D2 nD2 => ?_⟩
            refine lc_p walk_tup nD2 hlen (fun i _ y => y = .int ((valF F (r.2.getD i Str.empty) : Nat) : Int)) (fun _ _ _ _ _ _ r => r) (fun _ => true) (fun H7 s7 => sSeqT s7 (sSeqT s6 hcc')) ?_ ?_
            · rintro m z H7 H7' kk kk' hm s7 ⟨rfl, hz⟩ k1 _
              obtain ⟨n, rfl, hn, hnm⟩ := strs_at hz
              have hsome : (getA F n).isSome = true := List.all_eq_true.mp ha n hnm
              cases hg : getA F n with
              | none => rw [hg] at hsome; cases hsome
              | some v =>
                obtain ⟨vv, e1, e2⟩ := k5.val hg
                have e3 := dp_int e2
                subst e3
                refine ⟨rfl, tYesI ⟨_, rfl, _, rfl, p, _, rfl, .inl ⟨fk, Sum.inr n, .inl (s7 _ _ h6), rfl, e1.symm⟩, k1 rfl _ _ (Same.refl _) ?_⟩⟩
                rw [getD_of hn]
                unfold valF
                rw [hg]
                rfl
            · intro H7 zs s7 hD2 pr2
              rw [filter_true] at pr2
              have e2 := Paired_map (f := fun i => V.int ((valF F (r.2.getD i Str.empty) : Nat) : Int)) pr2
              refine ⟨D2, (List.range (r.2.map V.str).length).map (fun i => ((valF F (r.2.getD i Str.empty) : Nat) : Int)), rfl, SqL.of (by rw [hD2, e2, List.map_map]; rfl), 1, _, rfl, rfl, ?_⟩
              rw [sumF_eq]
              have h7 := s7 _ _ h6
              have s7' : Same (hid [p] H5') (hid [p] H7) := s6'.trans (sHid s7)
              have k7 := k5.same s7'
              have em : (1 : Int) + ((sumN (valF F) r.2 : Nat) : Int) = ((1 + sumN (valF F) r.2 : Nat) : Int) := by omega
              dsimp only
              rw [em]
              have setIt : (∀ v, getA F t.1 = some v → 1 + sumN (valF F) r.2 < v) → ∀ X, X = putK fk (Sum.inr t.1) (.int ((1 + sumN (valF F) r.2 : Nat) : Int)) → True := fun _ _ _ => trivial
              have hput : (∀ v, getA F t.1 = some v → 1 + sumN (valF F) r.2 < v) → ∀ (U : Addr) (nU : H7 U = none), ∃ F' b', (∃ v6 v7 v8, [some (V.ref d), some (.ref kn), some (.ref p), some (.bl true), some (.str t.1), some (.ref a), some (.str r.1), some (.ref c), some (.int ((1 + sumN (valF F) r.2 : Nat) : Int)), none] = [some (V.ref d), some (.ref kn), some (.ref p), some (.bl b'), some (.str t.1), some (.ref a), v6, v7, v8, none]) ∧
                  (Same (hid [p] H4) (hid [p] (upd (upd H7 U (.tup [.int ((1 + sumN (valF F) r.2 : Nat) : Int), .bl true])) p (.dK (putK fk (Sum.inr t.1) (.int ((1 + sumN (valF F) r.2 : Nat) : Int)))))) ∧
                  ∃ fk', upd (upd H7 U (.tup [.int ((1 + sumN (valF F) r.2 : Nat) : Int), .bl true])) p (.dK (putK fk (Sum.inr t.1) (.int ((1 + sumN (valF F) r.2 : Nat) : Int)))) p = some (.dK fk') ∧ KvD K (hid [p] (upd (upd H7 U (.tup [.int ((1 + sumN (valF F) r.2 : Nat) : Int), .bl true])) p (.dK (putK fk (Sum.inr t.1) (.int ((1 + sumN (valF F) r.2 : Nat) : Int)))))) encN F' fk') ∧ PJ1 R N F0 i t (j + 1) F' b' := by
                intro hlt U nU
                have g1 : hid [p] (upd (upd H7 U (.tup [.int ((1 + sumN (valF F) r.2 : Nat) : Int), .bl true])) p (.dK (putK fk (Sum.inr t.1) (.int ((1 + sumN (valF F) r.2 : Nat) : Int))))) = hid [p] (upd H7 U (.tup [.int ((1 + sumN (valF F) r.2 : Nat) : Int), .bl true])) := hid_in List.mem_cons_self
                rw [g1]
                have g2 := hid_new (M := [p]) (o := .tup [.int ((1 + sumN (valF F) r.2 : Nat) : Int), .bl true]) nU
                exact ⟨putA F t.1 (1 + sumN (valF F) r.2), true, ⟨_, _, _, rfl⟩, ⟨(s5.trans s7').trans g2, _, upd_same, KvD.put (k7.same g2) (.int _)⟩, pj.set ndR cl hN ht hr1 ha hlt⟩
              have hdp : fk.length < sizeLine := by
                rw [k5.len]
                exact Nat.lt_of_le_of_lt (Nat.le_trans pj.sup.len hl) (by decide)
              refine ⟨_, rfl, _, rfl, p, _, rfl, .inl ⟨fk, Sum.inr t.1, .inl h7, rfl, rfl⟩, _, rfl, ?_⟩
              rw [KvD.isSome k5]
              cases hg : getA F t.1 with
              | none =>
                refine iteT (iteT ?_)
                refine ⟨_, rfl, (by show 2 ≤ sizeLine; decide), fun U nU => ?_⟩
                have pU : p ≠ U := ne_of_none h7 nU
                refine ⟨U, _, rfl, SqT.of upd_same, rfl, _, _, rfl, _, rfl, _, rfl, p, _, rfl, .inl ⟨fk, Sum.inr t.1, by rw [upd_ne pU]; exact h7, rfl, hdp, rfl⟩, _, _, rfl, rfl, ?_⟩
                exact hput (fun v e => by rw [hg] at e; cases e) U nU
              | some v =>
                obtain ⟨vv, e1, e3⟩ := k5.val hg
                have e4 := dp_int e3
                subst e4
                refine iteF ⟨_, rfl, _, rfl, _, rfl, p, _, rfl, .inl ⟨fk, Sum.inr t.1, .inl h7, rfl, e1.symm⟩, _, _, rfl, rfl, _, rfl, ?_⟩
                by_cases hlt : 1 + sumN (valF F) r.2 < v
                · rw [decide_eq_true (show ((1 + sumN (valF F) r.2 : Nat) : Int) < (v : Int) by omega)]
                  refine iteT ?_
                  refine ⟨_, rfl, (by show 2 ≤ sizeLine; decide), fun U nU => ?_⟩
                  have pU : p ≠ U := ne_of_none h7 nU
                  refine ⟨U, _, rfl, SqT.of upd_same, rfl, _, _, rfl, _, rfl, _, rfl, p, _, rfl, .inl ⟨fk, Sum.inr t.1, by rw [upd_ne pU]; exact h7, rfl, hdp, rfl⟩, _, _, rfl, rfl, ?_⟩
                  exact hput (fun w e => by rw [hg] at e; cases e; exact hlt) U nU
                · rw [decide_eq_false (show ¬ ((1 + sumN (valF F) r.2 : Nat) : Int) < (v : Int) by omega)]
                  exact iteF ⟨F, b, ⟨_, _, _, rfl⟩, ⟨s5.trans s7', fk, h7, k7⟩, pj.keep cl ht hr1 hg (by omega)⟩
      · rintro σ H5 ⟨F, b, ⟨v6, v7, v8, rfl⟩, ⟨s5, fk, h5, k5⟩, pj⟩
        rw [hxl] at pj
        exact ⟨F, b, ⟨_, _, _, _, _, rfl⟩, ⟨(s3.trans s4).trans s5, fk, h5, k5⟩, pj.fin hN ht⟩
    · rintro σ H3 ⟨F, b, ⟨v4, v5, v6, v7, v8, rfl⟩, ⟨s3, fk, h3, k3⟩, pi⟩
      have hkl : kvs.length = R.length := kd.len
      rw [hkl] at pi
      have hd3 : H3 d = some (.frz od (.dK kvs)) := (hid_of (s3 _ _ (hid_get (by simp; exact ndp) hd2))).2
      refine ⟨hd3, ?_⟩
      have g1 : upd H3 d (.dK kvs) p = some (.dK fk) := by rw [upd_ne ndp.symm]; exact h3
      have g2 : Same (hid [p] H1) (hid [p] (upd H3 d (.dK kvs))) := hid_unlock hd1 (by rw [← e2]; exact s3)
      have g3 : KvD K (hid [p] (upd H3 d (.dK kvs))) encN F fk := by
        refine Paired_mono (fun t kv z => ⟨z.1, ?_⟩) k3
        have e := dp_int z.2
        rw [e]
        exact .int _
      have sq : Same (hid [] H) (hid [p] (upd H3 d (.dK kvs))) := s1.trans g2
      cases b with
      | false => exact ⟨0, by omega, F, false, ⟨_, _, _, _, _, rfl⟩, ⟨sq, fk, g1, g3⟩, pi.sup, .inl ⟨rfl, pi.stop, rfl⟩⟩
      | true =>
        obtain ⟨c1, c2⟩ := pi.more ck
        exact ⟨R.length + 1 - (k + 1), by omega, F, true, ⟨_, _, _, _, _, rfl⟩, ⟨sq, fk, g1, g3⟩, pi.sup, .inr ⟨rfl, k + 1, c1, by omega, rfl⟩⟩
end
end K8
set_option maxRecDepth 100000
set_option maxHeartbeats 4000000
namespace K8
open PySem PySem.Spec PyProof.Rows L2
/-! ### enumerate(tuple), enumerate(list or tuple) -/
theorem meets_enum1 {v : Value} {o : Obj} {H : Heap → Prop} (B : Begins v o H) :
    Meets (Builtin.«enumerate.__new__» ⟨[.type "enumerate", v], []⟩) (fun _ R s => H s.heap ∧
      R (.ok (.ret (.ref (s.heap.push o).objs.size))) { s with heap := (s.heap.push o).push { cls := .type "enumerate", data := .fields #[.none, .bool false, .ref s.heap.objs.size, rawInt 0, .none, .none] } }) :=
  .of_wp fun prog w A R s h => by
    obtain ⟨hp, g, d, tk, os⟩ := s
    obtain ⟨h1, h⟩ := h
    have hsub := sub_enumerate
    have step : ∀ {A' : Around} {E : Value → Shared → Prop} {Q : Value → Shared → Prop}, Q (.ref hp.objs.size) ⟨hp.push o, g, d, tk, os⟩ → wpAny (model prog w) A' (pyIter v) Q E ⟨hp, g, d, tk, os⟩ := fun q => B.iter prog w _ _ ⟨hp, g, d, tk, os⟩ _ h1 q
    wp_walk using step
    refine wpAny_stack_any fun st => wpAny_pure ?_
    split
    · rename_i c _ _ _ _ _
      cases (c == Value.type "enumerate") <;>
      · wp_walk using step
        exact ⟨_, rfl, h⟩
    · wp_walk using step
      exact ⟨_, rfl, h⟩
theorem enum_one {prog : Program} {w : World} {A : Around} {E : Value → Shared → Prop} {s : Shared} {v : Value} {o : Obj} {H : Heap → Prop} {Q : Value → Shared → Prop} (B : Begins v o H) (h1 : H s.heap)
    (h : ∀ h', IsEnum h' (s.heap.objs.size + 1) s.heap.objs.size 0 .none → h'.get? s.heap.objs.size = some o → (∀ b u, s.heap.get? b = some u → h'.get? b = some u) → Q (.ref (s.heap.objs.size + 1)) { s with heap := h' }) :
    wpAny (model prog w) A (call (.type "enumerate") [v]) Q E s := by
  refine callType_new F.called_enumerate (by decide) (F.typeCall_enumerate_1 _) (F.newCall_enumerate_1 _) (fun obj => F.args_object_init_2 obj _) F.entry_enumerate_new (meets_enum1 B) ⟨h1, ?_⟩
  have hz : (s.heap.push o).objs.size = s.heap.objs.size + 1 := Heap.size_push ..
  have he : IsEnum ((s.heap.push o).push { cls := .type "enumerate", data := .fields #[.none, .bool false, .ref s.heap.objs.size, rawInt 0, .none, .none] }) (s.heap.objs.size + 1) s.heap.objs.size 0 .none := by
    have q := Heap.get?_push_size (s.heap.push o) (o := { cls := .type "enumerate", data := .fields #[.none, .bool false, .ref s.heap.objs.size, rawInt 0, .none, .none] }) rfl
    rw [hz] at q
    exact q
  show _ ∧ _
  rw [hz]
  exact ⟨⟨_, he, rfl⟩, h _ he (Heap.get?_push_of_some _ (Heap.get?_push_size _ B.free)) fun b u x => Heap.get?_push_of_some _ (Heap.get?_push_of_some _ x)⟩
def IteT (K : PySem.W.Frag) (a : Addr) : It :=
  ⟨fun i H => ∃ (xs : List V) (x : V), SqT K H a xs ∧ xs[i]? = some x, fun i H v H' => ∃ T x, v = .ref T ∧ H T = none ∧ H' = upd H T (.tup [.int (i : Nat), x]) ∧ ∀ xs, SqT K H a xs → xs[i]? = some x, fun i H => ∃ xs : List V, SqT K H a xs ∧ xs.length ≤ i⟩
theorem turn_enumT {P : Program} {w : World} {K : PySem.W.Frag} {elts : List Expr} {kk : Nat} {tpos : Pos} (a e it : Addr) :
    Turn P w K (.Tuple elts kk tpos) (IteT K a) [e, it] e (fun i h => (∃ old, IsEnum h e it ((i : Nat) : Int) old) ∧ h.IsTupleIter it a i ∧ e ≠ it ∧ a ≠ it ∧ e ≠ a) where
  mem := by simp
  obj := fun i h st b hb => by
    obtain ⟨⟨old, he⟩, ⟨o, ho, hc, hd⟩, _⟩ := st
    rcases (show b = e ∨ b = it by simpa using hb) with z | z
    · rw [z]; exact ⟨_, he, fun v q => nomatch q⟩
    · rw [z]; exact ⟨o, ho, fun v q => by rw [hd] at q; cases q⟩
  keep := fun i h h' st k => let ⟨⟨old, he⟩, hi, hne⟩ := st; ⟨⟨old, k e (by simp) _ he⟩, hi.at fun o q => k it (by simp) o q, hne⟩
  item := by
    intro X hP hw hK hc i pins s σ H E I hf st hg
    subst hP hw hK
    obtain ⟨⟨old, he⟩, hit, hne, ha1, ha2⟩ := st
    obtain ⟨xs, x, hq, hx⟩ := hg
    obtain ⟨its, rv, p, hz⟩ := I.tuple hq
    obtain ⟨u, hu, ru⟩ := rv.get hx
    have hel : e < s.heap.objs.size := Heap.lt_size he
    have hil : it < s.heap.objs.size := by obtain ⟨_, q, _⟩ := hit; exact Heap.lt_size q
    have hin : i < its.toArray.size := by
      have := (List.getElem?_eq_some_iff.mp hu).1
      simpa using this
    refine wpAny_pyNext_enum_itemD (Draws.tuple (A := X.A.in1) (I.ok.hd hc) it a ha1 its.toArray) he ⟨hit, (show s.heap.IsTuple a its.toArray from p)⟩ hin hne (by simp [hne, ha2]) fun y h' tk hy ho hs' hT hsz hk => ?_
    have ey : y = u := by
      have hy' : its[i]? = some y := by simpa using hy
      rw [hu] at hy'
      exact (Option.some.inj hy').symm
    subst ey
    refine ⟨_, rfl, wpAny_letOwnedTupleGo_enum (s := { s with heap := h', toks := tk + 1 }) ho fun h'' he' sb => ?_⟩
    have hT2 : h''.get? s.heap.objs.size = some { cls := .type "tuple", data := .seq #[.int i tk, y] } := (sb.2 _ (Nat.ne_of_gt hel)).trans hT
    have I1 : Inv X pins σ (upd H s.heap.objs.size (.tup [.int (i : Nat), x])) { s with heap := h'', toks := tk + 1 } :=
      I.turnedNew (ch := [e, it]) (fun b ob hb q => (sb.2 b (fun z => hb (by simp [z]))).trans (hk b ob (fun z => hb (by simp [z])) (fun z => hb (by simp [z])) q)) hf (Nat.le_refl _)
        ⟨by show 2 ≤ sizeLine; decide, [.int i tk, y], .cons ⟨_, rfl⟩ (.cons ru .nil), ⟨_, hT2, rfl, _, rfl⟩⟩
    refine ⟨.ref s.heap.objs.size, _, I1, rfl, ⟨_, x, rfl, I.hok.fresh (Nat.le_refl _), rfl, fun ys hy2 => by rw [I.tuple_inj hy2 hq]; exact hx⟩, ⟨⟨y, ?_⟩, hs'.1.at fun o q => (sb.2 it (Ne.symm hne)).trans q, hne, ha1, ha2⟩, fun b hb => ?_⟩
    · rw [show ((i + 1 : Nat) : Int) = (i : Int) + 1 by omega]
      exact he'
    · have hb' : b < s.heap.objs.size := by
        rcases (show b = e ∨ b = it by simpa using hb) with z | z
        · exact z ▸ hel
        · exact z ▸ hil
      rw [upd_ne (Nat.ne_of_lt hb')]
      exact (hf b hb).1
  done := by
    intro X hP hw hK hc i pins s σ H E I hf st hg
    subst hP hw hK
    obtain ⟨⟨old, he⟩, hit, hne, ha1, ha2⟩ := st
    obtain ⟨xs, hq, hx⟩ := hg
    obtain ⟨its, rv, p, hz⟩ := I.tuple hq
    obtain ⟨f0, f1, f2, f3, f4, f5⟩ := hf it (by simp)
    have hl := rv.length
    have D := Draws.tuple (prog := X.prog) (w := X.w) (A := X.A.in1) (I.ok.hd hc) it a ha1 its.toArray
    have hT : s.TypeIs (.ref e) "enumerate" := ⟨_, he, rfl⟩
    unfold pyNext
    refine wpAny_bind (wpAny_attempt (wpAny_callSpecial?_slot (name := Str.ofString "__next__") hT F.slot_enumerate_next (wpAny_call_entry F.slot_enumerate_next hT F.entry_enumerate_next ?_ (F.args_enumerate_next_1 _))))
    show wpAny _ _ (field (.ref e) 2 >>= _) _ _ _
    refine wpAny_bind (wpAny_field he rfl (x := .ref it) rfl ?_)
    refine wpAny_bind (wpAny_nextOf_tuple_end (I.ok.hd hc) hit (show s.heap.IsTuple a its.toArray from p) (by simp; omega) fun h' x he' hx' => ?_)
    obtain ⟨o, ho, hcl⟩ := hx'
    refine wpAny_bind (wpAny_isInstance (T := "StopIteration") (b := true) ⟨o, ho, hcl⟩ isSubtype_stop ?_)
    exact wpAny_pure ⟨rfl, I.turned (t' := s.toks) (fun b o hb q => he' b o hb q) f0 f1 f3 f4 f5⟩
  self := fun A i s Q E st h => let ⟨⟨_, he⟩, _⟩ := st; wpAny_pyIter_enum he h
theorem walk_enumT {K : PySem.W.Frag} {a : Addr} {xs : List V} : Walk (IteT K a) xs.length (fun H => SqT K H a xs) (YPair (fun i => some (.int (i : Nat))) (fun i => xs[i]?)) := by
  refine ⟨fun i _ hi q => ⟨xs, xs[i], q, by simp [hi]⟩, fun _ q => ⟨xs, q, Nat.le_refl _⟩, fun i H v H' _ q y => ?_⟩
  obtain ⟨T, x, h1, h2, h3, h4⟩ := y
  exact ⟨T, .int (i : Nat), x, h1, h2, h3, rfl, h4 xs q⟩
def iEnumAI (K : PySem.W.Frag) (vs : List V) (H1 : Hp) (R : It → Hp → Prop) : Prop := ∃ a, vs = [.ref a] ∧ (((∃ xs, SqL K H1 a xs) ∧ R (Ite K a) H1) ∨ ((∃ xs, SqT K H1 a xs) ∧ R (IteT K a) H1))
def iEnumA (K : PySem.W.Frag) (te : TE) : TI := fun σ H R => te σ H fun x H1 => iEnumAI K [x] H1 R
theorem iEnumA_of {K : PySem.W.Frag} {H1 : Hp} {a : Addr} {xs : List V} {R : It → Hp → Prop} (h : SqA K H1 a xs) (main : ∀ (J : It) (G : Hp → Prop), Walk J xs.length G (YPair (fun i => some (.int (i : Nat))) (fun i => xs[i]?)) → (∀ H, Same H1 H → G H) → R J H1) : iEnumAI K [.ref a] H1 R := by
  rcases h with h | h
  · exact ⟨a, rfl, .inl ⟨⟨_, h⟩, main _ _ walk_enum fun H s => s.seq h⟩⟩
  · exact ⟨a, rfl, .inr ⟨⟨_, h⟩, main _ _ walk_enumT fun H s => sSeqT s h⟩⟩
theorem pi_enumA0 {X : Cx} {e : Expr} {te : TE} {p pos tpos : Pos} {elts : List Expr} {kk : Nat} (hg : Gl X "enumerate") (hm : X.mg "enumerate" = none) (he : PE X e te) (hs : starEach [e] X.env = [(false, eval e X.env)] := by rfl) :
    PI X (.Tuple elts kk tpos) (.Call (.Name "enumerate" p) [e] [] pos) (iEnumA X.K te) := by
  have ha : PA X [e] (tCons te tNil) := pa_cons he pa_nil hs
  refine ⟨fun pins s σ H R I h => Call_ (ld_blt I hg hm boot_enumerate (PyProof.Rows.callWith_type1 (thn (ha.run pos pins s σ H _ I (show tCons te tNil σ H (fun vs H1 => iEnumAI X.K vs H1 R) from h)) fun us s1 ⟨vs, H1, I1, r1, q1⟩ => ?_) hs rfl))⟩
  obtain ⟨a, ex, q1⟩ := q1
  subst ex
  obtain rfl := Vals.ref1 r1
  have two : ∀ b ∈ [s1.heap.objs.size + 1, s1.heap.objs.size], FpOk X pins H1 b := fun b hb => by
    have hle : s1.heap.objs.size ≤ b := by
      rcases (show b = s1.heap.objs.size + 1 ∨ b = s1.heap.objs.size by simpa using hb) with z | z <;> omega
    exact I1.fpOk hle (I1.hok.fresh hle)
  rcases q1 with ⟨⟨xs, hq⟩, q⟩ | ⟨⟨xs, hq⟩, q⟩
  · obtain ⟨its, rv, p', hz⟩ := I1.list hq
    refine call_enumerate_list p'.isList fun h' he hit hsz hk => wpAny_pyIter_enum he ?_
    exact ⟨s1.heap.objs.size + 1, [s1.heap.objs.size + 1, s1.heap.objs.size], _, _, H1, rfl, I1.kept (t' := s1.toks) hk, turn_enum a (s1.heap.objs.size + 1) s1.heap.objs.size, ⟨⟨.none, he⟩, hit, Nat.succ_ne_self _⟩, two, q⟩
  · obtain ⟨its, rv, p', hz⟩ := I1.tuple hq
    have pt : s1.heap.IsTuple a its.toArray := p'
    have al : a < s1.heap.objs.size := by obtain ⟨_, q, _⟩ := pt; exact Heap.lt_size q
    refine enum_one (begins_tuple a its.toArray) pt fun h' he hit hk => wpAny_pyIter_enum he ?_
    exact ⟨s1.heap.objs.size + 1, [s1.heap.objs.size + 1, s1.heap.objs.size], _, _, H1, rfl, I1.kept (t' := s1.toks) hk, turn_enumT a (s1.heap.objs.size + 1) s1.heap.objs.size, ⟨⟨.none, he⟩, ⟨_, hit, rfl, rfl⟩, Nat.succ_ne_self _, Nat.ne_of_lt al, Nat.ne_of_gt (Nat.lt_succ_of_lt al)⟩, two, q⟩
theorem pi_enumA {X : Cx} (K : PySem.W.Frag) {e : Expr} {te : TE} {p pos tpos : Pos} {elts : List Expr} {kk : Nat} (hm : X.mg "enumerate" = none) (ha : PE X e te) (h : X.K = K := by rfl) (hg : Gl X "enumerate" := by rfl) (hs : starEach [e] X.env = [(false, eval e X.env)] := by rfl) :
    PI X (.Tuple elts kk tpos) (.Call (.Name "enumerate" p) [e] [] pos) (iEnumA K te) := by subst h; exact pi_enumA0 hg hm ha hs
end K8
set_option maxRecDepth 100000
set_option maxHeartbeats 4000000
namespace K8
open PySem PySem.Spec PyProof.Rows L2
/-! ### comprehensions of data -/
theorem Paired_dpl {K : PySem.W.Frag} {H : Hp} {f : Nat → PyData} : ∀ {l : List Nat} {ys : List V}, Paired (fun i y => Dp K H y (f i)) l ys → DpAll K H ys (l.map f)
  | _, _, .nil => .nil
  | _, _, .cons q t => .cons q (Paired_dpl t)
/-- what is made are data; M hides what may change besides, Ex says how it stands -/
theorem lc_gd {K : PySem.W.Frag} {J : It} {n : Nat} {G : Hp → Prop} {Y : Nat → Hp → V → Hp → Prop} (w : Walk J n G Y) {g : TG} {tt : TT} {te : TE} {vs : List Nat} {σ : L2.St} {H1 : Hp} {D : Addr} {Qd : Hp → Prop}
    (M : List Addr) (nD : H1 D = none) (hn : n ≤ 1000000) (Ex : Nat → Hp → Prop) (ex0 : Ex 0 (upd H1 D (.lst []))) (exD : ∀ i H o ys, H D = some (.lst ys) → Ex i H → Ex i (upd H D (.lst o)))
    (f : Nat → PyData) (keep : Nat → Bool)
    (hG : ∀ i H, i ≤ n → Ex i H → Same (hid M H1) (hid (D :: M) H) → G H)
    (hs : ∀ i x H H' ys (k : VK) (k' : Hp → Prop), i < n → Ex i H → Same (hid M H1) (hid (D :: M) H) → H D = some (.lst ys) → Y i H x H' →
      (keep i = true → ∀ y H4, Same (hid (D :: M) H) (hid (D :: M) H4) → H4 D = some (.lst ys) → Ex (i + 1) H4 → Dp K (hid (D :: M) H4) y (f i) → k y H4) →
      (keep i = false → ∀ H4, Same (hid (D :: M) H) (hid (D :: M) H4) → H4 D = some (.lst ys) → Ex (i + 1) H4 → k' H4) →
      g x (wipe σ vs) H' fun σ2 H2 => wipe σ2 vs = wipe σ vs ∧ tt σ2 H2 fun b H3 => if b = true then te σ2 H3 k else k' H3)
    (hd : ∀ H ys, Ex n H → Same (hid M H1) (hid (D :: M) H) → H D = some (.lst ys) → DpAll K (hid (D :: M) H) ys (((List.range n).filter keep).map f) → Qd H) :
    ∃ W : Nat → Nat → Hp → Prop, (∃ m, W 0 m (upd H1 D (.lst []))) ∧ ∀ i m H, W i m H →
      (J.stop i H ∧ Qd H) ∨ (J.go i H ∧ ∃ Nx : Hp → Prop, (∀ H', Nx H' → ∃ m', m' < m ∧ W (i + 1) m' H') ∧ ∀ x H', J.yld i H x H' → g x (wipe σ vs) H' fun σ2 H2 => wipe σ2 vs = wipe σ vs ∧ tt σ2 H2 fun b H3 =>
        if b = true then te σ2 H3 fun y H4 => ∃ acc, H4 D = some (.lst acc) ∧ acc.length < sizeLine ∧ Nx (upd H4 D (.lst (acc ++ [y]))) else Nx H3) :=
  lc_g w M nD hn Ex ex0 exD (fun i H y => Dp K (hid (D :: M) H) y (f i)) (fun i H H' y _ s r => sDp s _ _ r) keep hG hs fun H ys ex s hD p => hd H ys ex s hD (Paired_dpl p)
theorem lc_d {K : PySem.W.Frag} {J : It} {n : Nat} {G : Hp → Prop} {Y : Nat → Hp → V → Hp → Prop} (w : Walk J n G Y) {g : TG} {tt : TT} {te : TE} {vs : List Nat} {σ : L2.St} {H1 : Hp} {D : Addr} {Qd : Hp → Prop}
    (nD : H1 D = none) (hn : n ≤ 1000000) (f : Nat → PyData) (keep : Nat → Bool) (hG : ∀ H, Same H1 H → G H)
    (hs : ∀ i x H H' ys (k : VK) (k' : Hp → Prop), i < n → Same H1 H → H D = some (.lst ys) → Y i H x H' →
      (keep i = true → ∀ y H4, Same H H4 → Dp K (hid [D] H4) y (f i) → k y H4) → (keep i = false → ∀ H4, Same H H4 → k' H4) →
      g x (wipe σ vs) H' fun σ2 H2 => wipe σ2 vs = wipe σ vs ∧ tt σ2 H2 fun b H3 => if b = true then te σ2 H3 k else k' H3)
    (hd : ∀ H ys, Same H1 H → H D = some (.lst ys) → DpAll K (hid [D] H) ys (((List.range n).filter keep).map f) → Qd H) :
    ∃ W : Nat → Nat → Hp → Prop, (∃ m, W 0 m (upd H1 D (.lst []))) ∧ ∀ i m H, W i m H →
      (J.stop i H ∧ Qd H) ∨ (J.go i H ∧ ∃ Nx : Hp → Prop, (∀ H', Nx H' → ∃ m', m' < m ∧ W (i + 1) m' H') ∧ ∀ x H', J.yld i H x H' → g x (wipe σ vs) H' fun σ2 H2 => wipe σ2 vs = wipe σ vs ∧ tt σ2 H2 fun b H3 =>
        if b = true then te σ2 H3 fun y H4 => ∃ acc, H4 D = some (.lst acc) ∧ acc.length < sizeLine ∧ Nx (upd H4 D (.lst (acc ++ [y]))) else Nx H3) := by
  refine lc_gd w [] nD hn (fun _ _ => True) trivial (fun _ _ _ _ _ _ => trivial) f keep (fun i H _ _ s => hG H (Same_hid0 s)) ?_ fun H ys _ s hD p => hd H ys (Same_hid0 s) hD p
  intro i x H H' ys k k' hi _ s hD y h1 h2
  exact hs i x H H' ys k k' hi (Same_hid0 s) hD y (fun kp z H4 s4 r4 => h1 kp z H4 (sHid s4) (s4 _ _ hD) trivial r4) fun kp H4 s4 => h2 kp H4 (sHid s4) (s4 _ _ hD) trivial
theorem lc_pd {J : It} {n : Nat} {G : Hp → Prop} {Y : Nat → Hp → V → Hp → Prop} (w : Walk J n G Y) {g : TG} {tt : TT} {te : TE} {vs : List Nat} {σ : L2.St} {H1 : Hp} {D : Addr} {Qd : Hp → Prop}
    (nD : H1 D = none) (hn : n ≤ 1000000) (Rel : Nat → Hp → V → Prop) (mono : ∀ i H H' y, i < n → Same H H' → Rel i H y → Rel i H' y) (keep : Nat → Bool)
    (hG : ∀ H, Same H1 H → G H)
    (hs : ∀ i x H H' ys (k : VK) (k' : Hp → Prop), i < n → Same H1 H → H D = some (.lst ys) → Y i H x H' →
      (keep i = true → ∀ y H4, Same H H4 → Rel i (hid [D] H4) y → k y H4) → (keep i = false → ∀ H4, Same H H4 → k' H4) →
      g x (wipe σ vs) H' fun σ2 H2 => wipe σ2 vs = wipe σ vs ∧ tt σ2 H2 fun b H3 => if b = true then te σ2 H3 k else k' H3)
    (hd : ∀ H ys, Same H1 H → H D = some (.lst ys) → Paired (fun i y => Rel i (hid [D] H) y) ((List.range n).filter keep) ys → Qd H) :
    ∃ W : Nat → Nat → Hp → Prop, (∃ m, W 0 m (upd H1 D (.lst []))) ∧ ∀ i m H, W i m H →
      (J.stop i H ∧ Qd H) ∨ (J.go i H ∧ ∃ Nx : Hp → Prop, (∀ H', Nx H' → ∃ m', m' < m ∧ W (i + 1) m' H') ∧ ∀ x H', J.yld i H x H' → g x (wipe σ vs) H' fun σ2 H2 => wipe σ2 vs = wipe σ vs ∧ tt σ2 H2 fun b H3 =>
        if b = true then te σ2 H3 fun y H4 => ∃ acc, H4 D = some (.lst acc) ∧ acc.length < sizeLine ∧ Nx (upd H4 D (.lst (acc ++ [y]))) else Nx H3) := by
  refine lc_g w [] nD hn (fun _ _ => True) trivial (fun _ _ _ _ _ _ => trivial) (fun i H y => Rel i (hid [D] H) y) (fun i H H' y hi s r => mono i _ _ y hi s r) keep (fun i H _ _ s => hG H (Same_hid0 s)) ?_ fun H ys _ s hD p => hd H ys (Same_hid0 s) hD p
  intro i x H H' ys k k' hi _ s hD y h1 h2
  exact hs i x H H' ys k k' hi (Same_hid0 s) hD y (fun kp z H4 s4 r4 => h1 kp z H4 (sHid s4) (s4 _ _ hD) trivial r4) fun kp H4 s4 => h2 kp H4 (sHid s4) (s4 _ _ hD) trivial
/-- one argument's call, by its value -/
def t1 (r : List V → Hp → VK → Prop) (te : TE) : TE := fun σ H Q => te σ H fun x H1 => r [x] H1 Q
theorem pe_t1 {X : Cx} {e : Expr} {r : List V → Hp → VK → Prop} {te : TE} (h : PE X e (tCB r (tCons te tNil))) : PE X e (t1 r te) := h
theorem e1SortD {X : Cx} (K : PySem.W.Frag) {e : Expr} {te : TE} {p pos : Pos} (hu : X.A.units + 65 < cLine) (hm : X.mg "sorted" = none) (ha : PE X e te) (h : X.K = K := by rfl) (hg : Gl X "sorted" := by rfl) (he : starEach [e] X.env = (false, eval e X.env) :: starEach [] X.env := by rfl) (hpl : (backTo pos (starEach [] X.env)).any (·.1) = false := by rfl) :
    PE X (.Call (.Name "sorted" p) [e] [] pos) (t1 (rSortD K) te) := pe_t1 (eSortD K hu hm ha h hg he hpl)
theorem e1SortDk {X : Cx} (K : PySem.W.Frag) {e : Expr} {te : TE} {p pos : Pos} (P : Program) (w : World) (hc : X.calm = true) (hu : X.A.units + 65 < cLine) (hm : X.mg "sorted" = none) (ha : PE X e te) (h : X.K = K := by rfl) (h1 : X.prog = P := by rfl) (h2 : X.w = w := by rfl) (hg : Gl X "sorted" := by rfl) (he : starEach [e] X.env = (false, eval e X.env) :: starEach [] X.env := by rfl) (hpl : (backTo pos (starEach [] X.env)).any (·.1) = false := by rfl) :
    PE X (.Call (.Name "sorted" p) [e] [] pos) (t1 (rSortDk P w K) te) := pe_t1 (eSortDk K P w hc hu hm ha h h1 h2 hg he hpl)
/-- x = {rule: True for ..} -/
theorem eSetDcR {X : Cx} (K : PySem.W.Frag) {kx vx tg iter : Expr} {ifs : List Expr} {scope : Scope} {own : List (Str × Nat)} {pos : Pos} {wi : TI} {g : TG} {tt : TT} {tk tv : TE} {i : Nat} {y : Str} {py spos : Pos} (P : Program) (w : World) (hc : X.calm = true) (hN : X.N.Nodup) (hy : X.N[i]? = some y) (hyl : X.env.scope.names.lookup y = some .local) (hsw : swapsWith (.DictComp kx vx [⟨tg, iter, ifs, 0⟩] scope pos) (some (.Name y py)) spos.line X.env = pure true)
    (hu : X.A.units + 8 < cLine) (hi : PI X tg iter wi) (ok : BlkOk X.N X.env.scope scope own)
    (hg : ∀ s H C cl fp, PG (X.blk s H scope (compEnvC scope cl C X.env) fp) tg g) (ht : ∀ s H C cl fp, PTs (X.blk s H scope (compEnvC scope cl C X.env) fp) ifs tt)
    (hk : ∀ s H C cl fp, PE (X.blk s H scope (compEnvC scope cl C X.env) fp) kx tk) (he : ∀ s H C cl fp, PE (X.blk s H scope (compEnvC scope cl C X.env) fp) vx tv) (h : X.K = K := by rfl) (h1 : X.prog = P := by rfl) (h2 : X.w = w := by rfl) (hs : ∀ x, foldedSetIterable iter X.env x = pure x := by intro _; rfl) :
    PS X (.Assign [.Name y py] (.DictComp kx vx [⟨tg, iter, ifs, 0⟩] scope pos) spos) (tAsg (tDcR P w K wi g tt tk tv (own.map (·.2))) (gName i)) := by subst h h1 h2; exact ps_setDcR0 hc hN hy hyl hsw hu hi ok hg ht hk he hs
/-! ### tuples stand apart from lists -/
theorem sqT_hidL {K : PySem.W.Frag} {H : Hp} {M : List Addr} {D a : Addr} {xs ys : List V} (h : SqT K (hid M H) a xs) (hD : H D = some (.lst ys)) : SqT K (hid (D :: M) H) a xs := by
  have ne : ∀ o, H a = some o → o ≠ .lst ys → a ∉ M → a ∉ D :: M := fun o e n m z => (List.mem_cons.mp z).elim (fun q => by subst q; rw [hD] at e; exact n (Option.some.inj e).symm) m
  rcases h with (h | ⟨o, h⟩) | h
  · exact .inl (.inl (hid_get (ne _ (hid_of h).2 (by intro z; cases z) (hid_of h).1) (hid_of h).2))
  · exact .inl (.inr ⟨o, hid_get (ne _ (hid_of h).2 (by intro z; cases z) (hid_of h).1) (hid_of h).2⟩)
  · exact .inr h
theorem dpP_of {K : PySem.W.Frag} {H : Hp} {a b : Addr} {r : Rule} (h1 : SqT K H a [.str r.1, .ref b]) (h2 : SqT K H b (r.2.map .str)) : Dp K H (.ref a) (encP r) := .tup h1 (.cons (.str _) (.cons (.tup h2 (dp_strs _)) .nil))
theorem dpL_of {K : PySem.W.Frag} {H : Hp} {a b : Addr} {r : Rule} (h1 : SqT K H a [.str r.1, .ref b]) (h2 : SqL K H b (r.2.map .str)) : Dp K H (.ref a) (encL r) := .tup h1 (.cons (.str _) (.cons (.lst h2 (dp_strs _)) .nil))
/-! ### lists of rules, sorted -/
theorem zip_dp {K : PySem.W.Frag} {H : Hp} : ∀ {ys : List V} {ds : List PyData}, DpAll K H ys ds → ∃ bs : List (V × PyData), bs.map (·.1) = ys ∧ bs.map (·.2) = ds ∧ ∀ b ∈ bs, Dp K H b.1 b.2
  | _, _, .nil => ⟨[], rfl, rfl, fun _ z => by cases z⟩
  | v :: _, d :: _, .cons q t => by
    obtain ⟨bs, h1, h2, h3⟩ := zip_dp t
    refine ⟨(v, d) :: bs, by simp [h1], by simp [h2], fun b hb => ?_⟩
    rcases List.mem_cons.mp hb with e | hb
    · subst e; exact q
    · exact h3 b hb
theorem sortOk_ds {K : PySem.W.Frag} {H : Hp} {bs : List (V × PyData)} {rs : List Rule} {enc : Rule → PyData} (he : enc = encP ∨ enc = encL) (h2 : bs.map (·.2) = rs.map enc) (h3 : ∀ b ∈ bs, Dp K H b.1 b.2) (hl : rs.length ≤ 1000000) : SortOk K H bs := by
  have mem : ∀ b ∈ bs, ∃ r, b.2 = enc r := fun b hb => by
    have : b.2 ∈ rs.map enc := h2 ▸ List.mem_map.mpr ⟨b, hb, rfl⟩
    obtain ⟨r, _, e⟩ := List.mem_map.mp this
    exact ⟨r, e.symm⟩
  refine ⟨h3, ?_, .inl ?_, ?_, ?_⟩
  · rw [h2]
    intro d hd d' hd'
    obtain ⟨r, _, rfl⟩ := List.mem_map.mp hd
    obtain ⟨r', _, rfl⟩ := List.mem_map.mp hd'
    rcases he with rfl | rfl
    · exact alike_P r r'
    · exact alike_L r r'
  · rw [h2]
    intro d hd
    obtain ⟨r, _, rfl⟩ := List.mem_map.mp hd
    rcases he with rfl | rfl <;> exact ⟨_, _, rfl⟩
  · intro b hb
    obtain ⟨r, e⟩ := mem b hb
    rw [e]
    rcases he with rfl | rfl
    · exact depth_P r
    · exact depth_L r
  · have := congrArg List.length h2
    simp at this
    omega
theorem sorted_rs {K : PySem.W.Frag} {H : Hp} {D : Addr} {ys : List V} {rs : List Rule} {enc : Rule → PyData} {Q : VK} (he : enc = encP ∨ enc = encL) (hq : SqL K H D ys) (hd : DpAll K H ys (rs.map enc)) (hl : rs.length ≤ 1000000)
    (h : ∀ p zs, H p = none → DpAll K H zs ((sortR rs).map enc) → Q (.ref p) (upd H p (.lst zs))) : rSortD K [.ref D] H Q := by
  obtain ⟨bs, h1, h2, h3⟩ := zip_dp hd
  refine ⟨D, bs, rfl, by rw [h1]; exact hq, sortOk_ds he h2 h3 hl, fun p np => h p _ np ?_⟩
  have := sortB_dp h3
  rw [h2] at this
  rcases he with rfl | rfl
  · rw [sortD_P] at this; exact this
  · rw [sortD_L] at this; exact this
theorem sorted_rsM {K : PySem.W.Frag} {H : Hp} (M : List Addr) {D : Addr} {ys : List V} {rs : List Rule} {enc : Rule → PyData} {Q : VK} (he : enc = encP ∨ enc = encL) (hq : SqL K H D ys) (hd : DpAll K (hid M H) ys (rs.map enc)) (hl : rs.length ≤ 1000000)
    (h : ∀ p zs, H p = none → DpAll K (hid M H) zs ((sortR rs).map enc) → Q (.ref p) (upd H p (.lst zs))) : rSortD K [.ref D] H Q := by
  obtain ⟨bs, h1, h2, h3⟩ := zip_dp hd
  refine ⟨D, bs, rfl, by rw [h1]; exact hq, sortOk_ds he h2 (fun b hb => sDp hid_same _ _ (h3 b hb)) hl, fun p np => h p _ np ?_⟩
  have g := sortB_dp h3
  rw [h2] at g
  rcases he with rfl | rfl
  · rw [sortD_P] at g; exact g
  · rw [sortD_L] at g; exact g
theorem iEnumA_ofM {K : PySem.W.Frag} {H1 : Hp} {a : Addr} {xs : List V} {R : It → Hp → Prop} (M : List Addr) (h : SqA K (hid M H1) a xs) (main : ∀ (J : It) (G : Hp → Prop), Walk J xs.length G (YPair (fun i => some (.int (i : Nat))) (fun i => xs[i]?)) → (∀ H, Same (hid M H1) (hid M H) → G H) → R J H1) : iEnumAI K [.ref a] H1 R := by
  rcases h with h | h
  · exact ⟨a, rfl, .inl ⟨⟨_, hid_same.seq h⟩, main _ _ walk_enum fun H s => hid_same.seq (s.seq h)⟩⟩
  · exact ⟨a, rfl, .inr ⟨⟨_, sSeqT hid_same h⟩, main _ _ walk_enumT fun H s => sSeqT hid_same (sSeqT s h)⟩⟩
theorem iSq_ofM {K : PySem.W.Frag} {H1 : Hp} {a : Addr} {xs : List V} {R : It → Hp → Prop} (M : List Addr) (h : SqA K (hid M H1) a xs) (main : ∀ (J : It) (G : Hp → Prop), Walk J xs.length G (YAt xs) → (∀ H, Same (hid M H1) (hid M H) → G H) → R J H1) : iSqI K (.ref a) H1 R := by
  rcases h with h | h
  · exact ⟨a, rfl, .inl ⟨⟨_, hid_same.seq h⟩, main _ _ walk_list fun H s => hid_same.seq (s.seq h)⟩⟩
  · exact ⟨a, rfl, .inr ⟨⟨_, sSeqT hid_same h⟩, main _ _ walk_tup fun H s => sSeqT hid_same (sSeqT s h)⟩⟩
theorem filter_range (n : Nat) : (List.range n).filter (fun _ => true) = List.range n := filter_true _
theorem range_getD {α β : Type} (l : List α) (d : α) (f : α → β) : (List.range l.length).map (fun i => f (l.getD i d)) = l.map f := by
  apply List.ext_getElem
  · simp
  · intro i h1 h2
    simp only [List.getElem_map, List.getElem_range]
    rw [List.getD_eq_getElem?_getD, List.getElem?_eq_getElem (by simpa using h2)]
    rfl
end K8
set_option maxRecDepth 100000
set_option maxHeartbeats 4000000
namespace K8
open PySem PySem.Spec PyProof.Rows L2
def keepT (t : Str × List Rule) : Str × List Rule := (t.1, sortR t.2)
theorem lo_talk_at {K : PySem.W.Frag} {H : Hp} {xs : List V} {R : Bk} {i : Nat} {x : V} (h : LoAll K H xs (R.map encT)) (hx : xs[i]? = some x) : ∃ t, R[i]? = some t ∧ Lo K H x (encT t) := by
  obtain ⟨d, e, l⟩ := h.getI hx
  rw [List.getElem?_map] at e
  cases hr : R[i]? with
  | none => rw [hr] at e; cases e
  | some r =>
    rw [hr] at e
    have e' : encT r = d := Option.some.inj e
    subst e'
    exact ⟨r, rfl, l⟩
theorem kvd_keys {α : Type} {K : PySem.W.Frag} {H : Hp} {f : α → PyData} : ∀ {F : List (Str × α)} {kvs : List (Key × V)}, KvD K H f F kvs → kvs.map (·.1) = (F.map (·.1)).map Sum.inr
  | _, _, .nil => rfl
  | _, _, .cons q t => by simp [q.1, kvd_keys t]
theorem nd_inj {α : Type} {l : List α} (h : l.Nodup) {i j : Nat} (hi : i < l.length) (hj : j < l.length) (e : l[i] = l[j]) : i = j := by
  rcases Nat.lt_trichotomy i j with c | c | c
  · exact absurd e ((List.pairwise_iff_getElem.mp h) i j hi hj c)
  · exact c
  · exact absurd e.symm ((List.pairwise_iff_getElem.mp h) j i hj hi c)
def spChecked (K : PySem.W.Frag) : Sp := fun vs H Q _ => ∃ (v : V) (R : Bk), vs = [v] ∧ Lo K H v (.list (R.map encT)) ∧ (∀ t ∈ R, talkB t) ∧ (R.map (·.1)).Nodup ∧ R.length < 64 ∧ (∀ t ∈ R, ∀ q ∈ t.2, q.2.length ≤ 1000000 ∧ ∀ n ∈ q.2, n ∈ R.map (·.1)) ∧
  ∀ p H' kvs R', Same H H' → H p = none → H' p = some (.dK kvs) → KvD K (hid [p] H') encRp R' kvs → R'.Perm (R.map keepT) → Q (.ref p) H'
section
variable {P : Program} {w : World} {K : PySem.W.Frag} {mg : Str → Option Value} {base : Heap}
theorem sc_checked_talks : FnScope ["talks", "found", "index", "thing", "lacking", "rule", "name"] ["talks"] (defScope s_checked_talks) := ⟨rfl, rfl, rfl, by decide +kernel, rfl, by decide +kernel, by decide +kernel⟩
theorem ok_checked_talks (T : Txt K mg) : FnOk P w K mg base CX0 5 T.checked_talks.f T.checked_talks.fd ["talks"] (spChecked K) := by
  have G_is_list : FnOk P w K mg base CX0 4 T.is_list.f T.is_list.fd _ (spIsList K) := (ok_is_list T).mono (by decide)
  have G_is_talk : FnOk P w K mg base CX0 4 T.is_talk.f T.is_talk.fd _ (spIsTalk K) := ok_is_talk T
  have G_as_rule : FnOk P w K mg base CX0 4 T.as_rule.f T.as_rule.fd _ (spAsRule K) := (ok_as_rule T).mono (by decide)
  have G_lacking_in : FnOk P w K mg base CX0 4 T.lacking_in.f T.lacking_in.fd _ (spLack K) := (ok_lacking T).mono (by decide)
  refine T.checked_talks.F.ok sc_checked_talks (fun vs H Q E h => ?_) (fun cdv A outer s H vs Q E hr h => ?_)
  · obtain ⟨v, R, rfl, _⟩ := h
    rfl
  obtain ⟨v, R, rfl, hv, tb, ndR, hl, hc, q⟩ := h
  have nd := sc_checked_talks.nd
  have hu := hu_of hr
  have hu65 : ∀ {A : Around}, A.units + 200 < cLine → A.units + 65 < cLine := fun h => by omega
  have hu65 := hu65 (A := A.deeper (envOfC "checked_talks" (defScope s_checked_talks) s.heap.objs.size T.checked_talks.f cdv)) (by have := hr.un; omega)
  refine ⟨_, (pss_cons (ps_if (pt_not (pt_val (eC T.is_list G_is_list hr (pa_cons (pv 0) pa_nil))))
      (pss_one (ps_no)) pss_nil)
    (pss_cons (ps_set (i := 1) nd rfl (Or.inr rfl) pe_dnewK)
    (pss_cons (ps_for PassesOwn.never rfl (pi_enumA K T.z_enumerate (pv 0)) (gTu (K := K) rfl (pgs_cons (pg_name (i := 2) nd rfl (Or.inl rfl)) (pgs_cons (pg_name (i := 3) nd rfl (Or.inl rfl)) pgs_nil)))
      (pss_cons (ps_if (PW.pt (pw_or (pt_not (pt_val (eC T.is_talk G_is_talk hr (pa_cons (pv 3) pa_nil)))) (pw_or1 (pt_cmp (pc_din hu (pe_ix (ixQ K) (pv 3) pe_int (fun _ _ => rfl)) (pv 1)) (by rfl)))))
        (pss_one (ps_no)) pss_nil)
      (pss_one (ps_dput hu (pv 1) (pe_ix (ixQ K) (pv 3) pe_int (fun _ _ => rfl)) (e1SortD K hu65 T.z_sorted (pe_lc (own := [("rule", 5)]) (g := gName 5) (tt := tYes) rfl nd (iQ K (pe_ix (ixQ K) (pv 3) pe_int (fun _ _ => rfl))) (blkOk_by (N := ["talks", "found", "index", "thing", "lacking", "rule", "name"]) (sc := defScope s_checked_talks) (by decide +kernel)) (fun _ _ _ _ _ => (pg_name (i := 5) nd rfl (Or.inl rfl))) (fun _ _ _ _ _ => pts_nil) (fun _ _ _ _ _ => (eC T.as_rule G_as_rule hr (pa_cons (pv 5) pa_nil))))) rfl))))
    (pss_cons (ps_set (i := 4) nd rfl (Or.inl rfl) (eC T.lacking_in G_lacking_in hr (pa_cons (pv 1) pa_nil)))
    (pss_cons (ps_if (pt_truth (pv 4) (by intro _; rfl))
      (pss_one (ps_no)) pss_nil)
    (pss_one (ps_ret (pe_dc (own := [("name", 6)]) (g := gName 6) (tt := tYes) rfl nd (iL K (eSortK rfl T.z_sorted (pv 1))) (blkOk_by (N := ["talks", "found", "index", "thing", "lacking", "rule", "name"]) (sc := defScope s_checked_talks) (by decide +kernel)) (fun _ _ _ _ _ => (pg_name (i := 6) nd rfl (Or.inl rfl))) (fun _ _ _ _ _ => pts_nil) (fun _ _ _ _ _ => (pv 6)) (fun _ _ _ _ _ => (pe_dget hu (pv 1) (pv 6) (fun _ _ => rfl))))))))))), ?_⟩
  cases hv with
  | @lst a xs _ ha hall =>
  obtain ⟨kn, hkn, hkt, ty⟩ := sqA_ty ha
  have hxl : xs.length = R.length := by rw [hall.len, List.length_map]
  refine ⟨_, rfl, .ref a, kn, rfl, hkn, ty, fun H0 s0 => ⟨_, rfl, ?_⟩⟩
  rw [hkt]
  refine iteF ?_
  intro f nf
  have sA : Same (hid [] H) (hid [f] (upd H0 f (.dK []))) := fun b o e => hid_push nf _ _ (by rw [hid0] at e ⊢; exact s0 _ _ e)
  have hfA : upd H0 f (.dK []) f = some (.dK []) := upd_same
  have nf0 : H f = none := Same.free s0 nf
  generalize upd H0 f (.dK []) = HA at sA hfA ⊢
  have ha1 : SqA K (hid [f] HA) a xs := by rw [← hid0 H] at ha; exact ha.same sA
  have hall1 : LoAll K (hid [f] HA) xs (R.map encT) := by rw [← hid0 H] at hall; exact sLoAll sA _ _ hall
  refine ⟨_, rfl, iEnumA_ofM [f] ha1 fun J Gd wk hG => ?_⟩
  refine for_it wk (fun i σ H' => (∃ v2 v3, σ = [some (.ref a), some (.ref f), v2, v3, none, none, none]) ∧ Same (hid [f] HA) (hid [f] H') ∧ ∃ fk, H' f = some (.dK fk) ∧ KvD K (hid [f] H') encRp ((R.take i).map keepT) fk)
    ⟨⟨none, none, rfl⟩, Same.refl _, [], hfA, kvD_nil⟩ (fun i σ H' _ ⟨_, s1, _⟩ => hG H' s1) ?_ ?_
  · rintro i x σ H3 H3' hi ⟨⟨v2, v3, rfl⟩, s3, fk, h3, k3⟩ ⟨Tq, _, y, rfl, nT, rfl, e1, hy⟩
    have e1' := (Option.some.inj e1).symm
    subst e1'
    obtain ⟨t, ht, lt⟩ := lo_talk_at hall1 hy
    have htm := List.mem_of_getElem? ht
    have pT : f ≠ Tq := ne_of_none h3 nT
    refine ⟨Tq, _, rfl, SqT.of upd_same, rfl, _, _, rfl, _, _, rfl, rfl, ?_⟩
    have s4 : Same (hid [f] HA) (hid [f] (upd H3 Tq (.tup [.int (i : Nat), y]))) := s3.trans (hid_new nT)
    have h4 : upd H3 Tq (.tup [.int (i : Nat), y]) f = some (.dK fk) := by rw [upd_ne pT]; exact h3
    have k4 : KvD K (hid [f] (upd H3 Tq (.tup [.int (i : Nat), y]))) encRp ((R.take i).map keepT) fk := k3.same (hid_new nT)
    generalize upd H3 Tq (.tup [.int (i : Nat), y]) = H4 at s4 h4 k4 ⊢
    have lt4 : Lo K (hid [f] H4) y (encT t) := sLo s4 _ _ lt
    obtain ⟨b, c, zs, rfl, hb, hcq, hcl⟩ := lo_talk lt4
    have hbo : SqA K H4 b [.str t.1, .ref c] := hb.same hid_same
    refine ⟨_, rfl, .ref b, t, rfl, sLo hid_same _ _ lt4, tb t htm, fun H5 s5 => ⟨_, rfl, ?_⟩⟩
    have hf5 : H5 f = some (.dK fk) := s5 _ _ h4
    refine iteF ⟨_, rfl, rIx_of (i := 0) (hbo.same s5) rfl ⟨_, rfl, f, _, rfl, .inl ⟨fk, Sum.inr t.1, .inl hf5, rfl, rfl⟩, _, rfl, ?_⟩⟩
    have fresh : t.1 ∉ ((R.take i).map keepT).map (·.1) := by
      rw [List.map_map]
      exact not_before ndR ht
    rw [KvD.isSome k4, getA_none.mpr fresh]
    refine iteF ?_
    have hzl : zs.length = t.2.length := by rw [hcl.len, List.length_map]
    have hcb : SqA K (hid [f] H5) c zs := hcq.same (sHid s5)
    have hclb : LoAll K (hid [f] H5) zs (t.2.map encL) := sLoAll (sHid s5) _ _ hcl
    refine ⟨_, rfl, rIx_of (i := 1) (hbo.same s5) rfl (iSq_of (hcb.same hid_same) fun J2 Gd2 wk2 hG2 D nD => ?_)⟩
    refine lc_d (K := K) wk2 nD (by rw [hzl]; exact (tb t htm).2.2.2.2) (fun i => encP (t.2.getD i (Str.empty, []))) (fun _ => true) hG2 ?_ ?_
    · rintro j z H6 H6' ys kk kk' hj s6 hD ⟨rfl, hz⟩ k1 _
      obtain ⟨r, hr1, lr⟩ := lo_rule_at hclb hz
      refine ⟨rfl, tYesI ⟨_, rfl, z, r, rfl, sLo (hid_same.trans s6) _ _ lr, fun p tt H7 s7 np h7 ht7 => k1 rfl _ H7 s7 ?_⟩⟩
      rw [getD_of hr1]
      have hD7 := s7 _ _ hD
      rw [← hid0 H7] at ht7
      exact dpP_of (SqT.of (hid_get (by simp; exact fun e => by rw [e, hD7] at h7; cases h7) h7)) (sqT_hidL ht7 hD7)
    · intro H6 ys s6 hD dp
      rw [filter_range, hzl, range_getD t.2 (Str.empty, []) encP] at dp
      have hf6 : H6 f = some (.dK fk) := s6 _ _ hf5
      refine sorted_rs (.inl rfl) (SqL.of hD) (sDpAll hid_same _ _ dp) (tb t htm).2.2.2.2 fun p ws np dw => ?_
      have fp : f ≠ p := ne_of_none hf6 np
      have s7 := same_new (o := .lst ws) np
      have u7 : Same H4 (upd H6 p (.lst ws)) := (s5.trans s6).trans s7
      have hf7 : upd H6 p (.lst ws) f = some (.dK fk) := s7 _ _ hf6
      refine ⟨_, rfl, _, rfl, rIx_of (i := 0) (hbo.same u7) rfl ⟨f, _, rfl, .inl ⟨fk, Sum.inr t.1, hf7, rfl, ?_, rfl⟩, ?_⟩⟩
      · rw [k4.len, List.length_map, List.length_take]
        exact Nat.lt_of_le_of_lt (Nat.le_trans (Nat.min_le_right _ _) (Nat.le_of_lt hl)) (by decide)
      · have g0 : hid [f] (upd (upd H6 p (.lst ws)) f (.dK (putK fk (Sum.inr t.1) (.ref p)))) = hid [f] (upd H6 p (.lst ws)) := hid_in List.mem_cons_self
        refine ⟨⟨_, _, rfl⟩, ?_, _, upd_same, ?_⟩
        · rw [g0]; exact s4.trans (sHid u7)
        · rw [g0, List.take_succ, ht]
          have : (List.take i R ++ [t]).map keepT = putA ((R.take i).map keepT) t.1 (sortR t.2) := by
            rw [putA_new fresh, List.map_append]
            rfl
          show KvD K _ encRp ((List.take i R ++ [t]).map keepT) _
          rw [this]
          refine KvD.put (k4.same (sHid u7)) ?_
          have d0 : Dp K (upd H6 p (.lst ws)) (.ref p) (encRp (sortR t.2)) := .lst (SqL.of upd_same) (sDpAll s7 _ _ dw)
          rw [← hid0 (upd H6 p (.lst ws))] at d0
          exact noS_dp (noS_dK hf7) _ _ d0
  · rintro σ H3 ⟨⟨v2, v3, rfl⟩, s3, fk, h3, k3⟩
    rw [hxl, List.take_length] at k3
    have sz : Same H H3 := Same_hid0 (sA.trans s3)
    obtain ⟨L', eL⟩ : ∃ L, L = R.map keepT := ⟨_, rfl⟩
    have nmL : L'.map (·.1) = R.map (·.1) := by rw [eL, List.map_map]; rfl
    have lenL : L'.length = R.length := by rw [eL, List.length_map]
    rw [← eL] at k3
    refine ⟨_, rfl, f, fk, L', rfl, h3, k3.same hid_same, by omega, ?_, fun g H4 s4 ng hg4 => ?_⟩
    · rw [eL]
      intro t ht
      obtain ⟨u, hu2, rfl⟩ := List.mem_map.mp ht
      refine ⟨by show (sortR u.2).length ≤ _; rw [(sortR_perm _).length_eq]; exact (tb u hu2).2.2.2.2, fun q hq => ?_⟩
      have hq' : q ∈ u.2 := (sortR_perm _).mem_iff.mp hq
      refine ⟨(hc u hu2 q hq').1, fun n hn => ?_⟩
      rw [List.map_map]
      exact (hc u hu2 q hq').2 n hn
    have hf4 : H4 f = some (.dK fk) := s4 _ _ h3
    refine ⟨_, rfl, false, .inl ⟨[], SqL.of hg4, rfl⟩, iteF ?_⟩
    have hk : fk.map (·.1) = (L'.map (·.1)).map Sum.inr := kvd_keys k3
    refine ⟨_, rfl, f, fk, L'.map (·.1), rfl, .inl hf4, hk, by rw [List.length_map]; omega, fun ys p pm _ np => ?_⟩
    have s5 := same_new (o := .lst (ys.map V.str)) np
    have hp5 : upd H4 p (.lst (ys.map V.str)) p = some (.lst (ys.map V.str)) := upd_same
    generalize upd H4 p (.lst (ys.map V.str)) = H5 at s5 hp5 ⊢
    have ylen : ys.length = R.length := by rw [pm.length_eq, List.length_map]; exact lenL
    have ynd : ys.Nodup := pm.nodup_iff.mpr (by rw [nmL]; exact ndR)
    have u5 : Same H H5 := (sz.trans s4).trans s5
    refine ⟨p, rfl, ⟨_, SqL.of hp5⟩, fun D nD => ?_⟩
    have k5 : KvD K H5 encRp L' fk := (k3.same hid_same).same (s4.trans s5)
    refine dc_p (K := K) (f := encRp) walk_list nD (by rw [List.length_map]; omega) (fun i => (ys.getD i Str.empty, (getA L' (ys.getD i Str.empty)).getD [])) ?_ (fun H6 s6 => s6.seq (SqL.of hp5)) ?_ ?_
    · intro i j hi hj e
      rw [List.length_map] at hi hj
      have e' : ys[i] = ys[j] := by
        have e2 : ys.getD i Str.empty = ys.getD j Str.empty := e
        rw [List.getD_eq_getElem?_getD, List.getD_eq_getElem?_getD, List.getElem?_eq_getElem hi, List.getElem?_eq_getElem hj] at e2
        exact e2
      exact nd_inj ynd hi hj e'
    · rintro i x H6 H6' kk hi s6 ⟨rfl, hx⟩ k1
      obtain ⟨n, rfl, hn, hnm⟩ := strs_at hx
      obtain ⟨rs, hrs⟩ := getA_some (pm.mem_iff.mp hnm)
      obtain ⟨vv, e1, e2⟩ := k5.val hrs
      have eg : ys.getD i Str.empty = n := getD_of hn
      refine ⟨rfl, _, rfl, _, rfl, _, rfl, f, _, rfl, .inl ⟨fk, Sum.inr n, .inl (s6 _ _ (s5 _ _ hf4)), rfl, e1.symm⟩, ?_⟩
      have := k1 vv H6' (Same.refl _) (by rw [eg, hrs]; exact sDp s6 _ _ e2)
      rw [eg] at this
      exact this
    · intro H6 kvs s6 hD kd
      refine q D H6 kvs _ (u5.trans s6) (Same.free u5 nD) hD kd ?_
      rw [List.length_map]
      have em : (List.range ys.length).map (fun i => (ys.getD i Str.empty, (getA L' (ys.getD i Str.empty)).getD [])) = ys.map fun n => (n, (getA L' n).getD []) := range_getD ys Str.empty fun n => (n, (getA L' n).getD [])
      rw [em]
      have e2 : (L'.map (·.1)).map (fun n => (n, (getA L' n).getD [])) = L' := by
        rw [List.map_map]
        have : ∀ t ∈ L', ((fun n => (n, (getA L' n).getD [])) ∘ fun x : Str × List Rule => x.1) t = t := fun t ht => by
          show (t.1, (getA L' t.1).getD []) = t
          rw [getA_of (by rw [nmL]; exact ndR) ht]
          rfl
        rw [List.map_congr_left this, List.map_id']
      rw [eL] at e2 ⊢
      rw [← eL] at e2 ⊢
      have pm2 := pm.map fun n => (n, (getA L' n).getD [])
      rw [e2] at pm2
      exact pm2
end
end K8
set_option maxRecDepth 100000
set_option maxHeartbeats 4000000
namespace K8
open PySem PySem.Spec PyProof.Rows L2
abbrev s_init : Stmt := inClass (top 26) 0
/-- what the top has left of the class Book -/
structure TxB (K : PySem.W.Frag) (mg : Str → Option Value) extends Txt K mg where
  C : Addr
  gC : mg "Book" = some (.ref C)
  cl : Cls K C
  nR : NoAttr K C "own_rules"
  nN : NoAttr K C "own_norms"
  nO : NoAttr K C "own_rounds"
  fI : Addr
  fdI : FuncData
  made : Mk K C fI
  FI : Fun K "__init__" "Book.__init__" s_init fI fdI
  bI : Binds K fdI ["self", "talks"] []
  tyI : ∀ (H : Hp) (p dx : Addr) (fs : List (Str × V)), H p = some (.ins C dx fs) → TyX K H (.ref p) (.ref C)
  kitC : PySem.W.kitOne K (.ref C) (.ref C) = some true
  kitNo : ∀ n ∈ kinds, PySem.W.kitOne K (.type n) (.ref C) = some false
theorem f_rn : ¬ (("own_rules" : Str) = "own_norms") := by decide +kernel
theorem f_ro : ¬ (("own_rules" : Str) = "own_rounds") := by decide +kernel
theorem f_no : ¬ (("own_norms" : Str) = "own_rounds") := by decide +kernel
def flds (d1 d2 : Addr) : List (Str × V) := putF "own_rounds" .non (putF "own_norms" (.ref d2) (putF "own_rules" (.ref d1) []))
theorem flds_r (d1 d2 : Addr) : (flds d1 d2).lookup ("own_rules" : Str) = some (.ref d1) := by
  unfold flds
  rw [lookup_putF, if_neg f_ro, lookup_putF, if_neg f_rn, lookup_putF, if_pos rfl]
theorem flds_n (d1 d2 : Addr) : (flds d1 d2).lookup ("own_norms" : Str) = some (.ref d2) := by
  unfold flds
  rw [lookup_putF, if_neg f_no, lookup_putF, if_pos rfl]
/-- what a book's talks must be -/
structure BIn (R : Bk) : Prop where
  tb : ∀ t ∈ R, talkB t
  nd : (R.map (·.1)).Nodup
  few : R.length < 64
  cl : ∀ t ∈ R, ∀ q ∈ t.2, q.2.length ≤ 1000000 ∧ ∀ n ∈ q.2, n ∈ R.map (·.1)
/-- the rules as a Book keeps them -/
def kept (R : Bk) : Bk := R.map keepT
theorem kept_nms (R : Bk) : (kept R).map (·.1) = R.map (·.1) := by unfold kept; rw [List.map_map]; rfl
theorem perm_nms {R R' : Bk} (h : R'.Perm (kept R)) : (R'.map (·.1)).Perm (R.map (·.1)) := by rw [← kept_nms R]; exact h.map _
theorem kept_mem {R R' : Bk} (h : R'.Perm (kept R)) {t : Str × List Rule} (ht : t ∈ R') : ∃ u ∈ R, u.1 = t.1 ∧ t.2.Perm u.2 := by
  obtain ⟨u, hu, rfl⟩ := List.mem_map.mp (h.mem_iff.mp ht)
  exact ⟨u, hu, rfl, sortR_perm _⟩
theorem isN_kept {R R' : Bk} {N : Str → Nat} (h : R'.Perm (kept R)) (n : IsN R N) : IsN R' N := by
  refine ⟨fun t ht q hq => ?_, fun t ht => ?_⟩
  · obtain ⟨u, hu, e, p⟩ := kept_mem h ht
    rw [← e]
    exact n.le u hu q (p.mem_iff.mp hq)
  · obtain ⟨u, hu, e, p⟩ := kept_mem h ht
    obtain ⟨q, hq, e2⟩ := n.at' u hu
    exact ⟨q, p.mem_iff.mpr hq, by rw [← e]; exact e2⟩
/-- a Book at p: its rules R', its norms N -/
structure BookAt (K : PySem.W.Frag) (C : Addr) (H : Hp) (p : Addr) (R' : Bk) (N : Str → Nat) : Prop where
  ex : ∃ (dx d1 d2 : Addr) (k1 k2 : List (Key × V)) (F : List (Str × Nat)), H p = some (.ins C dx (flds d1 d2)) ∧ H d1 = some (.dK k1) ∧ H d2 = some (.dK k2) ∧ KvD K H encRp R' k1 ∧ KvD K H encN F k2 ∧ ∀ n ∈ R'.map (·.1), getA F n = some (N n)
theorem BookAt.same {K : PySem.W.Frag} {C : Addr} {H H' : Hp} {p : Addr} {R' : Bk} {N : Str → Nat} (h : BookAt K C H p R' N) (s : Same H H') : BookAt K C H' p R' N := by
  obtain ⟨dx, d1, d2, k1, k2, F, h1, h2, h3, h4, h5, h6⟩ := h.ex
  exact ⟨dx, d1, d2, k1, k2, F, s _ _ h1, s _ _ h2, s _ _ h3, h4.same s, h5.same s, h6⟩
def spInit (K : PySem.W.Frag) (C : Addr) : Sp := fun vs H Q _ => ∃ (p dx : Addr) (v : V) (R : Bk) (N : Str → Nat), vs = [.ref p, v] ∧ H p = some (.ins C dx []) ∧ Lo K H v (.list (R.map encT)) ∧ BIn R ∧ IsN R N ∧
  ∀ H' R', Same (hid [p] H) (hid [p] H') → R'.Perm (kept R) → BookAt K C H' p R' N → Q .non H'
section
variable {P : Program} {w : World} {K : PySem.W.Frag} {mg : Str → Option Value} {base : Heap}
theorem sc_init : FnScope ["self", "talks", "norms", "name"] ["self", "talks"] (defScope s_init) := ⟨rfl, rfl, rfl, by decide +kernel, rfl, by decide +kernel, by decide +kernel⟩
theorem ok_init (T : TxB K mg) : FnOk P w K mg base CX0 6 T.fI T.fdI ["self", "talks"] (spInit K T.C) := by
  have G_checked_talks : FnOk P w K mg base CX0 5 T.checked_talks.f T.checked_talks.fd _ (spChecked K) := ok_checked_talks T.toTxt
  have G_norms_in : FnOk P w K mg base CX0 5 T.norms_in.f T.norms_in.fd _ (spNorms K) := (ok_norms T.toTxt).mono (by decide)
  refine T.FI.ok sc_init (fun vs H Q E h => ?_) (fun cdv A outer s H vs Q E hr h => ?_)
  · obtain ⟨p, dx, v, R, N, rfl, _⟩ := h
    rfl
  obtain ⟨p, dx, v, R, N, rfl, hp, hv, bi, hN, q⟩ := h
  have nd := sc_init.nd
  have hu := hu_of hr
  refine ⟨_, (pss_cons (ps_fld (pv 0) (eC T.checked_talks G_checked_talks hr (pa_cons (pv 1) pa_nil)) rfl)
    (pss_cons (ps_set (i := 2) nd rfl (Or.inr rfl) (eC T.norms_in G_norms_in hr (pa_cons (eFld K (pv 0)) (pa_cons pe_dnewK pa_nil))))
    (pss_cons (ps_lock (ps_for PassesOwn.never rfl (pi_keys (eFld K (pv 0))) (pg_name (i := 3) nd rfl (Or.inl rfl))
      (pss_one (ps_if (pt_cmp (pc_dnotin hu (pv 3) (pv 2)) (by rfl))
        (pss_one (ps_no)) pss_nil))))
    (pss_cons (ps_fld (pv 0) (pe_lock (pe_dc (own := [("name", 3)]) (g := gName 3) (tt := tYes) rfl nd (pi_keys (eFld K (pv 0))) (blkOk_by (N := ["self", "talks", "norms", "name"]) (sc := defScope s_init) (by decide +kernel)) (fun _ _ _ _ _ => (pg_name (i := 3) nd rfl (Or.inl rfl))) (fun _ _ _ _ _ => pts_nil) (fun _ _ _ _ _ => (pv 3)) (fun _ _ _ _ _ => (pe_dget hu (pv 2) (pv 3) (fun _ _ => rfl))))) rfl)
    (pss_one (ps_fld (pv 0) pe_non rfl)))))), ?_⟩
  refine ⟨_, rfl, v, R, rfl, hv, bi.tb, bi.nd, bi.few, bi.cl, fun d1 H1 k1 R' s1 nd1 h1 kd1 pm => ?_⟩
  have np1 : p ≠ d1 := ne_of_none hp nd1
  have hp1 : H1 p = some (.ins T.C dx []) := s1 _ _ hp
  obtain ⟨H2, e2⟩ : ∃ H2, H2 = upd H1 p (.ins T.C dx (putF "own_rules" (.ref d1) [])) := ⟨_, rfl⟩
  have hp2 : H2 p = some (.ins T.C dx (putF "own_rules" (.ref d1) [])) := by rw [e2]; exact upd_same
  have h12 : H2 d1 = some (.dK k1) := by rw [e2, upd_ne np1.symm]; exact h1
  have kd2 : KvD K H2 encRp R' k1 := by
    have a : KvD K H1 encRp R' k1 := kd1.same hid_same
    rw [e2]
    exact kv_upd (noS_ins hp1) a
  have s2 : Same (hid [p] H) (hid [p] H2) := by rw [e2, hid_in List.mem_cons_self]; exact sHid s1
  refine ⟨_, rfl, p, T.C, dx, _, rfl, hp1, T.cl, T.nR, (by show 0 < 1000; decide), ?_⟩
  rw [← e2]
  have lk1 : (putF "own_rules" (V.ref d1) []).lookup ("own_rules" : Str) = some (.ref d1) := by rw [lookup_putF, if_pos rfl]
  refine ⟨_, rfl, p, T.C, dx, _, _, rfl, hp2, T.cl, T.nR, lk1, ?_⟩
  intro e ne
  have s3 := same_new (o := .dK []) ne
  have he3 : upd H2 e (.dK []) e = some (.dK []) := upd_same
  generalize upd H2 e (.dK []) = H3 at s3 he3 ⊢
  have nmp : (R'.map (·.1)).Perm (R.map (·.1)) := perm_nms pm
  have lenR : R'.length = R.length := by have := nmp.length_eq; simpa using this
  refine ⟨d1, e, k1, R', N, rfl, s3 _ _ h12, he3, kd2.same s3, by have := bi.few; omega, nmp.nodup_iff.mpr bi.nd, fun t ht => ?_, isN_kept pm hN, fun nr H4 fk F s4 nnr hn4 kn4 ac => ?_⟩
  · obtain ⟨u, hu, eu, pu⟩ := kept_mem pm ht
    refine ⟨by rw [pu.length_eq]; exact (bi.tb u hu).2.2.2.2, fun q hq => ⟨(bi.cl u hu q (pu.mem_iff.mp hq)).1, fun n hn => nmp.mem_iff.mpr ((bi.cl u hu q (pu.mem_iff.mp hq)).2 n hn)⟩⟩
  have u4 := s3.trans s4
  have hp4 := u4 _ _ hp2
  have h14 := u4 _ _ h12
  have kd4 := kd2.same u4
  have nnr1 : nr ≠ d1 := fun e => by rw [e] at nnr; rw [s3 _ _ h12] at nnr; cases nnr
  have nnrp : p ≠ nr := fun e => by rw [← e] at nnr; rw [s3 _ _ hp2] at nnr; cases nnr
  refine ⟨d1, _, h14, trivial, fun od => ?_⟩
  obtain ⟨H5, e5⟩ : ∃ H5, H5 = upd H4 d1 (.frz od (.dK k1)) := ⟨_, rfl⟩
  have h15 : H5 d1 = some (.frz od (.dK k1)) := by rw [e5]; exact upd_same
  have hp5 : H5 p = some (.ins T.C dx (putF "own_rules" (.ref d1) [])) := by rw [e5, upd_ne np1]; exact hp4
  have hn5 : H5 nr = some (.dK fk) := by rw [e5, upd_ne nnr1]; exact hn4
  rw [← e5]
  refine ⟨_, rfl, p, T.C, dx, _, _, rfl, hp5, T.cl, T.nR, lk1, d1, od, rfl, .inl ⟨k1, h15, ?_⟩⟩
  refine for_it walk_keys (fun i σ H' => (∃ v3, σ = [some (.ref p), some v, some (.ref nr), v3]) ∧ Same H5 H') ⟨⟨none, rfl⟩, Same.refl _⟩ (fun i σ H' _ z => z.2 _ _ h15) ?_ ?_
  · rintro i x σ H6 H6' hi ⟨⟨v3, rfl⟩, s6⟩ ⟨rfl, k, vv, hk, rfl⟩
    obtain ⟨t, ht, ek, _⟩ := kd4.get hk
    subst ek
    refine ⟨_, rfl, _, rfl, nr, _, rfl, .inl ⟨fk, Sum.inr t.1, .inl (s6 _ _ hn5), rfl, rfl⟩, _, rfl, ?_⟩
    rw [KvD.isSome kn4, ac t.1 (List.mem_map.mpr ⟨t, List.mem_of_getElem? ht, rfl⟩)]
    exact iteF ⟨⟨_, rfl⟩, s6⟩
  · rintro σ H6 ⟨⟨v3, rfl⟩, s6⟩
    refine ⟨s6 _ _ h15, ?_⟩
    have s7 : Same H4 (upd H6 d1 (.dK k1)) := same_unlock h14 (by rw [← e5]; exact s6)
    generalize upd H6 d1 (.dK k1) = H7 at s7 ⊢
    have h17 := s7 _ _ h14
    have hp7 := s7 _ _ hp4
    have hn7 := s7 _ _ hn4
    have kn7 := kn4.same s7
    refine ⟨d1, _, h17, trivial, fun od2 => ?_⟩
    obtain ⟨H8, e8⟩ : ∃ H8, H8 = upd H7 d1 (.frz od2 (.dK k1)) := ⟨_, rfl⟩
    have h18 : H8 d1 = some (.frz od2 (.dK k1)) := by rw [e8]; exact upd_same
    have hp8 : H8 p = some (.ins T.C dx (putF "own_rules" (.ref d1) [])) := by rw [e8, upd_ne np1]; exact hp7
    have hn8 : H8 nr = some (.dK fk) := by rw [e8, upd_ne nnr1]; exact hn7
    rw [← e8]
    refine ⟨_, rfl, p, T.C, dx, _, _, rfl, hp8, T.cl, T.nR, lk1, d1, od2, rfl, .inl ⟨k1, h18, fun D nD => ?_⟩⟩
    have klen : k1.length = R'.length := kd4.len
    have nD1 : d1 ≠ D := fun e => by rw [← e, h18] at nD; cases nD
    have nDp : p ≠ D := fun e => by rw [← e, hp8] at nD; cases nD
    refine dc_p (K := K) (f := encN) walk_keys nD (by rw [klen, lenR]; have := bi.few; omega) (fun i => ((R'.getD i (Str.empty, [])).1, N (R'.getD i (Str.empty, [])).1)) ?_ (fun H9 s9 => s9 _ _ h18) ?_ ?_
    · intro i j hi hj e
      rw [klen] at hi hj
      have e2 : (R'.getD i (Str.empty, [])).1 = (R'.getD j (Str.empty, [])).1 := e
      rw [getD_of (List.getElem?_eq_getElem hi), getD_of (List.getElem?_eq_getElem hj)] at e2
      exact nd_inj (l := R'.map (·.1)) (nmp.nodup_iff.mpr bi.nd) (by simpa using hi) (by simpa using hj) (by simpa using e2)
    · rintro i x H9 H9' kk hi s9 ⟨rfl, k, vv, hk, rfl⟩ k1'
      obtain ⟨t, ht, ek, _⟩ := kd4.get hk
      subst ek
      have eg : R'.getD i (Str.empty, []) = t := getD_of ht
      obtain ⟨v2, g1, g2⟩ := kn7.val (ac t.1 (List.mem_map.mpr ⟨t, List.mem_of_getElem? ht, rfl⟩))
      refine ⟨rfl, _, rfl, _, rfl, _, rfl, nr, _, rfl, .inl ⟨fk, Sum.inr t.1, .inl (s9 _ _ hn8), rfl, g1.symm⟩, ?_⟩
      have := k1' v2 H9' (Same.refl _) (by rw [eg, dp_int g2]; exact .int _)
      rw [eg] at this
      exact this
    · intro H9 kvs s9 hD kd
      have h19 := s9 _ _ h18
      refine ⟨h19, ?_⟩
      have s10 : Same H7 (upd H9 d1 (.dK k1)) := same_unlock h17 (by rw [← e8]; exact s9)
      have hD10 : upd H9 d1 (.dK k1) D = some (.dK kvs) := by rw [upd_ne nD1.symm]; exact hD
      generalize upd H9 d1 (.dK k1) = H10 at s10 hD10 ⊢
      have hp10 := s10 _ _ hp7
      refine ⟨_, rfl, p, T.C, dx, _, rfl, hp10, T.cl, T.nN, (by show 1 < 1000; decide), ?_⟩
      refine ⟨_, rfl, p, T.C, dx, _, rfl, upd_same, T.cl, T.nO, ?_, ?_⟩
      · show (putF "own_norms" (V.ref D) (putF "own_rules" (V.ref d1) [])).length < 1000
        show (if ("own_rules" : Str) = "own_norms" then [(("own_norms" : Str), V.ref D)] else (("own_rules" : Str), V.ref d1) :: putF "own_norms" (V.ref D) []).length < 1000
        rw [if_neg f_rn]
        show 2 < 1000
        decide
      · obtain ⟨HZ, eZ⟩ : ∃ HZ, HZ = upd (upd H10 p (.ins T.C dx (putF "own_norms" (.ref D) (putF "own_rules" (.ref d1) [])))) p (.ins T.C dx (flds d1 D)) := ⟨_, rfl⟩
        show Q .non (upd (upd H10 p (.ins T.C dx (putF "own_norms" (.ref D) (putF "own_rules" (.ref d1) [])))) p (.ins T.C dx (flds d1 D)))
        rw [← eZ]
        have u10 : Same H2 H10 := (u4.trans s7).trans s10
        have off : ∀ b, b ≠ p → HZ b = H10 b := fun b hb => by rw [eZ, upd_ne hb, upd_ne hb]
        have gZ : hid [p] HZ = hid [p] H10 := by rw [eZ, hid_in List.mem_cons_self, hid_in List.mem_cons_self]
        refine q HZ R' ?_ pm ⟨dx, d1, D, k1, kvs, (List.range k1.length).map (fun i => ((R'.getD i (Str.empty, [])).1, N (R'.getD i (Str.empty, [])).1)), by rw [eZ]; exact upd_same, by rw [off _ np1.symm]; exact s10 _ _ h17, by rw [off _ nDp.symm]; exact hD10, ?_, ?_, ?_⟩
        · rw [gZ]; exact s2.trans (sHid u10)
        · have a : KvD K (hid [p] H10) encRp R' k1 := by
            have b : KvD K H10 encRp R' k1 := kd2.same u10
            rw [← hid0 H10] at b
            exact noS_kv (noS_ins hp10) b
          rw [← gZ] at a
          exact a.same hid_same
        · exact Paired_mono (fun t kv z => ⟨z.1, by rw [dp_int z.2]; exact .int _⟩) kd
        · rw [klen]
          have em : (List.range R'.length).map (fun i => ((R'.getD i (Str.empty, [])).1, N (R'.getD i (Str.empty, [])).1)) = R'.map fun t => (t.1, N t.1) := range_getD R' (Str.empty, []) fun t => (t.1, N t.1)
          rw [em]
          intro n hn
          obtain ⟨t, ht, rfl⟩ := List.mem_map.mp hn
          have ndM : ((R'.map fun t => (t.1, N t.1)).map (·.1)).Nodup := by rw [List.map_map]; exact nmp.nodup_iff.mpr bi.nd
          exact getA_of (t := (t.1, N t.1)) ndM (List.mem_map.mpr ⟨t, ht, rfl⟩)
end
end K8
set_option maxRecDepth 100000
set_option maxHeartbeats 4000000
namespace K8
open PySem PySem.Spec PyProof.Rows L2
theorem paS {X : Cx} (K : PySem.W.Frag) {e : Expr} {es : List Expr} {te : TE} {t : TA} {p : Pos} (he : PE X e te) (hr : PA X es t) (h : X.K = K := by rfl) (hs : starEach (.Starred e p :: es) X.env = (true, eval e X.env) :: starEach es X.env := by rfl) : PA X (.Starred e p :: es) (StX.tStar K te t) := by subst h; exact StX.pa_star he hr hs
theorem cut_tail (xs : List V) : cutV xs (some 1) none = xs.drop 1 := by
  unfold cutV
  rw [show (1 : Int) = ((1 : Nat) : Int) from rfl, HT.sIx_nat, HT.sIx_none]
  rcases Nat.lt_or_ge 0 xs.length with h | h
  · rw [Nat.min_eq_left (by omega)]
    exact List.take_of_length_le (by rw [List.length_drop]; exact Nat.le_refl _)
  · have : xs = [] := List.eq_nil_of_length_eq_zero (by omega)
    subst this
    rfl
def spBook (C : Addr) : Sp := fun vs H Q _ => ∃ (p dx : Addr) (fs : List (Str × V)), vs = [.ref p] ∧ H p = some (.ins C dx fs) ∧ Q (.ref p) H
def spNormOf (K : PySem.W.Frag) (C : Addr) : Sp := fun vs H Q _ => ∃ (p a : Addr) (R' : Bk) (N : Str → Nat) (r : List Str), vs = [.ref p, .ref a] ∧ BookAt K C H p R' N ∧ SqL K H a (r.map .str) ∧ r.length ≤ 1000000 ∧ (∀ n ∈ r, n ∈ R'.map (·.1)) ∧ ∀ H', Same H H' → Q (.int (sumN N r : Nat)) H'
def spRowIn (K : PySem.W.Frag) (C : Addr) : Sp := fun vs H Q _ => ∃ (p a : Addr) (R' : Bk) (N : Str → Nat) (r : List Str), vs = [.ref p, .ref a] ∧ BookAt K C H p R' N ∧ SqA K H a (r.map .str) ∧ r.length ≤ 1000000 ∧ (∀ n ∈ r, n ∈ R'.map (·.1)) ∧
  ∀ q H', Same H H' → H q = none → H' q = some (.lst (r.map .str)) → Q (.ref q) H'
section
variable {P : Program} {w : World} {K : PySem.W.Frag} {mg : Str → Option Value} {base : Heap}
theorem sc_checked_book : FnScope ["book"] ["book"] (defScope s_checked_book) := ⟨rfl, rfl, rfl, by decide +kernel, rfl, by decide +kernel, by decide +kernel⟩
theorem ok_checked_book (T : TxB K mg) : FnOk P w K mg base CX0 1 T.checked_book.f T.checked_book.fd ["book"] (spBook T.C) := by
  refine T.checked_book.F.ok sc_checked_book (fun vs H Q E h => ?_) (fun cdv A outer s H vs Q E hr h => ?_)
  · obtain ⟨p, dx, fs, rfl, _⟩ := h
    rfl
  obtain ⟨p, dx, fs, rfl, hp, q⟩ := h
  have nd := sc_checked_book.nd
  refine ⟨_, (pss_cons (ps_if (pt_not (pt_val (eIsi K T.z_isinstance (pv 0) (pe_glob (v := .ref T.C) rfl T.gC rfl))))
      (pss_one (ps_no)) pss_nil)
    (pss_one (ps_ret (pv 0)))), ?_⟩
  refine ⟨_, rfl, .ref p, .ref T.C, .ref T.C, .ref T.C, true, rfl, .own _, T.tyI H p dx fs hp, T.kitC, _, rfl, iteF ?_⟩
  exact ⟨_, rfl, q⟩
theorem sc_norm_of : FnScope ["book", "row", "name"] ["book", "row"] (defScope s_norm_of) := ⟨rfl, rfl, rfl, by decide +kernel, rfl, by decide +kernel, by decide +kernel⟩
theorem ok_norm_of (T : TxB K mg) : FnOk P w K mg base CX0 1 T.norm_of.f T.norm_of.fd ["book", "row"] (spNormOf K T.C) := by
  refine T.norm_of.F.ok sc_norm_of (fun vs H Q E h => ?_) (fun cdv A outer s H vs Q E hr h => ?_)
  · obtain ⟨p, a, R', N, r, rfl, _⟩ := h
    rfl
  obtain ⟨p, a, R', N, r, rfl, hb, ha, hl, hm, q⟩ := h
  have nd := sc_norm_of.nd
  have hu := hu_of hr
  refine ⟨_, (pss_one (ps_ret (eSum K rfl T.z_sum (pe_lc (own := [("name", 2)]) (g := gName 2) (tt := tYes) rfl nd (iL K (pv 1)) (blkOk_by (N := ["book", "row", "name"]) (sc := defScope s_norm_of) (by decide +kernel)) (fun _ _ _ _ _ => (pg_name (i := 2) nd rfl (Or.inl rfl))) (fun _ _ _ _ _ => pts_nil) (fun _ _ _ _ _ => (pe_dget hu (eFld K (pv 0)) (pv 2) (fun _ _ => rfl))))))), ?_⟩
  obtain ⟨dx, d1, d2, k1, k2, F, h1, h2, h3, h4, h5, h6⟩ := hb.ex
  refine ⟨_, rfl, a, rfl, ⟨_, ha⟩, fun D nD => ?_⟩
  refine lc_p walk_list nD (by rw [List.length_map]; exact hl) (fun i _ y => y = .int ((N (r.getD i Str.empty) : Nat) : Int)) (fun _ _ _ _ _ _ r => r) (fun _ => true) (fun H2 s2 => s2.seq ha) ?_ ?_
  · rintro i x H1 H1' kk kk' hi s ⟨rfl, hx⟩ k1' _
    obtain ⟨n, rfl, hn, hnm⟩ := strs_at hx
    obtain ⟨v, e1, e2⟩ := h5.val (h6 n (hm n hnm))
    refine ⟨rfl, tYesI ⟨_, rfl, p, T.C, dx, _, _, rfl, s _ _ h1, T.cl, T.nN, flds_n _ _, _, rfl, d2, _, rfl, .inl ⟨k2, Sum.inr n, .inl (s _ _ h3), rfl, e1.symm⟩, k1' rfl _ _ (Same.refl _) ?_⟩⟩
    rw [getD_of hn]
    exact dp_int e2
  · intro H1 ys s hD pr
    rw [filter_true] at pr
    have e := Paired_map (f := fun i => V.int ((N (r.getD i Str.empty) : Nat) : Int)) pr
    refine ⟨D, (List.range (r.map V.str).length).map (fun i => ((N (r.getD i Str.empty) : Nat) : Int)), rfl, SqL.of (by rw [hD, e, List.map_map]; rfl), ?_⟩
    have es : ((List.range (r.map V.str).length).map fun i => ((N (r.getD i Str.empty) : Nat) : Int)).sum = ((sumN N r : Nat) : Int) := by
      rw [List.length_map, range_getD r Str.empty fun n => ((N n : Nat) : Int)]
      clear e pr hm ha q hl
      induction r with
      | nil => rfl
      | cons x r ih => rw [List.map_cons, List.sum_cons, ih]; simp [sumN]
    rw [es]
    exact q H1 s
theorem sc_checked_row : FnScope ["book", "row", "index", "thing"] ["book", "row"] (defScope s_checked_row) := ⟨rfl, rfl, rfl, by decide +kernel, rfl, by decide +kernel, by decide +kernel⟩
theorem ok_checked_row (T : TxB K mg) : FnOk P w K mg base CX0 2 T.checked_row.f T.checked_row.fd ["book", "row"] (spRowIn K T.C) := by
  have G_is_list : FnOk P w K mg base CX0 1 T.is_list.f T.is_list.fd _ (spIsList K) := ok_is_list T.toTxt
  have G_is_one_of : FnOk P w K mg base CX0 1 T.is_one_of.f T.is_one_of.fd _ (spOneOf K) := ok_is_one_of T.toTxt
  refine T.checked_row.F.ok sc_checked_row (fun vs H Q E h => ?_) (fun cdv A outer s H vs Q E hr h => ?_)
  · obtain ⟨p, a, R', N, r, rfl, _⟩ := h
    rfl
  obtain ⟨p, a, R', N, r, rfl, hb, ha, hl, hm, q⟩ := h
  have nd := sc_checked_row.nd
  refine ⟨_, (pss_cons (ps_if (pt_not (pt_val (eC T.is_list G_is_list hr (pa_cons (pv 1) pa_nil))))
      (pss_one (ps_no)) pss_nil)
    (pss_cons (ps_for PassesOwn.never rfl (pi_enumA K T.z_enumerate (pv 1)) (gTu (K := K) rfl (pgs_cons (pg_name (i := 2) nd rfl (Or.inl rfl)) (pgs_cons (pg_name (i := 3) nd rfl (Or.inl rfl)) pgs_nil)))
      (pss_one (ps_if (pt_not (pt_val (eC T.is_one_of G_is_one_of hr (pa_cons (eFld K (pv 0)) (pa_cons (pv 3) pa_nil)))))
        (pss_one (ps_no)) pss_nil)))
    (pss_one (ps_ret (eListS K T.z_list (pv 1)))))), ?_⟩
  obtain ⟨dx, d1, d2, k1, k2, F, h1, h2, h3, h4, h5, h6⟩ := hb.ex
  obtain ⟨kn, hkn, hkt, ty⟩ := sqA_ty ha
  refine ⟨_, rfl, .ref a, kn, rfl, hkn, ty, fun H0 s0 => ⟨_, rfl, ?_⟩⟩
  rw [hkt]
  refine iteF ⟨_, rfl, iEnumA_of (ha.same s0) fun J Gd wk hG => ?_⟩
  refine for_it wk (fun i σ H' => (∃ v2 v3, σ = [some (.ref p), some (.ref a), v2, v3]) ∧ Same H0 H') ⟨⟨none, none, rfl⟩, Same.refl _⟩ (fun i σ H' _ z => hG H' z.2) ?_ ?_
  · rintro i x σ H3 H3' hi ⟨⟨v2, v3, rfl⟩, s3⟩ ⟨Tq, _, y, rfl, nT, rfl, e1, hy⟩
    have e1' := (Option.some.inj e1).symm
    subst e1'
    obtain ⟨n, rfl, hn, hnm⟩ := strs_at hy
    refine ⟨Tq, _, rfl, SqT.of upd_same, rfl, _, _, rfl, _, _, rfl, rfl, ?_⟩
    have s4 := (s0.trans s3).trans (same_new (o := .tup [.int (i : Nat), .str n]) nT)
    refine ⟨_, rfl, p, T.C, dx, _, _, rfl, s4 _ _ h1, T.cl, T.nR, flds_r _ _, _, rfl, d1, k1, .str n, rfl, .inl (s4 _ _ h2), .inl ⟨n, rfl, ⟨_, rfl, ?_⟩⟩⟩
    rw [KvD.isSome h4]
    obtain ⟨rs, hrs⟩ := getA_some (hm n hnm)
    rw [hrs]
    exact iteF ⟨⟨_, _, rfl⟩, s3.trans (same_new nT)⟩
  · rintro σ H3 ⟨⟨v2, v3, rfl⟩, s3⟩
    have s4 := s0.trans s3
    exact ⟨_, rfl, a, _, rfl, ha.same s4, fun l nl => q l _ (s4.trans (same_new nl)) (Same.free s4 nl) upd_same⟩
end
end K8
set_option maxRecDepth 100000
set_option maxHeartbeats 4000000
namespace K8
open PySem PySem.Spec PyProof.Rows L2
/-- the steps of a row, by the rules -/
def stepsOf (R : Bk) : List Str → List Rule
  | [] => []
  | n :: tail => stepsR ((getA R n).getD []) tail
/-- told steps: new tuples of letters and new lists, each list by itself; H0 the heap ahead -/
structure Told (H0 H : Hp) (q : Addr) (L : List (Addr × Addr × Rule)) : Prop where
  at_ : H q = some (.lst (L.map fun x => V.ref x.1))
  it : ∀ x ∈ L, H x.1 = some (.tup [.str x.2.2.1, .ref x.2.1]) ∧ H x.2.1 = some (.lst (x.2.2.2.map .str)) ∧ H0 x.1 = none ∧ H0 x.2.1 = none
  nd : (L.map (·.2.1)).Nodup
  nq : ∀ x ∈ L, x.2.1 ≠ q
  fq : H0 q = none
theorem Told.nil {H0 : Hp} {q : Addr} (h : H0 q = none) : Told H0 (upd H0 q (.lst [])) q [] := ⟨upd_same, (fun _ z => by cases z), List.nodup_nil, (fun _ z => by cases z), h⟩
/-- what stands within a list of told steps while it is made at D -/
structure Making (H0 H : Hp) (D : Addr) (L : List (Addr × Addr × Rule)) : Prop where
  at_ : H D = some (.lst (L.map fun x => V.ref x.1))
  it : ∀ x ∈ L, H x.1 = some (.tup [.str x.2.2.1, .ref x.2.1]) ∧ H x.2.1 = some (.lst (x.2.2.2.map .str)) ∧ H0 x.1 = none ∧ H0 x.2.1 = none
  nd : (L.map (·.2.1)).Nodup
  nq : ∀ x ∈ L, x.2.1 ≠ D
theorem Making.told {H0 H : Hp} {D : Addr} {L : List (Addr × Addr × Rule)} (m : Making H0 H D L) (h : H0 D = none) : Told H0 H D L := ⟨m.at_, m.it, m.nd, m.nq, h⟩
/-- one more: a new list at l, a new tuple at t of the letter and it -/
theorem Making.more {H0 H : Hp} {D l t : Addr} {L : List (Addr × Addr × Rule)} {r : Rule} (m : Making H0 H D L) (sm : Same H0 H) (nl : H l = none) (nt : upd H l (.lst (r.2.map .str)) t = none) :
    Making H0 (upd (upd (upd H l (.lst (r.2.map .str))) t (.tup [.str r.1, .ref l])) D (.lst (L.map (fun x => V.ref x.1) ++ [.ref t]))) D (L ++ [(t, l, r)]) ∧
    upd (upd H l (.lst (r.2.map .str))) t (.tup [.str r.1, .ref l]) D = some (.lst (L.map fun x => V.ref x.1)) := by
  have s1 := same_new (o := .lst (r.2.map .str)) nl
  have s2 := same_new (o := .tup [.str r.1, .ref l]) nt
  have lt : l ≠ t := ne_of_none upd_same nt
  have Dl : D ≠ l := ne_of_none m.at_ nl
  have Dt : D ≠ t := ne_of_none (s1 _ _ m.at_) nt
  have nt0 : H t = none := Same.free s1 nt
  have hD := s2 _ _ (s1 _ _ m.at_)
  refine ⟨⟨by rw [upd_same, List.map_append]; rfl, fun x hx => ?_, ?_, fun x hx => ?_⟩, hD⟩
  · rcases List.mem_append.mp hx with hx | hx
    · obtain ⟨h1, h2, h3, h4⟩ := m.it x hx
      refine ⟨?_, ?_, h3, h4⟩
      · rw [upd_ne]
        · exact s2 _ _ (s1 _ _ h1)
        · intro e
          rw [e, m.at_] at h1
          cases h1
      · rw [upd_ne (m.nq x hx)]
        exact s2 _ _ (s1 _ _ h2)
    · rw [List.mem_singleton.mp hx]
      refine ⟨by rw [upd_ne Dt.symm, upd_same], by rw [upd_ne Dl.symm, upd_ne lt, upd_same], Same.free sm nt0, Same.free sm nl⟩
  · rw [List.map_append]
    refine List.nodup_append.mpr ⟨m.nd, by simp, fun a ha b hb e => ?_⟩
    have hb' : b = l := by simpa using hb
    obtain ⟨x, hx, e2⟩ := List.mem_map.mp ha
    have := (m.it x hx).2.1
    rw [show x.2.1 = l by rw [e2, e, hb'], nl] at this
    cases this
  · rcases List.mem_append.mp hx with hx | hx
    · exact m.nq x hx
    · rw [List.mem_singleton.mp hx]
      exact Dl.symm
def spStepsIn (K : PySem.W.Frag) (C : Addr) : Sp := fun vs H Q _ => ∃ (p a : Addr) (R' : Bk) (N : Str → Nat) (r : List Str), vs = [.ref p, .ref a] ∧ BookAt K C H p R' N ∧ SqL K H a (r.map .str) ∧ r.length ≤ 1000000 ∧ (∀ n ∈ r, n ∈ R'.map (·.1)) ∧ (∀ t ∈ R', t.2.length ≤ 1000000 ∧ ∀ q ∈ t.2, q.2.length ≤ 1000000) ∧
  ∀ q H' L, Same H H' → Told H H' q L → L.map (·.2.2) = stepsOf R' r → Q (.ref q) H'
section
variable {P : Program} {w : World} {K : PySem.W.Frag} {mg : Str → Option Value} {base : Heap}
theorem sc_steps_in : FnScope ["book", "row", "found", "letter", "part", "later"] ["book", "row"] (defScope s_steps_in) := ⟨rfl, rfl, rfl, by decide +kernel, rfl, by decide +kernel, by decide +kernel⟩
theorem ok_steps_in (T : TxB K mg) : FnOk P w K mg base CX0 1 T.steps_in.f T.steps_in.fd ["book", "row"] (spStepsIn K T.C) := by
  refine T.steps_in.F.ok sc_steps_in (fun vs H Q E h => ?_) (fun cdv A outer s H vs Q E hr h => ?_)
  · obtain ⟨p, a, R', N, r, rfl, _⟩ := h
    rfl
  obtain ⟨p, a, R', N, r, rfl, hb, ha, hl, hm, hR, q⟩ := h
  have nd := sc_steps_in.nd
  have hu := hu_of hr
  have hu65 : (A.deeper (envOfC "steps_in" (defScope s_steps_in) s.heap.objs.size T.steps_in.f cdv)).units + 65 < cLine := by have := hr.un; omega
  have hu8 : (A.deeper (envOfC "steps_in" (defScope s_steps_in) s.heap.objs.size T.steps_in.f cdv)).units + 8 < cLine := by have := hr.un; omega
  refine ⟨_, (pss_cons (ps_if (pt_cmpR op_eq (eLen K T.z_len (pv 1)) pe_int (nomark _))
      (pss_one (ps_ret (pe_lst pa_nil))) pss_nil)
    (pss_cons (eSetDcR K (i := 2) (own := [("letter", 3), ("part", 4)]) (g := gTup K 2 (gCons (gName 3) (gCons (gName 4) gNil))) (tt := tYes) (tv := tC (.bl true)) P w rfl nd rfl rfl (sw_dict rfl rfl rfl (by decide +kernel)) hu8 (iL K (pe_dget hu (eFld K (pv 0)) (pe_ix (ixL K) (pv 1) pe_int (fun _ _ => rfl)) (fun _ _ => rfl))) (blkOk_by (N := ["book", "row", "found", "letter", "part", "later"]) (sc := defScope s_steps_in) (by decide +kernel)) (fun _ _ _ _ _ => (gTu (K := K) rfl (pgs_cons (pg_name (i := 3) nd rfl (Or.inl rfl)) (pgs_cons (pg_name (i := 4) nd rfl (Or.inl rfl)) pgs_nil)))) (fun _ _ _ _ _ => pts_nil) (fun _ _ _ _ _ => (pe_tup (pa_cons (pv 3) (pa_cons (pe_tup (paS K (pv 4) (paS K (pe_slice (slL K) (pv 1) (po_some pe_int) po_none) pa_nil))) pa_nil)))) (fun _ _ _ _ _ => pe_bl))
    (pss_one (ps_ret (pe_lc (own := [("letter", 3), ("later", 5)]) (g := gTup K 2 (gCons (gName 3) (gCons (gName 5) gNil))) (tt := tYes) rfl nd (iL K (e1SortDk K P w rfl hu65 T.z_sorted (pv 2))) (blkOk_by (N := ["book", "row", "found", "letter", "part", "later"]) (sc := defScope s_steps_in) (by decide +kernel)) (fun _ _ _ _ _ => (gTu (K := K) rfl (pgs_cons (pg_name (i := 3) nd rfl (Or.inl rfl)) (pgs_cons (pg_name (i := 5) nd rfl (Or.inl rfl)) pgs_nil)))) (fun _ _ _ _ _ => pts_nil) (fun _ _ _ _ _ => (pe_tup (pa_cons (pv 3) (pa_cons (eListS K T.z_list (pv 5)) pa_nil))))))))), ?_⟩
  obtain ⟨dx, d1, d2, k1, k2, F, h1, h2, h3, h4, h5, h6⟩ := hb.ex
  refine ⟨_, rfl, a, _, rfl, .inl ha, rfl, _, rfl, ?_⟩
  cases r with
  | nil =>
    refine iteT ⟨(by show 0 ≤ sizeLine; decide), fun z nz => ?_⟩
    exact q z _ [] (same_new nz) (Told.nil nz) rfl
  | cons n tail =>
    refine iteF ?_
    obtain ⟨rs, hrs⟩ := getA_some (hm n List.mem_cons_self)
    obtain ⟨v, e1, e2⟩ := h4.val hrs
    obtain ⟨b, xs, rfl, hb1, hb2⟩ := dp_list e2
    have hrsl : rs.length ≤ 1000000 := (hR _ (getA_mem hrs)).1
    have hxl : xs.length = rs.length := dpAll_len hb2
    refine ⟨_, rfl, p, T.C, dx, _, _, rfl, h1, T.cl, T.nR, flds_r _ _, _, rfl, a, _, 0, .str n, rfl, rfl, ha, atI_nat (j := 0) rfl, d1, _, rfl, .inl ⟨k1, Sum.inr n, .inl h2, rfl, e1.symm⟩, ?_⟩
    refine ⟨b, rfl, ⟨xs, hb1⟩, fun D nD => ?_⟩
    refine dc_r walk_list nD (by rw [hxl]; exact hrsl) (fun i => ((rs.getD i (Str.empty, [])).1, (rs.getD i (Str.empty, [])).2 ++ tail)) (fun H1 s1 => s1.seq hb1) ?_ ?_
    · rintro i x H1 H1' kk hi s1 ⟨rfl, hx⟩ k1'
      obtain ⟨r, hr1, dr⟩ := dpAll_at hb2 hx
      obtain ⟨c1, c2, rfl, hc1, hc2⟩ := dp_P (sDp s1 _ _ dr)
      refine ⟨c1, _, rfl, hc1, rfl, _, _, rfl, _, _, rfl, rfl, rfl, ?_⟩
      refine ⟨_, rfl, _, rfl, c2, _, rfl, .inl hc2, _, rfl, 1, rfl, a, _, rfl, s1.seq ha, fun z nz => ?_⟩
      rw [cut_tail]
      refine ⟨z, _, rfl, .inr (SqL.of upd_same), ?_⟩
      have sz := same_new (o := .lst (List.drop 1 (List.map V.str (n :: tail)))) nz
      generalize upd H1' z (.lst (List.drop 1 (List.map V.str (n :: tail)))) = H2 at sz ⊢
      have hrl : r.2.length ≤ 1000000 := (hR _ (getA_mem hrs)).2 r (List.mem_of_getElem? hr1)
      refine ⟨?_, fun t1 nt1 => ⟨(by show 2 ≤ sizeLine; decide), fun t2 nt2 => ?_⟩⟩
      · show (List.map V.str r.2 ++ (List.map V.str tail ++ [])).length ≤ sizeLine
        rw [List.append_nil, List.length_append, List.length_map, List.length_map, sizeLine_eq]
        have : tail.length + 1 ≤ 1000000 := hl
        omega
      have s2 := same_new (o := .tup (List.map V.str r.2 ++ (List.drop 1 (List.map V.str (n :: tail)) ++ []))) nt1
      have s3 := same_new (o := .tup [.str r.1, .ref t1]) nt2
      have n12 : t1 ≠ t2 := ne_of_none upd_same nt2
      refine k1' t2 _ ((sz.trans s2).trans s3) ?_
      rw [getD_of hr1]
      refine ⟨t1, SqT.of upd_same, SqT.of ?_⟩
      rw [upd_ne n12, upd_same]
      show some (HO.tup (List.map V.str r.2 ++ (List.map V.str tail ++ []))) = some (HO.tup (List.map V.str (r.2 ++ tail)))
      rw [List.append_nil, List.map_append]
    · intro H1 zs s1 hD hk hzl hnd hmem
      have hzl2 : zs.length ≤ 1000000 := by rw [hxl] at hzl; exact Nat.le_trans hzl hrsl
      have hmem' : ∀ x, x ∈ zs.map (·.1) ↔ ∃ q ∈ rs, (q.1, q.2 ++ tail) = x := fun x => by
        rw [hmem]
        constructor
        · rintro ⟨i, hi, e⟩
          rw [hxl] at hi
          refine ⟨rs[i], List.getElem_mem hi, ?_⟩
          rw [getD_of (List.getElem?_eq_getElem hi)] at e
          exact e
        · rintro ⟨q, hq, e⟩
          obtain ⟨i, hi, e2⟩ := List.mem_iff_getElem.mp hq
          refine ⟨i, by rw [hxl]; exact hi, ?_⟩
          rw [getD_of (List.getElem?_eq_getElem hi), e2]
          exact e
      have hst : sortR (zs.map (·.1)) = stepsOf R' (n :: tail) := by
        show _ = stepsR ((getA R' n).getD []) tail
        rw [hrs]
        exact stepsR_of hnd hmem'
      refine ⟨_, rfl, D, zs, rfl, hD, hzl2, fun x hx => (hk x hx).same hid_same, fun p2 np2 => ?_⟩
      have hdp : ∀ b ∈ zs.map (fun x => (V.ref x.2, encP x.1)), Dp K H1 b.1 b.2 := fun b hb => by
        obtain ⟨x, hx, rfl⟩ := List.mem_map.mp hb
        exact ((hk x hx).same hid_same).dp
      have sdp := sortB_dp hdp
      have e2' : (zs.map (fun x => (V.ref x.2, encP x.1))).map (·.2) = (zs.map (·.1)).map encP := by rw [List.map_map, List.map_map]; rfl
      rw [e2', sortD_P, hst] at sdp
      generalize (sortB (zs.map fun x => (V.ref x.2, encP x.1))).map (·.1) = ws at sdp ⊢
      have s2 := same_new (o := .lst ws) np2
      have hp2 : upd H1 p2 (.lst ws) p2 = some (.lst ws) := upd_same
      have sdp2 : DpAll K (upd H1 p2 (.lst ws)) ws ((stepsOf R' (n :: tail)).map encP) := sDpAll s2 _ _ sdp
      generalize upd H1 p2 (.lst ws) = H2 at s2 hp2 sdp2 ⊢
      have u2 : Same H H2 := s1.trans s2
      have hwl : ws.length = (stepsOf R' (n :: tail)).length := dpAll_len sdp2
      have hwl2 : ws.length ≤ 1000000 := by
        rw [hwl, ← hst, (sortR_perm _).length_eq, List.length_map]
        exact hzl2
      refine ⟨p2, rfl, ⟨_, SqL.of hp2⟩, fun Z nZ => ?_⟩
      refine lc_it walk_list (fun i H' => i ≤ ws.length ∧ ∃ L, Same (hid [] H2) (hid [Z] H') ∧ Making H H' Z L ∧ L.map (·.2.2) = (stepsOf R' (n :: tail)).take i)
        ⟨Nat.zero_le _, [], hid_push nZ, ⟨upd_same, (fun _ z => by cases z), List.nodup_nil, (fun _ z => by cases z)⟩, by simp⟩ (fun i H' _ ⟨_, L, s3, _⟩ => SqL.of (Same_hid0 s3 _ _ hp2)) ?_ ?_
      · rintro i x H3 H3' hi ⟨_, L, s3', mk, hL⟩ ⟨rfl, hx⟩
        have s3 := Same_hid0 s3'
        obtain ⟨r, hr1, dr⟩ := dpAll_at sdp2 hx
        obtain ⟨c1, c2, rfl, hc1, hc2⟩ := dp_P (sDp s3 _ _ dr)
        have hLl : L.length = i := by
          have := congrArg List.length hL
          rw [List.length_map, List.length_take] at this
          omega
        refine ⟨c1, _, rfl, hc1, rfl, _, _, rfl, _, _, rfl, rfl, rfl, tYesI ?_⟩
        refine ⟨_, rfl, _, rfl, c2, _, rfl, .inr hc2, fun l nl => ⟨(by show 2 ≤ sizeLine; decide), fun t nt => ?_⟩⟩
        obtain ⟨m1, m2⟩ := mk.more (r := r) (u2.trans s3) nl nt
        refine ⟨_, m2, by rw [List.length_map, hLl]; exact Nat.lt_of_le_of_lt (Nat.le_trans (Nat.le_of_lt hi) hwl2) (by decide), hi, L ++ [(t, l, r)], ?_, m1, ?_⟩
        · rw [hid_in List.mem_cons_self]
          exact s3'.trans ((hid_new nl).trans (hid_new nt))
        · rw [List.map_append, hL, List.take_succ, hr1]
          rfl
      · rintro H3 ⟨_, L, s3', mk, hL⟩
        have s3 := Same_hid0 s3'
        rw [hwl, List.take_length] at hL
        exact q Z H3 L (u2.trans s3) (mk.told (Same.free u2 nZ)) hL
end
end K8
set_option maxRecDepth 100000
set_option maxHeartbeats 4000000
namespace K8
open PySem PySem.Spec PyProof.Rows L2
theorem Told.mono {H0 H1 H : Hp} {q : Addr} {L : List (Addr × Addr × Rule)} (t : Told H1 H q L) (s : Same H0 H1) : Told H0 H q L :=
  ⟨t.at_, fun x hx => let ⟨a, b, c, d⟩ := t.it x hx; ⟨a, b, Same.free s c, Same.free s d⟩, t.nd, t.nq, Same.free s t.fq⟩
/-- told rows: new lists -/
structure ToldR (H0 H : Hp) (q : Addr) (L : List (Addr × List Str)) : Prop where
  at_ : H q = some (.lst (L.map fun x => V.ref x.1))
  it : ∀ x ∈ L, H x.1 = some (.lst (x.2.map .str)) ∧ H0 x.1 = none
  nd : (L.map (·.1)).Nodup
  nq : ∀ x ∈ L, x.1 ≠ q
  fq : H0 q = none
theorem range_filter {α β : Type} (l : List α) (d : α) (p : α → Bool) (f : α → β) : ((List.range l.length).filter fun i => p (l.getD i d)).map (fun i => f (l.getD i d)) = (l.filter p).map f := by
  have h := range_getD l d fun x => x
  rw [List.map_id'] at h
  have h2 : ((List.range l.length).map (fun i => l.getD i d)).filter p = ((List.range l.length).filter fun i => p (l.getD i d)).map (fun i => l.getD i d) := by
    rw [List.filter_map]; rfl
  rw [h] at h2
  rw [h2, List.map_map]
  rfl
/-- bounds of a book that is kept, its rows closed -/
structure BC (R : Bk) : Prop where
  rl : ∀ t ∈ R, t.2.length ≤ 1000 ∧ ∀ q ∈ t.2, q.2.length ≤ 1000
  cl : ∀ t ∈ R, ∀ q ∈ t.2, ∀ n ∈ q.2, n ∈ R.map (·.1)
theorem BC.big {R : Bk} (b : BC R) : ∀ t ∈ R, t.2.length ≤ 1000000 ∧ ∀ q ∈ t.2, q.2.length ≤ 1000000 := fun t ht => ⟨Nat.le_trans (b.rl t ht).1 (by decide), fun q hq => Nat.le_trans ((b.rl t ht).2 q hq) (by decide)⟩
theorem stepsOf_mem {R : Bk} {r : List Str} {x : Rule} (h : x ∈ stepsOf R r) : ∃ n tail rs q, r = n :: tail ∧ getA R n = some rs ∧ q ∈ rs ∧ x = (q.1, q.2 ++ tail) := by
  cases r with
  | nil => cases h
  | cons n tail =>
    obtain ⟨q, hq, e⟩ := stepsR_mem.mp h
    cases hg : getA R n with
    | none => rw [hg] at hq; cases hq
    | some rs =>
      rw [hg] at hq
      exact ⟨n, tail, rs, q, rfl, hg, hq, e.symm⟩
theorem BC.step {R : Bk} (b : BC R) {r : List Str} (hr : ∀ n ∈ r, n ∈ R.map (·.1)) (hl : r.length ≤ 1000) {x : Rule} (h : x ∈ stepsOf R r) : x.2.length ≤ 2000 ∧ ∀ n ∈ x.2, n ∈ R.map (·.1) := by
  obtain ⟨n, tail, rs, q, rfl, hg, hq, rfl⟩ := stepsOf_mem h
  have hm := getA_mem hg
  refine ⟨?_, fun m hm2 => ?_⟩
  · have h1 := (b.rl _ hm).2 q hq
    have h2 : tail.length + 1 ≤ 1000 := hl
    show (q.2 ++ tail).length ≤ 2000
    rw [List.length_append]
    omega
  · rcases List.mem_append.mp hm2 with h2 | h2
    · exact b.cl _ hm q hq m h2
    · exact hr m (List.mem_cons_of_mem _ h2)
theorem BC.stepsLen {R : Bk} (b : BC R) (r : List Str) : (stepsOf R r).length ≤ 1000 := by
  cases r with
  | nil => exact Nat.zero_le _
  | cons n tail =>
    refine Nat.le_trans (stepsR_len _ _) ?_
    cases hg : getA R n with
    | none => exact Nat.zero_le _
    | some rs => exact (b.rl _ (getA_mem hg)).1
def rowsBy (R : Bk) (r : List Str) (z : Str) : List (List Str) := ((stepsOf R r).filter fun x => decide (x.1 = z)).map (·.2)
def lessOf (R : Bk) (N : Str → Nat) (r : List Str) : List Rule := (stepsOf R r).filter fun x => decide (sumN N x.2 < sumN N r)
def spStepsOf (K : PySem.W.Frag) (C : Addr) : Sp := fun vs H Q _ => ∃ (p a : Addr) (R' : Bk) (N : Str → Nat) (r : List Str), vs = [.ref p, .ref a] ∧ BookAt K C H p R' N ∧ SqA K H a (r.map .str) ∧ r.length ≤ 1000 ∧ (∀ n ∈ r, n ∈ R'.map (·.1)) ∧ BC R' ∧
  ∀ q H' L, Same H H' → Told H H' q L → L.map (·.2.2) = stepsOf R' r → Q (.ref q) H'
def spLess (K : PySem.W.Frag) (C : Addr) : Sp := fun vs H Q _ => ∃ (p a : Addr) (R' : Bk) (N : Str → Nat) (r : List Str), vs = [.ref p, .ref a] ∧ BookAt K C H p R' N ∧ SqA K H a (r.map .str) ∧ r.length ≤ 1000 ∧ (∀ n ∈ r, n ∈ R'.map (·.1)) ∧ BC R' ∧
  ∀ q H' L, Same H H' → Told H H' q L → L.map (·.2.2) = lessOf R' N r → Q (.ref q) H'
def spBehind (K : PySem.W.Frag) (C : Addr) : Sp := fun vs H Q _ => ∃ (p a : Addr) (R' : Bk) (N : Str → Nat) (r : List Str) (z : Str), vs = [.ref p, .ref a, .str z] ∧ BookAt K C H p R' N ∧ SqA K H a (r.map .str) ∧ r.length ≤ 1000 ∧ (∀ n ∈ r, n ∈ R'.map (·.1)) ∧ BC R' ∧ letterB z = true ∧ z.length ≤ 1000000 ∧
  ∀ q H' L, Same H H' → ToldR H H' q L → L.map (·.2) = rowsBy R' r z → Q (.ref q) H'
section
variable {P : Program} {w : World} {K : PySem.W.Frag} {mg : Str → Option Value} {base : Heap}
theorem sc_steps_of : FnScope ["book", "row"] ["book", "row"] (defScope s_steps_of) := ⟨rfl, rfl, rfl, by decide +kernel, rfl, by decide +kernel, by decide +kernel⟩
theorem ok_steps_of (T : TxB K mg) : FnOk P w K mg base CX0 3 T.steps_of.f T.steps_of.fd ["book", "row"] (spStepsOf K T.C) := by
  have G_checked_book : FnOk P w K mg base CX0 2 T.checked_book.f T.checked_book.fd _ (spBook T.C) := (ok_checked_book T).mono (by decide)
  have G_checked_row : FnOk P w K mg base CX0 2 T.checked_row.f T.checked_row.fd _ (spRowIn K T.C) := ok_checked_row T
  have G_steps_in : FnOk P w K mg base CX0 2 T.steps_in.f T.steps_in.fd _ (spStepsIn K T.C) := (ok_steps_in T).mono (by decide)
  refine T.steps_of.F.ok sc_steps_of (fun vs H Q E h => ?_) (fun cdv A outer s H vs Q E hr h => ?_)
  · obtain ⟨p, a, R', N, r, rfl, _⟩ := h
    rfl
  obtain ⟨p, a, R', N, r, rfl, hb, ha, hl, hm, bc, q⟩ := h
  have nd := sc_steps_of.nd
  have hl' : r.length ≤ 1000000 := Nat.le_trans hl (by decide)
  refine ⟨_, (pss_one (ps_ret (eC T.steps_in G_steps_in hr (pa_cons (eC T.checked_book G_checked_book hr (pa_cons (pv 0) pa_nil)) (pa_cons (eC T.checked_row G_checked_row hr (pa_cons (pv 0) (pa_cons (pv 1) pa_nil))) pa_nil))))), ?_⟩
  obtain ⟨dx, d1, d2, k1, k2, F, h1, _⟩ := hb.ex
  refine ⟨_, rfl, p, dx, _, rfl, h1, ?_⟩
  refine ⟨_, rfl, _, rfl, p, a, R', N, r, rfl, hb, ha, hl', hm, fun b H1 s1 nb h1 => ?_⟩
  exact ⟨p, b, R', N, r, rfl, hb.same s1, SqL.of h1, hl', hm, bc.big, fun z H2 L s2 t e => q z H2 L (s1.trans s2) (t.mono s1) e⟩
theorem sc_behind : FnScope ["book", "row", "letter", "found", "sign", "later"] ["book", "row", "letter"] (defScope s_behind) := ⟨rfl, rfl, rfl, by decide +kernel, rfl, by decide +kernel, by decide +kernel⟩
theorem ok_behind (T : TxB K mg) : FnOk P w K mg base CX0 3 T.behind.f T.behind.fd ["book", "row", "letter"] (spBehind K T.C) := by
  have G_checked_book : FnOk P w K mg base CX0 2 T.checked_book.f T.checked_book.fd _ (spBook T.C) := (ok_checked_book T).mono (by decide)
  have G_checked_row : FnOk P w K mg base CX0 2 T.checked_row.f T.checked_row.fd _ (spRowIn K T.C) := ok_checked_row T
  have G_steps_in : FnOk P w K mg base CX0 2 T.steps_in.f T.steps_in.fd _ (spStepsIn K T.C) := (ok_steps_in T).mono (by decide)
  have G_is_letter : FnOk P w K mg base CX0 2 T.is_letter.f T.is_letter.fd _ (spLet K letterB) := ok_is_letter T.toTxt
  refine T.behind.F.ok sc_behind (fun vs H Q E h => ?_) (fun cdv A outer s H vs Q E hr h => ?_)
  · obtain ⟨p, a, R', N, r, z, rfl, _⟩ := h
    rfl
  obtain ⟨p, a, R', N, r, z, rfl, hb, ha, hl, hm, bc, hz, hzl, q⟩ := h
  have nd := sc_behind.nd
  have hl' : r.length ≤ 1000000 := Nat.le_trans hl (by decide)
  refine ⟨_, (pss_cons (ps_set (i := 3) nd rfl (Or.inl rfl) (eC T.steps_in G_steps_in hr (pa_cons (eC T.checked_book G_checked_book hr (pa_cons (pv 0) pa_nil)) (pa_cons (eC T.checked_row G_checked_row hr (pa_cons (pv 0) (pa_cons (pv 1) pa_nil))) pa_nil))))
    (pss_cons (ps_if (pt_not (pt_val (eC T.is_letter G_is_letter hr (pa_cons (pv 2) pa_nil))))
      (pss_one (ps_no)) pss_nil)
    (pss_one (ps_ret (pe_lc (own := [("sign", 4), ("later", 5)]) (g := gTup K 2 (gCons (gName 4) (gCons (gName 5) gNil))) rfl nd (iL K (pv 3)) (blkOk_by (N := ["book", "row", "letter", "found", "sign", "later"]) (sc := defScope s_behind) (by decide +kernel)) (fun _ _ _ _ _ => (gTu (K := K) rfl (pgs_cons (pg_name (i := 4) nd rfl (Or.inl rfl)) (pgs_cons (pg_name (i := 5) nd rfl (Or.inl rfl)) pgs_nil)))) (fun _ _ _ _ _ => pts_one (pt_cmpR op_eq (pv 4) (pv 2) (nomark _))) (fun _ _ _ _ _ => (pv 5))))))), ?_⟩
  obtain ⟨dx, d1, d2, k1, k2, F, h1, _⟩ := hb.ex
  refine ⟨_, rfl, p, dx, _, rfl, h1, ?_⟩
  refine ⟨_, rfl, _, rfl, p, a, R', N, r, rfl, hb, ha, hl', hm, fun b H1 s1 nb h1 => ?_⟩
  refine ⟨p, b, R', N, r, rfl, hb.same s1, SqL.of h1, hl', hm, bc.big, fun g H2 L s2 t e => ?_⟩
  refine ⟨_, rfl, .str z, rfl, .inl ⟨z, rfl, hzl, fun H3 s3 => ⟨_, rfl, ?_⟩⟩⟩
  rw [hz]
  refine iteF ?_
  have hg3 := s3 _ _ t.at_
  have hLl : L.length ≤ 1000 := by
    have := congrArg List.length e
    rw [List.length_map] at this
    rw [this]
    exact bc.stepsLen r
  refine ⟨_, rfl, g, rfl, ⟨_, SqL.of hg3⟩, fun D nD => ?_⟩
  let d0 : Addr × Addr × Rule := (0, 0, (Str.empty, []))
  refine lc_p walk_list nD (by rw [List.length_map]; omega) (fun i _ y => y = .ref (L.getD i d0).2.1) (fun _ _ _ _ _ _ r => r) (fun i => decide ((L.getD i d0).2.2.1 = z)) (fun H4 s4 => SqL.of (s4 _ _ hg3)) ?_ ?_
  · rintro i x H4 H4' kk kk' hi s4 ⟨rfl, hx⟩ k1' k2'
    rw [List.getElem?_map] at hx
    cases hL : L[i]? with
    | none => rw [hL] at hx; cases hx
    | some y =>
      rw [hL] at hx
      have hx' := (Option.some.inj hx).symm
      subst hx'
      have eg : L.getD i d0 = y := getD_of hL
      rw [eg] at k1' k2'
      obtain ⟨g1, g2, _⟩ := t.it y (List.mem_of_getElem? hL)
      have g1' := s4 _ _ (s3 _ _ g1)
      refine ⟨y.1, _, rfl, SqT.of g1', rfl, _, _, rfl, _, _, rfl, rfl, rfl, _, rfl, _, rfl, rfl, _, rfl, ?_⟩
      by_cases hc : y.2.2.1 = z
      · have hd : decide (V.str y.2.2.1 = V.str z) = true := decide_eq_true (by rw [hc])
        rw [hd]
        exact iteT ⟨_, rfl, k1' (decide_eq_true hc) _ _ (Same.refl _) rfl⟩
      · have hd : decide (V.str y.2.2.1 = V.str z) = false := decide_eq_false (by intro e; injection e with e; exact hc e)
        rw [hd]
        exact iteF (k2' (decide_eq_false hc) _ (Same.refl _))
  · intro H4 ys s4 hD pr
    have e2 := Paired_map (f := fun i => V.ref (L.getD i d0).2.1) pr
    rw [List.length_map, range_filter L d0 (fun x => decide (x.2.2.1 = z)) (fun x => V.ref x.2.1)] at e2
    have u1 : Same H1 H4 := (s2.trans s3).trans s4
    have fr : Same H H2 := s1.trans s2
    refine q D H4 ((L.filter fun x => decide (x.2.2.1 = z)).map fun x => (x.2.1, x.2.2.2)) (s1.trans u1) ⟨?_, fun x hx => ?_, ?_, fun x hx => ?_, ?_⟩ ?_
    · rw [hD, e2, List.map_map]; rfl
    · obtain ⟨y, hy, rfl⟩ := List.mem_map.mp hx
      obtain ⟨g1, g2, g3, g4⟩ := t.it y (List.mem_filter.mp hy).1
      exact ⟨s4 _ _ (s3 _ _ g2), Same.free s1 g4⟩
    · rw [List.map_map]
      have : ((L.filter fun x => decide (x.2.2.1 = z)).map (fun x => x.2.1)).Sublist (L.map (·.2.1)) := List.Sublist.map _ List.filter_sublist
      exact this.nodup t.nd
    · obtain ⟨y, hy, rfl⟩ := List.mem_map.mp hx
      obtain ⟨g1, g2, g3, g4⟩ := t.it y (List.mem_filter.mp hy).1
      exact ne_of_none (s3 _ _ g2) nD
    · exact Same.free fr (Same.free s3 nD)
    · unfold rowsBy
      rw [← e, List.map_map, List.filter_map, List.map_map]
      rfl
theorem sc_lessening : FnScope ["book", "row", "known", "whole", "letter", "later"] ["book", "row"] (defScope s_lessening) := ⟨rfl, rfl, rfl, by decide +kernel, rfl, by decide +kernel, by decide +kernel⟩
theorem paired_ex {α : Type} {P : Nat → Addr → Prop} {g : Nat → α} : ∀ {l : List Nat} {ys : List V}, Paired (fun i y => ∃ t, y = V.ref t ∧ P i t) l ys → ∃ L : List (Addr × α), ys = L.map (fun x => V.ref x.1) ∧ L.map (·.2) = l.map g ∧ ∀ x ∈ L, ∃ i ∈ l, x.2 = g i ∧ P i x.1
  | _, _, .nil => ⟨[], rfl, rfl, fun _ z => by cases z⟩
  | i :: l, y :: ys, .cons q p => by
    obtain ⟨L, h1, h2, h3⟩ := paired_ex (g := g) p
    obtain ⟨t, rfl, pt⟩ := q
    refine ⟨(t, g i) :: L, by simp [h1], by simp [h2], fun x hx => ?_⟩
    rcases List.mem_cons.mp hx with e | hx
    · subst e; exact ⟨i, List.mem_cons_self, rfl, pt⟩
    · obtain ⟨j, hj, a, b⟩ := h3 x hx
      exact ⟨j, List.mem_cons_of_mem _ hj, a, b⟩
theorem ok_lessening (T : TxB K mg) : FnOk P w K mg base CX0 3 T.lessening.f T.lessening.fd ["book", "row"] (spLess K T.C) := by
  have G_checked_book : FnOk P w K mg base CX0 2 T.checked_book.f T.checked_book.fd _ (spBook T.C) := (ok_checked_book T).mono (by decide)
  have G_checked_row : FnOk P w K mg base CX0 2 T.checked_row.f T.checked_row.fd _ (spRowIn K T.C) := ok_checked_row T
  have G_steps_in : FnOk P w K mg base CX0 2 T.steps_in.f T.steps_in.fd _ (spStepsIn K T.C) := (ok_steps_in T).mono (by decide)
  have G_norm_of : FnOk P w K mg base CX0 2 T.norm_of.f T.norm_of.fd _ (spNormOf K T.C) := (ok_norm_of T).mono (by decide)
  refine T.lessening.F.ok sc_lessening (fun vs H Q E h => ?_) (fun cdv A outer s H vs Q E hr h => ?_)
  · obtain ⟨p, a, R', N, r, rfl, _⟩ := h
    rfl
  obtain ⟨p, a, R', N, r, rfl, hb, ha, hl, hm, bc, q⟩ := h
  have nd := sc_lessening.nd
  have hl' : r.length ≤ 1000000 := Nat.le_trans hl (by decide)
  refine ⟨_, (pss_cons (ps_set (i := 2) nd rfl (Or.inl rfl) (eC T.checked_row G_checked_row hr (pa_cons (eC T.checked_book G_checked_book hr (pa_cons (pv 0) pa_nil)) (pa_cons (pv 1) pa_nil))))
    (pss_cons (ps_set (i := 3) nd rfl (Or.inr rfl) (eC T.norm_of G_norm_of hr (pa_cons (pv 0) (pa_cons (pv 2) pa_nil))))
    (pss_one (ps_ret (pe_lc (own := [("letter", 4), ("later", 5)]) (g := gTup K 2 (gCons (gName 4) (gCons (gName 5) gNil))) rfl nd (iL K (eC T.steps_in G_steps_in hr (pa_cons (pv 0) (pa_cons (pv 2) pa_nil)))) (blkOk_by (N := ["book", "row", "known", "whole", "letter", "later"]) (sc := defScope s_lessening) (by decide +kernel)) (fun _ _ _ _ _ => (gTu (K := K) rfl (pgs_cons (pg_name (i := 4) nd rfl (Or.inl rfl)) (pgs_cons (pg_name (i := 5) nd rfl (Or.inl rfl)) pgs_nil)))) (fun _ _ _ _ _ => pts_one (pt_cmpR op_lt (eC T.norm_of G_norm_of hr (pa_cons (pv 0) (pa_cons (pv 5) pa_nil))) (pv 3) (nomark _))) (fun _ _ _ _ _ => (pe_tup (pa_cons (pv 4) (pa_cons (pv 5) pa_nil))))))))), ?_⟩
  obtain ⟨dx, d1, d2, k1, k2, F, h1, _⟩ := hb.ex
  refine ⟨_, rfl, p, dx, _, rfl, h1, _, rfl, p, a, R', N, r, rfl, hb, ha, hl', hm, fun b H1 s1 nb h1 => ?_⟩
  refine ⟨_, rfl, _, rfl, p, b, R', N, r, rfl, hb.same s1, SqL.of h1, hl', hm, fun H2 s2 => ?_⟩
  have h2 := s2 _ _ h1
  have hb2 := (hb.same s1).same s2
  refine ⟨_, rfl, _, rfl, p, b, R', N, r, rfl, hb2, SqL.of h2, hl', hm, bc.big, fun g H3 L s3 t e => ?_⟩
  have hLl : L.length ≤ 1000 := by
    have := congrArg List.length e
    rw [List.length_map] at this
    rw [this]
    exact bc.stepsLen r
  have fr : Same H H3 := (s1.trans s2).trans s3
  refine ⟨g, rfl, ⟨_, SqL.of t.at_⟩, fun D nD => ?_⟩
  let d0 : Addr × Addr × Rule := (0, 0, (Str.empty, []))
  refine lc_pd walk_list nD (by rw [List.length_map]; omega) (fun i H' y => ∃ u, y = V.ref u ∧ H' u = some (.tup [.str (L.getD i d0).2.2.1, .ref (L.getD i d0).2.1]) ∧ H u = none) (fun i H H' y _ s ⟨u, e1, e2, e3⟩ => ⟨u, e1, s _ _ e2, e3⟩) (fun i => decide (sumN N (L.getD i d0).2.2.2 < sumN N r)) (fun H4 s4 => SqL.of (s4 _ _ t.at_)) ?_ ?_
  · rintro i x H4 H4' ysD kk kk' hi s4 hD4 ⟨rfl, hx⟩ k1' k2'
    rw [List.getElem?_map] at hx
    cases hL : L[i]? with
    | none => rw [hL] at hx; cases hx
    | some y =>
      rw [hL] at hx
      have hx' := (Option.some.inj hx).symm
      subst hx'
      have eg : L.getD i d0 = y := getD_of hL
      rw [eg] at k1' k2'
      have ym := List.mem_of_getElem? hL
      obtain ⟨g1, g2, _⟩ := t.it y ym
      have st : y.2.2 ∈ stepsOf R' r := by rw [← e]; exact List.mem_map.mpr ⟨y, ym, rfl⟩
      obtain ⟨b1, b2⟩ := bc.step hm hl st
      refine ⟨y.1, _, rfl, SqT.of (s4 _ _ g1), rfl, _, _, rfl, _, _, rfl, rfl, rfl, ?_⟩
      refine ⟨_, rfl, _, rfl, p, y.2.1, R', N, y.2.2.2, rfl, (hb2.same s3).same s4, SqL.of (s4 _ _ g2), by omega, b2, fun H5 s5 => ⟨_, rfl, _, _, rfl, rfl, _, rfl, ?_⟩⟩
      by_cases hc : sumN N y.2.2.2 < sumN N r
      · rw [decide_eq_true (show ((sumN N y.2.2.2 : Nat) : Int) < ((sumN N r : Nat) : Int) by omega)]
        refine iteT ⟨_, rfl, _, rfl, (by show 2 ≤ sizeLine; decide), fun u nu => ?_⟩
        exact k1' (decide_eq_true hc) _ _ (s5.trans (same_new nu)) ⟨u, rfl, hid_get (by
          intro z
          have ez := List.mem_singleton.mp z
          rw [ez, s5 _ _ hD4] at nu
          cases nu) upd_same, Same.free fr (Same.free s4 (Same.free s5 nu))⟩
      · rw [decide_eq_false (show ¬ ((sumN N y.2.2.2 : Nat) : Int) < ((sumN N r : Nat) : Int) by omega)]
        exact iteF (k2' (decide_eq_false hc) _ s5)
  · intro H4 ys s4 hD pr
    obtain ⟨L', e1, e2, e3⟩ := paired_ex (g := fun i => (L.getD i d0).2) pr
    rw [List.length_map, range_filter L d0 (fun x => decide (sumN N x.2.2.2 < sumN N r)) (fun x => x.2)] at e2
    have mem : ∀ x ∈ L', ∃ y ∈ L, x.2 = y.2 := fun x hx => by
      have : x.2 ∈ L'.map (·.2) := List.mem_map.mpr ⟨x, hx, rfl⟩
      rw [e2] at this
      obtain ⟨y, hy, ey⟩ := List.mem_map.mp this
      exact ⟨y, (List.mem_filter.mp hy).1, ey.symm⟩
    refine q D H4 L' (fr.trans s4) ⟨by rw [hD, e1], fun x hx => ?_, ?_, fun x hx => ?_, ?_⟩ ?_
    · obtain ⟨i, hi, a1, a2, a3⟩ := e3 x hx
      obtain ⟨y, hy, ey⟩ := mem x hx
      obtain ⟨g1, g2, g3, g4⟩ := t.it y hy
      refine ⟨?_, ?_, a3, ?_⟩
      · rw [← a1] at a2
        exact (hid_of a2).2
      · rw [ey]; exact s4 _ _ g2
      · rw [ey]; exact Same.free (s1.trans s2) g4
    · have : (L'.map (·.2.1)) = ((L.filter fun x => decide (sumN N x.2.2.2 < sumN N r)).map (fun x => x.2.1)) := by
        have := congrArg (List.map fun z : Addr × Rule => z.1) e2
        rw [List.map_map, List.map_map] at this
        exact this
      rw [this]
      exact (List.Sublist.map _ List.filter_sublist).nodup t.nd
    · obtain ⟨y, hy, ey⟩ := mem x hx
      obtain ⟨g1, g2, g3, g4⟩ := t.it y hy
      rw [ey]
      exact ne_of_none g2 nD
    · exact Same.free fr nD
    · have := congrArg (List.map fun z : Addr × Rule => z.2) e2
      rw [List.map_map, List.map_map] at this
      unfold lessOf
      rw [← e, List.filter_map]
      exact this
end
end K8
set_option maxRecDepth 100000
set_option maxHeartbeats 4000000
namespace K8
open PySem PySem.Spec PyProof.Rows L2
/-! ### list + list, wherever they stand -/
def rCatL (K : PySem.W.Frag) : R2 := fun x y H Q => ∃ a b xs zs, x = .ref a ∧ y = .ref b ∧ SqL K H a xs ∧ SqL K H b zs ∧ xs.length + zs.length ≤ sizeLine ∧ ∀ p, H p = none → Q (.ref p) (upd H p (.lst (xs ++ zs)))
theorem op_catL0 {X : Cx} : OpR X (binaryOp .Add) (rCatL X.K) := by
  intro pins s σ H x y v u Q I rx ry h
  obtain ⟨a, b, xs, zs, rfl, rfl, hA, hB, hz, q⟩ := h
  cases rx
  cases ry
  obtain ⟨i1, r1, ⟨⟨c1, d1, t1, l1⟩, n1, o1, e1, f1, g1⟩, z1⟩ := I.list hA
  obtain ⟨i2, r2, ⟨⟨c2, d2, t2, l2⟩, n2, o2, e2, f2, g2⟩, z2⟩ := I.list hB
  simp only at e1 g1 e2 g2
  subst e1 g1 e2 g2
  have hl : (i1 ++ i2).length = (xs ++ zs).length := by rw [List.length_append, List.length_append, r1.length, r2.length]
  refine concat_meets ⟨_, o1, rfl⟩ ⟨_, o2, rfl⟩ noFill_list_add seq_list_add F.slot_list_add F.entry_list_add (F.args_list_add_2 _ _) (list_addW a b i1.toArray i2.toArray n1 n2 d1 d2 l1 l2 (by rw [List.size_toArray, List.size_toArray, ← r1.length, ← r2.length]; exact hz)) ⟨o1, o2, ?_⟩
  rw [show i1.toArray ++ i2.toArray = (i1 ++ i2).toArray by simp]
  exact ⟨.ref _, _, I.lnew (t' := s.toks) (r1.append r2) (by rw [List.length_append]; exact hz), rfl, q _ I.fresh⟩
theorem oCatL {X : Cx} (K : PySem.W.Frag) (h : X.K = K := by rfl) : OpR X (binaryOp .Add) (rCatL K) := by subst h; exact op_catL0
/-! ### encodings that Python's == tells apart -/
structure EncOk {α : Type} [DecidableEq α] (ok : α → Prop) (enc : α → PyData) : Prop where
  lay : ∀ a, ok a → (enc a).canLay0 = true
  dep : ∀ a, (enc a).depth ≤ 3
  eqv : ∀ a b, PyData.eqv (enc a) (enc b) = decide (a = b)
theorem canLayAll {l : List PyData} (h : ∀ d ∈ l, d.canLay0 = true) : PyData.canLayAll0 l = true := by
  induction l with
  | nil => rfl
  | cons d l ih => simp [PyData.canLayAll0, h d List.mem_cons_self, ih fun e he => h e (List.mem_cons_of_mem _ he)]
theorem shaped_of {d : PyData} (h1 : d.canLay0 = true) (h2 : d.depth ≤ 64) : SeqAt.shaped d = true := by
  unfold SeqAt.shaped
  rw [h1, decide_eq_true h2]
  rfl
theorem lay_list {l : List PyData} (h : ∀ d ∈ l, d.canLay0 = true) : (PyData.list l).canLay0 = true ∧ (PyData.tuple l).canLay0 = true := by
  have := canLayAll h
  constructor <;> (simp only [PyData.canLay0]; exact this)
theorem dep_list {n : Nat} {l : List PyData} (h : ∀ d ∈ l, d.depth ≤ n) : (PyData.list l).depth ≤ n + 1 ∧ (PyData.tuple l).depth ≤ n + 1 := by
  have := depthAll_le h
  constructor <;> (simp only [PyData.depth]; exact Nat.succ_le_succ this)
theorem shaped_list {l : List PyData} (h : ∀ d ∈ l, d.canLay0 = true ∧ d.depth ≤ 20) : SeqAt.shaped (.list l) = true :=
  shaped_of (lay_list fun d hd => (h d hd).1).1 (Nat.le_trans (dep_list fun d hd => (h d hd).2).1 (by decide))
section
variable {α : Type} [DecidableEq α] {ok : α → Prop} {enc : α → PyData}
theorem EncOk.one (e : EncOk ok enc) {a : α} (h : ok a) : SeqAt.shaped (enc a) = true := shaped_of (e.lay a h) (Nat.le_trans (e.dep a) (by decide))
theorem EncOk.all (e : EncOk ok enc) {l : List α} (h : ∀ a ∈ l, ok a) : SeqAt.shaped (.list (l.map enc)) = true := shaped_list fun d hd => by
  obtain ⟨a, ha, rfl⟩ := List.mem_map.mp hd
  exact ⟨e.lay a (h a ha), Nat.le_trans (e.dep a) (by decide)⟩
theorem EncOk.any (e : EncOk ok enc) (l : List α) (a : α) : ((l.map enc).any fun z => PyData.eqv z (enc a)) = decide (a ∈ l) := by
  induction l with
  | nil => rfl
  | cons b l ih =>
    rw [List.map_cons, List.any_cons, ih, e.eqv]
    by_cases h : b = a
    · subst h; simp
    · have h' : ¬ a = b := fun q => h q.symm
      simp [h, h']
end
def sOk (x : Str) : Prop := PyData.strOk x = true
def rOk (r : Rule) : Prop := sOk r.1 ∧ ∀ n ∈ r.2, sOk n
theorem lay_str {x : Str} (h : sOk x) : (PyData.str x).canLay0 = true := by simp only [PyData.canLay0]; exact h
theorem dep_str (x : Str) : (PyData.str x).depth ≤ 0 := by simp [PyData.depth]
theorem lay_strs {a : List Str} (h : ∀ n ∈ a, sOk n) : (PyData.list (a.map PyData.str)).canLay0 = true := (lay_list fun d hd => by
  obtain ⟨x, hx, rfl⟩ := List.mem_map.mp hd
  exact lay_str (h x hx)).1
theorem eqv_str (a b : Str) : PyData.eqv (.str a) (.str b) = decide (a = b) := by simp [PyData.eqv, Bool.beq_eq_decide_eq]
theorem enc_str : EncOk sOk PyData.str := ⟨fun _ h => lay_str h, fun x => Nat.le_trans (dep_str x) (by decide), eqv_str⟩
theorem eqvAll_strs : ∀ a b : List Str, PyData.eqvAll (a.map PyData.str) (b.map PyData.str) = decide (a = b)
  | [], [] => by simp [PyData.eqvAll]
  | [], _ :: _ => by simp [PyData.eqvAll]
  | _ :: _, [] => by simp [PyData.eqvAll]
  | x :: a, y :: b => by
    rw [List.map_cons, List.map_cons, PyData.eqvAll, eqvAll_strs a b, eqv_str]
    by_cases h1 : x = y <;> by_cases h2 : a = b <;> simp [h1, h2]
theorem eqv_L (a b : Rule) : PyData.eqv (encL a) (encL b) = decide (a = b) := by
  have h : PyData.eqv (encL a) (encL b) = (decide (a.1 = b.1) && decide (a.2 = b.2)) := by
    simp only [encL, PyData.eqv, PyData.eqvAll, Bool.and_true]
    rw [eqvAll_strs]
    congr 1
  rw [h]
  by_cases h1 : a.1 = b.1
  · by_cases h2 : a.2 = b.2
    · have : a = b := Prod.ext h1 h2
      simp [this]
    · have : ¬ a = b := fun e => h2 (by rw [e])
      simp [h2, this]
  · have : ¬ a = b := fun e => h1 (by rw [e])
    simp [h1, this]
theorem lay_L {r : Rule} (h : rOk r) : (encL r).canLay0 = true := (lay_list fun d hd => by
  rcases List.mem_cons.mp hd with e | hd
  · rw [e]; exact lay_str h.1
  · rw [List.mem_singleton.mp hd]; exact lay_strs h.2).2
theorem enc_L : EncOk rOk encL := ⟨fun a h => lay_L h, fun a => Nat.le_trans (depth_L2 a) (by decide), eqv_L⟩
theorem dep_strs (a : List Str) : (PyData.list (a.map .str)).depth ≤ 1 := (dep_list fun d hd => by
  obtain ⟨x, _, rfl⟩ := List.mem_map.mp hd
  exact dep_str x).1
theorem enc_strs : EncOk (fun a : List Str => ∀ n ∈ a, sOk n) (fun a : List Str => PyData.list (a.map .str)) := ⟨fun a h => lay_strs h, fun a => Nat.le_trans (dep_strs a) (by decide), fun a b => by simp only [PyData.eqv]; exact eqvAll_strs a b⟩
/-! ### names, letters are texts that can be laid -/
theorem low_ok : ∀ c ∈ small26.cps.toList, c < 0x110000 := by decide +kernel
theorem lowfig_ok : ∀ c ∈ (small26 ++ figs10).cps.toList, c < 0x110000 := by decide +kernel
theorem sOk_of {x : Str} (h : ∀ c ∈ x.cps.toList, c < 0x110000) : sOk x := by
  unfold sOk PyData.strOk
  rw [← Array.all_toList]
  exact List.all_eq_true.mpr fun c hc => decide_eq_true (h c hc)
theorem name_ok {x : Str} (h : nameB x = true) : sOk x ∧ x.length ≤ 8 ∧ 0 < x.length := by
  unfold nameB at h
  simp only [Bool.and_eq_true, decide_eq_true_eq, Bool.not_eq_true'] at h
  obtain ⟨⟨⟨⟨h0, h8⟩, hf⟩, hw⟩, hall⟩ := h
  exact ⟨sOk_of fun c hc => lowfig_ok c (of_decide_eq_true (List.all_eq_true.mp hall c hc)), h8, h0⟩
theorem bare_ok {x : Str} (h : bareB x = true) : sOk x := by
  unfold bareB at h
  simp only [Bool.and_eq_true] at h
  exact sOk_of fun c hc => low_ok c (of_decide_eq_true (List.all_eq_true.mp h.2 c hc))
end K8
set_option maxRecDepth 100000
set_option maxHeartbeats 4000000
namespace K8
open PySem PySem.Spec PyProof.Rows L2
theorem dpAll_snoc {K : PySem.W.Frag} {H : Hp} {vs : List V} {ds : List PyData} {v : V} {d : PyData} (h : DpAll K H vs ds) (r : Dp K H v d) : DpAll K H (vs ++ [v]) (ds ++ [d]) := DpAll.app h (.cons r .nil)
/-! ### each_once -/
def spOnce {α : Type} [DecidableEq α] (K : PySem.W.Frag) (ok : α → Prop) (enc : α → PyData) : Sp := fun vs H Q _ => ∃ (M : List Addr) (a : Addr) (xs : List V) (rs : List α), vs = [.ref a] ∧ SqL K H a xs ∧ DpAll K (hid M H) xs (rs.map enc) ∧ rs.length ≤ 1000000 ∧ (∀ r ∈ rs, ok r) ∧
  ∀ p ys H', Same H H' → H p = none → H' p = some (.lst ys) → DpAll K (hid (p :: M) H') ys ((once rs).map enc) → Q (.ref p) H'
section
variable {P : Program} {w : World} {K : PySem.W.Frag} {mg : Str → Option Value} {base : Heap}
theorem sc_each_once : FnScope ["_law_things", "_law_found", "_law_thing"] ["_law_things"] (defScope s_each_once) := ⟨rfl, rfl, rfl, by decide +kernel, rfl, by decide +kernel, by decide +kernel⟩
theorem ok_each_once {α : Type} [DecidableEq α] {ok : α → Prop} {enc : α → PyData} (eo : EncOk ok enc) (T : Txt K mg) : FnOk P w K mg base CX0 1 T.each_once.f T.each_once.fd ["_law_things"] (spOnce K ok enc) := by
  refine T.each_once.F.ok sc_each_once (fun vs H Q E h => ?_) (fun cdv A outer s H vs Q E hr h => ?_)
  · obtain ⟨M, a, xs, rs, rfl, _⟩ := h
    rfl
  obtain ⟨M, a, xs, rs, rfl, ha, hall, hl, hok, q⟩ := h
  have nd := sc_each_once.nd
  have hu65 : (A.deeper (envOfC "_law_each_once" (defScope s_each_once) s.heap.objs.size T.each_once.f cdv)).units + 65 < cLine := by have := hr.un; omega
  refine ⟨_, (pss_cons (ps_set (i := 1) nd rfl (Or.inl rfl) (pe_lst pa_nil))
    (pss_cons (ps_for PassesOwn.never rfl (iL K (pv 0)) (pg_name (i := 2) nd rfl (Or.inl rfl))
      (pss_one (ps_if (pt_cmpR (oNotInD K hu65) (pv 2) (pv 1) (by rfl))
        (pss_one (ps_expr (eAppend K (pv 1) (pv 2)))) pss_nil)))
    (pss_one (ps_ret (pv 1))))), ?_⟩
  have hxl : xs.length = rs.length := dpAll_len hall
  refine ⟨(by show 0 ≤ sizeLine; decide), fun p np => ?_⟩
  have s0 : Same (hid [] H) (hid [p] (upd H p (.lst []))) := hid_push np
  have m0 : Same (hid M H) (hid (p :: M) (upd H p (.lst []))) := hid_push np
  have hp0 : upd H p (.lst []) p = some (.lst []) := upd_same
  generalize upd H p (.lst []) = H0 at s0 m0 hp0 ⊢
  have sub : ∀ Y : Hp, Same (hid (p :: M) Y) (hid [p] Y) := fun Y => hid_sub fun b hb => by rw [List.mem_singleton.mp hb]; exact List.mem_cons_self
  have ha0 : SqL K (hid [p] H0) a xs := s0.seq (by rw [hid0]; exact ha)
  have hall0 : DpAll K (hid (p :: M) H0) xs (rs.map enc) := sDpAll m0 _ _ hall
  refine ⟨_, rfl, a, rfl, ⟨xs, hid_same.seq ha0⟩, ?_⟩
  refine for_it walk_list (fun i σ H' => (∃ v2, σ = [some (.ref a), some (.ref p), v2]) ∧ Same (hid [p] H0) (hid [p] H') ∧ i ≤ xs.length ∧ ∃ ys, H' p = some (.lst ys) ∧ DpAll K (hid (p :: M) H') ys ((once (rs.take i)).map enc))
    ⟨⟨none, rfl⟩, Same.refl _, Nat.zero_le _, [], hp0, .nil⟩ (fun i σ H' _ ⟨_, s1, _⟩ => hid_same.seq (s1.seq ha0)) ?_ ?_
  · rintro i x σ H3 H3' hi ⟨⟨v2, rfl⟩, s3, _, ys, hp3, hys⟩ ⟨rfl, hx⟩
    obtain ⟨r, hr1, dr⟩ := dpAll_at hall0 hx
    have hrm := List.mem_of_getElem? hr1
    have s3m : Same (hid (p :: M) H0) (hid (p :: M) H3') := hid_more s3 fun b hb => by rw [List.mem_singleton.mp hb]; exact List.mem_cons_self
    have dr3 := sDp s3m _ _ dr
    have hokt : ∀ b ∈ once (rs.take i), ok b := fun b hb => hok b (List.mem_of_mem_take (once_mem.mp hb))
    refine ⟨_, rfl, _, rfl, enc r, (once (rs.take i)).map enc, sDp hid_same _ _ dr3, .lst (SqL.of hp3) (sDpAll hid_same _ _ hys), eo.one (hok r hrm), eo.all hokt, _, rfl, ?_⟩
    rw [eo.any, List.take_succ, hr1]
    have es : once (rs.take i ++ (some r).toList) = if r ∈ once (rs.take i) then once (rs.take i) else once (rs.take i) ++ [r] := once_snoc _ _
    rw [es]
    have hil : i + 1 ≤ xs.length := hi
    by_cases hc : r ∈ once (rs.take i)
    · rw [decide_eq_true hc, if_pos hc]
      exact iteF ⟨⟨_, rfl⟩, s3, hil, ys, hp3, hys⟩
    · rw [decide_eq_false hc, if_neg hc]
      refine iteT ?_
      have hyl : ys.length ≤ 1000000 := by
        rw [dpAll_len hys]
        refine Nat.le_trans (once_len _) ?_
        rw [List.length_take]
        exact Nat.le_trans (Nat.min_le_right _ _) hl
      refine ⟨_, rfl, .inl ⟨rfl, _, SqL.of hp3⟩, _, rfl, p, ys, x, rfl, rfl, hp3, Nat.lt_of_le_of_lt hyl (by decide), ?_⟩
      have g0 : hid [p] (upd H3' p (.lst (ys ++ [x]))) = hid [p] H3' := hid_in List.mem_cons_self
      have g1 : hid (p :: M) (upd H3' p (.lst (ys ++ [x]))) = hid (p :: M) H3' := hid_in List.mem_cons_self
      refine ⟨⟨_, rfl⟩, by rw [g0]; exact s3, hil, ys ++ [x], upd_same, ?_⟩
      rw [g1, List.map_append]
      exact dpAll_snoc hys dr3
  · rintro σ H3 ⟨⟨v2, rfl⟩, s3, _, ys, hp3, hys⟩
    rw [hxl, List.take_length] at hys
    exact ⟨_, rfl, q p ys H3 (Same_hid0 (s0.trans s3)) np hp3 hys⟩
/-! ### b_size -/
def spSize (K : PySem.W.Frag) : Sp := fun vs H Q _ => ∃ (d a : Addr) (kvs : List (Key × V)) (F : List (Str × Nat)) (N : Str → Nat) (r : List Str), vs = [.ref d, .ref a] ∧ Rd H d (.dK kvs) ∧ KvD K H encN F kvs ∧ SqL K H a (r.map .str) ∧ r.length ≤ 1000000 ∧ (∀ n ∈ r, getA F n = some (N n)) ∧ ∀ H', Same H H' → Q (.int (sumN N r : Nat)) H'
theorem sc_b_size : FnScope ["_law_sizes", "_law_row", "_law_one"] ["_law_sizes", "_law_row"] (defScope s_b_size) := ⟨rfl, rfl, rfl, by decide +kernel, rfl, by decide +kernel, by decide +kernel⟩
theorem sum_getD (N : Str → Nat) (r : List Str) : ((List.range (r.map V.str).length).map fun i => ((N (r.getD i Str.empty) : Nat) : Int)).sum = ((sumN N r : Nat) : Int) := by
  rw [List.length_map, range_getD r Str.empty fun n => ((N n : Nat) : Int)]
  induction r with
  | nil => rfl
  | cons x r ih => rw [List.map_cons, List.sum_cons, ih]; simp [sumN]
theorem rd_same {H H' : Hp} {a : Addr} {u : HO} (h : Rd H a u) (s : Same H H') : Rd H' a u := h.imp (s _ _ ·) fun ⟨o, e⟩ => ⟨o, s _ _ e⟩
theorem ok_b_size (T : Txt K mg) : FnOk P w K mg base CX0 1 T.b_size.f T.b_size.fd ["_law_sizes", "_law_row"] (spSize K) := by
  refine T.b_size.F.ok sc_b_size (fun vs H Q E h => ?_) (fun cdv A outer s H vs Q E hr h => ?_)
  · obtain ⟨d, a, kvs, F, N, r, rfl, _⟩ := h
    rfl
  obtain ⟨d, a, kvs, F, N, r, rfl, hd, kd, ha, hl, hm, q⟩ := h
  have nd := sc_b_size.nd
  have hu := hu_of hr
  refine ⟨_, (pss_one (ps_ret (eSum K rfl T.z_sum (pe_lc (own := [("_law_one", 2)]) (g := gName 2) (tt := tYes) rfl nd (iL K (pv 1)) (blkOk_by (N := ["_law_sizes", "_law_row", "_law_one"]) (sc := defScope s_b_size) (by decide +kernel)) (fun _ _ _ _ _ => (pg_name (i := 2) nd rfl (Or.inl rfl))) (fun _ _ _ _ _ => pts_nil) (fun _ _ _ _ _ => (pe_dget hu (pv 0) (pv 2) (fun _ _ => rfl))))))), ?_⟩
  refine ⟨_, rfl, a, rfl, ⟨_, ha⟩, fun D nD => ?_⟩
  refine lc_p walk_list nD (by rw [List.length_map]; exact hl) (fun i _ y => y = .int ((N (r.getD i Str.empty) : Nat) : Int)) (fun _ _ _ _ _ _ r => r) (fun _ => true) (fun H2 s2 => s2.seq ha) ?_ ?_
  · rintro i x H1 H1' kk kk' hi s ⟨rfl, hx⟩ k1' _
    obtain ⟨n, rfl, hn, hnm⟩ := strs_at hx
    obtain ⟨v, e1, e2⟩ := kd.val (hm n hnm)
    refine ⟨rfl, tYesI ⟨_, rfl, _, rfl, d, _, rfl, .inl ⟨kvs, Sum.inr n, rd_same hd s, rfl, e1.symm⟩, k1' rfl _ _ (Same.refl _) ?_⟩⟩
    rw [getD_of hn]
    exact dp_int e2
  · intro H1 ys s hD pr
    rw [filter_true] at pr
    have e := Paired_map (f := fun i => V.int ((N (r.getD i Str.empty) : Nat) : Int)) pr
    refine ⟨D, (List.range (r.map V.str).length).map (fun i => ((N (r.getD i Str.empty) : Nat) : Int)), rfl, SqL.of (by rw [hD, e, List.map_map]; rfl), ?_⟩
    rw [sum_getD]
    exact q H1 s
end
end K8
set_option maxRecDepth 100000
set_option maxHeartbeats 4000000
namespace K8
open PySem PySem.Spec PyProof.Rows L2
theorem notin_new {M : List Addr} {H Y : Hp} {t : Addr} (h : ∀ m ∈ M, H m ≠ none) (s : Same H Y) (n : Y t = none) : t ∉ M := fun z => h t z (Same.free s n)
def spBSteps (K : PySem.W.Frag) : Sp := fun vs H Q _ => ∃ (M : List Addr) (d a : Addr) (kvs : List (Key × V)) (R : Bk) (r : List Str), (∀ m ∈ M, H m ≠ none) ∧ vs = [.ref d, .ref a] ∧ Rd H d (.dK kvs) ∧ KvD K H encRs R kvs ∧ SqL K H a (r.map .str) ∧ r.length ≤ 1000 ∧ (∀ n ∈ r, n ∈ R.map (·.1)) ∧ BC R ∧ (∀ t ∈ R, ∀ q ∈ t.2, rOk q) ∧ (∀ n ∈ r, sOk n) ∧
  ∀ p zs H', Same H H' → H p = none → H' p = some (.lst zs) → DpAll K (hid (p :: M) H') zs ((stepsOf R r).map encL) → Q (.ref p) H'
def spBLess (K : PySem.W.Frag) : Sp := fun vs H Q _ => ∃ (d e a : Addr) (kvs ksz : List (Key × V)) (R : Bk) (F : List (Str × Nat)) (N : Str → Nat) (r : List Str), vs = [.ref d, .ref e, .ref a] ∧ Rd H d (.dK kvs) ∧ KvD K H encRs R kvs ∧ Rd H e (.dK ksz) ∧ KvD K H encN F ksz ∧ SqL K H a (r.map .str) ∧ r.length ≤ 1000 ∧ (∀ n ∈ r, n ∈ R.map (·.1)) ∧ BC R ∧ (∀ t ∈ R, ∀ q ∈ t.2, rOk q) ∧ (∀ n ∈ r, sOk n) ∧ IsN R N ∧ AllCor R N F ∧
  ∀ p zs H', Same H H' → H p = none → H' p = some (.lst zs) → DpAll K (hid [p] H') zs ((lessOf R N r).map encL) → Q (.ref p) H'
theorem shaped_strs {r : List Str} (h : ∀ n ∈ r, sOk n) : SeqAt.shaped (.list (r.map PyData.str)) = true := enc_str.all h
theorem eqv_nil {α : Type} (l : List α) (f : α → PyData) : PyData.eqv (.list (l.map f)) (.list []) = l.isEmpty := by
  cases l with
  | nil => simp [PyData.eqv, PyData.eqvAll]
  | cons x l => simp [PyData.eqv, PyData.eqvAll]
section
variable {P : Program} {w : World} {K : PySem.W.Frag} {mg : Str → Option Value} {base : Heap}
theorem sc_b_steps : FnScope ["_law_rules", "_law_row", "_law_letter", "_law_onward"] ["_law_rules", "_law_row"] (defScope s_b_steps) := ⟨rfl, rfl, rfl, by decide +kernel, rfl, by decide +kernel, by decide +kernel⟩
theorem ok_b_steps (T : Txt K mg) : FnOk P w K mg base CX0 2 T.b_steps.f T.b_steps.fd ["_law_rules", "_law_row"] (spBSteps K) := by
  have G_each_once : FnOk P w K mg base CX0 1 T.each_once.f T.each_once.fd _ (spOnce K rOk encL) := ok_each_once enc_L T
  refine T.b_steps.F.ok sc_b_steps (fun vs H Q E h => ?_) (fun cdv A outer s H vs Q E hr h => ?_)
  · obtain ⟨M, d, a, kvs, R, r, _, rfl, _⟩ := h
    rfl
  obtain ⟨M, d, a, kvs, R, r, hM, rfl, hd, kd, ha, hl, hm, bc, hro, hso, q⟩ := h
  have nd := sc_b_steps.nd
  have hu := hu_of hr
  have hu65 : (A.deeper (envOfC "_law_b_steps" (defScope s_b_steps) s.heap.objs.size T.b_steps.f cdv)).units + 65 < cLine := by have := hr.un; omega
  have hu64 := hr.units
  refine ⟨_, (pss_one (ps_ret (pe_ifExp (pt_cmpR (oNeD K hu64) (pv 1) (pe_lst pa_nil) (nomark _)) (e1SortD K hu65 T.z_sorted (eC T.each_once G_each_once hr (pa_cons (pe_lc (own := [("_law_letter", 2), ("_law_onward", 3)]) (g := gTup K 2 (gCons (gName 2) (gCons (gName 3) gNil))) (tt := tYes) rfl nd (iL K (pe_dget hu (pv 0) (pe_ix (ixL K) (pv 1) pe_int (fun _ _ => rfl)) (fun _ _ => rfl))) (blkOk_by (N := ["_law_rules", "_law_row", "_law_letter", "_law_onward"]) (sc := defScope s_b_steps) (by decide +kernel)) (fun _ _ _ _ _ => (gTu (K := K) rfl (pgs_cons (pg_name (i := 2) nd rfl (Or.inl rfl)) (pgs_cons (pg_name (i := 3) nd rfl (Or.inl rfl)) pgs_nil)))) (fun _ _ _ _ _ => pts_nil) (fun _ _ _ _ _ => (pe_tup (pa_cons (pv 2) (pa_cons (pe_op (oCatL K) (pv 3) (pe_slice (slL K) (pv 1) (po_some pe_int) po_none)) pa_nil))))) pa_nil))) (pe_lst pa_nil)))), ?_⟩
  refine ⟨_, rfl, (by show 0 ≤ sizeLine; decide), fun z nz => ?_⟩
  have sz := same_new (o := .lst []) nz
  have hz : upd H z (.lst []) z = some (.lst []) := upd_same
  generalize upd H z (.lst []) = H0 at sz hz ⊢
  refine ⟨.list (r.map .str), .list [], .lst (sz.seq ha) (dp_strs r), .lst (SqL.of hz) .nil, shaped_strs hso, shaped_list (by intro d h; cases h), _, rfl, ?_⟩
  rw [eqv_nil r]
  cases r with
  | nil =>
    refine iteF ⟨(by show 0 ≤ sizeLine; decide), fun p np => ?_⟩
    exact q p [] _ (sz.trans (same_new np)) (Same.free sz np) upd_same .nil
  | cons n tail =>
    refine iteT ?_
    obtain ⟨rs, hrs⟩ := getA_some (hm n List.mem_cons_self)
    obtain ⟨v, e1, e2⟩ := kd.val hrs
    obtain ⟨b, xs, rfl, hb1, hb2⟩ := dp_list e2
    have hrm := getA_mem hrs
    have hrsl : rs.length ≤ 1000 := (bc.rl _ hrm).1
    have hxl : xs.length = rs.length := dpAll_len hb2
    refine ⟨_, rfl, _, rfl, a, _, 0, .str n, rfl, rfl, sz.seq ha, atI_nat (j := 0) rfl, d, _, rfl, .inl ⟨kvs, Sum.inr n, rd_same hd sz, rfl, e1.symm⟩, ?_⟩
    refine ⟨b, rfl, ⟨xs, sz.seq hb1⟩, fun D nD => ?_⟩
    have stepsE : once (onward rs tail) = once (onward rs tail) := rfl
    refine lc_gd (K := K) walk_list M nD (by omega) (fun _ Y => Same H0 Y) (same_new nD) (fun _ Y o ys _ s b u hb => by
      rw [upd_ne fun e => by subst e; rw [nD] at hb; cases hb]
      exact s b u hb) (fun i => encL ((rs.getD i (Str.empty, [])).1, (rs.getD i (Str.empty, [])).2 ++ tail)) (fun _ => true) (fun _ H1 _ s1 _ => s1.seq (sz.seq hb1)) ?_ ?_
    · rintro i x H1 H1' ys kk kk' hi s1 _ hD ⟨rfl, hx⟩ k1' _
      obtain ⟨q', hq1, dq⟩ := dpAll_at hb2 hx
      have hqm := List.mem_of_getElem? hq1
      have u1 := sz.trans s1
      obtain ⟨c1, c2, rfl, hc1, hc2⟩ := dp_L (sDp u1 _ _ dq)
      refine ⟨c1, _, rfl, hc1, rfl, _, _, rfl, _, _, rfl, rfl, rfl, tYesI ?_⟩
      refine ⟨_, rfl, _, rfl, _, rfl, 1, rfl, a, _, rfl, u1.seq ha, fun z2 nz2 => ?_⟩
      rw [cut_tail]
      have s2 := same_new (o := .lst (List.drop 1 (List.map V.str (n :: tail)))) nz2
      have hz2 : upd H1' z2 (.lst (List.drop 1 (List.map V.str (n :: tail)))) z2 = some (.lst (tail.map .str)) := upd_same
      generalize upd H1' z2 (.lst (List.drop 1 (List.map V.str (n :: tail)))) = H2 at s2 hz2 ⊢
      refine ⟨c2, z2, _, _, rfl, rfl, s2.seq hc2, SqL.of hz2, ?_, fun l nl => ⟨(by show 2 ≤ sizeLine; decide), fun t nt => ?_⟩⟩
      · rw [List.length_map, List.length_map, sizeLine_eq]
        have := (bc.rl _ hrm).2 q' hqm
        have : tail.length + 1 ≤ 1000 := hl
        omega
      · have s3 := same_new (o := .lst (q'.2.map V.str ++ tail.map V.str)) nl
        have s4 := same_new (o := .tup [.str q'.1, .ref l]) nt
        have lt : l ≠ t := ne_of_none upd_same nt
        have hD4 := s4 _ _ (s3 _ _ (s2 _ _ hD))
        refine k1' rfl _ _ (sHid ((s2.trans s3).trans s4)) hD4 (s1.trans ((s2.trans s3).trans s4)) ?_
        rw [getD_of hq1]
        have nlD : l ≠ D := fun e => by rw [e, s2 _ _ hD] at nl; cases nl
        have ntD : t ≠ D := fun e => by rw [e, s3 _ _ (s2 _ _ hD)] at nt; cases nt
        have ntM : t ∉ M := notin_new hM ((u1.trans s2).trans s3) nt
        have nlM : l ∉ M := notin_new hM (u1.trans s2) nl
        refine dpL_of (b := l) (SqT.of (hid_get (by simpa using And.intro ntD ntM) upd_same)) (SqL.of (hid_get (by simpa using And.intro nlD nlM) ?_))
        rw [upd_ne lt, upd_same, List.map_append]
    · intro H1 ys s1 _ hD dp
      rw [filter_range, hxl] at dp
      have e3 : (List.range rs.length).map (fun i => encL ((rs.getD i (Str.empty, [])).1, (rs.getD i (Str.empty, [])).2 ++ tail)) = (onward rs tail).map encL := by
        rw [range_getD rs (Str.empty, []) fun q => encL (q.1, q.2 ++ tail)]
        unfold onward
        rw [List.map_map]
        rfl
      rw [e3] at dp
      have ol : (onward rs tail).length = rs.length := by unfold onward; rw [List.length_map]
      refine ⟨D :: M, D, ys, onward rs tail, rfl, SqL.of hD, dp, by omega, ?_, fun p ws H2 s2 np hp2 dw => ?_⟩
      · intro x hx
        unfold onward at hx
        obtain ⟨q', hq', rfl⟩ := List.mem_map.mp hx
        have := hro _ hrm q' hq'
        refine ⟨this.1, fun m hm2 => ?_⟩
        rcases List.mem_append.mp hm2 with h2 | h2
        · exact this.2 m h2
        · exact hso m (List.mem_cons_of_mem _ h2)
      · refine sorted_rsM M (.inr rfl) (SqL.of hp2) (sDpAll (hid_sub fun b hb => List.mem_cons_of_mem _ (List.mem_cons_of_mem _ hb)) _ _ dw) ?_ fun p2 us np2 du => ?_
        · have := once_len (onward rs tail)
          omega
        · have u2 : Same H H2 := (sz.trans s1).trans s2
          refine q p2 us _ (u2.trans (same_new np2)) (Same.free u2 np2) upd_same ?_
          have hp := hid_push (M := M) (o := .lst us) np2
          have eS : stepsOf R (n :: tail) = sortR (once (onward rs tail)) := by
            show stepsR ((getA R n).getD []) tail = _
            rw [hrs]
            rfl
          rw [eS]
          exact sDpAll hp _ _ du
theorem sc_b_less : FnScope ["_law_rules", "_law_sizes", "_law_row", "_law_whole", "_law_letter", "_law_onward"] ["_law_rules", "_law_sizes", "_law_row"] (defScope s_b_less) := ⟨rfl, rfl, rfl, by decide +kernel, rfl, by decide +kernel, by decide +kernel⟩
theorem ok_b_less (T : Txt K mg) : FnOk P w K mg base CX0 3 T.b_less.f T.b_less.fd ["_law_rules", "_law_sizes", "_law_row"] (spBLess K) := by
  have G_b_size : FnOk P w K mg base CX0 2 T.b_size.f T.b_size.fd _ (spSize K) := (ok_b_size T).mono (by decide)
  have G_b_steps : FnOk P w K mg base CX0 2 T.b_steps.f T.b_steps.fd _ (spBSteps K) := ok_b_steps T
  refine T.b_less.F.ok sc_b_less (fun vs H Q E h => ?_) (fun cdv A outer s H vs Q E hr h => ?_)
  · obtain ⟨d, e, a, kvs, ksz, R, F, N, r, rfl, _⟩ := h
    rfl
  obtain ⟨d, e, a, kvs, ksz, R, F, N, r, rfl, hd, kd, he, ke, ha, hl, hm, bc, hro, hso, hN, ac, q⟩ := h
  have nd := sc_b_less.nd
  refine ⟨_, (pss_cons (ps_set (i := 3) nd rfl (Or.inr rfl) (eC T.b_size G_b_size hr (pa_cons (pv 1) (pa_cons (pv 2) pa_nil))))
    (pss_one (ps_ret (pe_lc (own := [("_law_letter", 4), ("_law_onward", 5)]) (g := gTup K 2 (gCons (gName 4) (gCons (gName 5) gNil))) rfl nd (iL K (eC T.b_steps G_b_steps hr (pa_cons (pv 0) (pa_cons (pv 2) pa_nil)))) (blkOk_by (N := ["_law_rules", "_law_sizes", "_law_row", "_law_whole", "_law_letter", "_law_onward"]) (sc := defScope s_b_less) (by decide +kernel)) (fun _ _ _ _ _ => (gTu (K := K) rfl (pgs_cons (pg_name (i := 4) nd rfl (Or.inl rfl)) (pgs_cons (pg_name (i := 5) nd rfl (Or.inl rfl)) pgs_nil)))) (fun _ _ _ _ _ => pts_one (pt_cmpR op_eq (eC T.b_size G_b_size hr (pa_cons (pv 1) (pa_cons (pv 5) pa_nil))) (pe_op op_sub (pv 3) pe_int) (nomark _))) (fun _ _ _ _ _ => (pe_tup (pa_cons (pv 4) (pa_cons (pv 5) pa_nil)))))))), ?_⟩
  refine ⟨_, rfl, _, rfl, e, a, ksz, F, N, r, rfl, he, ke, ha, by omega, fun n hn => ac n (hm n hn), fun H1 s1 => ?_⟩
  refine ⟨_, rfl, _, rfl, [], d, a, kvs, R, r, (fun _ z => nomatch z), rfl, rd_same hd s1, kd.same s1, s1.seq ha, hl, hm, bc, hro, hso, fun p zs H2 s2 np hp2 dz => ?_⟩
  have hzl : zs.length = (stepsOf R r).length := dpAll_len dz
  have hzb : zs.length ≤ 1000 := by rw [hzl]; exact bc.stepsLen r
  refine ⟨p, rfl, ⟨_, SqL.of hp2⟩, fun D nD => ?_⟩
  have dz2 : DpAll K (hid [] H2) zs ((stepsOf R r).map encL) := by rw [hid0]; exact sDpAll hid_same _ _ dz
  have u2 := s1.trans s2
  let d0 : Rule := (Str.empty, [])
  have lessE : ∀ y ∈ stepsOf R r, (((sumN N y.2 : Nat) : Int) = ((sumN N r : Nat) : Int) - 1) ↔ sumN N y.2 < sumN N r := fun y hy => by
    obtain ⟨n, tail, rs, q', rfl, hg, hq', rfl⟩ := stepsOf_mem hy
    have h1 := hN.le _ (getA_mem hg) q' hq'
    have h2 : sumN N (n :: tail) = N n + sumN N tail := by simp [sumN]
    have h3 := sumN_app N q'.2 tail
    simp only at h1 ⊢
    omega
  refine lc_gd (K := K) walk_list [] nD (by omega) (fun _ _ => True) trivial (fun _ _ _ _ _ _ => trivial) (fun i => encL ((stepsOf R r).getD i d0)) (fun i => decide (sumN N ((stepsOf R r).getD i d0).2 < sumN N r)) (fun i H3 _ _ s3 => SqL.of (Same_hid0 s3 _ _ hp2)) ?_ ?_
  · rintro i x H3 H3' ys kk kk' hi _ s3 hD ⟨rfl, hx⟩ k1' k2'
    obtain ⟨y, hy1, dy⟩ := dpAll_at dz2 hx
    have hym := List.mem_of_getElem? hy1
    have eg : (stepsOf R r).getD i d0 = y := getD_of hy1
    rw [eg] at k1' k2'
    obtain ⟨c1, c2, rfl, hc1, hc2⟩ := dp_L (sDp s3 _ _ dy)
    obtain ⟨b1, b2⟩ := bc.step hm hl hym
    have u3 := u2.trans (Same_hid0 s3)
    refine ⟨c1, _, rfl, sSeqT hid_same hc1, rfl, _, _, rfl, _, _, rfl, rfl, rfl, ?_⟩
    refine ⟨_, rfl, _, rfl, e, c2, ksz, F, N, y.2, rfl, rd_same he u3, ke.same u3, hid_same.seq hc2, by omega, fun n hn => ac n (b2 n hn), fun H4 s4 => ⟨_, rfl, _, _, rfl, rfl, rfl, _, rfl, ?_⟩⟩
    have hD4 := s4 _ _ hD
    have s34 : Same (hid [D] H3') (hid [D] H4) := sHid s4
    by_cases hc : sumN N y.2 < sumN N r
    · have hd : decide (V.int ((sumN N y.2 : Nat) : Int) = V.int (((sumN N r : Nat) : Int) - 1)) = true := decide_eq_true (by rw [(lessE y hym).mpr hc])
      rw [hd]
      refine iteT ⟨_, rfl, _, rfl, (by show 2 ≤ sizeLine; decide), fun t nt => ?_⟩
      have ntD : t ≠ D := fun z => by rw [z, hD4] at nt; cases nt
      have st := same_new (o := .tup [.str y.1, .ref c2]) nt
      refine k1' (decide_eq_true hc) _ _ (s34.trans (sHid st)) (st _ _ hD4) trivial ?_
      exact dpL_of (b := c2) (SqT.of (hid_get (by simpa using ntD) upd_same)) ((s34.trans (sHid st)).seq hc2)
    · have hd : decide (V.int ((sumN N y.2 : Nat) : Int) = V.int (((sumN N r : Nat) : Int) - 1)) = false := decide_eq_false (by intro z; injection z with z; exact hc ((lessE y hym).mp z))
      rw [hd]
      exact iteF (k2' (decide_eq_false hc) _ s34 hD4 trivial)
  · intro H3 ys _ s3 hD dp
    rw [hzl, range_filter (stepsOf R r) d0 (fun y => decide (sumN N y.2 < sumN N r)) encL] at dp
    exact q D ys H3 (u2.trans (Same_hid0 s3)) (Same.free u2 nD) hD dp
end
end K8
set_option maxRecDepth 100000
set_option maxHeartbeats 4000000
namespace K8
open PySem PySem.Spec PyProof.Rows L2
/-! ### the law's norms, turn by turn -/
def rowsF (F : List (Str × Nat)) (t : Str × List Rule) : List (List Str) := (t.2.filter fun q => allF F q.2).map (·.2)
theorem CorP.put' {R : Bk} {N : Str → Nat} {k i : Nat} {F : List (Str × Nat)} {t : Str × List Rule} {v : Nat} (c : CorP R N k i F) (ht : R[i]? = some t) (h : rk R N t.1 < k + 1 → v = N t.1) : CorP R N k (i + 1) (putA F t.1 v) :=
  (c.put h).next ht fun hk => by rw [getA_put, if_pos rfl, h hk]
theorem dn_none {R : Bk} {N : Str → Nat} {k i : Nat} {F : List (Str × Nat)} {t : Str × List Rule} (cl : ∀ t ∈ R, ∀ q ∈ t.2, ∀ n ∈ q.2, n ∈ R.map (·.1)) (hN : IsN R N) (c : CorP R N k i F) (ht : R[i]? = some t) (h : rowsF F t = []) : CorP R N k (i + 1) F := by
  refine c.next ht fun hk => ?_
  have tm := List.mem_of_getElem? ht
  obtain ⟨q, hq, e⟩ := hN.at' t tm
  obtain ⟨a, _⟩ := cor_row cl tm hq e hk c.1
  have : q.2 ∈ rowsF F t := List.mem_map.mpr ⟨q, List.mem_filter.mpr ⟨hq, a⟩, rfl⟩
  rw [h] at this
  cases this
theorem dn_some {R : Bk} {N : Str → Nat} {k i : Nat} {F : List (Str × Nat)} {t : Str × List Rule} {v : Nat} (cl : ∀ t ∈ R, ∀ q ∈ t.2, ∀ n ∈ q.2, n ∈ R.map (·.1)) (hN : IsN R N) (sup : Sup R N F) (c : CorP R N k i F) (ht : R[i]? = some t)
    (hv : ∃ r ∈ rowsF F t, v = 1 + sumN (valF F) r) (hle : ∀ r ∈ rowsF F t, v ≤ 1 + sumN (valF F) r) : Sup R N (putA F t.1 v) ∧ CorP R N k (i + 1) (putA F t.1 v) := by
  have tm := List.mem_of_getElem? ht
  have ge : N t.1 ≤ v := by
    obtain ⟨r, hr, rfl⟩ := hv
    obtain ⟨q, hq, rfl⟩ := List.mem_map.mp hr
    obtain ⟨h1, h2⟩ := List.mem_filter.mp hq
    have := hN.le t tm q h1
    have := sup_sum sup h2
    omega
  refine ⟨sup.put (List.mem_map.mpr ⟨t, tm, rfl⟩) ge, c.put' ht fun hk => ?_⟩
  obtain ⟨q, hq, e⟩ := hN.at' t tm
  obtain ⟨a, b⟩ := cor_row cl tm hq e hk c.1
  have := hle q.2 (List.mem_map.mpr ⟨q, List.mem_filter.mpr ⟨hq, a⟩, rfl⟩)
  omega
def spDNorms (K : PySem.W.Frag) : Sp := fun vs H Q _ => ∃ (d : Addr) (kvs : List (Key × V)) (R : Bk) (N : Str → Nat), vs = [.ref d] ∧ H d = some (.dK kvs) ∧ KvD K H encRs R kvs ∧ R.length ≤ 1000 ∧ (R.map (·.1)).Nodup ∧ BC R ∧ IsN R N ∧ (∀ t ∈ R, ∀ q ∈ t.2, rOk q) ∧
  ∀ p fk F H', Same H H' → H p = none → H' p = some (.dK fk) → KvD K H' encN F fk → AllCor R N F → Q (.ref p) H'
section
variable {P : Program} {w : World} {K : PySem.W.Frag} {mg : Str → Option Value} {base : Heap}
theorem sc_d_norms : FnScope ["_law_rules", "_law_found", "_law_turn", "_law_name", "_law_some", "_law_one", "_law_letter", "_law_row"] ["_law_rules"] (defScope s_d_norms) := ⟨rfl, rfl, rfl, by decide +kernel, rfl, by decide +kernel, by decide +kernel⟩
theorem ok_d_norms (T : Txt K mg) : FnOk P w K mg base CX0 1 T.d_norms.f T.d_norms.fd ["_law_rules"] (spDNorms K) := by
  refine T.d_norms.F.ok sc_d_norms (fun vs H Q E h => ?_) (fun cdv A outer s H vs Q E hr h => ?_)
  · obtain ⟨d, kvs, R, N, rfl, _⟩ := h
    rfl
  obtain ⟨d, kvs, R, N, rfl, hd, kd, hl, ndR, bc, hN, hro, q⟩ := h
  have nd := sc_d_norms.nd
  have hu := hu_of hr
  have hu64 := hr.units
  refine ⟨_, (pss_cons (ps_set (i := 1) nd rfl (Or.inr rfl) pe_dnewK)
    (pss_cons (ps_for PassesOwn.never rfl (pi_range1 rfl T.z_range (pa_cons (eLenD T.z_len (pv 0)) pa_nil)) (pg_name (i := 2) nd rfl (Or.inl rfl))
      (pss_one (ps_lock (ps_for PassesOwn.never rfl (pi_keys (pv 0)) (pg_name (i := 3) nd rfl (Or.inl rfl))
        (pss_cons (ps_setLc (i := 4) (own := [("_law_letter", 6), ("_law_row", 7)]) (g := gTup K 2 (gCons (gName 6) (gCons (gName 7) gNil))) rfl nd rfl rfl (sw_true rfl rfl rfl (by decide +kernel)) (iL K (pe_dget hu (pv 0) (pv 3) (fun _ _ => rfl))) (blkOk_by (N := ["_law_rules", "_law_found", "_law_turn", "_law_name", "_law_some", "_law_one", "_law_letter", "_law_row"]) (sc := defScope s_d_norms) (by decide +kernel)) (fun _ _ _ _ _ => (gTu (K := K) rfl (pgs_cons (pg_name (i := 6) nd rfl (Or.inl rfl)) (pgs_cons (pg_name (i := 7) nd rfl (Or.inl rfl)) pgs_nil)))) (fun _ _ _ _ _ => pts_one (pt_val (eAll K rfl T.z_all (pe_lc (own := [("_law_one", 5)]) (g := gName 5) (tt := tYes) rfl nd (iL K (pv 7)) (blkOk_by (N := ["_law_rules", "_law_found", "_law_turn", "_law_name", "_law_some", "_law_one", "_law_letter", "_law_row"]) (sc := { kind := .function, names := [(PySem.Str.ofString ".0", .local), (PySem.Str.ofString "_law_letter", .local), (PySem.Str.ofString "_law_row", .local), (PySem.Str.ofString "all", .globalImplicit), (PySem.Str.ofString "_law_found", .cell)], isGenerator := false, isCoroutine := false }) (by decide +kernel)) (fun _ _ _ _ _ => (pg_name (i := 5) nd rfl (Or.inl rfl))) (fun _ _ _ _ _ => pts_nil) (fun _ _ _ _ _ => (pe_cmp (pc_din hu (pv 5) (pv 1)) (by rfl))))))) (fun _ _ _ _ _ => (pv 7)))
        (pss_one (ps_if (pt_cmpR (oNeD K hu64) (pv 4) (pe_lst pa_nil) (nomark _))
          (pss_one (ps_dput hu (pv 1) (pv 3) (eMin K rfl T.z_min (pe_lc (own := [("_law_row", 7)]) (g := gName 7) (tt := tYes) rfl nd (iL K (pv 4)) (blkOk_by (N := ["_law_rules", "_law_found", "_law_turn", "_law_name", "_law_some", "_law_one", "_law_letter", "_law_row"]) (sc := defScope s_d_norms) (by decide +kernel)) (fun _ _ _ _ _ => (pg_name (i := 7) nd rfl (Or.inl rfl))) (fun _ _ _ _ _ => pts_nil) (fun _ _ _ _ _ => (pe_op op_add pe_int (eSum K rfl T.z_sum (pe_lc (own := [("_law_one", 5)]) (g := gName 5) (tt := tYes) rfl nd (iL K (pv 7)) (blkOk_by (N := ["_law_rules", "_law_found", "_law_turn", "_law_name", "_law_some", "_law_one", "_law_letter", "_law_row"]) (sc := { kind := .function, names := [(PySem.Str.ofString ".0", .local), (PySem.Str.ofString "_law_row", .local), (PySem.Str.ofString "sum", .globalImplicit), (PySem.Str.ofString "_law_found", .cell)], isGenerator := false, isCoroutine := false }) (by decide +kernel)) (fun _ _ _ _ _ => (pg_name (i := 5) nd rfl (Or.inl rfl))) (fun _ _ _ _ _ => pts_nil) (fun _ _ _ _ _ => (pe_dget hu (pv 1) (pv 5) (fun _ _ => rfl))))))))) rfl)) pss_nil)))))))
    (pss_one (ps_ret (pv 1))))), ?_⟩
  have cl := bc.cl
  have klen : kvs.length = R.length := kd.len
  intro p np
  have ndp : d ≠ p := ne_of_none hd np
  have s0 : Same (hid [] H) (hid [p] (upd H p (.dK []))) := hid_push np
  have hp0 : upd H p (.dK []) p = some (.dK []) := upd_same
  generalize upd H p (.dK []) = H0 at s0 hp0 ⊢
  refine ⟨_, rfl, d, kvs, rfl, Same_hid0 s0 _ _ hd, _, rfl, by omega, by omega, ?_⟩
  refine for_it walk_range (fun k σ H' => (∃ v2 v3 v4, σ = [some (.ref d), some (.ref p), v2, v3, v4, none, none, none]) ∧ Same (hid [] H) (hid [p] H') ∧ ∃ fk F, H' p = some (.dK fk) ∧ KvD K (hid [p] H') encN F fk ∧ Sup R N F ∧ Cor R N k F)
    ⟨⟨none, none, none, rfl⟩, s0, [], [], hp0, kvD_nil, sup_nil R N, Cor.zero⟩ (fun _ _ _ _ _ => trivial) ?_ ?_
  · rintro k x σ H1 H1' hk ⟨⟨v2, v3, v4, rfl⟩, s1, fk, F0, h1, k1, sup0, cor0⟩ ⟨rfl, rfl⟩
    have hd1 := Same_hid0 s1 _ _ hd
    refine ⟨d, _, hd1, trivial, fun od => ?_⟩
    obtain ⟨H2, e2⟩ : ∃ H2, H2 = upd H1' d (.frz od (.dK kvs)) := ⟨_, rfl⟩
    have hd2 : H2 d = some (.frz od (.dK kvs)) := by rw [e2]; exact upd_same
    have hp2 : H2 p = some (.dK fk) := by rw [e2, upd_ne ndp.symm]; exact h1
    have kd2 : KvD K (hid [p] H2) encRs R kvs := by
      have a2 : KvD K H2 encRs R kvs := by rw [e2]; exact kv_upd (noS_dK hd1) (kd.same (Same_hid0 s1))
      rw [← hid0 H2] at a2
      exact noS_kv (noS_dK hp2) a2
    have k2 : KvD K (hid [p] H2) encN F0 fk := Paired_mono (fun t kv z => ⟨z.1, by rw [dp_int z.2]; exact .int _⟩) k1
    rw [← e2]
    refine ⟨_, rfl, d, od, rfl, .inl ⟨kvs, hd2, ?_⟩⟩
    refine for_it walk_keys (fun j σ H' => (∃ v3 v4, σ = [some (.ref d), some (.ref p), some (.int (0 + (k : Nat))), v3, v4, none, none, none]) ∧ Same (hid [p] H2) (hid [p] H') ∧ ∃ fk F, H' p = some (.dK fk) ∧ KvD K (hid [p] H') encN F fk ∧ Sup R N F ∧ CorP R N k j F)
      ⟨⟨v3, v4, rfl⟩, Same.refl _, fk, F0, hp2, k2, sup0, CorP.zero cor0⟩ (fun j σ H' _ ⟨_, s3, _⟩ => (hid_of (s3 _ _ (hid_get (by simpa using ndp) hd2))).2) ?_ ?_
    · rintro j x σ H3 H3' hj ⟨⟨v3, v4, rfl⟩, s3, fk, F, h3, k3, sup, cp⟩ ⟨rfl, ky, vv, hkv, rfl⟩
      obtain ⟨t, ht, ek, dt⟩ := (kd2.same s3).get hkv
      subst ek
      have tm := List.mem_of_getElem? ht
      have hd3 := (hid_of (s3 _ _ (hid_get (by simpa using ndp) hd2))).2
      obtain ⟨v, e1, e3⟩ := (kd2.same s3).val (getA_of ndR tm)
      obtain ⟨b, xs, rfl, hb1, hb2⟩ := dp_list e3
      have hxl : xs.length = t.2.length := dpAll_len hb2
      have tl := bc.rl t tm
      refine ⟨_, rfl, _, rfl, d, _, rfl, .inl ⟨kvs, Sum.inr t.1, .inr ⟨od, hd3⟩, rfl, e1.symm⟩, ?_⟩
      refine ⟨b, rfl, ⟨xs, hid_same.seq hb1⟩, fun D nD => ?_⟩
      have npD : p ≠ D := ne_of_none h3 nD
      let d0 : Rule := (Str.empty, [])
      refine lc_gd (K := K) walk_list [p] nD (by omega) (fun _ H' => H' p = some (.dK fk)) (by rw [upd_ne npD]; exact h3) (fun _ H' o ys _ hp => by rw [upd_ne npD]; exact hp) (fun i => PyData.list ((t.2.getD i d0).2.map .str)) (fun i => allF F (t.2.getD i d0).2) (fun i H4 _ _ s4 => hid_same.seq (s4.seq hb1)) ?_ ?_
      · rintro m y H4 H4' ys kk kk' hm hp4 s4 hD ⟨rfl, hy⟩ k1' k2'
        obtain ⟨r, hr1, dr⟩ := dpAll_at hb2 hy
        have hrm := List.mem_of_getElem? hr1
        have eg : t.2.getD m d0 = r := getD_of hr1
        rw [eg] at k1' k2'
        obtain ⟨c1, c2, rfl, hc1, hc2⟩ := dp_L (sDp s4 _ _ dr)
        refine ⟨c1, _, rfl, sSeqT hid_same hc1, rfl, _, _, rfl, _, _, rfl, rfl, rfl, ?_⟩
        have hc2' : SqL K H4' c2 (r.2.map V.str) := hid_same.seq hc2
        refine ⟨_, rfl, c2, rfl, ⟨_, hc2'⟩, fun D2 nD2 => ?_⟩
        refine lc_p walk_list nD2 (by rw [List.length_map]; have := tl.2 r hrm; omega) (fun i _ y => y = .bl ((getA F (r.2.getD i Str.empty)).isSome)) (fun _ _ _ _ _ _ r => r) (fun _ => true) (fun H6 s6 => s6.seq hc2') ?_ ?_
        · rintro g z H6 H6' kk3 kk4 hg s6 ⟨rfl, hz⟩ k3' _
          obtain ⟨n, rfl, hn, hnm⟩ := strs_at hz
          refine ⟨rfl, tYesI ⟨_, rfl, _, rfl, p, _, rfl, .inl ⟨fk, Sum.inr n, .inl (s6 _ _ hp4), rfl, rfl⟩, k3' rfl _ _ (Same.refl _) ?_⟩⟩
          rw [getD_of hn, KvD.isSome k3]
        · intro H6 zs s6 hD2 pr
          rw [filter_true] at pr
          have e := Paired_map (f := fun i => V.bl ((getA F (r.2.getD i Str.empty)).isSome)) pr
          refine ⟨D2, (List.range (r.2.map V.str).length).map (fun i => (getA F (r.2.getD i Str.empty)).isSome), rfl, SqL.of (by rw [hD2, e, List.map_map]; rfl), _, rfl, ?_⟩
          rw [allF_eq]
          have s6' : Same (hid [D, p] H4') (hid [D, p] H6) := sHid s6
          cases ha : allF F r.2 with
          | false => exact iteF (k2' ha H6 s6' (s6 _ _ hD) (s6 _ _ hp4))
          | true => exact iteT ⟨_, rfl, k1' ha _ _ s6' (s6 _ _ hD) (s6 _ _ hp4) (.lst (s6'.seq hc2) (dp_strs _))⟩
      · intro H4 ys hp4 s4 hD dp
        rw [hxl, range_filter t.2 d0 (fun q => allF F q.2) (fun q => PyData.list (q.2.map .str))] at dp
        have eR : (t.2.filter fun q => allF F q.2).map (fun q => PyData.list (q.2.map .str)) = (rowsF F t).map fun r => PyData.list (r.map .str) := by unfold rowsF; rw [List.map_map]; rfl
        rw [eR] at dp
        have okR : ∀ r ∈ rowsF F t, ∀ n ∈ r, sOk n := fun r hr2 n hn => by
          obtain ⟨q', hq', rfl⟩ := List.mem_map.mp hr2
          exact (hro t tm q' (List.mem_filter.mp hq').1).2 n hn
        have s34 : Same (hid [p] H3') (hid [p] H4) := fun b o z => hid_tail _ _ (s4 _ _ z)
        have k4 := k3.same s34
        refine ⟨_, rfl, (by show 0 ≤ sizeLine; decide), fun z nz => ?_⟩
        have sz := same_new (o := .lst []) nz
        have hz : upd H4 z (.lst []) z = some (.lst []) := upd_same
        generalize upd H4 z (.lst []) = H5 at sz hz ⊢
        refine ⟨.list ((rowsF F t).map fun r => PyData.list (r.map .str)), .list [], .lst (SqL.of (sz _ _ hD)) (sDpAll sz _ _ (sDpAll hid_same _ _ dp)), .lst (SqL.of hz) .nil, enc_strs.all okR, shaped_list (by intro d h; cases h), _, rfl, ?_⟩
        rw [eqv_nil]
        have hp5 := sz _ _ hp4
        have s35 : Same (hid [p] H3') (hid [p] H5) := s34.trans (sHid sz)
        cases hrw : rowsF F t with
        | nil => exact iteF ⟨⟨_, _, rfl⟩, s3.trans s35, fk, F, hp5, k3.same s35, sup, dn_none cl hN cp ht hrw⟩
        | cons r0 rr =>
          refine iteT ?_
          have rl0 : (rowsF F t).length ≤ 1000 := by
            unfold rowsF
            rw [List.length_map]
            exact Nat.le_trans (List.length_filter_le _ _) tl.1
          have dp5 : DpAll K H5 ys ((rowsF F t).map fun r => PyData.list (r.map .str)) := sDpAll sz _ _ (sDpAll hid_same _ _ dp)
          have yl : ys.length = (rowsF F t).length := dpAll_len dp5
          refine ⟨_, rfl, D, rfl, ⟨ys, SqL.of (sz _ _ hD)⟩, fun D3 nD3 => ?_⟩
          refine lc_p walk_list nD3 (by omega) (fun i _ y => y = .int ((1 + sumN (valF F) ((rowsF F t).getD i []) : Nat) : Int)) (fun _ _ _ _ _ _ r => r) (fun _ => true) (fun H6 s6 => SqL.of (s6 _ _ (sz _ _ hD))) ?_ ?_
          · rintro m y H6 H6' kk kk' hm s6 ⟨rfl, hy⟩ k1' _
            obtain ⟨r, hr1, dr⟩ := dpAll_at dp5 hy
            have hrm := List.mem_of_getElem? hr1
            obtain ⟨c, ws, rfl, hc1, hc2⟩ := dp_list (sDp s6 _ _ dr)
            have ews := dp_strs_inv hc2
            subst ews
            obtain ⟨q', hq', er⟩ := List.mem_map.mp hrm
            obtain ⟨hq1, hq2⟩ := List.mem_filter.mp hq'
            have rlen : r.length ≤ 1000 := by rw [← er]; exact tl.2 q' hq1
            refine ⟨rfl, tYesI ⟨_, rfl, c, rfl, ⟨_, hc1⟩, fun D4 nD4 => ?_⟩⟩
            refine lc_p walk_list nD4 (by rw [List.length_map]; omega) (fun i _ y => y = .int ((valF F (r.getD i Str.empty) : Nat) : Int)) (fun _ _ _ _ _ _ r => r) (fun _ => true) (fun H7 s7 => s7.seq hc1) ?_ ?_
            · rintro g z H7 H7' kk3 kk4 hg s7 ⟨rfl, hz⟩ k3' _
              obtain ⟨n, rfl, hn, hnm⟩ := strs_at hz
              have hsome : (getA F n).isSome = true := by
                rw [← er] at hnm
                exact List.all_eq_true.mp hq2 n hnm
              cases hg : getA F n with
              | none => rw [hg] at hsome; cases hsome
              | some v =>
                obtain ⟨vv, e5, e6⟩ := k3.val hg
                have e7 := dp_int e6
                subst e7
                refine ⟨rfl, tYesI ⟨_, rfl, _, rfl, p, _, rfl, .inl ⟨fk, Sum.inr n, .inl (s7 _ _ (s6 _ _ hp5)), rfl, e5.symm⟩, k3' rfl _ _ (Same.refl _) ?_⟩⟩
                rw [getD_of hn]
                unfold valF
                rw [hg]
                rfl
            · intro H7 zs s7 hD4 pr2
              rw [filter_true] at pr2
              have e5 := Paired_map (f := fun i => V.int ((valF F (r.getD i Str.empty) : Nat) : Int)) pr2
              refine ⟨D4, (List.range (r.map V.str).length).map (fun i => ((valF F (r.getD i Str.empty) : Nat) : Int)), rfl, SqL.of (by rw [hD4, e5, List.map_map]; rfl), 1, _, rfl, rfl, ?_⟩
              rw [sumF_eq]
              refine k1' rfl _ _ s7 ?_
              rw [getD_of hr1]
              exact congrArg V.int (by omega)
          · intro H6 zs s6 hD3 pr
            rw [filter_true, yl] at pr
            have e5 := Paired_map (f := fun i => V.int ((1 + sumN (valF F) ((rowsF F t).getD i []) : Nat) : Int)) pr
            rw [range_getD (rowsF F t) [] fun r => V.int ((1 + sumN (valF F) r : Nat) : Int)] at e5
            refine ⟨D3, (rowsF F t).map (fun r => ((1 + sumN (valF F) r : Nat) : Int)), rfl, SqL.of (by rw [hD3, e5, List.map_map]; rfl), by rw [List.length_map, hrw]; exact Nat.succ_pos _, fun m hm hle => ?_⟩
            obtain ⟨rm, hrm, em⟩ := List.mem_map.mp hm
            obtain ⟨sup', cp'⟩ := dn_some (v := 1 + sumN (valF F) rm) cl hN sup cp ht ⟨rm, hrm, rfl⟩ (fun r hr2 => by
              have := hle _ (List.mem_map.mpr ⟨r, hr2, rfl⟩)
              rw [← em] at this
              omega)
            have hp6 := s6 _ _ hp5
            have s36 : Same (hid [p] H3') (hid [p] H6) := s35.trans (sHid s6)
            have fl : fk.length < sizeLine := by
              rw [k3.len]
              exact Nat.lt_of_le_of_lt (Nat.le_trans sup.len hl) (by decide)
            refine ⟨_, rfl, _, rfl, p, _, rfl, .inl ⟨fk, Sum.inr t.1, hp6, rfl, fl, rfl⟩, ?_⟩
            have g0 : ∀ o, hid [p] (upd H6 p o) = hid [p] H6 := fun o => hid_in List.mem_cons_self
            refine ⟨⟨_, _, rfl⟩, by rw [g0]; exact s3.trans s36, _, _, upd_same, ?_, sup', cp'⟩
            rw [g0]
            exact KvD.put (k3.same s36) (by rw [← em]; exact .int _)
    · rintro σ H3 ⟨⟨v3, v4, rfl⟩, s3, fk', F, h3, k3, sup, cp⟩
      rw [klen] at cp
      refine ⟨(hid_of (s3 _ _ (hid_get (by simpa using ndp) hd2))).2, ⟨_, _, _, rfl⟩, ?_, fk', F, by rw [upd_ne ndp.symm]; exact h3, Paired_mono (fun t kv z => ⟨z.1, by rw [dp_int z.2]; exact .int _⟩) k3, sup, cp.done⟩
      exact s1.trans (hid_unlock hd1 (by rw [← e2]; exact s3))
  · rintro σ H1 ⟨⟨v2, v3, v4, rfl⟩, s1, fk, F, h1, k1, sup, cor⟩
    refine ⟨_, rfl, q p fk F H1 (Same_hid0 s1) np h1 (k1.same hid_same) ?_⟩
    have : (kvs.length : Int).toNat = R.length := by omega
    rw [this] at cor
    exact Cor.all cor
end
end K8
set_option maxRecDepth 100000
set_option maxHeartbeats 4000000
namespace K8
open PySem PySem.Spec PyProof.Rows L2
def names12 : List Str := ["r", "s", "t", "u", "v", "w", "x", "y", "z", "rs", "talks8bc", "b"]
theorem names12_nd : names12.Nodup := by decide +kernel
theorem names12_ok : ∀ n ∈ names12, nameB n = true ∧ n ≠ "late" := by decide +kernel
def unS : V → Str | .str x => x | _ => Str.empty
theorem strs_perm {ys : List V} {ns : List Str} (h : ys.Perm (ns.map V.str)) : ∃ ms : List Str, ys = ms.map V.str ∧ ms.Perm ns := by
  have e1 : (ys.map unS).Perm ns := by
    have := h.map unS
    rw [List.map_map] at this
    have e : ns.map (unS ∘ V.str) = ns := by
      have : (unS ∘ V.str) = id := rfl
      rw [this, List.map_id]
    rwa [e] at this
  refine ⟨ys.map unS, ?_, e1⟩
  rw [List.map_map]
  have : ∀ y ∈ ys, (V.str ∘ unS) y = y := fun y hy => by
    obtain ⟨n, _, rfl⟩ := List.mem_map.mp (h.mem_iff.mp hy)
    rfl
  rw [List.map_congr_left this, List.map_id']
theorem paired_some {α : Type} {P : Nat → α → Prop} {E : V → α → Prop} : ∀ {l : List Nat} {ys : List V}, Paired (fun i y => ∃ t, P i t ∧ E y t) l ys → ∃ ts, Paired P l ts ∧ Paired E ys ts
  | _, _, .nil => ⟨[], .nil, .nil⟩
  | _, _, .cons ⟨t, a, b⟩ p => let ⟨ts, h1, h2⟩ := paired_some p; ⟨t :: ts, .cons a h1, .cons b h2⟩
theorem paired_strs : ∀ {ys : List V} {ns : List Str}, Paired (fun y n => y = V.str n) ys ns → ys = ns.map V.str
  | _, _, .nil => rfl
  | _, _, .cons e t => by rw [e, paired_strs t]; rfl
theorem paired_len {α β : Type} {P : α → β → Prop} {l : List α} {m : List β} (h : Paired P l m) : m.length = l.length := (Paired.length h).symm
theorem paired_all {α β : Type} {P : α → β → Prop} {S : β → Prop} (f : ∀ a b, P a b → S b) : ∀ {l : List α} {m : List β}, Paired P l m → ∀ b ∈ m, S b
  | _, _, .nil => fun _ z => by cases z
  | _, _, .cons q t => fun b hb => by
    rcases List.mem_cons.mp hb with e | hb
    · exact e ▸ f _ _ q
    · exact paired_all f t b hb
theorem cut_take (xs : List V) (m : Nat) : cutV xs none (some (m : Int)) = xs.take m := by
  unfold cutV
  rw [HT.sIx_none, HT.sIx_nat]
  simp only [List.drop_zero, Nat.sub_zero]
  rcases Nat.le_total m xs.length with h | h
  · rw [Nat.min_eq_left h]
  · rw [Nat.min_eq_right h, List.take_length, List.take_of_length_le h]
def spStart (K : PySem.W.Frag) : Sp := fun vs H Q _ => ∃ (a : Addr) (ns : List Int), vs = [.ref a] ∧ SqL K H a (ns.map .int) ∧ ns.length ≤ 1000 ∧ ∀ S S0 H', Same H H' → Stm S S0 0 H' → H S = none → H S0 = none → Q (.ref S) H'
def spDNames : Sp := fun vs H Q _ => ∃ (S S0 : Addr) (c m : Nat), vs = [.ref S, .int m] ∧ Stm S S0 c H ∧ c + 12 ≤ LIM ∧
  ∀ (p : Addr) (ns : List Str) (H' : Hp), ns.Nodup → (∀ n ∈ ns, n ∈ names12) → ns.length = min m 12 → H p = none → H' p = some (.lst (ns.map .str)) → Stm S S0 (c + 12) H' → Same (hid [S, S0] H) (hid [S, S0] H') → Q (.ref p) H'
def spDRow (K : PySem.W.Frag) : Sp := fun vs H Q _ => ∃ (S S0 d : Addr) (c m : Nat) (kvs : List (Key × V)) (nms : List Str), vs = [.ref S, .ref d, .int m] ∧ Stm S S0 c H ∧ c + m + 1 ≤ LIM ∧ m ≤ 1000 ∧ H d = some (.dK kvs) ∧ kvs.map (·.1) = nms.map Sum.inr ∧ nms ≠ [] ∧ nms.length ≤ 1000 ∧ (∀ n ∈ nms, sOk n) ∧
  ∀ (p : Addr) (ns : List Str) (H' : Hp), ns.length ≤ m → (∀ n ∈ ns, n ∈ nms) → H p = none → H' p = some (.lst (ns.map .str)) → Stm S S0 (c + m + 1) H' → Same (hid [S, S0] H) (hid [S, S0] H') → Q (.ref p) H'
section
variable {P : Program} {w : World} {K : PySem.W.Frag} {mg : Str → Option Value} {base : Heap}
theorem sc_start : FnScope ["_law_script"] ["_law_script"] (defScope s_start) := ⟨rfl, rfl, rfl, by decide +kernel, rfl, by decide +kernel, by decide +kernel⟩
theorem ok_start (T : Txt K mg) : FnOk P w K mg base CX0 1 T.start.f T.start.fd ["_law_script"] (spStart K) := by
  refine T.start.F.ok sc_start (fun vs H Q E h => ?_) (fun cdv A outer s H vs Q E hr h => ?_)
  · obtain ⟨a, ns, rfl, _⟩ := h
    rfl
  obtain ⟨a, ns, rfl, ha, hl, q⟩ := h
  have nd := sc_start.nd
  refine ⟨_, (pss_one (ps_ret (pe_lst (pa_cons (eListS K T.z_list (pv 0)) (pa_cons pe_int (pa_cons pe_int (pa_cons pe_int pa_nil))))))), ?_⟩
  refine ⟨_, rfl, a, _, rfl, .inl ha, fun l nl => ⟨(by show 4 ≤ sizeLine; decide), fun p np => ?_⟩⟩
  have s1 := same_new (o := .lst (ns.map V.int)) nl
  have lp : l ≠ p := ne_of_none upd_same np
  refine q p l _ (s1.trans (same_new np)) ⟨lp.symm, ns, 0, 0, 11, upd_same, by rw [upd_ne lp, upd_same], Int.le_refl _, Int.le_refl _, Int.le_refl _, by decide, by decide, hl⟩ (Same.free s1 np) nl
theorem sc_d_names : FnScope ["_law_stream", "_law_many"] ["_law_stream", "_law_many"] (defScope s_d_names) := ⟨rfl, rfl, rfl, by decide +kernel, rfl, by decide +kernel, by decide +kernel⟩
theorem ok_d_names (T : Txt K mg) : FnOk P w K mg base CX0 3 T.d_names.f T.d_names.fd ["_law_stream", "_law_many"] spDNames := by
  have G_mixed : FnOk P w K mg base CX0 2 T.mixed.f T.mixed.fd _ (spMixed K) := ok_mixed T
  refine T.d_names.F.ok sc_d_names (fun vs H Q E h => ?_) (fun cdv A outer s H vs Q E hr h => ?_)
  · obtain ⟨S, S0, c, m, rfl, _⟩ := h
    rfl
  obtain ⟨S, S0, c, m, rfl, st, hc, q⟩ := h
  have nd := sc_d_names.nd
  refine ⟨_, (pss_one (ps_ret (pe_slice (slL K) (eC T.mixed G_mixed hr (pa_cons (pv 0) (pa_cons (pe_lst (pa_cons pe_str (pa_cons pe_str (pa_cons pe_str (pa_cons pe_str (pa_cons pe_str (pa_cons pe_str (pa_cons pe_str (pa_cons pe_str (pa_cons pe_str (pa_cons pe_str (pa_cons pe_str (pa_cons pe_str pa_nil))))))))))))) pa_nil))) po_none (po_some (pv 1))))), ?_⟩
  refine ⟨_, rfl, (by show 12 ≤ sizeLine; decide), fun l nl => ?_⟩
  have sl := st.S_ne nl
  refine ⟨S, S0, c, l, names12.map V.str, rfl, st.new nl, by rw [List.length_map]; exact hc, SqL.of (hid_get (by simp; exact sl) upd_same), by rw [List.length_map]; decide, fun p ys H1 pm np hp st1 sm => ?_⟩
  obtain ⟨ms, rfl, pm2⟩ := strs_perm pm
  have hl0 : Same (hid [S, S0] H) (hid [S, S0] H1) := (hid_new nl).trans sm
  have np0 : H p = none := Same.free (same_new nl) np
  refine ⟨_, rfl, (m : Int), rfl, p, _, rfl, SqL.of hp, fun r nr => ?_⟩
  rw [cut_take]
  have sr := st1.S_ne nr
  have nr0 : H r = none := by
    cases e : H r with
    | none => rfl
    | some o =>
      have := hl0 r o (hid_get (by simp; exact sr) e)
      rw [hid_none nr] at this
      cases this
  refine q r (ms.take m) _ ((pm2.nodup_iff.mpr names12_nd).sublist (List.take_sublist _ _)) (fun n hn => pm2.mem_iff.mp (List.mem_of_mem_take hn)) ?_ nr0 (by rw [upd_same, List.map_take]) (by rw [show c + 12 = c + (names12.map V.str).length from rfl]; exact st1.new nr) (hl0.trans (hid_new nr))
  rw [List.length_take, pm2.length_eq]
  rfl
theorem sc_d_row : FnScope ["_law_stream", "_law_rules", "_law_most", "_law_names", "_law_k"] ["_law_stream", "_law_rules", "_law_most"] (defScope s_d_row) := ⟨rfl, rfl, rfl, by decide +kernel, rfl, by decide +kernel, by decide +kernel⟩
theorem ok_d_row (T : Txt K mg) : FnOk P w K mg base CX0 3 T.d_row.f T.d_row.fd ["_law_stream", "_law_rules", "_law_most"] (spDRow K) := by
  have G_draw : FnOk P w K mg base CX0 2 T.draw.f T.draw.fd _ spDraw := (ok_draw T).mono (by decide)
  have G_pick : FnOk P w K mg base CX0 2 T.pick.f T.pick.fd _ (spPick K) := ok_pick T
  refine T.d_row.F.ok sc_d_row (fun vs H Q E h => ?_) (fun cdv A outer s H vs Q E hr h => ?_)
  · obtain ⟨S, S0, d, c, m, kvs, nms, rfl, _⟩ := h
    rfl
  obtain ⟨S, S0, d, c, m, kvs, nms, rfl, st, hc, hm, hd, hk, hne, hnl, hso, q⟩ := h
  have nd := sc_d_row.nd
  have hu64 := hr.units
  refine ⟨_, (pss_cons (ps_set (i := 3) nd rfl (Or.inr rfl) (eListK rfl T.z_list (pv 1)))
    (pss_one (ps_ret (pe_lc (own := [("_law_k", 4)]) (g := gName 4) (tt := tYes) rfl nd (pi_range1 rfl T.z_range (pa_cons (pe_ifExp (pt_cmpR (oNeD K hu64) (pv 3) (pe_lst pa_nil) (nomark _)) (eC T.draw G_draw hr (pa_cons (pv 0) (pa_cons (pe_op op_add (pv 2) pe_int) pa_nil))) pe_int) pa_nil)) (blkOk_by (N := ["_law_stream", "_law_rules", "_law_most", "_law_names", "_law_k"]) (sc := defScope s_d_row) (by decide +kernel)) (fun _ _ _ _ _ => (pg_name (i := 4) nd rfl (Or.inl rfl))) (fun _ _ _ _ _ => pts_nil) (fun _ _ _ _ _ => (eC T.pick G_pick hr (pa_cons (pv 0) (pa_cons (pv 3) pa_nil)))))))), ?_⟩
  refine ⟨_, rfl, d, kvs, rfl, hd, fun l nl => ?_⟩
  have ek : kvs.map (fun kv => kV kv.1) = nms.map V.str := by
    have := congrArg (List.map kV) hk
    rw [List.map_map, List.map_map] at this
    exact this
  rw [ek]
  have sl := st.S_ne nl
  have s1 := hid_new (M := [S, S0]) (o := .lst (nms.map V.str)) nl
  have st1 : Stm S S0 c (upd H l (.lst (nms.map V.str))) := st.new nl
  have hl1 : upd H l (.lst (nms.map V.str)) l = some (.lst (nms.map V.str)) := upd_same
  have fr1 := same_new (o := .lst (nms.map V.str)) nl
  generalize upd H l (.lst (nms.map V.str)) = H1 at s1 st1 hl1 fr1 ⊢
  refine ⟨_, rfl, (by show 0 ≤ sizeLine; decide), fun z nz => ?_⟩
  have s2 := hid_new (M := [S, S0]) (o := .lst []) nz
  have st2 : Stm S S0 c (upd H1 z (.lst [])) := st1.new nz
  have hl2 := same_new (o := .lst []) nz _ _ hl1
  have fr2 := fr1.trans (same_new (o := .lst []) nz)
  have hz : upd H1 z (.lst []) z = some (.lst []) := upd_same
  generalize upd H1 z (.lst []) = H2 at s2 st2 hl2 fr2 hz ⊢
  refine ⟨.list (nms.map .str), .list [], .lst (SqL.of hl2) (dp_strs _), .lst (SqL.of hz) .nil, enc_str.all hso, shaped_list (by intro d h; cases h), _, rfl, ?_⟩
  rw [eqv_nil]
  have hemp : nms.isEmpty = false := by cases nms with | nil => exact absurd rfl hne | cons _ _ => rfl
  rw [hemp]
  refine iteT ?_
  refine ⟨_, rfl, _, rfl, _, _, rfl, rfl, ?_⟩
  refine ⟨S, S0, c, (m : Int) + 1, rfl, st2, by omega, by omega, by omega, fun r H3 r0 r1 st3 sm3 => ?_⟩
  refine ⟨r, rfl, by omega, by omega, fun D nD => ?_⟩
  have sD := st3.S_ne nD
  have hl3 : hid [S, S0] H3 l = some (.lst (nms.map V.str)) := sm3 l _ (hid_get (by simp; exact sl) hl2)
  have f3 : Same (hid [S, S0] H) (hid [S, S0] H3) := (s1.trans s2).trans sm3
  obtain ⟨kk, ekk⟩ : ∃ kk : Nat, r.toNat = kk := ⟨_, rfl⟩
  rw [ekk]
  refine lc_g walk_range [S, S0] nD (by omega) (fun i H' => Stm S S0 (c + 1 + i) H') (st3.new nD) (fun i H' o ys hD h => h.put sD.1 sD.2) (fun i _ y => ∃ n, n ∈ nms ∧ y = V.str n) (fun _ _ _ _ _ _ r => r) (fun _ => true) (fun _ _ _ _ _ => trivial) ?_ ?_
  · rintro i x H4 H4' ys k1 k2 hi st4 sm4 hD4 ⟨rfl, rfl⟩ k1' _
    have hl4 := sm4 l _ hl3
    refine ⟨rfl, tYesI ⟨_, rfl, _, rfl, S, S0, c + 1 + i, l, nms.map V.str, rfl, st4, by omega, SqL.of (hid_tail _ _ hl4), by rw [List.length_map]; exact List.length_pos_iff.mpr hne, by rw [List.length_map]; omega, fun v H5 hv st5 sm5 => ?_⟩⟩
    obtain ⟨n, hn, rfl⟩ := List.mem_map.mp hv
    have hD5 : H5 D = some (.lst ys) := (hid_of (sm5 D _ (hid_get (by simp; exact sD) hD4))).2
    exact k1' rfl _ H5 (hid_more sm5 (by simp)) hD5 (by rw [show c + 1 + (i + 1) = c + 1 + i + 1 by omega]; exact st5) ⟨n, hn, rfl⟩
  · intro H4 ys st4 sm4 hD4 pr
    obtain ⟨ns, p1, p2⟩ := paired_some (P := fun _ n => n ∈ nms) (E := fun y n => y = V.str n) pr
    have e := paired_strs p2
    have ln := paired_len p1
    rw [filter_range, List.length_range] at ln
    have nD0 : H D = none := by
      cases e : H D with
      | none => rfl
      | some o =>
        have := f3 D o (hid_get (by simp; exact sD) e)
        rw [hid_none nD] at this
        cases this
    refine q D ns H4 (by omega) (paired_all (S := fun n => n ∈ nms) (fun _ _ h => h) p1) nD0 (by rw [hD4, e]) (st4.mono (by omega)) (f3.trans fun b o z => hid_tail _ _ (sm4 _ _ z))
end
end K8
set_option maxRecDepth 100000
set_option maxHeartbeats 4000000
namespace K8
open PySem PySem.Spec PyProof.Rows L2
mutual
/-- how many parts a datum has, itself one -/
def dsz : PyData → Nat
  | .list ds => 1 + dszAll ds
  | .tuple ds => 1 + dszAll ds
  | _ => 1
def dszAll : List PyData → Nat
  | [] => 0
  | d :: ds => dsz d + dszAll ds
end
mutual
/-- texts, lists, tuples, none very long -/
def lpB : PyData → Bool
  | .str _ => true
  | .list ds => decide (ds.length ≤ 1000) && lpAll ds
  | .tuple ds => decide (ds.length ≤ 1000) && lpAll ds
  | _ => false
def lpAll : List PyData → Bool
  | [] => true
  | d :: ds => lpB d && lpAll ds
end
theorem dszAll_snoc (ds : List PyData) (d : PyData) : dszAll (ds ++ [d]) = dszAll ds + dsz d := by
  induction ds with
  | nil => simp [dszAll]
  | cons x ds ih => simp [dszAll, ih]; omega
theorem lpAll_mem {ds : List PyData} (h : lpAll ds = true) : ∀ d ∈ ds, lpB d = true := by
  induction ds with
  | nil => intro d hd; cases hd
  | cons x ds ih =>
    rw [lpAll, Bool.and_eq_true] at h
    intro d hd
    rcases List.mem_cons.mp hd with e | hd
    · rw [e]; exact h.1
    · exact ih h.2 d hd
theorem depthAll_mem {ds : List PyData} : ∀ d ∈ ds, d.depth ≤ PyData.depthAll ds := by
  induction ds with
  | nil => intro d hd; cases hd
  | cons x ds ih =>
    intro d hd
    rw [PyData.depthAll]
    rcases List.mem_cons.mp hd with e | hd
    · rw [e]; exact Nat.le_max_left _ _
    · exact Nat.le_trans (ih d hd) (Nat.le_max_right _ _)
theorem dszAll_mono (ds : List PyData) (i : Nat) : dszAll (ds.take i) ≤ dszAll ds := by
  induction ds generalizing i with
  | nil => simp
  | cons x ds ih =>
    cases i with
    | zero => simp [dszAll]
    | succ i => simp only [List.take_succ_cons, dszAll]; have := ih i; omega
theorem paired_lo {K : PySem.W.Frag} {H : Hp} {f : Nat → PyData} : ∀ {l : List Nat} {ys : List V}, Paired (fun i y => Lo K H y (f i)) l ys → LoAll K H ys (l.map f)
  | _, _, .nil => .nil
  | _, _, .cons q t => .cons q (paired_lo t)
def spLoose (K : PySem.W.Frag) (n : Nat) : Sp := fun vs H Q _ => ∃ (S S0 : Addr) (M : List Addr) (c : Nat) (v : V) (d : PyData), vs = [.ref S, v] ∧ Stm S S0 c H ∧ (∀ m ∈ M, H m ≠ none) ∧ Dp K (hid (M ++ [S, S0]) H) v d ∧ d.depth < n ∧ lpB d = true ∧ c + dsz d ≤ LIM ∧
  ∀ v' H', Lo K (hid (M ++ [S, S0]) H') v' d → Stm S S0 (c + dsz d) H' → Same (hid [S, S0] H) (hid [S, S0] H') → Q v' H'
section
variable {P : Program} {w : World} {K : PySem.W.Frag} {mg : Str → Option Value} {base : Heap}
theorem sc_loose : FnScope ["_law_stream", "_law_thing", "_law_found", "_law_part"] ["_law_stream", "_law_thing"] (defScope s_loose) := ⟨rfl, rfl, rfl, by decide +kernel, rfl, by decide +kernel, by decide +kernel⟩
theorem ok_loose (T : Txt K mg) : ∀ n, FnOk P w K mg base CX0 (n + 2) T.loose.f T.loose.fd ["_law_stream", "_law_thing"] (spLoose K n)
  | 0 => ⟨fun vs H Q E ⟨S, S0, M, c, v, d, e, _⟩ => by rw [e]; rfl, fun A outer s H args us vs Q E _ _ _ _ ⟨S, S0, M, c, v, d, _, _, _, _, h, _⟩ => absurd h (Nat.not_lt_zero _)⟩
  | n + 1 => by
    have G_loose : FnOk P w K mg base CX0 (n + 2) T.loose.f T.loose.fd _ (spLoose K n) := ok_loose T n
    have G_draw : FnOk P w K mg base CX0 (n + 2) T.draw.f T.draw.fd _ spDraw := (ok_draw T).mono (by omega)
    refine T.loose.F.ok sc_loose (fun vs H Q E h => ?_) (fun cdv A outer s H vs Q E hr h => ?_)
    · obtain ⟨S, S0, M, c, v, d, rfl, _⟩ := h
      rfl
    obtain ⟨S, S0, M, c, v, d, rfl, st, hM, hv, hdep, hlp, hc, q⟩ := h
    have nd := sc_loose.nd
    refine ⟨_, (pss_cons (ps_if (pt_not (pt_val (eIsiT K T.z_isinstance (pv 1) (pa_cons (eTy T.z_list PyProof.Rows.boot_list) (pa_cons (eTy T.z_tuple PyProof.Rows.boot_tuple) pa_nil)))))
      (pss_one (ps_ret (pv 1))) pss_nil)
    (pss_cons (ps_setLc (i := 2) (own := [("_law_part", 3)]) (g := gName 3) (tt := tYes) rfl nd rfl rfl (sw_true rfl rfl rfl (by decide +kernel)) (iQ K (pv 1)) (blkOk_by (N := ["_law_stream", "_law_thing", "_law_found", "_law_part"]) (sc := defScope s_loose) (by decide +kernel)) (fun _ _ _ _ _ => (pg_name (i := 3) nd rfl (Or.inl rfl))) (fun _ _ _ _ _ => pts_nil) (fun _ _ _ _ _ => (eC T.loose G_loose hr (pa_cons (pv 0) (pa_cons (pv 3) pa_nil)))))
    (pss_one (ps_ret (pe_ifExp (pt_cmpR op_eq (eC T.draw G_draw hr (pa_cons (pv 0) (pa_cons pe_int pa_nil))) pe_int (nomark _)) (pv 2) (eTupS K T.z_tuple (pv 2))))))), ?_⟩
    have MS : ∀ (X : Hp), Same (hid (M ++ [S, S0]) X) (hid [S, S0] X) := fun X => hid_sub fun a ha => List.mem_append_right _ ha
    have cases : (∃ z, v = .str z ∧ d = .str z) ∨ ∃ a xs ds kd, v = V.ref a ∧ SqA K (hid (M ++ [S, S0]) H) a xs ∧ DpAll K (hid (M ++ [S, S0]) H) xs ds ∧ PyData.depthAll ds < n ∧ ds.length ≤ 1000 ∧ lpAll ds = true ∧ dsz d = 1 + dszAll ds ∧
        (∀ X a' ys, SqA K X a' ys → LoAll K X ys ds → Lo K X (.ref a') d) ∧ kd ∈ kinds ∧ (kd == "list" || kd == "tuple") = true ∧ TyX K H v (.type kd) := by
      cases hv with
      | str z => exact .inl ⟨z, rfl, rfl⟩
      | non => simp [lpB] at hlp
      | bl _ => simp [lpB] at hlp
      | int _ => simp [lpB] at hlp
      | @lst a xs ds h1 h2 =>
        simp only [lpB, Bool.and_eq_true, decide_eq_true_eq] at hlp
        simp only [PyData.depth] at hdep
        obtain ⟨kd, k1, k2, k3⟩ := sqA_ty (.inl h1)
        exact .inr ⟨a, xs, ds, kd, rfl, .inl h1, h2, by omega, hlp.1, hlp.2, by simp [dsz], fun X a' ys b1 b2 => .lst b1 b2, k1, k2, sTyX hid_same k3⟩
      | @tup a xs ds h1 h2 =>
        simp only [lpB, Bool.and_eq_true, decide_eq_true_eq] at hlp
        simp only [PyData.depth] at hdep
        obtain ⟨kd, k1, k2, k3⟩ := sqA_ty (.inr h1)
        exact .inr ⟨a, xs, ds, kd, rfl, .inr h1, h2, by omega, hlp.1, hlp.2, by simp [dsz], fun X a' ys b1 b2 => .tup b1 b2, k1, k2, sTyX hid_same k3⟩
    rcases cases with ⟨z, rfl, rfl⟩ | ⟨a, xs, ds, kd, rfl, ha, hall, hdp, hln, hla, hsz, wrap, hk1, hk2, ty⟩
    · refine ⟨_, rfl, (by show 2 ≤ sizeLine; decide), fun p np => ?_⟩
      refine ⟨.str z, p, [.ty "list", .ty "tuple"], .type "str", [.type "list", .type "tuple"], _, rfl, upd_same, .cons (.ty _) (.cons (.ty _) .nil), .base (.str z), kit_seq (n := "str") (by decide), _, rfl, ?_⟩
      refine iteT ⟨_, rfl, q (.str z) _ (.str z) ((st.new np).mono (by omega)) (hid_new np)⟩
    · refine ⟨_, rfl, (by show 2 ≤ sizeLine; decide), fun p np => ?_⟩
      have sp := same_new (o := .tup [.ty "list", .ty "tuple"]) np
      have st1 : Stm S S0 c (upd H p (.tup [.ty "list", .ty "tuple"])) := st.new np
      have hp1 : upd H p (.tup [.ty "list", .ty "tuple"]) p = some (.tup [.ty "list", .ty "tuple"]) := upd_same
      generalize upd H p (.tup [.ty "list", .ty "tuple"]) = H1 at sp st1 hp1 ⊢
      refine ⟨.ref a, p, [.ty "list", .ty "tuple"], .type kd, [.type "list", .type "tuple"], _, rfl, hp1, .cons (.ty _) (.cons (.ty _) .nil), sTyX sp ty, kit_seq hk1, _, rfl, ?_⟩
      rw [hk2]
      refine iteF ?_
      have ha1 := ha.same (sHid (M := M ++ [S, S0]) sp)
      have hall1 := sDpAll (sHid (M := M ++ [S, S0]) sp) _ _ hall
      have hM1 : ∀ m ∈ M, H1 m ≠ none := fun m hm e => by
        cases h : H m with
        | none => exact hM m hm h
        | some o => rw [sp _ _ h] at e; cases e
      have hxl : xs.length = ds.length := DpAll.len hall
      refine ⟨_, rfl, iSq_ofM (M ++ [S, S0]) ha1 fun J Gd wk hG D nD => ?_⟩
      have sD := st1.S_ne nD
      have nDM : D ∉ M ++ [S, S0] := fun h => by
        rcases List.mem_append.mp h with h | h
        · exact hM1 D h nD
        · simp at h
          exact h.elim sD.1 sD.2
      have sub2 : ∀ X : Hp, Same (hid (D :: (M ++ [S, S0])) X) (hid (M ++ [S, S0]) X) := fun X => hid_tail
      refine lc_g wk (M ++ [S, S0]) nD (by omega) (fun i H' => Stm S S0 (c + dszAll (ds.take i)) H' ∧ Same (hid [S, S0] H1) (hid (D :: [S, S0]) H'))
        ⟨by simpa [dszAll] using st1.new nD, hid_push nD⟩ (fun i H' o ys hD h => ⟨h.1.put sD.1 sD.2, by rw [hid_in List.mem_cons_self]; exact h.2⟩)
        (fun i H' y => Lo K (hid (D :: (M ++ [S, S0])) H') y (ds.getD i .none)) (fun i H H' y _ s r => sLo s _ _ r) (fun _ => true) (fun i H' _ _ s => hG H' (s.trans hid_tail)) ?_ ?_
      · rintro i x H2 H2' ys k1 k2 hi ⟨st2, f2⟩ s2 hD ⟨rfl, hx⟩ k1' _
        obtain ⟨e, he, de⟩ := DpAll.get hall1 hx
        have em := List.mem_of_getElem? he
        have de2 := sDp s2 _ _ de
        have etk : ds.take (i + 1) = ds.take i ++ [e] := by rw [List.take_succ, he]; rfl
        have eds : dszAll (ds.take (i + 1)) = dszAll (ds.take i) + dsz e := by rw [etk, dszAll_snoc]
        have dm := dszAll_mono ds (i + 1)
        refine ⟨rfl, tYesI ⟨_, rfl, _, rfl, S, S0, D :: M, c + dszAll (ds.take i), x, e, rfl, st2, fun m hm => ?_, de2, Nat.lt_of_le_of_lt (depthAll_mem e em) hdp, lpAll_mem hla e em, by omega, fun v' H3 lo st3 sm3 => ?_⟩⟩
        · rcases List.mem_cons.mp hm with e | hm
          · rw [e, hD]; intro z; cases z
          · intro z
            cases h : H1 m with
            | none => exact hM1 m hm h
            | some o =>
              by_cases hs : m ∈ [S, S0]
              · simp at hs
                obtain ⟨ne, nsx, l, nn, mm, g1, g2, _⟩ := st2
                rcases hs with hs | hs
                · rw [hs, g1] at z; cases z
                · rw [hs, g2] at z; cases z
              · have := f2 m o (hid_get hs h)
                rw [(hid_of this).2] at z
                cases z
        · have hD3 : H3 D = some (.lst ys) := (hid_of (sm3 D _ (hid_get (by simp; exact sD) hD))).2
          refine k1' rfl v' H3 (hid_more sm3 (fun a ha => List.mem_cons_of_mem _ (List.mem_append_right _ ha))) hD3 ⟨by rw [eds, ← Nat.add_assoc]; exact st3, f2.trans (hid_more sm3 fun a ha => List.mem_cons_of_mem _ ha)⟩ ?_
          rw [getD_of he]
          exact lo
      · rintro H2 ys ⟨st2, f2⟩ s2 hD pr
        rw [filter_range] at pr
        have la := paired_lo pr
        rw [hxl] at la
        have e1 : (List.range ds.length).map (fun i => ds.getD i PyData.none) = ds := by
          have := range_getD ds PyData.none fun x => x
          rw [List.map_id'] at this
          exact this
        rw [e1] at la
        rw [hxl, List.take_length] at st2
        have fr2 : Same (hid [S, S0] H) (hid [S, S0] H2) := fun b o z => hid_tail _ _ (f2 _ _ (sHid sp _ _ z))
        refine ⟨_, rfl, S, S0, c + dszAll ds, 3, rfl, st2, by omega, by decide, by decide, fun r H3 r0 r1 st3 sm3 => ?_⟩
        have hD3 : H3 D = some (.lst ys) := (hid_of (sm3 D _ (hid_get (by simp; exact sD) hD))).2
        have la3 : LoAll K (hid (M ++ [S, S0]) H3) ys ds := sLoAll (fun b o z => hid_more sm3 (fun a ha => List.mem_append_right _ ha) _ _ (hid_tail _ _ z)) _ _ la
        have fr3 := fr2.trans sm3
        refine ⟨rfl, _, rfl, ?_⟩
        have fin : c + dszAll ds + 1 = c + dsz d := by omega
        refine ite2 (fun _ => ?_) (fun _ => ?_)
        · exact ⟨_, rfl, q (.ref D) H3 (wrap _ _ _ (.inl (SqL.of (hid_get nDM hD3))) la3) (by rw [← fin]; exact st3) fr3⟩
        · refine ⟨_, rfl, D, ys, rfl, .inl ⟨SqL.of hD3, fun u nu => ?_⟩⟩
          have nuM : u ∉ M ++ [S, S0] := fun h => by
            rcases List.mem_append.mp h with h | h
            · cases e : H u with
              | none => exact hM u h e
              | some o =>
                by_cases hs : u ∈ [S, S0]
                · have := st3.S_ne nu
                  simp at hs
                  exact hs.elim this.1 this.2
                · have := fr3 u o (hid_get hs e)
                  rw [(hid_of this).2] at nu
                  cases nu
            · have := st3.S_ne nu
              simp at h
              exact h.elim this.1 this.2
          have su := hid_new (M := M ++ [S, S0]) (o := .tup ys) nu
          exact q (.ref u) _ (wrap _ _ _ (.inr (SqT.of (hid_get nuM upd_same))) (sLoAll su _ _ la3)) (by rw [← fin]; exact st3.new nu) (fr3.trans (hid_new nu))
end
end K8
set_option maxRecDepth 100000
set_option maxHeartbeats 4000000
namespace K8
open PySem PySem.Spec PyProof.Rows L2
structure GX (R : Bk) : Prop extends GB R where
  n12 : ∀ t ∈ R, t.1 ∈ names12
  so : ∀ t ∈ R, ∀ q ∈ t.2, sOk q.1
theorem GX.names {R : Bk} (g : GX R) {n : Str} (h : n ∈ R.map (·.1)) : nameB n = true ∧ n ≠ "late" ∧ sOk n := by
  obtain ⟨t, ht, rfl⟩ := List.mem_map.mp h
  have := names12_ok _ (g.n12 t ht)
  exact ⟨this.1, this.2, (name_ok this.1).1⟩
theorem GX.rok {R : Bk} (g : GX R) : ∀ t ∈ R, ∀ q ∈ t.2, rOk q := fun t ht q hq => ⟨g.so t ht q hq, fun n hn => (g.names (g.cl t ht q hq n hn)).2.2⟩
theorem GX.bc {R : Bk} (g : GX R) : BC R := ⟨fun t ht => ⟨Nat.le_trans (g.rl t ht) (by decide), fun q hq => Nat.le_trans (g.rw t ht q hq) (by decide)⟩, g.cl⟩
theorem ruleB_of {R : Bk} (g : GX R) {t : Str × List Rule} (ht : t ∈ R) {q : Rule} (hq : q ∈ t.2) : ruleB q = true := by
  unfold ruleB
  obtain ⟨h1, h2⟩ := g.lb t ht q hq
  rw [h1, decide_eq_true (show q.1.length ≤ 1000000 by omega), decide_eq_true (show q.2.length ≤ 1000000 by have := g.rw t ht q hq; omega)]
  have : q.2.all nameB = true := List.all_eq_true.mpr fun n hn => (g.names (g.cl t ht q hq n hn)).1
  rw [this]
  rfl
/-- the same talks, their rules in another order -/
structure BkEq (R R' : Bk) : Prop where
  nm : (R'.map (·.1)).Perm (R.map (·.1))
  rs : ∀ t ∈ R', ∃ u ∈ R, u.1 = t.1 ∧ t.2.Perm u.2
theorem BkEq.get {R R' : Bk} (e : BkEq R R') (nd : (R.map (·.1)).Nodup) {n : Str} (hn : n ∈ R.map (·.1)) : ∃ rs rs', getA R n = some rs ∧ getA R' n = some rs' ∧ rs'.Perm rs := by
  obtain ⟨rs', h'⟩ := getA_some (e.nm.mem_iff.mpr hn)
  obtain ⟨u, hu, e1, e2⟩ := e.rs _ (getA_mem h')
  refine ⟨u.2, rs', ?_, h', e2⟩
  have := getA_of nd hu
  rw [e1] at this
  exact this
theorem BkEq.steps {R R' : Bk} (e : BkEq R R') (nd : (R.map (·.1)).Nodup) {r : List Str} (hr : ∀ n ∈ r, n ∈ R.map (·.1)) : stepsOf R' r = stepsOf R r := by
  cases r with
  | nil => rfl
  | cons n tail =>
    obtain ⟨rs, rs', h1, h2, h3⟩ := e.get nd (hr n List.mem_cons_self)
    show stepsR ((getA R' n).getD []) tail = stepsR ((getA R n).getD []) tail
    rw [h1, h2]
    exact stepsR_perm h3
theorem BkEq.bc {R R' : Bk} (e : BkEq R R') (b : BC R) : BC R' := by
  refine ⟨fun t ht => ?_, fun t ht q hq n hn => ?_⟩
  · obtain ⟨u, hu, _, p⟩ := e.rs t ht
    exact ⟨by rw [p.length_eq]; exact (b.rl u hu).1, fun q hq => (b.rl u hu).2 q (p.mem_iff.mp hq)⟩
  · obtain ⟨u, hu, _, p⟩ := e.rs t ht
    exact e.nm.mem_iff.mpr (b.cl u hu q (p.mem_iff.mp hq) n hn)
theorem BkEq.trans {A B C : Bk} (e : BkEq A B) (f : BkEq B C) : BkEq A C := ⟨f.nm.trans e.nm, fun t ht => by
  obtain ⟨u, hu, e1, p1⟩ := f.rs t ht
  obtain ⟨v, hv, e2, p2⟩ := e.rs u hu
  exact ⟨v, hv, e2.trans e1, p1.trans p2⟩⟩
theorem bkEq_kept {R R' : Bk} (h : R'.Perm (kept R)) : BkEq R R' := ⟨perm_nms h, fun t ht => kept_mem h ht⟩
theorem BkEq.isN {R R' : Bk} (e : BkEq R R') {N : Str → Nat} (n : IsN R N) : IsN R' N := by
  refine ⟨fun t ht q hq => ?_, fun t ht => ?_⟩
  · obtain ⟨u, hu, e1, p⟩ := e.rs t ht
    rw [← e1]
    exact n.le u hu q (p.mem_iff.mp hq)
  · obtain ⟨u, hu, e1, p⟩ := e.rs t ht
    obtain ⟨q, hq, e2⟩ := n.at' u hu
    exact ⟨q, p.mem_iff.mpr hq, by rw [← e1]; exact e2⟩
theorem BkEq.bin {R R2 : Bk} (e : BkEq R R2) (g : GX R) : BIn R2 := by
  have hm : ∀ {n}, n ∈ R2.map (·.1) ↔ n ∈ R.map (·.1) := fun {n} => e.nm.mem_iff
  have hl : R2.length = R.length := by have := e.nm.length_eq; simpa using this
  refine ⟨fun t ht => ?_, e.nm.nodup_iff.mpr g.nd, by have := g.few; omega, fun t ht q hq => ?_⟩
  · obtain ⟨u, hu, e1, p⟩ := e.rs t ht
    refine ⟨(g.names (hm.mp (List.mem_map.mpr ⟨t, ht, rfl⟩))).1, ?_, List.all_eq_true.mpr fun q hq => ruleB_of g hu (p.mem_iff.mp hq), p.nodup_iff.mpr (g.rn u hu), ?_⟩
    · intro z
      rw [z] at p
      exact g.ne u hu (List.Perm.eq_nil p.symm)
    · rw [p.length_eq]
      have := g.rl u hu
      omega
  · obtain ⟨u, hu, e1, p⟩ := e.rs t ht
    have hq' := p.mem_iff.mp hq
    exact ⟨by have := g.rw u hu q hq'; omega, fun n hn => hm.mpr (g.cl u hu q hq' n hn)⟩
/-! ### permuted data -/
theorem perm_lift {α β : Type} {f : α → β} : ∀ {ys zs : List β}, ys.Perm zs → ∀ bs : List α, zs = bs.map f → ∃ cs : List α, cs.Perm bs ∧ cs.map f = ys := by
  intro ys zs h
  induction h with
  | nil =>
    intro bs e
    cases bs with
    | nil => exact ⟨[], .nil, rfl⟩
    | cons _ _ => cases e
  | cons x _ ih =>
    intro bs e
    cases bs with
    | nil => cases e
    | cons b bs =>
      injection e with e1 e2
      obtain ⟨cs, p, q⟩ := ih bs e2
      exact ⟨b :: cs, p.cons b, by rw [List.map_cons, q, e1]⟩
  | swap x y l =>
    intro bs e
    cases bs with
    | nil => cases e
    | cons b bs =>
      injection e with e1 e2
      cases bs with
      | nil => cases e2
      | cons c bs =>
        injection e2 with e3 e4
        exact ⟨c :: b :: bs, List.Perm.swap b c bs, by rw [List.map_cons, List.map_cons, ← e1, ← e3, ← e4]⟩
  | trans _ _ ih1 ih2 =>
    intro bs e
    obtain ⟨cs, p, q⟩ := ih2 bs e
    obtain ⟨es, p2, q2⟩ := ih1 cs q.symm
    exact ⟨es, p2.trans p, q2⟩
theorem dp_pairs {α : Type} {K : PySem.W.Frag} {H : Hp} {f : α → PyData} : ∀ {xs : List V} {rs : List α}, DpAll K H xs (rs.map f) → ∃ l : List (V × α), l.map (·.1) = xs ∧ l.map (·.2) = rs ∧ ∀ x ∈ l, Dp K H x.1 (f x.2)
  | _, [], h => by cases h; exact ⟨[], rfl, rfl, fun _ z => by cases z⟩
  | _, r :: rs, h => by
    cases h with
    | cons q t =>
      obtain ⟨l, h1, h2, h3⟩ := dp_pairs t
      refine ⟨(_, r) :: l, by rw [List.map_cons, h1], by rw [List.map_cons, h2], fun x hx => ?_⟩
      rcases List.mem_cons.mp hx with e | hx
      · subst e; exact q
      · exact h3 x hx
theorem dp_of_pairs {α : Type} {K : PySem.W.Frag} {H : Hp} {f : α → PyData} : ∀ {l : List (V × α)}, (∀ x ∈ l, Dp K H x.1 (f x.2)) → DpAll K H (l.map (·.1)) ((l.map (·.2)).map f)
  | [], _ => .nil
  | x :: l, h => .cons (h x List.mem_cons_self) (dp_of_pairs fun y hy => h y (List.mem_cons_of_mem _ hy))
theorem dpAll_perm {α : Type} {K : PySem.W.Frag} {H : Hp} {f : α → PyData} {xs ys : List V} {rs : List α} (h : DpAll K H xs (rs.map f)) (p : ys.Perm xs) : ∃ rs' : List α, rs'.Perm rs ∧ DpAll K H ys (rs'.map f) := by
  obtain ⟨l, h1, h2, h3⟩ := dp_pairs h
  obtain ⟨l', p2, e⟩ := perm_lift p l h1.symm
  refine ⟨l'.map (·.2), by rw [← h2]; exact p2.map _, ?_⟩
  rw [← e]
  exact dp_of_pairs fun x hx => h3 x (p2.mem_iff.mp hx)
/-! ### sizes -/
theorem dszAll_le {n : Nat} : ∀ {ds : List PyData}, (∀ d ∈ ds, dsz d ≤ n) → dszAll ds ≤ ds.length * n
  | [], _ => by simp [dszAll]
  | d :: ds, h => by
    have h1 := h d List.mem_cons_self
    have h2 := dszAll_le fun e he => h e (List.mem_cons_of_mem _ he)
    simp only [dszAll, List.length_cons, Nat.succ_mul]
    omega
theorem lpAll_of : ∀ {ds : List PyData}, (∀ d ∈ ds, lpB d = true) → lpAll ds = true
  | [], _ => rfl
  | d :: ds, h => by rw [lpAll, h d List.mem_cons_self, lpAll_of fun e he => h e (List.mem_cons_of_mem _ he)]; rfl
theorem lp_list {ds : List PyData} (hl : ds.length ≤ 1000) (h : ∀ d ∈ ds, lpB d = true) : lpB (.list ds) = true ∧ lpB (.tuple ds) = true := by
  simp only [lpB, decide_eq_true hl, lpAll_of h, Bool.and_self, and_self]
theorem dsz_strs (r : List Str) : dsz (.list (r.map .str)) ≤ 1 + r.length := by
  simp only [dsz]
  have := dszAll_le (n := 1) (ds := r.map PyData.str) fun d hd => by
    obtain ⟨x, _, rfl⟩ := List.mem_map.mp hd
    simp [dsz]
  rw [List.length_map] at this
  omega
theorem dsz_L {q : Rule} (h : q.2.length ≤ 8) : dsz (encL q) ≤ 11 := by
  have := dsz_strs q.2
  simp only [encL, dsz, dszAll] at this ⊢
  omega
theorem dsz_T {t : Str × List Rule} (h1 : t.2.length ≤ 8) (h2 : ∀ q ∈ t.2, q.2.length ≤ 8) : dsz (encT t) ≤ 91 := by
  have := dszAll_le (n := 11) (ds := t.2.map encL) fun d hd => by
    obtain ⟨q, hq, rfl⟩ := List.mem_map.mp hd
    exact dsz_L (h2 q hq)
  rw [List.length_map] at this
  simp only [encT, dsz, dszAll]
  have : t.2.length * 11 ≤ 8 * 11 := Nat.mul_le_mul_right _ h1
  omega
theorem lp_L {q : Rule} (h : q.2.length ≤ 8) : lpB (encL q) = true := (lp_list (by show 2 ≤ 1000; decide) fun d hd => by
  rcases List.mem_cons.mp hd with e | hd
  · rw [e]; rfl
  · rw [List.mem_singleton.mp hd]
    exact (lp_list (by rw [List.length_map]; omega) fun e he => by
      obtain ⟨x, _, rfl⟩ := List.mem_map.mp he
      rfl).1).2
theorem lp_T {t : Str × List Rule} (h1 : t.2.length ≤ 8) (h2 : ∀ q ∈ t.2, q.2.length ≤ 8) : lpB (encT t) = true := (lp_list (by show 2 ≤ 1000; decide) fun d hd => by
  rcases List.mem_cons.mp hd with e | hd
  · rw [e]; rfl
  · rw [List.mem_singleton.mp hd]
    exact (lp_list (by rw [List.length_map]; omega) fun e he => by
      obtain ⟨x, hx, rfl⟩ := List.mem_map.mp he
      exact lp_L (h2 x hx)).1).2
theorem depth_T4 (t : Str × List Rule) : (encT t).depth ≤ 4 := (dep_list fun d hd => by
  rcases List.mem_cons.mp hd with e | hd
  · rw [e]; exact Nat.le_trans (dep_str _) (by decide)
  · rw [List.mem_singleton.mp hd]
    exact (dep_list fun e he => by
      obtain ⟨x, _, rfl⟩ := List.mem_map.mp he
      exact depth_L2 x).1).2
end K8
set_option maxRecDepth 100000
set_option maxHeartbeats 4000000
namespace K8
open PySem PySem.Spec PyProof.Rows L2
/-! ### a list of rules is no part of the spring -/
theorem sq_ne {K : PySem.W.Frag} {H : Hp} {S S0 a : Addr} {c : Nat} {xs : List V} {rs : List Rule} (st : Stm S S0 c H) (h : SqL K H a xs) (hx : DpAll K H xs (rs.map encP)) (hne : rs ≠ []) : SqL K (hid [S, S0] H) a xs := by
  obtain ⟨ne, ns, l, n, m, g1, g2, _⟩ := st
  have bad : ∀ x ∈ xs, ∀ i, x ≠ V.int i := fun x hx2 i e => by
    obtain ⟨j, hj⟩ := List.mem_iff_getElem?.mp hx2
    obtain ⟨r, _, d⟩ := dpAll_at hx hj
    obtain ⟨b, c, e2, _⟩ := dp_P d
    rw [e2] at e
    cases e
  have hxl : xs.length = rs.length := dpAll_len hx
  have hpos : xs ≠ [] := fun e => by rw [e] at hxl; exact hne (List.eq_nil_of_length_eq_zero hxl.symm)
  have key : ∀ o, H a = some o → (o = .lst xs ∨ ∃ u, o = .frz u (.lst xs)) → a ∉ [S, S0] := fun o e ho z => by
    simp at z
    rcases z with z | z
    · rw [z, g1] at e
      have e' := (Option.some.inj e)
      rcases ho with ho | ⟨u, ho⟩
      · rw [ho] at e'
        injection e' with e'
        exact bad (.int l) (by rw [← e']; simp) l rfl
      · rw [ho] at e'; cases e'
    · rw [z, g2] at e
      have e' := (Option.some.inj e)
      rcases ho with ho | ⟨u, ho⟩
      · rw [ho] at e'
        injection e' with e'
        cases ns with
        | nil => exact hpos e'.symm
        | cons i ns => exact bad (.int i) (by rw [← e']; simp) i rfl
      · rw [ho] at e'; cases e'
  rcases h with (h | ⟨o, h⟩) | h
  · exact .inl (.inl (hid_get (key _ h (.inl rfl)) h))
  · exact .inl (.inr ⟨o, hid_get (key _ h (.inr ⟨o, rfl⟩)) h⟩)
  · exact .inr h
theorem stm_lst {S S0 a : Addr} {c : Nat} {H : Hp} {o : HO} (st : Stm S S0 c H) (h : H a = some o) (n : ∀ xs, o ≠ .lst xs) : a ∉ [S, S0] := fun z => by
  obtain ⟨ne, ns, l, nn, m, g1, g2, _⟩ := st
  simp at z
  rcases z with z | z
  · rw [z, g1] at h
    exact n _ (Option.some.inj h).symm
  · rw [z, g2] at h
    exact n _ (Option.some.inj h).symm
theorem sqT_stm {K : PySem.W.Frag} {H : Hp} {S S0 a : Addr} {c : Nat} {xs : List V} (st : Stm S S0 c H) (h : SqT K H a xs) : SqT K (hid [S, S0] H) a xs := by
  rcases h with (h | ⟨o, h⟩) | h
  · exact .inl (.inl (hid_get (stm_lst st h fun _ z => by cases z) h))
  · exact .inl (.inr ⟨o, hid_get (stm_lst st h fun _ z => by cases z) h⟩)
  · exact .inr h
theorem dpP_stm {K : PySem.W.Frag} {H : Hp} {S S0 : Addr} {c : Nat} {v : V} {r : Rule} (st : Stm S S0 c H) (h : Dp K H v (encP r)) : Dp K (hid [S, S0] H) v (encP r) := by
  obtain ⟨a, b, rfl, h1, h2⟩ := dp_P h
  exact dpP_of (sqT_stm st h1) (sqT_stm st h2)
theorem dpRp_stm {K : PySem.W.Frag} {H : Hp} {S S0 : Addr} {c : Nat} {v : V} {rs : List Rule} (st : Stm S S0 c H) (h : Dp K H v (encRp rs)) (hne : rs ≠ []) : Dp K (hid [S, S0] H) v (encRp rs) := by
  obtain ⟨a, xs, rfl, h1, h2⟩ := dp_list h
  refine .lst (sq_ne st h1 h2 hne) ?_
  obtain ⟨l, e1, e2, e3⟩ := dp_pairs h2
  rw [← e1, ← e2]
  exact dp_of_pairs fun x hx => dpP_stm st (e3 x hx)
theorem bookAt_stm {K : PySem.W.Frag} {C : Addr} {H : Hp} {S S0 p : Addr} {c : Nat} {R' : Bk} {N : Str → Nat} (st : Stm S S0 c H) (b : BookAt K C H p R' N) (hne : ∀ t ∈ R', t.2 ≠ []) : BookAt K C (hid [S, S0] H) p R' N := by
  obtain ⟨dx, d1, d2, k1, k2, F, h1, h2, h3, h4, h5, h6⟩ := b.ex
  refine ⟨dx, d1, d2, k1, k2, F, hid_get (stm_lst st h1 fun _ z => by cases z) h1, hid_get (stm_lst st h2 fun _ z => by cases z) h2, hid_get (stm_lst st h3 fun _ z => by cases z) h3, ?_, Paired_mono (fun t kv z => ⟨z.1, by rw [dp_int z.2]; exact .int _⟩) h5, h6⟩
  have go : ∀ {R' : Bk} {k1 : List (Key × V)}, KvD K H encRp R' k1 → (∀ t ∈ R', t.2 ≠ []) → KvD K (hid [S, S0] H) encRp R' k1 := by
    intro R' k1 h hn
    induction h with
    | nil => exact .nil
    | cons q t ih => exact .cons ⟨q.1, dpRp_stm st q.2 (hn _ List.mem_cons_self)⟩ (ih fun u hu => hn u (List.mem_cons_of_mem _ hu))
  exact go h4 hne
theorem eMake {X : Cx} {K : PySem.W.Frag} {mg : Str → Option Value} {P : Program} {w : World} {base : Heap} {e : Expr} {es : List Expr} {t : TA} {p pos : Pos} {sp : Sp} (T : TxB K mg) (F : FnOk P w K mg base CX0 6 T.fI T.fdI ["self", "talks"] sp) (hr : Room 7 X.A) (ha : PA X (e :: es) t)
    (h1 : X.prog = P := by rfl) (h2 : X.w = w := by rfl) (h3 : X.K = K := by rfl) (h4 : X.mg = mg := by rfl) (h5 : X.base = base := by rfl)
    (hg : Gl X "Book" := by rfl) (he : starEach (e :: es) X.env = (false, eval e X.env) :: starEach es X.env := by rfl) (hpl : (backTo pos (starEach es X.env)).any (·.1) = false := by rfl) :
    PE X (.Call (.Name "Book" p) (e :: es) [] pos) (tMake T.C sp [] E0 t) := by
  subst h1 h2 h3 h4 h5
  exact pe_make T.made F hr hg T.gC T.bI .nil pass0 ha (by decide) he hpl
theorem paired_all_eq {f : Nat → Str} {S : Str × List Rule → Prop} : ∀ {l : List Nat} {m : List (Str × List Rule)}, Paired (fun i t => t.1 = f i ∧ S t) l m → m.map (·.1) = l.map f
  | _, _, .nil => rfl
  | _, _, .cons q t => by rw [List.map_cons, List.map_cons, q.1, paired_all_eq t]
theorem paired_dp2 {α : Type} {K : PySem.W.Frag} {H : Hp} {f : α → PyData} : ∀ {ys : List V} {ts : List α}, Paired (fun y t => Dp K H y (f t)) ys ts → DpAll K H ys (ts.map f)
  | _, _, .nil => .nil
  | _, _, .cons q t => .cons q (paired_dp2 t)
def spMade (K : PySem.W.Frag) (C : Addr) : Sp := fun vs H Q _ => ∃ (S S0 d : Addr) (c : Nat) (kvs : List (Key × V)) (R : Bk) (N : Str → Nat), vs = [.ref S, .ref d] ∧ Stm S S0 c H ∧ c + 2000 ≤ LIM ∧ H d = some (.dK kvs) ∧ KvD K (hid [S, S0] H) encRs R kvs ∧ GX R ∧ IsN R N ∧
  ∀ p R' H', BookAt K C (hid [S, S0] H') p R' N → BkEq R R' → Stm S S0 (c + 2000) H' → Same (hid [S, S0] H) (hid [S, S0] H') → Q (.ref p) H'
section
variable {P : Program} {w : World} {K : PySem.W.Frag} {mg : Str → Option Value} {base : Heap}
theorem sc_d_made : FnScope ["_law_stream", "_law_rules", "_law_talks", "_law_name"] ["_law_stream", "_law_rules"] (defScope s_d_made) := ⟨rfl, rfl, rfl, by decide +kernel, rfl, by decide +kernel, by decide +kernel⟩
theorem ok_d_made (T : TxB K mg) : FnOk P w K mg base CX0 9 T.d_made.f T.d_made.fd ["_law_stream", "_law_rules"] (spMade K T.C) := by
  have G_mixed : FnOk P w K mg base CX0 8 T.mixed.f T.mixed.fd _ (spMixed K) := (ok_mixed T.toTxt).mono (by decide)
  have G_loose : FnOk P w K mg base CX0 8 T.loose.f T.loose.fd _ (spLoose K 6) := ok_loose T.toTxt 6
  have G_init : FnOk P w K mg base CX0 6 T.fI T.fdI _ (spInit K T.C) := ok_init T
  refine T.d_made.F.ok sc_d_made (fun vs H Q E h => ?_) (fun cdv A outer s H vs Q E hr h => ?_)
  · obtain ⟨S, S0, d, c, kvs, R, N, rfl, _⟩ := h
    rfl
  obtain ⟨S, S0, d, c, kvs, R, N, rfl, st, hc, hd, kd, g, hN, q⟩ := h
  have nd := sc_d_made.nd
  have hu := hu_of hr
  have hr7 : Room 7 (A.deeper (envOfC "_law_d_made" (defScope s_d_made) s.heap.objs.size T.d_made.f cdv)) := hr.mono (by decide)
  refine ⟨_, (pss_cons (ps_setLc (i := 2) (own := [("_law_name", 3)]) (g := gName 3) (tt := tYes) rfl nd rfl rfl (sw_true rfl rfl rfl (by decide +kernel)) (iL K (eC T.mixed G_mixed hr (pa_cons (pv 0) (pa_cons (eListK rfl T.z_list (pv 1)) pa_nil)))) (blkOk_by (N := ["_law_stream", "_law_rules", "_law_talks", "_law_name"]) (sc := defScope s_d_made) (by decide +kernel)) (fun _ _ _ _ _ => (pg_name (i := 3) nd rfl (Or.inl rfl))) (fun _ _ _ _ _ => pts_nil) (fun _ _ _ _ _ => (pe_tup (pa_cons (pv 3) (pa_cons (eC T.mixed G_mixed hr (pa_cons (pv 0) (pa_cons (pe_dget hu (pv 1) (pv 3) (fun _ _ => rfl)) pa_nil))) pa_nil)))))
    (pss_one (ps_ret (eMake T G_init hr7 (pa_cons (eC T.loose G_loose hr (pa_cons (pv 0) (pa_cons (pv 2) pa_nil))) pa_nil))))), ?_⟩
  have hc : c + 2000 ≤ 1099511627776 := hc
  have few := g.few
  have dS : d ∉ [S, S0] := stm_lst st hd fun _ z => by cases z
  refine ⟨_, rfl, _, rfl, d, kvs, rfl, hd, fun l nl => ?_⟩
  have ek : kvs.map (fun kv => kV kv.1) = (R.map (·.1)).map V.str := by
    have := congrArg (List.map kV) (kvd_keys kd)
    rw [List.map_map, List.map_map] at this
    exact this
  rw [ek]
  have sl := st.S_ne nl
  refine ⟨S, S0, c, l, _, rfl, st.new nl, by rw [List.length_map, List.length_map]; omega, SqL.of (hid_get (by simp; exact sl) upd_same), by rw [List.length_map, List.length_map]; omega, fun m ys H1 pm nm hm st1 sm1 => ?_⟩
  obtain ⟨nms, rfl, pm2⟩ := strs_perm pm
  have nmn : m ∉ [S, S0] := fun z => by
    have := st1
    obtain ⟨ne, ns, ll, nn, mm, g1, g2, _⟩ := st.new (o := .lst ((R.map (·.1)).map V.str)) nl
    simp at z
    rcases z with z | z
    · rw [z, g1] at nm; cases nm
    · rw [z, g2] at nm; cases nm
  have f1 : Same (hid [S, S0] H) (hid [S, S0] H1) := (hid_new nl).trans sm1
  rw [List.length_map, List.length_map] at st1
  have nlen : nms.length = R.length := by rw [pm2.length_eq, List.length_map]
  refine ⟨m, rfl, ⟨_, SqL.of hm⟩, fun D nD => ?_⟩
  have sD := st1.S_ne nD
  have kd1 : KvD K (hid [S, S0] H1) encRs R kvs := kd.same f1
  refine lc_g walk_list [S, S0] nD (by rw [List.length_map]; omega) (fun i H' => Stm S S0 (c + R.length + 8 * i) H') (st1.new nD) (fun i H' o ys hD h => h.put sD.1 sD.2)
    (fun i H' y => ∃ t : Str × List Rule, (t.1 = nms.getD i Str.empty ∧ ∃ rs, getA R t.1 = some rs ∧ t.2.Perm rs) ∧ Dp K (hid (D :: [S, S0]) H') y (encT t)) (fun i H H' y _ s ⟨t, h1, h2⟩ => ⟨t, h1, sDp s _ _ h2⟩) (fun _ => true)
    (fun i H' _ _ s => SqL.of (hid_of (s m _ (hid_get nmn hm))).2) ?_ ?_
  · rintro i x H2 H2' ys k1 k2 hi st2 s2 hD ⟨rfl, hx⟩ k1' _
    obtain ⟨n, rfl, hn, hnm⟩ := strs_at hx
    have hi' : i < nms.length := by simpa using hi
    obtain ⟨rs, hrs⟩ := getA_some (pm2.mem_iff.mp hnm)
    have hrm := getA_mem hrs
    obtain ⟨v, e1, e2⟩ := (kd1.same s2).val hrs
    obtain ⟨b, xs, rfl, hb1, hb2⟩ := dp_list e2
    have hxl : xs.length = rs.length := dpAll_len hb2
    have rl : rs.length ≤ 8 := g.rl _ hrm
    have hd2 : H2' d = some (.dK kvs) := (hid_of (s2 d _ (f1 d _ (hid_get dS hd)))).2
    refine ⟨rfl, tYesI ⟨_, rfl, _, rfl, _, rfl, _, rfl, d, _, rfl, .inl ⟨kvs, Sum.inr n, .inl hd2, rfl, e1.symm⟩, ?_⟩⟩
    refine ⟨S, S0, c + R.length + 8 * i, b, xs, rfl, st2, by omega, hid_tail.seq hb1, by omega, fun p zs H3 pz np hp3 st3 s3 => ⟨(by show 2 ≤ sizeLine; decide), fun t nt => ?_⟩⟩
    have hD3 : H3 D = some (.lst ys) := (hid_of (s3 D _ (hid_get (by simp; exact sD) hD))).2
    have np' : p ∉ D :: [S, S0] := fun z => by
      rcases List.mem_cons.mp z with z | z
      · rw [z, hD] at np; cases np
      · have := st2.S_ne np
        simp at z
        exact z.elim this.1 this.2
    have nt' : t ∉ D :: [S, S0] := fun z => by
      rcases List.mem_cons.mp z with z | z
      · rw [z, hD3] at nt; cases nt
      · have := st3.S_ne nt
        simp at z
        exact z.elim this.1 this.2
    obtain ⟨rs', pr, dr⟩ := dpAll_perm hb2 pz
    have s3' : Same (hid (D :: [S, S0]) H2') (hid (D :: [S, S0]) H3) := hid_more s3 (fun a ha => List.mem_cons_of_mem _ ha)
    have s4 := hid_new (M := D :: [S, S0]) (o := .tup [.str n, .ref p]) nt
    refine k1' rfl _ _ (s3'.trans s4) (same_new nt _ _ hD3) (by rw [hxl] at st3; exact (st3.new nt).mono (by omega)) ⟨(n, rs'), ⟨(getD_of hn).symm, rs, hrs, pr⟩, ?_⟩
    refine .tup (SqT.of (hid_get nt' upd_same)) (.cons (.str _) (.cons (.lst (s4.seq (SqL.of (hid_get np' hp3))) (sDpAll (s3'.trans s4) _ _ dr)) .nil))
  · intro H2 ys st2 s2 hD pr
    rw [filter_range, List.length_map] at pr
    obtain ⟨R2, p1, p2⟩ := paired_some pr
    have ln : R2.length = R.length := by have := paired_len p1; rw [List.length_range] at this; omega
    have R2nm : R2.map (·.1) = nms := by
      have := paired_all_eq p1
      rw [this]
      exact range_getD nms Str.empty (fun x => x) |>.trans (List.map_id' _)
    have be : BkEq R R2 := by
      refine ⟨by rw [R2nm]; exact pm2, fun t ht => ?_⟩
      obtain ⟨rs, h1, h2⟩ := paired_all (S := fun t : Str × List Rule => ∃ rs, getA R t.1 = some rs ∧ t.2.Perm rs) (fun i t h => h.2) p1 t ht
      exact ⟨_, getA_mem h1, rfl, h2⟩
    have bi := be.bin g
    have dl : ∀ t ∈ R2, t.2.length ≤ 8 ∧ ∀ q ∈ t.2, q.2.length ≤ 8 := fun t ht => by
      obtain ⟨u, hu, _, pu⟩ := be.rs t ht
      exact ⟨by rw [pu.length_eq]; exact g.rl u hu, fun q hq => g.rw u hu q (pu.mem_iff.mp hq)⟩
    have dall : DpAll K (hid (D :: [S, S0]) H2) ys (R2.map encT) := paired_dp2 p2
    have dD : Dp K (hid [S, S0] H2) (.ref D) (.list (R2.map encT)) := .lst (SqL.of (hid_get (by simp; exact sD) hD)) (sDpAll hid_tail _ _ dall)
    have dsz0 : dsz (.list (R2.map encT)) ≤ 1 + 12 * 91 := by
      have := dszAll_le (n := 91) (ds := R2.map encT) fun d hd => by
        obtain ⟨t, ht, rfl⟩ := List.mem_map.mp hd
        exact dsz_T (dl t ht).1 (dl t ht).2
      rw [List.length_map] at this
      have : R2.length * 91 ≤ 12 * 91 := Nat.mul_le_mul_right _ (by omega)
      simp only [dsz]
      omega
    have dep0 : (PyData.list (R2.map encT)).depth < 6 := Nat.lt_succ_of_le (dep_list fun d hd => by
      obtain ⟨t, ht, rfl⟩ := List.mem_map.mp hd
      exact depth_T4 t).1
    have lp0 : lpB (.list (R2.map encT)) = true := (lp_list (by rw [List.length_map]; omega) fun d hd => by
      obtain ⟨t, ht, rfl⟩ := List.mem_map.mp hd
      exact lp_T (dl t ht).1 (dl t ht).2).1
    rw [List.length_map, nlen] at st2
    have f2 : Same (hid [S, S0] H) (hid [S, S0] H2) := fun b o z => hid_tail _ _ (s2 _ _ (f1 _ _ z))
    refine ⟨_, rfl, _, rfl, S, S0, [], c + R.length + 8 * R.length, .ref D, _, rfl, st2, (fun _ z => by cases z), dD, dep0, lp0, by omega, fun v' H3 lo st3 s3 => ?_⟩
    intro x dx nx ndx nex
    have f3 := f2.trans s3
    have e1 : Same H3 (upd (upd H3 dx (.own x)) x (.ins T.C dx [])) := fun b o e => by
      rw [upd_ne (ne_of_none e nx), upd_ne (ne_of_none e ndx)]
      exact e
    have st4 : Stm S S0 (c + R.length + 8 * R.length + dsz (.list (R2.map encT))) (upd (upd H3 dx (.own x)) x (.ins T.C dx [])) := st3.same e1
    have hx4 : upd (upd H3 dx (.own x)) x (.ins T.C dx []) x = some (.ins T.C dx []) := upd_same
    generalize upd (upd H3 dx (.own x)) x (.ins T.C dx []) = H4 at e1 st4 hx4 ⊢
    refine ⟨x, dx, v', R2, N, rfl, hx4, sLo (hid_same.trans e1) _ _ lo, bi, be.isN hN, fun H5 R' s5 pk bk => ⟨rfl, ?_⟩⟩
    have sx := st3.S_ne nx
    have st5 : Stm S S0 (c + R.length + 8 * R.length + dsz (.list (R2.map encT))) H5 := by
      obtain ⟨ne, ns, ll, nn, mm, g1, g2, g3⟩ := st4
      exact ⟨ne, ns, ll, nn, mm, (hid_of (s5 S _ (hid_get (by simp; exact sx.1.symm) g1))).2, (hid_of (s5 S0 _ (hid_get (by simp; exact sx.2.symm) g2))).2, g3⟩
    have f5 : Same (hid [S, S0] H) (hid [S, S0] H5) := f3.trans fun b o z => by
      obtain ⟨z1, z2⟩ := hid_of z
      refine hid_get z1 (hid_of (s5 b o (hid_get (by simp; exact fun e => by rw [e, nx] at z2; cases z2) (e1 _ _ z2)))).2
    have be' : BkEq R R' := be.trans (bkEq_kept pk)
    refine q x R' H5 (bookAt_stm st5 bk fun t ht => ?_) be' (st5.mono (by omega)) f5
    obtain ⟨u, hu, _, pu⟩ := be'.rs t ht
    intro z
    rw [z] at pu
    exact g.ne u hu (List.Perm.eq_nil pu.symm)
end
end K8
set_option maxRecDepth 100000
set_option maxHeartbeats 4000000
namespace K8
open PySem PySem.Spec PyProof.Rows L2
/-! ### a heap behind draws: M new places that change, the spring at S, S0 -/
structure St (S S0 : Addr) (M : List Addr) (c : Nat) (H0 H : Hp) : Prop where
  st : Stm S S0 c H
  fr : Same (hid [S, S0] H0) (hid (M ++ [S, S0]) H)
  ap : ∀ m ∈ M, m ∉ [S, S0] ∧ H0 m = none
section
variable {S S0 p : Addr} {M : List Addr} {c d : Nat} {H0 H H' : Hp} {o : HO}
theorem St.start (h : Stm S S0 c H) : St S S0 [] c H H := ⟨h, Same.refl _, fun _ z => by cases z⟩
theorem St.mono (h : St S S0 M c H0 H) (hd : c ≤ d) : St S S0 M d H0 H := ⟨h.st.mono hd, h.fr, h.ap⟩
theorem St.none0 (h : St S S0 M c H0 H) (hn : H p = none) (hm : p ∉ M) : H0 p = none := by
  cases e : H0 p with
  | none => rfl
  | some o =>
    have sp := h.st.S_ne hn
    have := h.fr p o (hid_get (by simp; exact sp) e)
    rw [(hid_of this).2] at hn
    cases hn
theorem St.new (h : St S S0 M c H0 H) (hn : H p = none) : St S S0 M c H0 (upd H p o) := ⟨h.st.new hn, h.fr.trans (hid_new hn), h.ap⟩
theorem St.push (h : St S S0 M c H0 H) (hn : H p = none) (hm : p ∉ M) : St S S0 (p :: M) c H0 (upd H p o) :=
  ⟨h.st.new hn, h.fr.trans (hid_push hn), fun m hm2 => by
    rcases List.mem_cons.mp hm2 with e | hm2
    · rw [e]
      have := h.st.S_ne hn
      exact ⟨by simp; exact this, h.none0 hn hm⟩
    · exact h.ap m hm2⟩
theorem St.put (h : St S S0 M c H0 H) (hm : p ∈ M) : St S S0 M c H0 (upd H p o) := by
  have := (h.ap p hm).1
  simp at this
  exact ⟨h.st.put this.1 this.2, by rw [hid_in (List.mem_append_left _ hm)]; exact h.fr, h.ap⟩
theorem St.draw (h : St S S0 M c H0 H) (s : Stm S S0 d H') (f : Same (hid [S, S0] H) (hid [S, S0] H')) : St S S0 M d H0 H' := ⟨s, h.fr.trans (hid_more f fun a ha => List.mem_append_right _ ha), h.ap⟩
theorem St.pure (h : St S S0 M c H0 H) (s : Same H H') : St S S0 M c H0 H' := ⟨h.st.same s, h.fr.trans (sHid s), h.ap⟩
theorem St.pop (h : St S S0 (p :: M) c H0 H) : St S S0 M c H0 H := ⟨h.st, h.fr.trans hid_tail, fun m hm => h.ap m (List.mem_cons_of_mem _ hm)⟩
theorem St.not (h : St S S0 M c H0 H) (hp : H p = some o) (hn : H' p = none) (s : St S S0 M d H0 H') (hm : p ∈ M) : True := trivial
/-- a place that is no part of the spring, under draws -/
theorem keep_at (f : Same (hid [S, S0] H) (hid [S, S0] H')) (hp : H p = some o) (hs : p ∉ [S, S0]) : H' p = some o := (hid_of (f p o (hid_get hs hp))).2
theorem St.out (h : St S S0 M c H0 H) (hn : H p = none) : p ∉ [S, S0] := by
  have := h.st.S_ne hn
  simp
  exact this
theorem Z_more (f : Same (hid [S, S0] H) (hid [S, S0] H')) : Same (hid (M ++ [S, S0]) H) (hid (M ++ [S, S0]) H') := hid_more f fun a ha => List.mem_append_right _ ha
end
theorem mergeK_nd : ∀ (more kvs : List (Key × V)), ((kvs ++ more).map (·.1)).Nodup → mergeK kvs more = kvs ++ more
  | [], kvs, _ => by simp [mergeK]
  | kv :: more, kvs, h => by
    have hn : valV kvs kv.1 = none := by
      cases e : valV kvs kv.1 with
      | none => rfl
      | some v =>
        have h1 : (kvs.any fun x => decide (x.1 = kv.1)) = true := by rw [valV_any, e]; rfl
        obtain ⟨x, hx, hx2⟩ := List.any_eq_true.mp h1
        have hx3 := of_decide_eq_true hx2
        rw [List.map_append, List.map_cons] at h
        have := (List.nodup_append.mp h).2.2 x.1 (List.mem_map.mpr ⟨x, hx, rfl⟩) kv.1 List.mem_cons_self
        exact absurd hx3 this
    have e1 : mergeK kvs (kv :: more) = mergeK (putK kvs kv.1 kv.2) more := rfl
    rw [e1, putK_new _ hn]
    have e2 : kvs ++ [(kv.1, kv.2)] ++ more = kvs ++ kv :: more := by simp
    have := mergeK_nd more (kvs ++ [(kv.1, kv.2)]) (by rw [e2]; exact h)
    rw [this, e2]
/-- rules of a drawn book, ready or not: what holds of each talk's rules, names from nms -/
structure RulesOk (nms : List Str) (rs : List Rule) : Prop where
  ne : rs ≠ []
  nd : rs.Nodup
  len : rs.length ≤ 4
  ok : ∀ q ∈ rs, (letterB q.1 = true ∧ q.1.length ≤ 9 ∧ sOk q.1) ∧ q.2.length ≤ 4 ∧ ∀ n ∈ q.2, n ∈ nms
/-- a drawn book with its bounds -/
structure Drawn (R : Bk) (M : Str → Nat) : Prop where
  nd : (R.map (·.1)).Nodup
  n12 : ∀ t ∈ R, t.1 ∈ names12
  some : R ≠ []
  few : R.length ≤ 10
  rs : ∀ t ∈ R, RulesOk (R.map (·.1)) t.2
  en : ∀ t ∈ R, ∃ q ∈ t.2, 1 + sumN M q.2 ≤ M t.1
theorem Drawn.gx {R : Bk} {M : Str → Nat} (d : Drawn R M) : GX R where
  nd := d.nd
  few := Nat.le_trans d.few (by decide)
  some := d.some
  nb := fun t ht => (names12_ok _ (d.n12 t ht)).1
  ne := fun t ht => (d.rs t ht).ne
  rn := fun t ht => (d.rs t ht).nd
  rl := fun t ht => Nat.le_trans (d.rs t ht).len (by decide)
  lb := fun t ht q hq => ⟨((d.rs t ht).ok q hq).1.1, ((d.rs t ht).ok q hq).1.2.1⟩
  rw := fun t ht q hq => Nat.le_trans ((d.rs t ht).ok q hq).2.1 (by decide)
  cl := fun t ht q hq n hn => ((d.rs t ht).ok q hq).2.2 n hn
  en := ⟨M, d.en⟩
  n12 := d.n12
  so := fun t ht q hq => ((d.rs t ht).ok q hq).1.2.2
theorem RulesOk.perm {nms : List Str} {rs rs' : List Rule} (h : RulesOk nms rs) (p : rs'.Perm rs) : RulesOk nms rs' :=
  ⟨fun e => h.ne (by rw [e] at p; exact List.Perm.eq_nil p.symm), p.nodup_iff.mpr h.nd, by rw [p.length_eq]; exact h.len, fun q hq => h.ok q (p.mem_iff.mp hq)⟩
theorem RulesOk.more {nms nms' : List Str} {rs : List Rule} (h : RulesOk nms rs) (s : ∀ n ∈ nms, n ∈ nms') : RulesOk nms' rs := ⟨h.ne, h.nd, h.len, fun q hq => ⟨(h.ok q hq).1, (h.ok q hq).2.1, fun n hn => s n ((h.ok q hq).2.2 n hn)⟩⟩
theorem gx_perm {R R' : Bk} (g : GX R) (p : R'.Perm R) : GX R' where
  nd := (p.map (·.1)).nodup_iff.mpr g.nd
  few := by rw [p.length_eq]; exact g.few
  some := fun e => g.some (by rw [e] at p; exact List.Perm.eq_nil p.symm)
  nb := fun t ht => g.nb t (p.mem_iff.mp ht)
  ne := fun t ht => g.ne t (p.mem_iff.mp ht)
  rn := fun t ht => g.rn t (p.mem_iff.mp ht)
  rl := fun t ht => g.rl t (p.mem_iff.mp ht)
  lb := fun t ht => g.lb t (p.mem_iff.mp ht)
  rw := fun t ht => g.rw t (p.mem_iff.mp ht)
  cl := fun t ht q hq n hn => (p.map (·.1)).mem_iff.mpr (g.cl t (p.mem_iff.mp ht) q hq n hn)
  en := let ⟨M, h⟩ := g.en; ⟨M, fun t ht => h t (p.mem_iff.mp ht)⟩
  n12 := fun t ht => g.n12 t (p.mem_iff.mp ht)
  so := fun t ht => g.so t (p.mem_iff.mp ht)
/-! ### the letters that are drawn -/
def letters5 : List Str := ["a", "b", "!a", "?a", "eightsgn"]
theorem letters5_ok : ∀ z ∈ letters5, letterB z = true ∧ z.length ≤ 9 ∧ sOk z := by
  intro z hz
  simp only [letters5, List.mem_cons, List.not_mem_nil, or_false] at hz
  rcases hz with rfl | rfl | rfl | rfl | rfl <;> exact ⟨by decide +kernel, by decide +kernel, by unfold sOk; decide +kernel⟩
/-! ### a book drawn talk by talk: n talks ready, their heights -/
structure Half (ns : List Str) (i : Nat) (R : Bk) (Hi : List (Str × Nat)) : Prop where
  nm : R.map (·.1) = ns.take i
  hk : Hi.map (·.1) = ns.take i
  rs : ∀ t ∈ R, RulesOk ns t.2
  en : ∀ t ∈ R, ∃ q ∈ t.2, 1 + sumN (valF Hi) q.2 = valF Hi t.1 ∧ ∀ n ∈ q.2, n ∈ ns.take i
theorem valF_put_ne {Hi : List (Str × Nat)} {n m : Str} {v : Nat} (h : m ≠ n) : valF (putA Hi n v) m = valF Hi m := by
  unfold valF
  rw [getA_put, if_neg h]
theorem valF_put {Hi : List (Str × Nat)} {n : Str} {v : Nat} : valF (putA Hi n v) n = v := by
  unfold valF
  rw [getA_put, if_pos rfl]
  rfl
theorem nd_take {ns : List Str} (nd : ns.Nodup) {i : Nat} {n : Str} (h : ns[i]? = some n) : n ∉ ns.take i := by
  intro hm
  obtain ⟨j, hj, e⟩ := List.mem_iff_getElem.mp hm
  rw [List.length_take] at hj
  rw [List.getElem_take] at e
  have hi := (List.getElem?_eq_some_iff.mp h)
  obtain ⟨hi, e2⟩ := hi
  have := nd_inj nd (i := j) (j := i) (by omega) hi (by rw [e, e2])
  omega
theorem Half.next {ns : List Str} (nd : ns.Nodup) {i : Nat} {R : Bk} {Hi : List (Str × Nat)} (h : Half ns i R Hi) {n : Str} (hn : ns[i]? = some n) {rs : List Rule} (ok : RulesOk ns rs) {q : Rule} (hq : q ∈ rs) (hlow : ∀ m ∈ q.2, m ∈ ns.take i) :
    Half ns (i + 1) (putA R n rs) (putA Hi n (1 + sumN (valF Hi) q.2)) := by
  have nf := nd_take nd hn
  have tk : ns.take (i + 1) = ns.take i ++ [n] := by rw [List.take_succ, hn]; rfl
  have eR : putA R n rs = R ++ [(n, rs)] := putA_new (by rw [h.nm]; exact nf)
  have eH : putA Hi n (1 + sumN (valF Hi) q.2) = Hi ++ [(n, 1 + sumN (valF Hi) q.2)] := putA_new (by rw [h.hk]; exact nf)
  have same : ∀ r : List Str, (∀ m ∈ r, m ∈ ns.take i) → sumN (valF (putA Hi n (1 + sumN (valF Hi) q.2))) r = sumN (valF Hi) r := fun r hr => sumN_congr fun m hm => valF_put_ne fun e : m = n => nf (e ▸ hr m hm)
  refine ⟨by rw [eR, List.map_append, h.nm, tk]; rfl, by rw [eH, List.map_append, h.hk, tk]; rfl, fun t ht => ?_, fun t ht => ?_⟩
  · rw [eR] at ht
    rcases List.mem_append.mp ht with ht | ht
    · exact h.rs t ht
    · rw [List.mem_singleton.mp ht]; exact ok
  · rw [eR] at ht
    rcases List.mem_append.mp ht with ht | ht
    · obtain ⟨q', hq', e, hl⟩ := h.en t ht
      refine ⟨q', hq', ?_, fun m hm => by rw [tk]; exact List.mem_append_left _ (hl m hm)⟩
      have tm : t.1 ∈ ns.take i := by rw [← h.nm]; exact List.mem_map.mpr ⟨t, ht, rfl⟩
      rw [same q'.2 hl, valF_put_ne fun e : t.1 = n => nf (e ▸ tm)]
      exact e
    · rw [List.mem_singleton.mp ht]
      exact ⟨q, hq, by rw [same q.2 hlow, valF_put], fun m hm => by rw [tk]; exact List.mem_append_left _ (hlow m hm)⟩
theorem Half.done {ns : List Str} (nd : ns.Nodup) (hne : ns ≠ []) (h10 : ns.length ≤ 10) (h12 : ∀ n ∈ ns, n ∈ names12) {R : Bk} {Hi : List (Str × Nat)} (h : Half ns ns.length R Hi) : Drawn R (valF Hi) ∧ R.map (·.1) = ns := by
  have e : R.map (·.1) = ns := by rw [h.nm, List.take_length]
  have hl : R.length = ns.length := by rw [← e, List.length_map]
  refine ⟨⟨by rw [e]; exact nd, fun t ht => h12 _ (by rw [← e]; exact List.mem_map.mpr ⟨t, ht, rfl⟩), fun z => hne (by rw [← e, z]; rfl), by omega, fun t ht => by rw [e]; exact h.rs t ht, fun t ht => ?_⟩, e⟩
  obtain ⟨q, hq, e2, _⟩ := h.en t ht
  exact ⟨q, hq, Nat.le_of_eq e2⟩
end K8
set_option maxRecDepth 100000
set_option maxHeartbeats 4000000
namespace K8
open PySem PySem.Spec PyProof.Rows L2
/-! ### a talk called anew -/
def Varied (new one : Str) (rest : List Str) : List Str → List Str → Prop := Paired (fun a b => b = a ∨ (a = one ∧ rest = [] ∧ b = new))
theorem varied_back {new one : Str} {rest : List Str} : ∀ {row sm : List Str}, Varied new one rest row sm → new ∉ row → sm.map (fun b => if b = new then one else b) = row
  | _, _, .nil, _ => rfl
  | a :: row, b :: sm, .cons q t, h => by
    have h1 : a ≠ new := fun e => h (e ▸ List.mem_cons_self)
    rw [List.map_cons, varied_back t fun z => h (List.mem_cons_of_mem _ z)]
    congr 1
    rcases q with e | ⟨e1, _, e2⟩
    · rw [e, if_neg h1]
    · rw [e2, if_pos rfl, e1]
theorem varied_same {new one : Str} {rest : List Str} : ∀ {row sm : List Str}, Varied new one rest row sm → one ∉ row → sm = row
  | _, _, .nil, _ => rfl
  | a :: row, b :: sm, .cons q t, h => by
    rw [varied_same t fun z => h (List.mem_cons_of_mem _ z)]
    rcases q with e | ⟨e1, _, e2⟩
    · rw [e]
    · exact absurd (e1 ▸ List.mem_cons_self) h
theorem varied_mem {new one : Str} {rest : List Str} {nms : List Str} : ∀ {row sm : List Str}, Varied new one rest row sm → (∀ n ∈ row, n ∈ nms) → ∀ n ∈ sm, n ∈ nms ++ [new]
  | _, _, .nil, _ => fun _ z => by cases z
  | a :: row, b :: sm, .cons q t, h => fun n hn => by
    rcases List.mem_cons.mp hn with e | hn
    · rcases q with e1 | ⟨_, _, e2⟩
      · rw [e, e1]; exact List.mem_append_left _ (h a List.mem_cons_self)
      · rw [e, e2]; exact List.mem_append_right _ List.mem_cons_self
    · exact varied_mem t (fun m hm => h m (List.mem_cons_of_mem _ hm)) n hn
def Anew (new one : Str) (rest : List Str) : List Rule → List Rule → Prop := Paired (fun q q' => q'.1 = q.1 ∧ ∃ sm, q'.2 = sm ++ rest ∧ Varied new one rest q.2 sm)
theorem anew_back {new one : Str} {rest : List Str} : ∀ {rs rs' : List Rule}, Anew new one rest rs rs' → (∀ q ∈ rs, new ∉ q.2) → rs'.map (fun q' => (q'.1, (q'.2.take (q'.2.length - rest.length)).map (fun b => if b = new then one else b))) = rs
  | _, _, .nil, _ => rfl
  | q :: rs, q' :: rs', .cons ⟨e1, sm, e2, v⟩ t, h => by
    rw [List.map_cons, anew_back t fun z hz => h z (List.mem_cons_of_mem _ hz)]
    congr 1
    refine Prod.ext e1 ?_
    show ((q'.2.take (q'.2.length - rest.length)).map fun b => if b = new then one else b) = q.2
    rw [e2, List.length_append, Nat.add_sub_cancel, List.take_left]
    exact varied_back v (h q List.mem_cons_self)
theorem anew_mem {new one : Str} {rest : List Str} : ∀ {rs rs' : List Rule}, Anew new one rest rs rs' → ∀ q' ∈ rs', ∃ q ∈ rs, q'.1 = q.1 ∧ ∃ sm, q'.2 = sm ++ rest ∧ Varied new one rest q.2 sm
  | _, _, .nil => fun _ z => by cases z
  | q :: rs, q' :: rs', .cons p t => fun x hx => by
    rcases List.mem_cons.mp hx with e | hx
    · exact ⟨q, List.mem_cons_self, by rw [e]; exact p⟩
    · obtain ⟨y, hy, r⟩ := anew_mem t x hx
      exact ⟨y, List.mem_cons_of_mem _ hy, r⟩
theorem anew_of {new one : Str} {rest : List Str} : ∀ {rs rs' : List Rule}, Anew new one rest rs rs' → ∀ q ∈ rs, ∃ q' ∈ rs', q'.1 = q.1 ∧ ∃ sm, q'.2 = sm ++ rest ∧ Varied new one rest q.2 sm
  | _, _, .nil => fun _ z => by cases z
  | q :: rs, q' :: rs', .cons p t => fun x hx => by
    rcases List.mem_cons.mp hx with e | hx
    · exact ⟨q', List.mem_cons_self, by rw [e]; exact p⟩
    · obtain ⟨y, hy, r⟩ := anew_of t x hx
      exact ⟨y, List.mem_cons_of_mem _ hy, r⟩
theorem drawn_anew {R : Bk} {M : Str → Nat} (d : Drawn R M) {new one : Str} {rest : List Str} {rs rs' : List Rule} (hone : getA R one = some rs) (hnew : new ∉ R.map (·.1)) (h12 : new ∈ names12) (hrest : ∀ n ∈ rest, n ∈ R.map (·.1)) (a : Anew new one rest rs rs') (few : R.length < 10) (hl : ∀ q ∈ rs', q.2.length < 5) {ss : List Rule} (hs : ss.Perm rs') :
    ∃ M', Drawn (putA R new ss) M' := by
  have om := getA_mem hone
  have ok := d.rs _ om
  have notin : ∀ t ∈ R, ∀ q ∈ t.2, new ∉ q.2 := fun t ht q hq z => hnew (((d.rs t ht).ok q hq).2.2 new z)
  have eR : putA R new ss = R ++ [(new, ss)] := putA_new hnew
  have nmR : (R ++ [(new, ss)]).map (·.1) = R.map (·.1) ++ [new] := by rw [List.map_append]; rfl
  have back := anew_back a fun q hq => notin _ om q hq
  have nd' : rs'.Nodup := by
    have : (rs'.map (fun q' => (q'.1, (q'.2.take (q'.2.length - rest.length)).map (fun b => if b = new then one else b)))).Nodup := by rw [back]; exact ok.nd
    exact List.Pairwise.of_map (S := fun x y => x ≠ y) _ (fun x y h e => h (by rw [e])) this
  let M' : Str → Nat := fun n => if n = new then M one + sumN M rest else M n
  have Mold : ∀ n ∈ R.map (·.1), M' n = M n := fun n hn => if_neg fun e : n = new => hnew (e ▸ hn)
  have Msum : ∀ r : List Str, (∀ n ∈ r, n ∈ R.map (·.1)) → sumN M' r = sumN M r := fun r hr => sumN_congr fun n hn => Mold n (hr n hn)
  rw [eR]
  refine ⟨M', ⟨?_, fun t ht => ?_, by simp, by rw [List.length_append]; exact few, fun t ht => ?_, fun t ht => ?_⟩⟩
  · rw [nmR]
    refine List.nodup_append.mpr ⟨d.nd, by simp, fun x hx y hy e => ?_⟩
    rw [List.mem_singleton.mp hy] at e
    exact hnew (e ▸ hx)
  · rcases List.mem_append.mp ht with ht | ht
    · exact d.n12 t ht
    · rw [List.mem_singleton.mp ht]; exact h12
  · rw [nmR]
    rcases List.mem_append.mp ht with ht | ht
    · exact (d.rs t ht).more fun n hn => List.mem_append_left _ hn
    · rw [List.mem_singleton.mp ht]
      have lens : rs'.length = rs.length := paired_len a
      refine RulesOk.perm ⟨fun e => ok.ne (List.eq_nil_of_length_eq_zero (by rw [← lens, e]; rfl)), nd', by rw [lens]; exact ok.len, fun q' hq' => ?_⟩ hs
      obtain ⟨q, hq, e1, sm, e2, v⟩ := anew_mem a q' hq'
      obtain ⟨o1, o2, o3⟩ := ok.ok q hq
      refine ⟨by rw [e1]; exact o1, Nat.le_of_lt_succ (hl q' hq'), fun n hn => ?_⟩
      rw [e2] at hn
      rcases List.mem_append.mp hn with hn | hn
      · exact varied_mem v o3 n hn
      · exact List.mem_append_left _ (hrest n hn)
  · rcases List.mem_append.mp ht with ht | ht
    · obtain ⟨q, hq, e⟩ := d.en t ht
      refine ⟨q, hq, ?_⟩
      rw [Msum q.2 ((d.rs t ht).ok q hq).2.2, Mold t.1 (List.mem_map.mpr ⟨t, ht, rfl⟩)]
      exact e
    · rw [List.mem_singleton.mp ht]
      obtain ⟨q, hq, e⟩ := d.en _ om
      have e : 1 + sumN M q.2 ≤ M one := e
      have no : one ∉ q.2 := fun z => by
        have := sumN_mem (M := M) z
        omega
      obtain ⟨q', hq', e1, sm, e2, v⟩ := anew_of a q hq
      rw [varied_same v no] at e2
      refine ⟨q', hs.mem_iff.mpr hq', ?_⟩
      rw [e2, sumN_app, Msum q.2 (ok.ok q hq).2.2, Msum rest hrest]
      show 1 + (sumN M q.2 + sumN M rest) ≤ if new = new then M one + sumN M rest else M new
      rw [if_pos rfl]
      omega
end K8
set_option maxRecDepth 100000
set_option maxHeartbeats 8000000
namespace K8
open PySem PySem.Spec PyProof.Rows L2
/-! ### a value whichever way it was found: what follows is shown once -/
theorem tif_x {t : TT} {ta tb : TE} {σ : L2.St} {H : Hp} {Q : VK} (Z : V → Hp → Prop) (hx : ∀ v H', Z v H' → Q v H') (h : (∀ v H', Z v H' → Q v H') → tIf t ta tb σ H Q) : tIf t ta tb σ H Q := h hx
theorem gname_x {i : Nat} {v : V} {σ : L2.St} {H : Hp} {Q : L2.St → Hp → Prop} (h : Q (σ.set i (some v)) H) : gName i v σ H Q := h
theorem nx_mk {nx : L2.St → Hp → Prop} {rt : VK} {bk ct : L2.St → Hp → Prop} {σ : L2.St} {H : Hp} (h : nx σ H) : (Ends.mk nx rt bk ct).nx σ H := h
theorem seq_tif {c : TT} {ta tb : TE} {g : TG} {rest : TS} {D : Ends} {σ : L2.St} {H : Hp} (h : tIf c ta tb σ H fun x H1 => g x σ H1 fun σ' H' => rest D σ' H') : tSeq (tAsg (tIf c ta tb) g) rest D σ H := h
theorem paired_snoc {α β : Type} {P : α → β → Prop} {a : α} {b : β} : ∀ {l : List α} {m : List β}, Paired P l m → P a b → Paired P (l ++ [a]) (m ++ [b])
  | _, _, .nil, h => .cons h .nil
  | _, _, .cons q t, h => .cons q (paired_snoc t h)
theorem drop_more {α : Type} {l : List α} {i : Nat} {z : α} (h : z ∈ l.drop (i + 1)) : z ∈ l.drop i := by
  have : (l.drop i).drop 1 = l.drop (i + 1) := by rw [List.drop_drop]
  exact List.mem_of_mem_drop (this ▸ h)
theorem drop_other {α : Type} {l : List α} (nd : l.Nodup) {i : Nat} {x z : α} (h : l[i]? = some x) (hz : z ∈ l.drop (i + 1)) : z ≠ x := by
  obtain ⟨hi, e⟩ := List.getElem?_eq_some_iff.mp h
  have e1 : l.drop i = x :: l.drop (i + 1) := by rw [← e]; exact List.drop_eq_getElem_cons hi
  have nd2 : (x :: l.drop (i + 1)).Nodup := by rw [← e1]; exact (List.drop_sublist _ _).nodup nd
  intro e2
  exact (List.nodup_cons.mp nd2).1 (e2 ▸ hz)
/-- a place where something stands -/
def HasH (h : Addr) (Y : Hp) : Prop := ∃ o, Y h = some o
theorem HasH.same {h : Addr} {A B : Hp} (g : HasH h A) (s : Same A B) : HasH h B := let ⟨o, e⟩ := g; ⟨o, s _ _ e⟩
theorem HasH.put {h p : Addr} {A : Hp} {o : HO} (g : HasH h A) : HasH h (upd A p o) := by
  by_cases e : h = p
  · exact ⟨o, by rw [e]; exact upd_same⟩
  · obtain ⟨o', e'⟩ := g
    exact ⟨o', by rw [upd_ne e]; exact e'⟩
theorem HasH.draw {h S S0 : Addr} {A B : Hp} (g : HasH h A) (s : Same (hid [S, S0] A) (hid [S, S0] B)) (n : h ∉ [S, S0]) : HasH h B := let ⟨o, e⟩ := g; ⟨o, keep_at s e n⟩
theorem HasH.ne {h p : Addr} {A : Hp} (g : HasH h A) (n : A p = none) : p ≠ h := let ⟨_, e⟩ := g; (ne_of_none e n).symm
def spBookD (K : PySem.W.Frag) : Sp := fun vs H Q _ => ∃ (S S0 : Addr) (c m : Nat), vs = [.ref S, .int m] ∧ Stm S S0 c H ∧ c + 5000 ≤ LIM ∧ 1 ≤ m ∧ m ≤ 6 ∧
  ∀ (p : Addr) (kvs : List (Key × V)) (R : Bk) (H' : Hp), H' p = some (.dK kvs) → KvD K (hid [S, S0] H') encRs R kvs → GX R → Stm S S0 (c + 5000) H' → Same (hid [S, S0] H) (hid [S, S0] H') → Q (.ref p) H'
/-- a list that is drawn from: its place, its texts -/
theorem sqZ {K : PySem.W.Frag} {H : Hp} {p : Addr} {xs : List V} {M : List Addr} {S S0 : Addr} (h : hid (M ++ [S, S0]) H p = some (.lst xs)) : SqL K (hid [S, S0] H) p xs := SqL.of (hid_get (fun z => (hid_of h).1 (List.mem_append_right _ z)) (hid_of h).2)
theorem not_in4 {p h f S S0 : Addr} (h1 : p ≠ h) (h2 : p ≠ f) (h3 : p ∉ [S, S0]) : p ∉ [h, f] ++ [S, S0] := fun z => by
  rcases List.mem_append.mp z with z | z
  · rcases List.mem_cons.mp z with z | z
    · exact h1 z
    · exact h2 (List.mem_singleton.mp z)
  · exact h3 z
theorem strs_of {ns : List Str} {v : V} (h : v ∈ ns.map V.str) : ∃ n, n ∈ ns ∧ v = .str n := by
  obtain ⟨n, hn, rfl⟩ := List.mem_map.mp h
  exact ⟨n, hn, rfl⟩
section
variable {P : Program} {w : World} {K : PySem.W.Frag} {mg : Str → Option Value} {base : Heap}
theorem sc_d_book : FnScope ["_law_stream", "_law_most", "_law_names", "_law_found", "_law_high", "_law_letters", "_law_at", "_law_name", "_law_k", "_law_low", "_law_one", "_law_rules", "_law_row", "_law_new", "_law_rest", "_law_letter", "_law_some", "_law_turn", "_law_far"] ["_law_stream", "_law_most"] (defScope s_d_book) := ⟨rfl, rfl, rfl, by decide +kernel, rfl, by decide +kernel, by decide +kernel⟩
theorem ok_d_book (T : Txt K mg) : FnOk P w K mg base CX0 4 T.d_book.f T.d_book.fd ["_law_stream", "_law_most"] (spBookD K) := by
  have G_draw : FnOk P w K mg base CX0 3 T.draw.f T.draw.fd _ spDraw := (ok_draw T).mono (by decide)
  have G_pick : FnOk P w K mg base CX0 3 T.pick.f T.pick.fd _ (spPick K) := (ok_pick T).mono (by decide)
  have G_mixed : FnOk P w K mg base CX0 3 T.mixed.f T.mixed.fd _ (spMixed K) := (ok_mixed T).mono (by decide)
  have G_d_names : FnOk P w K mg base CX0 3 T.d_names.f T.d_names.fd _ spDNames := ok_d_names T
  have G_each_once : FnOk P w K mg base CX0 3 T.each_once.f T.each_once.fd _ (spOnce K rOk encL) := (ok_each_once enc_L T).mono (by decide)
  refine T.d_book.F.ok sc_d_book (fun vs H Q E h => ?_) (fun cdv A outer s H vs Q E hr h => ?_)
  · obtain ⟨S, S0, c, m, rfl, _⟩ := h
    rfl
  obtain ⟨S, S0, c, m, rfl, st, hc, hm1, hm6, q⟩ := h
  have hc : c + 5000 ≤ 1099511627776 := hc
  have nd := sc_d_book.nd
  have hu := hu_of hr
  have hu64 := hr.units
  have hu65 : (A.deeper (envOfC "_law_d_book" (defScope s_d_book) s.heap.objs.size T.d_book.f cdv)).units + 65 < cLine := by have := hr.un; omega
  refine ⟨_, (pss_cons (ps_asg (pe_tup (pa_cons (eC T.d_names G_d_names hr (pa_cons (pv 0) (pa_cons (pe_op op_add pe_int (eC T.draw G_draw hr (pa_cons (pv 0) (pa_cons (pv 1) pa_nil)))) pa_nil))) (pa_cons pe_dnewK (pa_cons pe_dnewK pa_nil)))) (gTu (K := K) rfl (pgs_cons (pg_name (i := 2) nd rfl (Or.inr rfl)) (pgs_cons (pg_name (i := 3) nd rfl (Or.inr rfl)) (pgs_cons (pg_name (i := 4) nd rfl (Or.inr rfl)) pgs_nil)))))
    (pss_cons (ps_set (i := 5) nd rfl (Or.inl rfl) (pe_slice (slL K) (eC T.mixed G_mixed hr (pa_cons (pv 0) (pa_cons (pe_lst (pa_cons pe_str (pa_cons pe_str (pa_cons pe_str (pa_cons pe_str (pa_cons pe_str pa_nil)))))) pa_nil))) po_none (po_some (pe_op op_add pe_int (eC T.draw G_draw hr (pa_cons (pv 0) (pa_cons pe_int pa_nil)))))))
    (pss_cons (ps_for PassesOwn.never rfl (pi_enumA K T.z_enumerate (pv 2)) (gTu (K := K) rfl (pgs_cons (pg_name (i := 6) nd rfl (Or.inr rfl)) (pgs_cons (pg_name (i := 7) nd rfl (Or.inl rfl)) pgs_nil)))
      (pss_cons (ps_setLc (i := 9) (own := [("_law_k", 8)]) (g := gName 8) (tt := tYes) rfl nd rfl rfl (sw_true rfl rfl rfl (by decide +kernel)) (pi_range1 rfl T.z_range (pa_cons (pe_ifExp (pt_cmpR op_gt (pv 6) pe_int (nomark _)) (eC T.draw G_draw hr (pa_cons (pv 0) (pa_cons pe_int pa_nil))) pe_int) pa_nil)) (blkOk_by (N := ["_law_stream", "_law_most", "_law_names", "_law_found", "_law_high", "_law_letters", "_law_at", "_law_name", "_law_k", "_law_low", "_law_one", "_law_rules", "_law_row", "_law_new", "_law_rest", "_law_letter", "_law_some", "_law_turn", "_law_far"]) (sc := defScope s_d_book) (by decide +kernel)) (fun _ _ _ _ _ => (pg_name (i := 8) nd rfl (Or.inl rfl))) (fun _ _ _ _ _ => pts_nil) (fun _ _ _ _ _ => (eC T.pick G_pick hr (pa_cons (pv 0) (pa_cons (pe_slice (slL K) (pv 2) po_none (po_some (pv 6))) pa_nil)))))
      (pss_cons (ps_set (i := 9) nd rfl (Or.inl rfl) (pe_ifExp (pt_cmpR op_lt (eSum K rfl T.z_sum (pe_lc (own := [("_law_one", 10)]) (g := gName 10) (tt := tYes) rfl nd (iL K (pv 9)) (blkOk_by (N := ["_law_stream", "_law_most", "_law_names", "_law_found", "_law_high", "_law_letters", "_law_at", "_law_name", "_law_k", "_law_low", "_law_one", "_law_rules", "_law_row", "_law_new", "_law_rest", "_law_letter", "_law_some", "_law_turn", "_law_far"]) (sc := defScope s_d_book) (by decide +kernel)) (fun _ _ _ _ _ => (pg_name (i := 10) nd rfl (Or.inl rfl))) (fun _ _ _ _ _ => pts_nil) (fun _ _ _ _ _ => (pe_dget hu (pv 4) (pv 10) (fun _ _ => rfl))))) pe_int (nomark _)) (pv 9) (pe_lst pa_nil)))
      (pss_cons (ps_asg (pe_tup (pa_cons (pe_op op_add pe_int (eSum K rfl T.z_sum (pe_lc (own := [("_law_one", 10)]) (g := gName 10) (tt := tYes) rfl nd (iL K (pv 9)) (blkOk_by (N := ["_law_stream", "_law_most", "_law_names", "_law_found", "_law_high", "_law_letters", "_law_at", "_law_name", "_law_k", "_law_low", "_law_one", "_law_rules", "_law_row", "_law_new", "_law_rest", "_law_letter", "_law_some", "_law_turn", "_law_far"]) (sc := defScope s_d_book) (by decide +kernel)) (fun _ _ _ _ _ => (pg_name (i := 10) nd rfl (Or.inl rfl))) (fun _ _ _ _ _ => pts_nil) (fun _ _ _ _ _ => (pe_dget hu (pv 4) (pv 10) (fun _ _ => rfl)))))) (pa_cons (pe_lst (pa_cons (pe_tup (pa_cons (eC T.pick G_pick hr (pa_cons (pv 0) (pa_cons (pv 5) pa_nil))) (pa_cons (pv 9) pa_nil))) pa_nil)) pa_nil))) (gTu (K := K) rfl (pgs_cons (pg_sub (pv 4) (pv 7) (set_dict hu)) (pgs_cons (pg_name (i := 11) nd rfl (Or.inl rfl)) pgs_nil))))
      (pss_cons (ps_for PassesOwn.never rfl (pi_range1 rfl T.z_range (pa_cons (eC T.draw G_draw hr (pa_cons (pv 0) (pa_cons pe_int pa_nil))) pa_nil)) (pg_name (i := 8) nd rfl (Or.inl rfl))
        (pss_cons (ps_setLc (i := 12) (own := [("_law_turn", 17)]) (g := gName 17) (tt := tYes) rfl nd rfl rfl (sw_true rfl rfl rfl (by decide +kernel)) (pi_range1 rfl T.z_range (pa_cons (eC T.draw G_draw hr (pa_cons (pv 0) (pa_cons pe_int pa_nil))) pa_nil)) (blkOk_by (N := ["_law_stream", "_law_most", "_law_names", "_law_found", "_law_high", "_law_letters", "_law_at", "_law_name", "_law_k", "_law_low", "_law_one", "_law_rules", "_law_row", "_law_new", "_law_rest", "_law_letter", "_law_some", "_law_turn", "_law_far"]) (sc := defScope s_d_book) (by decide +kernel)) (fun _ _ _ _ _ => (pg_name (i := 17) nd rfl (Or.inl rfl))) (fun _ _ _ _ _ => pts_nil) (fun _ _ _ _ _ => (eC T.pick G_pick hr (pa_cons (pv 0) (pa_cons (pv 2) pa_nil)))))
        (pss_one (ps_expr (eAppend K (pv 11) (pe_tup (pa_cons (eC T.pick G_pick hr (pa_cons (pv 0) (pa_cons (pv 5) pa_nil))) (pa_cons (pv 12) pa_nil))))))))
      (pss_one (ps_dput hu (pv 3) (pv 7) (e1SortD K hu65 T.z_sorted (eC T.each_once G_each_once hr (pa_cons (pv 11) pa_nil))) rfl)))))))
    (pss_cons (ps_for PassesOwn.never rfl (iL K (pe_slice (slL K) (pe_lc (own := [("_law_name", 7)]) (g := gName 7) rfl nd (iL K (eC T.d_names G_d_names hr (pa_cons (pv 0) (pa_cons pe_int pa_nil)))) (blkOk_by (N := ["_law_stream", "_law_most", "_law_names", "_law_found", "_law_high", "_law_letters", "_law_at", "_law_name", "_law_k", "_law_low", "_law_one", "_law_rules", "_law_row", "_law_new", "_law_rest", "_law_letter", "_law_some", "_law_turn", "_law_far"]) (sc := defScope s_d_book) (by decide +kernel)) (fun _ _ _ _ _ => (pg_name (i := 7) nd rfl (Or.inl rfl))) (fun _ _ _ _ _ => pts_one (pt_cmp (pc_dnotin hu (pv 7) (pv 3)) (by rfl))) (fun _ _ _ _ _ => (pv 7))) po_none (po_some (eC T.draw G_draw hr (pa_cons (pv 0) (pa_cons pe_int pa_nil)))))) (pg_name (i := 13) nd rfl (Or.inr rfl))
      (pss_cons (ps_asg (pe_tup (pa_cons (eC T.pick G_pick hr (pa_cons (pv 0) (pa_cons (pv 2) pa_nil))) (pa_cons (pe_ifExp (pt_cmpR op_eq (eC T.draw G_draw hr (pa_cons (pv 0) (pa_cons pe_int pa_nil))) pe_int (nomark _)) (pe_lst (pa_cons (eC T.pick G_pick hr (pa_cons (pv 0) (pa_cons (pv 2) pa_nil))) pa_nil)) (pe_lst pa_nil)) pa_nil))) (gTu (K := K) rfl (pgs_cons (pg_name (i := 10) nd rfl (Or.inr rfl)) (pgs_cons (pg_name (i := 14) nd rfl (Or.inr rfl)) pgs_nil))))
      (pss_cons (ps_set (i := 11) nd rfl (Or.inl rfl) (pe_lst pa_nil))
      (pss_cons (ps_for PassesOwn.never rfl (iL K (pe_dget hu (pv 3) (pv 10) (fun _ _ => rfl))) (gTu (K := K) rfl (pgs_cons (pg_name (i := 15) nd rfl (Or.inl rfl)) (pgs_cons (pg_name (i := 12) nd rfl (Or.inl rfl)) pgs_nil)))
        (pss_cons (ps_setLc (i := 16) (own := [("_law_far", 18)]) (g := gName 18) (tt := tYes) rfl nd rfl rfl (sw_true rfl rfl rfl (by decide +kernel)) (iL K (pv 12)) (blkOk_by (N := ["_law_stream", "_law_most", "_law_names", "_law_found", "_law_high", "_law_letters", "_law_at", "_law_name", "_law_k", "_law_low", "_law_one", "_law_rules", "_law_row", "_law_new", "_law_rest", "_law_letter", "_law_some", "_law_turn", "_law_far"]) (sc := defScope s_d_book) (by decide +kernel)) (fun _ _ _ _ _ => (pg_name (i := 18) nd rfl (Or.inl rfl))) (fun _ _ _ _ _ => pts_nil) (fun _ _ _ _ _ => (pe_ifExp (PW.pt (pw_and (pt_cmpR op_eq (pv 18) (pv 10) (nomark _)) (pw_and (pt_cmpR (oEqD K hu64) (pv 14) (pe_lst pa_nil) (nomark _)) (pw_and1 (pt_cmpR op_eq (eC T.draw G_draw hr (pa_cons (pv 0) (pa_cons pe_int pa_nil))) pe_int (nomark _)))))) (pv 13) (pv 18))))
        (pss_one (ps_expr (eAppend K (pv 11) (pe_tup (pa_cons (pv 15) (pa_cons (pe_op (oCatL K) (pv 16) (pv 14)) pa_nil))))))))
      (pss_one (ps_if (PW.pt (pw_and (pt_cmpR op_lt (eLenD T.z_len (pv 3)) pe_int (nomark _)) (pw_and1 (pt_cmpR op_lt (eMax K rfl T.z_max (pe_lc (own := [("_law_letter", 15), ("_law_row", 12)]) (g := gTup K 2 (gCons (gName 15) (gCons (gName 12) gNil))) (tt := tYes) rfl nd (iL K (pv 11)) (blkOk_by (N := ["_law_stream", "_law_most", "_law_names", "_law_found", "_law_high", "_law_letters", "_law_at", "_law_name", "_law_k", "_law_low", "_law_one", "_law_rules", "_law_row", "_law_new", "_law_rest", "_law_letter", "_law_some", "_law_turn", "_law_far"]) (sc := defScope s_d_book) (by decide +kernel)) (fun _ _ _ _ _ => (gTu (K := K) rfl (pgs_cons (pg_name (i := 15) nd rfl (Or.inl rfl)) (pgs_cons (pg_name (i := 12) nd rfl (Or.inl rfl)) pgs_nil)))) (fun _ _ _ _ _ => pts_nil) (fun _ _ _ _ _ => (eLen K T.z_len (pv 12))))) pe_int (nomark _)))))
        (pss_cons (ps_dput hu (pv 3) (pv 13) (e1SortD K hu65 T.z_sorted (pv 11)) rfl)
        (pss_one (ps_set (i := 2) nd rfl (Or.inr rfl) (pe_op (oCatL K) (pv 2) (pe_lst (pa_cons (pv 13) pa_nil)))))) pss_nil))))))
    (pss_one (ps_ret (eDictP K rfl T.z_dict (eSortItems K rfl hu65 T.z_sorted (pv 3))))))))), ?_⟩
  -- names, found, high
  refine ⟨_, rfl, _, rfl, _, rfl, S, S0, c, m, rfl, st, by omega, by omega, by omega, fun r H1 r0 r1 st1 sm1 => ⟨_, _, rfl, rfl, ?_⟩⟩
  obtain ⟨r, rfl⟩ : ∃ r' : Nat, r = r' := ⟨r.toNat, by omega⟩
  refine ⟨S, S0, c + 1, 1 + r, rfl, st1, by omega, fun p0 ns H2 ndn n12 nl np0 hp0 st2 sm2 => ?_⟩
  have nl : ns.length = 1 + r := by rw [nl]; omega
  have X2 : St S S0 [] (c + 13) H H2 := ((St.start st).draw st1 sm1).draw (st2.mono (by omega)) sm2
  intro f nf
  have X3 : St S S0 [f] (c + 13) H (upd H2 f (.dK [])) := X2.push nf (by simp)
  have hp3 := same_new (o := .dK []) nf _ _ hp0
  have hf3 : upd H2 f (.dK []) f = some (.dK []) := upd_same
  have pf : p0 ≠ f := ne_of_none hp0 nf
  generalize upd H2 f (.dK []) = H3 at X3 hp3 hf3 ⊢
  intro h nh
  have fh : f ≠ h := ne_of_none hf3 nh
  have ph : p0 ≠ h := ne_of_none hp3 nh
  have X4 : St S S0 [h, f] (c + 13) H (upd H3 h (.dK [])) := X3.push nh (by simpa using fh.symm)
  have hp4 := same_new (o := .dK []) nh _ _ hp3
  have hf4 := same_new (o := .dK []) nh _ _ hf3
  have hh4 : upd H3 h (.dK []) h = some (.dK []) := upd_same
  generalize upd H3 h (.dK []) = H4 at X4 hp4 hf4 hh4 ⊢
  refine ⟨(by show 3 ≤ sizeLine; decide), fun z nz => ⟨z, _, rfl, SqT.of upd_same, rfl, _, _, rfl, _, _, rfl, _, _, rfl, rfl, ?_⟩⟩
  have X5 : St S S0 [h, f] (c + 13) H (upd H4 z (.tup [.ref p0, .ref f, .ref h])) := X4.new nz
  have s5 := same_new (o := .tup [.ref p0, .ref f, .ref h]) nz
  have hp5 := s5 _ _ hp4
  have hf5 := s5 _ _ hf4
  have hh5 := s5 _ _ hh4
  generalize upd H4 z (.tup [.ref p0, .ref f, .ref h]) = H5 at X5 hp5 hf5 hh5 ⊢
  -- letters
  refine ⟨_, rfl, (by show 5 ≤ sizeLine; decide), fun l nl5 => ?_⟩
  have X6 : St S S0 [h, f] (c + 13) H (upd H5 l (.lst (letters5.map V.str))) := X5.new nl5
  have s6 := same_new (o := .lst (letters5.map V.str)) nl5
  have hp6 := s6 _ _ hp5
  have hf6 := s6 _ _ hf5
  have hh6 := s6 _ _ hh5
  have hl6 : upd H5 l (.lst (letters5.map V.str)) l = some (.lst (letters5.map V.str)) := upd_same
  have l6 := X5.out nl5
  have fS : f ∉ [S, S0] := (X6.ap f (by simp)).1
  have hS : h ∉ [S, S0] := (X6.ap h (by simp)).1
  have pS : p0 ∉ [S, S0] := St.out (St.start st1) np0
  refine ⟨S, S0, c + 13, l, letters5.map V.str, rfl, X6.st, by show c + 13 + 5 ≤ 1099511627776; omega, SqL.of (hid_get l6 hl6), by show 5 ≤ 1000000; decide, fun L0 ys H7 pm nL0 hL0 st7 sm7 => ?_⟩
  obtain ⟨ms, rfl, pml⟩ := strs_perm pm
  have X7 : St S S0 [h, f] (c + 18) H H7 := X6.draw st7 sm7
  have L0S : L0 ∉ [S, S0] := X6.out nL0
  have hp7 := keep_at sm7 hp6 pS
  have hf7 := keep_at sm7 hf6 fS
  have hh7 := keep_at sm7 hh6 hS
  refine ⟨_, rfl, S, S0, c + 18, 3, rfl, X7.st, by omega, by decide, by decide, fun r2 H8 r20 r21 st8 sm8 => ⟨_, _, rfl, rfl, _, rfl, ?_⟩⟩
  obtain ⟨r2, rfl⟩ : ∃ r' : Nat, r2 = r' := ⟨r2.toNat, by omega⟩
  have X8 : St S S0 [h, f] (c + 19) H H8 := X7.draw st8 sm8
  have hp8 := keep_at sm8 hp7 pS
  have hf8 := keep_at sm8 hf7 fS
  have hh8 := keep_at sm8 hh7 hS
  have hL8 := keep_at sm8 hL0 L0S
  refine ⟨L0, _, rfl, SqL.of hL8, fun L nL => ?_⟩
  have ec : cutV (ms.map V.str) none (some ((1 : Int) + (r2 : Nat))) = (ms.take (1 + r2)).map V.str := by
    rw [show (1 : Int) + (r2 : Nat) = ((1 + r2 : Nat) : Int) by omega, cut_take, List.map_take]
  rw [ec]
  obtain ⟨ls, els⟩ : ∃ ls, ls = ms.take (1 + r2) := ⟨_, rfl⟩
  have lsok : ∀ z ∈ ls, letterB z = true ∧ z.length ≤ 9 ∧ sOk z := fun z hz => letters5_ok z (pml.mem_iff.mp (List.mem_of_mem_take (els ▸ hz)))
  have lslen : ls.length ≤ 5 := by rw [els, List.length_take, pml.length_eq]; exact Nat.min_le_right _ _
  have lsne : 0 < ls.length := by rw [els, List.length_take, pml.length_eq]; show 0 < min (1 + r2) 5; omega
  rw [← els]
  have X9 : St S S0 [h, f] (c + 19) H (upd H8 L (.lst (ls.map V.str))) := X8.new nL
  have s9 := same_new (o := .lst (ls.map V.str)) nL
  have hp9 := s9 _ _ hp8
  have hf9 := s9 _ _ hf8
  have hh9 := s9 _ _ hh8
  have hL9 : upd H8 L (.lst (ls.map V.str)) L = some (.lst (ls.map V.str)) := upd_same
  have LS : L ∉ [S, S0] := X8.out nL
  have pf' : p0 ≠ f := pf
  have Lf : L ≠ f := (ne_of_none hf8 nL).symm
  have Lh : L ≠ h := (ne_of_none hh8 nL).symm
  generalize upd H8 L (.lst (ls.map V.str)) = HB at X9 hp9 hf9 hh9 hL9 ⊢
  obtain ⟨Z, eZ⟩ : ∃ Z, Z = [h, f] ++ [S, S0] := ⟨_, rfl⟩
  have pZ : p0 ∉ Z := by rw [eZ]; exact not_in4 ph pf pS
  have LZ : L ∉ Z := by rw [eZ]; exact not_in4 Lh Lf LS
  have hpZ : hid Z HB p0 = some (.lst (ns.map V.str)) := hid_get pZ hp9
  have hLZ : hid Z HB L = some (.lst (ls.map V.str)) := hid_get LZ hL9
  -- the talks, one by one
  refine ⟨_, rfl, iEnumA_ofM Z (.inl (SqL.of hpZ)) fun J Gd wk hG => ?_⟩
  let Sl : L2.St → Prop := fun σ => ∃ v6 v7 v8 v9 v11 v12, σ = [some (.ref S), some (.int m), some (.ref p0), some (.ref f), some (.ref h), some (.ref L), v6, v7, v8, v9, none, v11, v12, none, none, none, none, none, none]
  refine for_it wk (fun i σ H' => Sl σ ∧ St S S0 [h, f] (c + 20 + 30 * i) H H' ∧ Same (hid Z HB) (hid Z H') ∧ ∃ fk hk R Hi, H' f = some (.dK fk) ∧ KvD K (hid Z H') encRs R fk ∧ H' h = some (.dK hk) ∧ KvD K (hid Z H') encN Hi hk ∧ Half ns i R Hi)
    ⟨⟨_, _, _, _, _, _, rfl⟩, X9.mono (by omega), Same.refl _, [], [], [], [], hf9, kvD_nil, hh9, kvD_nil, ⟨rfl, rfl, (fun _ z => by cases z), (fun _ z => by cases z)⟩⟩ (fun i σ H' _ z => hG H' z.2.2.1) ?_ ?_
  · rintro i x σ H1 H1' hi ⟨⟨v6, v7, v8, v9, v11, v12, rfl⟩, X, sZ, fk, hk, R, Hi, hf, kf, hh, kh, half⟩ ⟨Tq, _, y, rfl, nT, rfl, e1, hy⟩
    have e1' := (Option.some.inj e1).symm
    subst e1'
    obtain ⟨n, rfl, hn, hnm⟩ := strs_at hy
    rw [List.length_map] at hi
    have hi6 : i < 6 := by omega
    have tkl : (ns.take i).length = i := by rw [List.length_take]; omega
    refine ⟨Tq, _, rfl, SqT.of upd_same, rfl, _, _, rfl, _, _, rfl, rfl, ?_⟩
    have ZS : ∀ Y : Hp, Same (hid Z Y) (hid [S, S0] Y) := fun Y => hid_sub fun a ha => by rw [eZ]; exact List.mem_append_right _ ha
    have drawZ : ∀ {A B : Hp}, Same (hid [S, S0] A) (hid [S, S0] B) → Same (hid Z A) (hid Z B) := fun g => hid_more g fun a ha => by rw [eZ]; exact List.mem_append_right _ ha
    have hZ : h ∈ Z := by rw [eZ]; simp
    have fZ : f ∈ Z := by rw [eZ]; simp
    let Ok : Nat → Hp → Prop := fun c' Y => Stm S S0 c' Y ∧ Same (hid Z HB) (hid Z Y) ∧ Y f = some (.dK fk) ∧ Y h = some (.dK hk) ∧ KvD K (hid Z Y) encRs R fk ∧ KvD K (hid Z Y) encN Hi hk
    have okD : ∀ {c' d : Nat} {A B : Hp}, Ok c' A → Stm S S0 d B → Same (hid [S, S0] A) (hid [S, S0] B) → Ok d B := fun ⟨a1, a2, a3, a4, a5, a6⟩ b1 b2 => ⟨b1, a2.trans (drawZ b2), keep_at b2 a3 fS, keep_at b2 a4 hS, a5.same (drawZ b2), a6.same (drawZ b2)⟩
    have okP : ∀ {c' : Nat} {A B : Hp}, Ok c' A → Same A B → Ok c' B := fun ⟨a1, a2, a3, a4, a5, a6⟩ b2 => ⟨a1.same b2, a2.trans (sHid b2), b2 _ _ a3, b2 _ _ a4, a5.same (sHid b2), a6.same (sHid b2)⟩
    have ok1 : Ok (c + 20 + 30 * i) H1 := ⟨X.st, sZ, hf, hh, kf, kh⟩
    have ok2 : Ok (c + 20 + 30 * i) (upd H1 Tq (.tup [.int (i : Nat), .str n])) := okP ok1 (same_new nT)
    generalize upd H1 Tq (.tup [.int (i : Nat), .str n]) = H2 at ok2 ⊢
    -- low
    refine tif_x (fun v Y => ∃ kk : Nat, v = .int kk ∧ kk ≤ 2 ∧ (i = 0 → kk = 0) ∧ Ok (c + 20 + 30 * i + 1) Y) ?_ ?_
    · rintro v H3 ⟨kk, rfl, kk2, kk0, ok3⟩
      have ok3' := ok3
      obtain ⟨st3, fr3, hf3', hh3', kf3, kh3⟩ := ok3
      refine ⟨(kk : Int), rfl, by omega, by omega, fun D nD => ?_⟩
      have sD := st3.S_ne nD
      have DS : D ∉ [S, S0] := by simp; exact sD
      have Df : D ≠ f := (ne_of_none hf3' nD).symm
      have Dh : D ≠ h := (ne_of_none hh3' nD).symm
      have DZ : D ∉ Z := by rw [eZ]; exact not_in4 Dh Df DS
      refine lc_g walk_range Z nD (by omega) (fun j Y => Stm S S0 (c + 20 + 30 * i + 1 + j) Y ∧ Y f = some (.dK fk) ∧ Y h = some (.dK hk)) ⟨st3.new nD, by rw [upd_ne Df.symm]; exact hf3', by rw [upd_ne Dh.symm]; exact hh3'⟩
        (fun j Y o ys hD g => ⟨g.1.put sD.1 sD.2, by rw [upd_ne Df.symm]; exact g.2.1, by rw [upd_ne Dh.symm]; exact g.2.2⟩) (fun j _ y => ∃ z, z ∈ ns.take i ∧ y = V.str z) (fun _ _ _ _ _ _ r => r) (fun _ => true) (fun _ _ _ _ _ => trivial) ?_ ?_
      · rintro j x H4 H4' ys k1 k2 hj ⟨st4, hf4, hh4⟩ s4 hD4 ⟨rfl, rfl⟩ k1' _
        have hj2 : j < kk := by omega
        have ipos : 0 < i := by omega
        have hp4 : hid (D :: Z) H4' p0 = some (.lst (ns.map V.str)) := s4 _ _ (fr3 _ _ hpZ)
        refine ⟨rfl, tYesI ⟨_, rfl, _, rfl, _, rfl, _, rfl, p0, _, rfl, SqL.of (hid_of hp4).2, fun u nu => ?_⟩⟩
        rw [cut_take, ← List.map_take]
        have uD : u ≠ D := fun e => by rw [e, hD4] at nu; cases nu
        have su := st4.S_ne nu
        have s5 := same_new (o := .lst ((ns.take i).map V.str)) nu
        have st5 : Stm S S0 (c + 20 + 30 * i + 1 + j) (upd H4' u (.lst ((ns.take i).map V.str))) := st4.new nu
        have hu5 : upd H4' u (.lst ((ns.take i).map V.str)) u = some (.lst ((ns.take i).map V.str)) := upd_same
        refine ⟨S, S0, _, u, (ns.take i).map V.str, rfl, st5, by omega, SqL.of (hid_get (by simp; exact su) hu5), by rw [List.length_map, tkl]; exact ipos, by rw [List.length_map, tkl]; omega, fun v H6 hv st6 sm6 => ?_⟩
        obtain ⟨z, hz, rfl⟩ := strs_of hv
        have g6 : Same (hid [S, S0] H4') (hid [S, S0] H6) := (hid_new nu).trans sm6
        exact k1' rfl _ H6 (hid_more g6 fun a ha => List.mem_cons_of_mem _ (by rw [eZ]; exact List.mem_append_right _ ha)) (keep_at g6 hD4 DS) ⟨st6.mono (by omega), keep_at g6 hf4 fS, keep_at g6 hh4 hS⟩ ⟨z, hz, rfl⟩
      · rintro H4 ys ⟨st4, hf4, hh4⟩ s4 hD4 pr
        obtain ⟨low1, p1, p2⟩ := paired_some (P := fun _ z => z ∈ ns.take i) (E := fun y z => y = V.str z) pr
        have elow := paired_strs p2
        have lowlen : low1.length ≤ 2 := by have := paired_len p1; rw [filter_range, List.length_range] at this; omega
        have lowin : ∀ z ∈ low1, z ∈ ns.take i := paired_all (S := fun z => z ∈ ns.take i) (fun _ _ g => g) p1
        rw [elow] at hD4
        have s4' : Same (hid Z H3) (hid Z H4) := fun b o g => hid_tail _ _ (s4 _ _ g)
        have ok4 : Ok (c + 20 + 30 * i + 3) H4 := ⟨st4.mono (by omega), fr3.trans s4', hf4, hh4, kf3.same s4', kh3.same s4'⟩
        have hDZ : hid Z H4 D = some (.lst (low1.map V.str)) := hid_get DZ hD4
        have hiv : ∀ z ∈ ns.take i, ∃ v, valV hk (Sum.inr z) = some (.int ((valF Hi z : Nat) : Int)) ∧ v = valF Hi z := fun z hz => by
          obtain ⟨v, hv⟩ := getA_some (F := Hi) (n := z) (by rw [half.hk]; exact hz)
          obtain ⟨vv, g1, g2⟩ := kh3.val hv
          have eg : valF Hi z = v := by unfold valF; rw [hv]; rfl
          exact ⟨_, by rw [g1, dp_int g2, eg], rfl⟩
        have kh3' := kh3
        clear s4 fr3 hf3' hh3' kf3 kh3 st3 pr p1 p2 elow
        -- low, once more
        refine gname_x (nx_mk (seq_tif (tif_x (fun v Y => ∃ (a : Addr) (low : List Str), v = .ref a ∧ hid Z Y a = some (.lst (low.map V.str)) ∧ (∀ z ∈ low, z ∈ ns.take i) ∧ low.length ≤ 2 ∧ Ok (c + 20 + 30 * i + 3) Y) ?_ ?_)))
        · rintro v H5 ⟨a, low, rfl, ha5, hlow, hlen, ok5⟩
          obtain ⟨st5, fr5, hf5, hh5, kf5, kh5⟩ := ok5
          have ha5' := (hid_of ha5).2
          have hiv5 : ∀ z ∈ low, ∃ v, valV hk (Sum.inr z) = some (.int ((valF Hi z : Nat) : Int)) ∧ v = valF Hi z := fun z hz => hiv z (hlow z hz)
          refine ⟨_, rfl, a, rfl, ⟨_, SqL.of ha5'⟩, fun D2 nD2 => ?_⟩
          refine lc_p walk_list nD2 (by rw [List.length_map]; omega) (fun j _ y => y = .int ((valF Hi (low.getD j Str.empty) : Nat) : Int)) (fun _ _ _ _ _ _ r => r) (fun _ => true) (fun Y sY => SqL.of (sY _ _ ha5')) ?_ ?_
          · rintro j x Y Y' k1 k2 hj sY ⟨rfl, hx⟩ k1' _
            obtain ⟨z, rfl, hz, hzm⟩ := strs_at hx
            obtain ⟨v, g1, _⟩ := hiv5 z hzm
            refine ⟨rfl, tYesI ⟨_, rfl, _, rfl, h, _, rfl, .inl ⟨hk, Sum.inr z, .inl (sY _ _ hh5), rfl, g1.symm⟩, k1' rfl _ _ (Same.refl _) ?_⟩⟩
            rw [getD_of hz]
          · intro Y zs sY hD2 pr
            rw [filter_true] at pr
            have e5 := Paired_map (f := fun j => V.int ((valF Hi (low.getD j Str.empty) : Nat) : Int)) pr
            refine ⟨D2, (List.range (low.map V.str).length).map (fun j => ((valF Hi (low.getD j Str.empty) : Nat) : Int)), rfl, SqL.of (by rw [hD2, e5, List.map_map]; rfl), 1, _, rfl, rfl, ?_⟩
            have okY : Ok (c + 20 + 30 * i + 3) Y := okP ⟨st5, fr5, hf5, hh5, kf5, kh5⟩ sY
            have haY : hid Z Y a = some (.lst (low.map V.str)) := sHid sY _ _ ha5
            have hLY : hid Z Y L = some (.lst (ls.map V.str)) := okY.2.1 _ _ hLZ
            clear e5 pr hD2 sY ha5 ha5' st5 fr5 hf5 hh5 kf5 kh5
            refine ⟨_, rfl, _, rfl, S, S0, _, L, ls.map V.str, rfl, okY.1, by omega, SqL.of (ZS _ _ _ hLY), by rw [List.length_map]; exact lsne, by rw [List.length_map]; omega, fun v H6 hv st6 sm6 => ?_⟩
            obtain ⟨lt, hlt, rfl⟩ := strs_of hv
            have ok6 := okD okY st6 sm6
            have ha6 : hid Z H6 a = some (.lst (low.map V.str)) := drawZ sm6 _ _ haY
            refine ⟨_, rfl, (by show 2 ≤ sizeLine; decide), fun t nt => ⟨(by show 1 ≤ sizeLine; decide), fun r nr => ⟨(by show 2 ≤ sizeLine; decide), fun z nz => ?_⟩⟩⟩
            have ok7 := okP ok6 (same_new (o := .tup [.str lt, .ref a]) nt)
            have tr : t ≠ r := ne_of_none upd_same nr
            have rS := ok7.1.S_ne nr
            have rf : r ≠ f := (ne_of_none ok7.2.2.1 nr).symm
            have rh : r ≠ h := (ne_of_none ok7.2.2.2.1 nr).symm
            have ok8 := okP ok7 (same_new (o := .lst [.ref t]) nr)
            have ok9 := okP ok8 (same_new (o := .tup [.int (1 + ((List.range (low.map V.str).length).map (fun j => ((valF Hi (low.getD j Str.empty) : Nat) : Int))).sum), .ref r]) nz)
            have rz : r ≠ z := ne_of_none upd_same nz
            have s7 : Same H6 (upd H6 t (.tup [.str lt, .ref a])) := same_new nt
            have s8 := same_new (o := .lst [.ref t]) nr
            have s9 := same_new (o := .tup [.int (1 + ((List.range (low.map V.str).length).map (fun j => ((valF Hi (low.getD j Str.empty) : Nat) : Int))).sum), .ref r]) nz
            have ht9 := s9 _ _ (s8 _ _ (upd_same : upd H6 t (.tup [.str lt, .ref a]) t = _))
            have hr9 := s9 _ _ (upd_same : upd (upd H6 t (.tup [.str lt, .ref a])) r (.lst [.ref t]) r = _)
            have ha9 := sHid (M := Z) ((s7.trans s8).trans s9) _ _ ha6
            have es : ((List.range (low.map V.str).length).map (fun j => ((valF Hi (low.getD j Str.empty) : Nat) : Int))).sum = ((sumN (valF Hi) low : Nat) : Int) := sum_getD (valF Hi) low
            have ar : a ≠ r := ne_of_none (s7 _ _ (hid_of ha6).2) nr
            have tZ : t ∉ Z := by rw [eZ]; exact not_in4 (ne_of_none ok6.2.2.2.1 nt).symm (ne_of_none ok6.2.2.1 nt).symm (by have := ok6.1.S_ne nt; simp; exact this)
            refine ⟨z, _, rfl, SqT.of upd_same, rfl, _, _, rfl, _, rfl, _, rfl, h, _, rfl, .inl ⟨hk, Sum.inr n, ok9.2.2.2.1, rfl, ?_, rfl⟩, _, _, rfl, rfl, ?_⟩
            · rw [kh3'.len]
              have : Hi.length = i := by have := congrArg List.length half.hk; rw [List.length_map, tkl] at this; exact this
              rw [this]
              exact Nat.lt_of_lt_of_le hi6 (by decide)
            · rw [es] at ok9 ht9 hr9 ha9 s9 ⊢
              have ev : (1 : Int) + ((sumN (valF Hi) low : Nat) : Int) = ((1 + sumN (valF Hi) low : Nat) : Int) := by omega
              dsimp only
              rw [ev] at ok9 ht9 hr9 ha9 s9 ⊢
              obtain ⟨vn, evn⟩ : ∃ vn, vn = 1 + sumN (valF Hi) low := ⟨_, rfl⟩
              rw [← evn] at ok9 ht9 hr9 ha9 s9 ⊢
              have push7 := hid_push (M := Z) (o := .lst [.ref t]) nr
              have new9 := hid_new (M := r :: Z) (o := .tup [.int ((vn : Nat) : Int), .ref r]) nz
              have fhne : f ≠ h := fh
              obtain ⟨H10, e10⟩ : ∃ H10, H10 = upd (upd (upd (upd H6 t (.tup [.str lt, .ref a])) r (.lst [.ref t])) z (.tup [.int ((vn : Nat) : Int), .ref r])) h (.dK (putK hk (Sum.inr n) (.int ((vn : Nat) : Int)))) := ⟨_, rfl⟩
              have hin : hid (r :: Z) H10 = hid (r :: Z) (upd (upd (upd H6 t (.tup [.str lt, .ref a])) r (.lst [.ref t])) z (.tup [.int ((vn : Nat) : Int), .ref r])) := by rw [e10]; exact hid_in (List.mem_cons_of_mem _ hZ)
              have up7 : Same (hid Z (upd H6 t (.tup [.str lt, .ref a]))) (hid (r :: Z) H10) := by rw [hin]; exact push7.trans new9
              have st10 : Stm S S0 (c + 20 + 30 * i + 4) H10 := by
                rw [e10]
                have := (X.ap h (by simp)).1
                simp at this
                exact (ok9.1.mono (by omega)).put this.1 this.2
              have hh10 : H10 h = some (.dK (putK hk (Sum.inr n) (.int ((vn : Nat) : Int)))) := by rw [e10]; exact upd_same
              have hf10 : H10 f = some (.dK fk) := by rw [e10, upd_ne fhne]; exact ok9.2.2.1
              have hr10 : H10 r = some (.lst [.ref t]) := by rw [e10, upd_ne rh]; exact hr9
              have kf10 : KvD K (hid (r :: Z) H10) encRs R fk := ok7.2.2.2.2.1.same up7
              have kh10 : KvD K (hid (r :: Z) H10) encN (putA Hi n vn) (putK hk (Sum.inr n) (.int ((vn : Nat) : Int))) := KvD.put (ok7.2.2.2.2.2.same up7) (.int _)
              have fr10 : Same (hid Z HB) (hid (r :: Z) H10) := ok7.2.1.trans up7
              have low4 : low.length ≤ 4 := by omega
              have nsin : ∀ w ∈ low, w ∈ ns := fun w hw => List.mem_of_mem_take (hlow w hw)
              have d10 : Dp K (hid (r :: Z) H10) (.ref t) (encL (lt, low)) := by
                refine sDp up7 _ _ (dpL_of (b := a) (SqT.of (hid_get tZ upd_same)) (SqL.of ?_))
                exact sHid (M := Z) s7 _ _ ha6
              have rZS : r ∉ [S, S0] := by simp; exact rS
              rw [← e10]
              clear hin up7 push7 new9 e10 ok9 ht9 hr9 ha9 ok8 s8 s9 ok7 s7 ok6 ha6 okY haY hLY
              let Y0 := r :: Z
              have rZ : r ∉ Z := by rw [eZ]; exact not_in4 rh rf rZS
              have drawY : ∀ {A B : Hp}, Same (hid [S, S0] A) (hid [S, S0] B) → Same (hid (r :: Z) A) (hid (r :: Z) B) := fun g => hid_more g fun a ha => List.mem_cons_of_mem _ (by rw [eZ]; exact List.mem_append_right _ ha)
              have okq : ∀ {lt : Str} {w : List Str}, lt ∈ ls → (∀ z ∈ w, z ∈ ns) → w.length ≤ 4 → rOk (lt, w) ∧ ((letterB lt = true ∧ lt.length ≤ 9 ∧ sOk lt) ∧ w.length ≤ 4 ∧ ∀ z ∈ w, z ∈ ns) := fun hl hw hwl => ⟨⟨(lsok _ hl).2.2, fun z hz => (name_ok (names12_ok z (n12 z (hw z hz))).1).1⟩, lsok _ hl, hwl, hw⟩
              have okq0 := okq hlt nsin low4
              -- further rules
              refine ⟨_, rfl, S, S0, c + 20 + 30 * i + 4, 4, rfl, st10, by omega, by decide, by decide, fun r3 H11 r30 r31 st11 sm11 => ⟨r3, rfl, by omega, by omega, ?_⟩⟩
              have s11 := drawY sm11
              refine for_it walk_range (fun j σ Y => (∃ v8 v12, σ = [some (.ref S), some (.int m), some (.ref p0), some (.ref f), some (.ref h), some (.ref L), some (.int (i : Nat)), some (.str n), v8, some (.ref a), none, some (.ref r), v12, none, none, none, none, none, none]) ∧
                  Stm S S0 (c + 20 + 30 * i + 5 + 5 * j) Y ∧ Same (hid (r :: Z) H10) (hid (r :: Z) Y) ∧ Y f = some (.dK fk) ∧ Y h = some (.dK (putK hk (Sum.inr n) (.int ((vn : Nat) : Int)))) ∧
                  ∃ ys rs, Y r = some (.lst ys) ∧ DpAll K (hid (r :: Z) Y) ys (rs.map encL) ∧ (lt, low) ∈ rs ∧ rs.length ≤ 1 + j ∧ ∀ q ∈ rs, rOk q ∧ ((letterB q.1 = true ∧ q.1.length ≤ 9 ∧ sOk q.1) ∧ q.2.length ≤ 4 ∧ ∀ z ∈ q.2, z ∈ ns))
                ⟨⟨_, _, rfl⟩, st11.mono (by omega), s11, keep_at sm11 hf10 fS, keep_at sm11 hh10 hS, [.ref t], [(lt, low)], keep_at sm11 hr10 rZS, .cons (sDp s11 _ _ d10) .nil, List.mem_cons_self, Nat.le_refl _, fun q hq => by rw [List.mem_singleton.mp hq]; exact okq0⟩ (fun _ _ _ _ _ => trivial) ?_ ?_
              · rintro j x σ H12 H12' hj ⟨⟨v8', v12', rfl⟩, st12, s12, hf12, hh12, ys, rs, hr12, dr12, q12, l12, ok12⟩ ⟨rfl, rfl⟩
                have hj3 : j < 3 := by omega
                -- a row
                refine ⟨_, rfl, S, S0, _, 4, rfl, st12, by omega, by decide, by decide, fun r4 H13 r40 r41 st13 sm13 => ⟨r4, rfl, by omega, by omega, fun D3 nD3 => ?_⟩⟩
                have s13 := drawY sm13
                have hf13 := keep_at sm13 hf12 fS
                have hh13 := keep_at sm13 hh12 hS
                have hr13 := keep_at sm13 hr12 rZS
                have sD3 := st13.S_ne nD3
                have D3S : D3 ∉ [S, S0] := by simp; exact sD3
                have D3f : D3 ≠ f := (ne_of_none hf13 nD3).symm
                have D3h : D3 ≠ h := (ne_of_none hh13 nD3).symm
                have D3r : D3 ≠ r := (ne_of_none hr13 nD3).symm
                have D3Z : D3 ∉ r :: Z := fun z => (List.mem_cons.mp z).elim D3r (by rw [eZ]; exact not_in4 D3h D3f D3S)
                refine lc_g walk_range (r :: Z) nD3 (by omega) (fun g Y => Stm S S0 (c + 20 + 30 * i + 5 + 5 * j + 1 + g) Y ∧ Y f = some (.dK fk) ∧ Y h = some (.dK (putK hk (Sum.inr n) (.int ((vn : Nat) : Int)))) ∧ Y r = some (.lst ys))
                  ⟨st13.new nD3, by rw [upd_ne D3f.symm]; exact hf13, by rw [upd_ne D3h.symm]; exact hh13, by rw [upd_ne D3r.symm]; exact hr13⟩
                  (fun g Y o us hD b => ⟨b.1.put sD3.1 sD3.2, by rw [upd_ne D3f.symm]; exact b.2.1, by rw [upd_ne D3h.symm]; exact b.2.2.1, by rw [upd_ne D3r.symm]; exact b.2.2.2⟩) (fun g _ y => ∃ z, z ∈ ns ∧ y = V.str z) (fun _ _ _ _ _ _ b => b) (fun _ => true) (fun _ _ _ _ _ => trivial) ?_ ?_
                · rintro g x H14 H14' us k1 k2 hg ⟨st14, hf14, hh14, hr14⟩ s14 hD14 ⟨rfl, rfl⟩ k1' _
                  have hp14 : hid (D3 :: r :: Z) H14' p0 = some (.lst (ns.map V.str)) := s14 _ _ (s13 _ _ (s12 _ _ (fr10 _ _ hpZ)))
                  refine ⟨rfl, tYesI ⟨_, rfl, _, rfl, S, S0, _, p0, ns.map V.str, rfl, st14, by omega, SqL.of (hid_get pS (hid_of hp14).2), by rw [List.length_map]; omega, by rw [List.length_map]; omega, fun v H15 hv st15 sm15 => ?_⟩⟩
                  obtain ⟨z, hz, rfl⟩ := strs_of hv
                  exact k1' rfl _ H15 (hid_more sm15 fun a ha => List.mem_cons_of_mem _ (List.mem_cons_of_mem _ (by rw [eZ]; exact List.mem_append_right _ ha))) (keep_at sm15 hD14 D3S) ⟨st15.mono (by omega), keep_at sm15 hf14 fS, keep_at sm15 hh14 hS, keep_at sm15 hr14 rZS⟩ ⟨z, hz, rfl⟩
                · rintro H14 us ⟨st14, hf14, hh14, hr14⟩ s14 hD14 pr
                  obtain ⟨row, p1, p2⟩ := paired_some (P := fun _ z => z ∈ ns) (E := fun y z => y = V.str z) pr
                  have erow := paired_strs p2
                  have rowlen : row.length ≤ 4 := by have := paired_len p1; rw [filter_range, List.length_range] at this; omega
                  have rowin : ∀ z ∈ row, z ∈ ns := paired_all (S := fun z => z ∈ ns) (fun _ _ b => b) p1
                  rw [erow] at hD14
                  have s14' : Same (hid (r :: Z) H13) (hid (r :: Z) H14) := fun b o w => hid_tail _ _ (s14 _ _ w)
                  have hL14 : hid (r :: Z) H14 L = some (.lst (ls.map V.str)) := s14' _ _ (s13 _ _ (s12 _ _ (fr10 _ _ hLZ)))
                  refine ⟨_, rfl, .inl ⟨rfl, _, SqL.of hr14⟩, _, rfl, _, rfl, S, S0, _, L, ls.map V.str, rfl, st14, by omega, SqL.of (hid_get LS (hid_of hL14).2), by rw [List.length_map]; exact lsne, by rw [List.length_map]; omega, fun v H15 hv st15 sm15 => ?_⟩
                  obtain ⟨l2, hl2, rfl⟩ := strs_of hv
                  have hD15 : hid (r :: Z) H15 D3 = some (.lst (row.map V.str)) := drawY sm15 _ _ (hid_get D3Z hD14)
                  have hf15 := keep_at sm15 hf14 fS
                  have hh15 := keep_at sm15 hh14 hS
                  have hr15 := keep_at sm15 hr14 rZS
                  refine ⟨_, rfl, (by show 2 ≤ sizeLine; decide), fun t2 nt2 => ?_⟩
                  have st2S := st15.S_ne nt2
                  have t2r : t2 ≠ r := (ne_of_none hr15 nt2).symm
                  have t2Z : t2 ∉ r :: Z := fun z => (List.mem_cons.mp z).elim t2r (by rw [eZ]; exact not_in4 (ne_of_none hh15 nt2).symm (ne_of_none hf15 nt2).symm (by simp; exact st2S))
                  have sn := same_new (o := .tup [.str l2, .ref D3]) nt2
                  have n2 := hid_new (M := r :: Z) (o := .tup [.str l2, .ref D3]) nt2
                  have yl : ys.length ≤ 4 := by rw [dpAll_len dr12]; omega
                  refine ⟨r, ys, _, rfl, rfl, sn _ _ hr15, Nat.lt_of_le_of_lt yl (by decide), ?_⟩
                  have g0 : ∀ o, hid (r :: Z) (upd (upd H15 t2 (.tup [.str l2, .ref D3])) r o) = hid (r :: Z) (upd H15 t2 (.tup [.str l2, .ref D3])) := fun o => hid_in List.mem_cons_self
                  have s15 : Same (hid (r :: Z) H12') (hid (r :: Z) (upd H15 t2 (.tup [.str l2, .ref D3]))) := ((s13.trans s14').trans (drawY sm15)).trans n2
                  have rSm := rZS
                  simp at rSm
                  refine ⟨⟨_, _, rfl⟩, ((st15.new nt2).put rSm.1 rSm.2).mono (by omega), by rw [g0]; exact s12.trans s15, by rw [upd_ne rf.symm]; exact sn _ _ hf15, by rw [upd_ne rh.symm]; exact sn _ _ hh15, ys ++ [.ref t2], rs ++ [(l2, row)], upd_same, ?_, List.mem_append_left _ q12, by rw [List.length_append]; show rs.length + 1 ≤ _; omega, fun q hq => ?_⟩
                  · rw [g0, List.map_append]
                    exact dpAll_snoc (sDpAll s15 _ _ dr12) (dpL_of (b := D3) (SqT.of (hid_get t2Z upd_same)) (SqL.of (n2 _ _ hD15)))
                  · rcases List.mem_append.mp hq with hq | hq
                    · exact ok12 q hq
                    · rw [List.mem_singleton.mp hq]; exact okq hl2 rowin rowlen
              · rintro σ H12 ⟨⟨v8', v12', rfl⟩, st12, s12, hf12, hh12, ys, rs, hr12, dr12, q12, l12, ok12⟩
                have r33 : r3.toNat ≤ 3 := by omega
                have dZ : DpAll K (hid Z H12) ys (rs.map encL) := sDpAll hid_tail _ _ dr12
                refine ⟨_, rfl, Z, r, ys, rs, rfl, SqL.of hr12, dZ, by omega, fun q hq => (ok12 q hq).1, fun p2 ws H13 s13 np2 hp2 dw => ?_⟩
                have dw' : DpAll K (hid Z H13) ws ((once rs).map encL) := sDpAll hid_tail _ _ dw
                have ol := once_len rs
                refine sorted_rsM Z (.inr rfl) (SqL.of hp2) dw' (by omega) fun p3 us np3 du => ?_
                have s14 := same_new (o := .lst us) np3
                have st14 : Stm S S0 (c + 20 + 30 * i + 25) (upd H13 p3 (.lst us)) := (st12.same (s13.trans s14)).mono (by omega)
                have hf14 := s14 _ _ (s13 _ _ hf12)
                have hh14 := s14 _ _ (s13 _ _ hh12)
                have p3Z : p3 ∉ Z := by rw [eZ]; exact not_in4 (ne_of_none (s13 _ _ hh12) np3).symm (ne_of_none (s13 _ _ hf12) np3).symm (by have := (st12.same s13).S_ne np3; simp; exact this)
                have sZ14 : Same (hid Z H12) (hid Z (upd H13 p3 (.lst us))) := sHid (s13.trans s14)
                have frZ : Same (hid Z HB) (hid Z (upd H13 p3 (.lst us))) := fun b o w => sZ14 _ _ (hid_tail _ _ (s12 _ _ (fr10 _ _ w)))
                have kfZ : KvD K (hid Z (upd H13 p3 (.lst us))) encRs R fk := (kf10.same s12).same fun b o w => sZ14 _ _ (hid_tail _ _ w)
                have khZ : KvD K (hid Z (upd H13 p3 (.lst us))) encN (putA Hi n vn) (putK hk (Sum.inr n) (.int ((vn : Nat) : Int))) := (kh10.same s12).same fun b o w => sZ14 _ _ (hid_tail _ _ w)
                have dp3 : Dp K (hid Z (upd H13 p3 (.lst us))) (.ref p3) (encRs (sortR (once rs))) := .lst (SqL.of (hid_get p3Z upd_same)) (sDpAll (sHid s14) _ _ du)
                have fkl : fk.length < sizeLine := by
                  rw [kf10.len]
                  have : R.length = i := by have := congrArg List.length half.nm; rw [List.length_map, tkl] at this; exact this
                  rw [this]
                  exact Nat.lt_of_lt_of_le hi6 (by decide)
                generalize upd H13 p3 (.lst us) = H15 at st14 hf14 hh14 frZ kfZ khZ dp3 ⊢
                refine ⟨_, rfl, _, rfl, f, _, rfl, .inl ⟨fk, Sum.inr n, hf14, rfl, fkl, rfl⟩, ?_⟩
                have g0 : ∀ o, hid Z (upd H15 f o) = hid Z H15 := fun o => hid_in fZ
                have fSm := fS
                simp at fSm
                have okrs : RulesOk ns (sortR (once rs)) := RulesOk.perm ⟨(fun e => by have := once_mem.mpr q12; rw [e] at this; cases this), once_nd rs, by omega, fun q hq => (ok12 q (once_mem.mp hq)).2⟩ (sortR_perm _)
                have hq : (lt, low) ∈ sortR (once rs) := (sortR_perm _).mem_iff.mpr (once_mem.mpr q12)
                refine ⟨⟨_, _, _, _, _, _, rfl⟩, ⟨(st14.put fSm.1 fSm.2).mono (by omega), ?_, X.ap⟩, by rw [g0]; exact frZ, _, _, putA R n (sortR (once rs)), putA Hi n vn, upd_same, ?_, by rw [upd_ne fh.symm]; exact hh14, ?_, ?_⟩
                · have := X9.fr
                  rw [← eZ] at this ⊢
                  rw [g0]
                  exact this.trans frZ
                · rw [g0]; exact KvD.put kfZ dp3
                · rw [g0]; exact khZ
                · rw [evn]; exact half.next ndn hn okrs hq hlow
        · intro fin
          refine ⟨_, rfl, D, rfl, ⟨_, SqL.of hD4⟩, fun D2 nD2 => ?_⟩
          refine lc_p walk_list nD2 (by rw [List.length_map]; omega) (fun j _ y => y = .int ((valF Hi (low1.getD j Str.empty) : Nat) : Int)) (fun _ _ _ _ _ _ r => r) (fun _ => true) (fun Y sY => SqL.of (sY _ _ hD4)) ?_ ?_
          · rintro j x Y Y' k1 k2 hj sY ⟨rfl, hx⟩ k1' _
            obtain ⟨z, rfl, hz, hzm⟩ := strs_at hx
            obtain ⟨v, g1, _⟩ := hiv z (lowin z hzm)
            refine ⟨rfl, tYesI ⟨_, rfl, _, rfl, h, _, rfl, .inl ⟨hk, Sum.inr z, .inl (sY _ _ hh4), rfl, g1.symm⟩, k1' rfl _ _ (Same.refl _) ?_⟩⟩
            rw [getD_of hz]
          · intro Y zs sY hD2 pr
            rw [filter_true] at pr
            have e5 := Paired_map (f := fun j => V.int ((valF Hi (low1.getD j Str.empty) : Nat) : Int)) pr
            refine ⟨D2, (List.range (low1.map V.str).length).map (fun j => ((valF Hi (low1.getD j Str.empty) : Nat) : Int)), rfl, SqL.of (by rw [hD2, e5, List.map_map]; rfl), _, _, rfl, rfl, _, rfl, ?_⟩
            refine ite2 (fun _ => ?_) (fun _ => ?_)
            · exact ⟨_, rfl, fin _ _ ⟨D, low1, rfl, sHid sY _ _ hDZ, lowin, lowlen, okP ok4 sY⟩⟩
            · refine ⟨(by show 0 ≤ sizeLine; decide), fun u nu => ?_⟩
              have ok5 := okP ok4 sY
              have uZ : u ∉ Z := by rw [eZ]; exact not_in4 (ne_of_none ok5.2.2.2.1 nu).symm (ne_of_none ok5.2.2.1 nu).symm (by have := ok5.1.S_ne nu; simp; exact this)
              exact fin _ _ ⟨u, [], rfl, hid_get uZ upd_same, (fun _ g => by cases g), Nat.zero_le _, okP ok5 (same_new nu)⟩
    · intro fin
      refine ⟨_, rfl, _, _, rfl, rfl, _, rfl, ?_⟩
      by_cases hz : 0 < i
      · rw [decide_eq_true (show ((i : Nat) : Int) > 0 by omega)]
        refine iteT ⟨_, rfl, S, S0, c + 20 + 30 * i, 3, rfl, ok2.1, by omega, by decide, by decide, fun r H3 r0 r1 st3 sm3 => ?_⟩
        exact fin _ _ ⟨r.toNat, by congr 1; omega, by omega, fun e => by omega, okD ok2 st3 sm3⟩
      · rw [decide_eq_false (show ¬ ((i : Nat) : Int) > 0 by omega)]
        obtain ⟨a1, a2⟩ := ok2
        exact iteF (fin _ _ ⟨0, rfl, Nat.zero_le _, fun _ => rfl, a1.mono (by omega), a2⟩)
  · rintro σ H1 ⟨⟨v6, v7, v8, v9, v11, v12, rfl⟩, X, sZ, fk, hk, R, Hi, hf, kf, hh, kh, half⟩
    rw [List.length_map] at X half
    obtain ⟨dr, enm⟩ := half.done ndn (by intro e; rw [e] at nl; simp at nl; omega) (by omega) n12
    have hpE := sZ _ _ hpZ
    have ZS : ∀ Y : Hp, Same (hid Z Y) (hid [S, S0] Y) := fun Y => hid_sub fun a ha => by rw [eZ]; exact List.mem_append_right _ ha
    have drawZ : ∀ {A B : Hp}, Same (hid [S, S0] A) (hid [S, S0] B) → Same (hid Z A) (hid Z B) := fun g => hid_more g fun a ha => by rw [eZ]; exact List.mem_append_right _ ha
    have hZ : h ∈ Z := by rw [eZ]; simp
    have fZ : f ∈ Z := by rw [eZ]; simp
    have frE : Same (hid [S, S0] H) (hid Z H1) := by have := X.fr; rw [← eZ] at this; exact this
    have nl6 : ns.length ≤ 6 := by omega
    have st1' : Stm S S0 (c + 200) H1 := X.st.mono (by omega)
    clear half kh X
    -- the new names
    refine ⟨_, rfl, S, S0, c + 200, 12, rfl, st1', by omega, fun p12 n2 H2 nd2 n212 nl2 np2 hp2 st2 sm2 => ⟨p12, rfl, ⟨_, SqL.of hp2⟩, fun D nD => ?_⟩⟩
    have hf2 := keep_at sm2 hf fS
    have kf2 := kf.same (drawZ sm2)
    have len12 : n2.length = 12 := by rw [nl2]; rfl
    refine lc_p walk_list nD (by rw [List.length_map]; omega) (fun j _ y => y = .str (n2.getD j Str.empty)) (fun _ _ _ _ _ _ r => r) (fun j => !(getA R (n2.getD j Str.empty)).isSome) (fun Y sY => SqL.of (sY _ _ hp2)) ?_ ?_
    · rintro j x Y Y' k1 k2 hj sY ⟨rfl, hx⟩ k1' k2'
      obtain ⟨z, rfl, hz, hzm⟩ := strs_at hx
      have eg : n2.getD j Str.empty = z := getD_of hz
      rw [eg] at k1' k2'
      refine ⟨rfl, _, rfl, _, rfl, f, _, rfl, .inl ⟨fk, Sum.inr z, .inl (sY _ _ hf2), rfl, rfl⟩, _, rfl, ?_⟩
      rw [KvD.isSome kf2]
      cases hs : (getA R z).isSome with
      | true => rw [hs] at k2'; exact iteF (k2' rfl _ (Same.refl _))
      | false => rw [hs] at k1'; exact iteT ⟨_, rfl, k1' rfl _ _ (Same.refl _) rfl⟩
    · intro H3 ys s3 hD pr
      have e3 := Paired_map (f := fun j => V.str (n2.getD j Str.empty)) pr
      rw [List.length_map, range_filter n2 Str.empty (fun z => !(getA R z).isSome) V.str] at e3
      obtain ⟨cand, ec2⟩ : ∃ cand, cand = n2.filter (fun z => !(getA R z).isSome) := ⟨_, rfl⟩
      rw [← ec2] at e3
      rw [e3] at hD
      have DS : D ∉ [S, S0] := by have := st2.S_ne nD; simp; exact this
      have st3 := st2.same s3
      refine ⟨_, rfl, S, S0, _, 4, rfl, st3, by omega, by decide, by decide, fun r H4 r0 r1 st4 sm4 => ⟨_, rfl, ?_⟩⟩
      obtain ⟨r, rfl⟩ : ∃ r' : Nat, r = r' := ⟨r.toNat, by omega⟩
      have hD4 := keep_at sm4 hD DS
      refine ⟨D, _, rfl, SqL.of hD4, fun W nW => ?_⟩
      rw [cut_take, ← List.map_take]
      obtain ⟨news, enw⟩ : ∃ news, news = cand.take r := ⟨_, rfl⟩
      rw [← enw]
      have nwl : news.length ≤ 3 := by rw [enw, List.length_take]; omega
      have nwsub : news.Sublist n2 := by rw [enw, ec2]; exact (List.take_sublist _ _).trans List.filter_sublist
      have nwnd : news.Nodup := nwsub.nodup nd2
      have nwno : ∀ z ∈ news, z ∉ R.map (·.1) := fun z hz => by
        have := List.mem_of_mem_take (enw ▸ hz)
        rw [ec2] at this
        have := (List.mem_filter.mp this).2
        intro hm
        obtain ⟨x, hx⟩ := getA_some hm
        rw [hx] at this
        cases this
      have s5 := same_new (o := .lst (news.map V.str)) nW
      have st5 : Stm S S0 (c + 213) (upd H4 W (.lst (news.map V.str))) := (st4.new nW).mono (by omega)
      have hW5 : upd H4 W (.lst (news.map V.str)) W = some (.lst (news.map V.str)) := upd_same
      have hf4 := keep_at sm4 (s3 _ _ hf2) fS
      have hf5 := s5 _ _ hf4
      have fr5 : Same (hid Z H1) (hid Z (upd H4 W (.lst (news.map V.str)))) := (((drawZ sm2).trans (sHid s3)).trans (drawZ sm4)).trans (sHid s5)
      have kf5 := kf.same fr5
      have hp5 := fr5 _ _ hpE
      have WS : W ∉ [S, S0] := by have := st4.S_ne nW; simp; exact this
      have Wf : W ≠ f := (ne_of_none hf4 nW).symm
      have hh4 := keep_at sm4 (s3 _ _ (keep_at sm2 hh hS)) hS
      have Wh : W ≠ h := (ne_of_none hh4 nW).symm
      have WZ : W ∉ Z := by rw [eZ]; exact not_in4 Wh Wf WS
      have hWZ : hid Z (upd H4 W (.lst (news.map V.str))) W = some (.lst (news.map V.str)) := hid_get WZ hW5
      have hE5 : HasH h (upd H4 W (.lst (news.map V.str))) := HasH.same ⟨_, hh4⟩ s5
      generalize upd H4 W (.lst (news.map V.str)) = H5 at st5 hW5 hf5 fr5 kf5 hp5 hWZ hE5 ⊢
      refine ⟨W, rfl, ⟨_, SqL.of hW5⟩, ?_⟩
      refine for_it walk_list (fun i σ Y => (∃ pN v6 v7 v8 v9 v10 v11 v12 v13 v14 v15 v16, σ = [some (.ref S), some (.int m), some (.ref pN), some (.ref f), some (.ref h), some (.ref L), v6, v7, v8, v9, v10, v11, v12, v13, v14, v15, v16, none, none] ∧
          ∃ nmN : List Str, hid Z Y pN = some (.lst (nmN.map V.str)) ∧ nmN ≠ [] ∧ nmN.length ≤ 6 + i ∧ Stm S S0 (c + 213 + 40 * i) Y ∧ Same (hid Z H5) (hid Z Y) ∧ HasH h Y ∧ ∃ fk R M, Y f = some (.dK fk) ∧ KvD K (hid Z Y) encRs R fk ∧ Drawn R M ∧ (∀ z ∈ nmN, z ∈ R.map (·.1)) ∧ ∀ z ∈ news.drop i, z ∉ R.map (·.1)))
        ⟨p0, _, _, _, _, _, _, _, _, _, _, _, rfl, ns, hp5, (by intro e; rw [e] at nl; simp at nl; omega), by omega, st5, Same.refl _, hE5, fk, R, _, hf5, kf5, dr, fun z hz => by rw [enm]; exact hz, fun z hz => nwno z (List.mem_of_mem_drop hz)⟩
        (fun i σ Y _ ⟨_, _, _, _, _, _, _, _, _, _, _, _, _, _, _, _, _, _, s, _⟩ => SqL.of (hid_of (s _ _ hWZ)).2) ?_ ?_
      · rintro i x σ H6 H6' hi ⟨pN, w6, w7, w8, w9, w10, w11, w12, w13, w14, w15, w16, rfl, nmN, hpN, nmne, nml, st6, s6, hE6, gk, Rn, Mn, hf6, kf6, drn, nmin, nwout⟩ ⟨rfl, hx⟩
        obtain ⟨new, rfl, hnw, hnwm⟩ := strs_at hx
        rw [List.length_map] at hi
        have newout : new ∉ Rn.map (·.1) := nwout new (by
          rw [List.mem_iff_getElem?]
          exact ⟨0, by rw [List.getElem?_drop]; exact hnw⟩)
        have new12 : new ∈ names12 := n212 _ (nwsub.subset hnwm)
        -- one
        refine ⟨_, rfl, _, rfl, S, S0, _, pN, nmN.map V.str, rfl, st6, by omega, SqL.of (ZS _ _ _ hpN), by rw [List.length_map]; exact List.length_pos_iff.mpr nmne, by rw [List.length_map]; omega, fun v H7 hv st7 sm7 => ?_⟩
        obtain ⟨one, hone, rfl⟩ := strs_of hv
        have s7 := drawZ sm7
        have hf7 := keep_at sm7 hf6 fS
        have hE7 := hE6.draw sm7 hS
        have hpN7 := s7 _ _ hpN
        refine tif_x (fun v Y => ∃ (a : Addr) (rest : List Str), v = .ref a ∧ hid Z Y a = some (.lst (rest.map V.str)) ∧ (∀ z ∈ rest, z ∈ nmN) ∧ rest.length ≤ 1 ∧ Stm S S0 (c + 213 + 40 * i + 3) Y ∧ Same (hid Z H7) (hid Z Y) ∧ Y f = some (.dK gk) ∧ HasH h Y) ?_ ?_
        · rintro v H8 ⟨a, rest, rfl, ha8, rin, rlen, st8, s8, hf8, hh8⟩
          refine ⟨(by show 2 ≤ sizeLine; decide), fun z nz => ⟨z, _, rfl, SqT.of upd_same, rfl, _, _, rfl, _, _, rfl, rfl, ?_⟩⟩
          have sz := same_new (o := .tup [.str one, .ref a]) nz
          have stz := st8.same sz
          refine ⟨(by show 0 ≤ sizeLine; decide), fun r nr => ?_⟩
          have rS := stz.S_ne nr
          have rZS : r ∉ [S, S0] := by simp; exact rS
          have rf : r ≠ f := (ne_of_none (sz _ _ hf8) nr).symm
          have rh : r ≠ h := (hh8.same sz).ne nr
          have rZ : r ∉ Z := by rw [eZ]; exact not_in4 rh rf rZS
          have push : Same (hid Z (upd H8 z (.tup [.str one, .ref a]))) (hid (r :: Z) (upd (upd H8 z (.tup [.str one, .ref a])) r (.lst []))) := hid_push nr
          have st9 : Stm S S0 (c + 213 + 40 * i + 3) (upd (upd H8 z (.tup [.str one, .ref a])) r (.lst [])) := stz.new nr
          have sr := same_new (o := .lst []) nr
          have hf9 := sr _ _ (sz _ _ hf8)
          have hr9 : upd (upd H8 z (.tup [.str one, .ref a])) r (.lst []) r = some (.lst []) := upd_same
          have hE9 := (hh8.same sz).same sr
          have fr9 : Same (hid Z H6') (hid (r :: Z) (upd (upd H8 z (.tup [.str one, .ref a])) r (.lst []))) := ((s7.trans s8).trans (sHid sz)).trans push
          have ha9 : hid (r :: Z) (upd (upd H8 z (.tup [.str one, .ref a])) r (.lst [])) a = some (.lst (rest.map V.str)) := push _ _ (sHid sz _ _ ha8)
          generalize upd (upd H8 z (.tup [.str one, .ref a])) r (.lst []) = H9 at push st9 sr hf9 hr9 fr9 ha9 hE9 ⊢
          have kf9 := kf6.same fr9
          have hpN9 := fr9 _ _ hpN
          have drawY : ∀ {A B : Hp}, Same (hid [S, S0] A) (hid [S, S0] B) → Same (hid (r :: Z) A) (hid (r :: Z) B) := fun g => hid_more g fun a ha => List.mem_cons_of_mem _ (by rw [eZ]; exact List.mem_append_right _ ha)
          obtain ⟨rs, hrs⟩ := getA_some (nmin one hone)
          have hrm := getA_mem hrs
          have rok := drn.rs _ hrm
          have rok4 : rs.length ≤ 4 := rok.len
          obtain ⟨v, e1, e2⟩ := kf9.val hrs
          obtain ⟨b, xs, rfl, hb1, hb2⟩ := dp_list e2
          have hxl : xs.length = rs.length := dpAll_len hb2
          refine ⟨_, rfl, _, rfl, f, _, rfl, .inl ⟨gk, Sum.inr one, .inl hf9, rfl, e1.symm⟩, b, rfl, ⟨xs, hid_same.seq hb1⟩, ?_⟩
          refine for_it walk_list (fun j σ Y => (∃ x12 x15 x16, σ = [some (.ref S), some (.int m), some (.ref pN), some (.ref f), some (.ref h), some (.ref L), w6, w7, w8, w9, some (.str one), some (.ref r), x12, some (.str new), some (.ref a), x15, x16, none, none]) ∧
              Stm S S0 (c + 213 + 40 * i + 3 + 8 * j) Y ∧ Same (hid (r :: Z) H9) (hid (r :: Z) Y) ∧ Y f = some (.dK gk) ∧ HasH h Y ∧ ∃ ys rs', Y r = some (.lst ys) ∧ DpAll K (hid (r :: Z) Y) ys (rs'.map encL) ∧ Anew new one rest (rs.take j) rs')
            ⟨⟨_, _, _, rfl⟩, st9, Same.refl _, hf9, hE9, [], [], hr9, .nil, .nil⟩ (fun j σ Y _ ⟨_, _, s, _⟩ => hid_same.seq (s.seq hb1)) ?_ ?_
          · rintro j x σ H10 H10' hj ⟨⟨x12, x15, x16, rfl⟩, st10, s10, hf10, hE10, ys, rs', hr10, dr10, an⟩ ⟨rfl, hx⟩
            rw [hxl] at hj
            obtain ⟨q0, hq0, dq0⟩ := dpAll_at hb2 hx
            have hq0m := List.mem_of_getElem? hq0
            obtain ⟨c1, c2, rfl, hc1, hc2⟩ := dp_L (sDp s10 _ _ dq0)
            have rowlen : q0.2.length ≤ 4 := (rok.ok q0 hq0m).2.1
            have rsl : rs'.length = j := by have := paired_len an; rw [List.length_take] at this; omega
            refine ⟨c1, _, rfl, sSeqT hid_same hc1, rfl, _, _, rfl, _, _, rfl, rfl, ?_⟩
            have hc2' : SqL K H10' c2 (q0.2.map V.str) := hid_same.seq hc2
            refine ⟨_, rfl, c2, rfl, ⟨_, hc2'⟩, fun D3 nD3 => ?_⟩
            have sD3 := st10.S_ne nD3
            have D3S : D3 ∉ [S, S0] := by simp; exact sD3
            have D3f : D3 ≠ f := (ne_of_none hf10 nD3).symm
            have D3r : D3 ≠ r := (ne_of_none hr10 nD3).symm
            have ha10 := s10 _ _ ha9
            refine lc_g walk_list (r :: Z) nD3 (by rw [List.length_map]; omega) (fun g Y => Stm S S0 (c + 213 + 40 * i + 3 + 8 * j + g) Y ∧ Y f = some (.dK gk) ∧ Y r = some (.lst ys) ∧ HasH h Y) ⟨st10.new nD3, by rw [upd_ne D3f.symm]; exact hf10, by rw [upd_ne D3r.symm]; exact hr10, hE10.put⟩
              (fun g Y o us hD b => ⟨b.1.put sD3.1 sD3.2, by rw [upd_ne D3f.symm]; exact b.2.1, by rw [upd_ne D3r.symm]; exact b.2.2.1, b.2.2.2.put⟩) (fun g _ y => ∃ z, (z = q0.2.getD g Str.empty ∨ (q0.2.getD g Str.empty = one ∧ rest = [] ∧ z = new)) ∧ y = V.str z) (fun _ _ _ _ _ _ b => b) (fun _ => true) (fun g Y _ _ s => hid_tail.seq (s.seq hc2) |> hid_same.seq) ?_ ?_
            · rintro g x H11 H11' us k1 k2 hg ⟨st11, hf11, hr11, hE11⟩ s11 hD11 ⟨rfl, hx⟩ k1' _
              obtain ⟨far, rfl, hfar, hfarm⟩ := strs_at hx
              rw [List.length_map] at hg
              have eg : q0.2.getD g Str.empty = far := getD_of hfar
              rw [eg] at k1'
              have keep0 : k1 (.str far) H11' := k1' rfl _ _ (Same.refl _) hD11 ⟨st11.mono (by omega), hf11, hr11, hE11⟩ ⟨far, .inl rfl, rfl⟩
              refine ⟨rfl, tYesI ⟨_, rfl, _, rfl, rfl, _, rfl, ?_⟩⟩
              by_cases hfo : far = one
              · have hd : decide (V.str far = V.str one) = true := decide_eq_true (by rw [hfo])
                rw [hd]
                refine iteT ⟨_, rfl, (by show 0 ≤ sizeLine; decide), fun u nu => ?_⟩
                have su := same_new (o := .lst []) nu
                have st12 : Stm S S0 (c + 213 + 40 * i + 3 + 8 * j + g) (upd H11' u (.lst [])) := st11.new nu
                have hu12 : upd H11' u (.lst []) u = some (.lst []) := upd_same
                have ha12 := su _ _ (hid_of (hid_tail _ _ (s11 _ _ ha10))).2
                have hD12 := su _ _ hD11
                have hf12 := su _ _ hf11
                have hr12 := su _ _ hr11
                have hE12 := hE11.same su
                have fr12 : Same (hid (D3 :: r :: Z) H11') (hid (D3 :: r :: Z) (upd H11' u (.lst []))) := hid_new nu
                generalize upd H11' u (.lst []) = H12 at su st12 hu12 ha12 hD12 hf12 hr12 hE12 fr12 ⊢
                have hsr : ∀ z ∈ rest, sOk z := fun z hz => (drn.gx.names (nmin z (rin z hz))).2.2
                refine ⟨.list (rest.map .str), .list [], .lst (SqL.of ha12) (dp_strs _), .lst (SqL.of hu12) .nil, enc_str.all hsr, shaped_list (by intro d h; cases h), _, rfl, ?_⟩
                rw [eqv_nil]
                cases rest with
                | cons z0 zz => exact iteF (iteF ⟨_, rfl, k1' rfl _ _ fr12 hD12 ⟨st12.mono (by omega), hf12, hr12, hE12⟩ ⟨far, .inl rfl, rfl⟩⟩)
                | nil =>
                  refine iteT ⟨_, rfl, S, S0, _, 2, rfl, st12, by omega, by decide, by decide, fun r13 H13 _ _ st13 sm13 => ⟨rfl, _, rfl, ?_⟩⟩
                  have f13 : Same (hid (D3 :: r :: Z) H11') (hid (D3 :: r :: Z) H13) := fr12.trans (hid_more sm13 fun a ha => List.mem_cons_of_mem _ (List.mem_cons_of_mem _ (by rw [eZ]; exact List.mem_append_right _ ha)))
                  have hD13 := keep_at sm13 hD12 D3S
                  have ok13 : Stm S S0 (c + 213 + 40 * i + 3 + 8 * j + (g + 1)) H13 ∧ H13 f = some (.dK gk) ∧ H13 r = some (.lst ys) ∧ HasH h H13 := ⟨st13.mono (by omega), keep_at sm13 hf12 fS, keep_at sm13 hr12 rZS, hE12.draw sm13 hS⟩
                  refine ite2 (fun _ => ⟨_, rfl, k1' rfl _ _ f13 hD13 ok13 ⟨new, .inr ⟨hfo, rfl, rfl⟩, rfl⟩⟩) (fun _ => ⟨_, rfl, k1' rfl _ _ f13 hD13 ok13 ⟨far, .inl rfl, rfl⟩⟩)
              · have hd : decide (V.str far = V.str one) = false := decide_eq_false (by intro e; injection e with e; exact hfo e)
                rw [hd]
                exact iteF (iteF ⟨_, rfl, keep0⟩)
            · rintro H11 us ⟨st11, hf11, hr11, hE11⟩ s11 hD11 pr
              rw [filter_range, List.length_map] at pr
              obtain ⟨som, p1, p2⟩ := paired_some pr
              have esom := paired_strs p2
              have slen : som.length = q0.2.length := by have := paired_len p1; rw [List.length_range] at this; exact this
              have var : Varied new one rest q0.2 som := by
                have e0 : (List.range q0.2.length).map (fun g => q0.2.getD g Str.empty) = q0.2 := by
                  have := range_getD q0.2 Str.empty fun x => x
                  rw [List.map_id'] at this
                  exact this
                have lift : ∀ {l : List Nat} {m : List Str}, Paired (fun g z => z = q0.2.getD g Str.empty ∨ (q0.2.getD g Str.empty = one ∧ rest = [] ∧ z = new)) l m → Varied new one rest (l.map fun g => q0.2.getD g Str.empty) m := by
                  intro l m pp
                  induction pp with
                  | nil => exact .nil
                  | cons qq tt ih => exact .cons qq ih
                have := lift p1
                rwa [e0] at this
              rw [esom] at hD11
              have s11' : Same (hid (r :: Z) H10') (hid (r :: Z) H11) := fun b o w => hid_tail _ _ (s11 _ _ w)
              rw [List.length_map] at st11
              have D3h : D3 ≠ h := hE10.ne nD3
              have D3Z : D3 ∉ r :: Z := fun zz => (List.mem_cons.mp zz).elim D3r (by rw [eZ]; exact not_in4 D3h D3f D3S)
              have ha11 := (hid_of (s11' _ _ ha10)).2
              refine ⟨_, rfl, .inl ⟨rfl, _, SqL.of hr11⟩, _, rfl, _, rfl, _, rfl, D3, a, _, _, rfl, rfl, SqL.of hD11, SqL.of ha11, ?_, fun u nu => ⟨(by show 2 ≤ sizeLine; decide), fun t nt => ?_⟩⟩
              · rw [List.length_map, List.length_map]
                exact Nat.le_trans (show som.length + rest.length ≤ 8 by omega) (by decide)
              have eap : som.map V.str ++ rest.map V.str = (som ++ rest).map V.str := by rw [List.map_append]
              rw [eap] at nt ⊢
              have sn1 := same_new (o := .lst ((som ++ rest).map V.str)) nu
              have fr1 := hid_new (M := r :: Z) (o := .lst ((som ++ rest).map V.str)) nu
              have not5 : ∀ {x : Addr} {Y : Hp} {c' : Nat}, Y x = none → Stm S S0 c' Y → Y f = some (.dK gk) → HasH h Y → Y r = some (.lst ys) → x ∉ r :: Z := fun n1 n2 n3 n4 n5 zz => (List.mem_cons.mp zz).elim (ne_of_none n5 n1).symm (by rw [eZ]; exact not_in4 (n4.ne n1) (ne_of_none n3 n1).symm (by have := n2.S_ne n1; simp; exact this))
              have uZ := not5 nu st11 hf11 hE11 hr11
              have st12 : Stm S S0 (c + 213 + 40 * i + 3 + 8 * j + q0.2.length) (upd H11 u (.lst ((som ++ rest).map V.str))) := st11.new nu
              have hf12 := sn1 _ _ hf11
              have hr12 := sn1 _ _ hr11
              have hE12 := hE11.same sn1
              have hu12 : hid (r :: Z) (upd H11 u (.lst ((som ++ rest).map V.str))) u = some (.lst ((som ++ rest).map V.str)) := hid_get uZ upd_same
              generalize upd H11 u (.lst ((som ++ rest).map V.str)) = H12 at nt sn1 fr1 st12 hf12 hr12 hE12 hu12 ⊢
              have tZ := not5 nt st12 hf12 hE12 hr12
              have sn2 := same_new (o := .tup [.str q0.1, .ref u]) nt
              have fr2 := hid_new (M := r :: Z) (o := .tup [.str q0.1, .ref u]) nt
              have yl : ys.length ≤ 4 := by rw [dpAll_len dr10]; omega
              refine ⟨r, ys, _, rfl, rfl, sn2 _ _ hr12, Nat.lt_of_le_of_lt yl (by decide), ?_⟩
              have g0 : ∀ o, hid (r :: Z) (upd (upd H12 t (.tup [.str q0.1, .ref u])) r o) = hid (r :: Z) (upd H12 t (.tup [.str q0.1, .ref u])) := fun o => hid_in List.mem_cons_self
              have frT : Same (hid (r :: Z) H10') (hid (r :: Z) (upd H12 t (.tup [.str q0.1, .ref u]))) := (s11'.trans fr1).trans fr2
              have rSm := rZS
              simp at rSm
              refine ⟨⟨_, _, _, rfl⟩, ((st12.new nt).put rSm.1 rSm.2).mono (by omega), by rw [g0]; exact s10.trans frT, by rw [upd_ne rf.symm]; exact sn2 _ _ hf12, (hE12.same sn2).put, ys ++ [.ref t], rs' ++ [(q0.1, som ++ rest)], upd_same, ?_, ?_⟩
              · rw [g0, List.map_append]
                exact dpAll_snoc (sDpAll frT _ _ dr10) (dpL_of (b := u) (SqT.of (hid_get tZ upd_same)) (SqL.of (fr2 _ _ hu12)))
              · rw [List.take_succ, hq0]
                exact paired_snoc an ⟨rfl, som, rfl, var⟩
          · rintro σ H10 ⟨⟨x12, x15, x16, rfl⟩, st10, s10, hf10, hE10, ys, rs', hr10, dr10, an⟩
            rw [hxl] at st10 an
            rw [List.take_length] at an
            have lens : rs'.length = rs.length := paired_len an
            have ysl : ys.length = rs'.length := dpAll_len dr10
            have gkl : gk.length = Rn.length := kf6.len
            refine ⟨_, rfl, f, gk, rfl, hf10, _, _, rfl, rfl, _, rfl, ?_⟩
            have sH6 : Same (hid Z H6') (hid Z H10) := fun b o w => hid_tail _ _ (s10 _ _ (fr9 _ _ w))
            have fSm := fS
            simp at fSm
            have pN10 := sH6 _ _ hpN
            have kf10 := kf6.same sH6
            have stay : ∀ {Y : Hp}, Same H10 Y → ∃ nmN : List Str, hid Z Y pN = some (.lst (nmN.map V.str)) ∧ nmN ≠ [] ∧ nmN.length ≤ 6 + (i + 1) ∧ Stm S S0 (c + 213 + 40 * (i + 1)) Y ∧ Same (hid Z H5) (hid Z Y) ∧ HasH h Y ∧ ∃ fk R M, Y f = some (.dK fk) ∧ KvD K (hid Z Y) encRs R fk ∧ Drawn R M ∧ (∀ z ∈ nmN, z ∈ R.map (·.1)) ∧ ∀ z ∈ news.drop (i + 1), z ∉ R.map (·.1) := fun {Y} sY =>
              ⟨nmN, sHid sY _ _ pN10, nmne, by omega, (st10.same sY).mono (by have := rok4; omega), (s6.trans sH6).trans (sHid sY), hE10.same sY, gk, Rn, Mn, sY _ _ hf10, kf10.same (sHid sY), drn, nmin, fun z hz => nwout z (drop_more hz)⟩
            by_cases few : Rn.length < 10
            · have hd : decide (((gk.length : Nat) : Int) < 10) = true := decide_eq_true (by rw [gkl]; omega)
              rw [hd]
              refine iteT ⟨_, rfl, r, rfl, ⟨_, SqL.of hr10⟩, fun D4 nD4 => ?_⟩
              refine lc_p walk_list nD4 (by rw [ysl]; omega) (fun j _ y => y = .int (((rs'.getD j (Str.empty, [])).2.length : Nat) : Int)) (fun _ _ _ _ _ _ b => b) (fun _ => true) (fun Y sY => SqL.of (sY _ _ hr10)) ?_ ?_
              · rintro j x Y Y' k1 k2 hj sY ⟨rfl, hx⟩ k1' _
                obtain ⟨q0, hq0, dq0⟩ := dpAll_at dr10 hx
                obtain ⟨c1, c2, rfl, hc1, hc2⟩ := dp_L (sDp (sHid sY) _ _ dq0)
                refine ⟨c1, _, rfl, sSeqT hid_same hc1, rfl, _, _, rfl, _, _, rfl, rfl, ?_⟩
                refine ⟨rfl, tYesI ⟨_, rfl, c2, _, rfl, .inl (hid_same.seq hc2), k1' rfl _ _ (Same.refl _) ?_⟩⟩
                rw [getD_of hq0, List.length_map]
              · intro Y zs sY hD4 pr
                rw [filter_true] at pr
                have e4 := Paired_map (f := fun j => V.int (((rs'.getD j (Str.empty, [])).2.length : Nat) : Int)) pr
                rw [ysl, range_getD rs' (Str.empty, []) (fun q => V.int ((q.2.length : Nat) : Int))] at e4
                refine ⟨D4, rs'.map (fun q => ((q.2.length : Nat) : Int)), rfl, SqL.of (by rw [hD4, e4, List.map_map]; rfl), by rw [List.length_map, lens]; exact List.length_pos_iff.mpr rok.ne, fun mx hmx hmx2 => ⟨_, _, rfl, rfl, _, rfl, ?_⟩⟩
                by_cases small : mx < 5
                · rw [decide_eq_true small]
                  have hl5 : ∀ q ∈ rs', q.2.length < 5 := fun q hq => by
                    have := hmx2 _ (List.mem_map.mpr ⟨q, hq, rfl⟩)
                    omega
                  have drZ : DpAll K (hid Z Y) ys (rs'.map encL) := sDpAll (hid_tail.trans (sHid sY)) _ _ dr10
                  refine iteT ?_
                  refine ⟨_, rfl, ?_⟩
                  refine sorted_rsM Z (.inr rfl) (SqL.of (sY _ _ hr10)) drZ (by omega) fun p3 us np3 du => ?_
                  have s11 := same_new (o := .lst us) np3
                  have st11 : Stm S S0 (c + 213 + 40 * i + 36) (upd Y p3 (.lst us)) := (st10.same (sY.trans s11)).mono (by omega)
                  have hf11 := s11 _ _ (sY _ _ hf10)
                  have p3Z : p3 ∉ Z := by rw [eZ]; exact not_in4 ((hE10.same sY).ne np3) (ne_of_none (sY _ _ hf10) np3).symm (by have := (st10.same sY).S_ne np3; simp; exact this)
                  have frZ : Same (hid Z H10) (hid Z (upd Y p3 (.lst us))) := sHid (sY.trans s11)
                  have hE11 := (hE10.same sY).same s11
                  have dp3 : Dp K (hid Z (upd Y p3 (.lst us))) (.ref p3) (encRs (sortR rs')) := .lst (SqL.of (hid_get p3Z upd_same)) (sDpAll (sHid s11) _ _ du)
                  have kf11 := kf10.same frZ
                  have pN11 := frZ _ _ pN10
                  generalize upd Y p3 (.lst us) = H11 at st11 hf11 frZ hE11 dp3 kf11 pN11 ⊢
                  have gkz : gk.length < sizeLine := by rw [gkl]; exact Nat.lt_trans few (by decide)
                  refine ⟨_, rfl, _, rfl, f, _, rfl, .inl ⟨gk, Sum.inr new, hf11, rfl, gkz, rfl⟩, ?_⟩
                  have g0 : ∀ o, hid Z (upd H11 f o) = hid Z H11 := fun o => hid_in fZ
                  have kf12 : KvD K (hid Z (upd H11 f (.dK (putK gk (Sum.inr new) (.ref p3))))) encRs (putA Rn new (sortR rs')) (putK gk (Sum.inr new) (.ref p3)) := by rw [g0]; exact KvD.put kf11 dp3
                  have hf12 : upd H11 f (.dK (putK gk (Sum.inr new) (.ref p3))) f = some (.dK (putK gk (Sum.inr new) (.ref p3))) := upd_same
                  have st12 := (st11.put (o := .dK (putK gk (Sum.inr new) (.ref p3))) fSm.1 fSm.2)
                  have hE12 : HasH h (upd H11 f (.dK (putK gk (Sum.inr new) (.ref p3)))) := hE11.put
                  have fr12 : Same (hid Z H10) (hid Z (upd H11 f (.dK (putK gk (Sum.inr new) (.ref p3))))) := by rw [g0]; exact frZ
                  have pN12 := fr12 _ _ pN10
                  generalize upd H11 f (.dK (putK gk (Sum.inr new) (.ref p3))) = H12 at kf12 hf12 st12 hE12 fr12 pN12 ⊢
                  refine ⟨_, rfl, _, rfl, (by show 1 ≤ sizeLine; decide), fun u nu => ⟨pN, u, _, _, rfl, rfl, SqL.of ((same_new nu) _ _ (hid_of pN12).2), SqL.of upd_same, ?_, fun p np => ?_⟩⟩
                  · rw [List.length_map]
                    exact Nat.le_trans (show nmN.length + 1 ≤ 16 by omega) (by decide)
                  have su := same_new (o := .lst [V.str new]) nu
                  have eap : nmN.map V.str ++ [V.str new] = (nmN ++ [new]).map V.str := by rw [List.map_append]; rfl
                  rw [eap]
                  have sp := same_new (o := .lst ((nmN ++ [new]).map V.str)) np
                  have sup := su.trans sp
                  have pZ' : p ∉ Z := by rw [eZ]; exact not_in4 ((hE12.same su).ne np) (ne_of_none (su _ _ hf12) np).symm (by have := (st12.same su).S_ne np; simp; exact this)
                  obtain ⟨M', dM⟩ := drawn_anew drn hrs newout new12 (fun z hz => nmin z (rin z hz)) an few hl5 (sortR_perm rs')
                  have eR : (putA Rn new (sortR rs')).map (·.1) = Rn.map (·.1) ++ [new] := by rw [putA_new newout, List.map_append]; rfl
                  refine ⟨p, _, _, _, _, _, _, _, _, _, _, _, rfl, nmN ++ [new], hid_get pZ' upd_same, by simp, by rw [List.length_append]; show nmN.length + 1 ≤ _; omega, ((st12.same su).same sp).mono (by omega), ((s6.trans sH6).trans fr12).trans (sHid sup), hE12.same sup, _, _, M', sup _ _ hf12, kf12.same (sHid sup), dM, ?_, ?_⟩
                  · intro z hz
                    rw [eR]
                    rcases List.mem_append.mp hz with hz | hz
                    · exact List.mem_append_left _ (nmin z hz)
                    · exact List.mem_append_right _ hz
                  · intro z hz hm
                    rw [eR] at hm
                    rcases List.mem_append.mp hm with hm | hm
                    · exact nwout z (drop_more hz) hm
                    · exact drop_other nwnd hnw hz (List.mem_singleton.mp hm)
                · rw [decide_eq_false small]
                  refine iteF ?_
                  exact ⟨pN, _, _, _, _, _, _, _, _, _, _, _, rfl, stay sY⟩
            · have hd : decide (((gk.length : Nat) : Int) < 10) = false := decide_eq_false (by rw [gkl]; omega)
              rw [hd]
              refine iteF (iteF ?_)
              exact ⟨pN, _, _, _, _, _, _, _, _, _, _, _, rfl, stay (Same.refl _)⟩
        · intro fin
          refine ⟨_, rfl, S, S0, _, 2, rfl, st7, by omega, by decide, by decide, fun r8 H8 _ _ st8 sm8 => ⟨rfl, _, rfl, ?_⟩⟩
          have s8 := drawZ sm8
          have hf8 := keep_at sm8 hf7 fS
          have hE8 := hE7.draw sm8 hS
          have hpN8 := s8 _ _ hpN7
          refine ite2 (fun _ => ?_) (fun _ => ?_)
          · refine ⟨_, rfl, _, rfl, S, S0, _, pN, nmN.map V.str, rfl, st8, by omega, SqL.of (ZS _ _ _ hpN8), by rw [List.length_map]; exact List.length_pos_iff.mpr nmne, by rw [List.length_map]; omega, fun v H9 hv st9 sm9 => ⟨(by show 1 ≤ sizeLine; decide), fun u nu => ?_⟩⟩
            obtain ⟨z, hz, rfl⟩ := strs_of hv
            have hf9 := keep_at sm9 hf8 fS
            have su := same_new (o := .lst [V.str z]) nu
            have hE9 := (hE8.draw sm9 hS)
            have uZ : u ∉ Z := by rw [eZ]; exact not_in4 (hE9.ne nu) (ne_of_none hf9 nu).symm (by have := st9.S_ne nu; simp; exact this)
            exact fin _ _ ⟨u, [z], rfl, hid_get uZ upd_same, (fun y hy => by rw [List.mem_singleton.mp hy]; exact hz), Nat.le_refl _, (st9.new nu).mono (by omega), (s8.trans (drawZ sm9)).trans (sHid su), su _ _ hf9, hE9.same su⟩
          · refine ⟨(by show 0 ≤ sizeLine; decide), fun u nu => ?_⟩
            have su := same_new (o := .lst []) nu
            have uZ : u ∉ Z := by rw [eZ]; exact not_in4 (hE8.ne nu) (ne_of_none hf8 nu).symm (by have := st8.S_ne nu; simp; exact this)
            exact fin _ _ ⟨u, [], rfl, hid_get uZ upd_same, (fun _ g => by cases g), Nat.zero_le _, (st8.new nu).mono (by omega), s8.trans (sHid su), su _ _ hf8, hE8.same su⟩
      · rintro σ H6 ⟨pN, w6, w7, w8, w9, w10, w11, w12, w13, w14, w15, w16, rfl, nmN, hpN, nmne, nml, st6, s6, hE6, gk, Rn, Mn, hf6, kf6, drn, nmin, nwout⟩
        rw [List.length_map] at st6
        have kl : gk.length ≤ 1000000 := by rw [kf6.len]; have := drn.few; omega
        refine ⟨_, rfl, [S, S0], f, gk, Rn, rfl, hf6, kf6.same (ZS _), kl, fun p ps kvs' R' H7 s7 np7 hp7 pr pmR kR => ?_⟩
        refine ⟨p, ps, kvs', rfl, SqL.of hp7, pr, fun u nu => ?_⟩
        have gx' := gx_perm drn.gx pmR
        have knd : (kvs'.map (·.1)).Nodup := by
          rw [kvd_keys kR]
          exact List.Pairwise.map _ (fun a b hab e => hab (by injection e)) gx'.nd
        rw [mergeK_nd kvs' [] (by rw [List.nil_append]; exact knd), List.nil_append]
        have su := same_new (o := .dK kvs') nu
        refine q u kvs' R' _ upd_same ?_ gx' ((((st6.same s7).same su)).mono (by omega)) ?_
        · exact kR.same (sHid su)
        · exact fun b o w => ZS _ _ _ (sHid (s7.trans su) _ _ (s6 _ _ (fr5 _ _ (frE _ _ w))))
end
end K8
set_option maxRecDepth 100000
set_option maxHeartbeats 4000000
namespace K8
open PySem PySem.Spec PyProof.Rows L2
/-! ### a planted book and its signs -/
def plain8 : List Str := ["end", "fin", "off", "out", "a", "b", "c", "!c"]
def marks3 : List Str := ["!", "?", ""]
def bare (s : Str) : Str := Txt.stripChars s "!?"
theorem signed_ok : ∀ mk ∈ marks3, ∀ z ∈ plain8, letterB (mk ++ bare z) = true ∧ (mk ++ bare z).length ≤ 9 ∧ sOk (mk ++ bare z) := by
  intro mk hm z hz
  simp only [marks3, List.mem_cons, List.not_mem_nil, or_false] at hm
  simp only [plain8, List.mem_cons, List.not_mem_nil, or_false] at hz
  rcases hm with rfl | rfl | rfl <;> rcases hz with rfl | rfl | rfl | rfl | rfl | rfl | rfl | rfl <;> exact ⟨by decide +kernel, by decide +kernel, by unfold sOk; decide +kernel⟩
structure RP (nms : List Str) (rs : List Rule) : Prop where
  ne : rs ≠ []
  len : rs.length ≤ 8
  ok : ∀ q ∈ rs, q.1 ∈ plain8 ∧ q.2.length ≤ 8 ∧ ∀ n ∈ q.2, n ∈ nms
structure Plant (R : Bk) : Prop where
  nd : (R.map (·.1)).Nodup
  n12 : ∀ t ∈ R, t.1 ∈ names12
  some : R ≠ []
  few : R.length ≤ 12
  rs : ∀ t ∈ R, RP (R.map (·.1)) t.2
  en : ∃ M : Str → Nat, ∀ t ∈ R, ∃ q ∈ t.2, 1 + sumN M q.2 ≤ M t.1
structure Signed (t t' : Str × List Rule) : Prop where
  nm : t'.1 = t.1
  ne : t'.2 ≠ []
  nd : t'.2.Nodup
  len : t'.2.length ≤ 8
  ok : ∀ q' ∈ t'.2, (letterB q'.1 = true ∧ q'.1.length ≤ 9 ∧ sOk q'.1) ∧ ∃ q ∈ t.2, q'.2 = q.2
  of : ∀ q ∈ t.2, ∃ q' ∈ t'.2, q'.2 = q.2
theorem signed_names : ∀ {R R' : Bk}, Paired Signed R R' → R'.map (·.1) = R.map (·.1)
  | _, _, .nil => rfl
  | _, _, .cons q t => by rw [List.map_cons, List.map_cons, q.nm, signed_names t]
theorem signed_back : ∀ {R R' : Bk}, Paired Signed R R' → ∀ t' ∈ R', ∃ t ∈ R, Signed t t'
  | _, _, .nil => fun _ z => by cases z
  | a :: _, b :: _, .cons q t => fun x hx => by
    rcases List.mem_cons.mp hx with e | hx
    · exact ⟨a, List.mem_cons_self, e ▸ q⟩
    · obtain ⟨y, hy, r⟩ := signed_back t x hx
      exact ⟨y, List.mem_cons_of_mem _ hy, r⟩
theorem signed_gx {R R' : Bk} (p : Plant R) (h : Paired Signed R R') : GX R' := by
  have nm := signed_names h
  have bk := signed_back h
  have hl := paired_len h
  obtain ⟨M, hM⟩ := p.en
  have n12 : ∀ t ∈ R', t.1 ∈ names12 := fun t ht => by
    obtain ⟨u, hu, s⟩ := bk t ht
    rw [s.nm]
    exact p.n12 u hu
  refine { nd := by rw [nm]; exact p.nd, few := ?_, some := ?_, nb := fun t ht => (names12_ok _ (n12 t ht)).1, ne := ?_, rn := ?_, rl := ?_, lb := ?_, rw := ?_, cl := ?_, en := ⟨M, ?_⟩, n12 := n12, so := ?_ }
  · rw [hl]; exact p.few
  · intro e
    rw [e] at hl
    exact p.some (List.eq_nil_of_length_eq_zero hl.symm)
  · intro t ht; obtain ⟨u, hu, s⟩ := bk t ht; exact s.ne
  · intro t ht; obtain ⟨u, hu, s⟩ := bk t ht; exact s.nd
  · intro t ht; obtain ⟨u, hu, s⟩ := bk t ht; exact s.len
  · intro t ht q hq; obtain ⟨u, hu, s⟩ := bk t ht; exact ⟨(s.ok q hq).1.1, (s.ok q hq).1.2.1⟩
  · intro t ht q hq; obtain ⟨u, hu, s⟩ := bk t ht
    obtain ⟨_, q0, h0, e⟩ := s.ok q hq
    rw [e]
    exact ((p.rs u hu).ok q0 h0).2.1
  · intro t ht q hq n hn; obtain ⟨u, hu, s⟩ := bk t ht
    obtain ⟨_, q0, h0, e⟩ := s.ok q hq
    rw [e] at hn
    rw [nm]
    exact ((p.rs u hu).ok q0 h0).2.2 n hn
  · intro t ht; obtain ⟨u, hu, s⟩ := bk t ht
    obtain ⟨q, hq, e⟩ := hM u hu
    obtain ⟨q', hq', e2⟩ := s.of q hq
    exact ⟨q', hq', by rw [e2, s.nm]; exact e⟩
  · intro t ht q hq; obtain ⟨u, hu, s⟩ := bk t ht; exact (s.ok q hq).1.2.2
/-- rules with a sign ahead of each letter -/
def Marked : List Rule → List Rule → Prop := Paired (fun q q' => q'.2 = q.2 ∧ ∃ mk ∈ marks3, q'.1 = mk ++ bare q.1)
theorem marked_back : ∀ {rs rs' : List Rule}, Marked rs rs' → ∀ q' ∈ rs', ∃ q ∈ rs, q'.2 = q.2 ∧ ∃ mk ∈ marks3, q'.1 = mk ++ bare q.1
  | _, _, .nil => fun _ z => by cases z
  | a :: _, b :: _, .cons q t => fun x hx => by
    rcases List.mem_cons.mp hx with e | hx
    · exact ⟨a, List.mem_cons_self, e ▸ q⟩
    · obtain ⟨y, hy, r⟩ := marked_back t x hx
      exact ⟨y, List.mem_cons_of_mem _ hy, r⟩
theorem marked_of : ∀ {rs rs' : List Rule}, Marked rs rs' → ∀ q ∈ rs, ∃ q' ∈ rs', q'.2 = q.2
  | _, _, .nil => fun _ z => by cases z
  | a :: _, b :: _, .cons q t => fun x hx => by
    rcases List.mem_cons.mp hx with e | hx
    · exact ⟨b, List.mem_cons_self, by rw [e]; exact q.1⟩
    · obtain ⟨y, hy, r⟩ := marked_of t x hx
      exact ⟨y, List.mem_cons_of_mem _ hy, r⟩
theorem marked_signed {nms : List Str} {n : Str} {rs rs' : List Rule} (p : RP nms rs) (h : Marked rs rs') : Signed (n, rs) (n, sortR (once rs')) := by
  have hl : rs'.length = rs.length := paired_len h
  refine ⟨rfl, fun e => ?_, (sortR_perm _).nodup_iff.mpr (once_nd _), ?_, fun q' hq' => ?_, fun q hq => ?_⟩
  · have e1 : once rs' = [] := by have := sortR_perm (once rs'); rw [show sortR (once rs') = [] from e] at this; exact List.Perm.eq_nil this.symm
    refine p.ne (List.eq_nil_iff_forall_not_mem.mpr fun q hq => ?_)
    obtain ⟨q', hq', _⟩ := marked_of h q hq
    have := once_mem.mpr hq'
    rw [e1] at this
    cases this
  · have := once_len rs'
    have := (sortR_perm (once rs')).length_eq
    have := p.len
    show (sortR (once rs')).length ≤ 8
    omega
  · have := once_mem.mp ((sortR_perm _).mem_iff.mp hq')
    obtain ⟨q, hq, e, mk, hm, e2⟩ := marked_back h q' this
    exact ⟨by rw [e2]; exact signed_ok mk hm _ (p.ok q hq).1, q, hq, e⟩
  · obtain ⟨q', hq', e⟩ := marked_of h q hq
    exact ⟨q', (sortR_perm _).mem_iff.mpr (once_mem.mpr hq'), e⟩
end K8
set_option maxRecDepth 100000
set_option maxHeartbeats 8000000
namespace K8
open PySem PySem.Spec PyProof.Rows L2
theorem pe_bare {X : Cx} {o e : Expr} {to te : TE} {apos pos : Pos} (ho : PE X o to) (he : PE X e te)
    (hs : starEach [e] X.env = [(false, eval e X.env)] := by rfl) (hbase : attributeBase o "strip" X.env (eval o X.env) = eval o X.env := by rfl) (hline : (apos.endLine == pos.line) = true := by rfl) :
    PE X (.Call (.Attribute o "strip" apos) [e] [] pos) (tM1 (fun x xs H Q => ∃ a b, x = .str a ∧ xs = [.str b] ∧ a.length ≤ sizeLine ∧ Q (.str (Txt.stripChars a b)) H) to te) :=
  pe_m1 F.slot_str_strip F.type_str_strip mt_stripChars ho he hs hbase hline
theorem plain_len : ∀ mk ∈ marks3, ∀ z ∈ plain8, z.length ≤ 9 ∧ mk.length + (Txt.stripChars z "!?").length ≤ 9 := by
  intro mk hm z hz
  simp only [marks3, List.mem_cons, List.not_mem_nil, or_false] at hm
  simp only [plain8, List.mem_cons, List.not_mem_nil, or_false] at hz
  rcases hm with rfl | rfl | rfl <;> rcases hz with rfl | rfl | rfl | rfl | rfl | rfl | rfl | rfl <;> exact ⟨by decide +kernel, by decide +kernel⟩
theorem hid_upd_out {H : Hp} {d : Addr} {M : List Addr} {o : HO} (h : d ∉ M) : hid M (upd H d o) = upd (hid M H) d o := by
  funext b
  by_cases e : b = d
  · subst e
    rw [upd_same]
    unfold hid
    rw [if_neg h]
    exact upd_same
  · rw [upd_ne e]
    unfold hid
    by_cases hb : b ∈ M
    · rw [if_pos hb, if_pos hb]
    · rw [if_neg hb, if_neg hb, upd_ne e]
def spBSigned (K : PySem.W.Frag) : Sp := fun vs H Q _ => ∃ (S S0 d : Addr) (c : Nat) (kvs : List (Key × V)) (R : Bk), vs = [.ref S, .ref d] ∧ Stm S S0 c H ∧ c + 500 ≤ LIM ∧ H d = some (.dK kvs) ∧ KvD K (hid [S, S0] H) encRs R kvs ∧ Plant R ∧
  ∀ (p : Addr) (kvs' : List (Key × V)) (R' : Bk) (H' : Hp), H' p = some (.dK kvs') → KvD K (hid [S, S0] H') encRs R' kvs' → GX R' → Stm S S0 (c + 500) H' → Same (hid [S, S0] H) (hid [S, S0] H') → Q (.ref p) H'
section
variable {P : Program} {w : World} {K : PySem.W.Frag} {mg : Str → Option Value} {base : Heap}
theorem sc_b_signed : FnScope ["_law_stream", "_law_rules", "_law_found", "_law_way", "_law_name", "_law_sign", "_law_some", "_law_letter", "_law_row", "_law_mark"] ["_law_stream", "_law_rules"] (defScope s_b_signed) := ⟨rfl, rfl, rfl, by decide +kernel, rfl, by decide +kernel, by decide +kernel⟩
theorem ok_b_signed (T : Txt K mg) : FnOk P w K mg base CX0 3 T.b_signed.f T.b_signed.fd ["_law_stream", "_law_rules"] (spBSigned K) := by
  have G_draw : FnOk P w K mg base CX0 2 T.draw.f T.draw.fd _ spDraw := (ok_draw T).mono (by decide)
  have G_pick : FnOk P w K mg base CX0 2 T.pick.f T.pick.fd _ (spPick K) := ok_pick T
  have G_each_once : FnOk P w K mg base CX0 2 T.each_once.f T.each_once.fd _ (spOnce K rOk encL) := (ok_each_once enc_L T).mono (by decide)
  refine T.b_signed.F.ok sc_b_signed (fun vs H Q E h => ?_) (fun cdv A outer s H vs Q E hr h => ?_)
  · obtain ⟨S, S0, d, c, kvs, R, rfl, _⟩ := h
    rfl
  obtain ⟨S, S0, d, c, kvs, R, rfl, st, hc, hd, kd, pl, q⟩ := h
  have hc : c + 500 ≤ 1099511627776 := hc
  have nd := sc_b_signed.nd
  have hu := hu_of hr
  have hu64 := hr.units
  have hu65 : (A.deeper (envOfC "_law_b_signed" (defScope s_b_signed) s.heap.objs.size T.b_signed.f cdv)).units + 65 < cLine := by have := hr.un; omega
  refine ⟨_, (pss_cons (ps_par (i := 2) (j := 3) rfl nd rfl rfl (by decide) rfl rfl (pa_cons pe_dnewK (pa_cons (eC T.draw G_draw hr (pa_cons (pv 0) (pa_cons pe_int pa_nil))) pa_nil)) rfl)
    (pss_cons (ps_lock (ps_for PassesOwn.never rfl (pi_keys (pv 1)) (pg_name (i := 4) nd rfl (Or.inl rfl))
      (pss_cons (ps_par (i := 5) (j := 6) rfl nd rfl rfl (by decide) rfl rfl (pa_cons (eC T.pick G_pick hr (pa_cons (pv 0) (pa_cons (pe_lst (pa_cons pe_str (pa_cons pe_str pa_nil))) pa_nil))) (pa_cons (pe_lst pa_nil) pa_nil)) rfl)
      (pss_cons (ps_for PassesOwn.never rfl (iL K (pe_dget hu (pv 1) (pv 4) (fun _ _ => rfl))) (gTu (K := K) rfl (pgs_cons (pg_name (i := 7) nd rfl (Or.inl rfl)) (pgs_cons (pg_name (i := 8) nd rfl (Or.inl rfl)) pgs_nil)))
        (pss_cons (ps_set (i := 9) nd rfl (Or.inl rfl) (pe_ifExp (pt_cmpR op_eq (pv 3) pe_int (nomark _)) (pv 5) (eC T.pick G_pick hr (pa_cons (pv 0) (pa_cons (pe_slice (slL K) (pe_lst (pa_cons pe_str (pa_cons pe_str (pa_cons pe_str pa_nil)))) po_none (po_some (pe_op op_sub pe_int (pv 3)))) pa_nil)))))
        (pss_one (ps_expr (eAppend K (pv 6) (pe_tup (pa_cons (pe_op op_add_str (pv 9) (pe_bare (pv 7) pe_str)) (pa_cons (pv 8) pa_nil))))))))
      (pss_one (ps_dput hu (pv 2) (pv 4) (e1SortD K hu65 T.z_sorted (eC T.each_once G_each_once hr (pa_cons (pv 6) pa_nil))) rfl))))))
    (pss_one (ps_ret (pv 2))))), ?_⟩
  have dS : d ∉ [S, S0] := stm_lst st hd fun _ z => by cases z
  have dSm := dS
  simp at dSm
  intro f nf
  have df : d ≠ f := ne_of_none hd nf
  have X1 : St S S0 [f] c H (upd H f (.dK [])) := (St.start st).push nf (by simp)
  have hd1 := same_new (o := .dK []) nf _ _ hd
  have hf1 : upd H f (.dK []) f = some (.dK []) := upd_same
  generalize upd H f (.dK []) = H1 at X1 hd1 hf1 ⊢
  have fS : f ∉ [S, S0] := (X1.ap f (by simp)).1
  refine ⟨_, rfl, S, S0, c, 3, rfl, X1.st, by omega, by decide, by decide, fun r H2 r0 r1 st2 sm2 => ⟨_, _, rfl, ?_⟩⟩
  obtain ⟨r, rfl⟩ : ∃ r' : Nat, r = r' := ⟨r.toNat, by omega⟩
  have X2 : St S S0 [f] (c + 1) H H2 := X1.draw st2 sm2
  have hd2 := keep_at sm2 hd1 dS
  have hf2 := keep_at sm2 hf1 fS
  obtain ⟨Z, eZ⟩ : ∃ Z, Z = [f] ++ [S, S0] := ⟨_, rfl⟩
  have fr2 : Same (hid [S, S0] H) (hid Z H2) := by rw [eZ]; exact X2.fr
  have dZ : d ∉ Z := by rw [eZ]; simp; exact ⟨df, dSm⟩
  have fZ : f ∈ Z := by rw [eZ]; simp
  have ZS : ∀ Y : Hp, Same (hid Z Y) (hid [S, S0] Y) := fun Y => hid_sub fun a ha => by rw [eZ]; exact List.mem_append_right _ ha
  have drawZ : ∀ {A B : Hp}, Same (hid [S, S0] A) (hid [S, S0] B) → Same (hid Z A) (hid Z B) := fun g => hid_more g fun a ha => by rw [eZ]; exact List.mem_append_right _ ha
  refine ⟨d, _, hd2, trivial, fun od => ?_⟩
  have hdL : upd H2 d (.frz od (.dK kvs)) d = some (.frz od (.dK kvs)) := upd_same
  have hfL : upd H2 d (.frz od (.dK kvs)) f = some (.dK []) := by rw [upd_ne df.symm]; exact hf2
  have kdL : KvD K (hid Z (upd H2 d (.frz od (.dK kvs)))) encRs R kvs := by
    rw [hid_upd_out dZ]
    exact kv_upd (noS_dK (hid_get dZ hd2)) (kd.same fr2)
  have stL : Stm S S0 (c + 1) (upd H2 d (.frz od (.dK kvs))) := X2.st.put dSm.1 dSm.2
  have klen : kvs.length = R.length := kd.len
  refine ⟨_, rfl, d, od, rfl, .inl ⟨kvs, hdL, ?_⟩⟩
  have unl : ∀ {Y : Hp}, Same (hid Z (upd H2 d (.frz od (.dK kvs)))) (hid Z Y) → Same (hid Z H2) (hid Z (upd Y d (.dK kvs))) := fun s => hid_unlock hd2 s
  generalize upd H2 d (.frz od (.dK kvs)) = HL at hdL hfL kdL stL unl ⊢
  have few := pl.few
  refine for_it walk_keys (fun i σ Y => (∃ v4 v5 v6 v7 v8 v9, σ = [some (.ref S), some (.ref d), some (.ref f), some (.int (r : Nat)), v4, v5, v6, v7, v8, v9]) ∧ Stm S S0 (c + 1 + 30 * i) Y ∧ Same (hid Z HL) (hid Z Y) ∧ ∃ fk R', Y f = some (.dK fk) ∧ KvD K (hid Z Y) encRs R' fk ∧ Paired Signed (R.take i) R')
    ⟨⟨_, _, _, _, _, _, rfl⟩, stL, Same.refl _, [], [], hfL, kvD_nil, .nil⟩ (fun i σ Y _ ⟨_, _, s, _⟩ => (hid_of (s _ _ (hid_get dZ hdL))).2) ?_ ?_
  · rintro i x σ H3 H3' hi ⟨⟨v4, v5, v6, v7, v8, v9, rfl⟩, st3, s3, fk, R', hf3, kf3, sg⟩ ⟨rfl, ky, vv, hkv, rfl⟩
    obtain ⟨t, ht, ek, dt⟩ := (kdL.same s3).get hkv
    subst ek
    have tm := List.mem_of_getElem? ht
    have rp := pl.rs t tm
    have hi12 : i < 12 := by omega
    obtain ⟨v, e1, e3⟩ := (kdL.same s3).val (getA_of pl.nd tm)
    obtain ⟨b, xs, rfl, hb1, hb2⟩ := dp_list e3
    have hxl : xs.length = t.2.length := dpAll_len hb2
    have tl := rp.len
    refine ⟨_, rfl, (by show 2 ≤ sizeLine; decide), fun l nl => ?_⟩
    have notZ : ∀ {x : Addr} {Y : Hp} {c' : Nat} {o : HO}, Y x = none → Stm S S0 c' Y → Y f = some o → x ∉ Z := fun n1 n2 n3 zz => by
      rw [eZ] at zz
      rcases List.mem_cons.mp zz with e | zz
      · rw [e, n3] at n1; cases n1
      · have := n2.S_ne n1
        simp at zz
        exact zz.elim this.1 this.2
    have lZ := notZ nl st3 hf3
    have lS : l ∉ [S, S0] := by have := st3.S_ne nl; simp; exact this
    have hl4 : hid [S, S0] (upd H3' l (.lst [.str "!", .str "?"])) l = some (.lst [.str "!", .str "?"]) := hid_get lS upd_same
    have s4 := same_new (o := .lst [.str "!", .str "?"]) nl
    refine ⟨S, S0, _, l, [.str "!", .str "?"], rfl, st3.same s4, by omega, SqL.of hl4, by decide, by decide, fun v H5 hv st5 sm5 => ?_⟩
    obtain ⟨sg0, rfl, hsg⟩ : ∃ sg0, v = V.str sg0 ∧ sg0 ∈ marks3 := by
      rcases List.mem_cons.mp hv with e | hv
      · exact ⟨_, e, by decide⟩
      · exact ⟨_, List.mem_singleton.mp hv, by decide⟩
    have s35 : Same (hid Z H3') (hid Z H5) := (sHid s4).trans (drawZ sm5)
    have hf5 := keep_at sm5 (s4 _ _ hf3) fS
    refine ⟨(by show 0 ≤ sizeLine; decide), fun u nu => ⟨_, _, rfl, ?_⟩⟩
    have uZ := notZ nu st5 hf5
    have uf : u ≠ f := (ne_of_none hf5 nu).symm
    have uS : u ∉ [S, S0] := by have := st5.S_ne nu; simp; exact this
    have push : Same (hid Z H5) (hid (u :: Z) (upd H5 u (.lst []))) := hid_push nu
    have st6 : Stm S S0 (c + 1 + 30 * i + 1) (upd H5 u (.lst [])) := st5.new nu
    have hf6 := same_new (o := .lst []) nu _ _ hf5
    have hu6 : upd H5 u (.lst []) u = some (.lst []) := upd_same
    have fr6 : Same (hid Z H3') (hid (u :: Z) (upd H5 u (.lst []))) := s35.trans push
    generalize upd H5 u (.lst []) = H6 at st6 hf6 hu6 fr6 ⊢
    have hd6 := (hid_of (fr6 _ _ (s3 _ _ (hid_get dZ hdL)))).2
    have drawY : ∀ {A B : Hp}, Same (hid [S, S0] A) (hid [S, S0] B) → Same (hid (u :: Z) A) (hid (u :: Z) B) := fun g => hid_more g fun a ha => List.mem_cons_of_mem _ (by rw [eZ]; exact List.mem_append_right _ ha)
    refine ⟨_, rfl, _, rfl, d, _, rfl, .inl ⟨kvs, Sum.inr t.1, .inr ⟨od, hd6⟩, rfl, e1.symm⟩, b, rfl, ⟨xs, hid_same.seq (fr6.seq hb1)⟩, ?_⟩
    have hb6 : SqL K (hid (u :: Z) H6) b xs := fr6.seq hb1
    have hb62 : DpAll K (hid (u :: Z) H6) xs (t.2.map encL) := sDpAll fr6 _ _ hb2
    refine for_it walk_list (fun j σ Y => (∃ v7 v8 v9, σ = [some (.ref S), some (.ref d), some (.ref f), some (.int (r : Nat)), some (.str t.1), some (.str sg0), some (.ref u), v7, v8, v9]) ∧ Stm S S0 (c + 1 + 30 * i + 1 + 2 * j) Y ∧ Same (hid (u :: Z) H6) (hid (u :: Z) Y) ∧ Y f = some (.dK fk) ∧ ∃ ys rs', Y u = some (.lst ys) ∧ DpAll K (hid (u :: Z) Y) ys (rs'.map encL) ∧ Marked (t.2.take j) rs')
      ⟨⟨_, _, _, rfl⟩, st6, Same.refl _, hf6, [], [], hu6, .nil, .nil⟩ (fun j σ Y _ ⟨_, _, s, _⟩ => hid_same.seq (s.seq hb6)) ?_ ?_
    · rintro j x σ H7 H7' hj ⟨⟨v7, v8, v9, rfl⟩, st7, s7, hf7, ys, rs', hu7, dr7, mk7⟩ ⟨rfl, hx⟩
      rw [hxl] at hj
      obtain ⟨q0, hq0, dq0⟩ := dpAll_at hb62 hx
      have hq0m := List.mem_of_getElem? hq0
      obtain ⟨qo1, qo2, qo3⟩ := rp.ok q0 hq0m
      obtain ⟨c1, c2, rfl, hc1, hc2⟩ := dp_L (sDp s7 _ _ dq0)
      have rsl : rs'.length = j := by have := paired_len mk7; rw [List.length_take] at this; omega
      have ysl : ys.length = rs'.length := dpAll_len dr7
      refine ⟨c1, _, rfl, sSeqT hid_same hc1, rfl, _, _, rfl, _, _, rfl, rfl, ?_⟩
      refine seq_tif (tif_x (fun v Y => ∃ mk, v = V.str mk ∧ mk ∈ marks3 ∧ Stm S S0 (c + 1 + 30 * i + 1 + 2 * j + 1) Y ∧ Same (hid (u :: Z) H7') (hid (u :: Z) Y) ∧ Y f = some (.dK fk) ∧ Y u = some (.lst ys)) ?_ ?_)
      · rintro v H8 ⟨mk, rfl, hmk, st8, s8, hf8, hu8⟩
        have hso := signed_ok mk hmk _ qo1
        have hle := plain_len mk hmk _ qo1
        refine ⟨_, rfl, .inl ⟨rfl, _, SqL.of hu8⟩, _, rfl, _, rfl, ⟨_, rfl⟩, _, _, rfl, rfl, Nat.le_trans hle.1 (by decide), _, _, rfl, rfl, Nat.le_trans hle.2 (by decide), _, rfl, (by show 2 ≤ sizeLine; decide), fun t1 nt1 => ?_⟩
        have not5 : t1 ∉ u :: Z := fun zz => (List.mem_cons.mp zz).elim (ne_of_none hu8 nt1).symm (notZ nt1 st8 hf8)
        have sn := same_new (o := .tup [.str (mk ++ Txt.stripChars q0.1 "!?"), .ref c2]) nt1
        have frn := hid_new (M := u :: Z) (o := .tup [.str (mk ++ Txt.stripChars q0.1 "!?"), .ref c2]) nt1
        refine ⟨u, ys, _, rfl, rfl, sn _ _ hu8, Nat.lt_of_le_of_lt (show ys.length ≤ 8 by omega) (by decide), ?_⟩
        have g0 : ∀ o, hid (u :: Z) (upd (upd H8 t1 (.tup [.str (mk ++ Txt.stripChars q0.1 "!?"), .ref c2])) u o) = hid (u :: Z) (upd H8 t1 (.tup [.str (mk ++ Txt.stripChars q0.1 "!?"), .ref c2])) := fun o => hid_in List.mem_cons_self
        have frT := s8.trans frn
        have uSm := uS
        simp at uSm
        refine ⟨⟨_, _, _, rfl⟩, ((st8.new nt1).put uSm.1 uSm.2).mono (by omega), by rw [g0]; exact s7.trans frT, by rw [upd_ne uf.symm]; exact sn _ _ hf8, ys ++ [.ref t1], rs' ++ [(mk ++ bare q0.1, q0.2)], upd_same, ?_, ?_⟩
        · rw [g0, List.map_append]
          exact dpAll_snoc (sDpAll frT _ _ dr7) (dpL_of (b := c2) (SqT.of (hid_get not5 upd_same)) (frT.seq hc2))
        · rw [List.take_succ, hq0]
          exact paired_snoc mk7 ⟨rfl, mk, hmk, rfl⟩
      · intro fin
        refine ⟨_, rfl, rfl, _, rfl, ?_⟩
        by_cases r00 : r = 0
        · subst r00
          exact iteT ⟨_, rfl, fin _ _ ⟨sg0, rfl, hsg, st7.mono (by omega), Same.refl _, hf7, hu7⟩⟩
        · have hd0 : decide (V.int ((r : Nat) : Int) = V.int 0) = false := decide_eq_false (by intro e; injection e with e; omega)
          rw [hd0]
          refine iteF ⟨_, rfl, (by show 3 ≤ sizeLine; decide), fun l3 nl3 => ?_⟩
          have f3 := same_new (o := .lst [.str "!", .str "?", .str ""]) nl3
          have e4 : (4 : Int) - ((r : Nat) : Int) = ((4 - r : Nat) : Int) := by omega
          refine ⟨_, rfl, _, _, rfl, rfl, _, rfl, l3, [.str "!", .str "?", .str ""], rfl, SqL.of upd_same, fun W nW => ?_⟩
          rw [e4, cut_take]
          have fW := same_new (o := .lst (([.str "!", .str "?", .str ""] : List V).take (4 - r))) nW
          have stW := (st7.same f3).same fW
          have WS : W ∉ [S, S0] := by have := (st7.same f3).S_ne nW; simp; exact this
          have lenW : 0 < (([.str "!", .str "?", .str ""] : List V).take (4 - r)).length ∧ (([.str "!", .str "?", .str ""] : List V).take (4 - r)).length < 1073741824 := by
            rw [List.length_take]
            show 0 < min (4 - r) 3 ∧ min (4 - r) 3 < 1073741824
            omega
          refine ⟨S, S0, _, W, _, rfl, stW, by omega, SqL.of (hid_get WS upd_same), lenW.1, lenW.2, fun v H9 hv st9 sm9 => ?_⟩
          have hv := List.mem_of_mem_take hv
          have f9 : Same (hid (u :: Z) H7') (hid (u :: Z) H9) := (sHid (f3.trans fW)).trans (drawY sm9)
          obtain ⟨mk, rfl, hmk⟩ : ∃ mk, v = V.str mk ∧ mk ∈ marks3 := by
            rcases List.mem_cons.mp hv with e | hv
            · exact ⟨_, e, by decide⟩
            · rcases List.mem_cons.mp hv with e | hv
              · exact ⟨_, e, by decide⟩
              · exact ⟨_, List.mem_singleton.mp hv, by decide⟩
          exact fin _ _ ⟨mk, rfl, hmk, st9, f9, keep_at sm9 (fW _ _ (f3 _ _ hf7)) fS, keep_at sm9 (fW _ _ (f3 _ _ hu7)) uS⟩
    · rintro σ H7 ⟨⟨v7, v8, v9, rfl⟩, st7, s7, hf7, ys, rs', hu7, dr7, mk7⟩
      rw [hxl] at st7 mk7
      rw [List.take_length] at mk7
      have rsl : rs'.length = t.2.length := paired_len mk7
      have dZ7 : DpAll K (hid Z H7) ys (rs'.map encL) := sDpAll hid_tail _ _ dr7
      have okr : ∀ q ∈ rs', rOk q := fun q' hq' => by
        obtain ⟨q, hq, e, mk, hm, e2⟩ := marked_back mk7 q' hq'
        obtain ⟨o1, o2, o3⟩ := rp.ok q hq
        refine ⟨by rw [e2]; exact (signed_ok mk hm _ o1).2.2, fun n hn => ?_⟩
        rw [e] at hn
        have := o3 n hn
        obtain ⟨t0, ht0, rfl⟩ := List.mem_map.mp this
        exact (name_ok (names12_ok _ (pl.n12 t0 ht0)).1).1
      refine ⟨_, rfl, Z, u, ys, rs', rfl, SqL.of hu7, dZ7, by omega, okr, fun p2 ws H8 s8 np2 hp2 dw => ?_⟩
      have dw' : DpAll K (hid Z H8) ws ((once rs').map encL) := sDpAll hid_tail _ _ dw
      have ol := once_len rs'
      refine sorted_rsM Z (.inr rfl) (SqL.of hp2) dw' (by omega) fun p3 us np3 du => ?_
      have s9 := same_new (o := .lst us) np3
      have hf9 := s9 _ _ (s8 _ _ hf7)
      have st9 := (st7.same s8).same s9
      have p3Z := notZ np3 (st7.same s8) (s8 _ _ hf7)
      have fr9 : Same (hid Z H3') (hid Z (upd H8 p3 (.lst us))) := fun b o w => sHid (s8.trans s9) _ _ (hid_tail _ _ (s7 _ _ (fr6 _ _ w)))
      have dp9 : Dp K (hid Z (upd H8 p3 (.lst us))) (.ref p3) (encRs (sortR (once rs'))) := .lst (SqL.of (hid_get p3Z upd_same)) (sDpAll (sHid s9) _ _ du)
      have kf9 := kf3.same fr9
      generalize upd H8 p3 (.lst us) = H9 at st9 hf9 fr9 dp9 kf9 ⊢
      have R'nm : R'.map (·.1) = (R.take i).map (·.1) := signed_names sg
      have tnew : t.1 ∉ R'.map (·.1) := by
        rw [R'nm, List.map_take]
        exact nd_take pl.nd (by rw [List.getElem?_map, ht]; rfl)
      have fkl : fk.length < sizeLine := by
        rw [kf9.len]
        have : R'.length = (R.take i).length := paired_len sg
        rw [this, List.length_take]
        exact Nat.lt_of_le_of_lt (show min i R.length ≤ 12 by omega) (by decide)
      refine ⟨_, rfl, _, rfl, f, _, rfl, .inl ⟨fk, Sum.inr t.1, hf9, rfl, fkl, rfl⟩, ?_⟩
      have g0 : ∀ o, hid Z (upd H9 f o) = hid Z H9 := fun o => hid_in fZ
      have fSm := fS
      simp at fSm
      refine ⟨⟨_, _, _, _, _, _, rfl⟩, (st9.put fSm.1 fSm.2).mono (by omega), by rw [g0]; exact s3.trans fr9, _, putA R' t.1 (sortR (once rs')), upd_same, by rw [g0]; exact KvD.put kf9 dp9, ?_⟩
      rw [putA_new tnew, List.take_succ, ht]
      exact paired_snoc sg (marked_signed rp mk7)
  · rintro σ Y ⟨⟨v4, v5, v6, v7, v8, v9, rfl⟩, st3, s3, fk, R', hf3, kf3, sg⟩
    rw [klen, List.take_length] at sg
    have hd3 := (hid_of (s3 _ _ (hid_get dZ hdL))).2
    refine ⟨hd3, _, rfl, ?_⟩
    refine q f fk R' _ (by rw [upd_ne df.symm]; exact hf3) ?_ (signed_gx pl sg) ((st3.put dSm.1 dSm.2).mono (by omega)) ?_
    · rw [hid_upd_out dS]
      exact kv_upd (noS_frz (hid_get dS hd3)) (kf3.same (ZS _))
    · exact fun b o w => ZS _ _ _ (unl s3 _ _ (fr2 _ _ w))
end
end K8
set_option maxRecDepth 100000
set_option maxHeartbeats 4000000
namespace K8
open PySem PySem.Spec PyProof.Rows L2
/-! ### words over base names -/
abbrev encW (w : List Str) : PyData := .list (w.map .str)
structure WdOk (Wd : List (Str × List Str)) (base : List Str) : Prop where
  nd : (Wd.map (·.1)).Nodup
  few : Wd.length ≤ 12
  n12 : ∀ t ∈ Wd, t.1 ∈ names12
  self : ∀ b ∈ base, (b, [b]) ∈ Wd
  ok : ∀ t ∈ Wd, t.2 ≠ [] ∧ t.2.length ≤ 3 ∧ ∀ x ∈ t.2, x ∈ base
  b12 : ∀ b ∈ base, b ∈ names12
def wordOf (Wd : List (Str × List Str)) (n : Str) : List Str := (getA Wd n).getD []
def flatW (Wd : List (Str × List Str)) (ns : List Str) : List Str := ns.flatMap (wordOf Wd)
theorem wordOf_mem {Wd : List (Str × List Str)} {base : List Str} (h : WdOk Wd base) {t : Str × List Str} (ht : t ∈ Wd) : wordOf Wd t.1 = t.2 := by
  unfold wordOf
  rw [getA_of h.nd ht]
  rfl
theorem flatW_snoc {Wd : List (Str × List Str)} {ns : List Str} {n : Str} : flatW Wd (ns ++ [n]) = flatW Wd ns ++ wordOf Wd n := by
  unfold flatW
  rw [List.flatMap_append]
  simp
/-- the names whose word begins what is left -/
def begins (Wd : List (Str × List Str)) (left : List Str) : List (Str × List Str) := Wd.filter fun t => decide (t.2 = left.take t.2.length)
theorem begins_ne {Wd : List (Str × List Str)} {base : List Str} (h : WdOk Wd base) {x : Str} {left : List Str} (hx : x ∈ base) : begins Wd (x :: left) ≠ [] := by
  intro e
  have : (x, [x]) ∈ begins Wd (x :: left) := List.mem_filter.mpr ⟨h.self x hx, decide_eq_true (by simp)⟩
  rw [e] at this
  cases this
theorem begins_mem {Wd : List (Str × List Str)} {left : List Str} {t : Str × List Str} (h : t ∈ begins Wd left) : t ∈ Wd ∧ left = t.2 ++ left.drop t.2.length := by
  obtain ⟨h1, h2⟩ := List.mem_filter.mp h
  refine ⟨h1, ?_⟩
  have h2 := of_decide_eq_true h2
  conv => lhs; rw [← List.take_append_drop t.2.length left]
  rw [← h2]
theorem flatW_len {Wd : List (Str × List Str)} {base : List Str} (h : WdOk Wd base) : ∀ {ns : List Str}, (∀ n ∈ ns, n ∈ Wd.map (·.1)) → ns.length ≤ (flatW Wd ns).length
  | [], _ => Nat.zero_le _
  | n :: ns, hn => by
    have ih := flatW_len h fun m hm => hn m (List.mem_cons_of_mem _ hm)
    obtain ⟨t, ht, e⟩ := List.mem_map.mp (hn n List.mem_cons_self)
    have e2 : flatW Wd (n :: ns) = wordOf Wd n ++ flatW Wd ns := rfl
    have : 0 < (wordOf Wd n).length := by
      rw [← e, wordOf_mem h ht]
      exact List.length_pos_iff.mpr (h.ok t ht).1
    rw [e2, List.length_append, List.length_cons]
    omega
theorem dp_W {K : PySem.W.Frag} {H : Hp} {v : V} {w : List Str} (h : Dp K H v (encW w)) : ∃ a, v = .ref a ∧ SqL K H a (w.map V.str) := by
  obtain ⟨a, xs, rfl, h1, h2⟩ := dp_list h
  have := dp_strs_inv h2
  subst this
  exact ⟨a, rfl, h1⟩
end K8
set_option maxRecDepth 100000
set_option maxHeartbeats 8000000
namespace K8
open PySem PySem.Spec PyProof.Rows L2
theorem cut_drop (xs : List V) (m : Nat) : cutV xs (some (m : Int)) none = xs.drop m := by
  unfold cutV
  rw [HT.sIx_none, HT.sIx_nat]
  by_cases h : m ≤ xs.length
  · rw [Nat.min_eq_left h]
    exact List.take_of_length_le (by rw [List.length_drop]; exact Nat.le_refl _)
  · rw [Nat.min_eq_right (by omega), List.drop_of_length_le (Nat.le_refl _), List.drop_of_length_le (by omega), List.take_nil]
theorem atI_last {α : Type} (xs : List α) (v : α) : atI (xs ++ [v]) (-1) = some v := by
  have e : ixN (xs ++ [v]).length (-1) = some xs.length := by
    unfold ixN
    rw [List.length_append]
    show (if (0 : Int) ≤ -1 then _ else _) = _
    rw [if_neg (by omega)]
    rw [show xs.length + [v].length = xs.length + 1 from rfl]
    rw [if_pos (by omega)]
    congr 1
    omega
  unfold atI
  rw [e]
  show (xs ++ [v])[xs.length]? = some v
  rw [List.getElem?_append_right (Nat.le_refl _), Nat.sub_self]
  rfl
def spParted (K : PySem.W.Frag) : Sp := fun vs H Q _ => ∃ (S S0 d a : Addr) (c : Nat) (kvs : List (Key × V)) (Wd : List (Str × List Str)) (base word : List Str), vs = [.ref S, .ref d, .ref a] ∧ Stm S S0 c H ∧ c + word.length ≤ LIM ∧ word.length ≤ 100 ∧ H d = some (.dK kvs) ∧ KvD K (hid [S, S0] H) encW Wd kvs ∧ WdOk Wd base ∧
  SqL K (hid [S, S0] H) a (word.map V.str) ∧ (∀ x ∈ word, x ∈ base) ∧
  ∀ (p : Addr) (ns : List Str) (H' : Hp), H p = none → H' p = some (.lst (ns.map V.str)) → flatW Wd ns = word → (∀ n ∈ ns, n ∈ Wd.map (·.1)) → Stm S S0 (c + word.length) H' → Same (hid [S, S0] H) (hid [S, S0] H') → Q (.ref p) H'
section
variable {P : Program} {w : World} {K : PySem.W.Frag} {mg : Str → Option Value} {base : Heap}
theorem sc_d_parted : FnScope ["_law_stream", "_law_words", "_law_word", "_law_found", "_law_left", "_law_some", "_law_name"] ["_law_stream", "_law_words", "_law_word"] (defScope s_d_parted) := ⟨rfl, rfl, rfl, by decide +kernel, rfl, by decide +kernel, by decide +kernel⟩
theorem ok_d_parted (T : Txt K mg) : FnOk P w K mg base CX0 3 T.d_parted.f T.d_parted.fd ["_law_stream", "_law_words", "_law_word"] (spParted K) := by
  have G_pick : FnOk P w K mg base CX0 2 T.pick.f T.pick.fd _ (spPick K) := ok_pick T
  refine T.d_parted.F.ok sc_d_parted (fun vs H Q E h => ?_) (fun cdv A outer s H vs Q E hr h => ?_)
  · obtain ⟨S, S0, d, a, c, kvs, Wd, bs, word, rfl, _⟩ := h
    rfl
  obtain ⟨S, S0, d, a, c, kvs, Wd, bs, word, rfl, st, hc, hw, hd, kd, wd, ha, hb, q⟩ := h
  have hc : c + word.length ≤ 1099511627776 := hc
  have nd := sc_d_parted.nd
  have hu := hu_of hr
  have hu64 := hr.units
  refine ⟨_, (pss_cons (ps_asg (pe_tup (pa_cons (pe_lst pa_nil) (pa_cons (eListS K T.z_list (pv 2)) pa_nil))) (gTu (K := K) rfl (pgs_cons (pg_name (i := 3) nd rfl (Or.inl rfl)) (pgs_cons (pg_name (i := 4) nd rfl (Or.inr rfl)) pgs_nil))))
    (pss_cons (ps_while PassesOwn.never (pt_cmpR (oNeD K hu64) (pv 4) (pe_lst pa_nil) (nomark _))
      (pss_cons (ps_lock (ps_setLc (i := 5) (own := [("_law_name", 6)]) (g := gName 6) rfl nd rfl rfl (sw_true rfl rfl rfl (by decide +kernel)) (pi_keys (pv 1)) (blkOk_by (N := ["_law_stream", "_law_words", "_law_word", "_law_found", "_law_left", "_law_some", "_law_name"]) (sc := defScope s_d_parted) (by decide +kernel)) (fun _ _ _ _ _ => (pg_name (i := 6) nd rfl (Or.inl rfl))) (fun _ _ _ _ _ => pts_one (pt_cmpR (oEqD K hu64) (pe_dget hu (pv 1) (pv 6) (fun _ _ => rfl)) (pe_slice (slL K) (pv 4) po_none (po_some (eLen K T.z_len (pe_dget hu (pv 1) (pv 6) (fun _ _ => rfl))))) (nomark _))) (fun _ _ _ _ _ => (pv 6))))
      (pss_cons (ps_expr (eAppend K (pv 3) (eC T.pick G_pick hr (pa_cons (pv 0) (pa_cons (pv 5) pa_nil)))))
      (pss_one (ps_set (i := 4) nd rfl (Or.inr rfl) (pe_slice (slL K) (pv 4) (po_some (eLen K T.z_len (pe_dget hu (pv 1) (pe_ix (ixL K) (pv 3) (pe_un un_neg pe_int) (fun _ _ => rfl)) (fun _ _ => rfl)))) po_none))))))
    (pss_one (ps_ret (pv 3))))), ?_⟩
  have dS : d ∉ [S, S0] := stm_lst st hd fun _ z => by cases z
  have dSm := dS
  simp at dSm
  have bok : ∀ {x : Str}, x ∈ bs → sOk x := fun hx => (name_ok (names12_ok _ (wd.b12 _ hx)).1).1
  have klen : kvs.length = Wd.length := kd.len
  have few := wd.few
  refine ⟨(by show 0 ≤ sizeLine; decide), fun f nf => ?_⟩
  have df : d ≠ f := ne_of_none hd nf
  have X1 : St S S0 [f] c H (upd H f (.lst [])) := (St.start st).push nf (by simp)
  have hd1 := same_new (o := .lst []) nf _ _ hd
  have hf1 : upd H f (.lst []) f = some (.lst []) := upd_same
  have ha1 := X1.fr.seq ha
  obtain ⟨Z, eZ⟩ : ∃ Z, Z = [f] ++ [S, S0] := ⟨_, rfl⟩
  rw [← eZ] at ha1
  generalize upd H f (.lst []) = H1 at X1 hd1 hf1 ha1 ⊢
  have fS : f ∉ [S, S0] := (X1.ap f (by simp)).1
  have fSm := fS
  simp at fSm
  refine ⟨_, rfl, a, _, rfl, .inl (hid_same.seq ha1), fun l nl => ⟨(by show 2 ≤ sizeLine; decide), fun z nz => ⟨z, _, rfl, SqT.of upd_same, rfl, _, _, rfl, _, _, rfl, rfl, ?_⟩⟩⟩
  have notZ : ∀ {x : Addr} {Y : Hp} {c' : Nat} {o : HO}, Y x = none → Stm S S0 c' Y → Y f = some o → x ∉ Z := fun n1 n2 n3 zz => by
    rw [eZ] at zz
    rcases List.mem_cons.mp zz with e | zz
    · rw [e, n3] at n1; cases n1
    · have := n2.S_ne n1
      simp at zz
      exact zz.elim this.1 this.2
  have lZ := notZ nl X1.st hf1
  have sl := same_new (o := .lst (word.map V.str)) nl
  have sz := same_new (o := .tup [.ref f, .ref l]) nz
  have X2 : St S S0 [f] c H (upd (upd H1 l (.lst (word.map V.str))) z (.tup [.ref f, .ref l])) := (X1.new nl).new nz
  have hd2 := sz _ _ (sl _ _ hd1)
  have hf2 := sz _ _ (sl _ _ hf1)
  have hl2 : hid Z (upd (upd H1 l (.lst (word.map V.str))) z (.tup [.ref f, .ref l])) l = some (.lst (word.map V.str)) := hid_get lZ (sz _ _ upd_same)
  generalize upd (upd H1 l (.lst (word.map V.str))) z (.tup [.ref f, .ref l]) = H2 at X2 hd2 hf2 hl2 ⊢
  have fr2 : Same (hid [S, S0] H) (hid Z H2) := by rw [eZ]; exact X2.fr
  have dZ : d ∉ Z := by rw [eZ]; simp; exact ⟨df, dSm⟩
  have fZ : f ∈ Z := by rw [eZ]; simp
  have ZS : ∀ Y : Hp, Same (hid Z Y) (hid [S, S0] Y) := fun Y => hid_sub fun a ha => by rw [eZ]; exact List.mem_append_right _ ha
  have drawZ : ∀ {A B : Hp}, Same (hid [S, S0] A) (hid [S, S0] B) → Same (hid Z A) (hid Z B) := fun g => hid_more g fun a ha => by rw [eZ]; exact List.mem_append_right _ ha
  have kd2 := kd.same fr2
  refine while_x (fun m σ Y => ∃ (l : Addr) (left ns : List Str) (v5 v6 : Option V), σ = [some (.ref S), some (.ref d), some (.ref a), some (.ref f), some (.ref l), v5, v6] ∧ m = left.length ∧ flatW Wd ns ++ left = word ∧ (∀ n ∈ ns, n ∈ Wd.map (·.1)) ∧ Stm S S0 (c + ns.length) Y ∧ Same (hid Z H2) (hid Z Y) ∧ Y f = some (.lst (ns.map V.str)) ∧ hid Z Y l = some (.lst (left.map V.str)))
    (fun σ Y => ∃ (l : Addr) (ns : List Str) (v5 v6 : Option V), σ = [some (.ref S), some (.ref d), some (.ref a), some (.ref f), some (.ref l), v5, v6] ∧ flatW Wd ns = word ∧ (∀ n ∈ ns, n ∈ Wd.map (·.1)) ∧ Stm S S0 (c + ns.length) Y ∧ Same (hid Z H2) (hid Z Y) ∧ Y f = some (.lst (ns.map V.str)))
    word.length ⟨l, word, [], _, _, rfl, rfl, rfl, (fun _ z => by cases z), X2.st, Same.refl _, hf2, hl2⟩ ?_ ?_
  · rintro σ Y ⟨l, ns, v5, v6, rfl, hfl, hin, stY, sY, hfY⟩
    have := flatW_len wd hin
    rw [hfl] at this
    exact ⟨_, rfl, q f ns Y nf hfY hfl hin (stY.mono (by omega)) fun b o w => ZS _ _ _ (sY _ _ (fr2 _ _ w))⟩
  · rintro hx m σ Y ⟨l, left, ns, v5, v6, rfl, rfl, hfl, hin, stY, sY, hfY, hlY⟩
    have lfb : ∀ x ∈ left, x ∈ bs := fun x hx => hb x (by rw [← hfl]; exact List.mem_append_right _ hx)
    refine ⟨_, rfl, (by show 0 ≤ sizeLine; decide), fun z nz => ?_⟩
    have s3 := same_new (o := .lst []) nz
    have hz3 : upd Y z (.lst []) z = some (.lst []) := upd_same
    have st3 := stY.same s3
    have sY3 := sY.trans (sHid s3)
    have hf3 := s3 _ _ hfY
    have hl3 := sHid s3 _ _ hlY
    generalize upd Y z (.lst []) = Y3 at s3 hz3 st3 sY3 hf3 hl3 ⊢
    refine ⟨.list (left.map .str), .list [], .lst (SqL.of (hid_of hl3).2) (dp_strs _), .lst (SqL.of hz3) .nil, shaped_strs fun x hx => bok (lfb x hx), shaped_list (by intro d h; cases h), _, rfl, ?_⟩
    rw [eqv_nil]
    cases left with
    | nil =>
      exact iteF (hx _ _ ⟨l, ns, _, _, rfl, by simpa using hfl, hin, st3, sY3, hf3⟩)
    | cons x0 left =>
      have hd3 := (hid_of (sY3 _ _ (hid_get dZ hd2))).2
      refine iteT ⟨fun σ' H' => ∃ m', m' < (x0 :: left).length ∧ ∃ (l : Addr) (left ns : List Str) (v5 v6 : Option V), σ' = [some (.ref S), some (.ref d), some (.ref a), some (.ref f), some (.ref l), v5, v6] ∧ m' = left.length ∧ flatW Wd ns ++ left = word ∧ (∀ n ∈ ns, n ∈ Wd.map (·.1)) ∧ Stm S S0 (c + ns.length) H' ∧ Same (hid Z H2) (hid Z H') ∧ H' f = some (.lst (ns.map V.str)) ∧ hid Z H' l = some (.lst (left.map V.str)), fun _ _ z => z, ?_⟩
      refine ⟨d, _, hd3, trivial, fun od => ?_⟩
      have hdL : upd Y3 d (.frz od (.dK kvs)) d = some (.frz od (.dK kvs)) := upd_same
      have kdL : KvD K (hid Z (upd Y3 d (.frz od (.dK kvs)))) encW Wd kvs := by
        rw [hid_upd_out dZ]
        exact kv_upd (noS_dK (hid_get dZ hd3)) (kd2.same sY3)
      refine ⟨_, rfl, d, od, rfl, .inl ⟨kvs, hdL, fun D nD => ?_⟩⟩
      obtain ⟨YL, eL⟩ : ∃ YL, YL = upd Y3 d (.frz od (.dK kvs)) := ⟨_, rfl⟩
      rw [← eL] at hdL kdL nD ⊢
      have d0 : Str × List Str := (Str.empty, [])
      have hlL : hid Z YL l = some (.lst ((x0 :: left).map V.str)) := by
        have ld : l ≠ d := fun e => by rw [e, hid_get dZ hd3] at hl3; cases hl3
        rw [eL, hid_upd_out dZ, upd_ne ld]
        exact hl3
      have hl9 := (hid_of hlL).2
      have lenw : (x0 :: left).length ≤ word.length := by rw [← hfl, List.length_append]; omega
      refine lc_p walk_keys nD (by omega) (fun j _ y => y = .str (Wd.getD j d0).1) (fun _ _ _ _ _ _ b => b) (fun j => decide ((Wd.getD j d0).2 = (x0 :: left).take (Wd.getD j d0).2.length)) (fun Y sY => sY _ _ hdL) ?_ ?_
      · rintro j x Y Y' k1 k2 hj sY ⟨rfl, ky, vv, hkv, rfl⟩ k1' k2'
        obtain ⟨t, ht, ek, dt⟩ := kdL.get hkv
        subst ek
        have tm := List.mem_of_getElem? ht
        have eg : Wd.getD j d0 = t := getD_of ht
        rw [eg] at k1' k2'
        obtain ⟨v, e1, e3⟩ := kdL.val (getA_of wd.nd tm)
        obtain ⟨b, rfl, hb1⟩ := dp_W e3
        have hb9 : SqL K YL b (t.2.map V.str) := hid_same.seq hb1
        have hdY := sY _ _ hdL
        obtain ⟨t1, t2, t3⟩ := wd.ok t tm
        refine ⟨rfl, _, rfl, _, rfl, d, _, rfl, .inl ⟨kvs, Sum.inr t.1, .inr ⟨od, hdY⟩, rfl, e1.symm⟩, _, rfl, _, rfl, _, rfl, d, _, rfl, .inl ⟨kvs, Sum.inr t.1, .inr ⟨od, hdY⟩, rfl, e1.symm⟩, b, _, rfl, .inl (sY.seq hb9), _, rfl, l, _, rfl, SqL.of (sY _ _ hl9), fun u nu => ?_⟩
        rw [cut_take, ← List.map_take, List.length_map]
        have su := same_new (o := .lst (((x0 :: left).take t.2.length).map V.str)) nu
        have okt : ∀ {w : List Str}, (∀ x ∈ w, x ∈ bs) → SeqAt.shaped (encW w) = true := fun h => shaped_strs fun x hx => bok (h x hx)
        refine ⟨encW t.2, encW ((x0 :: left).take t.2.length), .lst (su.seq (sY.seq hb9)) (dp_strs _), .lst (SqL.of upd_same) (dp_strs _), okt t3, okt (fun x hx => lfb x (List.mem_of_mem_take hx)), _, rfl, ?_⟩
        rw [enc_strs.eqv]
        cases hk : decide (t.2 = (x0 :: left).take t.2.length) with
        | true => exact iteT ⟨_, rfl, k1' hk _ _ su rfl⟩
        | false => exact iteF (k2' hk _ su)
      · intro Y6 ys s6 hD6 pr
        have e6 := Paired_map (f := fun j => V.str (Wd.getD j d0).1) pr
        rw [klen, range_filter Wd d0 (fun t => decide (t.2 = (x0 :: left).take t.2.length)) (fun t => V.str t.1)] at e6
        have e6 : ys = ((begins Wd (x0 :: left)).map (·.1)).map V.str := by rw [e6, List.map_map]; rfl
        rw [e6] at hD6
        have st6 : Stm S S0 (c + ns.length) Y6 := (by rw [eL]; exact st3.put dSm.1 dSm.2 : Stm S S0 (c + ns.length) YL).same s6
        have hd6 := s6 _ _ hdL
        have hfL : YL f = some (.lst (ns.map V.str)) := by rw [eL, upd_ne df.symm]; exact hf3
        have hf6 := s6 _ _ hfL
        have Dd : D ≠ d := (ne_of_none hdL nD).symm
        have unl : Same (hid Z Y3) (hid Z (upd Y6 d (.dK kvs))) := hid_unlock hd3 (by rw [← eL]; exact sHid s6)
        have kd7 : KvD K (hid Z (upd Y6 d (.dK kvs))) encW Wd kvs := (kd2.same sY3).same unl
        have st7 : Stm S S0 (c + ns.length) (upd Y6 d (.dK kvs)) := st6.put dSm.1 dSm.2
        have hD7 : upd Y6 d (.dK kvs) D = some (.lst (((begins Wd (x0 :: left)).map (·.1)).map V.str)) := by rw [upd_ne Dd]; exact hD6
        have hf7 : upd Y6 d (.dK kvs) f = some (.lst (ns.map V.str)) := by rw [upd_ne df.symm]; exact hf6
        have hl7 : hid Z (upd Y6 d (.dK kvs)) l = some (.lst ((x0 :: left).map V.str)) := unl _ _ hl3
        have DS : D ∉ [S, S0] := by have := (show Stm S S0 (c + ns.length) YL by rw [eL]; exact st3.put dSm.1 dSm.2).S_ne nD; simp; exact this
        have hd7 : upd Y6 d (.dK kvs) d = some (.dK kvs) := upd_same
        have sY7 := sY3.trans unl
        refine ⟨hd6, ?_⟩
        generalize upd Y6 d (.dK kvs) = Y7 at kd7 st7 hD7 hf7 hl7 hd7 sY7 ⊢
        have bne := begins_ne wd (left := left) (lfb x0 List.mem_cons_self)
        have bl : (begins Wd (x0 :: left)).length ≤ 12 := Nat.le_trans (List.length_filter_le _ _) few
        have nsl := flatW_len wd hin
        have nsl2 : ns.length + 1 ≤ word.length := by rw [← hfl, List.length_append, List.length_cons]; omega
        refine ⟨_, rfl, .inl ⟨rfl, _, SqL.of hf7⟩, _, rfl, _, rfl, S, S0, _, D, _, rfl, st7, by omega, SqL.of (hid_get DS hD7), by rw [List.length_map, List.length_map]; exact List.length_pos_iff.mpr bne, by rw [List.length_map, List.length_map]; omega, fun v H8 hv st8 sm8 => ?_⟩
        obtain ⟨n, hn, rfl⟩ := strs_of hv
        obtain ⟨t, htb, rfl⟩ := List.mem_map.mp hn
        obtain ⟨tm, et⟩ := begins_mem htb
        obtain ⟨t1, t2, t3⟩ := wd.ok t tm
        have f78 := drawZ sm8
        have hf8 := keep_at sm8 hf7 fS
        have hd8 := keep_at sm8 hd7 dS
        refine ⟨f, _, _, rfl, rfl, hf8, by rw [List.length_map]; exact Nat.lt_of_le_of_lt (show ns.length ≤ 100 by omega) (by decide), ?_⟩
        have eap : ns.map V.str ++ [V.str t.1] = (ns ++ [t.1]).map V.str := by rw [List.map_append]; rfl
        rw [eap]
        have g0 : ∀ o, hid Z (upd H8 f o) = hid Z H8 := fun o => hid_in fZ
        have st9 : Stm S S0 (c + ns.length + 1) (upd H8 f (.lst ((ns ++ [t.1]).map V.str))) := st8.put fSm.1 fSm.2
        have hf9 : upd H8 f (.lst ((ns ++ [t.1]).map V.str)) f = some (.lst ((ns ++ [t.1]).map V.str)) := upd_same
        have hd9 : upd H8 f (.lst ((ns ++ [t.1]).map V.str)) d = some (.dK kvs) := by rw [upd_ne df]; exact hd8
        have f79 : Same (hid Z Y7) (hid Z (upd H8 f (.lst ((ns ++ [t.1]).map V.str)))) := by rw [g0]; exact f78
        generalize upd H8 f (.lst ((ns ++ [t.1]).map V.str)) = H9 at st9 hf9 hd9 f79 ⊢
        have kd9 := kd7.same f79
        have hl9' := f79 _ _ hl7
        obtain ⟨v, e1, e3⟩ := kd9.val (getA_of wd.nd tm)
        obtain ⟨b, rfl, hb1⟩ := dp_W e3
        have eat : atI ((ns ++ [t.1]).map V.str) (-1) = some (V.str t.1) := by rw [List.map_append]; exact atI_last _ _
        refine ⟨_, rfl, _, rfl, _, rfl, _, rfl, f, _, _, _, rfl, rfl, SqL.of hf9, eat, d, _, rfl, .inl ⟨kvs, Sum.inr t.1, .inl hd9, rfl, e1.symm⟩, b, _, rfl, .inl (hid_same.seq hb1), _, rfl, l, _, rfl, SqL.of (hid_of hl9').2, fun u nu => ?_⟩
        rw [cut_drop, ← List.map_drop, List.length_map]
        have su := same_new (o := .lst (((x0 :: left).drop t.2.length).map V.str)) nu
        have uZ := notZ nu st9 hf9
        have t1l : 0 < t.2.length := List.length_pos_iff.mpr t1
        refine ⟨((x0 :: left).drop t.2.length).length, ?_, u, (x0 :: left).drop t.2.length, ns ++ [t.1], _, _, rfl, rfl, ?_, ?_, (st9.same su).mono (by rw [List.length_append]; show _ ≤ c + (ns.length + 1); omega), (sY7.trans f79).trans (sHid su), su _ _ hf9, hid_get uZ upd_same⟩
        · rw [List.length_drop, List.length_cons]
          omega
        · rw [flatW_snoc, wordOf_mem wd tm, List.append_assoc, ← et]
          exact hfl
        · intro m hm
          rcases List.mem_append.mp hm with hm | hm
          · exact hin m hm
          · rw [List.mem_singleton.mp hm]
            exact List.mem_map.mpr ⟨t, tm, rfl⟩
end
end K8
set_option maxRecDepth 100000
set_option maxHeartbeats 4000000
namespace K8
open PySem PySem.Spec PyProof.Rows L2
/-! ### a planted book -/
structure BaseR (base : List Str) (rs : List Rule) : Prop where
  first : ∃ e rest, rs = (e, []) :: rest
  len : rs.length ≤ 4
  ok : ∀ q ∈ rs, q.1 ∈ plain8 ∧ q.2.length ≤ 2 ∧ ∀ x ∈ q.2, x ∈ base
def lenW (Wd : List (Str × List Str)) (n : Str) : Nat := (wordOf Wd n).length
theorem sum_lenW {Wd : List (Str × List Str)} : ∀ ns : List Str, sumN (lenW Wd) ns = (flatW Wd ns).length
  | [] => rfl
  | n :: ns => by
    have e : flatW Wd (n :: ns) = wordOf Wd n ++ flatW Wd ns := rfl
    rw [e, List.length_append, ← sum_lenW ns]
    rfl
/-- the rules of a talk, by the rules of its word's first name -/
def Grown (Wd : List (Str × List Str)) (tail : List Str) : List Rule → List Rule → Prop := Paired (fun q q' => q'.1 = q.1 ∧ flatW Wd q'.2 = q.2 ++ tail ∧ ∀ m ∈ q'.2, m ∈ Wd.map (·.1))
theorem grown_back {Wd : List (Str × List Str)} {tail : List Str} : ∀ {rs rs' : List Rule}, Grown Wd tail rs rs' → ∀ q' ∈ rs', ∃ q ∈ rs, q'.1 = q.1 ∧ flatW Wd q'.2 = q.2 ++ tail ∧ ∀ m ∈ q'.2, m ∈ Wd.map (·.1)
  | _, _, .nil => fun _ z => by cases z
  | a :: _, b :: _, .cons q t => fun x hx => by
    rcases List.mem_cons.mp hx with e | hx
    · exact ⟨a, List.mem_cons_self, e ▸ q⟩
    · obtain ⟨y, hy, r⟩ := grown_back t x hx
      exact ⟨y, List.mem_cons_of_mem _ hy, r⟩
structure FoundOk (Wd : List (Str × List Str)) (n : Str) (rs : List Rule) : Prop where
  rp : RP (Wd.map (·.1)) rs
  en : ∃ q ∈ rs, 1 + sumN (lenW Wd) q.2 ≤ lenW Wd n
theorem found_of {Wd : List (Str × List Str)} {base : List Str} (wd : WdOk Wd base) {n b : Str} {tail : List Str} (hn : (n, b :: tail) ∈ Wd) {src rs rs' : List Rule} (hb : BaseR base rs) {k : Nat} (hk : k ≤ 1) (hs : src = rs ++ rs.take k) (g : Grown Wd tail src rs') : FoundOk Wd n (sortR (once rs')) := by
  have hl : rs'.length = src.length := paired_len g
  have srl : src.length ≤ 5 := by
    rw [hs, List.length_append, List.length_take]
    have := hb.len
    omega
  have srok : ∀ q ∈ src, q ∈ rs := fun q hq => by
    rw [hs] at hq
    rcases List.mem_append.mp hq with hq | hq
    · exact hq
    · exact List.mem_of_mem_take hq
  obtain ⟨w1, w2, w3⟩ := wd.ok _ hn
  have w2 : tail.length ≤ 2 := Nat.le_of_succ_le_succ w2
  obtain ⟨e, rest, er⟩ := hb.first
  obtain ⟨q0, hq0, g0⟩ : ∃ q' ∈ rs', flatW Wd q'.2 = tail := by
    rw [hs, er] at g
    cases g with
    | cons q t => exact ⟨_, List.mem_cons_self, q.2.1⟩
  have inS : ∀ q, q ∈ sortR (once rs') ↔ q ∈ rs' := fun q => by rw [(sortR_perm _).mem_iff, once_mem]
  refine ⟨⟨fun z => ?_, ?_, fun q' hq' => ?_⟩, q0, (inS _).mpr hq0, ?_⟩
  · have := (inS q0).mpr hq0
    rw [z] at this
    cases this
  · have := once_len rs'
    have := (sortR_perm (once rs')).length_eq
    omega
  · obtain ⟨q, hq, e1, e2, e3⟩ := grown_back g q' ((inS _).mp hq')
    obtain ⟨o1, o2, o3⟩ := hb.ok q (srok q hq)
    have := flatW_len wd e3
    rw [e2, List.length_append] at this
    exact ⟨by rw [e1]; exact o1, by omega, e3⟩
  · rw [sum_lenW, g0]
    unfold lenW
    rw [wordOf_mem wd hn]
    show 1 + tail.length ≤ tail.length + 1
    omega
theorem plant_of {Wd : List (Str × List Str)} {base : List Str} (wd : WdOk Wd base) (ne : Wd ≠ []) {R : Bk} (pm : (R.map (·.1)).Perm (Wd.map (·.1))) (h : ∀ t ∈ R, FoundOk Wd t.1 t.2) : Plant R := by
  have hl : R.length = Wd.length := by have := pm.length_eq; rwa [List.length_map, List.length_map] at this
  refine ⟨pm.nodup_iff.mpr wd.nd, fun t ht => ?_, fun e => ?_, by rw [hl]; exact wd.few, fun t ht => ?_, lenW Wd, fun t ht => (h t ht).en⟩
  · obtain ⟨u, hu, e⟩ := List.mem_map.mp (pm.mem_iff.mp (List.mem_map.mpr ⟨t, ht, rfl⟩))
    rw [← e]
    exact wd.n12 u hu
  · rw [e] at hl
    exact ne (List.eq_nil_of_length_eq_zero hl.symm)
  · obtain ⟨a, b, c⟩ := (h t ht).rp
    exact ⟨a, b, fun q hq => ⟨(c q hq).1, (c q hq).2.1, fun n hn => pm.mem_iff.mpr ((c q hq).2.2 n hn)⟩⟩
end K8
set_option maxRecDepth 100000
set_option maxHeartbeats 4000000
namespace K8
open PySem PySem.Spec PyProof.Rows L2
/-! ### min of a list of texts -/
def rMinS (K : PySem.W.Frag) : List V → Hp → VK → Prop := fun vs H Q => ∃ (a : Addr) (xs : List Str), vs = [V.ref a] ∧ SqL K H a (xs.map V.str) ∧ xs ≠ [] ∧ ∀ z ∈ xs, Q (.str z) H
section
variable {X : Cx} {K : PySem.W.Frag} {e : Expr} {te : TE} {p pos : Pos}
theorem cr_minS (hc : X.calm = true) (hu : X.A.units + 65 < cLine) : CallR X (.builtin "min") (rMinS X.K) := by
  intro pins s σ H vs us Q I r h
  obtain ⟨a, xs, rfl, hs, hne, q⟩ := h
  obtain ⟨its, rv, hl, _⟩ := I.list hs
  rw [Vals.ref1 r]
  cases xs with
  | nil => exact absurd rfl hne
  | cons x xs =>
    obtain ⟨as, hr⟩ := Dp.readsAll I ((x :: xs).map PyData.str) _ its (dp_strs _) rv
    have hd : PyData.depthAll ((x :: xs).map PyData.str) ≤ 20 := depthAll_le fun d hd => by
      obtain ⟨z, _, rfl⟩ := List.mem_map.mp hd
      exact Nat.le_trans (dep_str z) (by decide)
    refine PySem.W.min_list_data (x := PyData.str x) (xs := xs.map PyData.str) (as := as) (I.ok.hd hc) hl.isList (by rw [List.toList_toArray]; exact hr) ⟨fun x hx y hy => ?_, fun x hx => ?_⟩ ?_ fun i v h' tk bs hi _ hk => ?_
    · obtain ⟨z, _, rfl⟩ := List.mem_map.mp (show x ∈ (_ :: xs).map PyData.str from hx)
      obtain ⟨z', _, rfl⟩ := List.mem_map.mp (show y ∈ (_ :: xs).map PyData.str from hy)
      rfl
    · obtain ⟨z, _, rfl⟩ := List.mem_map.mp (show x ∈ (_ :: xs).map PyData.str from hx)
      intro e
      cases e
    · have : PyData.depthAll (PyData.str x :: xs.map PyData.str) ≤ 20 := hd
      omega
    · have hi : its[i]? = some v := by rw [← List.getElem?_toArray]; exact hi
      have ln : (x :: xs).length = its.length := by have := Paired.length rv; rwa [List.length_map] at this
      have il : i < its.length := (List.getElem?_eq_some_iff.mp hi).1
      have e1 : ((x :: xs).map V.str)[i]? = some (V.str ((x :: xs)[i]'(by omega))) := by rw [List.getElem?_map, List.getElem?_eq_getElem (by omega)]; rfl
      obtain ⟨y, g1, g2⟩ := LiI.paired_get rv e1
      rw [hi] at g1
      cases g1
      exact ⟨V.str _, H, I.kept hk, g2, q _ (List.getElem_mem _)⟩
theorem eMinS (K : PySem.W.Frag) (hu : X.A.units + 65 < cLine) (hc : X.calm = true) (hm : X.mg "min" = none) (ha : PE X e te) (h : X.K = K := by rfl) (hg : Gl X "min" := by rfl) (he : starEach [e] X.env = (false, eval e X.env) :: starEach [] X.env := by rfl) (hpl : (backTo pos (starEach [] X.env)).any (·.1) = false := by rfl) :
    PE X (.Call (.Name "min" p) [e] [] pos) (t1 (rMinS K) te) := by
  subst h
  exact pe_callB (cr_minS hc hu) hg hm PyProof.Rows.boot_min (pa_cons ha pa_nil he) (by decide) (by decide) he hpl
end
end K8
set_option maxRecDepth 100000
set_option maxHeartbeats 4000000
namespace K8
open PySem PySem.Spec PyProof.Rows L2
/-- pairs of a text and data, as a dict takes them -/
theorem pairs_of_dp {α : Type} {K : PySem.W.Frag} {H : Hp} {f : α → PyData} : ∀ {F : List (Str × α)} {ys : List V}, DpAll K H ys (F.map fun t => PyData.tuple [.str t.1, f t.2]) →
    ∃ (ps : List Addr) (kvs : List (Key × V)), ys = ps.map V.ref ∧ Paired (fun p kv => SqT K H p [kV kv.1, kv.2]) ps kvs ∧ KvD K H f F kvs
  | [], _, h => by
    cases h
    exact ⟨[], [], rfl, .nil, .nil⟩
  | t :: F, _, h => by
    cases h with
    | cons q r =>
      obtain ⟨ps, kvs, rfl, h2, h3⟩ := pairs_of_dp r
      obtain ⟨a, xs, rfl, g1, g2⟩ := dp_tup q
      cases g2 with
      | cons x y =>
        cases y with
        | cons x2 y2 =>
          cases y2
          cases x
          exact ⟨a :: ps, (Sum.inr t.1, _) :: kvs, rfl, .cons g1 h2, .cons ⟨rfl, x2⟩ h3⟩
end K8
set_option maxRecDepth 100000
set_option maxHeartbeats 4000000
namespace K8
open PySem PySem.Spec PyProof.Rows L2
theorem dpW_out {K : PySem.W.Frag} {H : Hp} {S S0 : Addr} {c : Nat} (st : Stm S S0 c H) {v : V} {w : List Str} (ne : w ≠ []) (h : Dp K H v (encW w)) : Dp K (hid [S, S0] H) v (encW w) := by
  obtain ⟨b, rfl, hb⟩ := dp_W h
  obtain ⟨_, ns, l, n, m, g1, g2, _⟩ := st
  cases w with
  | nil => exact absurd rfl ne
  | cons x w =>
    have out : ∀ o, H b = some o → (o = .lst ((x :: w).map V.str) ∨ ∃ u, o = .frz u (.lst ((x :: w).map V.str))) → b ∉ [S, S0] := fun o g e z => by
      rcases List.mem_cons.mp z with z | z
      · rw [z, g1] at g
        rcases e with e | ⟨u, e⟩ <;> (rw [e] at g; simp at g)
      · rw [List.mem_singleton.mp z, g2] at g
        rcases e with e | ⟨u, e⟩
        · rw [e] at g
          injection g with g
          injection g with g
          cases ns with
          | nil => cases g
          | cons z zs => injection g with g; cases g
        · rw [e] at g
          injection g with g
          cases g
    refine .lst ?_ (dp_strs _)
    rcases hb with (hb | ⟨o, hb⟩) | hb
    · exact .inl (.inl (hid_get (out _ hb (.inl rfl)) hb))
    · exact .inl (.inr ⟨o, hid_get (out _ hb (.inr ⟨o, rfl⟩)) hb⟩)
    · exact .inr hb
theorem kvW_out {K : PySem.W.Frag} {H : Hp} {S S0 : Addr} {c : Nat} (st : Stm S S0 c H) : ∀ {Wd : List (Str × List Str)} {kvs : List (Key × V)}, (∀ t ∈ Wd, t.2 ≠ []) → KvD K H encW Wd kvs → KvD K (hid [S, S0] H) encW Wd kvs
  | _, _, _, .nil => .nil
  | _, _, ne, .cons q t => .cons ⟨q.1, dpW_out st (ne _ List.mem_cons_self) q.2⟩ (kvW_out st (fun t ht => ne t (List.mem_cons_of_mem _ ht)) t)
theorem iteT' {c : Bool} {a b : Prop} (e : c = true) (h : a) : if c = true then a else b := by rw [if_pos e]; exact h
theorem iteF' {c : Bool} {a b : Prop} (e : c = false) (h : b) : if c = true then a else b := by rw [if_neg (by rw [e]; decide)]; exact h
theorem seq_op {r : R2} {c : TT} {ta tb te : TE} {g : TG} {rest : TS} {D : Ends} {σ : L2.St} {H : Hp} (h : tIf c ta tb σ H fun x H1 => te σ H1 fun y H2 => r x y H2 fun v H3 => g v σ H3 fun σ' H' => rest D σ' H') : tSeq (tAsg (tOp r (tIf c ta tb) te) g) rest D σ H := h
def ends4 : List Str := ["end", "fin", "off", "out"]
theorem ends4_at {k : Nat} (h : k < 4) : ∃ lt, (ends4.map V.str)[k]? = some (V.str lt) ∧ lt ∈ plain8 := by
  match k, h with
  | 0, _ => exact ⟨"end", rfl, by decide⟩
  | 1, _ => exact ⟨"fin", rfl, by decide⟩
  | 2, _ => exact ⟨"off", rfl, by decide⟩
  | 3, _ => exact ⟨"out", rfl, by decide⟩
theorem cut_mid (bs : List Str) (j i : Nat) : ∃ cs : List Str, cutV (bs.map V.str) (some (j : Int)) (some (i : Int)) = cs.map V.str ∧ cs.length ≤ i - j ∧ ∀ x ∈ cs, x ∈ bs := by
  refine ⟨(bs.drop (min j bs.length)).take (min i bs.length - min j bs.length), ?_, ?_, fun x hx => List.mem_of_mem_drop (List.mem_of_mem_take hx)⟩
  · unfold cutV
    rw [HT.sIx_nat, HT.sIx_nat, List.length_map, List.map_take, List.map_drop]
  · rw [List.length_take]
    have : min i bs.length - min j bs.length ≤ i - j := by omega
    omega
/-- a rule of a base name -/
def RO (bs : List Str) (q : Rule) : Prop := q.1 ∈ plain8 ∧ q.2.length ≤ 2 ∧ ∀ x ∈ q.2, x ∈ bs
/-- the rules of one base name under way: the list at r -/
structure CI (K : PySem.W.Frag) (M : List Addr) (S S0 dF dR r : Addr) (G : Hp) (dk : List (Key × V)) (bs : List Str) (b c : Nat) (Y : Hp) : Prop where
  st : Stm S S0 c Y
  fr : Same (hid (r :: M) G) (hid (r :: M) Y)
  hF : Y dF = some (.dK [])
  hR : Y dR = some (.dK dk)
  ex : ∃ ys rs, Y r = some (.lst ys) ∧ DpAll K (hid (r :: M) Y) ys (rs.map encL) ∧ (∃ e rest, rs = (e, []) :: rest) ∧ rs.length ≤ b ∧ ∀ q ∈ rs, RO bs q
section
variable {K : PySem.W.Frag} {M : List Addr} {S S0 dF dR r : Addr} {G : Hp} {dk : List (Key × V)} {bs : List Str} {b c d : Nat} {Y Y' : Hp}
theorem CI.mono (h : CI K M S S0 dF dR r G dk bs b c Y) {b' : Nat} (hb : b ≤ b') (hc : c ≤ d) : CI K M S S0 dF dR r G dk bs b' d Y :=
  let ⟨ys, rs, h1, h2, h3, h4, h5⟩ := h.ex
  ⟨h.st.mono hc, h.fr, h.hF, h.hR, ys, rs, h1, h2, h3, Nat.le_trans h4 hb, h5⟩
theorem CI.pure (h : CI K M S S0 dF dR r G dk bs b c Y) (s : Same Y Y') : CI K M S S0 dF dR r G dk bs b c Y' :=
  let ⟨ys, rs, h1, h2, h3⟩ := h.ex
  ⟨h.st.same s, h.fr.trans (sHid s), s _ _ h.hF, s _ _ h.hR, ys, rs, s _ _ h1, sDpAll (sHid s) _ _ h2, h3⟩
/-- a step that leaves all but what is hidden, and the three places -/
theorem CI.step (h : CI K M S S0 dF dR r G dk bs b c Y) (st : Stm S S0 d Y') (s : Same (hid (r :: M) Y) (hid (r :: M) Y')) (h1 : Y' dF = some (.dK [])) (h2 : Y' dR = some (.dK dk)) (h3 : ∀ ys, Y r = some (.lst ys) → Y' r = some (.lst ys)) : CI K M S S0 dF dR r G dk bs b d Y' :=
  let ⟨ys, rs, g1, g2, g3⟩ := h.ex
  ⟨st, h.fr.trans s, h1, h2, ys, rs, h3 _ g1, sDpAll s _ _ g2, g3⟩
theorem CI.draw (h : CI K M S S0 dF dR r G dk bs b c Y) (eM : M = [dF, dR] ++ [S, S0]) (FS : dF ∉ [S, S0]) (RS : dR ∉ [S, S0]) (rS : r ∉ [S, S0]) (st : Stm S S0 d Y') (s : Same (hid [S, S0] Y) (hid [S, S0] Y')) : CI K M S S0 dF dR r G dk bs b d Y' :=
  h.step st (hid_more s fun a ha => List.mem_cons_of_mem _ (by rw [eM]; exact List.mem_append_right _ ha)) (keep_at s h.hF FS) (keep_at s h.hR RS) fun _ g => keep_at s g rS
/-- more rules behind -/
theorem CI.more (h : CI K M S S0 dF dR r G dk bs b c Y) (rF : r ≠ dF) (rR : r ≠ dR) (rS : r ∉ [S, S0]) {ys zs : List V} {zr : List Rule} (hr : Y r = some (.lst ys)) (dz : DpAll K (hid (r :: M) Y) zs (zr.map encL)) (oz : ∀ q ∈ zr, RO bs q) : CI K M S S0 dF dR r G dk bs (b + zr.length) c (upd Y r (.lst (ys ++ zs))) := by
  obtain ⟨ys', rs, g1, g2, ⟨e, rest, g3⟩, g4, g5⟩ := h.ex
  rw [hr] at g1
  cases g1
  have g0 : hid (r :: M) (upd Y r (.lst (ys ++ zs))) = hid (r :: M) Y := hid_in List.mem_cons_self
  have rSm := rS
  simp at rSm
  refine ⟨h.st.put rSm.1 rSm.2, by rw [g0]; exact h.fr, by rw [upd_ne rF.symm]; exact h.hF, by rw [upd_ne rR.symm]; exact h.hR, ys ++ zs, rs ++ zr, upd_same, by rw [g0, List.map_append]; exact DpAll.app g2 dz, ⟨e, rest ++ zr, by rw [g3]; rfl⟩, by rw [List.length_append]; omega, fun q hq => ?_⟩
  rcases List.mem_append.mp hq with hq | hq
  · exact g5 q hq
  · exact oz q hq
theorem CI.len (h : CI K M S S0 dF dR r G dk bs b c Y) {ys : List V} (hr : Y r = some (.lst ys)) : ys.length ≤ b := by
  obtain ⟨ys', rs, g1, g2, g3, g4, g5⟩ := h.ex
  rw [hr] at g1
  cases g1
  rw [dpAll_len g2]
  exact g4
end
/-- the base's rules: i of them ready, more at m -/
structure BI (K : PySem.W.Frag) (M : List Addr) (S S0 dF dR : Addr) (bs : List Str) (G : Hp) (isr : Bool) (i c : Nat) (m : Addr) (Y : Hp) : Prop where
  st : Stm S S0 c Y
  fr : Same (hid M G) (hid M Y)
  hF : Y dF = some (.dK [])
  ex : ∃ rk Rb, Y dR = some (.dK rk) ∧ KvD K (hid M Y) encRs Rb rk ∧ Rb.map (·.1) = bs.take i ∧ ∀ t ∈ Rb, BaseR bs t.2
  mo : ∃ mv mr, hid M Y m = some (.lst mv) ∧ DpAll K (hid M Y) mv (mr.map encL) ∧ (∀ q ∈ mr, RO bs q) ∧ (isr = true → mr.length ≤ 2 ∧ (i = 0 → mr = []))
end K8
set_option maxRecDepth 100000
set_option maxHeartbeats 4000000
namespace K8
open PySem PySem.Spec PyProof.Rows L2
theorem sorted_strs {K : PySem.W.Frag} {H : Hp} {D : Addr} {ns : List Str} {Q : VK} (hq : SqL K H D (ns.map V.str)) (hl : ns.length ≤ 1000000) (h : ∀ (p : Addr) (zs : List Str), H p = none → zs.Perm ns → Q (.ref p) (upd H p (.lst (zs.map V.str)))) : rSortD K [.ref D] H Q := by
  have e1 : (ns.map fun n => (V.str n, PyData.str n)).map (·.1) = ns.map V.str := by rw [List.map_map]; rfl
  refine ⟨D, ns.map fun n => (V.str n, PyData.str n), rfl, by rw [e1]; exact hq, sortOk_of (f := fun n : Str => (V.str n, PyData.str n)) (fun n _ => .str n) (fun x y => rfl) (.inr fun x => ⟨(by intro z; injection z), (by intro xs z; injection z)⟩) (fun x => Nat.le_trans (dep_str x) (by decide)) hl, fun p np => ?_⟩
  have e2 : sortB (ns.map fun n => (V.str n, PyData.str n)) = (ns.mergeSort (PySem.W.dataLe false fun n => PyData.str n)).map fun n => (V.str n, PyData.str n) := (PySem.W.sort_maps (fun n : Str => (V.str n, PyData.str n)) fun _ _ _ _ => rfl).symm
  rw [e2, List.map_map]
  exact h p _ np (List.mergeSort_perm _ _)
theorem putK_twice {kvs : List (Key × V)} {k : Key} {a b : V} (h : valV kvs k = none) : putK (putK kvs k a) k b = putK kvs k b := by
  have hn := valV_not h
  rw [putK_new a h, putK_new b h]
  unfold putK
  rw [if_pos (by rw [List.any_append]; simp), List.map_append]
  congr 1
  · conv => rhs; rw [← List.map_id kvs]
    refine List.map_congr_left fun kv hkv => ?_
    rw [if_neg fun e => hn (List.mem_map.mpr ⟨kv, hkv, e⟩)]
    rfl
  · simp
/-- pairs of a text and whatever, as a dict takes them -/
theorem pairs_any {K : PySem.W.Frag} {H : Hp} {nm : Nat → Str} : ∀ {l : List Nat} {ys : List V}, Paired (fun j y => ∃ (p : Addr) (v : V), y = .ref p ∧ SqT K H p [.str (nm j), v]) l ys →
    ∃ (ps : List Addr) (kvs : List (Key × V)), ys = ps.map V.ref ∧ Paired (fun p kv => SqT K H p [kV kv.1, kv.2]) ps kvs ∧ kvs.map (·.1) = l.map fun j => Sum.inr (nm j)
  | _, _, .nil => ⟨[], [], rfl, .nil, rfl⟩
  | j :: l, _, .cons ⟨p, v, e, h⟩ t => by
    obtain ⟨ps, kvs, e1, h2, e3⟩ := pairs_any t
    exact ⟨p :: ps, (Sum.inr (nm j), v) :: kvs, by rw [e, e1]; rfl, .cons h h2, by rw [List.map_cons, List.map_cons, e3]⟩
theorem dpAll_take {K : PySem.W.Frag} {H : Hp} : ∀ {xs : List V} {ds : List PyData}, DpAll K H xs ds → ∀ k, DpAll K H (xs.take k) (ds.take k)
  | _, _, .nil, k => by simp; exact .nil
  | _, _, .cons a t, 0 => .nil
  | _, _, .cons a t, k + 1 => .cons a (dpAll_take t k)
theorem plain_so : ∀ z ∈ plain8, sOk z := by
  intro z hz
  simp only [plain8, List.mem_cons, List.not_mem_nil, or_false] at hz
  rcases hz with rfl | rfl | rfl | rfl | rfl | rfl | rfl | rfl <;> (unfold sOk; decide +kernel)
theorem unlock0 {H H' : Hp} {d : Addr} {u : HO} {o : Obj} (h : H d = some u) (s : Same (upd H d (.frz o u)) H') : Same H (upd H' d u) := by
  have g : Same (hid [] H) (hid [] (upd H' d u)) := hid_unlock (o := o) h (by rw [hid0, hid0]; exact s)
  rwa [hid0, hid0] at g
theorem valV_key {kvs : List (Key × V)} {k : Key} (h : k ∈ kvs.map (·.1)) : ∃ v, valV kvs k = some v := by
  cases e : valV kvs k with
  | some v => exact ⟨v, rfl⟩
  | none => exact absurd h (valV_not e)
theorem range_getD_nm (bs : List Str) : (List.range bs.length).map (fun j => (Sum.inr (bs.getD j Str.empty) : Key)) = bs.map Sum.inr := range_getD bs Str.empty (fun n => (Sum.inr n : Key))
end K8
set_option maxRecDepth 100000
set_option maxHeartbeats 8000000
namespace K8
open PySem PySem.Spec PyProof.Rows L2
def spPlanted (K : PySem.W.Frag) : Sp := fun vs H Q _ => ∃ (S S0 : Addr) (c : Nat), vs = [.ref S, .int 7] ∧ Stm S S0 c H ∧ c + 5000 ≤ LIM ∧
  ∀ (z d : Addr) (y : V) (kvs : List (Key × V)) (R : Bk) (H' : Hp), SqT K H' z [.ref d, y] → H' d = some (.dK kvs) → KvD K (hid [S, S0] H') encRs R kvs → Plant R → Stm S S0 (c + 5000) H' → Same (hid [S, S0] H) (hid [S, S0] H') → Q (.ref z) H'
section
variable {P : Program} {w : World} {K : PySem.W.Frag} {mg : Str → Option Value} {base : Heap}
theorem sc_d_planted : FnScope ["_law_stream", "_law_most", "_law_many", "_law_names", "_law_base", "_law_rules", "_law_found", "_law_name", "_law_words", "_law_k", "_law_is_row", "_law_more", "_law_at", "_law_some", "_law_letter", "_law_row", "_law_first", "_law_turn", "_law_one"] ["_law_stream", "_law_most"] (defScope s_d_planted) := ⟨rfl, rfl, rfl, by decide +kernel, rfl, by decide +kernel, by decide +kernel⟩
theorem ok_d_planted (T : Txt K mg) : FnOk P w K mg base CX0 4 T.d_planted.f T.d_planted.fd ["_law_stream", "_law_most"] (spPlanted K) := by
  have G_draw : FnOk P w K mg base CX0 3 T.draw.f T.draw.fd _ spDraw := (ok_draw T).mono (by decide)
  have G_pick : FnOk P w K mg base CX0 3 T.pick.f T.pick.fd _ (spPick K) := (ok_pick T).mono (by decide)
  have G_d_names : FnOk P w K mg base CX0 3 T.d_names.f T.d_names.fd _ spDNames := ok_d_names T
  have G_d_parted : FnOk P w K mg base CX0 3 T.d_parted.f T.d_parted.fd _ (spParted K) := ok_d_parted T
  have G_each_once : FnOk P w K mg base CX0 3 T.each_once.f T.each_once.fd _ (spOnce K rOk encL) := (ok_each_once enc_L T).mono (by decide)
  refine T.d_planted.F.ok sc_d_planted (fun vs H Q E h => ?_) (fun cdv A outer s H vs Q E hr h => ?_)
  · obtain ⟨S, S0, c, rfl, _⟩ := h
    rfl
  obtain ⟨S, S0, c, rfl, st, hc, q⟩ := h
  have hc : c + 5000 ≤ 1099511627776 := hc
  have nd := sc_d_planted.nd
  have hu := hu_of hr
  have hu64 := hr.units
  have hu65 : (A.deeper (envOfC "_law_d_planted" (defScope s_d_planted) s.heap.objs.size T.d_planted.f cdv)).units + 65 < cLine := by have := hr.un; omega
  refine ⟨_, (pss_cons (ps_set (i := 2) nd rfl (Or.inl rfl) (pe_op op_add pe_int (eC T.draw G_draw hr (pa_cons (pv 0) (pa_cons pe_int pa_nil)))))
    (pss_cons (ps_set (i := 3) nd rfl (Or.inl rfl) (eC T.d_names G_d_names hr (pa_cons (pv 0) (pa_cons (pe_op op_add (pe_op op_add (pv 2) pe_int) (eC T.draw G_draw hr (pa_cons (pv 0) (pa_cons (pe_op op_sub (pv 1) (pv 2)) pa_nil)))) pa_nil))))
    (pss_cons (ps_asg (pe_tup (pa_cons (pe_slice (slL K) (pv 3) po_none (po_some (pv 2))) (pa_cons pe_dnewK (pa_cons pe_dnewK pa_nil)))) (gTu (K := K) rfl (pgs_cons (pg_name (i := 4) nd rfl (Or.inr rfl)) (pgs_cons (pg_name (i := 5) nd rfl (Or.inl rfl)) (pgs_cons (pg_name (i := 6) nd rfl (Or.inl rfl)) pgs_nil)))))
    (pss_cons (ps_set (i := 8) nd rfl (Or.inr rfl) (eDictP K rfl T.z_dict (pe_lc (own := [("_law_name", 7)]) (g := gName 7) (tt := tYes) rfl nd (iL K (pv 4)) (blkOk_by (N := ["_law_stream", "_law_most", "_law_many", "_law_names", "_law_base", "_law_rules", "_law_found", "_law_name", "_law_words", "_law_k", "_law_is_row", "_law_more", "_law_at", "_law_some", "_law_letter", "_law_row", "_law_first", "_law_turn", "_law_one"]) (sc := defScope s_d_planted) (by decide +kernel)) (fun _ _ _ _ _ => (pg_name (i := 7) nd rfl (Or.inl rfl))) (fun _ _ _ _ _ => pts_nil) (fun _ _ _ _ _ => (pe_tup (pa_cons (pv 7) (pa_cons (pe_lst (pa_cons (pv 7) pa_nil)) pa_nil)))))))
    (pss_cons (ps_for PassesOwn.never rfl (iL K (pe_slice (slL K) (pv 3) (po_some (pv 2)) po_none)) (pg_name (i := 7) nd rfl (Or.inl rfl))
      (pss_one (ps_dput hu (pv 8) (pv 7) (pe_lc (own := [("_law_k", 9)]) (g := gName 9) (tt := tYes) rfl nd (pi_range1 rfl T.z_range (pa_cons (pe_op op_add pe_int (eC T.draw G_draw hr (pa_cons (pv 0) (pa_cons pe_int pa_nil)))) pa_nil)) (blkOk_by (N := ["_law_stream", "_law_most", "_law_many", "_law_names", "_law_base", "_law_rules", "_law_found", "_law_name", "_law_words", "_law_k", "_law_is_row", "_law_more", "_law_at", "_law_some", "_law_letter", "_law_row", "_law_first", "_law_turn", "_law_one"]) (sc := defScope s_d_planted) (by decide +kernel)) (fun _ _ _ _ _ => (pg_name (i := 9) nd rfl (Or.inl rfl))) (fun _ _ _ _ _ => pts_nil) (fun _ _ _ _ _ => (eC T.pick G_pick hr (pa_cons (pv 0) (pa_cons (pv 4) pa_nil))))) rfl)))
    (pss_cons (ps_par (i := 10) (j := 11) rfl nd rfl rfl (by decide) rfl rfl (pa_cons (pe_cmpR op_eq (eC T.draw G_draw hr (pa_cons (pv 0) (pa_cons pe_int pa_nil))) pe_int (nomark _)) (pa_cons (pe_lst pa_nil) pa_nil)) rfl)
    (pss_cons (ps_for PassesOwn.never rfl (pi_enumA K T.z_enumerate (pv 4)) (gTu (K := K) rfl (pgs_cons (pg_name (i := 12) nd rfl (Or.inl rfl)) (pgs_cons (pg_name (i := 7) nd rfl (Or.inl rfl)) pgs_nil)))
      (pss_cons (ps_dput hu (pv 5) (pv 7) (pe_lst (pa_cons (pe_tup (pa_cons (pe_ix (ixL K) (pe_lst (pa_cons pe_str (pa_cons pe_str (pa_cons pe_str (pa_cons pe_str pa_nil))))) (pe_ifExp (pt_val (pv 10)) pe_int (pv 12)) (fun _ _ => rfl)) (pa_cons (pe_lst pa_nil) pa_nil))) pa_nil)) rfl)
      (pss_cons (ps_if (pt_val (pv 10))
        (pss_one (ps_expr (eAppend K (pe_dget hu (pv 5) (pv 7) (fun _ _ => rfl)) (pe_ifExp (pt_cmpR op_gt (pv 12) pe_int (nomark _)) (pe_tup (pa_cons pe_str (pa_cons (pe_slice (slL K) (pv 4) (po_some (pe_op op_sub (pv 12) pe_int)) (po_some (pv 12))) pa_nil))) (pe_tup (pa_cons pe_str (pa_cons (pe_lst pa_nil) pa_nil))))))) pss_nil)
      (pss_cons (ps_for PassesOwn.never rfl (pi_range1 rfl T.z_range (pa_cons (pe_ifExp (PW.pt (pw_or (pt_cmpR op_eq (pv 12) pe_int (nomark _)) (pw_or1 (pt_not (pt_val (pv 10)))))) (eC T.draw G_draw hr (pa_cons (pv 0) (pa_cons pe_int pa_nil))) pe_int) pa_nil)) (pg_name (i := 9) nd rfl (Or.inl rfl))
        (pss_cons (ps_setLc (i := 13) (own := [("_law_turn", 17)]) (g := gName 17) (tt := tYes) rfl nd rfl rfl (sw_true rfl rfl rfl (by decide +kernel)) (pi_range1 rfl T.z_range (pa_cons (eC T.draw G_draw hr (pa_cons (pv 0) (pa_cons pe_int pa_nil))) pa_nil)) (blkOk_by (N := ["_law_stream", "_law_most", "_law_many", "_law_names", "_law_base", "_law_rules", "_law_found", "_law_name", "_law_words", "_law_k", "_law_is_row", "_law_more", "_law_at", "_law_some", "_law_letter", "_law_row", "_law_first", "_law_turn", "_law_one"]) (sc := defScope s_d_planted) (by decide +kernel)) (fun _ _ _ _ _ => (pg_name (i := 17) nd rfl (Or.inl rfl))) (fun _ _ _ _ _ => pts_nil) (fun _ _ _ _ _ => (eC T.pick G_pick hr (pa_cons (pv 0) (pa_cons (pv 4) pa_nil)))))
        (pss_cons (ps_set (i := 11) nd rfl (Or.inl rfl) (pe_op (oCatL K) (pe_ifExp (pt_val (pv 10)) (pv 11) (pe_lst pa_nil)) (pe_lst (pa_cons (pe_tup (pa_cons (eC T.pick G_pick hr (pa_cons (pv 0) (pa_cons (pe_lst (pa_cons pe_str (pa_cons pe_str pa_nil))) pa_nil))) (pa_cons (pv 13) pa_nil))) pa_nil))))
        (pss_one (ps_expr (eExtend K (pe_dget hu (pv 5) (pv 7) (fun _ _ => rfl)) (pe_ifExp (pt_val (pv 10)) (pe_lst pa_nil) (pv 11))))))))
      (pss_one (ps_expr (eExtend K (pe_dget hu (pv 5) (pv 7) (fun _ _ => rfl)) (pe_ifExp (pt_val (pv 10)) (pv 11) (pe_lst pa_nil)))))))))
    (pss_cons (ps_for PassesOwn.never rfl (iL K (e1SortD K hu65 T.z_sorted (pv 3))) (pg_name (i := 7) nd rfl (Or.inl rfl))
      (pss_cons (ps_dput hu (pv 6) (pv 7) (pe_lst pa_nil) rfl)
      (pss_cons (ps_for PassesOwn.never rfl (iL K (pe_op (oCatL K) (pe_dget hu (pv 5) (pe_ix (ixL K) (pe_dget hu (pv 8) (pv 7) (fun _ _ => rfl)) pe_int (fun _ _ => rfl)) (fun _ _ => rfl)) (pe_slice (slL K) (pe_dget hu (pv 5) (pe_ix (ixL K) (pe_dget hu (pv 8) (pv 7) (fun _ _ => rfl)) pe_int (fun _ _ => rfl)) (fun _ _ => rfl)) po_none (po_some (eC T.draw G_draw hr (pa_cons (pv 0) (pa_cons pe_int pa_nil))))))) (gTu (K := K) rfl (pgs_cons (pg_name (i := 14) nd rfl (Or.inl rfl)) (pgs_cons (pg_name (i := 15) nd rfl (Or.inl rfl)) pgs_nil)))
        (pss_one (ps_expr (eAppend K (pe_dget hu (pv 6) (pv 7) (fun _ _ => rfl)) (pe_tup (pa_cons (pv 14) (pa_cons (eC T.d_parted G_d_parted hr (pa_cons (pv 0) (pa_cons (pv 8) (pa_cons (pe_op (oCatL K) (pv 15) (pe_slice (slL K) (pe_dget hu (pv 8) (pv 7) (fun _ _ => rfl)) (po_some pe_int) po_none)) pa_nil)))) pa_nil)))))))
      (pss_one (ps_dput hu (pv 6) (pv 7) (e1SortD K hu65 T.z_sorted (eC T.each_once G_each_once hr (pa_cons (pe_dget hu (pv 6) (pv 7) (fun _ _ => rfl)) pa_nil))) rfl)))))
    (pss_cons (ps_set (i := 16) nd rfl (Or.inr rfl) (eDictP K rfl T.z_dict (pe_lc (own := [("_law_one", 18)]) (g := gName 18) (tt := tYes) rfl nd (iL K (pv 4)) (blkOk_by (N := ["_law_stream", "_law_most", "_law_many", "_law_names", "_law_base", "_law_rules", "_law_found", "_law_name", "_law_words", "_law_k", "_law_is_row", "_law_more", "_law_at", "_law_some", "_law_letter", "_law_row", "_law_first", "_law_turn", "_law_one"]) (sc := defScope s_d_planted) (by decide +kernel)) (fun _ _ _ _ _ => (pg_name (i := 18) nd rfl (Or.inr rfl))) (fun _ _ _ _ _ => pts_nil) (fun _ _ _ _ _ => (pe_tup (pa_cons (pv 18) (pa_cons (eMinS K hu65 rfl T.z_min (pe_lock (pe_lc (own := [("_law_name", 7)]) (g := gName 7) rfl nd (pi_keys (pv 8)) (blkOk_by (N := ["_law_stream", "_law_most", "_law_many", "_law_names", "_law_base", "_law_rules", "_law_found", "_law_name", "_law_words", "_law_k", "_law_is_row", "_law_more", "_law_at", "_law_some", "_law_letter", "_law_row", "_law_first", "_law_turn", "_law_one"]) (sc := { kind := .function, names := [(PySem.Str.ofString ".0", .local), (PySem.Str.ofString "_law_one", .cell), (PySem.Str.ofString "min", .globalImplicit), (PySem.Str.ofString "_law_words", .cell)], isGenerator := false, isCoroutine := false }) (by decide +kernel)) (fun _ _ _ _ _ => (pg_name (i := 7) nd rfl (Or.inl rfl))) (fun _ _ _ _ _ => pts_one (pt_cmpR (oEqD K hu64) (pe_dget hu (pv 8) (pv 7) (fun _ _ => rfl)) (pe_lst (pa_cons (pv 18) pa_nil)) (nomark _))) (fun _ _ _ _ _ => (pv 7))))) pa_nil)))))))
    (pss_one (ps_ret (pe_tup (pa_cons (pv 6) (pa_cons (eDictP K rfl T.z_dict (pe_lc (own := [("_law_name", 7)]) (g := gName 7) (tt := tYes) rfl nd (iL K (eSortK rfl T.z_sorted (pv 8))) (blkOk_by (N := ["_law_stream", "_law_most", "_law_many", "_law_names", "_law_base", "_law_rules", "_law_found", "_law_name", "_law_words", "_law_k", "_law_is_row", "_law_more", "_law_at", "_law_some", "_law_letter", "_law_row", "_law_first", "_law_turn", "_law_one"]) (sc := defScope s_d_planted) (by decide +kernel)) (fun _ _ _ _ _ => (pg_name (i := 7) nd rfl (Or.inl rfl))) (fun _ _ _ _ _ => pts_nil) (fun _ _ _ _ _ => (pe_tup (pa_cons (pv 7) (pa_cons (pe_lc (own := [("_law_one", 18)]) (g := gName 18) (tt := tYes) rfl nd (iL K (pe_dget hu (pv 8) (pv 7) (fun _ _ => rfl))) (blkOk_by (N := ["_law_stream", "_law_most", "_law_many", "_law_names", "_law_base", "_law_rules", "_law_found", "_law_name", "_law_words", "_law_k", "_law_is_row", "_law_more", "_law_at", "_law_some", "_law_letter", "_law_row", "_law_first", "_law_turn", "_law_one"]) (sc := { kind := .function, names := [(PySem.Str.ofString ".0", .local), (PySem.Str.ofString "_law_name", .local), (PySem.Str.ofString "_law_first", .cell), (PySem.Str.ofString "_law_words", .cell)], isGenerator := false, isCoroutine := false }) (by decide +kernel)) (fun _ _ _ _ _ => (pg_name (i := 18) nd rfl (Or.inl rfl))) (fun _ _ _ _ _ => pts_nil) (fun _ _ _ _ _ => (pe_dget hu (pv 16) (pv 18) (fun _ _ => rfl)))) pa_nil)))))) pa_nil)))))))))))))), ?_⟩
  refine ⟨_, rfl, S, S0, c, 3, rfl, st, by omega, by decide, by decide, fun r H1 r0 r1 st1 sm1 => ⟨_, _, rfl, rfl, ?_⟩⟩
  obtain ⟨r, rfl⟩ : ∃ r' : Nat, r = r' := ⟨r.toNat, by omega⟩
  obtain ⟨many, em⟩ : ∃ many : Nat, many = 2 + r := ⟨_, rfl⟩
  dsimp only
  rw [show (2 : Int) + (r : Nat) = (many : Nat) by omega]
  have m2 : 2 ≤ many ∧ many ≤ 4 := by omega
  clear r0 r1
  refine ⟨_, rfl, _, rfl, _, _, rfl, rfl, _, rfl, _, rfl, _, rfl, _, _, rfl, rfl, S, S0, _, _, rfl, st1, by omega, by omega, by omega, fun r H2 r0 r1 st2 sm2 => ⟨_, _, rfl, rfl, ?_⟩⟩
  obtain ⟨r2, rfl⟩ : ∃ r' : Nat, r = r' := ⟨r.toNat, by omega⟩
  refine ⟨S, S0, c + 1 + 1, many + 1 + r2, rfl, st2, by omega, fun p0 ns H3 ndn n12 nl np0 hp0 st3 sm3 => ?_⟩
  have nl : ns.length = many + 1 + r2 := by rw [nl]; omega
  refine ⟨_, rfl, _, rfl, _, rfl, p0, _, rfl, SqL.of hp0, fun B nB => ?_⟩
  rw [cut_take, ← List.map_take]
  obtain ⟨bs, ebs⟩ : ∃ bs, bs = ns.take many := ⟨_, rfl⟩
  rw [← ebs]
  intro dR nR dF nF
  refine ⟨(by show 3 ≤ sizeLine; decide), fun z nz => ⟨z, _, rfl, SqT.of upd_same, rfl, _, _, rfl, _, _, rfl, _, _, rfl, rfl, ?_⟩⟩
  have X3 : St S S0 [] (c + 20) H H3 := (((St.start st).draw st1 sm1).draw st2 sm2).draw (st3.mono (by omega)) sm3
  have s4 := same_new (o := .lst (bs.map V.str)) nB
  have X4 := X3.new (o := .lst (bs.map V.str)) nB
  have hp4 := s4 _ _ hp0
  have hB4 : upd H3 B (.lst (bs.map V.str)) B = some (.lst (bs.map V.str)) := upd_same
  have BS := X3.out nB
  have pS : p0 ∉ [S, S0] := by
    have := st2.S_ne np0
    simp
    exact this
  generalize upd H3 B (.lst (bs.map V.str)) = H4 at nR nF nz s4 X4 hp4 hB4 ⊢
  have X5 : St S S0 [dR] (c + 20) H (upd H4 dR (.dK [])) := X4.push nR (by simp)
  have s5 := same_new (o := .dK []) nR
  have hp5 := s5 _ _ hp4
  have hB5 := s5 _ _ hB4
  have hR5 : upd H4 dR (.dK []) dR = some (.dK []) := upd_same
  have pR : p0 ≠ dR := ne_of_none hp4 nR
  have BR : B ≠ dR := ne_of_none hB4 nR
  generalize upd H4 dR (.dK []) = H5 at nF nz s5 X5 hp5 hB5 hR5 ⊢
  have RF : dR ≠ dF := ne_of_none hR5 nF
  have X6 : St S S0 [dF, dR] (c + 20) H (upd H5 dF (.dK [])) := X5.push nF (by simpa using RF.symm)
  have s6 := same_new (o := .dK []) nF
  have hp6 := s6 _ _ hp5
  have hB6 := s6 _ _ hB5
  have hR6 := s6 _ _ hR5
  have hF6 : upd H5 dF (.dK []) dF = some (.dK []) := upd_same
  have pF : p0 ≠ dF := ne_of_none hp5 nF
  have BF : B ≠ dF := ne_of_none hB5 nF
  generalize upd H5 dF (.dK []) = H6 at nz s6 X6 hp6 hB6 hR6 hF6 ⊢
  have X7 := X6.new (o := .tup [.ref B, .ref dR, .ref dF]) nz
  have s7 := same_new (o := .tup [.ref B, .ref dR, .ref dF]) nz
  have hp7 := s7 _ _ hp6
  have hB7 := s7 _ _ hB6
  have hR7 := s7 _ _ hR6
  have hF7 := s7 _ _ hF6
  generalize upd H6 z (.tup [.ref B, .ref dR, .ref dF]) = H7 at X7 hp7 hB7 hR7 hF7 ⊢
  clear s4 X4 hp4 hB4 s5 X5 hp5 hB5 hR5 s6 X6 hp6 hB6 hR6 hF6 nz nF nR s7
  have bsl : bs.length = many := by rw [ebs, List.length_take]; omega
  -- words of the base
  refine ⟨_, rfl, B, rfl, ⟨_, SqL.of hB7⟩, fun D nD => ?_⟩
  refine lc_d (K := K) walk_list nD (by rw [List.length_map]; omega) (fun j => PyData.tuple [.str (bs.getD j Str.empty), encW [bs.getD j Str.empty]]) (fun _ => true) (fun Y sY => SqL.of (sY _ _ hB7)) ?_ ?_
  · rintro j x Y Y' us k1 k2 hj sY hDY ⟨rfl, hx⟩ k1' _
    obtain ⟨n, rfl, hn, hnm⟩ := strs_at hx
    refine ⟨rfl, tYesI ⟨_, rfl, _, rfl, (by show 1 ≤ sizeLine; decide), fun u nu => ⟨(by show 2 ≤ sizeLine; decide), fun t nt => ?_⟩⟩⟩
    have su := same_new (o := .lst [V.str n]) nu
    have st' := same_new (o := .tup [.str n, .ref u]) nt
    have uD : u ≠ D := (ne_of_none hDY nu).symm
    have tD : t ≠ D := (ne_of_none (su _ _ hDY) nt).symm
    refine k1' rfl _ _ (su.trans st') ?_
    rw [getD_of hn]
    exact .tup (SqT.of (hid_get (by simpa using tD) upd_same)) (.cons (.str _) (.cons (.lst (SqL.of (hid_get (by simpa using uD) (st' _ _ upd_same))) (.cons (.str _) .nil)) .nil))
  · intro Y ys sY hDY dp
    rw [filter_range, List.length_map, range_getD bs Str.empty (fun n => PyData.tuple [.str n, encW [n]])] at dp
    have e1 : bs.map (fun n => PyData.tuple [.str n, encW [n]]) = (bs.map fun n => (n, [n])).map fun t => PyData.tuple [.str t.1, encW t.2] := by rw [List.map_map]; rfl
    rw [e1] at dp
    obtain ⟨ps, kw, rfl, pr, kv⟩ := pairs_of_dp (sDpAll hid_same _ _ dp)
    refine ⟨D, ps, kw, rfl, SqL.of hDY, pr, fun W nW => ?_⟩
    have bnd : bs.Nodup := by rw [ebs]; exact (List.take_sublist _ _).nodup ndn
    have bin : ∀ b ∈ bs, b ∈ ns := fun b hb => List.mem_of_mem_take (ebs ▸ hb)
    have knd : (kw.map (·.1)).Nodup := by
      have nm : (bs.map fun n => (n, [n])).map (·.1) = bs := by rw [List.map_map]; exact List.map_id' _
      rw [kvd_keys kv, nm]
      exact List.Pairwise.map _ (fun a b hab e => hab (by injection e)) bnd
    rw [mergeK_nd kw [] (by rw [List.nil_append]; exact knd), List.nil_append]
    have XY : St S S0 [dF, dR] (c + 20) H Y := X7.pure sY
    have hpY := sY _ _ hp7
    have hBY := sY _ _ hB7
    have hRY := sY _ _ hR7
    have hFY := sY _ _ hF7
    have WR : W ≠ dR := (ne_of_none hRY nW).symm
    have WF : W ≠ dF := (ne_of_none hFY nW).symm
    have pW : p0 ≠ W := ne_of_none hpY nW
    have BW : B ≠ W := ne_of_none hBY nW
    have X8 : St S S0 [W, dF, dR] (c + 20) H (upd Y W (.dK kw)) := XY.push nW (by simp; exact ⟨WF, WR⟩)
    have s8 := same_new (o := .dK kw) nW
    have hp8 := s8 _ _ hpY
    have hB8 := s8 _ _ hBY
    have hR8 := s8 _ _ hRY
    have hF8 := s8 _ _ hFY
    have hW8 : upd Y W (.dK kw) W = some (.dK kw) := upd_same
    obtain ⟨Z, eZ⟩ : ∃ Z, Z = [W, dF, dR] ++ [S, S0] := ⟨_, rfl⟩
    have fr8 : Same (hid [S, S0] H) (hid Z (upd Y W (.dK kw))) := by rw [eZ]; exact X8.fr
    have kv8 : KvD K (hid Z (upd Y W (.dK kw))) encW (bs.map fun n => (n, [n])) kw := by
      have WZ : W ∈ Z := by rw [eZ]; simp
      rw [hid_in WZ, eZ]
      refine noS_kv (noS_none nW) (noS_kv (noS_dK hFY) (noS_kv (noS_dK hRY) (kvW_out XY.st (fun t ht => ?_) kv)))
      obtain ⟨b, _, rfl⟩ := List.mem_map.mp ht
      simp
    generalize upd Y W (.dK kw) = H8 at X8 hp8 hB8 hR8 hF8 hW8 fr8 kv8 ⊢
    have WS : W ∉ [S, S0] := (X8.ap W (by simp)).1
    have FS : dF ∉ [S, S0] := (X8.ap dF (by simp)).1
    have RS : dR ∉ [S, S0] := (X8.ap dR (by simp)).1
    have pZ : p0 ∉ Z := by rw [eZ]; simp; simp at pS; exact ⟨pW, pF, pR, pS⟩
    have BZ : B ∉ Z := by rw [eZ]; simp; simp at BS; exact ⟨BW, BF, BR, BS⟩
    have drawZ : ∀ {A B : Hp}, Same (hid [S, S0] A) (hid [S, S0] B) → Same (hid Z A) (hid Z B) := fun g => hid_more g fun a ha => by rw [eZ]; exact List.mem_append_right _ ha
    have ZS : ∀ Y : Hp, Same (hid Z Y) (hid [S, S0] Y) := fun Y => hid_sub fun a ha => by rw [eZ]; exact List.mem_append_right _ ha
    clear X7 hp7 hB7 hR7 hF7 hpY hBY hRY hFY XY s8 nW pr dp sY hDY nD
    -- the other words
    refine ⟨_, rfl, _, rfl, _, rfl, p0, _, rfl, SqL.of hp8, fun L nL => ⟨L, rfl, ⟨_, SqL.of upd_same⟩, ?_⟩⟩
    rw [cut_drop, ← List.map_drop]
    have LZ : L ∉ Z := by rw [eZ]; simp; have := X8.st.S_ne nL; exact ⟨(ne_of_none hW8 nL).symm, (ne_of_none hF8 nL).symm, (ne_of_none hR8 nL).symm, this⟩
    have s9 := same_new (o := .lst ((ns.drop many).map V.str)) nL
    have X9 := X8.new (o := .lst ((ns.drop many).map V.str)) nL
    have hp9 := s9 _ _ hp8
    have hB9 := s9 _ _ hB8
    have hR9 := s9 _ _ hR8
    have hF9 := s9 _ _ hF8
    have hW9 := s9 _ _ hW8
    have fr9 := fr8.trans (sHid (M := Z) s9)
    have kv9 := kv8.same (sHid s9)
    have hL9 : hid Z (upd H8 L (.lst ((ns.drop many).map V.str))) L = some (.lst ((ns.drop many).map V.str)) := hid_get LZ upd_same
    generalize upd H8 L (.lst ((ns.drop many).map V.str)) = H9 at X9 hp9 hB9 hR9 hF9 hW9 fr9 kv9 hL9 ⊢
    have hBZ : hid Z H9 B = some (.lst (bs.map V.str)) := hid_get BZ hB9
    have hpZ : hid Z H9 p0 = some (.lst (ns.map V.str)) := hid_get pZ hp9
    have WFne : W ≠ dF := WF
    refine for_it walk_list (fun i σ Y => (∃ v7 v9, σ = [some (.ref S), some (.int 7), some (.int (many : Nat)), some (.ref p0), some (.ref B), some (.ref dR), some (.ref dF), v7, some (.ref W), v9, none, none, none, none, none, none, none, none, none]) ∧ Stm S S0 (c + 20 + 5 * i) Y ∧ Same (hid Z H9) (hid Z Y) ∧ Y dR = some (.dK []) ∧ Y dF = some (.dK []) ∧
        ∃ kw Wd, Y W = some (.dK kw) ∧ KvD K (hid Z Y) encW Wd kw ∧ Wd.map (·.1) = ns.take (many + i) ∧ (∀ t ∈ Wd, t.2 ≠ [] ∧ t.2.length ≤ 3 ∧ ∀ x ∈ t.2, x ∈ bs) ∧ ∀ b ∈ bs, (b, [b]) ∈ Wd)
      ⟨⟨_, _, rfl⟩, X9.st, Same.refl _, hR9, hF9, kw, _, hW9, kv9, (by rw [List.map_map]; show bs.map id = _; rw [List.map_id, Nat.add_zero]; exact ebs), (fun t ht => by
        obtain ⟨b, hb, rfl⟩ := List.mem_map.mp ht
        exact ⟨by simp, by show 1 ≤ 3; decide, fun x hx => by rw [List.mem_singleton.mp hx]; exact hb⟩), fun b hb => List.mem_map.mpr ⟨b, hb, rfl⟩⟩ (fun i σ Y _ ⟨_, _, s, _⟩ => SqL.of (hid_of (s _ _ hL9)).2) ?_ ?_
    · rintro i x σ H10 H10' hi ⟨⟨v7, v9, rfl⟩, st10, s10, hR10, hF10, kw, Wd, hW10, kv10, nm10, ok10, self10⟩ ⟨rfl, hx⟩
      obtain ⟨n, rfl, hn, hnm⟩ := strs_at hx
      rw [List.length_map, List.length_drop] at hi
      have hn' : ns[many + i]? = some n := by rw [← hn, List.getElem?_drop]
      have nin : n ∈ ns := List.mem_of_getElem? hn'
      refine ⟨_, rfl, S, S0, _, 3, rfl, st10, by omega, by decide, by decide, fun r4 H11 r40 r41 st11 sm11 => ⟨_, _, rfl, rfl, _, rfl, by omega, by omega, fun D4 nD4 => ?_⟩⟩
      obtain ⟨r4, rfl⟩ : ∃ r' : Nat, r4 = r' := ⟨r4.toNat, by omega⟩
      have hR11 := keep_at sm11 hR10 RS
      have hF11 := keep_at sm11 hF10 FS
      have hW11 := keep_at sm11 hW10 WS
      have f11 := drawZ sm11
      have sD4 := st11.S_ne nD4
      have D4S : D4 ∉ [S, S0] := by simp; exact sD4
      have D4R : D4 ≠ dR := (ne_of_none hR11 nD4).symm
      have D4F : D4 ≠ dF := (ne_of_none hF11 nD4).symm
      have D4W : D4 ≠ W := (ne_of_none hW11 nD4).symm
      have D4Z : D4 ∉ Z := by rw [eZ]; simp; exact ⟨D4W, D4F, D4R, sD4⟩
      have hB11 := f11 _ _ (s10 _ _ hBZ)
      refine lc_g walk_range Z nD4 (by omega) (fun j Y => Stm S S0 (c + 20 + 5 * i + 1 + j) Y ∧ Y dR = some (.dK []) ∧ Y dF = some (.dK []) ∧ Y W = some (.dK kw)) ⟨st11.new nD4, by rw [upd_ne D4R.symm]; exact hR11, by rw [upd_ne D4F.symm]; exact hF11, by rw [upd_ne D4W.symm]; exact hW11⟩
        (fun j Y o ys hD g => ⟨g.1.put sD4.1 sD4.2, by rw [upd_ne D4R.symm]; exact g.2.1, by rw [upd_ne D4F.symm]; exact g.2.2.1, by rw [upd_ne D4W.symm]; exact g.2.2.2⟩) (fun j _ y => ∃ z, z ∈ bs ∧ y = V.str z) (fun _ _ _ _ _ _ r => r) (fun _ => true) (fun _ _ _ _ _ => trivial) ?_ ?_
      · rintro j x H12 H12' ys k1 k2 hj ⟨st12, hR12, hF12, hW12⟩ s12 hD12 ⟨rfl, rfl⟩ k1' _
        have hB12 : hid (D4 :: Z) H12' B = some (.lst (bs.map V.str)) := s12 _ _ hB11
        refine ⟨rfl, tYesI ⟨_, rfl, _, rfl, S, S0, _, B, bs.map V.str, rfl, st12, by omega, SqL.of (hid_get BS (hid_of hB12).2), by rw [List.length_map]; omega, by rw [List.length_map]; omega, fun v H13 hv st13 sm13 => ?_⟩⟩
        obtain ⟨z, hz, rfl⟩ := strs_of hv
        exact k1' rfl _ H13 (hid_more sm13 fun a ha => List.mem_cons_of_mem _ (by rw [eZ]; exact List.mem_append_right _ ha)) (keep_at sm13 hD12 D4S) ⟨st13.mono (by omega), keep_at sm13 hR12 RS, keep_at sm13 hF12 FS, keep_at sm13 hW12 WS⟩ ⟨z, hz, rfl⟩
      · rintro H12 ys ⟨st12, hR12, hF12, hW12⟩ s12 hD12 pr
        obtain ⟨word, p1, p2⟩ := paired_some (P := fun _ z => z ∈ bs) (E := fun y z => y = V.str z) pr
        have ew := paired_strs p2
        have wlen : word.length = 1 + r4 := by have := paired_len p1; rw [filter_range, List.length_range] at this; omega
        have win : ∀ z ∈ word, z ∈ bs := paired_all (S := fun z => z ∈ bs) (fun _ _ g => g) p1
        rw [ew] at hD12
        have s12' : Same (hid Z H11) (hid Z H12) := fun b o g => hid_tail _ _ (s12 _ _ g)
        have frT := (f11.trans s12')
        have kv12 := kv10.same frT
        have nnew : n ∉ Wd.map (·.1) := by rw [nm10]; exact nd_take ndn hn'
        have kwl : kw.length < sizeLine := by
          rw [kv12.len]
          have : Wd.length ≤ many + i := by have := congrArg List.length nm10; rw [List.length_map, List.length_take] at this; omega
          exact Nat.lt_of_le_of_lt (show Wd.length ≤ 12 by omega) (by decide)
        refine ⟨_, rfl, _, rfl, W, _, rfl, .inl ⟨kw, Sum.inr n, hW12, rfl, kwl, rfl⟩, ?_⟩
        have WZ : W ∈ Z := by rw [eZ]; simp
        have g0 : ∀ o, hid Z (upd H12 W o) = hid Z H12 := fun o => hid_in WZ
        have WSm := WS
        simp at WSm
        have e1 : putA Wd n word = Wd ++ [(n, word)] := putA_new nnew
        refine ⟨⟨_, _, rfl⟩, (st12.put WSm.1 WSm.2).mono (by omega), by rw [g0]; exact s10.trans frT, by rw [upd_ne WR.symm]; exact hR12, by rw [upd_ne WF.symm]; exact hF12, _, putA Wd n word, upd_same, by rw [g0]; exact KvD.put kv12 (.lst (SqL.of (hid_get D4Z hD12)) (dp_strs _)), ?_, fun t ht => ?_, fun b hb => ?_⟩
        · rw [e1, List.map_append, nm10, show many + (i + 1) = many + i + 1 by omega, List.take_succ, hn']
          rfl
        · rw [e1] at ht
          rcases List.mem_append.mp ht with ht | ht
          · exact ok10 t ht
          · rw [List.mem_singleton.mp ht]
            exact ⟨fun e => by rw [show word = [] from e] at wlen; simp at wlen; omega, by show word.length ≤ 3; omega, win⟩
        · rw [e1]
          exact List.mem_append_left _ (self10 b hb)
    · rintro σ H10 ⟨⟨v7, v9, rfl⟩, st10, s10, hR10, hF10, kw, Wd, hW10, kv10, nm10, ok10, self10⟩
      rw [List.length_map, List.length_drop] at st10 nm10
      have nm10 : Wd.map (·.1) = ns := by rw [nm10, show many + (ns.length - many) = ns.length by omega, List.take_length]
      have wdl : Wd.length ≤ 12 := by have := congrArg List.length nm10; rw [List.length_map] at this; omega
      have bin : ∀ b ∈ bs, b ∈ ns := fun b hb => List.mem_of_mem_take (ebs ▸ hb)
      have wd : WdOk Wd bs := ⟨by rw [nm10]; exact ndn, wdl, fun t ht => n12 _ (by rw [← nm10]; exact List.mem_map.mpr ⟨t, ht, rfl⟩), self10, ok10, fun b hb => n12 b (bin b hb)⟩
      obtain ⟨M, eM⟩ : ∃ M, M = [dF, dR] ++ [S, S0] := ⟨_, rfl⟩
      have subM : ∀ a ∈ M, a ∈ Z := fun a ha => by rw [eZ]; rw [eM] at ha; exact List.mem_cons_of_mem _ ha
      have kv11 : KvD K (hid M H10) encW Wd kw := kv10.same (hid_sub subM)
      have fr11 : Same (hid [S, S0] H) (hid M H10) := (fr9.trans s10).trans (hid_sub subM)
      have hB11 : hid M H10 B = some (.lst (bs.map V.str)) := hid_sub subM _ _ (s10 _ _ hBZ)
      have hp11 : hid M H10 p0 = some (.lst (ns.map V.str)) := hid_sub subM _ _ (s10 _ _ hpZ)
      have hW11 : hid M H10 W = some (.dK kw) := hid_get (by rw [eM]; simp; simp at WS; exact ⟨WFne, WR, WS⟩) hW10
      have drawM : ∀ {A B : Hp}, Same (hid [S, S0] A) (hid [S, S0] B) → Same (hid M A) (hid M B) := fun g => hid_more g fun a ha => by rw [eM]; exact List.mem_append_right _ ha
      have MS : ∀ Y : Hp, Same (hid M Y) (hid [S, S0] Y) := fun Y => hid_sub fun a ha => by rw [eM]; exact List.mem_append_right _ ha
      obtain ⟨c1, ec1⟩ : ∃ c1, c1 = c + 20 + 5 * (ns.length - many) := ⟨_, rfl⟩
      have c1le : c1 ≤ c + 80 := by omega
      rw [← ec1] at st10
      clear kv10 s10 kv9 fr9 hL9 hR9 hF9 hW9 hp9 hB9 X9 hBZ hpZ drawZ ZS kv8 fr8 X8 hp8 hB8 hR8 hF8 hW8 s9 LZ subM

      refine ⟨_, rfl, S, S0, _, 2, rfl, st10, by omega, by decide, by decide, fun r5 H11 r50 r51 st11 sm11 => ⟨rfl, (by show 0 ≤ sizeLine; decide), fun m0 nm0 => ⟨_, _, rfl, ?_⟩⟩⟩
      dsimp only
      -- the base's rules
      have s12 := same_new (o := .lst []) nm0
      have f11 := drawM sm11
      have st12 : Stm S S0 (c1 + 1) (upd H11 m0 (.lst [])) := st11.new nm0
      have hR11 := keep_at sm11 hR10 RS
      have hF11 := keep_at sm11 hF10 FS
      have hB12 := sHid (M := M) s12 _ _ (f11 _ _ hB11)
      have hp12 := sHid (M := M) s12 _ _ (f11 _ _ hp11)
      have hW12 := sHid (M := M) s12 _ _ (f11 _ _ hW11)
      have hR12 := s12 _ _ hR11
      have hF12 := s12 _ _ hF11
      have kv12 := (kv11.same f11).same (sHid s12)
      have fr12 := (fr11.trans f11).trans (sHid (M := M) s12)
      have notM : ∀ {x : Addr} {Y : Hp} {c' : Nat} {o u : HO}, Y x = none → Stm S S0 c' Y → Y dF = some o → Y dR = some u → x ∉ M := fun n1 n2 n3 n4 zz => by
        have g := n2.S_ne n1
        rw [eM] at zz
        simp at zz
        rcases zz with e | e | e | e
        · rw [e, n3] at n1; cases n1
        · rw [e, n4] at n1; cases n1
        · exact g.1 e
        · exact g.2 e
      have m0M := notM nm0 st11 hF11 hR11
      have hm12 : hid M (upd H11 m0 (.lst [])) m0 = some (.lst []) := hid_get m0M upd_same
      obtain ⟨isr, eisr⟩ : ∃ isr : Bool, isr = decide (V.int r5 = V.int 0) := ⟨_, rfl⟩
      rw [← eisr]
      generalize upd H11 m0 (.lst []) = H12 at st12 hB12 hp12 hW12 hR12 hF12 kv12 fr12 hm12 ⊢
      have dRM : dR ∈ M := by rw [eM]; simp
      have dFM : dF ∈ M := by rw [eM]; simp
      have RFne : dR ≠ dF := RF
      have bok : ∀ x ∈ bs, sOk x := fun x hx => (name_ok (names12_ok _ (wd.b12 x hx)).1).1
      clear s12 f11 hB11 hp11 hW11 hR11 hF11 kv11 fr11 m0M nm0 hR10 hF10 st11 st10 hW10 sm11
      refine ⟨_, rfl, iEnumA_ofM M (.inl (SqL.of hB12)) fun J Gd wk hG => ?_⟩
      refine for_it wk (fun i σ Y => ∃ v7 v9 v12 v13 m, σ = [some (.ref S), some (.int 7), some (.int (many : Nat)), some (.ref p0), some (.ref B), some (.ref dR), some (.ref dF), v7, some (.ref W), v9, some (.bl isr), some (.ref m), v12, v13, none, none, none, none, none] ∧ BI K M S S0 dF dR bs H12 isr i (c1 + 1 + 20 * i) m Y)
        ⟨_, _, _, _, m0, rfl, st12, Same.refl _, hF12, ⟨[], [], hR12, kvD_nil, rfl, fun _ z => by cases z⟩, ⟨[], [], hm12, .nil, (fun _ z => by cases z), fun _ => ⟨by decide, fun _ => rfl⟩⟩⟩ (fun i σ Y _ ⟨_, _, _, _, _, _, b⟩ => hG Y b.fr) ?_ ?_
      · rintro i x σ Y0 Y0' hi ⟨v7, v9, v12, v13, m, rfl, bi⟩ ⟨Tq, _, y, rfl, nT, rfl, e1, hy⟩
        have e1' := (Option.some.inj e1).symm
        subst e1'
        obtain ⟨n, rfl, hn, hnm⟩ := strs_at hy
        rw [List.length_map] at hi
        have hi4 : i < 4 := by omega
        refine ⟨Tq, _, rfl, SqT.of upd_same, rfl, _, _, rfl, _, _, rfl, rfl, ?_⟩
        obtain ⟨st0, s0, hF0, ⟨rk, Rb, hR0, kR0, nmR, okR⟩, ⟨mv, mr, hm0, dm0, okm, mlen⟩⟩ := bi
        have sT := same_new (o := .tup [.int (i : Nat), .str n]) nT
        have st1 := st0.same sT
        have s1 := s0.trans (sHid sT)
        have hF1 := sT _ _ hF0
        have hR1 := sT _ _ hR0
        have kR1 := kR0.same (sHid sT)
        have hm1 := sHid sT _ _ hm0
        have dm1 := sDpAll (sHid sT) _ _ dm0
        generalize upd Y0 Tq (.tup [.int (i : Nat), .str n]) = Y1 at st1 s1 hF1 hR1 kR1 hm1 dm1 ⊢
        clear sT nT hm0 dm0 kR0 hR0 hF0 st0 s0
        refine ⟨(by show 4 ≤ sizeLine; decide), fun L4 nL4 => ?_⟩
        have s2 := same_new (o := .lst (ends4.map V.str)) nL4
        refine tif_x (fun v Y => ∃ k : Nat, v = .int k ∧ k < 4 ∧ Y = upd Y1 L4 (.lst (ends4.map V.str))) ?_ ?_
        · rintro v Y ⟨k, rfl, hk, rfl⟩
          obtain ⟨lt, hlt, ltp⟩ := ends4_at hk
          refine ⟨L4, _, (k : Int), _, rfl, rfl, SqL.of upd_same, atI_nat hlt, (by show 0 ≤ sizeLine; decide), fun e0 ne0 => ⟨(by show 2 ≤ sizeLine; decide), fun t nt => ⟨(by show 1 ≤ sizeLine; decide), fun r nr => ?_⟩⟩⟩
          have s3 := same_new (o := .lst []) ne0
          have s4 := same_new (o := .tup [.str lt, .ref e0]) nt
          have s5 := same_new (o := .lst [.ref t]) nr
          have sA := (s2.trans s3).trans s4
          have e0M := notM ne0 (st1.same s2) (s2 _ _ hF1) (s2 _ _ hR1)
          have tM := notM nt (st1.same (s2.trans s3)) (s3 _ _ (s2 _ _ hF1)) (s3 _ _ (s2 _ _ hR1))
          have rM := notM nr (st1.same sA) (sA _ _ hF1) (sA _ _ hR1)
          have rS : r ∉ [S, S0] := fun z => rM (by rw [eM]; exact List.mem_append_right _ z)
          have rF : r ≠ dF := fun z => rM (z ▸ dFM)
          have rR : r ≠ dR := fun z => rM (z ▸ dRM)
          have kl : rk.length < sizeLine := by
            rw [kR1.len]
            have := congrArg List.length nmR
            rw [List.length_map, List.length_take] at this
            exact Nat.lt_of_le_of_lt (show Rb.length ≤ 4 by omega) (by decide)
          refine ⟨_, rfl, _, rfl, dR, _, rfl, .inl ⟨rk, Sum.inr n, s5 _ _ (sA _ _ hR1), rfl, kl, rfl⟩, ?_⟩
          dsimp only
          have push : Same (hid M (upd (upd (upd Y1 L4 (.lst (ends4.map V.str))) e0 (.lst [])) t (.tup [.str lt, .ref e0]))) (hid (r :: M) (upd (upd (upd (upd Y1 L4 (.lst (ends4.map V.str))) e0 (.lst [])) t (.tup [.str lt, .ref e0])) r (.lst [.ref t]))) := hid_push nr
          have dT : Dp K (hid M (upd (upd (upd Y1 L4 (.lst (ends4.map V.str))) e0 (.lst [])) t (.tup [.str lt, .ref e0]))) (.ref t) (encL (lt, [])) := dpL_of (b := e0) (SqT.of (hid_get tM upd_same)) (SqL.of (hid_get e0M (s4 _ _ upd_same)))
          have RSm := RS
          simp at RSm
          have st6 : Stm S S0 (c1 + 1 + 20 * i) (upd (upd (upd (upd (upd Y1 L4 (.lst (ends4.map V.str))) e0 (.lst [])) t (.tup [.str lt, .ref e0])) r (.lst [.ref t])) dR (.dK (putK rk (Sum.inr n) (.ref r)))) := (st1.same (sA.trans s5)).put RSm.1 RSm.2
          have g6 : hid (r :: M) (upd (upd (upd (upd (upd Y1 L4 (.lst (ends4.map V.str))) e0 (.lst [])) t (.tup [.str lt, .ref e0])) r (.lst [.ref t])) dR (.dK (putK rk (Sum.inr n) (.ref r)))) = hid (r :: M) (upd (upd (upd (upd Y1 L4 (.lst (ends4.map V.str))) e0 (.lst [])) t (.tup [.str lt, .ref e0])) r (.lst [.ref t])) := hid_in (List.mem_cons_of_mem _ dRM)
          have up6 := (sHid (M := M) sA).trans (g6 ▸ push)
          have d6 := sDp (g6 ▸ push) _ _ dT
          have hF6 : upd (upd (upd (upd (upd Y1 L4 (.lst (ends4.map V.str))) e0 (.lst [])) t (.tup [.str lt, .ref e0])) r (.lst [.ref t])) dR (.dK (putK rk (Sum.inr n) (.ref r))) dF = some (.dK []) := by rw [upd_ne RFne.symm]; exact s5 _ _ (sA _ _ hF1)
          have hr6 : upd (upd (upd (upd (upd Y1 L4 (.lst (ends4.map V.str))) e0 (.lst [])) t (.tup [.str lt, .ref e0])) r (.lst [.ref t])) dR (.dK (putK rk (Sum.inr n) (.ref r))) r = some (.lst [.ref t]) := by rw [upd_ne rR]; exact upd_same
          have hR6 : upd (upd (upd (upd (upd Y1 L4 (.lst (ends4.map V.str))) e0 (.lst [])) t (.tup [.str lt, .ref e0])) r (.lst [.ref t])) dR (.dK (putK rk (Sum.inr n) (.ref r))) dR = some (.dK (putK rk (Sum.inr n) (.ref r))) := upd_same
          clear push dT g6 s3 s4 s5 sA e0M tM ne0 nt nr hlt
          generalize upd (upd (upd (upd (upd Y1 L4 (.lst (ends4.map V.str))) e0 (.lst [])) t (.tup [.str lt, .ref e0])) r (.lst [.ref t])) dR (.dK (putK rk (Sum.inr n) (.ref r))) = Y6 at st6 up6 d6 hF6 hr6 hR6 ⊢
          have fr6 := s1.trans up6
          have kR6 := kR1.same up6
          have hm6 := up6 _ _ hm1
          have dm6 := sDpAll up6 _ _ dm1
          have hB6 := up6 _ _ (s1 _ _ hB12)
          have ci6 : CI K M S S0 dF dR r Y6 (putK rk (Sum.inr n) (.ref r)) bs 1 (c1 + 1 + 20 * i) Y6 := ⟨st6, Same.refl _, hF6, hR6, [.ref t], [(lt, [])], hr6, .cons d6 .nil, ⟨lt, [], rfl⟩, Nat.le_refl _, fun q hq => by rw [List.mem_singleton.mp hq]; exact ⟨ltp, by show 0 ≤ 2; decide, fun _ z => by cases z⟩⟩
          have vd : valV (putK rk (Sum.inr n) (V.ref r)) (Sum.inr n) = some (.ref r) := by rw [valV_put, if_pos rfl]
          clear hm1 dm1 kR1 hR1 hF1 s1 st1 st6 up6 d6 hF6 hR6 hr6 s2 nL4
          refine if_x (fun σ Y => σ = [some (.ref S), some (.int 7), some (.int (many : Nat)), some (.ref p0), some (.ref B), some (.ref dR), some (.ref dF), some (.str n), some (.ref W), v9, some (.bl isr), some (.ref m), some (.int (i : Nat)), v13, none, none, none, none, none] ∧ CI K M S S0 dF dR r Y6 (putK rk (Sum.inr n) (.ref r)) bs (if isr = true then 2 else 1) (c1 + 1 + 20 * i) Y) ?_ ?_
          · rintro σ Y ⟨rfl, ci7⟩
            dsimp only
            refine tif_x (fun v Y => ∃ kk : Nat, v = .int kk ∧ kk ≤ 2 ∧ (isr = true → 0 < i → kk = 0) ∧ CI K M S S0 dF dR r Y6 (putK rk (Sum.inr n) (.ref r)) bs (if isr = true then 2 else 1) (c1 + 1 + 20 * i + 1) Y ∧ Same (hid (r :: M) Y6) (hid (r :: M) Y)) ?_ ?_
            · rintro v Y8 ⟨kk, rfl, kk2, kk0, ci8, s8⟩
              have hm8 := s8 _ _ hm6
              have dm8 := sDpAll s8 _ _ dm6
              refine ⟨(kk : Int), rfl, by omega, by omega, ?_⟩
              refine for_it walk_range (fun j σ Y => ∃ v9 v13 m mv mr, σ = [some (.ref S), some (.int 7), some (.int (many : Nat)), some (.ref p0), some (.ref B), some (.ref dR), some (.ref dF), some (.str n), some (.ref W), v9, some (.bl isr), some (.ref m), some (.int (i : Nat)), v13, none, none, none, none, none] ∧ CI K M S S0 dF dR r Y6 (putK rk (Sum.inr n) (.ref r)) bs (if isr = true then 2 else 1 + j) (c1 + 1 + 20 * i + 2 + 5 * j) Y ∧ Same (hid (r :: M) Y6) (hid (r :: M) Y) ∧ hid (r :: M) Y m = some (.lst mv) ∧ DpAll K (hid (r :: M) Y) mv (mr.map encL) ∧ (∀ q ∈ mr, RO bs q) ∧ (isr = true → mr.length ≤ 2 ∧ (i = 0 → mr.length ≤ j)))
                ⟨_, _, m, mv, mr, rfl, ci8.mono (by split <;> omega) (by omega), s8, hm8, dm8, okm, fun e => ⟨(mlen e).1, fun e2 => by rw [(mlen e).2 e2]; exact Nat.le_refl _⟩⟩ (fun _ _ _ _ _ => trivial) ?_ ?_
              · rintro j x σ Y9 Y9' hj ⟨v9, v13, m, mv, mr, rfl, ci9, s9, hm9, dm9, okm9, ml9⟩ ⟨rfl, rfl⟩
                have hj2 : j < 2 := by omega
                -- some
                refine ⟨_, rfl, S, S0, _, 3, rfl, ci9.st, by omega, by decide, by decide, fun r4 H13 r40 r41 st13 sm13 => ⟨r4, rfl, by omega, by omega, fun D3 nD3 => ?_⟩⟩
                have ci13 := ci9.draw eM FS RS rS st13 sm13
                obtain ⟨ys13, rs13, gr13, gd13, gx13⟩ := ci13.ex
                have s13 : Same (hid (r :: M) Y6) (hid (r :: M) H13) := ci13.fr
                have f13 : Same (hid (r :: M) Y9') (hid (r :: M) H13) := hid_more sm13 fun a ha => List.mem_cons_of_mem _ (by rw [eM]; exact List.mem_append_right _ ha)
                have hm13 := f13 _ _ hm9
                have dm13 := sDpAll f13 _ _ dm9
                have hB13 := s13 _ _ hB6
                have D3M := notM nD3 ci13.st ci13.hF ci13.hR
                have D3r : D3 ≠ r := (ne_of_none gr13 nD3).symm
                have D3F : D3 ≠ dF := (ne_of_none ci13.hF nD3).symm
                have D3R : D3 ≠ dR := (ne_of_none ci13.hR nD3).symm
                have D3Z : D3 ∉ r :: M := fun z => (List.mem_cons.mp z).elim D3r D3M
                have D3S : D3 ∉ [S, S0] := fun z => D3M (by rw [eM]; exact List.mem_append_right _ z)
                have sD3 := ci13.st.S_ne nD3
                refine lc_g walk_range (r :: M) nD3 (by omega) (fun g Y => Stm S S0 (c1 + 1 + 20 * i + 2 + 5 * j + 1 + g) Y ∧ Y dF = some (.dK []) ∧ Y dR = some (.dK (putK rk (Sum.inr n) (.ref r))) ∧ Y r = some (.lst ys13))
                  ⟨ci13.st.new nD3, by rw [upd_ne D3F.symm]; exact ci13.hF, by rw [upd_ne D3R.symm]; exact ci13.hR, by rw [upd_ne D3r.symm]; exact gr13⟩
                  (fun g Y o us hD b => ⟨b.1.put sD3.1 sD3.2, by rw [upd_ne D3F.symm]; exact b.2.1, by rw [upd_ne D3R.symm]; exact b.2.2.1, by rw [upd_ne D3r.symm]; exact b.2.2.2⟩) (fun g _ y => ∃ z, z ∈ bs ∧ y = V.str z) (fun _ _ _ _ _ _ b => b) (fun _ => true) (fun _ _ _ _ _ => trivial) ?_ ?_
                · rintro g x H14 H14' us k1 k2 hg ⟨st14, hF14, hR14, hr14⟩ s14 hD14 ⟨rfl, rfl⟩ k1' _
                  have hB14 := s14 _ _ hB13
                  refine ⟨rfl, tYesI ⟨_, rfl, _, rfl, S, S0, _, B, bs.map V.str, rfl, st14, by omega, SqL.of (hid_get BS (hid_of hB14).2), by rw [List.length_map]; omega, by rw [List.length_map]; omega, fun v H15 hv st15 sm15 => ?_⟩⟩
                  obtain ⟨z, hz, rfl⟩ := strs_of hv
                  exact k1' rfl _ H15 (hid_more sm15 fun a ha => List.mem_cons_of_mem _ (List.mem_cons_of_mem _ (by rw [eM]; exact List.mem_append_right _ ha))) (keep_at sm15 hD14 D3S) ⟨st15.mono (by omega), keep_at sm15 hF14 FS, keep_at sm15 hR14 RS, keep_at sm15 hr14 rS⟩ ⟨z, hz, rfl⟩
                · rintro H14 us ⟨st14, hF14, hR14, hr14⟩ s14 hD14 pr
                  obtain ⟨row, p1, p2⟩ := paired_some (P := fun _ z => z ∈ bs) (E := fun y z => y = V.str z) pr
                  have erow := paired_strs p2
                  have rowlen : row.length ≤ 2 := by have := paired_len p1; rw [filter_range, List.length_range] at this; omega
                  have rowin : ∀ z ∈ row, z ∈ bs := paired_all (S := fun z => z ∈ bs) (fun _ _ b => b) p1
                  rw [erow] at hD14
                  have s14' : Same (hid (r :: M) H13) (hid (r :: M) H14) := fun b o g => hid_tail _ _ (s14 _ _ g)
                  have ci14 : CI K M S S0 dF dR r Y6 (putK rk (Sum.inr n) (.ref r)) bs (if isr = true then 2 else 1 + j) (c1 + 1 + 20 * i + 2 + 5 * j + 3) H14 := ci13.step (st14.mono (by omega)) s14' hF14 hR14 fun ys g => by rw [gr13] at g; cases g; exact hr14
                  have hm14 := s14' _ _ hm13
                  have dm14 := sDpAll s14' _ _ dm13
                  have hD14' : hid (r :: M) H14 D3 = some (.lst (row.map V.str)) := hid_get D3Z hD14
                  clear s14 pr p1 p2 erow hm13 dm13 hm9 dm9 st14 hF14 hR14 hr14 hD14
                  dsimp only
                  -- more
                  have fr13 : Same (hid (r :: M) H13) (hid (r :: M) H14) := s14'
                  refine gname_x (seq_op (tif_x (fun v Y => ∃ (a : Addr) (av : List V) (ar : List Rule), v = .ref a ∧ Same H14 Y ∧ hid (r :: M) Y a = some (.lst av) ∧ DpAll K (hid (r :: M) Y) av (ar.map encL) ∧ (∀ q ∈ ar, RO bs q) ∧ (isr = true → ar.length ≤ j) ∧ (isr = false → ar = [])) ?_ ?_))
                  · rintro v Y14 ⟨a, av, ar, rfl, sY, ha, da, oa, la, la2⟩
                    have ci15 := ci14.pure sY
                    have hD15 := sHid sY _ _ hD14'
                    have hB15 := sHid sY _ _ (s14' _ _ hB13)
                    refine ⟨_, rfl, (by show 2 ≤ sizeLine; decide), fun l2 nl2 => ?_⟩
                    have sl2 := same_new (o := .lst [.str "c", .str "!c"]) nl2
                    have ci16 := ci15.pure sl2
                    have l2M := notM nl2 ci15.st ci15.hF ci15.hR
                    have l2S : l2 ∉ [S, S0] := fun z => l2M (by rw [eM]; exact List.mem_append_right _ z)
                    refine ⟨S, S0, _, l2, [.str "c", .str "!c"], rfl, ci16.st, by omega, SqL.of (hid_get l2S upd_same), by decide, by decide, fun v H17 hv st17 sm17 => ?_⟩
                    obtain ⟨cl, rfl, hcl⟩ : ∃ cl, v = V.str cl ∧ cl ∈ plain8 := by
                      rcases List.mem_cons.mp hv with e | hv
                      · exact ⟨_, e, by decide⟩
                      · exact ⟨_, List.mem_singleton.mp hv, by decide⟩
                    have ci17 := ci16.draw eM FS RS rS st17 sm17
                    have f17 : Same (hid (r :: M) Y14) (hid (r :: M) H17) := (sHid sl2).trans (hid_more sm17 fun a ha => List.mem_cons_of_mem _ (by rw [eM]; exact List.mem_append_right _ ha))
                    have ha17 := f17 _ _ ha
                    have da17 := sDpAll f17 _ _ da
                    have hD17 := f17 _ _ hD15
                    obtain ⟨ys17, rs17, gr17, gd17, gx17⟩ := ci17.ex
                    refine ⟨_, rfl, (by show 2 ≤ sizeLine; decide), fun t2 nt2 => ⟨(by show 1 ≤ sizeLine; decide), fun u2 nu2 => ?_⟩⟩
                    have s18 := same_new (o := .tup [.str cl, .ref D3]) nt2
                    have s19 := same_new (o := .lst [.ref t2]) nu2
                    have ci18 := ci17.pure s18
                    have ci19 := ci18.pure s19
                    have notr : ∀ {x : Addr} {Y : Hp} {b c : Nat}, Y x = none → CI K M S S0 dF dR r Y6 (putK rk (Sum.inr n) (.ref r)) bs b c Y → x ∉ r :: M := fun n1 ci z => by
                      obtain ⟨_, _, g, _⟩ := ci.ex
                      exact (List.mem_cons.mp z).elim (ne_of_none g n1).symm (notM n1 ci.st ci.hF ci.hR)
                    have t2M := notr nt2 ci17
                    have u2M := notr nu2 ci18
                    have dt2 : Dp K (hid (r :: M) (upd (upd H17 t2 (.tup [.str cl, .ref D3])) u2 (.lst [.ref t2]))) (.ref t2) (encL (cl, row)) := dpL_of (b := D3) (SqT.of (hid_get t2M (s19 _ _ upd_same))) (SqL.of (sHid (s18.trans s19) _ _ hD17))
                    have ha19 := sHid (M := r :: M) (s18.trans s19) _ _ ha17
                    have da19 := sDpAll (sHid (M := r :: M) (s18.trans s19)) _ _ da17
                    have avl : av.length = ar.length := dpAll_len da
                    have arl : ar.length ≤ 2 := by
                      cases e : isr with
                      | true => have := la e; omega
                      | false => rw [la2 e]; decide
                    have hu19 : upd (upd H17 t2 (.tup [.str cl, .ref D3])) u2 (.lst [.ref t2]) u2 = some (.lst [.ref t2]) := upd_same
                    generalize upd (upd H17 t2 (.tup [.str cl, .ref D3])) u2 (.lst [.ref t2]) = H19 at s19 ci19 dt2 ha19 da19 hu19 ⊢
                    refine ⟨a, u2, av, [.ref t2], rfl, rfl, SqL.of (hid_of ha19).2, SqL.of hu19, Nat.le_trans (show av.length + 1 ≤ 3 by omega) (by decide), fun m2 nm2 => ?_⟩
                    have s20 := same_new (o := .lst (av ++ [.ref t2])) nm2
                    have ci20 := ci19.pure s20
                    have m2M := notr nm2 ci19
                    have hm20 : hid (r :: M) (upd H19 m2 (.lst (av ++ [.ref t2]))) m2 = some (.lst (av ++ [.ref t2])) := hid_get m2M upd_same
                    have dm20 : DpAll K (hid (r :: M) (upd H19 m2 (.lst (av ++ [.ref t2])))) (av ++ [.ref t2]) ((ar ++ [(cl, row)]).map encL) := by
                      rw [List.map_append]
                      exact DpAll.app (sDpAll (sHid s20) _ _ da19) (DpAll.one (sDp (sHid s20) _ _ dt2))
                    have om20 : ∀ q ∈ ar ++ [(cl, row)], RO bs q := fun q hq => by
                      rcases List.mem_append.mp hq with hq | hq
                      · exact oa q hq
                      · rw [List.mem_singleton.mp hq]; exact ⟨hcl, rowlen, rowin⟩
                    have lm20 : (ar ++ [(cl, row)]).length = ar.length + 1 := by rw [List.length_append]; rfl
                    generalize upd H19 m2 (.lst (av ++ [.ref t2])) = H20 at ci20 hm20 dm20 ⊢
                    obtain ⟨mv2, emv⟩ : ∃ mv2, mv2 = av ++ [V.ref t2] := ⟨_, rfl⟩
                    obtain ⟨mr2, emr⟩ : ∃ mr2, mr2 = ar ++ [(cl, row)] := ⟨_, rfl⟩
                    rw [← emv] at hm20 dm20
                    rw [← emr] at dm20 om20 lm20
                    obtain ⟨ys20, rs20, gr20, gd20, gx20⟩ := ci20.ex
                    dsimp only
                    refine gname_x ?_
                    refine ⟨_, rfl, _, rfl, dR, _, rfl, .inl ⟨_, Sum.inr n, .inl ci20.hR, rfl, vd.symm⟩, .inl ⟨rfl, _, SqL.of gr20⟩, ?_⟩
                    refine tif_x (fun v Y => ∃ (b : Addr) (zs : List V) (zr : List Rule), v = .ref b ∧ Same H20 Y ∧ Y b = some (.lst zs) ∧ DpAll K (hid (r :: M) Y) zs (zr.map encL) ∧ (∀ q ∈ zr, RO bs q) ∧ zr.length ≤ if isr = true then 0 else 1) ?_ ?_
                    · rintro v Y ⟨b, zs, zr, rfl, sY, hb, dz, oz, lz⟩
                      have ci21 := ci20.pure sY
                      have yl := ci20.len gr20
                      have zl : zs.length = zr.length := dpAll_len dz
                      refine ⟨r, b, ys20, zs, rfl, rfl, sY _ _ gr20, hb, Nat.le_trans (show ys20.length + zs.length ≤ 10 by split at lz <;> split at yl <;> omega) (by decide), ?_⟩
                      have ci22 := ci21.more rF rR rS (sY _ _ gr20) dz oz
                      have sYr : hid (r :: M) (upd Y r (.lst (ys20 ++ zs))) = hid (r :: M) Y := hid_in List.mem_cons_self
                      have bd : (if isr = true then 2 else 1 + j) + zr.length ≤ if isr = true then 2 else 1 + (j + 1) := by
                        have z2 : ∀ (b : Bool) (L : Nat), L ≤ (if b = true then 0 else 1) → (if b = true then 2 else 1 + j) + L ≤ if b = true then 2 else 1 + (j + 1) := by intro b L h; cases b <;> simp at h ⊢ <;> omega
                        exact z2 isr _ lz
                      refine ⟨_, _, m2, mv2, mr2, rfl, ci22.mono bd (by omega), ci22.fr, by rw [sYr]; exact sHid sY _ _ hm20, by rw [sYr]; exact sDpAll (sHid sY) _ _ dm20, om20, fun e => ?_⟩
                      have := la e
                      exact ⟨by omega, fun _ => by omega⟩
                    · intro fin
                      refine ⟨_, rfl, isr, rfl, ?_⟩
                      cases isr with
                      | true => exact iteT ⟨(by show 0 ≤ sizeLine; decide), fun u nu => fin _ _ ⟨u, [], [], rfl, same_new nu, upd_same, .nil, (fun _ z => by cases z), Nat.le_refl _⟩⟩
                      | false => exact iteF ⟨_, rfl, fin _ _ ⟨m2, mv2, mr2, rfl, Same.refl _, (hid_of hm20).2, dm20, om20, by rw [lm20, la2 rfl]; exact Nat.le_refl _⟩⟩
                  · intro fin
                    refine ⟨_, rfl, isr, rfl, ?_⟩
                    cases isr with
                    | true =>
                      have i0 : i = 0 := Nat.eq_zero_of_not_pos fun z => by have := kk0 rfl z; omega
                      exact iteT ⟨_, rfl, fin _ _ ⟨m, mv, mr, rfl, Same.refl _, hm14, dm14, okm9, fun _ => (ml9 rfl).2 i0, fun z => by cases z⟩⟩
                    | false => exact iteF ⟨(by show 0 ≤ sizeLine; decide), fun u nu => fin _ _ ⟨u, [], [], rfl, same_new nu, hid_get (fun z => (List.mem_cons.mp z).elim (by
                        obtain ⟨_, _, g, _⟩ := ci14.ex
                        exact (ne_of_none g nu).symm) (notM nu ci14.st ci14.hF ci14.hR)) upd_same, .nil, (fun _ z => by cases z), (fun z => by cases z), fun _ => rfl⟩⟩
              · rintro σ Y9 ⟨v9, v13, m, mv, mr, rfl, ci9, s9, hm9, dm9, okm9, ml9⟩
                have kkn : (kk : Int).toNat = kk := by omega
                rw [kkn] at ci9
                obtain ⟨ys9, rs9, gr9, gd9, gx9⟩ := ci9.ex
                refine ⟨_, rfl, _, rfl, dR, _, rfl, .inl ⟨_, Sum.inr n, .inl ci9.hR, rfl, vd.symm⟩, .inl ⟨rfl, _, SqL.of gr9⟩, ?_⟩
                refine tif_x (fun v Y => ∃ (b : Addr) (zs : List V) (zr : List Rule), v = .ref b ∧ Same Y9 Y ∧ Y b = some (.lst zs) ∧ DpAll K (hid (r :: M) Y) zs (zr.map encL) ∧ (∀ q ∈ zr, RO bs q) ∧ zr.length ≤ if isr = true then 2 else 0) ?_ ?_
                · rintro v Y ⟨b, zs, zr, rfl, sY, hb, dz, oz, lz⟩
                  have ci10 := ci9.pure sY
                  have yl := ci9.len gr9
                  have zl : zs.length = zr.length := dpAll_len dz
                  refine ⟨r, b, ys9, zs, rfl, rfl, sY _ _ gr9, hb, Nat.le_trans (show ys9.length + zs.length ≤ 10 by split at lz <;> split at yl <;> omega) (by decide), ?_⟩
                  have ci11 := ci10.more rF rR rS (sY _ _ gr9) dz oz
                  have sYr : hid (r :: M) (upd Y r (.lst (ys9 ++ zs))) = hid (r :: M) Y := hid_in List.mem_cons_self
                  generalize upd Y r (.lst (ys9 ++ zs)) = Y11 at ci11 sYr ⊢
                  obtain ⟨ys11, rs11, gr11, gd11, gf11, gl11, go11⟩ := ci11.ex
                  have s11 : Same (hid (r :: M) Y6) (hid (r :: M) Y11) := ci11.fr
                  have nnew : n ∉ Rb.map (·.1) := by rw [nmR]; exact nd_take bnd hn
                  refine ⟨_, _, _, _, m, rfl, ci11.st.mono (by omega), (fr6.trans s11).trans hid_tail, ci11.hF, ⟨_, putA Rb n rs11, ci11.hR, KvD.put ((kR6.same s11).same hid_tail) (.lst (SqL.of (hid_get rM gr11)) (sDpAll hid_tail _ _ gd11)), ?_, fun t ht => ?_⟩, ⟨mv, mr, ?_, ?_, okm9, fun e => ⟨(ml9 e).1, fun z => by omega⟩⟩⟩
                  · rw [putA_new nnew, List.map_append, nmR, List.take_succ, hn]
                    rfl
                  · rw [putA_new nnew] at ht
                    rcases List.mem_append.mp ht with ht | ht
                    · exact okR t ht
                    · rw [List.mem_singleton.mp ht]
                      exact ⟨gf11, Nat.le_trans gl11 (by
                        have z2 : ∀ (b : Bool) (L : Nat), L ≤ (if b = true then 2 else 0) → (if b = true then 2 else 1 + kk) + L ≤ 4 := by intro b L h; cases b <;> simp at h ⊢ <;> omega
                        exact z2 isr _ lz), go11⟩
                  · exact hid_tail _ _ (by rw [sYr]; exact sHid sY _ _ hm9)
                  · exact sDpAll hid_tail _ _ (by rw [sYr]; exact sDpAll (sHid sY) _ _ dm9)
                · intro fin
                  refine ⟨_, rfl, isr, rfl, ?_⟩
                  cases isr with
                  | true => exact iteT ⟨_, rfl, fin _ _ ⟨m, mv, mr, rfl, Same.refl _, (hid_of hm9).2, dm9, okm9, (ml9 rfl).1⟩⟩
                  | false => exact iteF ⟨(by show 0 ≤ sizeLine; decide), fun u nu => fin _ _ ⟨u, [], [], rfl, same_new nu, upd_same, .nil, (fun _ z => by cases z), Nat.le_refl _⟩⟩
            · intro fin
              have dr : ∀ (r6 : Int) (H13 : Hp), 0 ≤ r6 → r6 < 3 → Stm S S0 (c1 + 1 + 20 * i + 1) H13 → Same (hid [S, S0] Y) (hid [S, S0] H13) → ∃ kk : Nat, V.int r6 = .int kk ∧ kk ≤ 2 ∧ CI K M S S0 dF dR r Y6 (putK rk (Sum.inr n) (.ref r)) bs (if isr = true then 2 else 1) (c1 + 1 + 20 * i + 1) H13 ∧ Same (hid (r :: M) Y6) (hid (r :: M) H13) := fun r6 H13 r60 r61 st13 sm13 => by
                obtain ⟨r6, rfl⟩ : ∃ r' : Nat, r6 = r' := ⟨r6.toNat, by omega⟩
                have ci13 := ci7.draw eM FS RS rS st13 sm13
                exact ⟨r6, rfl, by omega, ci13, ci13.fr⟩
              refine ⟨_, rfl, rfl, _, rfl, ?_⟩
              by_cases i0 : i = 0
              · refine iteT' (by rw [i0]; rfl) (iteT ⟨_, rfl, S, S0, _, 3, rfl, ci7.st, by omega, by decide, by decide, fun r6 H13 r60 r61 st13 sm13 => ?_⟩)
                obtain ⟨kk, e6, k6, ci13, f13⟩ := dr r6 H13 r60 r61 st13 sm13
                exact fin _ _ ⟨kk, e6, k6, (fun _ z => by omega), ci13, f13⟩
              · refine iteF' (decide_eq_false (by intro e; injection e with e; omega)) ⟨_, rfl, isr, rfl, ?_⟩
                cases isr with
                | true => exact iteF (fin _ _ ⟨0, rfl, by decide, fun _ _ => rfl, ci7.mono (Nat.le_refl _) (by omega), ci7.fr⟩)
                | false =>
                  refine iteT' rfl ?_
                  refine ⟨_, rfl, S, S0, _, 3, rfl, ci7.st, by omega, by decide, by decide, fun r6 H13 r60 r61 st13 sm13 => ?_⟩
                  obtain ⟨kk, e6, k6, ci13, f13⟩ := dr r6 H13 r60 r61 st13 sm13
                  exact fin _ _ ⟨kk, e6, k6, (fun z => by cases z), ci13, f13⟩
          · intro fin
            refine ⟨_, rfl, isr, rfl, ?_⟩
            cases isr with
            | false => exact iteF (fin _ _ ⟨rfl, ci6⟩)
            | true =>
              obtain ⟨ys6, rs6, gr6, gd6, gx6⟩ := ci6.ex
              refine iteT ⟨_, rfl, _, rfl, dR, _, rfl, .inl ⟨_, Sum.inr n, .inl ci6.hR, rfl, vd.symm⟩, .inl ⟨rfl, _, SqL.of gr6⟩, ?_⟩
              refine tif_x (fun v Y => ∃ (t2 : Addr) (q : Rule), v = .ref t2 ∧ Same Y6 Y ∧ Dp K (hid (r :: M) Y) (.ref t2) (encL q) ∧ RO bs q) ?_ ?_
              · rintro v Y ⟨t2, q, rfl, sY, dq, ro⟩
                have ci7 := ci6.pure sY
                refine ⟨r, ys6, _, rfl, rfl, sY _ _ gr6, Nat.lt_of_le_of_lt (ci6.len gr6) (by decide), ?_⟩
                exact fin _ _ ⟨rfl, (ci7.more rF rR rS (sY _ _ gr6) (zs := [.ref t2]) (zr := [q]) (.cons dq .nil) (fun q' hq' => by rw [List.mem_singleton.mp hq']; exact ro)).mono (by show 1 + 1 ≤ 2; decide) (Nat.le_refl _)⟩
              · intro fin2
                refine ⟨_, rfl, (i : Int), 0, rfl, rfl, _, rfl, ?_⟩
                refine ite2 (fun c1 => ?_) (fun c1 => ?_)
                · have ip : 0 < i := by have := of_decide_eq_true c1; omega
                  obtain ⟨cs, ecs, csl, csin⟩ := cut_mid bs (i - 1) i
                  have e9 : (i : Int) - 1 = ((i - 1 : Nat) : Int) := by omega
                  refine ⟨_, rfl, _, rfl, _, _, rfl, rfl, _, rfl, _, rfl, _, rfl, B, _, rfl, SqL.of (hid_of hB6).2, fun u nu => ⟨(by show 2 ≤ sizeLine; decide), fun t2 nt2 => ?_⟩⟩
                  rw [e9, ecs] at nt2 ⊢
                  have uM : u ∉ r :: M := fun z => (List.mem_cons.mp z).elim (ne_of_none gr6 nu).symm (notM nu ci6.st ci6.hF ci6.hR)
                  have su := same_new (o := .lst (cs.map V.str)) nu
                  have ci8 := ci6.pure su
                  have t2M : t2 ∉ r :: M := fun z => (List.mem_cons.mp z).elim (ne_of_none (su _ _ gr6) nt2).symm (notM nt2 ci8.st ci8.hF ci8.hR)
                  have st2' := same_new (o := .tup [.str "a", .ref u]) nt2
                  exact fin2 _ _ ⟨t2, ("a", cs), rfl, su.trans st2', dpL_of (b := u) (SqT.of (hid_get t2M upd_same)) (SqL.of (hid_get uM (st2' _ _ upd_same))), (show ("a" : Str) ∈ plain8 by decide), by show cs.length ≤ 2; omega, csin⟩
                · refine ⟨(by show 0 ≤ sizeLine; decide), fun u nu => ⟨(by show 2 ≤ sizeLine; decide), fun t2 nt2 => ?_⟩⟩
                  have uM : u ∉ r :: M := fun z => (List.mem_cons.mp z).elim (ne_of_none gr6 nu).symm (notM nu ci6.st ci6.hF ci6.hR)
                  have su := same_new (o := .lst []) nu
                  have ci8 := ci6.pure su
                  have t2M : t2 ∉ r :: M := fun z => (List.mem_cons.mp z).elim (ne_of_none (su _ _ gr6) nt2).symm (notM nt2 ci8.st ci8.hF ci8.hR)
                  have st2' := same_new (o := .tup [.str "b", .ref u]) nt2
                  exact fin2 _ _ ⟨t2, ("b", []), rfl, su.trans st2', dpL_of (b := u) (SqT.of (hid_get t2M upd_same)) (SqL.of (hid_get uM (st2' _ _ upd_same))), (by decide), by show 0 ≤ 2; decide, fun _ z => by cases z⟩
        · intro fin
          refine ⟨_, rfl, isr, rfl, ?_⟩
          cases isr with
          | true => exact iteT (fin _ _ ⟨0, rfl, by decide, rfl⟩)
          | false => exact iteF ⟨_, rfl, fin _ _ ⟨i, rfl, hi4, rfl⟩⟩
      · rintro σ Y0 ⟨v7, v9, v12, v13, m, rfl, bi⟩
        rw [List.length_map] at bi
        obtain ⟨st0, s0, hF0, ⟨rk, Rb, hR0, kR0, nmR, okR⟩, _⟩ := bi
        rw [List.take_length] at nmR
        obtain ⟨c2, ec2⟩ : ∃ c2, c2 = c1 + 1 + 20 * bs.length := ⟨_, rfl⟩
        rw [← ec2] at st0
        have c2le : c2 ≤ c + 170 := by omega
        obtain ⟨N, eN⟩ : ∃ N, N = [dF] ++ [S, S0] := ⟨_, rfl⟩
        have subN : ∀ a ∈ N, a ∈ M := fun a ha => by
          rw [eM]; rw [eN] at ha
          rcases List.mem_cons.mp ha with e | ha
          · rw [e]; simp
          · exact List.mem_append_right _ ha
        have sN : ∀ Y : Hp, Same (hid M Y) (hid N Y) := fun Y => hid_sub subN
        have kR : KvD K (hid N Y0) encRs Rb rk := kR0.same (sN _)
        have kW : KvD K (hid N Y0) encW Wd kw := (kv12.same s0).same (sN _)
        have frN : Same (hid [S, S0] H) (hid N Y0) := (fr12.trans s0).trans (sN _)
        have hWN := sN _ _ _ (s0 _ _ hW12)
        have hBN := sN _ _ _ (s0 _ _ hB12)
        have hpN := sN _ _ _ (s0 _ _ hp12)
        have dRN : dR ∉ N := by rw [eN]; simp; simp at RS; exact ⟨RFne, RS⟩
        have hRN : hid N Y0 dR = some (.dK rk) := hid_get dRN hR0
        have drawN : ∀ {A B : Hp}, Same (hid [S, S0] A) (hid [S, S0] B) → Same (hid N A) (hid N B) := fun g => hid_more g fun a ha => by rw [eN]; exact List.mem_append_right _ ha
        have NS : ∀ Y : Hp, Same (hid N Y) (hid [S, S0] Y) := fun Y => hid_sub fun a ha => by rw [eN]; exact List.mem_append_right _ ha
        have dFN : dF ∈ N := by rw [eN]; simp
        have notN : ∀ {x : Addr} {Y : Hp} {c' : Nat} {o : HO}, Y x = none → Stm S S0 c' Y → Y dF = some o → x ∉ N := fun n1 n2 n3 zz => by
          have g := n2.S_ne n1
          rw [eN] at zz
          simp at zz
          rcases zz with e | e | e
          · rw [e, n3] at n1; cases n1
          · exact g.1 e
          · exact g.2 e
        clear kR0 kv12 s0 fr12 hW12 hB12 hp12 hR0 hR12 hF12 hm12 st12 drawM MS notM dRM dFM hG wk subN
        -- the books' rules, name by name
        refine ⟨_, rfl, sorted_strs (SqL.of (hid_of hpN).2) (by omega) fun L zs nL pz => ⟨L, rfl, ⟨_, SqL.of upd_same⟩, ?_⟩⟩
        have LN := notN nL st0 hF0
        have s1 := same_new (o := .lst (zs.map V.str)) nL
        have st1 := st0.same s1
        have hF1 := s1 _ _ hF0
        have kR1 := kR.same (sHid s1)
        have kW1 := kW.same (sHid s1)
        have hW1 := sHid (M := N) s1 _ _ hWN
        have hB1 := sHid (M := N) s1 _ _ hBN
        have hR1 := sHid (M := N) s1 _ _ hRN
        have fr1 := frN.trans (sHid s1)
        have hL1 : hid N (upd Y0 L (.lst (zs.map V.str))) L = some (.lst (zs.map V.str)) := hid_get LN upd_same
        generalize upd Y0 L (.lst (zs.map V.str)) = Y1 at st1 hF1 kR1 kW1 hW1 hB1 hR1 fr1 hL1 ⊢
        clear s1 frN hRN hBN hpN hWN kW kR hF0 st0 LN nL
        have zl : zs.length = ns.length := pz.length_eq
        have znd : zs.Nodup := pz.nodup_iff.mpr ndn
        refine for_it walk_list (fun i σ Y => ∃ v7 v14 v15, σ = [some (.ref S), some (.int 7), some (.int (many : Nat)), some (.ref p0), some (.ref B), some (.ref dR), some (.ref dF), v7, some (.ref W), v9, some (.bl isr), some (.ref m), v12, v13, v14, v15, none, none, none] ∧ Stm S S0 (c2 + 40 * i) Y ∧ Same (hid N Y1) (hid N Y) ∧ ∃ fk F, Y dF = some (.dK fk) ∧ KvD K (hid N Y) encRs F fk ∧ F.map (·.1) = zs.take i ∧ ∀ t ∈ F, FoundOk Wd t.1 t.2)
          ⟨_, _, _, rfl, st1, Same.refl _, [], [], hF1, kvD_nil, rfl, fun _ z => by cases z⟩ (fun i σ Y _ ⟨_, _, _, _, _, s, _⟩ => SqL.of (hid_of (s _ _ hL1)).2) ?_ ?_
        · rintro i x σ Y2 Y2' hi ⟨v7, v14, v15, rfl, st2, s2, fk, F, hF2, kF2, nm2, ok2⟩ ⟨rfl, hx⟩
          obtain ⟨n, rfl, hn, hnm⟩ := strs_at hx
          rw [List.length_map] at hi
          have nnew : n ∉ F.map (·.1) := by rw [nm2]; exact nd_take znd hn
          have fkl : fk.length < sizeLine := by
            rw [kF2.len]
            have := congrArg List.length nm2
            rw [List.length_map, List.length_take] at this
            exact Nat.lt_of_le_of_lt (show F.length ≤ 12 by omega) (by decide)
          have nfk : valV fk (Sum.inr n) = none := kF2.non (getA_none.mpr nnew)
          -- its word
          obtain ⟨word, hwd⟩ := getA_some (F := Wd) (n := n) (by rw [nm10]; exact pz.mem_iff.mp hnm)
          have wm := getA_mem hwd
          obtain ⟨w1, w2, w3⟩ := wd.ok _ wm
          obtain ⟨b, tail, ew⟩ : ∃ b tail, word = b :: tail := by
            cases word with
            | nil => exact absurd rfl w1
            | cons b tail => exact ⟨b, tail, rfl⟩
          subst ew
          have hbb : b ∈ bs := w3 b List.mem_cons_self
          obtain ⟨rs, hrs⟩ := getA_some (F := Rb) (n := b) (by rw [nmR]; exact hbb)
          have brs := okR _ (getA_mem hrs)
          have tl2 : tail.length ≤ 2 := Nat.le_of_succ_le_succ w2
          refine ⟨(by show 0 ≤ sizeLine; decide), fun f0 nf0 => ⟨_, rfl, _, rfl, dF, _, rfl, .inl ⟨fk, Sum.inr n, same_new nf0 _ _ hF2, rfl, fkl, rfl⟩, ?_⟩⟩
          dsimp only
          have f0N := notN nf0 st2 hF2
          have f0F : f0 ≠ dF := fun e => f0N (e ▸ dFN)
          have FSm := FS
          simp at FSm
          have st3 : Stm S S0 (c2 + 40 * i) (upd (upd Y2' f0 (.lst [])) dF (.dK (putK fk (Sum.inr n) (.ref f0)))) := (st2.new nf0).put FSm.1 FSm.2
          have g3 : hid (f0 :: N) (upd (upd Y2' f0 (.lst [])) dF (.dK (putK fk (Sum.inr n) (.ref f0)))) = hid (f0 :: N) (upd Y2' f0 (.lst [])) := hid_in (List.mem_cons_of_mem _ dFN)
          have push : Same (hid N Y2') (hid (f0 :: N) (upd (upd Y2' f0 (.lst [])) dF (.dK (putK fk (Sum.inr n) (.ref f0))))) := by rw [g3]; exact hid_push nf0
          have hF3 : upd (upd Y2' f0 (.lst [])) dF (.dK (putK fk (Sum.inr n) (.ref f0))) dF = some (.dK (putK fk (Sum.inr n) (.ref f0))) := upd_same
          have hf3 : upd (upd Y2' f0 (.lst [])) dF (.dK (putK fk (Sum.inr n) (.ref f0))) f0 = some (.lst []) := by rw [upd_ne f0F]; exact upd_same
          have vd : valV (putK fk (Sum.inr n) (V.ref f0)) (Sum.inr n) = some (.ref f0) := by rw [valV_put, if_pos rfl]
          clear g3
          generalize upd (upd Y2' f0 (.lst [])) dF (.dK (putK fk (Sum.inr n) (.ref f0))) = Y3 at st3 push hF3 hf3 ⊢
          have up3 := s2.trans push
          have f0S : f0 ∉ [S, S0] := fun z => f0N (by rw [eN]; exact List.mem_append_right _ z)
          have drawP : ∀ {A B : Hp}, Same (hid [S, S0] A) (hid [S, S0] B) → Same (hid (f0 :: N) A) (hid (f0 :: N) B) := fun g => hid_more g fun a ha => List.mem_cons_of_mem _ (by rw [eN]; exact List.mem_append_right _ ha)
          have PSm : ∀ Y : Hp, Same (hid (f0 :: N) Y) (hid [S, S0] Y) := fun Y => hid_sub fun a ha => List.mem_cons_of_mem _ (by rw [eN]; exact List.mem_append_right _ ha)
          have kR3 := kR1.same up3
          have kW3 := kW1.same up3
          have hW3 := up3 _ _ hW1
          have hR3 := up3 _ _ hR1
          obtain ⟨vb, eb1, eb2⟩ := kR3.val hrs
          obtain ⟨rb, xs, rfl, hrb, dxs⟩ := dp_list eb2
          obtain ⟨vw, ev1, ev2⟩ := kW3.val hwd
          obtain ⟨wb, rfl, hwb⟩ := dp_W ev2
          have gW : ∀ {Y : Hp}, Same (hid (f0 :: N) Y3) (hid (f0 :: N) Y) → Y W = some (.dK kw) := fun s => (hid_of (s _ _ hW3)).2
          have at0 : ∀ {y : V} {ys : List V}, atI (y :: ys) (0 : Int) = some y := fun {y ys} => atI_nat (j := 0) (xs := y :: ys) rfl
          refine ⟨_, rfl, _, rfl, _, rfl, W, _, rfl, .inl ⟨kw, Sum.inr n, .inl (hid_of hW3).2, rfl, ev1.symm⟩, wb, _, 0, _, rfl, rfl, hid_same.seq hwb, at0, dR, _, rfl, .inl ⟨rk, Sum.inr b, .inl (hid_of hR3).2, rfl, eb1.symm⟩, _, rfl, _, rfl, _, rfl, W, _, rfl, .inl ⟨kw, Sum.inr n, .inl (hid_of hW3).2, rfl, ev1.symm⟩, wb, _, 0, _, rfl, rfl, hid_same.seq hwb, at0, dR, _, rfl, .inl ⟨rk, Sum.inr b, .inl (hid_of hR3).2, rfl, eb1.symm⟩, ?_⟩
          refine ⟨_, rfl, S, S0, _, 2, rfl, st3, by omega, by decide, by decide, fun r6 H4 r60 r61 st4 sm4 => ⟨_, rfl, ?_⟩⟩
          obtain ⟨r6, rfl⟩ : ∃ r' : Nat, r6 = r' := ⟨r6.toNat, by omega⟩
          have f4 := drawP sm4
          have hrb4 : SqL K (hid (f0 :: N) H4) rb xs := f4.seq hrb
          have dxs4 := sDpAll f4 _ _ dxs
          refine ⟨rb, _, rfl, hid_same.seq hrb4, fun u nu => ?_⟩
          rw [cut_take]
          have su := same_new (o := .lst (xs.take r6)) nu
          have hu5 : upd H4 u (.lst (xs.take r6)) u = some (.lst (xs.take r6)) := upd_same
          have xl : xs.length = rs.length := dpAll_len dxs
          have rl4 : rs.length ≤ 4 := brs.len
          refine ⟨rb, u, xs, _, rfl, rfl, su.seq (hid_same.seq hrb4), SqL.of hu5, Nat.le_trans (show xs.length + (xs.take r6).length ≤ 10 by rw [List.length_take]; omega) (by decide), fun ct nct => ⟨ct, rfl, ⟨_, SqL.of upd_same⟩, ?_⟩⟩
          have sct := same_new (o := .lst (xs ++ xs.take r6)) nct
          have hF4 := keep_at sm4 hF3 FS
          have hf4 := keep_at sm4 hf3 f0S
          have st5 := (st4.same su).same sct
          have f5 := f4.trans (sHid (M := f0 :: N) (su.trans sct))
          have hF5 := sct _ _ (su _ _ hF4)
          have hf5 := sct _ _ (su _ _ hf4)
          have notP : ∀ {x : Addr} {Y : Hp} {c' : Nat} {o u : HO}, Y x = none → Stm S S0 c' Y → Y dF = some o → Y f0 = some u → x ∉ f0 :: N := fun n1 n2 n3 n4 zz => (List.mem_cons.mp zz).elim (ne_of_none n4 n1).symm (notN n1 n2 n3)
          have ctP := notP nct (st4.same su) (su _ _ hF4) (su _ _ hf4)
          have hct : hid (f0 :: N) (upd (upd H4 u (.lst (xs.take r6))) ct (.lst (xs ++ xs.take r6))) ct = some (.lst (xs ++ xs.take r6)) := hid_get ctP upd_same
          have dct : DpAll K (hid (f0 :: N) (upd (upd H4 u (.lst (xs.take r6))) ct (.lst (xs ++ xs.take r6)))) (xs ++ xs.take r6) ((rs ++ rs.take r6).map encL) := by
            have d1 := sDpAll (sHid (M := f0 :: N) (su.trans sct)) _ _ dxs4
            rw [List.map_append, List.map_take]
            exact DpAll.app d1 (dpAll_take d1 r6)
          generalize upd (upd H4 u (.lst (xs.take r6))) ct (.lst (xs ++ xs.take r6)) = H5 at st5 f5 hF5 hf5 hct dct ⊢
          obtain ⟨xs2, exs2⟩ : ∃ xs2, xs2 = xs ++ xs.take r6 := ⟨_, rfl⟩
          obtain ⟨src, esrc⟩ : ∃ src, src = rs ++ rs.take r6 := ⟨_, rfl⟩
          rw [← exs2] at hct dct
          rw [← esrc] at dct
          have srcl : src.length ≤ 5 := by rw [esrc, List.length_append, List.length_take]; omega
          have srok : ∀ q ∈ src, q.1 ∈ plain8 ∧ q.2.length ≤ 2 ∧ ∀ x ∈ q.2, x ∈ bs := fun q hq => by
            rw [esrc] at hq
            rcases List.mem_append.mp hq with hq | hq
            · exact brs.ok q hq
            · exact brs.ok q (List.mem_of_mem_take hq)
          have x2l : xs2.length = src.length := dpAll_len dct
          clear su sct nu nct f4 hrb4 dxs4 hu5 hF4 hf4 st4 sm4
          have up5 := up3.trans f5
          have kW5 := kW3.same f5
          refine for_it walk_list (fun j σ Y => ∃ v14 v15, σ = [some (.ref S), some (.int 7), some (.int (many : Nat)), some (.ref p0), some (.ref B), some (.ref dR), some (.ref dF), some (.str n), some (.ref W), v9, some (.bl isr), some (.ref m), v12, v13, v14, v15, none, none, none] ∧ Stm S S0 (c2 + 40 * i + 1 + 5 * j) Y ∧ Same (hid (f0 :: N) H5) (hid (f0 :: N) Y) ∧ Y dF = some (.dK (putK fk (Sum.inr n) (.ref f0))) ∧ ∃ ys rs', Y f0 = some (.lst ys) ∧ DpAll K (hid (f0 :: N) Y) ys (rs'.map encL) ∧ Grown Wd tail (src.take j) rs')
            ⟨_, _, rfl, st5, Same.refl _, hF5, [], [], hf5, .nil, .nil⟩ (fun j σ Y _ ⟨_, _, _, _, s, _⟩ => SqL.of (hid_of (s _ _ hct)).2) ?_ ?_
          · rintro j x σ Y6 Y6' hj ⟨v14', v15', rfl, st6, s6, hF6, ys, rs', hf6, dr6, gr6⟩ ⟨rfl, hx⟩
            obtain ⟨q0, hq0, dq0⟩ := dpAll_at dct hx
            have hq0m := List.mem_of_getElem? hq0
            obtain ⟨qo1, qo2, qo3⟩ := srok q0 hq0m
            obtain ⟨c1', c2', rfl, hc1, hc2⟩ := dp_L (sDp s6 _ _ dq0)
            have hj5 : j < 5 := by omega
            have rsl : rs'.length = j := by have := paired_len gr6; rw [List.length_take] at this; omega
            have ysl : ys.length = rs'.length := dpAll_len dr6
            have s36 : Same (hid (f0 :: N) Y3) (hid (f0 :: N) Y6') := f5.trans s6
            have hW6 := gW s36
            have hwb6 := s36.seq hwb
            refine ⟨c1', _, rfl, sSeqT hid_same hc1, rfl, _, _, rfl, _, _, rfl, rfl, ?_⟩
            refine ⟨_, rfl, _, rfl, dF, _, rfl, .inl ⟨_, Sum.inr n, .inl hF6, rfl, vd.symm⟩, .inl ⟨rfl, _, SqL.of hf6⟩, _, rfl, _, rfl, _, rfl, _, rfl, _, rfl, _, rfl, W, _, rfl, .inl ⟨kw, Sum.inr n, .inl hW6, rfl, ev1.symm⟩, _, rfl, wb, _, rfl, hid_same.seq hwb6, fun u nu => ?_⟩
            have e1 : cutV ((b :: tail).map V.str) (some (1 : Int)) none = tail.map V.str := cut_drop _ 1
            rw [e1]
            have su := same_new (o := .lst (tail.map V.str)) nu
            have hc27 : SqL K (upd Y6' u (.lst (tail.map V.str))) c2' (q0.2.map V.str) := su.seq (hid_same.seq hc2)
            refine ⟨c2', u, _, _, rfl, rfl, hc27, SqL.of upd_same, Nat.le_trans (show (q0.2.map V.str).length + (tail.map V.str).length ≤ 10 by rw [List.length_map, List.length_map]; omega) (by decide), fun ct2 nct2 => ?_⟩
            rw [← List.map_append]
            have sct := same_new (o := .lst ((q0.2 ++ tail).map V.str)) nct2
            have st7 := (st6.same su).same sct
            have s7 := s36.trans (sHid (M := f0 :: N) (su.trans sct))
            have hF7 := sct _ _ (su _ _ hF6)
            have hf7 := sct _ _ (su _ _ hf6)
            have dr7 := sDpAll (sHid (M := f0 :: N) (su.trans sct)) _ _ dr6
            have ctS : ct2 ∉ [S, S0] := by have := (st6.same su).S_ne nct2; simp; exact this
            have hct7 : hid [S, S0] (upd (upd Y6' u (.lst (tail.map V.str))) ct2 (.lst ((q0.2 ++ tail).map V.str))) ct2 = some (.lst ((q0.2 ++ tail).map V.str)) := hid_get ctS upd_same
            have s67 := sHid (M := f0 :: N) (su.trans sct)
            generalize upd (upd Y6' u (.lst (tail.map V.str))) ct2 (.lst ((q0.2 ++ tail).map V.str)) = Y7 at st7 s7 hF7 hf7 dr7 hct7 s67 ⊢
            have wlen : (q0.2 ++ tail).length ≤ 4 := by rw [List.length_append]; omega
            refine ⟨S, S0, W, ct2, _, kw, Wd, bs, q0.2 ++ tail, rfl, st7, by omega, by omega, gW s7, (kW3.same s7).same (PSm _), wd, SqL.of hct7, (fun x hx => ?_), fun p ps H8 np8 hp8 fl8 in8 st8 sm8 => ?_⟩
            · rcases List.mem_append.mp hx with hx | hx
              · exact qo3 x hx
              · exact w3 x (List.mem_cons_of_mem _ hx)
            have hF8 := keep_at sm8 hF7 FS
            have hf8 := keep_at sm8 hf7 f0S
            have f8 := drawP sm8
            have pS8 : p ∉ [S, S0] := by have := st7.S_ne np8; simp; exact this
            have pP : p ∉ f0 :: N := notP np8 st7 hF7 hf7
            refine ⟨(by show 2 ≤ sizeLine; decide), fun t nt => ?_⟩
            have tP : t ∉ f0 :: N := notP nt st8 hF8 hf8
            have s9 := same_new (o := .tup [.str q0.1, .ref p]) nt
            have st9 := st8.same s9
            have hF9 := s9 _ _ hF8
            have hf9 := s9 _ _ hf8
            have f9 := (s67.trans f8).trans (sHid (M := f0 :: N) s9)
            have dt9 : Dp K (hid (f0 :: N) (upd H8 t (.tup [.str q0.1, .ref p]))) (.ref t) (encL (q0.1, ps)) := dpL_of (b := p) (SqT.of (hid_get tP upd_same)) (SqL.of (hid_get pP (s9 _ _ hp8)))
            have dr9 := sDpAll (f8.trans (sHid (M := f0 :: N) s9)) _ _ dr7
            generalize upd H8 t (.tup [.str q0.1, .ref p]) = H9 at st9 hF9 hf9 f9 dt9 dr9 ⊢
            refine ⟨f0, ys, _, rfl, rfl, hf9, Nat.lt_of_le_of_lt (show ys.length ≤ 5 by omega) (by decide), ?_⟩
            have f0Sm := f0S
            simp at f0Sm
            have g0 : ∀ o, hid (f0 :: N) (upd H9 f0 o) = hid (f0 :: N) H9 := fun o => hid_in List.mem_cons_self
            refine ⟨_, _, rfl, (st9.put f0Sm.1 f0Sm.2).mono (by omega), by rw [g0]; exact s6.trans f9, by rw [upd_ne f0F.symm]; exact hF9, ys ++ [.ref t], rs' ++ [(q0.1, ps)], upd_same, ?_, ?_⟩
            · rw [g0, List.map_append]
              exact dpAll_snoc dr9 dt9
            · rw [List.take_succ, hq0]
              exact paired_snoc gr6 ⟨rfl, fl8, in8⟩
          · rintro σ Y6 ⟨v14', v15', rfl, st6, s6, hF6, ys, rs', hf6, dr6, gr6⟩
            rw [x2l] at st6 gr6
            rw [List.take_length] at gr6
            have rsl : rs'.length = src.length := paired_len gr6
            have dN6 : DpAll K (hid N Y6) ys (rs'.map encL) := sDpAll hid_tail _ _ dr6
            have okr : ∀ q ∈ rs', rOk q := fun q' hq' => by
              obtain ⟨q, hq, e1, e2, e3⟩ := grown_back gr6 q' hq'
              refine ⟨by rw [e1]; exact plain_so _ (srok q hq).1, fun x hx => ?_⟩
              have := e3 x hx
              obtain ⟨t0, ht0, rfl⟩ := List.mem_map.mp this
              exact (name_ok (names12_ok _ (wd.n12 t0 ht0)).1).1
            refine ⟨_, rfl, _, rfl, dF, _, rfl, .inl ⟨_, Sum.inr n, .inl hF6, rfl, vd.symm⟩, N, f0, ys, rs', rfl, SqL.of hf6, dN6, by omega, okr, fun p2 ws H8 s8 np2 hp2 dw => ?_⟩
            have dw' : DpAll K (hid N H8) ws ((once rs').map encL) := sDpAll hid_tail _ _ dw
            have ol := once_len rs'
            refine sorted_rsM N (.inr rfl) (SqL.of hp2) dw' (by omega) fun p3 us np3 du => ?_
            have s9 := same_new (o := .lst us) np3
            have hF9 := s9 _ _ (s8 _ _ hF6)
            have st9 := (st6.same s8).same s9
            have p3N := notN np3 (st6.same s8) (s8 _ _ hF6)
            have fr9 : Same (hid N Y2') (hid N (upd H8 p3 (.lst us))) := ((push.trans f5).trans s6).trans (hid_tail.trans (sHid (s8.trans s9)))
            have dp9 : Dp K (hid N (upd H8 p3 (.lst us))) (.ref p3) (encRs (sortR (once rs'))) := .lst (SqL.of (hid_get p3N upd_same)) (sDpAll (sHid s9) _ _ du)
            have kf9 := kF2.same fr9
            generalize upd H8 p3 (.lst us) = H9 at st9 hF9 fr9 dp9 kf9 ⊢
            have fk2l : (putK fk (Sum.inr n) (V.ref f0)).length < sizeLine := by
              have := length_putK fk (Sum.inr n : Key) (V.ref f0)
              have := kF2.len
              have := congrArg List.length nm2
              rw [List.length_map, List.length_take] at this
              exact Nat.lt_of_le_of_lt (show _ ≤ 14 by omega) (by decide)
            refine ⟨_, rfl, _, rfl, dF, _, rfl, .inl ⟨_, Sum.inr n, hF9, rfl, fk2l, rfl⟩, ?_⟩
            rw [putK_twice nfk]
            have g0 : ∀ o, hid N (upd H9 dF o) = hid N H9 := fun o => hid_in dFN
            refine ⟨_, _, _, rfl, (st9.put FSm.1 FSm.2).mono (by omega), by rw [g0]; exact s2.trans fr9, _, putA F n (sortR (once rs')), upd_same, by rw [g0]; exact KvD.put kf9 dp9, ?_, fun t ht => ?_⟩
            · rw [putA_new nnew, List.map_append, nm2, List.take_succ, hn]
              rfl
            · rw [putA_new nnew] at ht
              rcases List.mem_append.mp ht with ht | ht
              · exact ok2 t ht
              · rw [List.mem_singleton.mp ht]
                exact found_of wd wm brs (show r6 ≤ 1 by omega) esrc gr6
        · rintro σ Y2 ⟨v7, v14, v15, rfl, st2, s2, fk, F, hF2, kF2, nm2, ok2⟩
          rw [List.length_map] at st2 nm2
          rw [List.take_length] at nm2
          have wne : Wd ≠ [] := fun e => by rw [e] at nm10; have := congrArg List.length nm10; simp at this; omega
          have plant : Plant F := plant_of wd wne (by rw [nm2, nm10]; exact pz) ok2
          have kF3 : KvD K (hid [S, S0] Y2) encRs F fk := kF2.same (NS _)
          have fr3 : Same (hid [S, S0] H) (hid [S, S0] Y2) := (fr1.trans s2).trans (NS _)
          have st3 : Stm S S0 (c + 5000) Y2 := st2.mono (by omega)
          have hB3 : Y2 B = some (.lst (bs.map V.str)) := (hid_of (s2 _ _ hB1)).2
          have hW3 : Y2 W = some (.dK kw) := (hid_of (s2 _ _ hW1)).2
          have kW3 : KvD K Y2 encW Wd kw := (kW1.same s2).same hid_same
          have klen : kw.length = Wd.length := kW3.len
          clear ok2 kF2 s2 st2 fr1 hB1 hW1 kW1 kR1 hR1 hL1 hF1 st1 okR nmR
          -- first
          refine ⟨_, rfl, B, rfl, ⟨_, SqL.of hB3⟩, fun D nD => ?_⟩
          have d0 : Str × List Str := (Str.empty, [])
          refine lc_pd walk_list nD (by rw [List.length_map]; omega) (fun j Y y => ∃ (p : Addr) (v : V), y = .ref p ∧ SqT K Y p [.str (bs.getD j Str.empty), v]) (fun j Y Y' y _ s ⟨p, v, e, g⟩ => ⟨p, v, e, sSeqT s g⟩) (fun _ => true) (fun Y sY => SqL.of (sY _ _ hB3)) ?_ ?_
          · rintro j x Y Y' ys0 k1 k2 hj sY hDY ⟨rfl, hx⟩ k1' _
            obtain ⟨one, rfl, hone, honem⟩ := strs_at hx
            have hW4 := sY _ _ hW3
            refine ⟨rfl, tYesI ⟨_, rfl, W, _, hW4, trivial, fun od => ?_⟩⟩
            have hWL : upd Y' W (.frz od (.dK kw)) W = some (.frz od (.dK kw)) := upd_same
            have kWL : KvD K (upd Y' W (.frz od (.dK kw))) encW Wd kw := kv_upd (noS_dK hW4) (kW3.same sY)
            refine ⟨_, rfl, W, od, rfl, .inl ⟨kw, hWL, fun D2 nD2 => ?_⟩⟩
            obtain ⟨YL, eL⟩ : ∃ YL, YL = upd Y' W (.frz od (.dK kw)) := ⟨_, rfl⟩
            rw [← eL] at hWL kWL nD2 ⊢
            refine lc_p walk_keys nD2 (by omega) (fun j _ y => y = .str (Wd.getD j d0).1) (fun _ _ _ _ _ _ b => b) (fun j => decide ((Wd.getD j d0).2 = [one])) (fun Y sY => sY _ _ hWL) ?_ ?_
            · rintro g x Z3 Z3' h1 h2 hg sZ ⟨rfl, ky, vv, hkv, rfl⟩ h1' h2'
              obtain ⟨t, ht, ek, dt⟩ := kWL.get hkv
              subst ek
              have tm := List.mem_of_getElem? ht
              have eg : Wd.getD g d0 = t := getD_of ht
              rw [eg] at h1' h2'
              obtain ⟨v, e1, e3⟩ := kWL.val (getA_of wd.nd tm)
              obtain ⟨b, rfl, hb1⟩ := dp_W e3
              obtain ⟨t1, t2, t3⟩ := wd.ok t tm
              refine ⟨rfl, _, rfl, _, rfl, W, _, rfl, .inl ⟨kw, Sum.inr t.1, .inr ⟨od, sZ _ _ hWL⟩, rfl, e1.symm⟩, _, rfl, (by show 1 ≤ sizeLine; decide), fun u nu => ?_⟩
              have su := same_new (o := .lst [V.str one]) nu
              have okt : ∀ {w : List Str}, (∀ x ∈ w, x ∈ bs) → SeqAt.shaped (encW w) = true := fun h => shaped_strs fun x hx => bok x (h x hx)
              refine ⟨encW t.2, encW [one], .lst (su.seq (sZ.seq hb1)) (dp_strs _), .lst (SqL.of upd_same) (.cons (.str _) .nil), okt t3, okt (fun x hx => by rw [List.mem_singleton.mp hx]; exact honem), _, rfl, ?_⟩
              rw [enc_strs.eqv]
              cases hk : decide (t.2 = [one]) with
              | true => exact iteT ⟨_, rfl, h1' hk _ _ su rfl⟩
              | false => exact iteF (h2' hk _ su)
            · intro Y6 ys s6 hD6 pr
              have e6 := Paired_map (f := fun j => V.str (Wd.getD j d0).1) pr
              rw [klen, range_filter Wd d0 (fun t => decide (t.2 = [one])) (fun t => V.str t.1)] at e6
              have e6 : ys = ((Wd.filter fun t => decide (t.2 = [one])).map (·.1)).map V.str := by rw [e6, List.map_map]; rfl
              rw [e6] at hD6
              have D2W : D2 ≠ W := (ne_of_none hWL nD2).symm
              have unl : Same Y' (upd Y6 W (.dK kw)) := unlock0 (o := od) hW4 (by rw [← eL]; exact s6)
              refine ⟨s6 _ _ hWL, D2, _, rfl, SqL.of (by rw [upd_ne D2W]; exact hD6), ?_, fun z hz => ⟨(by show 2 ≤ sizeLine; decide), fun t nt => ?_⟩⟩
              · intro e
                have : (one, [one]) ∈ Wd.filter fun t => decide (t.2 = [one]) := List.mem_filter.mpr ⟨wd.self one honem, decide_eq_true rfl⟩
                rw [List.map_eq_nil_iff.mp e] at this
                cases this
              · have s7 := same_new (o := .tup [.str one, .str z]) nt
                refine k1' rfl _ _ (unl.trans s7) ?_
                have tD : t ≠ D := (ne_of_none (unl _ _ hDY) nt).symm
                exact ⟨t, .str z, rfl, by rw [getD_of hone]; exact SqT.of (hid_get (by simpa using tD) upd_same)⟩
          · intro Y ys sY hDY pr
            rw [filter_range, List.length_map] at pr
            obtain ⟨ps, k1, rfl, pr1, ek1⟩ := pairs_any pr
            have ek1 : k1.map (·.1) = bs.map Sum.inr := by rw [ek1]; exact range_getD_nm bs
            have knd1 : (k1.map (·.1)).Nodup := by
              rw [ek1]
              exact List.Pairwise.map _ (fun a b hab e => hab (by injection e)) bnd
            refine ⟨D, ps, k1, rfl, SqL.of hDY, Paired_mono (fun _ _ q => sSeqT hid_same q) pr1, fun f1 nf1 => ?_⟩
            rw [mergeK_nd k1 [] (by rw [List.nil_append]; exact knd1), List.nil_append]
            have s4 := sY.trans (same_new (o := .dK k1) nf1)
            have hf4 : upd Y f1 (.dK k1) f1 = some (.dK k1) := upd_same
            have hW4 := s4 _ _ hW3
            have kW4 := kW3.same s4
            clear pr1 pr hDY
            generalize upd Y f1 (.dK k1) = Y4 at s4 hf4 hW4 kW4 ⊢
            dsimp only
            refine gname_x ?_
            refine ⟨_, rfl, _, rfl, W, kw, Wd.map (·.1), rfl, .inl hW4, kvd_keys kW4, by rw [List.length_map]; omega, fun ks L2 pks _ nL2 => ⟨L2, rfl, ⟨_, SqL.of upd_same⟩, fun D3 nD3 => ?_⟩⟩
            have s5 := same_new (o := .lst (ks.map V.str)) nL2
            have hf5 := s5 _ _ hf4
            have hW5 := s5 _ _ hW4
            have kW5 := kW4.same s5
            have hL5 : upd Y4 L2 (.lst (ks.map V.str)) L2 = some (.lst (ks.map V.str)) := upd_same
            have s45 := s4.trans s5
            generalize upd Y4 L2 (.lst (ks.map V.str)) = Y5 at nD3 s45 hf5 hW5 kW5 hL5 ⊢
            have ksl : ks.length = Wd.length := by rw [pks.length_eq, List.length_map]
            refine lc_pd walk_list nD3 (by rw [List.length_map]; omega) (fun j Y y => ∃ (p : Addr) (v : V), y = .ref p ∧ SqT K Y p [.str (ks.getD j Str.empty), v]) (fun j Y Y' y _ s ⟨p, v, e, g⟩ => ⟨p, v, e, sSeqT s g⟩) (fun _ => true) (fun Y sY => SqL.of (sY _ _ hL5)) ?_ ?_
            · rintro j x Y Y' ys0 h1 h2 hj sY hDY ⟨rfl, hx⟩ h1' _
              obtain ⟨n, rfl, hn, hnm⟩ := strs_at hx
              obtain ⟨word, hwd⟩ := getA_some (F := Wd) (n := n) (pks.mem_iff.mp hnm)
              obtain ⟨w1, w2, w3⟩ := wd.ok _ (getA_mem hwd)
              obtain ⟨v, e1, e3⟩ := (kW5.same sY).val hwd
              obtain ⟨wb, rfl, hwb⟩ := dp_W e3
              refine ⟨rfl, tYesI ⟨_, rfl, _, rfl, _, rfl, W, _, rfl, .inl ⟨kw, Sum.inr n, .inl (sY _ _ hW5), rfl, e1.symm⟩, wb, rfl, ⟨_, hwb⟩, fun D4 nD4 => ?_⟩⟩
              refine lc_p walk_list nD4 (by rw [List.length_map]; exact Nat.le_trans w2 (by decide)) (fun _ _ _ => True) (fun _ _ _ _ _ _ b => b) (fun _ => true) (fun Z sZ => sZ.seq hwb) ?_ ?_
              · rintro g x Z Z' g1 g2 hg sZ ⟨rfl, hx⟩ g1' _
                obtain ⟨one, rfl, hone, honem⟩ := strs_at hx
                obtain ⟨v, ev⟩ := valV_key (kvs := k1) (k := Sum.inr one) (by rw [ek1]; exact List.mem_map.mpr ⟨one, w3 one honem, rfl⟩)
                exact ⟨rfl, tYesI ⟨_, rfl, _, rfl, f1, _, rfl, .inl ⟨k1, Sum.inr one, .inl (sZ _ _ (sY _ _ hf5)), rfl, ev.symm⟩, g1' rfl _ _ (Same.refl _) trivial⟩⟩
              · intro Y6 ys s6 hD6 pr
                refine ⟨(by show 2 ≤ sizeLine; decide), fun t nt => ?_⟩
                refine h1' rfl _ _ (s6.trans (same_new nt)) ?_
                have tD : t ≠ D3 := (ne_of_none (s6 _ _ hDY) nt).symm
                exact ⟨t, .ref D4, rfl, by rw [getD_of hn]; exact SqT.of (hid_get (by simpa using tD) upd_same)⟩
            · intro Y6 ys s6 hD6 pr
              obtain ⟨ps2, k2, rfl, pr2, _⟩ := pairs_any pr
              refine ⟨D3, ps2, k2, rfl, SqL.of hD6, Paired_mono (fun _ _ q => sSeqT hid_same q) pr2, fun f2 nf2 => ⟨(by show 2 ≤ sizeLine; decide), fun z nz => ?_⟩⟩
              have sE := ((s45.trans s6).trans (same_new (o := .dK (mergeK [] k2)) nf2)).trans (same_new (o := .tup [.ref dF, .ref f2]) nz)
              exact q z dF (.ref f2) fk F _ (SqT.of upd_same) (sE _ _ hF2) (kF3.same (sHid sE)) plant (st3.same sE) (fr3.trans (sHid sE))
end
end K8
set_option maxRecDepth 100000
set_option maxHeartbeats 4000000
namespace K8
open PySem PySem.Spec PyProof.Rows L2
/-! ### a try with several clauses that name what they caught -/
abbrev ClA : Type := Value × Nat × (Addr → Value → Option Addr → TS)
/-- what the clauses wish of an exception of the body -/
def wManyA (K : PySem.W.Frag) (n : Nat) (Wo : WX) (D : Ends) : List ClA → WX
  | [] => Wo
  | (c, i, ts) :: r => fun cls d τ G => ∃ b, PySem.W.exmOne K cls c = some b ∧
      (b = true → τ.length = n → ∀ a, G a = none → ts a cls d { nx := fun τ' G' => D.nx (τ'.set i none) G', rt := D.rt, bk := fun τ' G' => D.bk (τ'.set i none) G', ct := fun τ' G' => D.ct (τ'.set i none) G' } (τ.set i (some (.ref a))) G) ∧ (b = false → wManyA K n Wo D r cls d τ G)
inductive HdsA (X : Cx) : List ExceptHandler → List ClA → Prop
  | nil : HdsA X [] []
  | cons {x n : Str} {c : Value} {i : Nat} {ts : Addr → Value → Option Addr → TS} {b0 : Stmt} {su : List Stmt} {p1 p2 : Pos} {r : List ExceptHandler} {l : List ClA} (hi : X.N[i]? = some n) (hln : X.env.kindOf n = some .local) (hc : Names X x c)
      (hsu : ∀ (a : Addr) (oe : Obj) (cls : Value) (d : Option Addr) (pn : List (Addr × Obj)), Zc cls d oe → (∃ vs, oe.data = .fields vs) → PSs (X.suite a ((a, oe) :: pn)) (b0 :: su) (ts a cls d)) (t : HdsA X r l) :
      HdsA X (.ExceptHandler (some (.Name x p1)) (some n) (b0 :: su) p2 :: r) ((c, i, ts) :: l)
theorem ps_try_manyA {X : Cx} {bd : List Stmt} {h1 : ExceptHandler} {r1 : List ExceptHandler} {l1 : List ClA} {pos : Pos} {tb : WX → TS} {Wo : WX} (hs : X.stack = X.env :: X.outer) (hf : X.env.frame = some X.env.locals) (hN : X.N.Nodup) (tk : Takes X Wo)
    (hb : ∀ (W : WX) (pn : List (Addr × Obj)) (xe : Value → Shared → Prop), Takes (X.tr pn xe) W → PassesOwn (model X.prog X.w) X.A X.env xe → PSs (X.tr pn xe) bd (tb W))
    (hh : HdsA X (h1 :: r1) l1) : PS X (.Try bd (h1 :: r1) [] [] pos) (fun D τ G => tb (wManyA X.K X.N.length Wo D l1) D τ G) := by
  refine ⟨fun pins t τ G D I h => ?_⟩
  have ok := I.ok
  have frA : X.A.frames = some (X.env :: X.outer) := by rw [ok.frames, hs]
  refine wpAny_Try_except (wpAny_mono ((hb (wManyA X.K X.N.length Wo D l1) (X.pn ++ pins) (fun e z1 => wpAny (model X.prog X.w) X.A (noteFrame e X.env) (fun _ z2 => wpAny (model X.prog X.w) X.A (setFlight e none) (fun _ z3 => wpAny (model X.prog X.w) X.A (handleBy e X.env (h1 :: r1)) (SP X pins D) X.xe z3) X.xe z2) X.xe z1)
    (fun u t' xx => ?_) PassesOwn.looking).run [] t τ G D (I.toTry _) h) (fun f z1 hsp => ?_) fun _ _ he => he)
  · obtain ⟨a, B, sI, pins', τ', G', cls, d, rfl, J', nb, up, sky, na, os, ag, w⟩ := xx
    have J := J'.ofTry ok
    have sky2 : Sky B (X.env :: X.outer) a (Zc cls d) X.env.locals t'.heap := hs ▸ sky
    show wpAny (model X.prog X.w) X.A (noteFrame (.ref a) X.env) _ _ _
    refine Sky.land Zc.steady frA hf sky2 fun hp fl up2 => ?_
    have K3 : Inv X pins τ' G' { t' with heap := hp } := J.landed nb fl.1 (up.trans up2) os ag
    obtain ⟨ox, vx, gx, zx, dx⟩ := fl.there
    have nfr : a ∉ frs (X.env :: X.outer) := fun hm => by
      obtain ⟨_, o2, g2, hnf⟩ := (fl.2.2.1).mem hm
      rw [gx] at g2; cases g2
      exact hnf _ dx
    have aL : a ≠ X.env.locals := fun z => nfr (List.mem_filterMap.mpr ⟨X.env, List.mem_cons_self, by rw [hf, z]⟩)
    have aF : a ∉ X.fs := fun hm => by
      obtain ⟨e, he, q⟩ := List.mem_filterMap.mp hm
      exact nfr (List.mem_filterMap.mpr ⟨e, List.mem_cons_of_mem _ he, q⟩)
    have SU := K3.suite gx dx na aL aF
    have go : ∀ {r2 : List ExceptHandler} {l2 : List ClA}, HdsA X r2 l2 → wManyA X.K X.N.length Wo D l2 cls d τ' G' → wpAny (model X.prog X.w) X.A (handleBy (.ref a) X.env r2) (SP X pins D) X.xe { t' with heap := hp } := by
      intro r2 l2 hk
      induction hk with
      | nil =>
        intro w
        refine wpAny_handleBy_nil ?_
        obtain ⟨_, _, _, oe, vs, T, oT, ts', he, hz, hd, g1, hr⟩ := id fl
        unfold PySem.passOn
        refine wpAny_bind (wpAny_field he hd g1 ?_)
        rw [if_neg (show ¬ ((Value.ref T == Value.none) = true) from by simp)]
        have fin : wpAny (model X.prog X.w) X.A (setFlight (.ref a) X.env.frame) (fun _ z4 => wpAny (model X.prog X.w) X.A (throw (.ref a) : Sem Flow) (SP X pins D) X.xe z4) X.xe { t' with heap := hp } := by
          rw [hf]
          exact HandSPX.setFlight_upZ fl fun h4 hh4 up4 => wpAny_throw (tk _ _ ⟨a, B, sI, pins, τ', G', cls, d, rfl, J, nb, (up.trans up2).trans up4, .inr (.inr (by rw [hs]; exact hh4)), na, os, ag, w⟩)
        first
          | exact wpAny_bind (wpAny_pure (wpAny_bind fin))
          | exact wpAny_bind fin
      | @cons x n c i ts b0 su p1 p2 r3 l3 hi hln hc hsu r ih =>
        intro w
        obtain ⟨b, hb1, hyes, hno⟩ := w
        refine wpAny_handleBy_cons (codeAny_handlers_test ?_) (by intro q; cases q)
        have LT : PySem.W.Looks (model X.prog X.w) hp (typeOf (.ref a)) cls := fun _ _ _ _ k q => wpAny_typeOf_ref (k _ _ gx) (by rw [zx.1]; exact q)
        have LM := PySem.W.exm_one (M := model X.prog X.w) K3.kIn LT hb1
        have test : ∀ {Q : Value → Shared → Prop} {E : Value → Shared → Prop}, Q c { t' with heap := hp } → wpAny (model X.prog X.w) (X.A.mark (some (.ref a))) (eval (.Name x p1) X.env) Q E { t' with heap := hp } := fun {Q E} q => by
          obtain ⟨u1, u2, u3⟩ := hc
          rcases u3 with u3 | ⟨u3, u4, u5⟩
          · exact ld_glob (X := X.suite a ((a, ox) :: (X.pn ++ pins))) SU u1 u3 q u2
          · exact ld_blt (X := X.suite a ((a, ox) :: (X.pn ++ pins))) SU u1 u3 u4 q u5 u2
        refine test (LM.here ?_)
        cases b with
        | false => exact ih (hno rfl)
        | true =>
          refine codeAny_handlers_suite_as (HandSPX.lands_againZ fl fun h4 fl4 up4 => ?_)
          have J4 : Inv X pins τ' G' { t' with heap := h4 } := J.landed nb fl4.1 ((up.trans up2).trans up4) os ag
          obtain ⟨oy, vy, gy, zy, dy⟩ := fl4.there
          have SV := J4.suite gy dy na aL aF
          refine store_ok (X := X.suite a ((a, oy) :: (X.pn ++ pins))) (v := .ref a) SV hN hi (.inl hln) rfl (fun s5 S5 => wpAny_mono ((hsu a oy cls d (X.pn ++ pins) zy ⟨_, dy⟩).run [] s5 _ G' _ S5 (hyes rfl J.len a na)) (fun f s6 hsp => ?_) fun _ _ z => z.elim) (.inr hln)
          have fin : ∀ {τ6 : L2.St} {G6 : Hp} {Q : Shared → Prop}, Inv (X.suite a ((a, oy) :: (X.pn ++ pins))) [] τ6 G6 s6 → (∀ s7, Inv X pins (τ6.set i none) G6 s7 → Q s7) → wpAny (model X.prog X.w) X.A (do bindName X.env n .none; unbindBehindTheSuite X.env n p2) (fun _ s7 => Q s7) X.xe s6 :=
            fun {_ _ _} S6 hq => gone_ok (S6.unsuite ok) hN hi hln hq
          cases f with
          | ret u =>
            obtain ⟨w6, τ6, G6, S6, r6, q6⟩ := hsp
            exact fin S6 fun _ J7 => ⟨_, _, _, J7, r6, q6⟩
          | next => obtain ⟨τ6, G6, S6, q6⟩ := hsp; exact fin S6 fun _ J7 => ⟨_, _, J7, q6⟩
          | brk => obtain ⟨τ6, G6, S6, q6⟩ := hsp; exact fin S6 fun _ J7 => ⟨_, _, J7, q6⟩
          | cont => obtain ⟨τ6, G6, S6, q6⟩ := hsp; exact fin S6 fun _ J7 => ⟨_, _, J7, q6⟩
    exact go hh w
  · cases f with
    | ret u =>
      obtain ⟨w, σ2, H2, J, r, z⟩ := hsp
      exact ⟨w, σ2, H2, J.ofTry ok, r, z⟩
    | next => obtain ⟨σ2, H2, J, z⟩ := hsp; exact wpAny_execs_nil ⟨σ2, H2, J.ofTry ok, z⟩
    | brk => obtain ⟨σ2, H2, J, z⟩ := hsp; exact ⟨σ2, H2, J.ofTry ok, z⟩
    | cont => obtain ⟨σ2, H2, J, z⟩ := hsp; exact ⟨σ2, H2, J.ofTry ok, z⟩
end K8
set_option maxRecDepth 100000
set_option maxHeartbeats 4000000
namespace K8
open PySem PySem.Spec PyProof.Rows L2
/-! ### an exception that is held: its type -/
inductive TyE (K : PySem.W.Frag) (H : Hp) : V → Value → Prop where
  | base {x : V} {t : Value} (h : TyX K H x t) : TyE K H x t
  | exc {a C : Addr} (e : H a = some (ExO (.ref C) a)) (c : ExcC K C) : TyE K H (.ref a) (.ref C)
theorem instE {h : Heap} {a C : Addr} {oe : Obj} {vs : Array Value} (e : h.get? a = some oe) (z : Zc (.ref C) none oe) (d : oe.data = .fields vs) : PySem.W.InstAt h a oe C none := by
  obtain ⟨o1, o2, o3, o4⟩ := oe
  obtain ⟨z1, z2⟩ := z
  dsimp only at z1 z2 d
  subst z1 z2 d
  exact ⟨e, rfl, rfl, trivial⟩
section
variable {X : Cx} {pins : List (Addr × Obj)} {σ : L2.St} {H : Hp} {s : Shared}
theorem exo_get {a : Addr} {cls : Value} (I : Inv X pins σ H s) (e : H a = some (ExO cls a)) : ∃ oe vs, s.heap.get? a = some oe ∧ Zc cls none oe ∧ oe.data = .fields vs := by
  obtain ⟨⟨oe, vs, g, z, d, _⟩, _, _⟩ := I.hok a _ e
  exact ⟨oe, vs, g, z, d⟩
theorem kit_ofE {x : V} {u t : Value} (I : Inv X pins σ H s) (rx : L2.RelV x u) (ty : TyE X.K H x t) : ∃ P : Heap → Prop, PySem.W.KitX X.K u t P ∧ P s.heap ∧ u ≠ .builtin "__main__.__loader__#opaque" := by
  cases ty with
  | base h => exact kit_of I rx h
  | @exc a C e c =>
    cases (show u = Value.ref a from rx)
    obtain ⟨oe, vs, g, z, d⟩ := exo_get I e
    exact ⟨_, PySem.W.handS_kitx_exc c.hg c.hk c.hs c.hd c.ha c.hn c.ht c.hm, instE g z d, fun z => nomatch z⟩
end
def rIsiE (K : PySem.W.Frag) : List V → Hp → VK → Prop := fun xs H Q => ∃ (x c : V) (t u : Value) (b : Bool), xs = [x, c] ∧ ClsV c u ∧ TyE K H x t ∧ PySem.W.kitOne K t u = some b ∧ Q (.bl b) H
def rIsiTE (K : PySem.W.Frag) : List V → Hp → VK → Prop := fun xs H Q => ∃ (x : V) (tp : Addr) (cs : List V) (t : Value) (us : List Value) (b : Bool), xs = [x, .ref tp] ∧ H tp = some (.tup cs) ∧ Paired ClsV cs us ∧ TyE K H x t ∧ PySem.W.kitAny K t us = some b ∧ Q (.bl b) H
section
variable {X : Cx}
theorem cr_isiE : CallR X (.builtin "isinstance") (rIsiE X.K) := by
  intro pins s σ H xs us Q I r ⟨x, c, t, u, b, e0, k, ty, e, q⟩
  subst e0
  obtain ⟨u1, u2, rfl, r1, r2⟩ := vals2 r
  obtain rfl := k.eq r2
  obtain ⟨P, Z, p, hx⟩ := kit_ofE I r1 ty
  exact PySem.W.kia_one Z I.kIn p e hx fun tk => ⟨.bl b, H, I.tok tk, rfl, q⟩
theorem cr_isiTE : CallR X (.builtin "isinstance") (rIsiTE X.K) := by
  intro pins s σ H xs us Q I r ⟨x, tp, cs, t, ws, b, e0, hT, k, ty, e, q⟩
  subst e0
  obtain ⟨u1, u2, rfl, r1, r2⟩ := vals2 r
  cases (show u2 = Value.ref tp from r2)
  obtain ⟨P, Z, p, hx⟩ := kit_ofE I r1 ty
  obtain ⟨_, its, rv, o, g1, g2, n, g3⟩ := (show ObjOk X.prog X.w H s.heap tp (.tup cs) from I.hok tp _ hT)
  obtain rfl := ClsV.all k rv
  obtain ⟨o1, o2, o3, o4⟩ := o
  dsimp only at g2 g3
  subst g2 g3
  exact PySem.W.kia_tup Z I.kIn p g1 e hx fun tk => ⟨.bl b, H, I.tok tk, rfl, q⟩
end
section
variable {X : Cx} (K : PySem.W.Frag) {e c : Expr} {es : List Expr} {te tc : TE} {t : TA} {pos p tpos : Pos} {k : Nat}
theorem eIsiE (hm : X.mg "isinstance" = none) (ha : PE X e te) (hc : PE X c tc) (h : X.K = K := by rfl) (hg : Gl X "isinstance" := by rfl) (h1 : starEach [e, c] X.env = (false, eval e X.env) :: starEach [c] X.env := by rfl) (h2 : starEach [c] X.env = (false, eval c X.env) :: starEach [] X.env := by rfl)
    (hpl : (backTo pos (starEach [c] X.env)).any (·.1) = false := by rfl) : PE X (.Call (.Name "isinstance" p) [e, c] [] pos) (tCB (rIsiE K) (tCons te (tCons tc tNil))) := by
  subst h; exact pe_callB cr_isiE hg hm PyProof.Rows.boot_isinstance (pa_cons ha (pa_cons hc pa_nil h2) h1) (by decide) (by decide) h1 hpl
theorem eIsiTE (hm : X.mg "isinstance" = none) (ha : PE X e te) (hc : PA X es t) (h : X.K = K := by rfl) (hg : Gl X "isinstance" := by rfl) (h1 : starEach [e, .Tuple es k tpos] X.env = (false, eval e X.env) :: starEach [.Tuple es k tpos] X.env := by rfl) (h2 : starEach [.Tuple es k tpos] X.env = (false, eval (.Tuple es k tpos) X.env) :: starEach [] X.env := by rfl)
    (hpl : (backTo pos (starEach [.Tuple es k tpos] X.env)).any (·.1) = false := by rfl) : PE X (.Call (.Name "isinstance" p) [e, .Tuple es k tpos] [] pos) (tCB (rIsiTE K) (tCons te (tCons (tTup t) tNil))) := by
  subst h; exact pe_callB cr_isiTE hg hm PyProof.Rows.boot_isinstance (pa_cons ha (pa_cons (pe_tup hc) pa_nil h2) h1) (by decide) (by decide) h1 hpl
end
/-! ### == of a held exception with itself -/
abbrev veTail : List Value := [.type "ValueError", .type "Exception", .type "BaseException", .type "object"]
theorem cmp_VE : CmpFacts "ValueError" veTail where
  mro := by kernel_rfl
  eq := .of (owner := "object") (n := "__eq__") (by rw [typeLookup_type, builtinLookup_eq_fast]; kernel_rfl) (by decide +kernel) (by decide +kernel) (by decide +kernel)
    (by first | exact .inl (by decide +kernel) | exact .inr (by decide +kernel)) (by rw [isSubtype_type]; kernel_rfl)
  ne := .of (owner := "object") (n := "__ne__") (by rw [typeLookup_type, builtinLookup_eq_fast]; kernel_rfl) (by decide +kernel) (by decide +kernel) (by decide +kernel)
    (by first | exact .inl (by decide +kernel) | exact .inr (by decide +kernel)) (by rw [isSubtype_type]; kernel_rfl)
  hasObject := by decide +kernel
  noRef := fun a => by first | rfl | simp
/-- a class right over ValueError without __eq__, __ne__, __init__ of its own -/
def cmpB (K : PySem.W.Frag) (C : Addr) : Bool := match K.lookup C with
  | some ⟨.type "type", _, .cls cd, sl⟩ => (match cd.mro, sl.toList with
    | .ref C' :: bm, [_, _, _, _, some (.builtin n), _] => C' == C && (n == "ValueError.__new__" && (!cd.hasDel && (bm == veTail && (PySem.W.nsOkIn K cd.ns && (PySem.W.nsIn K cd.ns "__eq__" == some none && (PySem.W.nsIn K cd.ns "__ne__" == some none && PySem.W.nsIn K cd.ns "__init__" == some none))))))
    | _, _ => false)
  | _ => false
theorem cmp_obj {K : PySem.W.Frag} {h : Heap} {C : Addr} (X : K.In h) (q : cmpB K C = true) :
    ∃ N nm qn bs hdct sn sub ab col dd k0 k1 k2 k3 k5 mN, h.get? C = some (excClassObj nm qn C N bs veTail hdct sn sub ab col dd k0 k1 k2 k3 k5 "ValueError.__new__") ∧ h.Ns N mN ∧ mN "__eq__" = none ∧ mN "__ne__" = none ∧ mN "__init__" = none := by
  unfold cmpB at q
  split at q
  · rename_i dd cd sl ho
    split at q
    · rename_i C' bm k0 k1 k2 k3 n k5 hm hs
      simp only [Bool.and_eq_true, beq_iff_eq, Bool.not_eq_true'] at q
      obtain ⟨rfl, rfl, hdel, rfl, hok, h1, h2, h3⟩ := q
      obtain ⟨nm, bs, mro, ns, qn, hd, sn, sub, ab, col, del⟩ := cd
      dsimp only at hm hdel hok h1 h2 h3
      subst hm hdel
      obtain ⟨l⟩ := sl
      dsimp only at hs
      subst hs
      exact ⟨ns, nm, qn, bs, hd, sn, sub, ab, col, dd, k0, k1, k2, k3, k5, _, X _ _ ho, .of_isNs (PySem.W.isNs_of_in X hok), PySem.W.nsMap_none_of_in X hok h1, PySem.W.nsMap_none_of_in X hok h2, PySem.W.nsMap_none_of_in X hok h3⟩
    · cases q
  · cases q
theorem op_eqEx {X : Cx} {pins : List (Addr × Obj)} {σ : L2.St} {H : Hp} {s : Shared} {a C : Addr} {Q : VK} (hu : X.A.units < cLine) (I : Inv X pins σ H s) (e : H a = some (ExO (.ref C) a)) (c : cmpB X.K C = true) (q : Q (.bl true) H) : wpAny (model X.prog X.w) X.A (compareOp .Eq (.ref a) (.ref a)) (EP X pins σ Q) X.xe s := by
  obtain ⟨oe, vs, g, z, d⟩ := exo_get I e
  obtain ⟨N, nm, qn, bs, hdct, sn, sub, ab, col, dd, k0, k1, k2, k3, k5, mN, hC, hN, h1, h2, h3⟩ := cmp_obj I.kIn c
  obtain ⟨hp, g', d', tk, os⟩ := s
  exact compareOp_eq_same cmp_VE ⟨oe, nm, qn, N, bs, hdct, sn, sub, ab, col, dd, k0, k1, k2, k3, k5, _, mN, g, z.1, hC, hN, h1, h2⟩ hu ⟨.bl true, H, I, rfl, q⟩
/-- x == y: plain values, or one held exception twice -/
def rEqE (K : PySem.W.Frag) : R2 := fun x y H Q => (scal x y = true ∧ Q (.bl (decide (x = y))) H) ∨ ∃ a C, x = .ref a ∧ y = .ref a ∧ H a = some (ExO (.ref C) a) ∧ cmpB K C = true ∧ Q (.bl true) H
theorem oEqE {X : Cx} (K : PySem.W.Frag) (hu : X.A.units + 1 < cLine) (h : X.K = K := by rfl) : OpR X (compareOp .Eq) (rEqE K) := by
  subst h
  intro pins s σ H x y v u Q I rx ry h
  rcases h with h | ⟨a, C, rfl, rfl, e, c, q⟩
  · exact op_eq pins s σ H x y v u Q I rx ry h
  · cases rx
    cases ry
    exact op_eqEx (by omega) I e c q
/-! ### X(), an own exception class without an __init__, as a value -/
theorem pe_exc0 {X : Cx} {C : Addr} {x : Str} {p pos : Pos} (q : cmpB X.K C = true) (gC : X.mg x = some (.ref C)) (kC : PySem.W.keepIn X.K (.ref C) = true) (hg : Gl X x) (hdb : (x == ("__debug__" : Str)) = false := by decide) :
    PE X (.Call (.Name x p) [] [] pos) (fun _ H Q => ∀ a, H a = none → Q (.ref a) (upd H a (ExO (.ref C) a))) := by
  refine ⟨fun pins s σ H Q I h => wpAny_Call_Name_kw (ld_glob I hg gC (PySem.W.callWith_K0 I.kIn kC ?_) hdb)⟩
  obtain ⟨N, nm, qn, bs, hdct, sn, sub, ab, col, dd, k0, k1, k2, k3, k5, mN, hC, hN, h1, h2, h3⟩ := cmp_obj I.kIn q
  obtain ⟨hp, g', d', tk, os⟩ := s
  refine wpAny_call_exc_subT F.excBase_ValueError .base hC hN h3 (fun h' a hm => ?_) (by show 0 ≤ sizeLine; decide)
  have hn : H a = none := I.hok.gone hm.new
  obtain ⟨t, ht, _, _⟩ := hm.there
  exact ⟨.ref a, _, I.laidN hm.keeps hm.new hn (exO_ok ht ⟨rfl, rfl⟩ rfl rfl rfl (show 4 < 6 by decide)), rfl, h a hn⟩
end K8
set_option maxRecDepth 100000
set_option maxHeartbeats 4000000
namespace K8
open PySem PySem.Spec PyProof.Rows L2 RZ
/-! ### kinds, once more -/
section
variable {K : PySem.W.Frag} {n : String}
theorem kit_k {m : String} {f : String → Bool} (h : n ∈ kinds) (e : ∀ k ∈ kinds, kitB k m = some (f k)) : PySem.W.kitOne K (.type n) (.type m) = some (f n) := kit_ty (e n h)
theorem kit_dict (h : n ∈ kinds) : PySem.W.kitOne K (.type n) (.type "dict") = some (n == "dict") := kit_k (f := fun n => n == "dict") h (by decide +kernel)
theorem kit_int (h : n ∈ kinds) : PySem.W.kitOne K (.type n) (.type "int") = some (n == "int" || n == "bool") := kit_k (f := fun n => n == "int" || n == "bool") h (by decide +kernel)
theorem kit_bool (h : n ∈ kinds) : PySem.W.kitOne K (.type n) (.type "bool") = some (n == "bool") := kit_k (f := fun n => n == "bool") h (by decide +kernel)
theorem kit_list (h : n ∈ kinds) : PySem.W.kitOne K (.type n) (.type "list") = some (n == "list") := kit_k (f := fun n => n == "list") h (by decide +kernel)
theorem kit_tup (h : n ∈ kinds) : PySem.W.kitOne K (.type n) (.type "tuple") = some (n == "tuple") := kit_k (f := fun n => n == "tuple") h (by decide +kernel)
theorem kitAny_no {t : Value} : ∀ {cs : List Value}, (∀ c ∈ cs, PySem.W.kitOne K t c = some false) → PySem.W.kitAny K t cs = some false
  | [], _ => kitAny_nil
  | c :: cs, h => kitAny_cons (h c List.mem_cons_self) (fun _ => kitAny_no fun d hd => h d (List.mem_cons_of_mem _ hd)) (fun z => by cases z)
theorem kit_4 (h : n ∈ kinds) (e : n = "NoneType" ∨ n = "str") : PySem.W.kitAny K (.type n) [.type "int", .type "list", .type "tuple", .type "dict"] = some false := by
  refine kitAny_no fun c hc => ?_
  simp only [List.mem_cons, List.not_mem_nil, or_false] at hc
  rcases hc with rfl | rfl | rfl | rfl
  · rw [kit_int h]; rcases e with rfl | rfl <;> decide
  · rw [kit_list h]; rcases e with rfl | rfl <;> decide
  · rw [kit_tup h]; rcases e with rfl | rfl <;> decide
  · rw [kit_dict h]; rcases e with rfl | rfl <;> decide
end
/-- what is known of the class of a held exception -/
structure ExV (K : PySem.W.Frag) (C : Addr) : Prop where
  c : ExcC K C
  eq : cmpB K C = true
  no : ∀ m ∈ (["list", "tuple", "dict", "int"] : List String), PySem.W.kitOne K (.ref C) (.type m) = some false
/-- two values that are the same, to a depth -/
def Sm (K : PySem.W.Frag) (H : Hp) : Nat → V → V → Prop
  | 0, _, _ => False
  | n + 1, x, y => (x = y ∧ (x = .non ∨ (∃ b, x = .bl b) ∨ (∃ i, x = .int i) ∨ ∃ z, x = .str z)) ∨
    (∃ a b xs ys, x = .ref a ∧ y = .ref b ∧ xs.length ≤ 1000000 ∧ ((SqL K H a xs ∧ SqL K H b ys) ∨ (SqT K H a xs ∧ SqT K H b ys)) ∧ Paired (Sm K H n) xs ys) ∨
    (∃ a, x = .ref a ∧ y = .ref a ∧ H a = some (.dK []) ∧ 0 < n) ∨ ∃ a C, x = .ref a ∧ y = .ref a ∧ H a = some (ExO (.ref C) a) ∧ ExV K C
theorem Sm.same {K : PySem.W.Frag} {H H' : Hp} (s : Same H H') : ∀ {n : Nat} {x y : V}, Sm K H n x y → Sm K H' n x y
  | 0, _, _, h => h
  | n + 1, x, y, h => by
    rcases h with h | ⟨a, b, xs, ys, e1, e2, hl, hq, hp⟩ | ⟨a, e1, e2, h, hn⟩ | ⟨a, C, e1, e2, h, c⟩
    · exact .inl h
    · refine .inr (.inl ⟨a, b, xs, ys, e1, e2, hl, ?_, Paired_mono (fun _ _ q => Sm.same s q) hp⟩)
      rcases hq with ⟨q1, q2⟩ | ⟨q1, q2⟩
      · exact .inl ⟨s.seq q1, s.seq q2⟩
      · exact .inr ⟨sSeqT s q1, sSeqT s q2⟩
    · exact .inr (.inr (.inl ⟨a, e1, e2, s _ _ h, hn⟩))
    · exact .inr (.inr (.inr ⟨a, C, e1, e2, s _ _ h, c⟩))
def spSame (K : PySem.W.Frag) (n : Nat) : Sp := fun vs H Q _ => ∃ x y, vs = [x, y] ∧ Sm K H n x y ∧ ∀ H', Same H H' → Q (.bl true) H'
def iZipAI (K : PySem.W.Frag) (vs : List V) (H1 : Hp) (R : It → Hp → Prop) : Prop := ∃ a b xs ys, vs = [.ref a, .ref b] ∧ ((SqL K H1 a xs ∧ SqL K H1 b ys ∧ R (Itz K a b) H1) ∨ (SqT K H1 a xs ∧ SqT K H1 b ys ∧ R (ItzT K a b) H1))
def iZipB (K : PySem.W.Frag) (ta : TA) : TI := fun σ H R => ta σ H fun vs H1 => iZipAI K vs H1 R
theorem piZipA {X : Cx} (K : PySem.W.Frag) {e e2 : Expr} {ta : TA} {p pos tpos : Pos} {elts : List Expr} {kk : Nat} (hg : Gl X "zip") (hm : X.mg "zip" = none) (ha : PA X [e, e2] ta) (h : X.K = K := by rfl)
    (hs : starEach [e, e2] X.env = (false, eval e X.env) :: starEach [e2] X.env := by rfl) (hpl : (backTo pos (starEach [e2] X.env)).any (·.1) = false := by rfl) :
    PI X (.Tuple elts kk tpos) (.Call (.Name "zip" p) [e, e2] [] pos) (iZipB K ta) := by subst h; exact pi_zipA hg hm ha hs hpl
theorem walk_zipT {K : PySem.W.Frag} {a b : Addr} {xs ys : List V} {n : Nat} (hn : n = min xs.length ys.length) : Walk (ItzT K a b) n (fun H => SqT K H a xs ∧ SqT K H b ys) (YPair (fun i => xs[i]?) (fun i => ys[i]?)) := by
  subst hn
  refine ⟨fun i G hi q => ?_, fun G q => ⟨xs, ys, q.1, q.2, by omega⟩, fun i G v G' _ q ⟨T, x, z, e1, e2, e3, e4, e5⟩ => ⟨T, x, z, e1, e2, e3, e4 xs q.1, e5 ys q.2⟩⟩
  have h1 : i < xs.length := by omega
  have h2 : i < ys.length := by omega
  exact ⟨xs, ys, xs[i], ys[i], q.1, q.2, by simp [h1], by simp [h2]⟩
/-- zip of two rows of one kind, whichever -/
theorem iZip_of {K : PySem.W.Frag} {H1 : Hp} {a b : Addr} {xs ys : List V} {R : It → Hp → Prop} (hl : xs.length = ys.length) (h : (SqL K H1 a xs ∧ SqL K H1 b ys) ∨ (SqT K H1 a xs ∧ SqT K H1 b ys)) (main : ∀ (J : It) (G : Hp → Prop), Walk J xs.length G (YPair (fun i => xs[i]?) (fun i => ys[i]?)) → (∀ H, Same H1 H → G H) → R J H1) :
    iZipAI K [.ref a, .ref b] H1 R := by
  have e : xs.length = min xs.length ys.length := by omega
  refine ⟨a, b, xs, ys, rfl, ?_⟩
  rcases h with ⟨h1, h2⟩ | ⟨h1, h2⟩
  · exact .inl ⟨h1, h2, main _ _ (walk_zip e) fun H s => ⟨s.seq h1, s.seq h2⟩⟩
  · exact .inr ⟨h1, h2, main _ _ (walk_zipT e) fun H s => ⟨sSeqT s h1, sSeqT s h2⟩⟩
theorem paired_at {α β : Type} {R : α → β → Prop} : ∀ {as : List α} {bs : List β} {i : Nat} {a : α} {b : β}, Paired R as bs → as[i]? = some a → bs[i]? = some b → R a b
  | _, _, i, _, _, .nil, h, _ => by simp at h
  | _, _, 0, _, _, .cons q _, h, g => by simp at h g; rw [← h, ← g]; exact q
  | _, _, i + 1, _, _, .cons _ t, h, g => paired_at (i := i) t (by simpa using h) (by simpa using g)
theorem sqL_ty {K : PySem.W.Frag} {H : Hp} {a : Addr} {xs : List V} (h : SqL K H a xs) : TyX K H (.ref a) (.type "list") := by
  rcases h with (h | ⟨o, h⟩) | ⟨o, its, n, h, hc, _⟩
  · exact .base (.lst h)
  · exact .base (.frz h)
  · exact .kList h hc
theorem sqT_ty {K : PySem.W.Frag} {H : Hp} {a : Addr} {xs : List V} (h : SqT K H a xs) : TyX K H (.ref a) (.type "tuple") := by
  rcases h with (h | ⟨o, h⟩) | ⟨o, its, n, h, hc, _⟩
  · exact .base (.tup h)
  · exact .fTuple h
  · exact .kTuple h hc
theorem sTyE {K : PySem.W.Frag} {H H' : Hp} (s : Same H H') {v : V} {n : String} (h : TyX K H v (.type n)) : TyE K H' v (.type n) := .base (sTyX s h)
section
variable {P : Program} {w : World} {K : PySem.W.Frag} {mg : Str → Option Value} {base : Heap}
theorem sc_same : FnScope ["_law_found", "_law_due", "_law_x", "_law_y"] ["_law_found", "_law_due"] (defScope s_same) := ⟨rfl, rfl, rfl, by decide +kernel, rfl, by decide +kernel, by decide +kernel⟩
theorem ok_same (T : Txt K mg) : ∀ n, FnOk P w K mg base CX0 (n + 1) T.same.f T.same.fd ["_law_found", "_law_due"] (spSame K n)
  | 0 => ⟨fun vs H Q E ⟨x, y, e, _⟩ => by rw [e]; rfl, fun A outer s H args us vs Q E _ _ _ _ ⟨x, y, _, h, _⟩ => h.elim⟩
  | n + 1 => by
    have G_same : FnOk P w K mg base CX0 (n + 1) T.same.f T.same.fd _ (spSame K n) := ok_same T n
    refine T.same.F.ok sc_same (fun vs H Q E h => ?_) (fun cdv A outer s H vs Q E hr h => ?_)
    · obtain ⟨x, y, rfl, _⟩ := h
      rfl
    obtain ⟨x, y, rfl, hsm, q⟩ := h
    have nd := sc_same.nd
    have hu := hu_of hr
    refine ⟨_, (pss_cons (ps_if (pt_val (eIsiTE K T.z_isinstance (pv 1) (pa_cons (eTy T.z_list PyProof.Rows.boot_list) (pa_cons (eTy T.z_tuple PyProof.Rows.boot_tuple) pa_nil))))
      (pss_cons (ps_if (PW.pt (pw_or (pt_cmpR op_ne (eIsiE K T.z_isinstance (pv 0) (eTy T.z_list PyProof.Rows.boot_list)) (eIsiE K T.z_isinstance (pv 1) (eTy T.z_list PyProof.Rows.boot_list)) (nomark _)) (pw_or1 (pt_cmpR op_ne (eIsiE K T.z_isinstance (pv 0) (eTy T.z_tuple PyProof.Rows.boot_tuple)) (eIsiE K T.z_isinstance (pv 1) (eTy T.z_tuple PyProof.Rows.boot_tuple)) (nomark _)))))
        (pss_one (ps_ret pe_bl)) pss_nil)
      (pss_one (ps_ret (pe_and (pe_cmpR op_eq (eLen K T.z_len (pv 0)) (eLen K T.z_len (pv 1)) (nomark _)) (pe_one (eAll K rfl T.z_all (pe_lc (own := [("_law_x", 2), ("_law_y", 3)]) (g := gTup K 2 (gCons (gName 2) (gCons (gName 3) gNil))) (tt := tYes) rfl nd (piZipA K rfl T.z_zip (pa_cons (pv 0) (pa_cons (pv 1) pa_nil))) (blkOk_by (N := ["_law_found", "_law_due", "_law_x", "_law_y"]) (sc := defScope s_same) (by decide +kernel)) (fun _ _ _ _ _ => (gTu (K := K) rfl (pgs_cons (pg_name (i := 2) nd rfl (Or.inl rfl)) (pgs_cons (pg_name (i := 3) nd rfl (Or.inl rfl)) pgs_nil)))) (fun _ _ _ _ _ => pts_nil) (fun _ _ _ _ _ => (eC T.same G_same hr (pa_cons (pv 2) (pa_cons (pv 3) pa_nil))))))))))) pss_nil)
    (pss_cons (ps_if (pt_val (eIsiE K T.z_isinstance (pv 1) (eTy T.z_dict PyProof.Rows.boot_dict)))
      (pss_one (ps_ret (pe_and (eIsiE K T.z_isinstance (pv 0) (eTy T.z_dict PyProof.Rows.boot_dict)) (pe_one (eC T.same G_same hr (pa_cons (LiI.pe_listItems rfl (pv 0) rfl T.z_list PyProof.Rows.boot_list) (pa_cons (LiI.pe_listItems rfl (pv 1) rfl T.z_list PyProof.Rows.boot_list) pa_nil))))))) pss_nil)
    (pss_cons (ps_if (pt_val (eIsiE K T.z_isinstance (pv 1) (eTy T.z_int PyProof.Rows.boot_int)))
      (pss_one (ps_ret (pe_and (eIsiE K T.z_isinstance (pv 0) (eTy T.z_int PyProof.Rows.boot_int)) (pe_and (pe_cmpR op_eq (eIsiE K T.z_isinstance (pv 0) (eTy T.z_bool PyProof.Rows.boot_bool)) (eIsiE K T.z_isinstance (pv 1) (eTy T.z_bool PyProof.Rows.boot_bool)) (nomark _)) (pe_one (pe_cmpR (oEqE K hu) (pv 0) (pv 1) (nomark _))))))) pss_nil)
    (pss_one (ps_ret (pe_and (pe_not (eIsiTE K T.z_isinstance (pv 0) (pa_cons (eTy T.z_int PyProof.Rows.boot_int) (pa_cons (eTy T.z_list PyProof.Rows.boot_list) (pa_cons (eTy T.z_tuple PyProof.Rows.boot_tuple) (pa_cons (eTy T.z_dict PyProof.Rows.boot_dict) pa_nil)))))) (pe_one (pe_cmpR (oEqE K hu) (pv 0) (pv 1) (nomark _))))))))), ?_⟩
    have tests : ∀ {kd : String}, kd ∈ kinds → TyX K H y (.type kd) → True := fun _ _ => trivial
    refine ⟨_, rfl, (by show 2 ≤ sizeLine; decide), fun p np => ?_⟩
    have s1 := same_new (o := .tup [.ty "list", .ty "tuple"]) np
    have hp1 : upd H p (.tup [.ty "list", .ty "tuple"]) p = some (.tup [.ty "list", .ty "tuple"]) := upd_same
    have sm1 := hsm.same s1
    generalize upd H p (.tup [.ty "list", .ty "tuple"]) = H1 at s1 hp1 sm1 ⊢
    rcases sm1 with ⟨rfl, hb⟩ | ⟨a, b, xs, ys, rfl, rfl, hl, hq, hp⟩ | ⟨a, rfl, rfl, hd, hn⟩ | ⟨a, C, rfl, rfl, he, hv⟩
    · obtain ⟨kd, hk, ty, hsc, hkd⟩ : ∃ kd, kd ∈ kinds ∧ (∀ G, TyX K G x (.type kd)) ∧ scal x x = true ∧ ((kd = "NoneType" ∨ kd = "str") ∨ kd = "int" ∨ kd = "bool") := by
        rcases hb with rfl | ⟨b, rfl⟩ | ⟨i, rfl⟩ | ⟨z, rfl⟩
        · exact ⟨"NoneType", by decide, fun _ => .base .non, rfl, .inl (.inl rfl)⟩
        · exact ⟨"bool", by decide, fun _ => .base (.bl b), rfl, .inr (.inr rfl)⟩
        · exact ⟨"int", by decide, fun _ => .base (.int i), rfl, .inr (.inl rfl)⟩
        · exact ⟨"str", by decide, fun _ => .base (.str z), rfl, .inl (.inr rfl)⟩
      have n1 : PySem.W.kitAny K (.type kd) [.type "list", .type "tuple"] = some false := by rw [kit_seq hk]; rcases hkd with (rfl | rfl) | rfl | rfl <;> decide
      have n2 : PySem.W.kitOne K (.type kd) (.type "dict") = some false := by rw [kit_dict hk]; rcases hkd with (rfl | rfl) | rfl | rfl <;> decide
      refine ⟨x, p, [.ty "list", .ty "tuple"], .type kd, [.type "list", .type "tuple"], false, rfl, hp1, .cons (.ty _) (.cons (.ty _) .nil), .base (ty _), n1, _, rfl, iteF ?_⟩
      refine ⟨_, rfl, x, .ty "dict", .type kd, .type "dict", false, rfl, .ty _, .base (ty _), n2, _, rfl, iteF ?_⟩
      rcases hkd with hkd | hkd
      · have n3 : PySem.W.kitOne K (.type kd) (.type "int") = some false := by rw [kit_int hk]; rcases hkd with rfl | rfl <;> decide
        refine ⟨_, rfl, x, .ty "int", .type kd, .type "int", false, rfl, .ty _, .base (ty _), n3, _, rfl, iteF ?_⟩
        refine ⟨_, rfl, (by show 4 ≤ sizeLine; decide), fun p2 np2 => ⟨x, p2, [.ty "int", .ty "list", .ty "tuple", .ty "dict"], .type kd, [.type "int", .type "list", .type "tuple", .type "dict"], false, rfl, upd_same, .cons (.ty _) (.cons (.ty _) (.cons (.ty _) (.cons (.ty _) .nil))), .base (ty _), kit_4 hk hkd, _, rfl, _, rfl, iteT ⟨_, rfl, _, rfl, .inl ⟨hsc, ?_⟩⟩⟩⟩
        rw [decide_eq_true rfl]
        exact q _ (s1.trans (same_new np2))
      · have n3 : PySem.W.kitOne K (.type kd) (.type "int") = some true := by rw [kit_int hk]; rcases hkd with rfl | rfl <;> decide
        refine ⟨_, rfl, x, .ty "int", .type kd, .type "int", true, rfl, .ty _, .base (ty _), n3, _, rfl, iteT ?_⟩
        refine ⟨_, rfl, x, .ty "int", .type kd, .type "int", true, rfl, .ty _, .base (ty _), n3, _, rfl, iteT ?_⟩
        refine ⟨_, rfl, x, .ty "bool", .type kd, .type "bool", _, rfl, .ty _, .base (ty _), kit_bool hk, _, rfl, x, .ty "bool", .type kd, .type "bool", _, rfl, .ty _, .base (ty _), kit_bool hk, rfl, _, rfl, iteT' (decide_eq_true rfl) ⟨_, rfl, _, rfl, .inl ⟨hsc, ?_⟩⟩⟩
        rw [decide_eq_true rfl]
        exact q _ s1
    · have hlen : xs.length = ys.length := Paired.length hp
      obtain ⟨kd, hk, ta, tb, hkd⟩ : ∃ kd, kd ∈ kinds ∧ TyX K H1 (.ref a) (.type kd) ∧ TyX K H1 (.ref b) (.type kd) ∧ (kd = "list" ∨ kd = "tuple") := by
        rcases hq with ⟨q1, q2⟩ | ⟨q1, q2⟩
        · exact ⟨"list", by decide, sqL_ty q1, sqL_ty q2, .inl rfl⟩
        · exact ⟨"tuple", by decide, sqT_ty q1, sqT_ty q2, .inr rfl⟩
      have n1 : PySem.W.kitAny K (.type kd) [.type "list", .type "tuple"] = some true := by rw [kit_seq hk]; rcases hkd with rfl | rfl <;> decide
      refine ⟨.ref b, p, [.ty "list", .ty "tuple"], .type kd, [.type "list", .type "tuple"], true, rfl, hp1, .cons (.ty _) (.cons (.ty _) .nil), .base tb, n1, _, rfl, iteT ?_⟩
      refine ⟨_, rfl, .ref a, .ty "list", .type kd, .type "list", _, rfl, .ty _, .base ta, kit_list hk, _, rfl, .ref b, .ty "list", .type kd, .type "list", _, rfl, .ty _, .base tb, kit_list hk, rfl, _, rfl, iteF' (by simp) ?_⟩
      refine ⟨_, rfl, .ref a, .ty "tuple", .type kd, .type "tuple", _, rfl, .ty _, .base ta, kit_tup hk, _, rfl, .ref b, .ty "tuple", .type kd, .type "tuple", _, rfl, .ty _, .base tb, kit_tup hk, rfl, _, rfl, iteF' (by simp) ?_⟩
      have qa : SqL K H1 a xs ∨ SqT K H1 a xs := by rcases hq with ⟨q1, q2⟩ | ⟨q1, q2⟩; exact .inl q1; exact .inr q1
      have qb : SqL K H1 b ys ∨ SqT K H1 b ys := by rcases hq with ⟨q1, q2⟩ | ⟨q1, q2⟩; exact .inl q2; exact .inr q2
      refine ⟨_, rfl, a, xs, rfl, qa, _, rfl, b, ys, rfl, qb, rfl, _, rfl, iteT' (decide_eq_true (by rw [hlen])) ?_⟩
      refine ⟨_, rfl, _, rfl, ?_⟩
      dsimp only [tNil]
      refine iZip_of hlen hq fun J Gd wk hG D nD => ?_
      refine lc_p wk nD hl (fun i _ y => y = .bl true) (fun _ _ _ _ _ _ r => r) (fun _ => true) (fun Y sY => hG Y sY) ?_ ?_
      · rintro i x Y Y' k1 k2 hi sY ⟨T, x1, y1, rfl, nT, rfl, ex, ey⟩ k1' _
        have st := same_new (o := .tup [x1, y1]) nT
        have hxy := paired_at hp ex ey
        refine ⟨T, _, rfl, SqT.of upd_same, rfl, _, _, rfl, _, _, rfl, rfl, rfl, tYesI ⟨_, rfl, _, rfl, x1, y1, rfl, (hxy.same sY).same st, fun H2 s2 => k1' rfl _ _ (st.trans s2) rfl⟩⟩
      · intro Y zs sY hD pr
        rw [filter_true] at pr
        have e := Paired_map (f := fun _ : Nat => V.bl true) pr
        refine ⟨D, (List.range xs.length).map fun _ => true, rfl, SqL.of (by rw [hD, e, List.map_map]; rfl), ?_⟩
        have : ((List.range xs.length).map fun _ => true).all id = true := by simp
        rw [this]
        exact q _ (s1.trans sY)
    · have ty : ∀ {G : Hp}, Same H1 G → TyX K G (.ref a) (.type "dict") := fun s => .base (.dK (s _ _ hd))
      refine ⟨.ref a, p, [.ty "list", .ty "tuple"], .type "dict", [.type "list", .type "tuple"], _, rfl, hp1, .cons (.ty _) (.cons (.ty _) .nil), .base (ty (Same.refl _)), kit_seq (n := "dict") (by decide), _, rfl, iteF ?_⟩
      refine ⟨_, rfl, .ref a, .ty "dict", .type "dict", .type "dict", _, rfl, .ty _, .base (ty (Same.refl _)), kit_dict (n := "dict") (by decide), _, rfl, iteT ?_⟩
      refine ⟨_, rfl, .ref a, .ty "dict", .type "dict", .type "dict", _, rfl, .ty _, .base (ty (Same.refl _)), kit_dict (n := "dict") (by decide), _, rfl, iteT ?_⟩
      refine ⟨_, rfl, a, [], rfl, hd, fun H2 p2 ts s2 np2 nts pts hp2 pr2 => ⟨_, rfl, a, [], rfl, s2 _ _ hd, fun H3 p3 us s3 np3 nus pus hp3 pr3 => ?_⟩⟩
      have e2 : ts = [] := List.eq_nil_of_length_eq_zero (Paired.length pr2)
      have e3 : us = [] := List.eq_nil_of_length_eq_zero (Paired.length pr3)
      subst e2 e3
      obtain ⟨m, rfl⟩ : ∃ m, n = m + 1 := ⟨n - 1, by omega⟩
      exact ⟨.ref p2, .ref p3, rfl, .inr (.inl ⟨p2, p3, [], [], rfl, rfl, by decide, .inl ⟨SqL.of (s3 _ _ hp2), SqL.of hp3⟩, .nil⟩), fun H4 s4 => q _ (((s1.trans s2).trans s3).trans s4)⟩
    · have ty : ∀ {G : Hp}, Same H1 G → TyE K G (.ref a) (.ref C) := fun s => .exc (s _ _ he) hv.c
      have no : ∀ {cs : List Value}, (∀ c ∈ cs, ∃ m ∈ (["list", "tuple", "dict", "int"] : List String), c = .type m) → PySem.W.kitAny K (.ref C) cs = some false := fun h => kitAny_no fun c hc => by
        obtain ⟨m, hm, rfl⟩ := h c hc
        exact hv.no m hm
      have mem2 : ∀ c ∈ ([.type "list", .type "tuple"] : List Value), ∃ m ∈ (["list", "tuple", "dict", "int"] : List String), c = .type m := by
        intro c hc
        simp only [List.mem_cons, List.not_mem_nil, or_false] at hc
        rcases hc with rfl | rfl
        · exact ⟨"list", by decide, rfl⟩
        · exact ⟨"tuple", by decide, rfl⟩
      have mem4 : ∀ c ∈ ([.type "int", .type "list", .type "tuple", .type "dict"] : List Value), ∃ m ∈ (["list", "tuple", "dict", "int"] : List String), c = .type m := by
        intro c hc
        simp only [List.mem_cons, List.not_mem_nil, or_false] at hc
        rcases hc with rfl | rfl | rfl | rfl
        · exact ⟨"int", by decide, rfl⟩
        · exact ⟨"list", by decide, rfl⟩
        · exact ⟨"tuple", by decide, rfl⟩
        · exact ⟨"dict", by decide, rfl⟩
      refine ⟨.ref a, p, [.ty "list", .ty "tuple"], .ref C, [.type "list", .type "tuple"], false, rfl, hp1, .cons (.ty _) (.cons (.ty _) .nil), ty (Same.refl _), no mem2, _, rfl, iteF ?_⟩
      refine ⟨_, rfl, .ref a, .ty "dict", .ref C, .type "dict", false, rfl, .ty _, ty (Same.refl _), hv.no "dict" (by decide), _, rfl, iteF ?_⟩
      refine ⟨_, rfl, .ref a, .ty "int", .ref C, .type "int", false, rfl, .ty _, ty (Same.refl _), hv.no "int" (by decide), _, rfl, iteF ?_⟩
      refine ⟨_, rfl, (by show 4 ≤ sizeLine; decide), fun p2 np2 => ⟨.ref a, p2, [.ty "int", .ty "list", .ty "tuple", .ty "dict"], .ref C, [.type "int", .type "list", .type "tuple", .type "dict"], false, rfl, upd_same, .cons (.ty _) (.cons (.ty _) (.cons (.ty _) (.cons (.ty _) .nil))), ty (same_new np2), no mem4, _, rfl, _, rfl, iteT ⟨_, rfl, _, rfl, .inr ⟨a, C, rfl, rfl, same_new np2 _ _ he, hv.eq, ?_⟩⟩⟩⟩
      exact q _ (s1.trans (same_new np2))
end
end K8
set_option maxRecDepth 100000
set_option maxHeartbeats 4000000
namespace K8
open PySem PySem.Spec PyProof.Rows L2
/-! ### promises of defs that may raise -/
theorem fn_lift {P : Program} {w : World} {K : PySem.W.Frag} {mg : Str → Option Value} {base : Heap} {CX : CXT} {k : Nat} {f : Addr} {fd : FuncData} {ps : List Str} {sp : Sp} (F : FnOk P w K mg base CX0 k f fd ps sp) : FnOk P w K mg base CX k f fd ps sp :=
  ⟨F.len, fun A outer s H args us vs Q E hr e0 hb r h => codeAny_mono (F.run A outer s H args us vs Q E hr e0 hb r h) fun r s' q => by
    cases r with
    | error e => exact q.elim
    | ok fl =>
      cases fl with
      | ret u => exact q
      | next => exact q.elim
      | brk => exact q.elim
      | cont => exact q.elim⟩
def spOr (a b : Sp) : Sp := fun vs H Q E => a vs H Q E ∨ b vs H Q E
theorem fn_or {P : Program} {w : World} {K : PySem.W.Frag} {mg : Str → Option Value} {base : Heap} {CX : CXT} {k : Nat} {f : Addr} {fd : FuncData} {ps : List Str} {a b : Sp} (F : FnOk P w K mg base CX k f fd ps a) (G : FnOk P w K mg base CX k f fd ps b) : FnOk P w K mg base CX k f fd ps (spOr a b) :=
  ⟨fun vs H Q E h => h.elim (F.len vs H Q E) (G.len vs H Q E), fun A outer s H args us vs Q E hr e0 hb r h => h.elim (F.run A outer s H args us vs Q E hr e0 hb r) (G.run A outer s H args us vs Q E hr e0 hb r)⟩
theorem eCX {X : Cx} {K : PySem.W.Frag} {e : Expr} {es : List Expr} {t : TA} {p pos : Pos} {mg : Str → Option Value} {st : Stmt} {fx : Str} {ps : List Str} {k : Nat} {sp : Sp} {P : Program} {w : World} {base : Heap} {E : XK} (tk : Takes X (fun cls d _ H => E cls d H)) (D : DefD K mg fx st ps) (G : FnOk P w K mg base (L2.CX P w) k D.f D.fd ps sp) (hr : Room k X.A) (ha : PA X (e :: es) t)
    (h1 : X.prog = P := by rfl) (h2 : X.w = w := by rfl) (h3 : X.K = K := by rfl) (h4 : X.mg = mg := by rfl) (h5 : X.base = base := by rfl)
    (hg : Gl X fx := by rfl) (hdb : (fx == ("__debug__" : Str)) = false := by decide) (he : starEach (e :: es) X.env = (false, eval e X.env) :: starEach es X.env := by rfl) (hpl : (backTo pos (starEach es X.env)).any (·.1) = false := by rfl) :
    PE X (.Call (.Name fx p) (e :: es) [] pos) (tCall sp [] E t) := by
  subst h1 h2 h3 h4 h5
  exact pe_call G hr hg D.g D.F.kp D.b .nil (passes_call tk fun _ _ _ _ h => h) ha hdb he hpl
/-! ### the errors' classes -/
structure ErrD (K : PySem.W.Frag) (mg : Str → Option Value) (nm qual fld : Str) (st : Stmt) where
  C : Addr
  g : mg nm = some (.ref C)
  fI : Addr
  fdI : FuncData
  T : OexC K C
  iC : PySem.W.findIn K (.ref C) "__init__" = some (some (.ref fI))
  tI : PySem.W.typeIn K (.ref fI) = some (.type "function")
  F : Fun K "__init__" qual st fI fdI
  b : Binds K fdI ["self", fld] []
  no : PySem.W.findIn K (.ref C) fld = some none
  xf : XfC K C
abbrev s_iBB : Stmt := inClass (top 2) 0
abbrev s_iBL : Stmt := inClass (top 3) 0
abbrev s_iBR : Stmt := inClass (top 4) 0
structure TxE (K : PySem.W.Frag) (mg : Str → Option Value) extends TxB K mg where
  BB : ErrD K mg "BadBook" "BadBook.__init__" "thing" s_iBB
  BL : ErrD K mg "BadLetter" "BadLetter.__init__" "thing" s_iBL
  BR : ErrD K mg "BadRow" "BadRow.__init__" "index" s_iBR
  eBB : PySem.W.exmOne K (.ref BB.C) (.ref BB.C) = some true
  eRB : PySem.W.exmOne K (.ref BR.C) (.ref BB.C) = some false
  eRR : PySem.W.exmOne K (.ref BR.C) (.ref BR.C) = some true
  eLB : PySem.W.exmOne K (.ref BL.C) (.ref BB.C) = some false
  eLR : PySem.W.exmOne K (.ref BL.C) (.ref BR.C) = some false
  eLL : PySem.W.exmOne K (.ref BL.C) (.ref BL.C) = some true
  TE : Addr
  gTE : mg "TalkError" = some (.ref TE)
  kTE : PySem.W.keepIn K (.ref TE) = true
  vTE : ExV K TE
  kitTE : PySem.W.kitOne K (.ref TE) (.ref C) = some false
def spErrI (K : PySem.W.Frag) (fld : Str) : Sp := fun vs H Q _ => ∃ (a C : Addr) (v : V), vs = [.ref a, v] ∧ OexC K C ∧ PySem.W.findIn K (.ref C) fld = some none ∧ H a = some (exo a C none) ∧
  ∀ dx, H dx = none → dx ≠ a → Q .non (upd (upd H dx (exd dx [(fld, v)])) a (exo a C (some dx)))
/-- C(v), the class's own __init__ run -/
def ErrR (K : PySem.W.Frag) (fld : Str) (C : Addr) (v : V) (H1 : Hp) (Q : XK) : Prop := ([v] : List V).length ≤ 1000 ∧ ∀ a, H1 a = none → spErrI K fld (.ref a :: ([v] ++ [])) (upd H1 a (exo a C none))
  (fun v H2 => v = .non ∧ ∃ (d : Addr) (fs : List (Str × V)), H2 a = some (exo a C (some d)) ∧ H2 d = some (exd d fs) ∧ H1 d = none ∧ Q (.ref C) (some d) (upd (del H2 a) d (.xd fs))) (fun _ _ _ => False)
def tErr (K : PySem.W.Frag) (fld : Str) (C : Addr) (te : TE) : L2.St → Hp → XK → Prop := fun σ H Q => te σ H fun v H1 => ErrR K fld C v H1 Q
theorem err_end {K : PySem.W.Frag} {mg : Str → Option Value} {nm qual fld : Str} {st : Stmt} (D : ErrD K mg nm qual fld st) {v : V} {H1 : Hp} {Q : XK} (q : ∀ d, H1 d = none → Q (.ref D.C) (some d) (upd H1 d (.xd [(fld, v)]))) : ErrR K fld D.C v H1 Q := by
  refine ⟨(by show 1 ≤ 1000; decide), fun a na => ⟨a, D.C, v, rfl, D.T, D.no, upd_same, fun dx nd ne => ⟨rfl, dx, [(fld, v)], upd_same, by rw [upd_ne ne]; exact upd_same, ?_, ?_⟩⟩⟩
  · rw [upd_ne ne] at nd
    exact nd
  · have e : upd (del (upd (upd (upd H1 a (exo a D.C none)) dx (exd dx [(fld, v)])) a (exo a D.C (some dx))) a) dx (.xd [(fld, v)]) = upd H1 dx (.xd [(fld, v)]) := by
      funext b
      by_cases hb : b = dx
      · rw [hb, upd_same, upd_same]
      · rw [upd_ne hb, upd_ne hb]
        by_cases ha : b = a
        · rw [ha, del_same, na]
        · rw [del_ne ha, upd_ne ha, upd_ne hb, upd_ne ha]
    rw [e]
    refine q dx ?_
    rw [upd_ne ne] at nd
    exact nd
theorem pmk_err {X : Cx} {K : PySem.W.Frag} {mg : Str → Option Value} {P : Program} {w : World} {base : Heap} {nm qual fld : Str} {st : Stmt} {e : Expr} {te : TE} {p pos : Pos} (D : ErrD K mg nm qual fld st) (G : FnOk P w K mg base CX0 1 D.fI D.fdI ["self", fld] (spErrI K fld)) (hr : Room 2 X.A) (ha : PE X e te)
    (h1 : X.prog = P := by rfl) (h2 : X.w = w := by rfl) (h3 : X.K = K := by rfl) (h4 : X.mg = mg := by rfl) (h5 : X.base = base := by rfl)
    (hg : Gl X nm := by rfl) (hdb : (nm == ("__debug__" : Str)) = false := by decide) (he : starEach [e] X.env = (false, eval e X.env) :: starEach [] X.env := by rfl) (hpl : (backTo pos (starEach [] X.env)).any (·.1) = false := by rfl) :
    PMk X (.Call (.Name nm p) [e] [] pos) (tErr K fld D.C te) := by
  subst h1 h2 h3 h4 h5
  exact pmk_oex D.T D.iC D.tI G hr D.b .nil pass0 hg D.g (pa_cons ha pa_nil he) hdb he hpl
section
variable {P : Program} {w : World} {K : PySem.W.Frag} {mg : Str → Option Value} {base : Heap}
theorem sc_iBB : FnScope ["self", "thing"] ["self", "thing"] (defScope s_iBB) := ⟨rfl, rfl, rfl, by decide +kernel, rfl, by decide +kernel, by decide +kernel⟩
theorem sc_iBL : FnScope ["self", "thing"] ["self", "thing"] (defScope s_iBL) := ⟨rfl, rfl, rfl, by decide +kernel, rfl, by decide +kernel, by decide +kernel⟩
theorem sc_iBR : FnScope ["self", "index"] ["self", "index"] (defScope s_iBR) := ⟨rfl, rfl, rfl, by decide +kernel, rfl, by decide +kernel, by decide +kernel⟩
theorem ok_iBB (T : TxE K mg) : FnOk P w K mg base CX0 1 T.BB.fI T.BB.fdI ["self", "thing"] (spErrI K "thing") := by
  refine T.BB.F.ok sc_iBB (fun vs H Q E ⟨a, C, v, e, _⟩ => by rw [e]; rfl) (fun cdv A outer s H vs Q E hr h => ?_)
  obtain ⟨a, C, v, rfl, hT, hno, ha, q⟩ := h
  exact ⟨_, pss_one (ps_ost (pv 0) (pv 1)), v, rfl, .ref a, rfl, a, C, rfl, hT, hno, .inl ⟨ha, q⟩⟩
theorem ok_iBL (T : TxE K mg) : FnOk P w K mg base CX0 1 T.BL.fI T.BL.fdI ["self", "thing"] (spErrI K "thing") := by
  refine T.BL.F.ok sc_iBL (fun vs H Q E ⟨a, C, v, e, _⟩ => by rw [e]; rfl) (fun cdv A outer s H vs Q E hr h => ?_)
  obtain ⟨a, C, v, rfl, hT, hno, ha, q⟩ := h
  exact ⟨_, pss_one (ps_ost (pv 0) (pv 1)), v, rfl, .ref a, rfl, a, C, rfl, hT, hno, .inl ⟨ha, q⟩⟩
theorem ok_iBR (T : TxE K mg) : FnOk P w K mg base CX0 1 T.BR.fI T.BR.fdI ["self", "index"] (spErrI K "index") := by
  refine T.BR.F.ok sc_iBR (fun vs H Q E ⟨a, C, v, e, _⟩ => by rw [e]; rfl) (fun cdv A outer s H vs Q E hr h => ?_)
  obtain ⟨a, C, v, rfl, hT, hno, ha, q⟩ := h
  exact ⟨_, pss_one (ps_ost (pv 0) (pv 1)), v, rfl, .ref a, rfl, a, C, rfl, hT, hno, .inl ⟨ha, q⟩⟩
/-! ### what raises, and what it tells -/
/-- C(v) leaves, all else as it was -/
def Rs (E : XK) (C : Addr) (fld : Str) (v : V) (H : Hp) : Prop := ∀ d H', Same H H' → H d = none → H' d = some (.xd [(fld, v)]) → E (.ref C) (some d) H'
theorem Rs.at {E : XK} {C : Addr} {fld : Str} {v : V} {H H1 : Hp} (h : Rs E C fld v H) (s : Same H H1) : ∀ d, H1 d = none → E (.ref C) (some d) (upd H1 d (.xd [(fld, v)])) := fun d nd => h d _ (s.trans (same_new nd)) (Same.free s nd) upd_same
/-- what is no Book -/
def NoBook (K : PySem.W.Frag) (C : Addr) (H : Hp) (v : V) : Prop := ∃ t, TyE K H v t ∧ PySem.W.kitOne K t (.ref C) = some false
def spBookB (K : PySem.W.Frag) (C B : Addr) : Sp := fun vs H _ E => ∃ v, vs = [v] ∧ NoBook K C H v ∧ Rs E B "thing" v H
/-- what is no talk of these -/
def NoTk (K : PySem.W.Frag) (H : Hp) (nms : List Str) (v : V) : Prop := (∃ z, v = .str z ∧ z ∉ nms) ∨ ∃ n, n ∈ kinds ∧ n ≠ "str" ∧ TyX K H v (.type n)
/-- what is no row: the index that is told -/
def NoRow (K : PySem.W.Frag) (H : Hp) (nms : List Str) (v : V) (i : Nat) : Prop := (∃ n, n ∈ kinds ∧ (n == "list" || n == "tuple") = false ∧ TyX K H v (.type n) ∧ i = 0) ∨
  ∃ (a : Addr) (good : List Str) (x : V) (rest : List V), v = .ref a ∧ SqA K H a (good.map V.str ++ x :: rest) ∧ (∀ z ∈ good, z ∈ nms) ∧ NoTk K H nms x ∧ i = good.length ∧ good.length + rest.length ≤ 1000
def spRowB (K : PySem.W.Frag) (C B : Addr) : Sp := fun vs H _ E => ∃ (p : Addr) (v : V) (R' : Bk) (N : Str → Nat) (i : Nat), vs = [.ref p, v] ∧ BookAt K C H p R' N ∧ NoRow K H (R'.map (·.1)) v i ∧ Rs E B "index" (.int i) H
theorem ok_checked_bookB (T : TxE K mg) : FnOk P w K mg base (L2.CX P w) 3 T.checked_book.f T.checked_book.fd ["book"] (spBookB K T.C T.BB.C) := by
  refine (Fun.okX (k := 2) T.checked_book.F sc_checked_book (fun vs H Q E ⟨v, e, _⟩ => by rw [e]; rfl) (fun cdv A outer s H vs Q E hr h => ?_))
  obtain ⟨v, rfl, ⟨t, ty, kt⟩, rs⟩ := h
  refine ⟨_, (pss_cons (ps_if (pt_not (pt_val (eIsiE K T.z_isinstance (pv 0) (pe_glob (v := .ref T.C) rfl T.gC rfl))))
      (pss_one (ps_raise rfl (takes_of rfl rfl rfl rfl) (pmk_err T.BB (ok_iBB T) hr (pv 0)))) pss_nil)
    (pss_one (ps_ret (pv 0)))), ?_⟩
  refine ⟨_, rfl, v, .ref T.C, t, .ref T.C, false, rfl, .own _, ty, kt, _, rfl, iteT ⟨_, rfl, err_end T.BB (rs.at (Same.refl _))⟩⟩
theorem ok_checked_rowB (T : TxE K mg) : FnOk P w K mg base (L2.CX P w) 3 T.checked_row.f T.checked_row.fd ["book", "row"] (spRowB K T.C T.BR.C) := by
  have G_is_list : FnOk P w K mg base CX0 2 T.is_list.f T.is_list.fd _ (spIsList K) := (ok_is_list T.toTxt).mono (by decide)
  have G_is_one_of : FnOk P w K mg base CX0 2 T.is_one_of.f T.is_one_of.fd _ (spOneOf K) := (ok_is_one_of T.toTxt).mono (by decide)
  refine (Fun.okX (k := 2) T.checked_row.F sc_checked_row (fun vs H Q E ⟨p, v, R', N, i, e, _⟩ => by rw [e]; rfl) (fun cdv A outer s H vs Q E hr h => ?_))
  obtain ⟨p, v, R', N, i, rfl, hb, nr, rs⟩ := h
  have nd := sc_checked_row.nd
  refine ⟨_, (pss_cons (ps_if (pt_not (pt_val (eC T.is_list G_is_list hr (pa_cons (pv 1) pa_nil))))
      (pss_one (ps_raise rfl (takes_of rfl rfl rfl rfl) (pmk_err T.BR (ok_iBR T) hr pe_int))) pss_nil)
    (pss_cons (ps_for (passes_of rfl) rfl (pi_enumA K T.z_enumerate (pv 1)) (gTu (K := K) rfl (pgs_cons (pg_name (i := 2) nd rfl (Or.inl rfl)) (pgs_cons (pg_name (i := 3) nd rfl (Or.inl rfl)) pgs_nil)))
      (pss_one (ps_if (pt_not (pt_val (eC T.is_one_of G_is_one_of hr (pa_cons (eFld K (pv 0)) (pa_cons (pv 3) pa_nil)))))
        (pss_one (ps_raise rfl (takes_of rfl rfl rfl rfl) (pmk_err T.BR (ok_iBR T) hr (pv 2)))) pss_nil)))
    (pss_one (ps_ret (eListS K T.z_list (pv 1)))))), ?_⟩
  obtain ⟨dx, d1, d2, k1, k2, F, h1, h2, h3, h4, h5, h6⟩ := hb.ex
  rcases nr with ⟨n, hk, hn, ty, rfl⟩ | ⟨a, good, x, rest, rfl, ha, hg, hx, rfl, hl⟩
  · refine ⟨_, rfl, v, n, rfl, hk, ty, fun H0 s0 => ⟨_, rfl, ?_⟩⟩
    rw [hn]
    exact iteT (err_end T.BR (rs.at s0))
  · obtain ⟨kn, hkn, hkt, ty⟩ := sqA_ty ha
    refine ⟨_, rfl, .ref a, kn, rfl, hkn, ty, fun H0 s0 => ⟨_, rfl, ?_⟩⟩
    rw [hkt]
    refine iteF ⟨_, rfl, iEnumA_of (ha.same s0) fun J Gd wk hG => ?_⟩
    refine for_it wk (fun i σ H' => i ≤ good.length ∧ (∃ v2 v3, σ = [some (.ref p), some (.ref a), v2, v3]) ∧ Same H0 H') ⟨Nat.zero_le _, ⟨none, none, rfl⟩, Same.refl _⟩ (fun i σ H' _ z => hG H' z.2.2) ?_ ?_
    · rintro i x2 σ H3 H3' hi ⟨hig, ⟨v2, v3, rfl⟩, s3⟩ ⟨Tq, _, y, rfl, nT, rfl, e1, hy⟩
      have e1' := (Option.some.inj e1).symm
      subst e1'
      refine ⟨Tq, _, rfl, SqT.of upd_same, rfl, _, _, rfl, _, _, rfl, rfl, ?_⟩
      have s5 := s3.trans (same_new (o := .tup [.int (i : Nat), y]) nT)
      have s4 := s0.trans s5
      refine ⟨_, rfl, p, T.C, dx, _, _, rfl, s4 _ _ h1, T.cl, T.nR, flds_r _ _, _, rfl, d1, k1, y, rfl, .inl (s4 _ _ h2), ?_⟩
      have hy : (good.map V.str ++ x :: rest)[i]? = some y := hy
      rcases Nat.lt_or_ge i good.length with hlt | hge
      · rw [List.getElem?_append_left (by rw [List.length_map]; exact hlt)] at hy
        obtain ⟨z, rfl, hz, hzm⟩ := strs_at hy
        refine .inl ⟨z, rfl, ⟨_, rfl, ?_⟩⟩
        rw [KvD.isSome h4]
        obtain ⟨rs', hrs⟩ := getA_some (hg z hzm)
        rw [hrs]
        exact iteF ⟨hlt, ⟨_, _, rfl⟩, s5⟩
      · have ei : i = good.length := by omega
        subst ei
        rw [List.getElem?_append_right (by rw [List.length_map]; exact Nat.le_refl _), List.length_map, Nat.sub_self] at hy
        cases hy
        rcases hx with ⟨z, rfl, hz⟩ | ⟨n, hk, hn, tyx⟩
        · refine .inl ⟨z, rfl, ⟨_, rfl, ?_⟩⟩
          rw [KvD.isSome h4, getA_none.mpr hz]
          exact iteT ⟨_, rfl, err_end T.BR (rs.at s4)⟩
        · exact .inr ⟨n, hk, hn, sTyX s4 tyx, _, rfl, iteT ⟨_, rfl, err_end T.BR (rs.at s4)⟩⟩
    · rintro σ H3 ⟨hig, _, _⟩
      rw [List.length_append, List.length_map, List.length_cons] at hig
      omega
end
end K8
set_option maxRecDepth 100000
set_option maxHeartbeats 4000000
namespace K8
open PySem PySem.Spec PyProof.Rows L2
/-- no book, or no row of a book: what is told -/
def BadBR (K : PySem.W.Frag) (C B R : Addr) (H : Hp) (v r : V) (E : XK) : Prop := (NoBook K C H v ∧ Rs E B "thing" v H) ∨
  ∃ (p : Addr) (R' : Bk) (N : Str → Nat) (i : Nat), v = .ref p ∧ BookAt K C H p R' N ∧ NoRow K H (R'.map (·.1)) r i ∧ Rs E R "index" (.int i) H
def spStepsB (K : PySem.W.Frag) (C B R : Addr) : Sp := fun vs H _ E => ∃ v r, vs = [v, r] ∧ BadBR K C B R H v r E
/-- what is no letter -/
def NoLet (K : PySem.W.Frag) (H : Hp) (l : V) : Prop := (∃ z, l = .str z ∧ z.length ≤ 1000000 ∧ letterB z = false) ∨ ∃ n, n ∈ kinds ∧ n ≠ "str" ∧ TyX K H l (.type n)
def spBehindB (K : PySem.W.Frag) (C B R L : Addr) : Sp := fun vs H _ E => ∃ v r l, vs = [v, r, l] ∧ (BadBR K C B R H v r E ∨
  ∃ (p a : Addr) (R' : Bk) (N : Str → Nat) (row : List Str), v = .ref p ∧ r = .ref a ∧ BookAt K C H p R' N ∧ SqA K H a (row.map .str) ∧ row.length ≤ 1000 ∧ (∀ n ∈ row, n ∈ R'.map (·.1)) ∧ BC R' ∧ NoLet K H l ∧ Rs E L "thing" l H)
section
variable {P : Program} {w : World} {K : PySem.W.Frag} {mg : Str → Option Value} {base : Heap}
theorem GBk (T : TxE K mg) : FnOk P w K mg base (L2.CX P w) 3 T.checked_book.f T.checked_book.fd ["book"] (spOr (spBook T.C) (spBookB K T.C T.BB.C)) := fn_or (fn_lift ((ok_checked_book T.toTxB).mono (by decide))) (ok_checked_bookB T)
theorem GRw (T : TxE K mg) : FnOk P w K mg base (L2.CX P w) 3 T.checked_row.f T.checked_row.fd ["book", "row"] (spOr (spRowIn K T.C) (spRowB K T.C T.BR.C)) := fn_or (fn_lift ((ok_checked_row T.toTxB).mono (by decide))) (ok_checked_rowB T)
theorem Rs.same {E : XK} {C : Addr} {fld : Str} {v : V} {H H1 : Hp} (h : Rs E C fld v H) (s : Same H H1) : Rs E C fld v H1 := fun d H' s' nd hd => h d H' (s.trans s') (Same.free s nd) hd
theorem ok_steps_ofB (T : TxE K mg) : FnOk P w K mg base (L2.CX P w) 4 T.steps_of.f T.steps_of.fd ["book", "row"] (spStepsB K T.C T.BB.C T.BR.C) := by
  have G_steps_in : FnOk P w K mg base CX0 3 T.steps_in.f T.steps_in.fd _ (spStepsIn K T.C) := (ok_steps_in T.toTxB).mono (by decide)
  refine (Fun.okX (k := 3) T.steps_of.F sc_steps_of (fun vs H Q E ⟨v, r, e, _⟩ => by rw [e]; rfl) (fun cdv A outer s H vs Q E hr h => ?_))
  obtain ⟨v, r, rfl, h⟩ := h
  refine ⟨_, (pss_one (ps_ret (eC T.steps_in G_steps_in hr (pa_cons (eCX (takes_of rfl rfl rfl rfl) T.checked_book (GBk T) hr (pa_cons (pv 0) pa_nil)) (pa_cons (eCX (takes_of rfl rfl rfl rfl) T.checked_row (GRw T) hr (pa_cons (pv 0) (pa_cons (pv 1) pa_nil))) pa_nil))))), ?_⟩
  rcases h with ⟨nb, rs⟩ | ⟨p, R', N, i, rfl, hb, nr, rs⟩
  · exact ⟨_, rfl, .inr ⟨v, rfl, nb, rs⟩⟩
  · obtain ⟨dx, d1, d2, k1, k2, F, h1, _⟩ := hb.ex
    exact ⟨_, rfl, .inl ⟨p, dx, _, rfl, h1, _, rfl, _, rfl, .inr ⟨p, r, R', N, i, rfl, hb, nr, rs⟩⟩⟩
theorem ok_lesseningB (T : TxE K mg) : FnOk P w K mg base (L2.CX P w) 4 T.lessening.f T.lessening.fd ["book", "row"] (spStepsB K T.C T.BB.C T.BR.C) := by
  refine (Fun.okX (k := 3) T.lessening.F sc_lessening (fun vs H Q E ⟨v, r, e, _⟩ => by rw [e]; rfl) (fun cdv A outer s H vs Q E hr h => ?_))
  obtain ⟨v, r, rfl, h⟩ := h
  have nd := sc_lessening.nd
  have G : FnOk P w K mg base (L2.CX P w) 3 T.checked_row.f T.checked_row.fd ["book", "row"] (spRowB K T.C T.BR.C) := ok_checked_rowB T
  refine ⟨_, (pss_cons (ps_set (i := 2) nd rfl (Or.inl rfl) (eCX (takes_of rfl rfl rfl rfl) T.checked_row G hr (pa_cons (eCX (takes_of rfl rfl rfl rfl) T.checked_book (GBk T) hr (pa_cons (pv 0) pa_nil)) (pa_cons (pv 1) pa_nil))))
    (pss_cons ps_no (pss_one ps_no))), ?_⟩
  rcases h with ⟨nb, rs⟩ | ⟨p, R', N, i, rfl, hb, nr, rs⟩
  · exact ⟨_, rfl, .inr ⟨v, rfl, nb, rs⟩⟩
  · obtain ⟨dx, d1, d2, k1, k2, F, h1, _⟩ := hb.ex
    exact ⟨_, rfl, .inl ⟨p, dx, _, rfl, h1, _, rfl, p, r, R', N, i, rfl, hb, nr, rs⟩⟩
theorem ok_behindB (T : TxE K mg) : FnOk P w K mg base (L2.CX P w) 4 T.behind.f T.behind.fd ["book", "row", "letter"] (spBehindB K T.C T.BB.C T.BR.C T.BL.C) := by
  have G_steps_in : FnOk P w K mg base CX0 3 T.steps_in.f T.steps_in.fd _ (spStepsIn K T.C) := (ok_steps_in T.toTxB).mono (by decide)
  have G_is_letter : FnOk P w K mg base CX0 3 T.is_letter.f T.is_letter.fd _ (spLet K letterB) := (ok_is_letter T.toTxt).mono (by decide)
  refine (Fun.okX (k := 3) T.behind.F sc_behind (fun vs H Q E ⟨v, r, l, e, _⟩ => by rw [e]; rfl) (fun cdv A outer s H vs Q E hr h => ?_))
  obtain ⟨v, r, l, rfl, h⟩ := h
  have nd := sc_behind.nd
  refine ⟨_, (pss_cons (ps_set (i := 3) nd rfl (Or.inl rfl) (eC T.steps_in G_steps_in hr (pa_cons (eCX (takes_of rfl rfl rfl rfl) T.checked_book (GBk T) hr (pa_cons (pv 0) pa_nil)) (pa_cons (eCX (takes_of rfl rfl rfl rfl) T.checked_row (GRw T) hr (pa_cons (pv 0) (pa_cons (pv 1) pa_nil))) pa_nil))))
    (pss_cons (ps_if (pt_not (pt_val (eC T.is_letter G_is_letter hr (pa_cons (pv 2) pa_nil))))
      (pss_one (ps_raise rfl (takes_of rfl rfl rfl rfl) (pmk_err T.BL (ok_iBL T) (hr.mono (by decide)) (pv 2)))) pss_nil)
    (pss_one ps_no))), ?_⟩
  rcases h with (⟨nb, rs⟩ | ⟨p, R', N, i, rfl, hb, nr, rs⟩) | ⟨p, a, R', N, row, rfl, rfl, hb, ha, hl, hm, bc, nl, rs⟩
  · exact ⟨_, rfl, .inr ⟨v, rfl, nb, rs⟩⟩
  · obtain ⟨dx, d1, d2, k1, k2, F, h1, _⟩ := hb.ex
    exact ⟨_, rfl, .inl ⟨p, dx, _, rfl, h1, _, rfl, _, rfl, .inr ⟨p, r, R', N, i, rfl, hb, nr, rs⟩⟩⟩
  · obtain ⟨dx, d1, d2, k1, k2, F, h1, _⟩ := hb.ex
    have hl' : row.length ≤ 1000000 := Nat.le_trans hl (by decide)
    refine ⟨_, rfl, .inl ⟨p, dx, _, rfl, h1, _, rfl, _, rfl, .inl ⟨p, a, R', N, row, rfl, hb, ha, hl', hm, fun b H1 s1 nb h1 => ?_⟩⟩⟩
    refine ⟨p, b, R', N, row, rfl, hb.same s1, SqL.of h1, hl', hm, bc.big, fun g H2 L s2 t e => ?_⟩
    have s12 := s1.trans s2
    rcases nl with ⟨z, rfl, hz, hf⟩ | ⟨n, hk, hn, ty⟩
    · refine ⟨_, rfl, .str z, rfl, .inl ⟨z, rfl, hz, fun H3 s3 => ⟨_, rfl, ?_⟩⟩⟩
      rw [hf]
      exact iteT ⟨_, rfl, err_end T.BL (rs.at (s12.trans s3))⟩
    · exact ⟨_, rfl, l, rfl, .inr ⟨n, hk, hn, sTyX s12 ty, fun H3 s3 => ⟨_, rfl, iteT ⟨_, rfl, err_end T.BL (rs.at (s12.trans s3))⟩⟩⟩⟩
end
end K8
set_option maxRecDepth 100000
set_option maxHeartbeats 4000000
namespace K8
open PySem PySem.Spec PyProof.Rows L2 LamX
/-! ### _law_met: what it makes of a lambda's reading -/
/-- the answer (word, v) of an exception of class C whose field told v -/
def MetC (C : Addr) (fld word : Str) (cls : Value) (d : Option Addr) (H : Hp) (Q : VK) : Prop := cls = .ref C ∧ ∃ (dd : Addr) (v : V), d = some dd ∧ H dd = some (.xd [(fld, v)]) ∧ ∀ t, H t = none → Q (.ref t) (upd H t (.tup [.str word, v]))
def TTmet (B R L : Addr) : (XK → Hp → VK → Prop) → Hp → VK → Prop := fun tl H Q =>
  tl (fun cls d H' => MetC B "thing" "book" cls d H' Q ∨ MetC R "index" "row" cls d H' Q ∨ MetC L "thing" "letter" cls d H' Q) H fun v H' => ([.str "told", v] : List V).length ≤ sizeLine ∧ ∀ t, H' t = none → Q (.ref t) (upd H' t (.tup [.str "told", v]))
theorem sc_met : FnScope ["_law_ask", "e"] ["_law_ask"] (defScope s_met) := ⟨rfl, rfl, rfl, by decide +kernel, rfl, by decide +kernel, by decide +kernel⟩
theorem set1 {σ : L2.St} (h : σ.length = 2) (v : Option V) : (σ.set 1 v)[1]? = some v := by rw [List.getElem?_set_self (by omega)]
/-- one clause: except C as e: return (word, e.fld) -/
def tClause (B : Addr) (fld word : Str) (a : Addr) (cls : Value) (d : Option Addr) : TS := tRet (tTup (tCons (tC (.str word)) (tCons (tXf a cls d B fld (tVar 1)) tNil)))
theorem clause_ok {B : Addr} {fld word : Str} {a : Addr} {cls : Value} {d : Option Addr} {D : Ends} {τ : L2.St} {G : Hp} (hτ : τ.length = 2) (h : MetC B fld word cls d G D.rt) : tClause B fld word a cls d D (τ.set 1 (some (.ref a))) G := by
  obtain ⟨hc, dd, v, hd, hx, q⟩ := h
  refine ⟨.ref a, set1 hτ _, rfl, hc, dd, [(fld, v)], v, hd, hx, by simp, (by show 2 ≤ sizeLine; decide), fun t nt => q t nt⟩
theorem met_gives {X : Cx} {K : PySem.W.Frag} {mg : Str → Option Value} (T : TxE K mg) (hK : X.K = K) (hm : X.mg = mg) {g : Addr} {cdg : Value} {q : Str} : GivesTo X ["_law_ask", "e"] "_law_met" (defScope s_met) g cdg (defBody s_met) "_law_ask" q (TTmet T.BB.C T.BR.C T.BL.C) := by
  subst hK hm
  intro f c' s H Q tl act hc h
  have nd := sc_met.nd
  refine ⟨_, pss_one (ps_try_manyA (X := (cxOf C8.CX0 X.prog X.w X.K X.mg X.base ["_law_ask", "e"] "_law_met" (defScope s_met) g cdg X.A X.stack s H C8.E0).nox)
    (l1 := [(.ref T.BB.C, 1, tClause T.BB.C "thing" "book"), (.ref T.BR.C, 1, tClause T.BR.C "index" "row"), (.ref T.BL.C, 1, tClause T.BL.C "thing" "letter")])
    (tb := fun W D σ H => ∃ Ech : XK, (∀ cls d σ' H', Ech cls d H' → W cls d σ' H') ∧ σ[0]? = some (some (.ref f)) ∧ H c' = some (CodeO c' q) ∧ tl Ech H fun v H' => ([.str "told", v] : List V).length ≤ sizeLine ∧ ∀ t, H' t = none → D.rt (.ref t) (upd H' t (.tup [.str "told", v])))
    rfl rfl nd L2.takes0 (fun W pn xe tk _ => ?_) ?_), ?_⟩
  · refine ⟨fun pins s' σ H' D I ⟨Ech, hW, h1, h2, h3⟩ => ?_⟩
    exact (pss_one (ps_ret (pe_tup (pa_cons pe_str (pa_cons (act W pn xe Ech _ _ tk hW) pa_nil))))).run pins s' σ H' D I ⟨h1, h2, h3⟩
  · exact .cons rfl rfl ⟨rfl, by decide, .inl T.BB.g⟩ (fun a oe cls d pn hz hf => pss_one (ps_ret (pe_tup (pa_cons pe_str (pa_cons (pe_xf T.BB.xf T.BB.no hz hf (pv 1)) pa_nil)))))
      (.cons rfl rfl ⟨rfl, by decide, .inl T.BR.g⟩ (fun a oe cls d pn hz hf => pss_one (ps_ret (pe_tup (pa_cons pe_str (pa_cons (pe_xf T.BR.xf T.BR.no hz hf (pv 1)) pa_nil)))))
      (.cons rfl rfl ⟨rfl, by decide, .inl T.BL.g⟩ (fun a oe cls d pn hz hf => pss_one (ps_ret (pe_tup (pa_cons pe_str (pa_cons (pe_xf T.BL.xf T.BL.no hz hf (pv 1)) pa_nil))))) .nil))
  · refine ⟨fun cls d H' => MetC T.BB.C "thing" "book" cls d H' Q ∨ MetC T.BR.C "index" "row" cls d H' Q ∨ MetC T.BL.C "thing" "letter" cls d H' Q, fun cls d τ G hE => ?_, rfl, hc, h⟩
    rcases hE with hE | hE | hE
    · refine ⟨true, by rw [hE.1]; exact T.eBB, fun _ hl a na => clause_ok hl hE, fun z => nomatch z⟩
    · refine ⟨false, by rw [hE.1]; exact T.eRB, (fun z => nomatch z), fun _ => ⟨true, by rw [hE.1]; exact T.eRR, fun _ hl a na => clause_ok hl hE, fun z => nomatch z⟩⟩
    · refine ⟨false, by rw [hE.1]; exact T.eLB, (fun z => nomatch z), fun _ => ⟨false, by rw [hE.1]; exact T.eLR, (fun z => nomatch z), fun _ => ⟨true, by rw [hE.1]; exact T.eLL, fun _ hl a na => clause_ok hl hE, fun z => nomatch z⟩⟩⟩
end K8
set_option maxRecDepth 100000
set_option maxHeartbeats 4000000
namespace K8
open PySem PySem.Spec PyProof.Rows L2
theorem NoTk.same {K : PySem.W.Frag} {H H' : Hp} (s : Same H H') {nms : List Str} {v : V} (h : NoTk K H nms v) : NoTk K H' nms v := by
  rcases h with h | ⟨n, hk, hn, ty⟩
  · exact .inl h
  · exact .inr ⟨n, hk, hn, sTyX s ty⟩
theorem NoRow.same {K : PySem.W.Frag} {H H' : Hp} (s : Same H H') {nms : List Str} {v : V} {i : Nat} (h : NoRow K H nms v i) : NoRow K H' nms v i := by
  rcases h with ⟨n, hk, hn, ty, e⟩ | ⟨a, good, x, rest, e, ha, hg, hx, e2, hl⟩
  · exact .inl ⟨n, hk, hn, sTyX s ty, e⟩
  · exact .inr ⟨a, good, x, rest, e, ha.same s, hg, hx.same s, e2, hl⟩
/-- one thing that is no row, with the index that is told -/
def OddAt (K : PySem.W.Frag) (H : Hp) (nms : List Str) (y : V) : Prop := ∃ (t : Addr) (x : V) (i : Nat), y = .ref t ∧ SqT K H t [x, .int i] ∧ NoRow K H nms x i
theorem OddAt.same {K : PySem.W.Frag} {H H' : Hp} (s : Same H H') {nms : List Str} {y : V} (h : OddAt K H nms y) : OddAt K H' nms y := by
  obtain ⟨t, x, i, e, ht, hx⟩ := h
  exact ⟨t, x, i, e, sSeqT s ht, hx.same s⟩
def spOddRows (K : PySem.W.Frag) : Sp := fun vs H Q _ => ∃ (d : Addr) (kvs : List (Key × V)) (nms : List Str), vs = [.ref d] ∧ H d = some (.dK kvs) ∧ kvs.map (·.1) = nms.map Sum.inr ∧ nms.length ≤ 100 ∧ nms ≠ [] ∧ ("late9" : Str) ∉ nms ∧ ("" : Str) ∉ nms ∧
  ∀ (p : Addr) (ys : List V) (H' : Hp), Same H H' → H p = none → H' p = some (.lst ys) → (∀ y ∈ ys, OddAt K (hid [p] H') nms y) → ys.length ≤ 100 → Q (.ref p) H'
section
variable {P : Program} {w : World} {K : PySem.W.Frag} {mg : Str → Option Value} {base : Heap}
theorem sc_d_odd_rows : FnScope ["_law_rules", "_law_good", "_law_odd", "_law_found", "_law_name"] ["_law_rules"] (defScope s_d_odd_rows) := ⟨rfl, rfl, rfl, by decide +kernel, rfl, by decide +kernel, by decide +kernel⟩
theorem ok_d_odd_rows (T : Txt K mg) : FnOk P w K mg base CX0 1 T.d_odd_rows.f T.d_odd_rows.fd ["_law_rules"] (spOddRows K) := by
  refine T.d_odd_rows.F.ok sc_d_odd_rows (fun vs H Q E h => ?_) (fun cdv A outer s H vs Q E hr h => ?_)
  · obtain ⟨d, kvs, nms, rfl, _⟩ := h
    rfl
  obtain ⟨d, kvs, nms, rfl, hd, hk, hn, hne, hl9, he, q⟩ := h
  have nd := sc_d_odd_rows.nd
  refine ⟨_, (pss_cons (ps_set (i := 1) nd rfl (Or.inl rfl) (pe_slice (slL K) (eListK rfl T.z_list (pv 0)) po_none (po_some pe_int)))
    (pss_cons (ps_setLc (i := 3) (own := [("_law_odd", 2)]) (g := gName 2) (tt := tYes) rfl nd rfl rfl (sw_true rfl rfl rfl (by decide +kernel)) (iT K (pe_tup (pa_cons pe_non (pa_cons pe_int (pa_cons pe_str (pa_cons pe_dnewK (pa_cons pe_bl (pa_cons (eDictP K rfl T.z_dict (pe_lc (own := [("_law_name", 4)]) (g := gName 4) (tt := tYes) rfl nd (iL K (pv 1)) (blkOk_by (N := ["_law_rules", "_law_good", "_law_odd", "_law_found", "_law_name"]) (sc := defScope s_d_odd_rows) (by decide +kernel)) (fun _ _ _ _ _ => (pg_name (i := 4) nd rfl (Or.inl rfl))) (fun _ _ _ _ _ => pts_nil) (fun _ _ _ _ _ => (pe_tup (pa_cons (pv 4) (pa_cons pe_int pa_nil)))))) pa_nil)))))))) (blkOk_by (N := ["_law_rules", "_law_good", "_law_odd", "_law_found", "_law_name"]) (sc := defScope s_d_odd_rows) (by decide +kernel)) (fun _ _ _ _ _ => (pg_name (i := 2) nd rfl (Or.inl rfl))) (fun _ _ _ _ _ => pts_nil) (fun _ _ _ _ _ => (pe_tup (pa_cons (pv 2) (pa_cons pe_int pa_nil)))))
    (pss_cons (ps_for PassesOwn.never rfl (iT K (pe_tup (pa_cons pe_non (pa_cons pe_int (pa_cons pe_str (pa_cons pe_str (pa_cons (pe_lst (pa_cons pe_str pa_nil)) (pa_cons (pe_tup pa_nil) (pa_cons pe_bl pa_nil))))))))) (pg_name (i := 2) nd rfl (Or.inl rfl))
      (pss_one (ps_expr (eExtend K (pv 3) (pe_lst (pa_cons (pe_tup (pa_cons (pe_op (oCatL K) (pv 1) (pe_lst (pa_cons (pv 2) (pa_cons pe_non pa_nil)))) (pa_cons (eLen K T.z_len (pv 1)) pa_nil))) (pa_cons (pe_tup (pa_cons (pe_op (oCatA K) (eTupS K T.z_tuple (pv 1)) (pe_tup (pa_cons (pv 2) pa_nil))) (pa_cons (eLen K T.z_len (pv 1)) pa_nil))) pa_nil)))))))
    (pss_one (ps_ret (pv 3)))))), ?_⟩
  refine ⟨_, rfl, d, kvs, rfl, hd, fun l nl => ?_⟩
  have ek : (kvs.map fun kv => kV kv.1) = nms.map V.str := by
    have : (kvs.map fun kv => kV kv.1) = (kvs.map (·.1)).map kV := by rw [List.map_map]; rfl
    rw [this, hk, List.map_map]
    rfl
  rw [ek] at *
  have sl := same_new (o := .lst (nms.map V.str)) nl
  refine ⟨_, rfl, l, _, rfl, SqL.of upd_same, fun g ng => ?_⟩
  have e2 : cutV (nms.map V.str) none (some (2 : Int)) = (nms.take 2).map V.str := by rw [List.map_take]; exact cut_take _ 2
  rw [e2]
  obtain ⟨good, eg⟩ : ∃ good, good = nms.take 2 := ⟨_, rfl⟩
  have gin : ∀ z ∈ good, z ∈ nms := fun z hz => List.mem_of_mem_take (eg ▸ hz)
  have gne : good ≠ [] := by
    rw [eg]
    cases nms with
    | nil => exact absurd rfl hne
    | cons a r => intro z; simp at z
  have gl : good.length ≤ 2 := by rw [eg, List.length_take]; exact Nat.min_le_left _ _
  rw [← eg]
  have sg := same_new (o := .lst (good.map V.str)) ng
  have s1 := sl.trans sg
  have hg1 : upd (upd H l (.lst (nms.map V.str))) g (.lst (good.map V.str)) g = some (.lst (good.map V.str)) := upd_same
  generalize upd (upd H l (.lst (nms.map V.str))) g (.lst (good.map V.str)) = H1 at s1 hg1 ⊢
  clear sg sl ng nl e2
  intro e1 ne1
  have se1 := same_new (o := .dK []) ne1
  have s2 := s1.trans se1
  have hg2 := se1 _ _ hg1
  have he2 : upd H1 e1 (.dK []) e1 = some (.dK []) := upd_same
  generalize upd H1 e1 (.dK []) = H2 at s2 hg2 he2 ⊢
  refine ⟨_, rfl, g, rfl, ⟨_, SqL.of hg2⟩, fun D nD => ?_⟩
  refine lc_pd walk_list nD (by rw [List.length_map]; omega) (fun j Y y => ∃ (p : Addr) (v : V), y = .ref p ∧ SqT K Y p [.str (good.getD j Str.empty), v]) (fun j Y Y' y _ s ⟨p, v, e, g⟩ => ⟨p, v, e, sSeqT s g⟩) (fun _ => true) (fun Y sY => SqL.of (sY _ _ hg2)) ?_ ?_
  · rintro j x Y Y' ys0 k1 k2 hj sY hDY ⟨rfl, hx⟩ k1' _
    obtain ⟨one, rfl, hone, honem⟩ := strs_at hx
    refine ⟨rfl, tYesI ⟨_, rfl, (by show 2 ≤ sizeLine; decide), fun t nt => ?_⟩⟩
    refine k1' rfl _ _ (same_new nt) ?_
    have tD : t ≠ D := (ne_of_none hDY nt).symm
    exact ⟨t, .int 1, rfl, by rw [getD_of hone]; exact SqT.of (hid_get (by simpa using tD) upd_same)⟩
  · intro Y3 ys s3 hD3 pr
    obtain ⟨ps, k1, rfl, pr1, ek1⟩ := pairs_any pr
    refine ⟨D, ps, k1, rfl, SqL.of hD3, Paired_mono (fun _ _ q => sSeqT hid_same q) pr1, fun e2 ne2 => ⟨(by show 6 ≤ sizeLine; decide), fun tp ntp => ⟨tp, rfl, ⟨_, SqT.of upd_same⟩, fun f nf => ?_⟩⟩⟩
    have se2 := same_new (o := .dK (mergeK [] k1)) ne2
    have stp := same_new (o := .tup [.non, .int 5, .str "ab", .ref e1, .bl true, .ref e2]) ntp
    have s4 := ((s2.trans s3).trans se2).trans stp
    have hg4 := stp _ _ (se2 _ _ (s3 _ _ hg2))
    have he4 := stp _ _ (se2 _ _ (s3 _ _ he2))
    have hd4 := stp _ _ (upd_same : upd Y3 e2 (.dK (mergeK [] k1)) e2 = _)
    have ht4 : upd (upd Y3 e2 (.dK (mergeK [] k1))) tp (.tup [.non, .int 5, .str "ab", .ref e1, .bl true, .ref e2]) tp = some (.tup [.non, .int 5, .str "ab", .ref e1, .bl true, .ref e2]) := upd_same
    generalize upd (upd Y3 e2 (.dK (mergeK [] k1))) tp (.tup [.non, .int 5, .str "ab", .ref e1, .bl true, .ref e2]) = H4 at nf s4 hg4 he4 hd4 ht4 ⊢
    clear se2 stp pr pr1 ek1
    have odd6 : ∀ x ∈ ([.non, .int 5, .str "ab", .ref e1, .bl true, .ref e2] : List V), NoRow K H4 nms x 0 := by
      intro x hx
      simp only [List.mem_cons, List.not_mem_nil, or_false] at hx
      rcases hx with rfl | rfl | rfl | rfl | rfl | rfl
      · exact .inl ⟨"NoneType", by decide, by decide, .base .non, rfl⟩
      · exact .inl ⟨"int", by decide, by decide, .base (.int _), rfl⟩
      · exact .inl ⟨"str", by decide, by decide, .base (.str _), rfl⟩
      · exact .inl ⟨"dict", by decide, by decide, .base (.dK he4), rfl⟩
      · exact .inl ⟨"bool", by decide, by decide, .base (.bl _), rfl⟩
      · exact .inl ⟨"dict", by decide, by decide, .base (.dK hd4), rfl⟩
    refine lc_pd walk_tup nf (by show 6 ≤ 1000000; decide) (fun j Y y => OddAt K Y nms y) (fun j Y Y' y _ s h => h.same s) (fun _ => true) (fun Y sY => SqT.of (sY _ _ ht4)) ?_ ?_
    · rintro j x Y Y' ys0 k1 k2 hj sY hDY ⟨rfl, hx⟩ k1' _
      refine ⟨rfl, tYesI ⟨_, rfl, (by show 2 ≤ sizeLine; decide), fun t nt => ?_⟩⟩
      have tf : t ≠ f := (ne_of_none hDY nt).symm
      have st := same_new (o := .tup [x, .int 0]) nt
      refine k1' rfl _ _ st ⟨t, x, 0, rfl, SqT.of (hid_get (by simpa using tf) upd_same), ?_⟩
      have h0 := odd6 x (List.mem_of_getElem? hx)
      refine h0.same fun b o e => hid_get (fun z => ?_) (st _ _ (sY _ _ e))
      rw [List.mem_singleton.mp z, nf] at e
      cases e
    · intro Y5 ys s5 hf5 pr
      have od5 : ∀ y ∈ ys, OddAt K (hid [f] Y5) nms y := paired_all (S := fun y => OddAt K (hid [f] Y5) nms y) (fun _ _ h => h) pr
      have yl5 : ys.length ≤ 6 := by have := paired_len pr; rw [filter_range, List.length_range] at this; rw [this]; exact Nat.le_refl 6
      have sf5 : Same H4 (hid [f] Y5) := fun b o e => hid_get (fun z => by rw [List.mem_singleton.mp z, nf] at e; cases e) (s5 _ _ e)
      have hg5 := sf5 _ _ hg4
      have s05 : Same H (hid [f] Y5) := s4.trans sf5
      have nf0 : H f = none := Same.free s4 nf
      clear odd6 he4 hd4 ht4 s4 hg4 s5 sf5 nf pr
      refine gname_x ?_
      refine ⟨(by show 1 ≤ sizeLine; decide), fun la nla => ⟨(by show 0 ≤ sizeLine; decide), fun t0 nt0 => ⟨(by show 7 ≤ sizeLine; decide), fun tq ntq => ⟨tq, rfl, ⟨_, SqT.of upd_same⟩, ?_⟩⟩⟩⟩
      have fne : ∀ {x : Addr} {Y : Hp} {o : HO}, Y x = none → Y f = some o → x ∉ [f] := fun n1 n2 z => by
        rw [List.mem_singleton.mp z, n2] at n1
        cases n1
      have sla := same_new (o := .lst [.str "a"]) nla
      have st0 := same_new (o := .tup []) nt0
      have stq := same_new (o := .tup [.non, .int 5, .str "", .str "late9", .ref la, .ref t0, .bl true]) ntq
      have la6 := fne nla hf5
      have hf6 := sla _ _ hf5
      have t06 := fne nt0 hf6
      have hf7 := stq _ _ (st0 _ _ hf6)
      have tq6 := fne ntq (st0 _ _ hf6)
      have sM := sHid (M := [f]) ((sla.trans st0).trans stq)
      have hg7 := sM _ _ hg5
      have s07 := s05.trans sM
      have od7 : ∀ y ∈ ys, OddAt K (hid [f] (upd (upd (upd Y5 la (.lst [.str "a"])) t0 (.tup [])) tq (.tup [.non, .int 5, .str "", .str "late9", .ref la, .ref t0, .bl true]))) nms y := fun y hy => (od5 y hy).same sM
      have hla : hid [f] (upd (upd (upd Y5 la (.lst [.str "a"])) t0 (.tup [])) tq (.tup [.non, .int 5, .str "", .str "late9", .ref la, .ref t0, .bl true])) la = some (.lst [.str "a"]) := hid_get la6 (stq _ _ (st0 _ _ upd_same))
      have ht0 : hid [f] (upd (upd (upd Y5 la (.lst [.str "a"])) t0 (.tup [])) tq (.tup [.non, .int 5, .str "", .str "late9", .ref la, .ref t0, .bl true])) t0 = some (.tup []) := hid_get t06 (stq _ _ upd_same)
      have htq : hid [f] (upd (upd (upd Y5 la (.lst [.str "a"])) t0 (.tup [])) tq (.tup [.non, .int 5, .str "", .str "late9", .ref la, .ref t0, .bl true])) tq = some (.tup [.non, .int 5, .str "", .str "late9", .ref la, .ref t0, .bl true]) := hid_get tq6 upd_same
      generalize upd (upd (upd Y5 la (.lst [.str "a"])) t0 (.tup [])) tq (.tup [.non, .int 5, .str "", .str "late9", .ref la, .ref t0, .bl true]) = H7 at hf7 hg7 s07 od7 hla ht0 htq ⊢
      have odd7 : ∀ x ∈ ([.non, .int 5, .str "", .str "late9", .ref la, .ref t0, .bl true] : List V), NoTk K (hid [f] H7) nms x := by
        intro x hx
        simp only [List.mem_cons, List.not_mem_nil, or_false] at hx
        rcases hx with rfl | rfl | rfl | rfl | rfl | rfl | rfl
        · exact .inr ⟨"NoneType", by decide, by decide, .base .non⟩
        · exact .inr ⟨"int", by decide, by decide, .base (.int _)⟩
        · exact .inl ⟨_, rfl, he⟩
        · exact .inl ⟨_, rfl, hl9⟩
        · exact .inr ⟨"list", by decide, by decide, .base (.lst hla)⟩
        · exact .inr ⟨"tuple", by decide, by decide, .base (.tup ht0)⟩
        · exact .inr ⟨"bool", by decide, by decide, .base (.bl _)⟩
      clear sla st0 stq la6 hf6 t06 tq6 sM hla ht0 s05 od5 hg5 nla nt0 ntq
      refine for_it walk_tup (fun i σ Y => (∃ v2, σ = [some (.ref d), some (.ref g), v2, some (.ref f), none]) ∧ Same (hid [f] H7) (hid [f] Y) ∧ ∃ ys, Y f = some (.lst ys) ∧ (∀ y ∈ ys, OddAt K (hid [f] Y) nms y) ∧ ys.length ≤ 6 + 2 * i)
        ⟨⟨_, rfl⟩, Same.refl _, ys, hf7, od7, yl5⟩ (fun i σ Y _ ⟨_, s, _⟩ => SqT.of (hid_of (s _ _ htq)).2) ?_ ?_
      · rintro i x σ Y Y' hi ⟨⟨v2, rfl⟩, sY, zs, hfY, odY, zl⟩ ⟨rfl, hx⟩
        have hi7 : i < 7 := hi
        have hxm := odd7 x (List.mem_of_getElem? hx)
        have hgY := (hid_of (sY _ _ hg7)).2
        refine ⟨_, rfl, .inl ⟨rfl, _, SqL.of hfY⟩, _, rfl, _, rfl, (by show 2 ≤ sizeLine; decide), fun u1 nu1 => ?_⟩
        have su1 := same_new (o := .lst [x, .non]) nu1
        have hg1 := su1 _ _ hgY
        have hf1 := su1 _ _ hfY
        refine ⟨g, u1, _, _, rfl, rfl, SqL.of hg1, SqL.of upd_same, Nat.le_trans (show (good.map V.str).length + 2 ≤ 10 by rw [List.length_map]; omega) (by decide), fun c1 nc1 => ?_⟩
        have sc1 := same_new (o := .lst (good.map V.str ++ [x, .non])) nc1
        have hg2 := sc1 _ _ hg1
        have hf2 := sc1 _ _ hf1
        have c1f := fne nc1 hf1
        have hc2 : upd (upd Y' u1 (.lst [x, .non])) c1 (.lst (good.map V.str ++ [x, .non])) c1 = some (.lst (good.map V.str ++ [x, .non])) := upd_same
        have s12 := su1.trans sc1
        generalize upd (upd Y' u1 (.lst [x, .non])) c1 (.lst (good.map V.str ++ [x, .non])) = Y2 at hg2 hf2 hc2 s12 ⊢
        refine ⟨_, rfl, g, _, rfl, .inl (SqL.of hg2), (by show 2 ≤ sizeLine; decide), fun t1 nt1 => ?_⟩
        have st1 := same_new (o := .tup [.ref c1, .int ((good.map V.str).length : Nat)]) nt1
        have hg3 := st1 _ _ hg2
        have hf3 := st1 _ _ hf2
        have hc3 := st1 _ _ hc2
        have t1f := fne nt1 hf2
        have ht3 : upd Y2 t1 (.tup [.ref c1, .int ((good.map V.str).length : Nat)]) t1 = some (.tup [.ref c1, .int ((good.map V.str).length : Nat)]) := upd_same
        have s13 := s12.trans st1
        refine ⟨_, rfl, g, _, rfl, .inl ⟨SqL.of hg3, fun tg ntg => ⟨_, rfl, (by show 1 ≤ sizeLine; decide), fun t2 nt2 => ?_⟩⟩⟩
        generalize upd Y2 t1 (.tup [.ref c1, .int ((good.map V.str).length : Nat)]) = Y3 at hg3 hf3 hc3 ht3 s13 ntg nt2 ⊢
        have stg := same_new (o := .tup (good.map V.str)) ntg
        have st2 := same_new (o := .tup [x]) nt2
        have hg4 := st2 _ _ (stg _ _ hg3)
        have hf4 := st2 _ _ (stg _ _ hf3)
        have hc4 := st2 _ _ (stg _ _ hc3)
        have ht4 := st2 _ _ (stg _ _ ht3)
        have htg4 := st2 _ _ (upd_same : upd Y3 tg (.tup (good.map V.str)) tg = _)
        have s14 := (s13.trans stg).trans st2
        have ht24 : upd (upd Y3 tg (.tup (good.map V.str))) t2 (.tup [x]) t2 = some (.tup [x]) := upd_same
        generalize upd (upd Y3 tg (.tup (good.map V.str))) t2 (.tup [x]) = Y4 at hg4 hf4 hc4 ht4 htg4 s14 ht24 ⊢
        have gne' : good.map V.str ≠ [] := fun e => gne (List.map_eq_nil_iff.mp e)
        refine ⟨tg, t2, _, _, rfl, rfl, SqT.of htg4, SqT.of ht24, Nat.le_trans (show (good.map V.str).length + 1 ≤ 10 by rw [List.length_map]; omega) (by decide), (fun e => absurd e gne'), (fun _ e => nomatch e), fun _ _ c2 nc2 => ?_⟩
        have sc2 := same_new (o := .tup (good.map V.str ++ [x])) nc2
        have hg5 := sc2 _ _ hg4
        have hf5 := sc2 _ _ hf4
        have hc5 := sc2 _ _ hc4
        have ht5 := sc2 _ _ ht4
        have c2f := fne nc2 hf4
        have s15 := s14.trans sc2
        have hc25 : upd Y4 c2 (.tup (good.map V.str ++ [x])) c2 = some (.tup (good.map V.str ++ [x])) := upd_same
        generalize upd Y4 c2 (.tup (good.map V.str ++ [x])) = Y5 at hg5 hf5 hc5 ht5 s15 hc25 ⊢
        refine ⟨_, rfl, g, _, rfl, .inl (SqL.of hg5), (by show 2 ≤ sizeLine; decide), fun t3 nt3 => ⟨(by show 2 ≤ sizeLine; decide), fun u nu => ?_⟩⟩
        have st3 := same_new (o := .tup [.ref c2, .int ((good.map V.str).length : Nat)]) nt3
        have t3f := fne nt3 hf5
        have hf6 := st3 _ _ hf5
        have uf : u ≠ f := (ne_of_none hf6 nu).symm
        have su := same_new (o := .lst [.ref t1, .ref t3]) nu
        have hf7 := su _ _ hf6
        have hc7 := su _ _ (st3 _ _ hc5)
        have ht7 := su _ _ (st3 _ _ ht5)
        have hc27 := su _ _ (st3 _ _ hc25)
        have ht37 := su _ _ (upd_same : upd Y5 t3 (.tup [.ref c2, .int ((good.map V.str).length : Nat)]) t3 = _)
        have s17 := (s15.trans st3).trans su
        have hu7 : upd (upd Y5 t3 (.tup [.ref c2, .int ((good.map V.str).length : Nat)])) u (.lst [.ref t1, .ref t3]) u = some (.lst [.ref t1, .ref t3]) := upd_same
        generalize upd (upd Y5 t3 (.tup [.ref c2, .int ((good.map V.str).length : Nat)])) u (.lst [.ref t1, .ref t3]) = Y7 at hf7 hc7 ht7 hc27 ht37 s17 hu7 ⊢
        refine ⟨f, u, zs, _, rfl, rfl, hf7, hu7, Nat.le_trans (show zs.length + 2 ≤ 40 by omega) (by decide), ?_⟩
        have g0 : ∀ o, hid [f] (upd Y7 f o) = hid [f] Y7 := fun o => hid_in List.mem_cons_self
        have sF := sHid (M := [f]) s17
        have xok : NoTk K (hid [f] Y7) nms x := hxm.same (sY.trans sF)
        refine ⟨⟨_, rfl⟩, by rw [g0]; exact sY.trans sF, _, upd_same, fun y hy => ?_, by rw [List.length_append]; show zs.length + 2 ≤ _; omega⟩
        rw [g0]
        rcases List.mem_append.mp hy with hy | hy
        · exact (odY y hy).same sF
        · simp only [List.mem_cons, List.not_mem_nil, or_false] at hy
          have hl : (good.map V.str).length = good.length := List.length_map ..
          rw [hl] at ht7 ht37
          rcases hy with rfl | rfl
          · exact ⟨t1, .ref c1, good.length, rfl, SqT.of (hid_get t1f ht7), .inr ⟨c1, good, x, [.non], rfl, .inl (SqL.of (hid_get c1f hc7)), gin, xok, rfl, by show good.length + 1 ≤ 1000; omega⟩⟩
          · exact ⟨t3, .ref c2, good.length, rfl, SqT.of (hid_get t3f ht37), .inr ⟨c2, good, x, [], rfl, .inr (SqT.of (hid_get c2f hc27)), gin, xok, rfl, by show good.length + 0 ≤ 1000; omega⟩⟩
      · rintro σ Y ⟨⟨v2, rfl⟩, sY, zs, hfY, odY, zl⟩
        have zl : zs.length ≤ 6 + 2 * 7 := zl
        exact ⟨_, rfl, q f zs Y (fun b o e => (hid_of ((s07.trans sY) _ _ e)).2) nf0 hfY odY (by omega)⟩
end
end K8
set_option maxRecDepth 100000
set_option maxHeartbeats 4000000
namespace K8
open PySem PySem.Spec PyProof.Rows L2 LamX
/-! ### a def whose code object is known -/
structure FunC (K : PySem.W.Frag) (x : Str) (st : Stmt) (f : Addr) (fd : FuncData) (c : Addr) : Prop where
  ex : ∃ (oc : Value) (od : Option Addr) (kV doc pm : Value) (an : Option Addr) (ct : Value) (osl : Array (Option Value)), fd = PySem.W.fnOf x x (defArgs st) (defBody st) (defScope st) .none kV doc pm an (.ref c) ct ∧ K.lookup f = some ⟨oc, od, .func fd, osl⟩ ∧ PySem.W.codeIn K (.ref c) x = true
theorem FunC.ok {P : Program} {w : World} {K : PySem.W.Frag} {mg : Str → Option Value} {base : Heap} {x : Str} {st : Stmt} {f c : Addr} {fd : FuncData} {N ps : List Str} {k : Nat} {sp : Sp} (F : FunC K x st f fd c) (S : FnScope N ps (defScope st)) (len : ∀ vs H Q E, sp vs H Q E → vs.length = ps.length)
    (hbody : ∀ (A : Around) (outer : List Env) (s : Shared) (H : Hp) (vs : List V) (Q : VK) (E : XK), Room k (A.deeper (envOfC x (defScope st) s.heap.objs.size f (.ref c))) → sp vs H Q E →
      ∃ t, PSs (cxOf L2.CX0 P w K mg base N x (defScope st) f (.ref c) A outer s H E).nox (defBody st) t ∧ t { nx := fun _ H' => Q .non H', rt := Q } (L2.start N vs) H) : FnOk P w K mg base L2.CX0 (k + 1) f fd ps sp := by
  obtain ⟨oc, od, kV, doc, pm, an, ct, osl, rfl, lk, hcd⟩ := F.ex
  refine fn_of lk hcd S len fun A outer s H vs Q E hr hsp => ?_
  obtain ⟨t, h, q⟩ := hbody A outer s H vs Q E hr hsp
  exact ⟨t, h.nox, q⟩
/-! ### _law_met(lambda: ..) -/
theorem eLam {X : Cx} {K : PySem.W.Frag} {mg : Str → Option Value} {c P : Addr} {k : Nat} {params : Arguments} {body : Expr} {scope : Scope} {t : XK → TE} {p lpos pos : Pos} {base : Heap} (qn : Str) (T : TxE K mg) (TB : TabB base mg c P) (hr : Room (k + 2) X.A) (L : LamS X.env.scope scope)
    (hbody : ∀ (A : Around) (outer : List Env) (s : Shared) (H : Hp) (E : XK) (f c' : Addr), Room k (A.deeper (lamEnv X scope s.heap.objs.size f c')) → PE (lamCx X A outer s H E scope f c') body (t E))
    (hK : X.K = K := by rfl) (hm : X.mg = mg := by rfl) (hB : X.base = base := by rfl) (hcode : X.env.code = .ref c := by rfl) (hdef : defaultsOf params X.env = ([], []) := by rfl)
    (hbind : ∀ (q : Str) (cl : List (Str × Addr)) (pm cv ctv : Value), bindArgs (PySem.W.kla_fn "<lambda>" q params body scope cl pm cv ctv) ⟨[], []⟩ = pure [] := by intros; rfl) (hg : Gl X "_law_met" := by rfl) (hq : X.env.qual ++ "<lambda>" = qn := by rfl) :
    PE X (.Call (.Name "_law_met" p) [.Lambda params body scope lpos] [] pos) (tLam [(P, qn)] (TTmet T.BB.C T.BR.C T.BL.C) t) := by
  subst hK hm hB hq
  obtain ⟨oc, od, kV, doc, pm, an, cdv, ct, osl, e, lk, hcd⟩ := T.met.F.ex
  have hb := T.met.b
  rw [e] at hb lk
  exact pe_lamcall (Ng := ["_law_ask", "e"]) hg T.met.g T.met.F.kp lk hcd hb sc_met rfl (Or.inl rfl) (met_gives T rfl rfl) TB hcode (by simp) (by simp) hr L hdef hbind hbody
/-! ### what outlasts the growing of a table of code objects -/
section
variable {K : PySem.W.Frag} {H H' : Hp}
theorem xSqL (e : ExtN H H') {a : Addr} {xs : List V} (h : SqL K H a xs) : SqL K H' a xs := by
  rcases h with (h | ⟨o, h⟩) | h
  · exact .inl (.inl (e _ _ h fun _ z => by cases z))
  · exact .inl (.inr ⟨o, e _ _ h fun _ z => by cases z⟩)
  · exact .inr h
theorem xSqT (e : ExtN H H') {a : Addr} {xs : List V} (h : SqT K H a xs) : SqT K H' a xs := by
  rcases h with (h | ⟨o, h⟩) | h
  · exact .inl (.inl (e _ _ h fun _ z => by cases z))
  · exact .inl (.inr ⟨o, e _ _ h fun _ z => by cases z⟩)
  · exact .inr h
theorem xSqA (e : ExtN H H') {a : Addr} {xs : List V} (h : SqA K H a xs) : SqA K H' a xs := h.elim (fun h => .inl (xSqL e h)) fun h => .inr (xSqT e h)
mutual
theorem xDp (e : ExtN H H') : ∀ (d : PyData) (v : V), Dp K H v d → Dp K H' v d
  | .none, _, h => by cases h; exact .non
  | .bool _, _, h => by cases h; exact .bl _
  | .int _, _, h => by cases h; exact .int _
  | .str _, _, h => by cases h; exact .str _
  | .list ds, _, h => by
    cases h with
    | lst h1 h2 => exact .lst (xSqL e h1) (xDpAll e ds _ h2)
  | .tuple ds, _, h => by
    cases h with
    | tup h1 h2 => exact .tup (xSqT e h1) (xDpAll e ds _ h2)
  | .dict _, _, h => by cases h
theorem xDpAll (e : ExtN H H') : ∀ (ds : List PyData) (vs : List V), DpAll K H vs ds → DpAll K H' vs ds
  | [], _, h => by cases h; exact .nil
  | d :: ds, _, h => by
    cases h with
    | cons h1 h2 => exact .cons (xDp e d _ h1) (xDpAll e ds _ h2)
end
theorem xTyX (e : ExtN H H') {v : V} {n : String} (h : TyX K H v (.type n)) : TyX K H' v (.type n) := by
  have k : ∀ {a : Addr} {o : HO}, H a = some o → (∀ ps, o ≠ .tbl ps) → H' a = some o := fun g h => e _ _ g h
  cases h with
  | base b =>
    cases b with
    | non => exact .base .non
    | bl y => exact .base (.bl y)
    | int i => exact .base (.int i)
    | str y => exact .base (.str y)
    | flt y => exact .base (.flt y)
    | lst e => exact .base (.lst (k e fun _ z => by cases z))
    | frz e => exact .base (.frz (k e fun _ z => by cases z))
    | tup e => exact .base (.tup (k e fun _ z => by cases z))
    | dK e => exact .base (.dK (k e fun _ z => by cases z))
    | dT e => exact .base (.dT (k e fun _ z => by cases z))
  | byt y => exact .byt y
  | set e => exact .set (k e fun _ z => by cases z)
  | kList e c => exact .kList e c
  | kTuple e c => exact .kTuple e c
  | kDict e c => exact .kDict e c
  | fTuple e => exact .fTuple (k e fun _ z => by cases z)
  | fDict e => exact .fDict (k e fun _ z => by cases z)
theorem exO_tbl {cls : Value} {a : Addr} (ps : Array Value) : ExO cls a ≠ .tbl ps := fun z => by
  unfold ExO at z
  cases z
theorem xNoTk (e : ExtN H H') {nms : List Str} {v : V} (h : NoTk K H nms v) : NoTk K H' nms v := h.elim .inl fun ⟨n, hk, hn, ty⟩ => .inr ⟨n, hk, hn, xTyX e ty⟩
theorem xNoRow (e : ExtN H H') {nms : List Str} {v : V} {i : Nat} (h : NoRow K H nms v i) : NoRow K H' nms v i := by
  rcases h with ⟨n, hk, hn, ty, z⟩ | ⟨a, good, x, rest, z, ha, hg, hx, z2, hl⟩
  · exact .inl ⟨n, hk, hn, xTyX e ty, z⟩
  · exact .inr ⟨a, good, x, rest, z, xSqA e ha, hg, xNoTk e hx, z2, hl⟩
theorem xOddAt (e : ExtN H H') {nms : List Str} {y : V} (h : OddAt K H nms y) : OddAt K H' nms y := by
  obtain ⟨t, x, i, z, ht, hx⟩ := h
  exact ⟨t, x, i, z, xSqT e ht, xNoRow e hx⟩
theorem xKvD {α : Type} {f : α → PyData} {F : List (Str × α)} {kvs : List (Key × V)} (e : ExtN H H') (h : KvD K H f F kvs) : KvD K H' f F kvs := Paired_mono (fun _ _ q => ⟨q.1, xDp e _ _ q.2⟩) h
theorem xBook {C p : Addr} {R' : Bk} {N : Str → Nat} (e : ExtN H H') (h : BookAt K C H p R' N) : BookAt K C H' p R' N := by
  obtain ⟨dx, d1, d2, k1, k2, F, h1, h2, h3, h4, h5, h6⟩ := h.ex
  exact ⟨dx, d1, d2, k1, k2, F, e _ _ h1 (fun _ z => by cases z), e _ _ h2 (fun _ z => by cases z), e _ _ h3 (fun _ z => by cases z), xKvD e h4, xKvD e h5, h6⟩
theorem xNoLet (e : ExtN H H') {l : V} (h : NoLet K H l) : NoLet K H' l := h.elim .inl fun ⟨n, hk, hn, ty⟩ => .inr ⟨n, hk, hn, xTyX e ty⟩
end
/-- a place that is new since H, but for tables, may be written -/
theorem extN_put {H Y : Hp} {p : Addr} {o : HO} (e : ExtN H Y) (f : Fr0 H p) : ExtN H (upd Y p o) := fun b u g n => by
  by_cases hb : b = p
  · rw [hb] at g
    obtain ⟨ps, z⟩ := f u g
    exact absurd z (n ps)
  · rw [upd_ne hb]
    exact e b u g n
theorem fr0_of {H Y : Hp} {p : Addr} (e : ExtN H Y) (n : Y p = none) : Fr0 H p := fun o g => by
  by_cases h : ∃ ps, o = .tbl ps
  · exact h
  · have := e p o g fun ps z => h ⟨ps, z⟩
    rw [n] at this
    cases this
/-! ### the same data are the same -/
theorem sm_dpAll {K : PySem.W.Frag} {H : Hp} {n : Nat} (ih : ∀ d x y, d.depth < n → lpB d = true → Dp K H x d → Dp K H y d → Sm K H n x y) : ∀ {ds : List PyData} {xs ys : List V}, PyData.depthAll ds < n → lpAll ds = true → DpAll K H xs ds → DpAll K H ys ds → Paired (Sm K H n) xs ys
  | [], _, _, _, _, h1, h2 => by cases h1; cases h2; exact .nil
  | d :: ds, _, _, hd, hl, h1, h2 => by
    cases h1 with
    | cons a1 t1 =>
      cases h2 with
      | cons a2 t2 =>
        rw [PyData.depthAll] at hd
        rw [lpAll, Bool.and_eq_true] at hl
        exact .cons (ih d _ _ (by omega) hl.1 a1 a2) (sm_dpAll ih (by omega) hl.2 t1 t2)
theorem sm_dp {K : PySem.W.Frag} {H : Hp} : ∀ (n : Nat) (d : PyData) (x y : V), d.depth < n → lpB d = true → Dp K H x d → Dp K H y d → Sm K H n x y
  | 0, _, _, _, h, _, _, _ => absurd h (Nat.not_lt_zero _)
  | n + 1, d, x, y, hd, hl, hx, hy => by
    cases hx with
    | non => simp [lpB] at hl
    | bl _ => simp [lpB] at hl
    | int _ => simp [lpB] at hl
    | str z => cases hy; exact .inl ⟨rfl, .inr (.inr (.inr ⟨z, rfl⟩))⟩
    | @lst a xs ds h1 h2 =>
      cases hy with
      | @lst b ys _ g1 g2 =>
        simp only [lpB, Bool.and_eq_true, decide_eq_true_eq] at hl
        simp only [PyData.depth] at hd
        have := DpAll.len h2
        exact .inr (.inl ⟨a, b, xs, ys, rfl, rfl, by omega, .inl ⟨h1, g1⟩, sm_dpAll (sm_dp n) (by omega) hl.2 h2 g2⟩)
    | @tup a xs ds h1 h2 =>
      cases hy with
      | @tup b ys _ g1 g2 =>
        simp only [lpB, Bool.and_eq_true, decide_eq_true_eq] at hl
        simp only [PyData.depth] at hd
        have := DpAll.len h2
        exact .inr (.inl ⟨a, b, xs, ys, rfl, rfl, by omega, .inr ⟨h1, g1⟩, sm_dpAll (sm_dp n) (by omega) hl.2 h2 g2⟩)
theorem sm_mono {K : PySem.W.Frag} {H : Hp} : ∀ {n m : Nat} {x y : V}, n ≤ m → Sm K H n x y → Sm K H m x y
  | 0, _, _, _, _, h => h.elim
  | n + 1, 0, _, _, h, _ => absurd h (by omega)
  | n + 1, m + 1, x, y, hm, h => by
    rcases h with h | ⟨a, b, xs, ys, e1, e2, hl, hq, hp⟩ | ⟨a, e1, e2, h, hn⟩ | h
    · exact .inl h
    · exact .inr (.inl ⟨a, b, xs, ys, e1, e2, hl, hq, Paired_mono (fun _ _ q => sm_mono (by omega) q) hp⟩)
    · exact .inr (.inr (.inl ⟨a, e1, e2, h, by omega⟩))
    · exact .inr (.inr (.inr h))
/-! ### what met makes of what raises -/
abbrev Emet (B R L : Addr) (Q : VK) : XK := fun cls d H' => MetC B "thing" "book" cls d H' Q ∨ MetC R "index" "row" cls d H' Q ∨ MetC L "thing" "letter" cls d H' Q
section
variable {B R L : Addr} {Q : VK} {v : V} {H1 : Hp}
theorem rs_book (h : ∀ t Y, Same H1 Y → H1 t = none → Y t = some (.tup [.str "book", v]) → Q (.ref t) Y) : Rs (Emet B R L Q) B "thing" v H1 :=
  fun d H' s nd hd => .inl ⟨rfl, d, v, rfl, hd, fun t nt => h t _ (s.trans (same_new nt)) (Same.free s nt) upd_same⟩
theorem rs_row (h : ∀ t Y, Same H1 Y → H1 t = none → Y t = some (.tup [.str "row", v]) → Q (.ref t) Y) : Rs (Emet B R L Q) R "index" v H1 :=
  fun d H' s nd hd => .inr (.inl ⟨rfl, d, v, rfl, hd, fun t nt => h t _ (s.trans (same_new nt)) (Same.free s nt) upd_same⟩)
theorem rs_let (h : ∀ t Y, Same H1 Y → H1 t = none → Y t = some (.tup [.str "letter", v]) → Q (.ref t) Y) : Rs (Emet B R L Q) L "thing" v H1 :=
  fun d H' s nd hd => .inr (.inr ⟨rfl, d, v, rfl, hd, fun t nt => h t _ (s.trans (same_new nt)) (Same.free s nt) upd_same⟩)
end
end K8
set_option maxRecDepth 100000
set_option maxHeartbeats 8000000
namespace K8
open PySem PySem.Spec PyProof.Rows L2
def qLam : Str := (("_law_refused_right" : Str) ++ ".<locals>.") ++ "<lambda>"
abbrev TbP (P : Addr) (H : Hp) : Prop := LamX.Tabs [(P, qLam)] H
abbrev Ex (H H' : Hp) : Prop := LamX.ExtN H H'
def spRefused (K : PySem.W.Frag) (C P : Addr) : Sp := fun vs H Q _ => ∃ (v : V) (d p : Addr) (kvs : List (Key × V)) (R R' : Bk) (N : Str → Nat), vs = [v, .ref d, .ref p] ∧ H d = some (.dK kvs) ∧ KvD K H encRs R kvs ∧ GX R ∧ BookAt K C H p R' N ∧ BkEq R R' ∧ TbP P H ∧
  ∀ H', Ex H H' → TbP P H' → Q (.bl true) H'
structure TxR (K : PySem.W.Frag) (mg : Str → Option Value) extends TxE K mg where
  cR : Addr
  pR : Addr
  FR : FunC K "_law_refused_right" s_refused_right refused_right.f refused_right.fd cR
theorem at0 {y : V} {ys : List V} : atI (y :: ys) (0 : Int) = some y := atI_nat (j := 0) (xs := y :: ys) rfl
theorem items_dp {K : PySem.W.Frag} {H : Hp} : ∀ {ts : List Addr} {kvs : List (Key × V)} {R : Bk}, Paired (fun (t : Addr) (q : Key × V) => H t = some (.tup [kV q.1, q.2])) ts kvs → KvD K H encRs R kvs → DpAll K H (ts.map V.ref) (R.map encT)
  | _, _, _, .nil, .nil => .nil
  | _, _, _, .cons h t, .cons q r => .cons (by
      obtain ⟨e, d⟩ := q
      rw [e] at h
      exact .tup (SqT.of h) (.cons (.str _) (.cons d .nil))) (items_dp t r)
theorem xSm {K : PySem.W.Frag} {H H' : Hp} (e : Ex H H') : ∀ {n : Nat} {x y : V}, Sm K H n x y → Sm K H' n x y
  | 0, _, _, h => h
  | n + 1, x, y, h => by
    rcases h with h | ⟨a, b, xs, ys, e1, e2, hl, hq, hp⟩ | ⟨a, e1, e2, h, hn⟩ | ⟨a, C, e1, e2, h, c⟩
    · exact .inl h
    · refine .inr (.inl ⟨a, b, xs, ys, e1, e2, hl, ?_, Paired_mono (fun _ _ q => xSm e q) hp⟩)
      rcases hq with ⟨q1, q2⟩ | ⟨q1, q2⟩
      · exact .inl ⟨xSqL e q1, xSqL e q2⟩
      · exact .inr ⟨xSqT e q1, xSqT e q2⟩
    · exact .inr (.inr (.inl ⟨a, e1, e2, e _ _ h (fun _ z => by cases z), hn⟩))
    · exact .inr (.inr (.inr ⟨a, C, e1, e2, e _ _ h exO_tbl, c⟩))
theorem xNoBook {K : PySem.W.Frag} {C : Addr} {H H' : Hp} (e : Ex H H') {v : V} (h : (∃ n, n ∈ kinds ∧ TyX K H v (.type n) ∧ PySem.W.kitOne K (.type n) (.ref C) = some false) ∨ ∃ a D, v = .ref a ∧ H a = some (ExO (.ref D) a) ∧ ExcC K D ∧ PySem.W.kitOne K (.ref D) (.ref C) = some false) : NoBook K C H' v := by
  rcases h with ⟨n, hk, ty, kt⟩ | ⟨a, D, rfl, ha, c, kt⟩
  · exact ⟨_, .base (xTyX e ty), kt⟩
  · exact ⟨_, .exc (e _ _ ha exO_tbl) c, kt⟩
theorem tb_put {P p : Addr} {Y : Hp} {xs : List V} {o : HO} (t : TbP P Y) (h : Y p = some (.lst xs)) : TbP P (upd Y p o) := fun q hq => by
  obtain ⟨ps, g1, g2, g3⟩ := t q hq
  have n1 : q.1 ≠ p := fun z => by rw [z, h] at g1; cases g1
  refine ⟨ps, by rw [upd_ne n1]; exact g1, g2, fun pos cv hc => ?_⟩
  obtain ⟨c, e, g4⟩ := g3 pos cv hc
  refine ⟨c, e, ?_⟩
  have n2 : c ≠ p := fun z => by
    rw [z, h] at g4
    unfold LamX.CodeO at g4
    cases g4
  rw [upd_ne n2]
  exact g4
theorem sm_two {K : PySem.W.Frag} {H : Hp} {n : Nat} {word : Str} {x y : V} {t u : Addr} (hx : Sm K H (n + 1) x y) (ht : SqT K H t [.str word, x]) (hu : SqT K H u [.str word, y]) : Sm K H (n + 2) (.ref t) (.ref u) :=
  .inr (.inl ⟨t, u, _, _, rfl, rfl, (by show 2 ≤ 1000000; decide), .inr ⟨ht, hu⟩, .cons (.inl ⟨rfl, .inr (.inr (.inr ⟨_, rfl⟩))⟩) (.cons hx .nil)⟩)
theorem sm_trip {K : PySem.W.Frag} {H : Hp} {n : Nat} {word : Str} {x : V} {t1 t2 t3 u l l' : Addr} (hx : Sm K H (n + 1) x x) (h1 : SqT K H t1 [.str word, x]) (h2 : SqT K H t2 [.str word, x]) (h3 : SqT K H t3 [.str word, x]) (hu : SqT K H u [.str word, x])
    (hl : SqL K H l [.ref t1, .ref t2, .ref t3]) (hl' : SqL K H l' [.ref u, .ref u, .ref u]) : Sm K H (n + 3) (.ref l) (.ref l') :=
  .inr (.inl ⟨l, l', _, _, rfl, rfl, (by show 3 ≤ 1000000; decide), .inl ⟨hl, hl'⟩, .cons (sm_two hx h1 hu) (.cons (sm_two hx h2 hu) (.cons (sm_two hx h3 hu) .nil))⟩)
theorem NoRow.names {K : PySem.W.Frag} {H : Hp} {a b : List Str} (h : ∀ n, n ∈ a ↔ n ∈ b) {v : V} {i : Nat} (r : NoRow K H a v i) : NoRow K H b v i := by
  rcases r with ⟨n, hk, hn, ty, e⟩ | ⟨p, good, x, rest, e, ha, hg, hx, e2, hl⟩
  · exact .inl ⟨n, hk, hn, ty, e⟩
  · exact .inr ⟨p, good, x, rest, e, ha, fun z hz => (h z).mp (hg z hz), hx.elim (fun ⟨z, e, hz⟩ => .inl ⟨z, e, fun m => hz ((h z).mpr m)⟩) .inr, e2, hl⟩
section
variable {P : Program} {w : World} {K : PySem.W.Frag} {mg : Str → Option Value} {base : Heap}
theorem sc_refused_right : FnScope ["_law_stream", "_law_rules", "_law_made", "_law_odd_rows", "_law_letter", "_law_found", "_law_index", "_law_good", "_law_held", "_law_odd"] ["_law_stream", "_law_rules", "_law_made"] (defScope s_refused_right) := ⟨rfl, rfl, rfl, by decide +kernel, rfl, by decide +kernel, by decide +kernel⟩
theorem ok_refused (T : TxR K mg) (TB : LamX.TabB base mg T.cR T.pR) : FnOk P w K mg base CX0 12 T.refused_right.f T.refused_right.fd ["_law_stream", "_law_rules", "_law_made"] (spRefused K T.C T.pR) := by
  have G_d_odd_rows : FnOk P w K mg base CX0 11 T.d_odd_rows.f T.d_odd_rows.fd _ (spOddRows K) := (ok_d_odd_rows T.toTxt).mono (by decide)
  have G_same : FnOk P w K mg base CX0 11 T.same.f T.same.fd _ (spSame K 10) := ok_same T.toTxt 10
  have G_behind : FnOk P w K mg base CX0 11 T.behind.f T.behind.fd _ (spBehind K T.C) := (ok_behind T.toTxB).mono (by decide)
  have GX_steps_of : FnOk P w K mg base (L2.CX P w) 4 T.steps_of.f T.steps_of.fd _ (spStepsB K T.C T.BB.C T.BR.C) := ok_steps_ofB T.toTxE
  have GX_behind : FnOk P w K mg base (L2.CX P w) 4 T.behind.f T.behind.fd _ (spBehindB K T.C T.BB.C T.BR.C T.BL.C) := ok_behindB T.toTxE
  have GX_lessening : FnOk P w K mg base (L2.CX P w) 4 T.lessening.f T.lessening.fd _ (spStepsB K T.C T.BB.C T.BR.C) := ok_lesseningB T.toTxE
  refine T.FR.ok sc_refused_right (fun vs H Q E h => ?_) (fun A outer s H vs Q E hr h => ?_)
  · obtain ⟨v, d, p, kvs, R, R', N, rfl, _⟩ := h
    rfl
  obtain ⟨v, d, bk, kvs, R, R', N, rfl, hd, kd, gx, hbk, beq, tb, q⟩ := h
  have nd := sc_refused_right.nd
  have TE := T.toTxE
  refine ⟨_, (pss_cons (ps_asg (pe_tup (pa_cons (pe_slice (slL K) (eListK rfl T.z_list (pv 1)) po_none (po_some pe_int)) (pa_cons (eC T.d_odd_rows G_d_odd_rows hr (pa_cons (pv 1) pa_nil)) (pa_cons (pe_ix (ixT K) (pe_ix (ixL K) (pe_ix (ixL K) (pe_op (oCatL K) (pe_listVals rfl (pv 1) T.z_list) (pe_lst (pa_cons (pe_lst (pa_cons (pe_tup (pa_cons pe_str (pa_cons (pe_lst pa_nil) pa_nil))) pa_nil)) pa_nil))) pe_int (fun _ _ => rfl)) pe_int (fun _ _ => rfl)) pe_int (fun _ _ => rfl)) pa_nil)))) (gTu (K := K) rfl (pgs_cons (pg_name (i := 7) nd rfl (Or.inr rfl)) (pgs_cons (pg_name (i := 3) nd rfl (Or.inl rfl)) (pgs_cons (pg_name (i := 4) nd rfl (Or.inl rfl)) pgs_nil)))))
    (pss_cons (ps_for PassesOwn.never rfl (iT K (pe_tup (pa_cons pe_non (pa_cons pe_int (pa_cons pe_str (pa_cons (pe_lst pa_nil) (pa_cons pe_dnewK (pa_cons pe_bl (pa_cons (LiI.pe_listItems rfl (pv 1) rfl T.z_list PyProof.Rows.boot_list) (pa_cons (pe_exc0 T.vTE.eq T.gTE T.kTE rfl) pa_nil)))))))))) (pg_name (i := 9) nd rfl (Or.inr rfl))
      (pss_cons (ps_set (i := 5) nd rfl (Or.inl rfl) (pe_lst (pa_cons (eLam qLam T.toTxE TB (hr.mono (by decide)) (LamX.lamS_by (sc := defScope s_refused_right) (by decide +kernel)) (fun _ _ _ _ _ _ _ hr => (eCX (takes_of rfl rfl rfl rfl) T.steps_of GX_steps_of hr (pa_cons (pv 9) (pa_cons pe_non pa_nil))))) pa_nil)))
      (pss_cons (ps_expr (eAppend K (pv 5) (eLam qLam T.toTxE TB (hr.mono (by decide)) (LamX.lamS_by (sc := defScope s_refused_right) (by decide +kernel)) (fun _ _ _ _ _ _ _ hr => (eCX (takes_of rfl rfl rfl rfl) T.behind GX_behind hr (pa_cons (pv 9) (pa_cons pe_non (pa_cons pe_non pa_nil))))))))
      (pss_cons (ps_expr (eAppend K (pv 5) (eLam qLam T.toTxE TB (hr.mono (by decide)) (LamX.lamS_by (sc := defScope s_refused_right) (by decide +kernel)) (fun _ _ _ _ _ _ _ hr => (eCX (takes_of rfl rfl rfl rfl) T.lessening GX_lessening hr (pa_cons (pv 9) (pa_cons pe_non pa_nil)))))))
      (pss_one (ps_if (pt_not (pt_val (eC T.same G_same hr (pa_cons (pv 5) (pa_cons (pe_op op_rep (pe_lst (pa_cons (pe_tup (pa_cons pe_str (pa_cons (pv 9) pa_nil))) pa_nil)) pe_int) pa_nil)))))
        (pss_one (ps_ret pe_bl)) pss_nil))))))
    (pss_cons (ps_for PassesOwn.never rfl (iL K (pv 3)) (gTu (K := K) rfl (pgs_cons (pg_name (i := 9) nd rfl (Or.inr rfl)) (pgs_cons (pg_name (i := 6) nd rfl (Or.inl rfl)) pgs_nil)))
      (pss_cons (ps_set (i := 5) nd rfl (Or.inl rfl) (pe_lst (pa_cons (eLam qLam T.toTxE TB (hr.mono (by decide)) (LamX.lamS_by (sc := defScope s_refused_right) (by decide +kernel)) (fun _ _ _ _ _ _ _ hr => (eCX (takes_of rfl rfl rfl rfl) T.steps_of GX_steps_of hr (pa_cons (pv 2) (pa_cons (pv 9) pa_nil))))) pa_nil)))
      (pss_cons (ps_expr (eAppend K (pv 5) (eLam qLam T.toTxE TB (hr.mono (by decide)) (LamX.lamS_by (sc := defScope s_refused_right) (by decide +kernel)) (fun _ _ _ _ _ _ _ hr => (eCX (takes_of rfl rfl rfl rfl) T.behind GX_behind hr (pa_cons (pv 2) (pa_cons (pv 9) (pa_cons pe_non pa_nil))))))))
      (pss_cons (ps_expr (eAppend K (pv 5) (eLam qLam T.toTxE TB (hr.mono (by decide)) (LamX.lamS_by (sc := defScope s_refused_right) (by decide +kernel)) (fun _ _ _ _ _ _ _ hr => (eCX (takes_of rfl rfl rfl rfl) T.lessening GX_lessening hr (pa_cons (pv 2) (pa_cons (pv 9) pa_nil)))))))
      (pss_one (ps_if (pt_not (pt_val (eC T.same G_same hr (pa_cons (pv 5) (pa_cons (pe_op op_rep (pe_lst (pa_cons (pe_tup (pa_cons pe_str (pa_cons (pv 6) pa_nil))) pa_nil)) pe_int) pa_nil)))))
        (pss_one (ps_ret pe_bl)) pss_nil))))))
    (pss_cons (ps_for PassesOwn.never rfl (iT K (pe_tup (pa_cons pe_non (pa_cons pe_int (pa_cons pe_str (pa_cons pe_str (pa_cons pe_str (pa_cons pe_str (pa_cons pe_str (pa_cons pe_str (pa_cons pe_str (pa_cons (pe_lst (pa_cons pe_str pa_nil)) (pa_cons (pe_tup (pa_cons pe_str pa_nil)) (pa_cons pe_bl (pa_cons pe_dnewK (pa_cons pe_str (pa_cons pe_str (pa_cons pe_str pa_nil)))))))))))))))))) (pg_name (i := 9) nd rfl (Or.inr rfl))
      (pss_one (ps_if (pt_not (pt_val (eC T.same G_same hr (pa_cons (eLam qLam T.toTxE TB (hr.mono (by decide)) (LamX.lamS_by (sc := defScope s_refused_right) (by decide +kernel)) (fun _ _ _ _ _ _ _ hr => (eCX (takes_of rfl rfl rfl rfl) T.behind GX_behind hr (pa_cons (pv 2) (pa_cons (pv 7) (pa_cons (pv 9) pa_nil)))))) (pa_cons (pe_tup (pa_cons pe_str (pa_cons (pv 9) pa_nil))) pa_nil)))))
        (pss_one (ps_ret pe_bl)) pss_nil)))
    (pss_cons (ps_set (i := 8) nd rfl (Or.inr rfl) (pe_lst (pa_cons pe_str pa_nil)))
    (pss_cons (ps_set (i := 5) nd rfl (Or.inl rfl) (eLam qLam T.toTxE TB (hr.mono (by decide)) (LamX.lamS_by (sc := defScope s_refused_right) (by decide +kernel)) (fun _ _ _ _ _ _ _ hr => (eCX (takes_of rfl rfl rfl rfl) T.behind GX_behind hr (pa_cons (pv 2) (pa_cons (pv 7) (pa_cons (pv 8) pa_nil)))))))
    (pss_cons (ps_expr (eAppend K (pv 8) pe_str))
    (pss_one (ps_ret (pe_and (eC T.same G_same hr (pa_cons (pv 5) (pa_cons (pe_tup (pa_cons pe_str (pa_cons (pe_lst (pa_cons pe_str (pa_cons pe_str pa_nil))) pa_nil))) pa_nil))) (pe_one (eIsi K T.z_isinstance (eC T.behind G_behind hr (pa_cons (pv 2) (pa_cons (pv 7) (pa_cons (pv 4) pa_nil)))) (eTy T.z_list PyProof.Rows.boot_list))))))))))))), ?_⟩
  obtain ⟨nms, enms⟩ : ∃ nms, nms = R.map (·.1) := ⟨_, rfl⟩
  have hk : kvs.map (·.1) = nms.map Sum.inr := by rw [enms]; exact kvd_keys kd
  have nml : nms.length ≤ 12 := by rw [enms, List.length_map]; exact gx.few
  have nmne : nms ≠ [] := by rw [enms]; exact fun e => gx.some (List.map_eq_nil_iff.mp e)
  have n12 : ∀ n ∈ nms, n ∈ names12 := fun n hn => by
    rw [enms] at hn
    obtain ⟨t, ht, rfl⟩ := List.mem_map.mp hn
    exact gx.n12 t ht
  have ek : (kvs.map fun kv => kV kv.1) = nms.map V.str := by
    have : (kvs.map fun kv => kV kv.1) = (kvs.map (·.1)).map kV := by rw [List.map_map]; rfl
    rw [this, hk, List.map_map]
    rfl
  refine ⟨_, rfl, d, kvs, rfl, hd, fun l nl => ?_⟩
  rw [ek] at *
  have sl := same_new (o := .lst (nms.map V.str)) nl
  refine ⟨_, rfl, l, _, rfl, SqL.of upd_same, fun g ng => ?_⟩
  have e2 : cutV (nms.map V.str) none (some (2 : Int)) = (nms.take 2).map V.str := by rw [List.map_take]; exact cut_take _ 2
  rw [e2]
  obtain ⟨good, eg⟩ : ∃ good, good = nms.take 2 := ⟨_, rfl⟩
  have gin : ∀ z ∈ good, z ∈ nms := fun z hz => List.mem_of_mem_take (eg ▸ hz)
  have gl : good.length ≤ 2 := by rw [eg, List.length_take]; exact Nat.min_le_left _ _
  rw [← eg]
  have sg := same_new (o := .lst (good.map V.str)) ng
  have s1 := sl.trans sg
  have hg1 : upd (upd H l (.lst (nms.map V.str))) g (.lst (good.map V.str)) g = some (.lst (good.map V.str)) := upd_same
  generalize upd (upd H l (.lst (nms.map V.str))) g (.lst (good.map V.str)) = H1 at s1 hg1 ⊢
  clear sg sl ng nl e2
  refine ⟨_, rfl, d, kvs, nms, rfl, s1 _ _ hd, hk, by omega, nmne, (fun z => absurd (n12 _ z) (by decide)), (fun z => absurd (n12 _ z) (by decide)), fun op ys H2 s2 np2 hp2 od2 yl2 => ?_⟩
  have sA := s1.trans s2
  refine ⟨_, rfl, d, kvs, rfl, sA _ _ hd, fun lv nlv => ⟨(by show 0 ≤ sizeLine; decide), fun a1 na1 => ⟨(by show 2 ≤ sizeLine; decide), fun a2 na2 => ⟨(by show 1 ≤ sizeLine; decide), fun a3 na3 => ⟨(by show 1 ≤ sizeLine; decide), fun a4 na4 => ?_⟩⟩⟩⟩⟩
  have slv := same_new (o := .lst (kvs.map (·.2))) nlv
  have sa1 := same_new (o := .lst []) na1
  have sa2 := same_new (o := .tup [.str "a", .ref a1]) na2
  have sa3 := same_new (o := .lst [.ref a2]) na3
  have sa4 := same_new (o := .lst [.ref a3]) na4
  have s3 := (((slv.trans sa1).trans sa2).trans sa3).trans sa4
  have hlv := sa4 _ _ (sa3 _ _ (sa2 _ _ (sa1 _ _ (upd_same : upd H2 lv (.lst (kvs.map (·.2))) lv = _))))
  have ha4 : upd (upd (upd (upd (upd H2 lv (.lst (kvs.map (·.2)))) a1 (.lst [])) a2 (.tup [.str "a", .ref a1])) a3 (.lst [.ref a2])) a4 (.lst [.ref a3]) a4 = some (.lst [.ref a3]) := upd_same
  generalize upd (upd (upd (upd (upd H2 lv (.lst (kvs.map (·.2)))) a1 (.lst [])) a2 (.tup [.str "a", .ref a1])) a3 (.lst [.ref a2])) a4 (.lst [.ref a3]) = H3 at s3 hlv ha4 ⊢
  clear slv sa1 sa2 sa3 sa4 na1 na2 na3 na4 nlv
  have kl : kvs.length = R.length := kd.len
  refine ⟨lv, a4, _, _, rfl, rfl, SqL.of hlv, SqL.of ha4, Nat.le_trans (show (kvs.map (·.2)).length + 1 ≤ 20 by rw [List.length_map]; have := gx.few; omega) (by decide), fun lc nlc => ?_⟩
  -- the first talk's first rule
  obtain ⟨t0, R0, eR⟩ : ∃ t0 R0, R = t0 :: R0 := by
    cases R with
    | nil => exact absurd rfl gx.some
    | cons a b => exact ⟨a, b, rfl⟩
  obtain ⟨kv0, kvs0, ekv, hkv0⟩ : ∃ kv0 kvs0, kvs = kv0 :: kvs0 ∧ Dp K H kv0.2 (encRs t0.2) := by
    rw [eR] at kd
    cases kd with
    | cons a b => exact ⟨_, _, rfl, a.2⟩
  have t0m : t0 ∈ R := by rw [eR]; exact List.mem_cons_self
  obtain ⟨q0, rs0, er0⟩ : ∃ q0 rs0, t0.2 = q0 :: rs0 := by
    cases h : t0.2 with
    | nil => exact absurd h (gx.ne t0 t0m)
    | cons a b => exact ⟨a, b, rfl⟩
  have q0m : q0 ∈ t0.2 := by rw [er0]; exact List.mem_cons_self
  obtain ⟨rb, xs, ev0, hrb, dxs⟩ := dp_list hkv0
  obtain ⟨x0, xs0, exs, dx0⟩ : ∃ x0 xs0, xs = x0 :: xs0 ∧ Dp K H x0 (encL q0) := by
    rw [er0] at dxs
    cases dxs with
    | cons a b => exact ⟨_, _, rfl, a⟩
  obtain ⟨c1, c2, ec, hc1, hc2⟩ := dp_L dx0
  have slc := same_new (o := .lst (kvs.map (·.2) ++ [.ref a3])) nlc
  have s4 := (sA.trans s3).trans slc
  have hlc : upd H3 lc (.lst (kvs.map (·.2) ++ [.ref a3])) lc = some (.lst (.ref rb :: (kvs0.map (·.2) ++ [.ref a3]))) := by rw [upd_same, ekv]; simp only [List.map_cons, List.cons_append, ev0]
  refine ⟨lc, _, 0, _, rfl, rfl, SqL.of hlc, at0, rb, xs, 0, x0, rfl, rfl, s4.seq hrb, by rw [exs]; exact at0, c1, _, 0, .str q0.1, ec, rfl, sSeqT s4 hc1, at0, (by show 3 ≤ sizeLine; decide), fun z nz => ⟨z, _, rfl, SqT.of upd_same, rfl, _, _, rfl, _, _, rfl, _, _, rfl, rfl, ?_⟩⟩
  have sz := same_new (o := .tup [.ref g, .ref op, .str q0.1]) nz
  have s5 := s4.trans sz
  have gne := sz _ _ (slc _ _ (s3 _ _ (s2 _ _ hg1)))
  have s25 := (s3.trans slc).trans sz
  have hop := s25 _ _ hp2
  have opo : ∀ y ∈ ys, OddAt K (upd (upd H3 lc (.lst (kvs.map (·.2) ++ [.ref a3]))) z (.tup [.ref g, .ref op, .str q0.1])) nms y := fun y hy => ((od2 y hy).same hid_same).same s25
  generalize upd (upd H3 lc (.lst (kvs.map (·.2) ++ [.ref a3]))) z (.tup [.ref g, .ref op, .str q0.1]) = H5 at s5 gne hop opo ⊢
  clear s4 slc s25 sz hlc nz nlc hlv ha4 s3 sA hp2 od2 np2 s1 s2 hg1 hkv0 hrb dxs dx0 ec hc1 hc2
  have hd5 := s5 _ _ hd
  have kd5 := kd.same s5
  have hbk5 := hbk.same s5
  have tb5 : TbP T.pR H5 := tb.ext s5
  have ex5 : Ex H H5 := LamX.ExtN.of s5
  have lokq := gx.lb t0 t0m q0 q0m
  have hnm : ∀ {n}, n ∈ R'.map (·.1) ↔ n ∈ nms := fun {n} => by rw [enms]; exact beq.nm.mem_iff
  clear hd kd hbk tb
  refine ⟨(by show 0 ≤ sizeLine; decide), fun b1 nb1 => ?_⟩
  intro b2 nb2
  have sb1 := same_new (o := .lst []) nb1
  have sb2 := same_new (o := .dK []) nb2
  have sb := sb1.trans sb2
  refine ⟨_, rfl, d, kvs, rfl, sb _ _ hd5, fun H6 li ts s6 nli nts pts hli prs => ?_⟩
  intro te nte
  refine ⟨(by show 8 ≤ sizeLine; decide), fun tp ntp => ⟨tp, rfl, ⟨_, SqT.of upd_same⟩, ?_⟩⟩
  obtain ⟨els, eels⟩ : ∃ els : List V, els = [.non, .int 5, .str "ab", .ref b1, .ref b2, .bl true, .ref li, .ref te] := ⟨_, rfl⟩
  have ste := same_new (o := ExO (.ref T.TE) te) nte
  have stp := same_new (o := .tup [.non, .int 5, .str "ab", .ref b1, .ref b2, .bl true, .ref li, .ref te]) ntp
  have s7 := ste.trans stp
  have s8 := (sb.trans s6).trans s7
  have hb1 := s7 _ _ (s6 _ _ (sb2 _ _ (upd_same : upd H5 b1 (.lst []) b1 = _)))
  have hb2 := s7 _ _ (s6 _ _ (upd_same : upd (upd H5 b1 (.lst [])) b2 (.dK []) b2 = _))
  have hli8 := s7 _ _ hli
  have prs8 : Paired (fun (t : Addr) (q : Key × V) => (upd (upd H6 te (ExO (.ref T.TE) te)) tp (.tup [.non, .int 5, .str "ab", .ref b1, .ref b2, .bl true, .ref li, .ref te])) t = some (.tup [kV q.1, q.2])) ts kvs := Paired_mono (fun _ _ q => s7 _ _ q) prs
  have hte8 := stp _ _ (upd_same : upd H6 te (ExO (.ref T.TE) te) te = _)
  have htp8 : upd (upd H6 te (ExO (.ref T.TE) te)) tp (.tup [.non, .int 5, .str "ab", .ref b1, .ref b2, .bl true, .ref li, .ref te]) tp = some (.tup els) := by rw [eels]; exact upd_same
  generalize upd (upd H6 te (ExO (.ref T.TE) te)) tp (.tup [.non, .int 5, .str "ab", .ref b1, .ref b2, .bl true, .ref li, .ref te]) = H8 at s8 hb1 hb2 hli8 prs8 hte8 htp8 ⊢
  have tb8 : TbP T.pR H8 := tb5.ext s8
  have kd8 := kd5.same s8
  have dli : Dp K H8 (.ref li) (.list (R.map encT)) := .lst (SqL.of hli8) (items_dp prs8 kd8)
  have smli : Sm K H8 8 (.ref li) (.ref li) := by
    refine sm_dp 8 (.list (R.map encT)) _ _ ?_ ?_ dli dli
    · have := (dep_list (n := 4) (l := R.map encT) fun e he => by
        obtain ⟨t, _, rfl⟩ := List.mem_map.mp he
        exact depth_T4 t).1
      omega
    · exact (lp_list (by rw [List.length_map]; have := gx.few; omega) fun e he => by
        obtain ⟨t, ht, rfl⟩ := List.mem_map.mp he
        exact lp_T (gx.rl t ht) fun q hq => gx.rw t ht q hq).1
  have odd1 : ∀ x ∈ els, ((∃ n, n ∈ kinds ∧ TyX K H8 x (.type n) ∧ PySem.W.kitOne K (.type n) (.ref T.C) = some false) ∨ ∃ a D, x = .ref a ∧ H8 a = some (ExO (.ref D) a) ∧ ExcC K D ∧ PySem.W.kitOne K (.ref D) (.ref T.C) = some false) ∧ Sm K H8 8 x x := by
    intro x hx
    rw [eels] at hx
    simp only [List.mem_cons, List.not_mem_nil, or_false] at hx
    rcases hx with rfl | rfl | rfl | rfl | rfl | rfl | rfl | rfl
    · exact ⟨.inl ⟨"NoneType", by decide, .base .non, T.kitNo _ (by decide)⟩, .inl ⟨rfl, .inl rfl⟩⟩
    · exact ⟨.inl ⟨"int", by decide, .base (.int _), T.kitNo _ (by decide)⟩, .inl ⟨rfl, .inr (.inr (.inl ⟨_, rfl⟩))⟩⟩
    · exact ⟨.inl ⟨"str", by decide, .base (.str _), T.kitNo _ (by decide)⟩, .inl ⟨rfl, .inr (.inr (.inr ⟨_, rfl⟩))⟩⟩
    · exact ⟨.inl ⟨"list", by decide, .base (.lst hb1), T.kitNo _ (by decide)⟩, .inr (.inl ⟨b1, b1, [], [], rfl, rfl, by decide, .inl ⟨SqL.of hb1, SqL.of hb1⟩, .nil⟩)⟩
    · exact ⟨.inl ⟨"dict", by decide, .base (.dK hb2), T.kitNo _ (by decide)⟩, .inr (.inr (.inl ⟨b2, rfl, rfl, hb2, by decide⟩))⟩
    · exact ⟨.inl ⟨"bool", by decide, .base (.bl _), T.kitNo _ (by decide)⟩, .inl ⟨rfl, .inr (.inl ⟨_, rfl⟩)⟩⟩
    · exact ⟨.inl ⟨"list", by decide, .base (.lst hli8), T.kitNo _ (by decide)⟩, smli⟩
    · exact ⟨.inr ⟨te, T.TE, rfl, hte8, T.vTE.c, T.kitTE⟩, .inr (.inr (.inr ⟨te, T.TE, rfl, rfl, hte8, T.vTE⟩))⟩
  have ex8 : Ex H5 H8 := LamX.ExtN.of s8
  clear sb1 sb2 sb s6 ste stp s7 s8 hb1 hb2 hli8 prs8 hte8 prs hli pts nts nli nte ntp nb1 nb2 dli smli kd8
  refine for_it walk_tup (fun i σ Y => (∃ v5 v9, σ = [some v, some (.ref d), some (.ref bk), some (.ref op), some (.str q0.1), v5, none, some (.ref g), none, v9]) ∧ Ex H8 Y ∧ TbP T.pR Y)
    ⟨⟨_, _, rfl⟩, LamX.ExtN.refl _, tb8⟩ (fun i σ Y _ ⟨_, e, _⟩ => xSqT e (SqT.of htp8)) ?_ ?_
  · rintro i x σ Y Y' hi ⟨⟨v5, v9, rfl⟩, eY, tY⟩ ⟨rfl, hx⟩
    obtain ⟨nb, sx⟩ := odd1 x (List.mem_of_getElem? hx)
    refine ⟨tY, fun Y1 x1 T1 => ⟨_, rfl, x, .non, rfl, .inl ⟨xNoBook (eY.trans x1) nb, rs_book fun t1 Y2 s2 n2 h2 => ⟨(by show 1 ≤ sizeLine; decide), fun fl nfl => ?_⟩⟩⟩⟩
    have e2 : Ex H8 Y2 := (eY.trans x1).trans (LamX.ExtN.of s2)
    have ffl : Fr0 H8 fl := fr0_of e2 nfl
    have sfl := same_new (o := .lst [.ref t1]) nfl
    have T3 : TbP T.pR (upd Y2 fl (.lst [.ref t1])) := (T1.ext s2).ext sfl
    have e3 : Ex H8 (upd Y2 fl (.lst [.ref t1])) := e2.trans (LamX.ExtN.of sfl)
    have h13 := sfl _ _ h2
    have hf3 : upd Y2 fl (.lst [.ref t1]) fl = some (.lst [.ref t1]) := upd_same
    have tf1 : t1 ≠ fl := ne_of_none h2 nfl
    generalize upd Y2 fl (.lst [.ref t1]) = Y3 at T3 e3 h13 hf3 ⊢
    clear s2 n2 h2 e2 nfl sfl T1 x1 Y1 Y2
    dsimp only
    refine gname_x ?_
    refine ⟨_, rfl, .inl ⟨rfl, _, SqL.of hf3⟩, T3, fun Y4 x4 T4 => ⟨_, rfl, x, .non, .non, rfl, .inl (.inl ⟨xNoBook (e3.trans x4) nb, rs_book fun t2 Y5 s5 n5 h5 => ?_⟩)⟩⟩
    have hf5 := s5 _ _ (x4 _ _ hf3 fun _ z => by cases z)
    have h15 := s5 _ _ (x4 _ _ h13 fun _ z => by cases z)
    have e5 : Ex H8 Y5 := (e3.trans x4).trans (LamX.ExtN.of s5)
    have T5 := T4.ext s5
    have tf2 : t2 ≠ fl := fun e => by rw [e, x4 _ _ hf3 fun _ z => by cases z] at n5; cases n5
    refine ⟨fl, [.ref t1], _, rfl, rfl, hf5, (show 1 < sizeLine by decide), ?_⟩
    have e6 : Ex H8 (upd Y5 fl (.lst ([.ref t1] ++ [.ref t2]))) := extN_put e5 ffl
    have T6 : TbP T.pR (upd Y5 fl (.lst ([.ref t1] ++ [.ref t2]))) := tb_put T5 hf5
    have hf6 : upd Y5 fl (.lst ([.ref t1] ++ [.ref t2])) fl = some (.lst [.ref t1, .ref t2]) := upd_same
    have h16 : upd Y5 fl (.lst ([.ref t1] ++ [.ref t2])) t1 = some (.tup [.str "book", x]) := by rw [upd_ne tf1]; exact h15
    have h26 : upd Y5 fl (.lst ([.ref t1] ++ [.ref t2])) t2 = some (.tup [.str "book", x]) := by rw [upd_ne tf2]; exact h5
    generalize upd Y5 fl (.lst ([.ref t1] ++ [.ref t2])) = Y6 at e6 T6 hf6 h16 h26 ⊢
    clear hf5 h15 e5 T5 s5 n5 h5 x4 T4 Y4 Y5 e3 T3 h13 hf3
    refine ⟨_, rfl, .inl ⟨rfl, _, SqL.of hf6⟩, T6, fun Y7 x7 T7 => ⟨_, rfl, x, .non, rfl, .inl ⟨xNoBook (e6.trans x7) nb, rs_book fun t3 Y8 s8 n8 h8 => ?_⟩⟩⟩
    have hf8 := s8 _ _ (x7 _ _ hf6 fun _ z => by cases z)
    have h18 := s8 _ _ (x7 _ _ h16 fun _ z => by cases z)
    have h28 := s8 _ _ (x7 _ _ h26 fun _ z => by cases z)
    have e8 : Ex H8 Y8 := (e6.trans x7).trans (LamX.ExtN.of s8)
    have T8 := T7.ext s8
    have tf3 : t3 ≠ fl := fun e => by rw [e, x7 _ _ hf6 fun _ z => by cases z] at n8; cases n8
    refine ⟨fl, [.ref t1, .ref t2], _, rfl, rfl, hf8, (show 2 < sizeLine by decide), ?_⟩
    have e9 : Ex H8 (upd Y8 fl (.lst ([.ref t1, .ref t2] ++ [.ref t3]))) := extN_put e8 ffl
    have T9 : TbP T.pR (upd Y8 fl (.lst ([.ref t1, .ref t2] ++ [.ref t3]))) := tb_put T8 hf8
    have hf9 : upd Y8 fl (.lst ([.ref t1, .ref t2] ++ [.ref t3])) fl = some (.lst [.ref t1, .ref t2, .ref t3]) := upd_same
    have h19 : upd Y8 fl (.lst ([.ref t1, .ref t2] ++ [.ref t3])) t1 = some (.tup [.str "book", x]) := by rw [upd_ne tf1]; exact h18
    have h29 : upd Y8 fl (.lst ([.ref t1, .ref t2] ++ [.ref t3])) t2 = some (.tup [.str "book", x]) := by rw [upd_ne tf2]; exact h28
    have h39 : upd Y8 fl (.lst ([.ref t1, .ref t2] ++ [.ref t3])) t3 = some (.tup [.str "book", x]) := by rw [upd_ne tf3]; exact h8
    generalize upd Y8 fl (.lst ([.ref t1, .ref t2] ++ [.ref t3])) = Y9 at e9 T9 hf9 h19 h29 h39 ⊢
    clear hf8 h18 h28 e8 T8 s8 n8 h8 x7 T7 Y7 Y8 e6 T6 hf6 h16 h26
    refine ⟨_, rfl, _, rfl, (by show 2 ≤ sizeLine; decide), fun u1 nu1 => ⟨(by show 1 ≤ sizeLine; decide), fun u2 nu2 => ⟨u2, 3, [.ref u1], rfl, rfl, upd_same, by decide, by decide, (show 1 * 3 ≤ sizeLine by decide), fun u3 nu3 => ?_⟩⟩⟩
    have su1 := same_new (o := .tup [.str "book", x]) nu1
    have su2 := same_new (o := .lst [.ref u1]) nu2
    have su3 := same_new (o := .lst (List.replicate (3 : Int).toNat [V.ref u1]).flatten) nu3
    have su := (su1.trans su2).trans su3
    have hu1 := su3 _ _ (su2 _ _ (upd_same : upd Y9 u1 (.tup [.str "book", x]) u1 = _))
    have hu3 : upd (upd (upd Y9 u1 (.tup [.str "book", x])) u2 (.lst [.ref u1])) u3 (.lst (List.replicate (3 : Int).toNat [V.ref u1]).flatten) u3 = some (.lst [.ref u1, .ref u1, .ref u1]) := upd_same
    have e10 := e9.trans (LamX.ExtN.of su)
    have T10 := T9.ext su
    refine ⟨.ref fl, .ref u3, rfl, sm_trip (n := 7) (xSm e10 sx) (SqT.of (su _ _ h19)) (SqT.of (su _ _ h29)) (SqT.of (su _ _ h39)) (SqT.of hu1) (SqL.of (su _ _ hf9)) (SqL.of hu3), fun Y11 s11 => ⟨_, rfl, iteF ?_⟩⟩
    exact ⟨⟨_, _, rfl⟩, e10.trans (LamX.ExtN.of s11), T10.ext s11⟩
  · rintro σ Y0 ⟨⟨v5, v9, rfl⟩, e0, T0⟩
    have e50 := ex8.trans e0
    have hop0 := e50 _ _ hop fun _ z => by cases z
    have hg0 := e50 _ _ gne fun _ z => by cases z
    have hbk0 := xBook e50 hbk5
    have opo0 : ∀ y ∈ ys, OddAt K Y0 nms y := fun y hy => xOddAt e50 (opo y hy)
    have hd0 := e50 _ _ hd5 fun _ z => by cases z
    have bc' := beq.bc gx.bc
    have exO : Ex H Y0 := ex5.trans e50
    have hnm' : ∀ n, n ∈ nms ↔ n ∈ R'.map (·.1) := fun n => hnm.symm
    clear odd1 htp8 tb8 eels hop gne opo hbk5 hd5 kd5 tb5 e0 e50 ex8 ex5 s5 ek hk
    refine ⟨_, rfl, op, rfl, ⟨_, SqL.of hop0⟩, ?_⟩
    refine for_it walk_list (fun i σ Y => (∃ v5 v6 v9, σ = [some v, some (.ref d), some (.ref bk), some (.ref op), some (.str q0.1), v5, v6, some (.ref g), none, v9]) ∧ Ex Y0 Y ∧ TbP T.pR Y)
      ⟨⟨_, _, _, rfl⟩, LamX.ExtN.refl _, T0⟩ (fun i σ Y _ ⟨_, e, _⟩ => xSqL e (SqL.of hop0)) ?_ ?_
    · rintro i y σ Y Y' hi ⟨⟨v5, v6, v9, rfl⟩, eY, tY⟩ ⟨rfl, hx⟩
      obtain ⟨ot, x, ix, rfl, hot, nr⟩ := opo0 y (List.mem_of_getElem? hx)
      have nr := NoRow.names hnm' nr
      refine ⟨ot, _, rfl, xSqT eY hot, rfl, _, _, rfl, _, _, rfl, rfl, ?_⟩
      refine ⟨tY, fun Y1 x1 T1 => ⟨_, rfl, _, rfl, .ref bk, x, rfl, .inr ⟨bk, R', N, ix, rfl, xBook (eY.trans x1) hbk0, xNoRow (eY.trans x1) nr, rs_row fun t1 Y2 s2 n2 h2 => ⟨(by show 1 ≤ sizeLine; decide), fun fl nfl => ?_⟩⟩⟩⟩
      have e2 : Ex Y0 Y2 := (eY.trans x1).trans (LamX.ExtN.of s2)
      have ffl : Fr0 Y0 fl := fr0_of e2 nfl
      have sfl := same_new (o := .lst [.ref t1]) nfl
      have T3 : TbP T.pR (upd Y2 fl (.lst [.ref t1])) := (T1.ext s2).ext sfl
      have e3 : Ex Y0 (upd Y2 fl (.lst [.ref t1])) := e2.trans (LamX.ExtN.of sfl)
      have h13 := sfl _ _ h2
      have hf3 : upd Y2 fl (.lst [.ref t1]) fl = some (.lst [.ref t1]) := upd_same
      have tf1 : t1 ≠ fl := ne_of_none h2 nfl
      generalize upd Y2 fl (.lst [.ref t1]) = Y3 at T3 e3 h13 hf3 ⊢
      clear s2 n2 h2 e2 nfl sfl T1 x1 Y1 Y2
      dsimp only
      refine gname_x ?_
      refine ⟨_, rfl, .inl ⟨rfl, _, SqL.of hf3⟩, T3, fun Y4 x4 T4 => ⟨_, rfl, _, rfl, .ref bk, x, .non, rfl, .inl (.inr ⟨bk, R', N, ix, rfl, xBook (e3.trans x4) hbk0, xNoRow (e3.trans x4) nr, rs_row fun t2 Y5 s5 n5 h5 => ?_⟩)⟩⟩
      have hf5 := s5 _ _ (x4 _ _ hf3 fun _ z => by cases z)
      have h15 := s5 _ _ (x4 _ _ h13 fun _ z => by cases z)
      have e5 : Ex Y0 Y5 := (e3.trans x4).trans (LamX.ExtN.of s5)
      have T5 := T4.ext s5
      have tf2 : t2 ≠ fl := fun e => by rw [e, x4 _ _ hf3 fun _ z => by cases z] at n5; cases n5
      refine ⟨fl, [.ref t1], _, rfl, rfl, hf5, (show 1 < sizeLine by decide), ?_⟩
      have e6 : Ex Y0 (upd Y5 fl (.lst ([.ref t1] ++ [.ref t2]))) := extN_put e5 ffl
      have T6 : TbP T.pR (upd Y5 fl (.lst ([.ref t1] ++ [.ref t2]))) := tb_put T5 hf5
      have hf6 : upd Y5 fl (.lst ([.ref t1] ++ [.ref t2])) fl = some (.lst [.ref t1, .ref t2]) := upd_same
      have h16 : upd Y5 fl (.lst ([.ref t1] ++ [.ref t2])) t1 = some (.tup [.str "row", .int (ix : Nat)]) := by rw [upd_ne tf1]; exact h15
      have h26 : upd Y5 fl (.lst ([.ref t1] ++ [.ref t2])) t2 = some (.tup [.str "row", .int (ix : Nat)]) := by rw [upd_ne tf2]; exact h5
      generalize upd Y5 fl (.lst ([.ref t1] ++ [.ref t2])) = Y6 at e6 T6 hf6 h16 h26 ⊢
      clear hf5 h15 e5 T5 s5 n5 h5 x4 T4 Y4 Y5 e3 T3 h13 hf3
      refine ⟨_, rfl, .inl ⟨rfl, _, SqL.of hf6⟩, T6, fun Y7 x7 T7 => ⟨_, rfl, _, rfl, .ref bk, x, rfl, .inr ⟨bk, R', N, ix, rfl, xBook (e6.trans x7) hbk0, xNoRow (e6.trans x7) nr, rs_row fun t3 Y8 s8 n8 h8 => ?_⟩⟩⟩
      have hf8 := s8 _ _ (x7 _ _ hf6 fun _ z => by cases z)
      have h18 := s8 _ _ (x7 _ _ h16 fun _ z => by cases z)
      have h28 := s8 _ _ (x7 _ _ h26 fun _ z => by cases z)
      have e8 : Ex Y0 Y8 := (e6.trans x7).trans (LamX.ExtN.of s8)
      have T8 := T7.ext s8
      have tf3 : t3 ≠ fl := fun e => by rw [e, x7 _ _ hf6 fun _ z => by cases z] at n8; cases n8
      refine ⟨fl, [.ref t1, .ref t2], _, rfl, rfl, hf8, (show 2 < sizeLine by decide), ?_⟩
      have e9 : Ex Y0 (upd Y8 fl (.lst ([.ref t1, .ref t2] ++ [.ref t3]))) := extN_put e8 ffl
      have T9 : TbP T.pR (upd Y8 fl (.lst ([.ref t1, .ref t2] ++ [.ref t3]))) := tb_put T8 hf8
      have hf9 : upd Y8 fl (.lst ([.ref t1, .ref t2] ++ [.ref t3])) fl = some (.lst [.ref t1, .ref t2, .ref t3]) := upd_same
      have h19 : upd Y8 fl (.lst ([.ref t1, .ref t2] ++ [.ref t3])) t1 = some (.tup [.str "row", .int (ix : Nat)]) := by rw [upd_ne tf1]; exact h18
      have h29 : upd Y8 fl (.lst ([.ref t1, .ref t2] ++ [.ref t3])) t2 = some (.tup [.str "row", .int (ix : Nat)]) := by rw [upd_ne tf2]; exact h28
      have h39 : upd Y8 fl (.lst ([.ref t1, .ref t2] ++ [.ref t3])) t3 = some (.tup [.str "row", .int (ix : Nat)]) := by rw [upd_ne tf3]; exact h8
      generalize upd Y8 fl (.lst ([.ref t1, .ref t2] ++ [.ref t3])) = Y9 at e9 T9 hf9 h19 h29 h39 ⊢
      clear hf8 h18 h28 e8 T8 s8 n8 h8 x7 T7 Y7 Y8 e6 T6 hf6 h16 h26
      refine ⟨_, rfl, _, rfl, (by show 2 ≤ sizeLine; decide), fun u1 nu1 => ⟨(by show 1 ≤ sizeLine; decide), fun u2 nu2 => ⟨u2, 3, [.ref u1], rfl, rfl, upd_same, by decide, by decide, (show 1 * 3 ≤ sizeLine by decide), fun u3 nu3 => ?_⟩⟩⟩
      have su1 := same_new (o := .tup [.str "row", .int (ix : Nat)]) nu1
      have su2 := same_new (o := .lst [.ref u1]) nu2
      have su3 := same_new (o := .lst (List.replicate (3 : Int).toNat [V.ref u1]).flatten) nu3
      have su := (su1.trans su2).trans su3
      have hu1 := su3 _ _ (su2 _ _ (upd_same : upd Y9 u1 (.tup [.str "row", .int (ix : Nat)]) u1 = _))
      have hu3 : upd (upd (upd Y9 u1 (.tup [.str "row", .int (ix : Nat)])) u2 (.lst [.ref u1])) u3 (.lst (List.replicate (3 : Int).toNat [V.ref u1]).flatten) u3 = some (.lst [.ref u1, .ref u1, .ref u1]) := upd_same
      have e10 := e9.trans (LamX.ExtN.of su)
      have T10 := T9.ext su
      refine ⟨.ref fl, .ref u3, rfl, sm_trip (n := 7) (.inl ⟨rfl, .inr (.inr (.inl ⟨_, rfl⟩))⟩) (SqT.of (su _ _ h19)) (SqT.of (su _ _ h29)) (SqT.of (su _ _ h39)) (SqT.of hu1) (SqL.of (su _ _ hf9)) (SqL.of hu3), fun Y11 s11 => ⟨_, rfl, iteF ?_⟩⟩
      exact ⟨⟨_, _, _, rfl⟩, e10.trans (LamX.ExtN.of s11), T10.ext s11⟩
    · rintro σ Z0 ⟨⟨v5, v6, v9, rfl⟩, e0, TZ⟩
      have hg1 := e0 _ _ hg0 fun _ z => by cases z
      have hbk1 := xBook e0 hbk0
      have exO1 := exO.trans e0
      refine ⟨(by show 1 ≤ sizeLine; decide), fun w1 nw1 => ⟨(by show 1 ≤ sizeLine; decide), fun w2 nw2 => ?_⟩⟩
      intro w3 nw3
      refine ⟨(by show 16 ≤ sizeLine; decide), fun tq ntq => ⟨tq, rfl, ⟨_, SqT.of upd_same⟩, ?_⟩⟩
      obtain ⟨els, eels⟩ : ∃ els : List V, els = [.non, .int 5, .str "", .str "A", .str "a1", .str "talk", .str "!", .str "!!a", .str "a!", .ref w1, .ref w2, .bl true, .ref w3, .str "ninelettr", .str "?say", .str " a"] := ⟨_, rfl⟩
      have sw1 := same_new (o := .lst [.str "a"]) nw1
      have sw2 := same_new (o := .tup [.str "a"]) nw2
      have sw3 := same_new (o := .dK []) nw3
      have stq := same_new (o := .tup [.non, .int 5, .str "", .str "A", .str "a1", .str "talk", .str "!", .str "!!a", .str "a!", .ref w1, .ref w2, .bl true, .ref w3, .str "ninelettr", .str "?say", .str " a"]) ntq
      have sW := ((sw1.trans sw2).trans sw3).trans stq
      have h1 := stq _ _ (sw3 _ _ (sw2 _ _ (upd_same : upd Z0 w1 (.lst [.str "a"]) w1 = _)))
      have h2 := stq _ _ (sw3 _ _ (upd_same : upd (upd Z0 w1 (.lst [.str "a"])) w2 (.tup [.str "a"]) w2 = _))
      have h3 := stq _ _ (upd_same : upd (upd (upd Z0 w1 (.lst [.str "a"])) w2 (.tup [.str "a"])) w3 (.dK []) w3 = _)
      have htq : upd (upd (upd (upd Z0 w1 (.lst [.str "a"])) w2 (.tup [.str "a"])) w3 (.dK [])) tq (.tup [.non, .int 5, .str "", .str "A", .str "a1", .str "talk", .str "!", .str "!!a", .str "a!", .ref w1, .ref w2, .bl true, .ref w3, .str "ninelettr", .str "?say", .str " a"]) tq = some (.tup els) := by rw [eels]; exact upd_same
      generalize upd (upd (upd (upd Z0 w1 (.lst [.str "a"])) w2 (.tup [.str "a"])) w3 (.dK [])) tq (.tup [.non, .int 5, .str "", .str "A", .str "a1", .str "talk", .str "!", .str "!!a", .str "a!", .ref w1, .ref w2, .bl true, .ref w3, .str "ninelettr", .str "?say", .str " a"]) = Z1 at sW h1 h2 h3 htq ⊢
      have hgZ := sW _ _ hg1
      have hbkZ := hbk1.same sW
      have exZ := exO1.trans (LamX.ExtN.of sW)
      have TZ1 := TZ.ext sW
      have odd3 : ∀ x ∈ els, NoLet K Z1 x ∧ Sm K Z1 9 x x := by
        intro x hx
        rw [eels] at hx
        have sstr : ∀ z : Str, Sm K Z1 9 (.str z) (.str z) := fun z => .inl ⟨rfl, .inr (.inr (.inr ⟨z, rfl⟩))⟩
        simp only [List.mem_cons, List.not_mem_nil, or_false] at hx
        rcases hx with rfl | rfl | rfl | rfl | rfl | rfl | rfl | rfl | rfl | rfl | rfl | rfl | rfl | rfl | rfl | rfl
        · exact ⟨.inr ⟨"NoneType", by decide, by decide, .base .non⟩, .inl ⟨rfl, .inl rfl⟩⟩
        · exact ⟨.inr ⟨"int", by decide, by decide, .base (.int _)⟩, .inl ⟨rfl, .inr (.inr (.inl ⟨_, rfl⟩))⟩⟩
        · exact ⟨.inl ⟨_, rfl, by decide, by decide +kernel⟩, sstr _⟩
        · exact ⟨.inl ⟨_, rfl, by decide, by decide +kernel⟩, sstr _⟩
        · exact ⟨.inl ⟨_, rfl, by decide, by decide +kernel⟩, sstr _⟩
        · exact ⟨.inl ⟨_, rfl, by decide, by decide +kernel⟩, sstr _⟩
        · exact ⟨.inl ⟨_, rfl, by decide, by decide +kernel⟩, sstr _⟩
        · exact ⟨.inl ⟨_, rfl, by decide, by decide +kernel⟩, sstr _⟩
        · exact ⟨.inl ⟨_, rfl, by decide, by decide +kernel⟩, sstr _⟩
        · exact ⟨.inr ⟨"list", by decide, by decide, .base (.lst h1)⟩, .inr (.inl ⟨w1, w1, [.str "a"], [.str "a"], rfl, rfl, (show 1 ≤ 1000000 by decide), .inl ⟨SqL.of h1, SqL.of h1⟩, .cons (.inl ⟨rfl, .inr (.inr (.inr ⟨_, rfl⟩))⟩) .nil⟩)⟩
        · exact ⟨.inr ⟨"tuple", by decide, by decide, .base (.tup h2)⟩, .inr (.inl ⟨w2, w2, [.str "a"], [.str "a"], rfl, rfl, (show 1 ≤ 1000000 by decide), .inr ⟨SqT.of h2, SqT.of h2⟩, .cons (.inl ⟨rfl, .inr (.inr (.inr ⟨_, rfl⟩))⟩) .nil⟩)⟩
        · exact ⟨.inr ⟨"bool", by decide, by decide, .base (.bl _)⟩, .inl ⟨rfl, .inr (.inl ⟨_, rfl⟩)⟩⟩
        · exact ⟨.inr ⟨"dict", by decide, by decide, .base (.dK h3)⟩, .inr (.inr (.inl ⟨w3, rfl, rfl, h3, by decide⟩))⟩
        · exact ⟨.inl ⟨_, rfl, by decide, by decide +kernel⟩, sstr _⟩
        · exact ⟨.inl ⟨_, rfl, by decide, by decide +kernel⟩, sstr _⟩
        · exact ⟨.inl ⟨_, rfl, by decide, by decide +kernel⟩, sstr _⟩
      have gl' : good.length ≤ 1000 := by omega
      have gin' : ∀ z ∈ good, z ∈ R'.map (·.1) := fun z hz => (hnm' z).mp (gin z hz)
      clear sW sw1 sw2 sw3 stq h1 h2 h3 nw1 nw2 nw3 ntq hg1 hbk1 exO1 TZ e0 T0 hop0 opo0 hd0 exO hg0 hbk0
      refine for_it walk_tup (fun i σ Y => (∃ v5 v6 v9, σ = [some v, some (.ref d), some (.ref bk), some (.ref op), some (.str q0.1), v5, v6, some (.ref g), none, v9]) ∧ Ex Z1 Y ∧ TbP T.pR Y)
        ⟨⟨_, _, _, rfl⟩, LamX.ExtN.refl _, TZ1⟩ (fun i σ Y _ ⟨_, e, _⟩ => xSqT e (SqT.of htq)) ?_ ?_
      · rintro i x σ Y Y' hi ⟨⟨v5, v6, v9, rfl⟩, eY, tY⟩ ⟨rfl, hx⟩
        obtain ⟨nl, sx⟩ := odd3 x (List.mem_of_getElem? hx)
        refine ⟨tY, fun Y1 x1 T1 => ⟨_, rfl, _, rfl, _, rfl, .ref bk, .ref g, x, rfl, .inr ⟨bk, g, R', N, good, rfl, rfl, xBook (eY.trans x1) hbkZ, .inl (xSqL (eY.trans x1) (SqL.of hgZ)), gl', gin', bc', xNoLet (eY.trans x1) nl, rs_let fun t1 Y2 s2 n2 h2 => ⟨_, rfl, (by show 2 ≤ sizeLine; decide), fun u nu => ?_⟩⟩⟩⟩
        have su := same_new (o := .tup [.str "letter", x]) nu
        have e3 := ((eY.trans x1).trans (LamX.ExtN.of s2)).trans (LamX.ExtN.of su)
        refine ⟨.ref t1, .ref u, rfl, sm_two (n := 8) (xSm e3 sx) (SqT.of (su _ _ h2)) (SqT.of upd_same), fun Y3 s3 => ⟨_, rfl, iteF ?_⟩⟩
        exact ⟨⟨_, _, _, rfl⟩, e3.trans (LamX.ExtN.of s3), (((T1.ext s2).ext su)).ext s3⟩
      · rintro σ Y ⟨⟨v5, v6, v9, rfl⟩, eY, tY⟩
        refine ⟨(by show 1 ≤ sizeLine; decide), fun hl nhl => ?_⟩
        have shl := same_new (o := .lst [.str "x"]) nhl
        have eA := eY.trans (LamX.ExtN.of shl)
        have TA := tY.ext shl
        have hhl : upd Y hl (.lst [.str "x"]) hl = some (.lst [.str "x"]) := upd_same
        have fhl : Fr0 Z1 hl := fr0_of eY nhl
        generalize upd Y hl (.lst [.str "x"]) = YA at eA TA hhl ⊢
        clear shl nhl
        refine ⟨TA, fun Y1 x1 T1 => ⟨_, rfl, _, rfl, _, rfl, .ref bk, .ref g, .ref hl, rfl, .inr ⟨bk, g, R', N, good, rfl, rfl, xBook (eA.trans x1) hbkZ, .inl (xSqL (eA.trans x1) (SqL.of hgZ)), gl', gin', bc', .inr ⟨"list", by decide, by decide, .base (.lst (x1 _ _ hhl fun _ z => by cases z))⟩, rs_let fun t1 Y2 s2 n2 h2 => ?_⟩⟩⟩
        have hh2 := s2 _ _ (x1 _ _ hhl fun _ z => by cases z)
        have e2 := (eA.trans x1).trans (LamX.ExtN.of s2)
        have T2 := T1.ext s2
        have th : t1 ≠ hl := fun e => by rw [e, x1 _ _ hhl fun _ z => by cases z] at n2; cases n2
        refine ⟨_, rfl, .inl ⟨rfl, _, SqL.of hh2⟩, hl, [.str "x"], _, rfl, rfl, hh2, (show 1 < sizeLine by decide), ?_⟩
        have e3 : Ex Z1 (upd Y2 hl (.lst ([.str "x"] ++ [.str "late"]))) := extN_put e2 fhl
        have T3 : TbP T.pR (upd Y2 hl (.lst ([.str "x"] ++ [.str "late"]))) := tb_put T2 hh2
        have hh3 : upd Y2 hl (.lst ([.str "x"] ++ [.str "late"])) hl = some (.lst [.str "x", .str "late"]) := upd_same
        have ht3 : upd Y2 hl (.lst ([.str "x"] ++ [.str "late"])) t1 = some (.tup [.str "letter", .ref hl]) := by rw [upd_ne th]; exact h2
        generalize upd Y2 hl (.lst ([.str "x"] ++ [.str "late"])) = Y3 at e3 T3 hh3 ht3 ⊢
        refine ⟨_, rfl, (by show 2 ≤ sizeLine; decide), fun w1 nw1 => ⟨(by show 2 ≤ sizeLine; decide), fun w2 nw2 => ?_⟩⟩
        have sw1 := same_new (o := .lst [.str "x", .str "late"]) nw1
        have sw2 := same_new (o := .tup [.str "letter", .ref w1]) nw2
        have sw := sw1.trans sw2
        have sstr : ∀ (G : Hp) (z : Str), Sm K G 8 (.str z) (.str z) := fun G z => .inl ⟨rfl, .inr (.inr (.inr ⟨z, rfl⟩))⟩
        have e4 := e3.trans (LamX.ExtN.of sw)
        have T4 := T3.ext sw
        have hw1 := sw2 _ _ (upd_same : upd Y3 w1 (.lst [.str "x", .str "late"]) w1 = _)
        refine ⟨.ref t1, .ref w2, rfl, sm_two (n := 8) (.inr (.inl ⟨hl, w1, [.str "x", .str "late"], [.str "x", .str "late"], rfl, rfl, (show 2 ≤ 1000000 by decide), .inl ⟨SqL.of (sw _ _ hh3), SqL.of hw1⟩, .cons (sstr _ _) (.cons (sstr _ _) .nil)⟩)) (SqT.of (sw _ _ ht3)) (SqT.of upd_same), fun Y5 s5 => ⟨_, rfl, iteT ?_⟩⟩
        have e5 := e4.trans (LamX.ExtN.of s5)
        have T5 := T4.ext s5
        refine ⟨_, rfl, _, rfl, _, rfl, bk, g, R', N, good, q0.1, rfl, xBook e5 hbkZ, .inl (xSqL e5 (SqL.of hgZ)), gl', gin', bc', lokq.1, Nat.le_trans lokq.2 (by decide), fun qq H' L s6 tl e6 => ?_⟩
        refine ⟨.ref qq, .ty "list", .type "list", .type "list", true, rfl, .ty _, .base (.lst tl.at_), kit_list (n := "list") (by decide), ?_⟩
        exact q _ (exZ.trans (e5.trans (LamX.ExtN.of s6))) (T5.ext s6)
end
end K8
set_option maxRecDepth 100000
set_option maxHeartbeats 4000000
namespace K8
open PySem PySem.Sem PySem.Spec PyProof.Rows L2
/-! ### repr of a list, of a tuple, whatever is under way -/
def listGF (a : Addr) : Code × Pos → Bool := fun
  | (.builtin "list.__repr__.loop" ⟨v :: _, _⟩, _) => Builtin.List.listSameRef v (.ref a)
  | _ => false
theorem listGF_off (a : Addr) (c : Code) (p : Pos) (hc : c.isGuard = false) : listGF a (c, p) = false := by
  unfold listGF
  split
  · next v rest kw _ heq => cases heq; simp [Code.isGuard, guardIds] at hc
  · rfl
theorem listGF_pos (a : Addr) (c : Code) (p : Pos) : listGF a (c, p) = listGF a (c, default) := by
  unfold listGF
  split
  · next v rest kw _ heq => cases heq; rfl
  · next h =>
    split
    · next v rest kw _ heq => cases heq; exact absurd rfl (h _ _ _ _)
    · rfl
def runL (g : List Code) (a : Addr) : Bool := g.any fun c => listGF a (c, default)
def runT (g : List Code) (a : Addr) : Bool := g.any fun c => tupGuardF (.ref a) (c, default)
section
variable {M : Model} {prog : Program} {w : World} {A : Around} {E : Value → Shared → Prop} {s : Shared} {a : Addr} {o : Obj} {g : List Code}
theorem own_list_head {c : Code} {Q : Fin → Shared → Prop} {x : Value} {l : List Value} {n b : Nat} (hg : A.guards = some g) (hget : s.heap.get? a = some o) (hd : o.data = .seq (x :: l).toArray n)
    (h1 : runL g a = true → wpOwn M A c (do rule "list.__repr__.in-itself"; retStr "[...]") Q E s)
    (h2 : runL g a = false → wpOwn M A c (do again (.builtin "list.__repr__.loop" ⟨[.ref a, rawInt 0, ← newList [], rawInt b], []⟩)) Q E s) : wpOwn M A c (Builtin.listReprAt b ⟨[.ref a], []⟩) Q E s := by
  intro Γ p hc hΓ
  unfold Builtin.listReprAt
  simp [slotArgs, Builtin.List.listItems, seqItems?, wp_load_of (h := hget), hd, PySem.stack]
  show wp M Γ (if (Γ.below.any (listGF a)) = true then _ else _) _ _ p s
  have e : Γ.below.any (listGF a) = runL g a := by
    rw [any_eq_guards (listGF_off a) (listGF_pos a), hΓ.2.2.2.1 g hg]
    rfl
  rw [e]
  cases hr : runL g a with
  | true =>
    rw [if_pos rfl]
    have := h1 hr Γ p hc hΓ
    simpa using this
  | false =>
    rw [if_neg (by decide)]
    exact h2 hr Γ p hc hΓ
theorem tell_rule {r : String} {x : Str} {Q : Fin → Shared → Prop} (hx : x.length ≤ sizeLine) (h : Q (.done (.ret (.str x s.toks))) { s with toks := s.toks + 1 }) : wpAny M A (do rule r; retStr x) Q E s := by
  refine wpAny_bind (wpAny_rule ?_)
  exact wpAny_bind (wpAny_mkStr (wpAny_pure h) hx)
abbrev txtL (g : List Code) (a : Addr) (zs : List Str) : Str := if zs = [] then "[]" else if runL g a = true then "[...]" else listText (zs.map reprText)
abbrev txtT (g : List Code) (a : Addr) (zs : List Str) : Str := if runT g a = true then "(...)" else tupleText (zs.map reprText)
theorem reprAll_strs {h0 : Heap} : ∀ {zs : List Str} {us : List Value}, L2.Vals (zs.map V.str) us → (∀ z ∈ zs, (reprText z).length ≤ 20) → ReprAllK prog w [] h0 0 us (zs.map reprText)
  | [], _, .nil, _ => .nil
  | z :: zs, _, .cons r t, h => by
    obtain ⟨u, rfl⟩ := r
    exact .cons (ReprK.of_is (ReprIs.str z u (Nat.le_trans (h z List.mem_cons_self) (by decide))) [] h0 0) (reprAll_strs t fun x hx => h x (List.mem_cons_of_mem _ hx))
theorem reprIs_strs : ∀ {zs : List Str} {us : List Value}, L2.Vals (zs.map V.str) us → (∀ z ∈ zs, (reprText z).length ≤ 20) → ∀ (i : Nat) (y : Value), us[i]? = some y → ∃ t, (zs.map reprText)[i]? = some t ∧ ReprIs prog w y t
  | [], _, .nil, _, i, y, e => by simp at e
  | z :: zs, _, .cons r t, h, i, y, e => by
    cases i with
    | zero =>
      obtain ⟨u, rfl⟩ := r
      cases e
      exact ⟨_, rfl, ReprIs.str z u (Nat.le_trans (h z List.mem_cons_self) (by decide))⟩
    | succ i => exact reprIs_strs t (fun x hx => h x (List.mem_cons_of_mem _ hx)) i y e
theorem textFrom_le : ∀ (ts : List Str) (k : Nat) (acc : Str), (textFrom k acc ts).length ≤ acc.length + piled ts
  | [], k, acc => Nat.le_add_right _ _
  | t :: ts, k, acc => by
    refine Nat.le_trans (textFrom_le ts (k + 1) _) ?_
    rw [strLen_append, strLen_append, piled_cons]
    have : (((if k > 0 then ", " else "" : String) : Str)).length ≤ 2 := by split <;> decide
    omega
theorem piled_le20 : ∀ {zs : List Str}, (∀ z ∈ zs, (reprText z).length ≤ 20) → piled (zs.map reprText) ≤ 22 * zs.length
  | [], _ => by simp [piled_nil]
  | z :: zs, h => by
    rw [List.map_cons, piled_cons, List.length_cons]
    have h1 := h z List.mem_cons_self
    have h2 := piled_le20 fun x hx => h x (List.mem_cons_of_mem _ hx)
    omega
theorem listText_le (ts : List Str) : (listText ts).length ≤ 2 + piled ts := by
  unfold listText
  rw [strLen_append]
  have h1 := textFrom_le ts 0 "["
  have h2 : (("[" : String) : Str).length = 1 := rfl
  have h3 : (("]" : String) : Str).length = 1 := rfl
  omega
theorem tupleText_le (ts : List Str) : (tupleText ts).length ≤ 3 + piled ts := by
  unfold tupleText
  rw [strLen_append, strLen_append]
  have e1 : ((("(" : String) : Str)).length = 1 := rfl
  have e3 : (((if ts.length == 1 then ",)" else ")" : String) : Str)).length ≤ 2 := by split <;> decide
  by_cases h : ts = []
  · subst h
    simp only [piled_nil]
    have : (Str.join ", " []).length = 0 := rfl
    omega
  · have := join_length_add ts h
    omega
theorem call_list_txt {Q : Value → Shared → Prop} {us : List Value} {zs : List Str} {n : Nat} (hg : A.guards = some g) (ha : s.heap.get? a = some o) (hc : o.cls = .type "list") (hd : o.data = .seq us.toArray n) (r : L2.Vals (zs.map V.str) us) (hz : ∀ z ∈ zs, (reprText z).length ≤ 20) (hl : zs.length ≤ 1000)
    (hQ : ∀ h' u tk, (∀ b o, s.heap.get? b = some o → h'.get? b = some o) → Q (.str (txtL g a zs) u) { s with heap := h', toks := tk }) : wpAny (model prog w) A (call (.builtin "list.__repr__") [.ref a]) Q E s := by
  refine wpAny_call (codeAny_call_builtin_own (Code.quiet_builtin _ (by decide +kernel)) F.entry_list_repr (F.slot_list_repr.check _ _ _ _ _ _ _ _ ⟨o, ha, hc⟩ (F.args_list_repr_1 _) ?_))
  cases zs with
  | nil =>
    cases r
    refine wpOwn_of_wpAny (wpAny_list_repr_empty ha hd ?_)
    exact hQ s.heap _ _ fun _ _ e => e
  | cons z zs =>
    cases r with
    | @cons _ y _ ys r t =>
      refine own_list_head hg ha hd (fun hr => wpOwn_of_wpAny (tell_rule (by decide) ?_)) fun hr => wpOwn_of_wpAny ?_
      · have := hQ s.heap s.toks (s.toks + 1) fun _ _ e => e
        rw [txtL, if_neg (by simp), if_pos hr] at this
        exact this
      · refine wpAny_bind (m := newList []) (wpAny_newObj_type ?_)
        refine wpAny_pure ⟨F.quiet_list_repr_loop _, ?_⟩
        refine codeAny_list_repr_start (P := s.heap.objs.size) (Nat.ne_of_lt (Heap.lt_size ha)) (by simp [← Paired.length t]) (fun i v e => reprIs_strs (zs := z :: zs) (.cons r t) hz i v (by simpa using e)) (Heap.get?_push_of_some _ ha) hd (Heap.get?_push_size _ rfl) (fun h' u tk hk => ?_) ?_
        · have := hQ h' u tk fun b o e => hk b o (Nat.ne_of_lt (Heap.lt_size e)) (Heap.get?_push_of_some _ e)
          rw [txtL, if_neg (by simp), if_neg (by rw [hr]; decide)] at this
          exact this
        · have h1 := listText_le ((z :: zs).map reprText)
          have h2 := piled_le20 hz
          exact Nat.le_trans (show 0 + _ ≤ 30000 by omega) (by decide)
theorem call_tup_txt {Q : Value → Shared → Prop} {us : List Value} {zs : List Str} {n : Nat} (hg : A.guards = some g) (hu : A.units + 2 < cLine) (ha : s.heap.get? a = some o) (hc : o.cls = .type "tuple") (hd : o.data = .seq us.toArray n) (r : L2.Vals (zs.map V.str) us) (hz : ∀ z ∈ zs, (reprText z).length ≤ 20) (hl : zs.length ≤ 1000)
    (hQ : ∀ h' u tk, (∀ b o, s.heap.get? b = some o → h'.get? b = some o) → Q (.str (txtT g a zs) u) { s with heap := h', toks := tk }) : wpAny (model prog w) A (call (.builtin "tuple.__repr__") [.ref a]) Q E s := by
  refine wpAny_call (codeAny_call_builtin_own (Code.quiet_builtin _ (by decide +kernel)) F.entry_tuple_repr (F.slot_tuple_repr.check _ _ _ _ _ _ _ _ ⟨o, ha, hc⟩ (F.args_tuple_repr_1 _) ?_))
  have hT := reprAll_strs (prog := prog) (w := w) (h0 := s.heap) r hz
  have sz : 0 + (tupleText (zs.map reprText)).length ≤ sizeLine := by
    have h1 := tupleText_le (zs.map reprText)
    have h2 := piled_le20 hz
    exact Nat.le_trans (show 0 + _ ≤ 30000 by omega) (by decide)
  have pl := piled_le_tupleText (zs.map reprText)
  rw [show (Builtin.«tuple.__repr__» : Builtin) = Builtin.tupleReprAt 0 from rfl, tuple_repr_tree, tupleReprUnderWay_eq]
  refine wpOwn_bind (wpOwn_stackTailAny hg (tupGuardF_off _) (tupGuardF_pos _) ?_)
  show wpOwn _ _ _ (if runT g a = true then _ else _) _ _ _
  cases hr : runT g a with
  | true =>
    rw [if_pos rfl]
    refine wpOwn_of_wpAny (tell_rule (by decide) ?_)
    have := hQ s.heap s.toks (s.toks + 1) fun _ _ e => e
    rw [txtT, if_pos hr] at this
    exact this
  | false =>
    rw [if_neg (by decide)]
    refine wpOwn_of_wpAny ?_
    unfold tupleReprRest Builtin.Tuple.tupleItemsOf
    refine wpAny_bind (wpAny_bind (wpAny_seqItems ha hd (wpAny_pure ?_)))
    rw [← Array.forIn_toList]
    refine wpAny_bind (wpAny_tupFoldK (as := []) (h₀ := s.heap) (d := 0) (guards_under_guard (isGuard_tuple_repr _) hg) (fun b hb => nomatch hb) (by rw [units_under_tuple_repr]; omega) _ (zs.map reprText) _ _ _ _ (by simpa using hT) (by omega) (fun _ _ e => e) fun h' tk hkp => ?_)
    have hlen : (zs.map reprText).length = us.length := by rw [List.length_map]; have := Paired.length r; simpa using this
    refine wpAny_bind (wpAny_mkStr (wpAny_pure ?_) (by simpa [tupleText, hlen] using sz))
    have h1 := hQ h' tk (tk + 1) hkp
    rw [txtT, if_neg (by rw [hr]; decide)] at h1
    simpa [tupleText, hlen] using h1
end
/-! ### the rule -/
def rReprS (K : PySem.W.Frag) (g : List Code) : List V → Hp → VK → Prop := fun xs H Q => ∃ a zs, xs = [.ref a] ∧ (∀ z ∈ zs, (reprText z).length ≤ 20) ∧ zs.length ≤ 1000 ∧ ((SqL K H a (zs.map V.str) ∧ Q (.str (txtL g a zs)) H) ∨ (SqT K H a (zs.map V.str) ∧ Q (.str (txtT g a zs)) H))
theorem cr_repr {X : Cx} {g : List Code} (hg : X.A.guards = some g) (hu : X.A.units + 5 < cLine) : CallR X (.builtin "repr") (rReprS X.K g) := by
  intro pins s σ H xs us Q I r ⟨a, zs, e0, hz, hl, h⟩
  subst e0
  cases r with
  | cons r0 rr =>
    cases rr
    cases r0
    rcases h with ⟨h, q⟩ | ⟨h, q⟩
    · obtain ⟨its, rv, ⟨o, n, ho, hc, hd, hx⟩, _⟩ := I.list h
      refine call_repr_slot (by omega) ⟨o, ho, hc⟩ F.slot_list_repr.toG (call_list_txt (A := X.A.in1) hg ho hc hx rv hz hl fun h' u tk hk => ⟨_, _, rfl, ⟨.str _, H, I.kept hk, ⟨u, rfl⟩, q⟩⟩)
    · obtain ⟨its, rv, ⟨o, ho, hc, n, hx⟩, _⟩ := I.tuple h
      refine call_repr_slot (by omega) ⟨o, ho, hc⟩ F.slot_tuple_repr (call_tup_txt (A := X.A.in1) hg (by show X.A.units + 1 + 2 < cLine; omega) ho hc hx rv hz hl fun h' u tk hk => ⟨_, _, rfl, ⟨.str _, H, I.kept hk, ⟨u, rfl⟩, q⟩⟩)
theorem eRepr {X : Cx} (K : PySem.W.Frag) {g : List Code} {e : Expr} {te : TE} {p pos : Pos} (hgd : X.A.guards = some g) (hu : X.A.units + 5 < cLine) (hm : X.mg "repr" = none) (ha : PE X e te) (h : X.K = K := by rfl) (hg : Gl X "repr" := by rfl) (he : starEach [e] X.env = (false, eval e X.env) :: starEach [] X.env := by rfl) (hpl : (backTo pos (starEach [] X.env)).any (·.1) = false := by rfl) :
    PE X (.Call (.Name "repr" p) [e] [] pos) (t1 (rReprS K g) te) := by
  subst h
  exact pe_callB (cr_repr hgd hu) hg hm (by decide +kernel) (pa_cons ha pa_nil he) (by decide) (by decide) he hpl
end K8
set_option maxRecDepth 100000
set_option maxHeartbeats 4000000
namespace K8
open PySem PySem.Spec PyProof.Rows L2
/-! ### a def that is told what is under way -/
theorem okG {P : Program} {w : World} {K : PySem.W.Frag} {mg : Str → Option Value} {base : Heap} {x : Str} {st : Stmt} {f : Addr} {fd : FuncData} {N ps : List Str} {k : Nat} {sp : Sp} (F : Fun K x x st f fd) (S : FnScope N ps (defScope st)) (len : ∀ vs H Q E, sp vs H Q E → vs.length = ps.length)
    (hbody : ∀ (cdv : Value) (A : Around) (g : List Code) (outer : List Env) (s : Shared) (H : Hp) (vs : List V) (Q : VK) (E : XK), A.guards = some g → Room k (A.deeper (envOfC x (defScope st) s.heap.objs.size f cdv)) → sp vs H Q E →
      ∃ t, PSs (cxOf L2.CX0 P w K mg base N x (defScope st) f cdv A outer s H E).nox (defBody st) t ∧ t { nx := fun _ H' => Q .non H', rt := Q } (L2.start N vs) H) : FnOk P w K mg base L2.CX0 (k + 1) f fd ps sp := by
  obtain ⟨oc, od, kV, doc, pm, an, cdv, ct, osl, rfl, lk, hcd⟩ := F.ex
  refine ⟨len, fun A outer s H args us vs Q E hr e0 hb r hsp Γ p hc hΓ => ?_⟩
  have hA : Γ.Below { A with guards := some (guardsOf Γ.below) } := ⟨hΓ.1, hΓ.2.1, hΓ.2.2.1, fun g hg => Option.some.inj hg, hΓ.2.2.2.2⟩
  have e1 : Env0 P w K mg base { A with guards := some (guardsOf Γ.below) } outer s H := ⟨e0.frames, e0.mod, e0.bs, e0.bsz, e0.funs, e0.frf, e0.hok, e0.bare⟩
  have hr1 : Room (k + 1) { A with guards := some (guardsOf Γ.below) } := ⟨hr.hd, hr.dp, hr.un⟩
  refine LamX.run_ofS lk hcd S hr1 e1 hb r (len _ _ _ _ hsp) (fun h => ?_) Γ p hc hA
  obtain ⟨t, q1, q2⟩ := hbody cdv _ _ outer s H vs Q E rfl h hsp
  exact ⟨t, q1.nox, q2⟩
/-! ### f(k = v, ..), every parameter by its name, the last one first -/
def tCallR (sp : Sp) (E : XK) (tk : TA) : TE := fun σ H Q => tk σ H fun zs H1 => sp zs.reverse H1 Q E
structure KwR (K : PySem.W.Frag) (fd : FuncData) (ps : List Str) : Prop where
  to : ∀ (s : Shared) (ws : List Value), K.In s.heap → ws.length = ps.length → BindsTo s fd ⟨[], ps.reverse.zip ws⟩ (ps.zip ws.reverse)
theorem kwR_of {K : PySem.W.Frag} {x : Str} {st : Stmt} {f : Addr} {fd : FuncData} {ps : List Str} (F : Fun K x x st f fd)
    (h : ∀ (kV doc pm : Value) (an : Option Addr) (cdv ct : Value) (ws : List Value), ws.length = ps.length → bindArgs (PySem.W.fnOf x x (defArgs st) (defBody st) (defScope st) .none kV doc pm an cdv ct) ⟨[], ps.reverse.zip ws⟩ = pure (ps.zip ws.reverse)) : KwR K fd ps := by
  obtain ⟨oc, od, kV, doc, pm, an, cdv, ct, osl, rfl, lk, hcd⟩ := F.ex
  exact ⟨fun s ws _ hl => .of_eq (h kV doc pm an cdv ct ws hl)⟩
theorem valsRev : ∀ {vs : List V} {us : List Value}, L2.Vals vs us → L2.Vals vs.reverse us.reverse
  | _, _, .nil => .nil
  | _, _, .cons r t => by
    rw [List.reverse_cons, List.reverse_cons]
    exact (valsRev t).append (.cons r .nil)
theorem eCK {X : Cx} {K : PySem.W.Frag} {mg : Str → Option Value} {st : Stmt} {fx : Str} {ps : List Str} {k : Nat} {sp : Sp} {P : Program} {w : World} {base : Heap} {kws : List Keyword} {tk : TA} {p pos : Pos} (D : DefD K mg fx st ps) (G : FnOk P w K mg base L2.CX0 k D.f D.fd ps sp) (hb : KwR K D.fd ps) (hr : Room k X.A) (hkw : PK X kws tk)
    (h1 : X.prog = P := by rfl) (h2 : X.w = w := by rfl) (h3 : X.K = K := by rfl) (h4 : X.mg = mg := by rfl) (h5 : X.base = base := by rfl) (hg : Gl X fx := by rfl) (hdb : (fx == ("__debug__" : Str)) = false := by decide)
    (hall : (backToKw pos (keywordEach kws X.env)).all (·.1.isSome) = true := by rfl) (hks : (backToKw pos (keywordEach kws X.env)).filterMap (·.1) = ps.reverse := by rfl)
    (hpl : ((backTo pos (starEach [] X.env)).any (·.1) || (backToKw pos (keywordEach kws X.env)).any (·.1.isNone)) = false := by rfl) : PE X (.Call (.Name fx p) [] kws pos) (tCallR sp E0 tk) := by
  subst h1 h2 h3 h4 h5
  refine ⟨fun pins s σ H Q I h => ?_⟩
  refine wpAny_Call_Name_kw (ld_glob I hg D.g ?_ hdb)
  refine PySem.W.callWith_KW0 (h₀ := X.base) I.ok.mod.kin D.F.kp hall ?_ hpl
  refine thn (hkw.run pos pins s σ H _ I h) fun ws s2 ⟨zs, H2, I2, rz, q2⟩ => ⟨I2.kIn, ?_⟩
  rw [hks]
  have ln := G.len _ _ _ _ q2
  have lw : ws.length = ps.length := by rw [← rz.length, ← ln, List.length_reverse]
  refine wpAny_call (codeAny_mono (G.run X.A X.stack s2 H2 ⟨[], ps.reverse.zip ws⟩ ws.reverse zs.reverse Q E0 hr I2.env0 (hb.to s2 ws I2.kIn lw) (valsRev rz) q2) fun r s' hq => ?_)
  cases r with
  | error e => exact pass0 pins σ H2 s2 e s' I2 hq
  | ok fl =>
    cases fl with
    | ret u => exact I2.after hq
    | next => exact False.elim hq
    | brk => exact False.elim hq
    | cont => exact False.elim hq
section
variable {K : PySem.W.Frag} {mg : Str → Option Value}
theorem kw_steps (T : TxB K mg) : KwR K T.steps_of.fd ["book", "row"] := kwR_of T.steps_of.F fun _ _ _ _ _ _ ws hl => match ws, hl with | [_, _], _ => rfl
theorem kw_less (T : TxB K mg) : KwR K T.lessening.fd ["book", "row"] := kwR_of T.lessening.F fun _ _ _ _ _ _ ws hl => match ws, hl with | [_, _], _ => rfl
theorem kw_behind (T : TxB K mg) : KwR K T.behind.fd ["book", "row", "letter"] := kwR_of T.behind.F fun _ _ _ _ _ _ ws hl => match ws, hl with | [_, _, _], _ => rfl
end
end K8
set_option maxRecDepth 100000
set_option maxHeartbeats 4000000
namespace K8
open PySem PySem.Spec PyProof.Rows L2
/-! ### rows of one letter, sorted already -/
abbrev encS (a : List Str) : PyData := .list (a.map .str)
theorem toks_row (a b : List Str) : PyProof.Rows.lexLt itemOrd (PySem.W.keyToksAll (a.map PyData.str) ++ [.inl 0]) (PySem.W.keyToksAll (b.map PyData.str) ++ [.inl 0]) = PyProof.Rows.lexLt itemOrd (PySem.W.keyToksAll (a.map PyData.str)) (PySem.W.keyToksAll (b.map PyData.str)) := by
  obtain ⟨h1, h2⟩ := PySem.W.toksAll_eqv (a.map PyData.str) (b.map PyData.str) (alike_strs a b)
  cases e : PyData.eqvAll (a.map PyData.str) (b.map PyData.str) with
  | true => rw [h1 e, lex_irrefl (O := itemOrd), lex_irrefl (O := itemOrd)]
  | false => exact h2 e _ _
theorem leD_row (z : Str) (a b : List Str) : leD (encS a) (encS b) = leR (z, a) (z, b) := by
  show (!(listOrd itemOrd).blt (PySem.W.keyToks (encS b)) (PySem.W.keyToks (encS a))) = (!(listOrd itemOrd).blt (toksR (z, b)) (toksR (z, a)))
  congr 1
  have e : ∀ x : List Str, toksR (z, x) = [.inl 1, .inr z.cps.toList, .inl 1] ++ (PySem.W.keyToksAll (x.map PyData.str) ++ [.inl 0]) := fun x => by
    simp [toksR, encL, PySem.W.keyToksAll, PySem.W.keyToks]
  show PyProof.Rows.lexLt itemOrd (PySem.W.keyToks (encS b)) (PySem.W.keyToks (encS a)) = PyProof.Rows.lexLt itemOrd (toksR (z, b)) (toksR (z, a))
  rw [e, e, PySem.W.lex_pre, toks_row]
  simp [encS, PySem.W.keyToks]
theorem steps_pw (R : Bk) (r : List Str) : (stepsOf R r).Pairwise (fun a b => leR a b = true) := by
  cases r with
  | nil => exact .nil
  | cons n tail => exact PySem.W.sort_pairwise leR_tot _
theorem rows_pw (R : Bk) (r : List Str) (z : Str) : (rowsBy R r z).Pairwise fun a b => leD (encS a) (encS b) = true := by
  unfold rowsBy
  rw [List.pairwise_map]
  refine ((steps_pw R r).filter _).imp_of_mem fun {a b} ha hb h => ?_
  have h1 : a.1 = z := by simpa using (List.mem_filter.mp ha).2
  have h2 : b.1 = z := by simpa using (List.mem_filter.mp hb).2
  rw [leD_row z, ← show a = (z, a.2) from Prod.ext h1 rfl, ← show b = (z, b.2) from Prod.ext h2 rfl]
  exact h
theorem sort_rows (R : Bk) (r : List Str) (z : Str) : ((rowsBy R r z).map encS).mergeSort leD = (rowsBy R r z).map encS := by
  refine List.mergeSort_of_pairwise ?_
  rw [List.pairwise_map]
  exact rows_pw R r z
theorem sorted_rows {K : PySem.W.Frag} {H : Hp} (M : List Addr) {D : Addr} {ys : List V} {R : Bk} {r : List Str} {z : Str} {Q : VK} (hq : SqL K H D ys) (hd : DpAll K (hid M H) ys ((rowsBy R r z).map encS)) (hl : (rowsBy R r z).length ≤ 1000000)
    (h : ∀ p zs, H p = none → DpAll K (hid M H) zs ((rowsBy R r z).map encS) → Q (.ref p) (upd H p (.lst zs))) : rSortD K [.ref D] H Q := by
  obtain ⟨bs, h1, h2, h3⟩ := zip_dp hd
  refine ⟨D, bs, rfl, by rw [h1]; exact hq, ⟨fun b hb => sDp hid_same _ _ (h3 b hb), ?_, .inr ?_, ?_, ?_⟩, fun p np => h p _ np ?_⟩
  · rw [h2]
    intro d hd d' hd'
    obtain ⟨a, _, rfl⟩ := List.mem_map.mp hd
    obtain ⟨b, _, rfl⟩ := List.mem_map.mp hd'
    exact alike_strs a b
  · rw [h2]
    intro d hd
    obtain ⟨a, _, rfl⟩ := List.mem_map.mp hd
    exact ⟨(by intro e; cases e), (by intro xs e; cases e)⟩
  · intro b hb
    have : b.2 ∈ (rowsBy R r z).map encS := h2 ▸ List.mem_map.mpr ⟨b, hb, rfl⟩
    obtain ⟨a, _, e⟩ := List.mem_map.mp this
    rw [← e]
    exact Nat.le_trans (dep_strs a) (by decide)
  · have := congrArg List.length h2
    simp only [List.length_map] at this
    omega
  · have g := sortB_dp h3
    rw [h2, sort_rows] at g
    exact g
end K8
set_option maxRecDepth 100000
set_option maxHeartbeats 4000000
namespace K8
open PySem PySem.Spec PyProof.Rows L2
abbrev encSt (rs : List Rule) : PyData := .list (rs.map encL)
abbrev encRw (rs : List (List Str)) : PyData := .list (rs.map encS)
theorem cut_str (r : List Str) (lo hi : Option Int) : ∃ t : List Str, cutV (r.map V.str) lo hi = t.map V.str ∧ ∀ x ∈ t, x ∈ r :=
  ⟨_, by unfold cutV; rw [List.length_map, ← List.map_drop, ← List.map_take], fun x hx => List.mem_of_mem_drop (List.mem_of_mem_take hx)⟩
theorem dpAll_map {α : Type} {K : PySem.W.Frag} {H : Hp} {f : α → V} {g : α → PyData} : ∀ {l : List α}, (∀ x ∈ l, Dp K H (f x) (g x)) → DpAll K H (l.map f) (l.map g)
  | [], _ => .nil
  | x :: l, h => .cons (h x List.mem_cons_self) (dpAll_map fun y hy => h y (List.mem_cons_of_mem _ hy))
theorem told_dp {K : PySem.W.Frag} {H0 H : Hp} {q : Addr} {L : List (Addr × Addr × Rule)} (t : Told H0 H q L) : Dp K H (.ref q) (encSt (L.map (·.2.2))) :=
  .lst (SqL.of t.at_) (by rw [List.map_map]; exact dpAll_map fun x hx => dpL_of (SqT.of (t.it x hx).1) (SqL.of (t.it x hx).2.1))
theorem toldR_dp {K : PySem.W.Frag} {H0 H : Hp} {q : Addr} {L : List (Addr × List Str)} (t : ToldR H0 H q L) : Dp K H (.ref q) (encRw (L.map (·.2))) :=
  .lst (SqL.of t.at_) (by rw [List.map_map]; exact dpAll_map fun x hx => .lst (SqL.of (t.it x hx).1) (dp_strs _))
theorem lp_strs {r : List Str} (h : r.length ≤ 1000) : lpB (encS r) = true := (lp_list (by rw [List.length_map]; exact h) fun e he => by
  obtain ⟨x, _, rfl⟩ := List.mem_map.mp he
  rfl).1
theorem lp_Lr {q : Rule} (h : q.2.length ≤ 1000) : lpB (encL q) = true := (lp_list (by show 2 ≤ 1000; decide) fun d hd => by
  rcases List.mem_cons.mp hd with e | hd
  · rw [e]; rfl
  · rw [List.mem_singleton.mp hd]
    exact lp_strs h).2
theorem lp_St {rs : List Rule} (h1 : rs.length ≤ 1000) (h2 : ∀ q ∈ rs, q.2.length ≤ 1000) : lpB (encSt rs) = true := (lp_list (by rw [List.length_map]; exact h1) fun d hd => by
  obtain ⟨x, hx, rfl⟩ := List.mem_map.mp hd
  exact lp_Lr (h2 x hx)).1
theorem lp_Rw {rs : List (List Str)} (h1 : rs.length ≤ 1000) (h2 : ∀ q ∈ rs, q.length ≤ 1000) : lpB (encRw rs) = true := (lp_list (by rw [List.length_map]; exact h1) fun d hd => by
  obtain ⟨x, hx, rfl⟩ := List.mem_map.mp hd
  exact lp_strs (h2 x hx)).1
theorem dep_St (rs : List Rule) : (encSt rs).depth < 4 := Nat.lt_of_le_of_lt (dep_list (n := 2) fun e he => by
  obtain ⟨x, _, rfl⟩ := List.mem_map.mp he
  exact depth_L2 x).1 (by decide)
theorem dep_Rw (rs : List (List Str)) : (encRw rs).depth < 4 := Nat.lt_of_le_of_lt (dep_list (n := 2) fun e he => by
  obtain ⟨x, _, rfl⟩ := List.mem_map.mp he
  exact Nat.le_trans (dep_strs x) (by decide)).1 (by decide)
theorem sm_pair {K : PySem.W.Frag} {H : Hp} {n : Nat} {a b : Addr} {x1 x2 y1 y2 : V} (ha : H a = some (.lst [x1, x2])) (hb : H b = some (.lst [y1, y2])) (h1 : Sm K H n x1 y1) (h2 : Sm K H n x2 y2) : Sm K H (n + 1) (.ref a) (.ref b) :=
  .inr (.inl ⟨a, b, _, _, rfl, rfl, (by show 2 ≤ 1000000; decide), .inl ⟨SqL.of ha, SqL.of hb⟩, .cons h1 (.cons h2 .nil)⟩)
/-- what stands at new places changes nothing behind -/
theorem put_new {B Y : Hp} {p : Addr} {o : HO} (s : Same B Y) (n : B p = none) : Same B (upd Y p o) := fun b u h => by
  rw [upd_ne fun e => by subst e; rw [n] at h; cases h]
  exact s b u h
theorem names_repr : ∀ z ∈ names12, (reprText z).length ≤ 20 := by decide +kernel
theorem stepsOf_len {R : Bk} (g : GX R) (r : List Str) : (stepsOf R r).length ≤ 8 := by
  cases r with
  | nil => exact Nat.zero_le _
  | cons n tail =>
    refine Nat.le_trans (stepsR_len _ _) ?_
    cases hg : getA R n with
    | none => exact Nat.zero_le _
    | some rs => exact g.rl _ (getA_mem hg)
theorem stepsOf_row {R : Bk} (g : GX R) {r : List Str} (hm : ∀ n ∈ r, n ∈ R.map (·.1)) {x : Rule} (h : x ∈ stepsOf R r) : x.2.length ≤ 8 + r.length ∧ (∀ n ∈ x.2, n ∈ R.map (·.1)) ∧ letterB x.1 = true ∧ x.1.length ≤ 9 ∧ sOk x.1 := by
  obtain ⟨n, tail, rs, q, rfl, hg, hq, rfl⟩ := stepsOf_mem h
  have hq' := getA_mem hg
  refine ⟨?_, fun m hm2 => ?_, (g.lb _ hq' q hq).1, (g.lb _ hq' q hq).2, g.so _ hq' q hq⟩
  · have := g.rw _ hq' q hq
    show (q.2 ++ tail).length ≤ _
    rw [List.length_append, List.length_cons]
    omega
  · rcases List.mem_append.mp hm2 with h2 | h2
    · exact g.cl _ hq' q hq m h2
    · exact hm m (List.mem_cons_of_mem _ h2)
theorem lessOf_sub {R : Bk} {N : Str → Nat} {r : List Str} {x : Rule} (h : x ∈ lessOf R N r) : x ∈ stepsOf R r := (List.mem_filter.mp h).1
theorem lessOf_eq {R R' : Bk} (e : stepsOf R' r = stepsOf R r) (N : Str → Nat) : lessOf R' N r = lessOf R N r := by unfold lessOf; rw [e]
theorem rowsBy_eq {R R' : Bk} (e : stepsOf R' r = stepsOf R r) (z : Str) : rowsBy R' r z = rowsBy R r z := by unfold rowsBy; rw [e]
theorem rowsBy_mem {R : Bk} {r : List Str} {z : Str} {x : List Str} (h : x ∈ rowsBy R r z) : ∃ y ∈ stepsOf R r, y.2 = x := by
  obtain ⟨y, hy, e⟩ := List.mem_map.mp h
  exact ⟨y, (List.mem_filter.mp hy).1, e⟩
theorem rowsBy_len {R : Bk} (g : GX R) (r : List Str) (z : Str) : (rowsBy R r z).length ≤ 8 := by
  unfold rowsBy
  rw [List.length_map]
  exact Nat.le_trans (List.length_filter_le _ _) (stepsOf_len g r)
end K8
set_option maxRecDepth 100000
set_option maxHeartbeats 8000000
namespace K8
open PySem PySem.Spec PyProof.Rows L2
def spRowRight (K : PySem.W.Frag) (C : Addr) : Sp := fun vs H Q _ => ∃ (S S0 d p a : Addr) (c : Nat) (kvs : List (Key × V)) (R R' : Bk) (N : Str → Nat) (r : List Str), vs = [.ref S, .ref d, .ref p, .ref a] ∧ Stm S S0 c H ∧ c + 400 ≤ LIM ∧ H d = some (.dK kvs) ∧ KvD K (hid [S, S0] H) encRs R kvs ∧ GX R ∧ BookAt K C (hid [S, S0] H) p R' N ∧ BkEq R R' ∧ IsN R N ∧
  SqL K (hid [S, S0] H) a (r.map .str) ∧ r.length ≤ 300 ∧ (∀ n ∈ r, n ∈ R.map (·.1)) ∧ ∀ c' H', c ≤ c' → c' ≤ c + 301 → Stm S S0 c' H' → Same (hid [S, S0] H) (hid [S, S0] H') → Q (.bl true) H'
/-- repr of a row, whichever kind: always the same text -/
theorem repr_fix {K : PySem.W.Frag} (g : List Code) {B : Hp} {h : Addr} {r : List Str} (hs : SqA K B h (r.map .str)) (hz : ∀ z ∈ r, (reprText z).length ≤ 20) (hl : r.length ≤ 1000) : ∃ was : Str, ∀ Y, Same B Y → ∀ Q : VK, Q (.str was) Y → rReprS K g [.ref h] Y Q := by
  rcases hs with hs | hs
  · exact ⟨txtL g h r, fun Y s Q q => ⟨h, r, rfl, hz, hl, .inl ⟨s.seq hs, q⟩⟩⟩
  · exact ⟨txtT g h r, fun Y s Q q => ⟨h, r, rfl, hz, hl, .inr ⟨sSeqT s hs, q⟩⟩⟩
theorem sqA_same {K : PySem.W.Frag} {H H' : Hp} {a : Addr} {xs : List V} (s : Same H H') (h : SqA K H a xs) : SqA K H' a xs := h.imp (s.seq ·) (sSeqT s ·)
theorem kvN_any {K : PySem.W.Frag} {H H' : Hp} {F : List (Str × Nat)} {kvs : List (Key × V)} (h : KvD K H encN F kvs) : KvD K H' encN F kvs := Paired_mono (fun _ q z => ⟨z.1, by have := dp_int z.2; rw [this]; exact .int _⟩) h
/-- told steps, not yet touched; what stands at B is not among their lists -/
structure Op (B Y : Hp) (q : Addr) (L : List (Addr × Addr × Rule)) : Prop where
  at_ : Y q = some (.lst (L.map fun x => V.ref x.1))
  it : ∀ x ∈ L, Y x.1 = some (.tup [.str x.2.2.1, .ref x.2.1]) ∧ Y x.2.1 = some (.lst (x.2.2.2.map .str)) ∧ B x.2.1 = none
  nd : (L.map (·.2.1)).Nodup
  nq : ∀ x ∈ L, x.2.1 ≠ q
  fq : B q = none
  ok : ∀ x ∈ L, x.2.2.2.length ≤ 1000 ∧ ∀ n ∈ x.2.2.2, n ≠ "late" ∧ sOk n
  len : L.length ≤ 1000
abbrev lists (L : List (Addr × Addr × Rule)) : List Addr := L.map (·.2.1)
theorem op_of {B H0 Y : Hp} {q : Addr} {L : List (Addr × Addr × Rule)} {rs : List Rule} (t : Told H0 Y q L) (s : Same B H0) (e : L.map (·.2.2) = rs) (hl : rs.length ≤ 1000) (h : ∀ y ∈ rs, y.2.length ≤ 1000 ∧ ∀ n ∈ y.2, n ≠ "late" ∧ sOk n) : Op B Y q L :=
  ⟨t.at_, fun x hx => let ⟨a, b, _, d⟩ := t.it x hx; ⟨a, b, Same.free s d⟩, t.nd, t.nq, Same.free s t.fq, fun x hx => h _ (e ▸ List.mem_map.mpr ⟨x, hx, rfl⟩), by rw [← e, List.length_map] at hl; exact hl⟩
theorem Op.tn {B Y : Hp} {q : Addr} {L : List (Addr × Addr × Rule)} (o : Op B Y q L) {x : Addr × Addr × Rule} (hx : x ∈ L) : x.1 ∉ lists L := fun z => by
  obtain ⟨y, hy, e⟩ := List.mem_map.mp z
  have h1 := (o.it x hx).1
  rw [← e, (o.it y hy).2.1] at h1
  cases h1
theorem Op.qn {B Y : Hp} {q : Addr} {L : List (Addr × Addr × Rule)} (o : Op B Y q L) : q ∉ lists L := fun z => by
  obtain ⟨y, hy, e⟩ := List.mem_map.mp z
  exact o.nq y hy e
theorem Op.fr {B Y : Hp} {q : Addr} {L : List (Addr × Addr × Rule)} (o : Op B Y q L) : ∀ z ∈ lists L, B z = none := fun z hz => by
  obtain ⟨y, hy, rfl⟩ := List.mem_map.mp hz
  exact (o.it y hy).2.2
theorem hid_base {B Y Y' : Hp} {Z : List Addr} (s : Same B Y) (f : ∀ z ∈ Z, B z = none) (h : Same (hid Z Y) (hid Z Y')) : Same B Y' := fun b o e => hid_same _ _ (h _ _ (hid_get (fun z => by rw [f b z] at e; cases e) (s _ _ e)))
/-- another list's places change -/
theorem Op.move {B Y Y' : Hp} {q : Addr} {L : List (Addr × Addr × Rule)} {Z : List Addr} (o : Op B Y q L) (h : Same (hid Z Y) (hid Z Y')) (n1 : q ∉ Z) (n2 : ∀ x ∈ L, x.1 ∉ Z ∧ x.2.1 ∉ Z) : Op B Y' q L :=
  ⟨(hid_of (h _ _ (hid_get n1 o.at_))).2, fun x hx => ⟨(hid_of (h _ _ (hid_get (n2 x hx).1 (o.it x hx).1))).2, (hid_of (h _ _ (hid_get (n2 x hx).2 (o.it x hx).2.1))).2, (o.it x hx).2.2⟩, o.nd, o.nq, o.fq, o.ok, o.len⟩
theorem nodup_ne {L : List (Addr × Addr × Rule)} (h : (lists L).Nodup) {i j : Nat} {x y : Addr × Addr × Rule} (hi : L[i]? = some x) (hj : L[j]? = some y) (n : i ≠ j) : x.2.1 ≠ y.2.1 := fun e => n (by
  have h1 : (lists L)[i]? = some x.2.1 := by rw [List.getElem?_map, hi]; rfl
  have h2 : (lists L)[j]? = some x.2.1 := by rw [List.getElem?_map, hj, e]; rfl
  exact (List.getElem?_inj (List.getElem?_eq_some_iff.mp h1).1 h).mp (h1.trans h2.symm))
theorem same_hidD {W G : Hp} {D : Addr} (n : W D = none) (s : Same W G) : Same W (hid [D] G) := fun b o h => hid_get (fun z => by rw [List.mem_singleton.mp z, n] at h; cases h) (s b o h)
theorem late_no {t : List Str} (h : ∀ n ∈ t, n ≠ "late") : PyData.eqv (encS t) (encS ["late"]) = false := by
  rw [enc_strs.eqv]
  exact decide_eq_false fun e => h "late" (by rw [e]; exact List.mem_singleton.mpr rfl) rfl
section
variable {P : Program} {w : World} {K : PySem.W.Frag} {mg : Str → Option Value} {base : Heap}
theorem sc_row_right : FnScope ["_law_stream", "_law_rules", "_law_made", "_law_row", "_law_sizes", "_law_due", "_law_handed", "_law_less", "_law_was", "_law_told", "_law_steps", "_law_at", "_law_letter", "_law_onward", "_law_sign", "_law_rows", "_law_far"] ["_law_stream", "_law_rules", "_law_made", "_law_row"] (defScope s_row_right) := ⟨rfl, rfl, rfl, by decide +kernel, rfl, by decide +kernel, by decide +kernel⟩
theorem ok_row_right (T : TxB K mg) : FnOk P w K mg base CX0 7 T.row_right.f T.row_right.fd ["_law_stream", "_law_rules", "_law_made", "_law_row"] (spRowRight K T.C) := by
  have G_d_norms : FnOk P w K mg base CX0 6 T.d_norms.f T.d_norms.fd _ (spDNorms K) := (ok_d_norms T.toTxt).mono (by decide)
  have G_b_steps : FnOk P w K mg base CX0 6 T.b_steps.f T.b_steps.fd _ (spBSteps K) := (ok_b_steps T.toTxt).mono (by decide)
  have G_b_less : FnOk P w K mg base CX0 6 T.b_less.f T.b_less.fd _ (spBLess K) := (ok_b_less T.toTxt).mono (by decide)
  have G_loose : FnOk P w K mg base CX0 6 T.loose.f T.loose.fd _ (spLoose K 4) := ok_loose T.toTxt 4
  have G_same : FnOk P w K mg base CX0 6 T.same.f T.same.fd _ (spSame K 5) := ok_same T.toTxt 5
  have G_steps_of : FnOk P w K mg base CX0 6 T.steps_of.f T.steps_of.fd _ (spStepsOf K T.C) := (ok_steps_of T).mono (by decide)
  have G_lessening : FnOk P w K mg base CX0 6 T.lessening.f T.lessening.fd _ (spLess K T.C) := (ok_lessening T).mono (by decide)
  have G_behind : FnOk P w K mg base CX0 6 T.behind.f T.behind.fd _ (spBehind K T.C) := (ok_behind T).mono (by decide)
  have G_each_once : FnOk P w K mg base CX0 6 T.each_once.f T.each_once.fd _ (spOnce K sOk PyData.str) := (ok_each_once enc_str T.toTxt).mono (by decide)
  have kw_steps_of := kw_steps T
  have kw_lessening := kw_less T
  have kw_behind := kw_behind T
  refine okG T.row_right.F sc_row_right (fun vs H Q E h => ?_) (fun cdv A g outer s H vs Q E hgd hr h => ?_)
  · obtain ⟨S, S0, d, p, a, c, kvs, R, R', N, r, rfl, _⟩ := h
    rfl
  obtain ⟨S, S0, d, p, a, c, kvs, R, R', N, r, rfl, st, hc, hd, kd, gx, hbk, beq, isn, ha, hl, hm, q⟩ := h
  have nd := sc_row_right.nd
  have hu64 := hr.units
  have hu65 : (A.deeper (envOfC "_law_row_right" (defScope s_row_right) s.heap.objs.size T.row_right.f cdv)).units + 65 < cLine := by have := hr.un; omega
  have hu5 : (A.deeper (envOfC "_law_row_right" (defScope s_row_right) s.heap.objs.size T.row_right.f cdv)).units + 5 < cLine := by have := hr.un; omega
  refine ⟨_, (pss_cons (ps_par3 (i := 4) (j := 5) (l := 6) rfl nd rfl rfl rfl (by decide) (by decide) (by decide) rfl rfl rfl (pa_cons (eC T.d_norms G_d_norms hr (pa_cons (pv 1) pa_nil)) (pa_cons (eC T.b_steps G_b_steps hr (pa_cons (pv 1) (pa_cons (pv 3) pa_nil))) (pa_cons (eC T.loose G_loose hr (pa_cons (pv 0) (pa_cons (pv 3) pa_nil))) pa_nil))) rfl)
    (pss_cons (ps_par (i := 7) (j := 8) rfl nd rfl rfl (by decide) rfl rfl (pa_cons (eC T.b_less G_b_less hr (pa_cons (pv 1) (pa_cons (pv 4) (pa_cons (pv 3) pa_nil)))) (pa_cons (eRepr K hgd hu5 T.z_repr (pv 6)) pa_nil)) rfl)
    (pss_cons (ps_if (PW.pt (pw_or (pt_not (pt_val (eC T.same G_same hr (pa_cons (pe_lst (pa_cons (eC T.steps_of G_steps_of hr (pa_cons (pv 2) (pa_cons (pv 6) pa_nil))) (pa_cons (eCK T.lessening G_lessening kw_lessening hr (pk_cons (pv 6) (pk_cons (pv 2) pk_nil))) pa_nil))) (pa_cons (pe_lst (pa_cons (pv 5) (pa_cons (pv 7) pa_nil))) pa_nil))))) (pw_or1 (pt_cmpR op_ne (eRepr K hgd hu5 T.z_repr (pv 6)) (pv 8) (nomark _)))))
      (pss_one (ps_ret pe_bl)) pss_nil)
    (pss_cons (ps_set (i := 9) nd rfl (Or.inl rfl) (pe_lst (pa_cons (eCK T.steps_of G_steps_of kw_steps_of hr (pk_cons (pv 3) (pk_cons (pv 2) pk_nil))) (pa_cons (eC T.lessening G_lessening hr (pa_cons (pv 2) (pa_cons (pv 3) pa_nil))) pa_nil))))
    (pss_cons (ps_for PassesOwn.never rfl (iL K (pv 9)) (pg_name (i := 10) nd rfl (Or.inl rfl))
      (pss_cons (ps_for PassesOwn.never rfl (pi_enumA K T.z_enumerate (pv 10)) (gTu (K := K) rfl (pgs_cons (pg_name (i := 11) nd rfl (Or.inl rfl)) (pgs_cons (gTu (K := K) rfl (pgs_cons (pg_name (i := 12) nd rfl (Or.inl rfl)) (pgs_cons (pg_name (i := 13) nd rfl (Or.inl rfl)) pgs_nil))) pgs_nil)))
        (pss_cons (ps_expr (eAppend K (pv 13) pe_str))
        (pss_one (ps_if (pt_val (eAny K rfl T.z_any (pe_lc (own := [("_law_far", 16)]) (g := gName 16) (tt := tYes) rfl nd (iL K (pe_slice (slL K) (pv 10) (po_some (pe_op op_add (pv 11) pe_int)) po_none)) (blkOk_by (N := ["_law_stream", "_law_rules", "_law_made", "_law_row", "_law_sizes", "_law_due", "_law_handed", "_law_less", "_law_was", "_law_told", "_law_steps", "_law_at", "_law_letter", "_law_onward", "_law_sign", "_law_rows", "_law_far"]) (sc := defScope s_row_right) (by decide +kernel)) (fun _ _ _ _ _ => (pg_name (i := 16) nd rfl (Or.inl rfl))) (fun _ _ _ _ _ => pts_nil) (fun _ _ _ _ _ => (pe_cmpR (oEqD K hu64) (pe_slice (slL K) (pe_ix (ixT K) (pv 16) pe_int (fun _ _ => rfl)) (po_some (pe_un un_neg pe_int)) po_none) (pe_lst (pa_cons pe_str pa_nil)) (nomark _))))))
          (pss_one (ps_ret pe_bl)) pss_nil))))
      (pss_one (ps_expr (eAppend K (pv 10) pe_str)))))
    (pss_cons (ps_if (pt_not (pt_val (eC T.same G_same hr (pa_cons (pe_lst (pa_cons (eC T.steps_of G_steps_of hr (pa_cons (pv 2) (pa_cons (pv 3) pa_nil))) (pa_cons (eC T.lessening G_lessening hr (pa_cons (pv 2) (pa_cons (pv 3) pa_nil))) pa_nil))) (pa_cons (pe_lst (pa_cons (pv 5) (pa_cons (pv 7) pa_nil))) pa_nil)))))
      (pss_one (ps_ret pe_bl)) pss_nil)
    (pss_cons (ps_for PassesOwn.never rfl (iL K (pe_op (oCatL K) (eC T.each_once G_each_once hr (pa_cons (pe_lc (own := [("_law_letter", 12), ("_law_onward", 13)]) (g := gTup K 2 (gCons (gName 12) (gCons (gName 13) gNil))) (tt := tYes) rfl nd (iL K (pv 5)) (blkOk_by (N := ["_law_stream", "_law_rules", "_law_made", "_law_row", "_law_sizes", "_law_due", "_law_handed", "_law_less", "_law_was", "_law_told", "_law_steps", "_law_at", "_law_letter", "_law_onward", "_law_sign", "_law_rows", "_law_far"]) (sc := defScope s_row_right) (by decide +kernel)) (fun _ _ _ _ _ => (gTu (K := K) rfl (pgs_cons (pg_name (i := 12) nd rfl (Or.inl rfl)) (pgs_cons (pg_name (i := 13) nd rfl (Or.inl rfl)) pgs_nil)))) (fun _ _ _ _ _ => pts_nil) (fun _ _ _ _ _ => (pv 12))) pa_nil)) (pe_lst (pa_cons pe_str (pa_cons pe_str (pa_cons pe_str (pa_cons pe_str pa_nil))))))) (pg_name (i := 14) nd rfl (Or.inr rfl))
      (pss_cons (ps_set (i := 15) nd rfl (Or.inl rfl) (e1SortD K hu65 T.z_sorted (pe_lc (own := [("_law_letter", 12), ("_law_onward", 13)]) (g := gTup K 2 (gCons (gName 12) (gCons (gName 13) gNil))) rfl nd (iL K (pv 5)) (blkOk_by (N := ["_law_stream", "_law_rules", "_law_made", "_law_row", "_law_sizes", "_law_due", "_law_handed", "_law_less", "_law_was", "_law_told", "_law_steps", "_law_at", "_law_letter", "_law_onward", "_law_sign", "_law_rows", "_law_far"]) (sc := defScope s_row_right) (by decide +kernel)) (fun _ _ _ _ _ => (gTu (K := K) rfl (pgs_cons (pg_name (i := 12) nd rfl (Or.inl rfl)) (pgs_cons (pg_name (i := 13) nd rfl (Or.inl rfl)) pgs_nil)))) (fun _ _ _ _ _ => pts_one (pt_cmpR op_eq (pv 12) (pv 14) (nomark _))) (fun _ _ _ _ _ => (pv 13)))))
      (pss_cons (ps_set (i := 9) nd rfl (Or.inl rfl) (eC T.behind G_behind hr (pa_cons (pv 2) (pa_cons (pv 6) (pa_cons (pv 14) pa_nil)))))
      (pss_cons (ps_if (pt_not (pt_val (eC T.same G_same hr (pa_cons (pe_lst (pa_cons (pv 9) (pa_cons (eCK T.behind G_behind kw_behind hr (pk_cons (pv 14) (pk_cons (pv 3) (pk_cons (pv 2) pk_nil)))) pa_nil))) (pa_cons (pe_lst (pa_cons (pv 15) (pa_cons (pv 15) pa_nil))) pa_nil)))))
        (pss_one (ps_ret pe_bl)) pss_nil)
      (pss_cons (ps_for PassesOwn.never rfl (iL K (pv 9)) (pg_name (i := 13) nd rfl (Or.inl rfl))
        (pss_one (ps_expr (eAppend K (pv 13) pe_str))))
      (pss_cons (ps_expr (eAppend K (pv 9) pe_str))
      (pss_one (ps_if (pt_not (pt_val (eC T.same G_same hr (pa_cons (eC T.behind G_behind hr (pa_cons (pv 2) (pa_cons (pv 3) (pa_cons (pv 14) pa_nil)))) (pa_cons (pv 15) pa_nil)))))
        (pss_one (ps_ret pe_bl)) pss_nil))))))))
    (pss_one (ps_ret pe_bl))))))))), ?_⟩
  have hSS : ∀ m ∈ [S, S0], H m ≠ none := by
    obtain ⟨_, ns, l, n, m, h1, h2, _⟩ := st
    intro x hx
    rcases List.mem_cons.mp hx with e | hx
    · rw [e, h1]; exact fun z => nomatch z
    · rw [List.mem_singleton.mp hx, h2]; exact fun z => nomatch z
  have hl1 : r.length ≤ 1000 := by omega
  have hso : ∀ n ∈ r, sOk n := fun n hn => (gx.names (hm n hn)).2.2
  have hRl : R.length ≤ 1000 := by have := gx.few; omega
  have hz : ∀ z ∈ r, (reprText z).length ≤ 20 := fun z hz => by
    obtain ⟨t, ht, e⟩ := List.mem_map.mp (hm z hz)
    rw [← e]
    exact names_repr _ (gx.n12 t ht)
  refine ⟨_, rfl, d, kvs, R, N, rfl, hd, kd.same hid_same, hRl, gx.nd, gx.bc, isn, gx.rok, fun e fk F H1 s1 ne1 he1 ke1 ac => ?_⟩
  refine ⟨_, rfl, _, rfl, [S, S0], d, a, kvs, R, r, (fun m hm z => hSS m hm (Same.free s1 z)), rfl, .inl (s1 _ _ hd), (kd.same hid_same).same s1, s1.seq (hid_same.seq ha), hl1, hm, gx.bc, gx.rok, hso, fun du zs H2 s2 nu2 hu2 dz2 => ?_⟩
  have u2 := s1.trans s2
  refine ⟨_, rfl, _, rfl, S, S0, [], c, .ref a, encS r, rfl, st.same u2, (fun _ z => nomatch z), .lst ((sHid u2).seq ha) (dp_strs r), Nat.lt_of_le_of_lt (dep_strs r) (by decide), lp_strs hl1, (by have := dsz_strs r; show c + dsz (.list (r.map .str)) ≤ LIM; omega), fun hv H3 lo3 st3 s3 => ?_⟩
  have e0 : ([] : List Addr) ++ [S, S0] = [S, S0] := rfl
  rw [e0] at lo3
  obtain ⟨hh, rfl, hh3⟩ : ∃ hh, hv = .ref hh ∧ SqA K (hid [S, S0] H3) hh (r.map .str) := by
    cases lo3 with
    | @lst b xs _ h1 h2 => exact ⟨b, rfl, by rw [lo_strs h2] at h1; exact h1⟩
  have hh3 := sqA_same hid_same hh3
  -- all that stands at H3
  have noS : ∀ {x : Addr}, H x = none → x ∉ [S, S0] := fun n z => hSS _ z n
  have sHH : Same (hid [S, S0] H) (hid [S, S0] H3) := (sHid u2).trans s3
  have kd3 : KvD K H3 encRs R kvs := (kd.same sHH).same hid_same
  have hd3 : Rd H3 d (.dK kvs) := by
    have z : d ∉ [S, S0] := fun z => by
      obtain ⟨_, ns, l, n, m, h1, h2, _⟩ := st
      rcases List.mem_cons.mp z with e | z
      · rw [← e, hd] at h1; cases h1
      · rw [← List.mem_singleton.mp z, hd] at h2; cases h2
    exact .inl (hid_same _ _ (sHH _ _ (hid_get z hd)))
  have hbk3 : BookAt K T.C H3 p R' N := (hbk.same sHH).same hid_same
  have ha3 : SqL K H3 a (r.map .str) := hid_same.seq (sHH.seq ha)
  have he3 : Rd H3 e (.dK fk) := .inl (hid_same _ _ (s3 _ _ (hid_get (noS ne1) (s2 _ _ he1))))
  have ke3 : KvD K H3 encN F fk := kvN_any ke1
  have hdu3 : H3 du = some (.lst zs) := hid_same _ _ (s3 _ _ (hid_get (noS (Same.free s1 nu2)) hu2))
  have dz3 : Dp K H3 (.ref du) (encSt (stepsOf R r)) := .lst (SqL.of hdu3) (sDpAll (((hid_sub fun b hb => List.mem_cons_of_mem _ hb).trans s3).trans hid_same) _ _ dz2)
  have stE : stepsOf R' r = stepsOf R r := beq.steps gx.nd hm
  have hm' : ∀ n ∈ r, n ∈ R'.map (·.1) := fun n hn => beq.nm.mem_iff.mpr (hm n hn)
  have bc' : BC R' := beq.bc gx.bc
  have rowL : ∀ y ∈ stepsOf R r, y.2.length ≤ 1000 := fun y hy => by have := (stepsOf_row gx hm hy).1; omega
  have stL : (stepsOf R r).length ≤ 1000 := by have := stepsOf_len gx r; omega
  have lpD : lpB (encSt (stepsOf R r)) = true := lp_St stL rowL
  have lpE : lpB (encSt (lessOf R N r)) = true := lp_St (Nat.le_trans (List.length_filter_le _ _) stL) fun y hy => rowL y (lessOf_sub hy)
  obtain ⟨was, repr3⟩ := repr_fix g hh3 hz hl1
  have fin : ∀ {Y : Hp}, Same H3 Y → Q (.bl true) Y := fun {Y} s => q _ _ (Nat.le_add_right _ _) (by have := dsz_strs r; show c + dsz (.list (r.map .str)) ≤ c + 301; omega) (st3.same s) (sHH.trans (sHid s))
  clear s3 lo3 st3 dz2 hu2 nu2 ke1 he1 ne1 s1 s2 u2 kd hd hbk ha q sHH
  refine ⟨_, _, _, rfl, ?_⟩
  refine ⟨_, rfl, _, rfl, _, rfl, d, e, a, kvs, fk, R, F, N, r, rfl, hd3, kd3, he3, ke3, ha3, hl1, hm, gx.bc, gx.rok, hso, isn, ac, fun le zs2 H4 s4 nl4 hl4 dz4 => ?_⟩
  have dl4 : Dp K H4 (.ref le) (encSt (lessOf R N r)) := .lst (SqL.of hl4) (sDpAll hid_same _ _ dz4)
  have dd4 : Dp K H4 (.ref du) (encSt (stepsOf R r)) := sDp s4 _ _ dz3
  clear hd3 kd3 he3 ke3 nl4 dz4 dz3 hdu3 hl4
  refine ⟨_, rfl, repr3 _ s4 _ ?_⟩
  refine ⟨_, _, rfl, ?_⟩
  -- steps and lessening, told, are right
  refine ⟨_, rfl, _, rfl, p, hh, R', N, r, rfl, hbk3.same s4, hh3.same s4, hl1, hm', bc', fun q1 H5 L1 s5 t1 e1 => ?_⟩
  replace e1 := e1.trans stE
  refine ⟨_, rfl, _, rfl, p, hh, R', N, r, rfl, hbk3.same (s4.trans s5), (hh3.same s4).same s5, hl1, hm', bc', fun q2 H6 L2 s6 t2 e2 => ?_⟩
  replace e2 := e2.trans (lessOf_eq stE N)
  refine ⟨(by show 2 ≤ sizeLine; decide), fun l7 n7 => ?_⟩
  have s7 := same_new (o := .lst [.ref q1, .ref q2]) n7
  refine ⟨_, rfl, _, rfl, (by show 2 ≤ sizeLine; decide), fun l8 n8 => ?_⟩
  have s8 := same_new (o := .lst [.ref du, .ref le]) n8
  have s47 : Same H4 (upd (upd H6 l7 (.lst [.ref q1, .ref q2])) l8 (.lst [.ref du, .ref le])) := ((s5.trans s6).trans s7).trans s8
  refine ⟨_, _, rfl, sm_pair (n := 4) (s8 _ _ upd_same) upd_same (sm_dp 4 _ _ _ (dep_St _) (by rw [e1]; exact lpD) (sDp ((s6.trans s7).trans s8) _ _ (told_dp t1)) (by rw [e1]; exact sDp s47 _ _ dd4))
    (sm_dp 4 _ _ _ (dep_St _) (by rw [e2]; exact lpE) (sDp (s7.trans s8) _ _ (told_dp t2)) (by rw [e2]; exact sDp s47 _ _ dl4)), fun H9 s9 => ⟨_, rfl, ?_⟩⟩
  have s49 := s47.trans s9
  clear s7 s8 n7 n8 s47 s9 s5 s6 t1 t2 e1 e2
  refine iteF ?_
  refine ⟨_, rfl, repr3 _ (s4.trans s49) _ ?_⟩
  refine ⟨_, rfl, rfl, _, rfl, iteF' (by rw [decide_eq_true rfl]; rfl) ?_⟩
  -- told once more
  have okR : ∀ y ∈ stepsOf R r, y.2.length ≤ 1000 ∧ ∀ n ∈ y.2, n ≠ "late" ∧ sOk n := fun y hy => ⟨rowL y hy, fun n hn => (gx.names ((stepsOf_row gx hm hy).2.1 n hn)).2⟩
  have s39 := s4.trans s49
  refine ⟨_, rfl, _, rfl, p, a, R', N, r, rfl, hbk3.same s39, .inl (s39.seq ha3), hl1, hm', bc', fun q1 H10 L1 s10 t1 e1 => ?_⟩
  refine ⟨_, rfl, _, rfl, p, a, R', N, r, rfl, hbk3.same (s39.trans s10), .inl ((s39.trans s10).seq ha3), hl1, hm', bc', fun q2 H11 L2 s11 t2 e2 => ?_⟩
  refine ⟨(by show 2 ≤ sizeLine; decide), fun l n12 => ?_⟩
  have s12 := same_new (o := .lst [.ref q1, .ref q2]) n12
  have op1 : Op H9 (upd H11 l (.lst [.ref q1, .ref q2])) q1 L1 := by
    have o := op_of t1 (Same.refl _) (e1.trans stE) stL okR
    exact (o.move (Z := []) (by rw [hid0, hid0]; exact s11.trans s12) (fun z => nomatch z) fun x _ => ⟨(fun z => nomatch z), fun z => nomatch z⟩)
  have op2 : Op H9 (upd H11 l (.lst [.ref q1, .ref q2])) q2 L2 := by
    have o := op_of t2 s10 (e2.trans (lessOf_eq stE N)) (Nat.le_trans (List.length_filter_le _ _) stL) fun y hy => okR y (lessOf_sub hy)
    exact (o.move (Z := []) (by rw [hid0, hid0]; exact s12) (fun z => nomatch z) fun x _ => ⟨(fun z => nomatch z), fun z => nomatch z⟩)
  have dis : ∀ z ∈ q1 :: lists L1, z ≠ q2 ∧ ∀ x ∈ L2, x.1 ≠ z ∧ x.2.1 ≠ z := fun z hz => by
    have nz : H10 z ≠ none := by
      rcases List.mem_cons.mp hz with e | hz
      · rw [e, t1.at_]; exact fun z => nomatch z
      · obtain ⟨y, hy, e⟩ := List.mem_map.mp hz
        rw [← e, (t1.it y hy).2.1]; exact fun z => nomatch z
    refine ⟨fun e => nz (by rw [e]; exact t2.fq), fun x hx => ⟨fun e => nz (by rw [← e]; exact (t2.it x hx).2.2.1), fun e => nz (by rw [← e]; exact (t2.it x hx).2.2.2)⟩⟩
  have s9_12 : Same H9 (upd H11 l (.lst [.ref q1, .ref q2])) := (s10.trans s11).trans s12
  have nl9 : H9 l = none := Same.free (s10.trans s11) n12
  have hl12 : upd H11 l (.lst [.ref q1, .ref q2]) l = some (.lst [.ref q1, .ref q2]) := upd_same
  have lq : l ∉ q1 :: lists L1 ∧ l ∉ q2 :: lists L2 := by
    have f1 : H11 q1 ≠ none := by rw [s11 _ _ t1.at_]; exact fun z => nomatch z
    have f2 : H11 q2 ≠ none := by rw [t2.at_]; exact fun z => nomatch z
    refine ⟨fun z => ?_, fun z => ?_⟩
    · rcases List.mem_cons.mp z with e | z
      · exact f1 (by rw [← e]; exact n12)
      · obtain ⟨y, hy, e⟩ := List.mem_map.mp z
        have := s11 _ _ (t1.it y hy).2.1
        rw [e, n12] at this; cases this
    · rcases List.mem_cons.mp z with e | z
      · exact f2 (by rw [← e]; exact n12)
      · obtain ⟨y, hy, e⟩ := List.mem_map.mp z
        have := (t2.it y hy).2.1
        rw [e, n12] at this; cases this
  generalize upd H11 l (.lst [.ref q1, .ref q2]) = H12 at op1 op2 s9_12 hl12 ⊢
  clear s10 s11 s12 n12 t1 t2 e1 e2
  dsimp only
  refine gname_x ?_
  refine ⟨_, rfl, l, rfl, ⟨_, SqL.of hl12⟩, ?_⟩
  obtain ⟨qs, eqs⟩ : ∃ qs : List (Addr × List (Addr × Addr × Rule)), qs = [(q1, L1), (q2, L2)] := ⟨_, rfl⟩
  refine for_it walk_list (fun i σ Y => (∃ v10 v11 v12 v13, σ = [some (.ref S), some (.ref d), some (.ref p), some (.ref a), some (.ref e), some (.ref du), some (.ref hh), some (.ref le), some (.str was), some (.ref l), v10, v11, v12, v13, none, none, none]) ∧
      Same H9 Y ∧ Y l = some (.lst [.ref q1, .ref q2]) ∧ (i = 0 → Op H9 Y q1 L1) ∧ (i ≤ 1 → Op H9 Y q2 L2))
    ⟨⟨_, _, _, _, rfl⟩, s9_12, hl12, fun _ => op1, fun _ => op2⟩ (fun i σ Y _ ⟨_, _, h, _⟩ => SqL.of h) ?_ ?_
  · rintro i y σ Yx Y hi ⟨⟨v10, v11, v12, v13, rfl⟩, sY, hlY, o1, o2⟩ ⟨rfl, hy⟩
    obtain ⟨q, L, rfl, op, lZ, nxt⟩ : ∃ q L, y = .ref q ∧ Op H9 Y q L ∧ l ∉ q :: lists L ∧ ∀ Y', Same (hid (q :: lists L) Y) (hid (q :: lists L) Y') → (i + 1 ≤ 1 → Op H9 Y' q2 L2) := by
      match i, hi, hy with
      | 0, _, hy =>
        refine ⟨q1, L1, (Option.some.inj hy).symm, o1 rfl, lq.1, fun Y' s _ => (o2 (by decide)).move s (fun z => (dis _ z).1 rfl) fun x hx => ⟨fun z => ((dis _ z).2 x hx).1 rfl, fun z => ((dis _ z).2 x hx).2 rfl⟩⟩
      | 1, _, hy => exact ⟨q2, L2, (Option.some.inj hy).symm, o2 (Nat.le_refl _), lq.2, fun _ _ h => absurd h (by decide)⟩
    clear o1 o2
    refine gname_x ?_
    refine ⟨_, rfl, q, rfl, .inl ⟨⟨_, SqL.of op.at_⟩, ?_⟩⟩
    obtain ⟨Z, eZ⟩ : ∃ Z, Z = lists L := ⟨_, rfl⟩
    have qZ : q ∉ Z := by rw [eZ]; exact op.qn
    have inZ : ∀ {x : Addr × Addr × Rule}, x ∈ L → x.2.1 ∈ Z := fun {x} hx => by rw [eZ]; exact List.mem_map.mpr ⟨x, hx, rfl⟩
    have tZ : ∀ {x : Addr × Addr × Rule}, x ∈ L → x.1 ∉ Z := fun {x} hx => by rw [eZ]; exact op.tn hx
    refine for_it walk_enum (fun j σ Y2 => (∃ v11 v12 v13, σ = [some (.ref S), some (.ref d), some (.ref p), some (.ref a), some (.ref e), some (.ref du), some (.ref hh), some (.ref le), some (.str was), some (.ref l), some (.ref q), v11, v12, v13, none, none, none]) ∧
        Same (hid Z Y) (hid Z Y2) ∧ ∀ (k : Nat) (x : Addr × Addr × Rule), j ≤ k → L[k]? = some x → Y2 x.2.1 = some (.lst (x.2.2.2.map .str)))
      ⟨⟨_, _, _, rfl⟩, Same.refl _, fun k x _ hx => (op.it x (List.mem_of_getElem? hx)).2.1⟩ (fun j σ Y2 _ ⟨_, s2, _⟩ => hid_same.seq (s2.seq (SqL.of (hid_get qZ op.at_)))) ?_ ?_
    · rintro j y σ Y2 Y2' hj ⟨⟨v11, v12, v13, rfl⟩, s2, un⟩ ⟨T0, x0, y0, rfl, nT, rfl, e1, e2⟩
      cases e1
      obtain ⟨x, hx, rfl⟩ : ∃ x, L[j]? = some x ∧ y0 = .ref x.1 := by
        replace e2 : (L.map fun x => V.ref x.1)[j]? = some y0 := e2
        rw [List.getElem?_map] at e2
        cases h : L[j]? with
        | none => rw [h] at e2; cases e2
        | some x => rw [h] at e2; cases e2; exact ⟨x, rfl, rfl⟩
      have hxm := List.mem_of_getElem? hx
      have tup2 : ∀ {x : Addr × Addr × Rule}, x ∈ L → Y2 x.1 = some (.tup [.str x.2.2.1, .ref x.2.1]) := fun {x} hx => (hid_of (s2 _ _ (hid_get (tZ hx) (op.it x hx).1))).2
      have hq2 : Y2 q = some (.lst (L.map fun x => V.ref x.1)) := (hid_of (s2 _ _ (hid_get qZ op.at_))).2
      have sT := same_new (o := .tup [.int (j : Nat), .ref x.1]) nT
      have hl2 := sT _ _ (un j x (Nat.le_refl _) hx)
      refine ⟨T0, _, rfl, SqT.of upd_same, rfl, _, _, rfl, _, _, rfl, x.1, _, rfl, SqT.of (sT _ _ (tup2 hxm)), rfl, _, _, rfl, _, _, rfl, rfl, rfl, ?_⟩
      refine ⟨_, rfl, .inl ⟨rfl, _, SqL.of hl2⟩, x.2.1, _, _, rfl, rfl, hl2, Nat.lt_of_le_of_lt (show (x.2.2.2.map V.str).length ≤ 1000 by rw [List.length_map]; exact (op.ok x hxm).1) (by decide), ?_⟩
      have s3 : Same (hid Z Y) (hid Z (upd (upd Y2 T0 (.tup [.int (j : Nat), .ref x.1])) x.2.1 (.lst (x.2.2.2.map V.str ++ [.str "late"])))) := by
        rw [hid_in (inZ hxm)]
        exact s2.trans (hid_new nT)
      have un3 : ∀ (k : Nat) (x' : Addr × Addr × Rule), j + 1 ≤ k → L[k]? = some x' → upd (upd Y2 T0 (.tup [.int (j : Nat), .ref x.1])) x.2.1 (.lst (x.2.2.2.map V.str ++ [.str "late"])) x'.2.1 = some (.lst (x'.2.2.2.map .str)) := fun k x' hk hx' => by
        rw [upd_ne (nodup_ne op.nd hx' hx (by omega))]
        exact sT _ _ (un k x' (by omega) hx')
      generalize upd (upd Y2 T0 (.tup [.int (j : Nat), .ref x.1])) x.2.1 (.lst (x.2.2.2.map V.str ++ [.str "late"])) = Y3 at s3 un3 ⊢
      clear hl2 sT nT tup2 hq2 un s2
      have tup3 : ∀ {x : Addr × Addr × Rule}, x ∈ L → Y3 x.1 = some (.tup [.str x.2.2.1, .ref x.2.1]) := fun {x} hx => (hid_of (s3 _ _ (hid_get (tZ hx) (op.it x hx).1))).2
      have hq3 : Y3 q = some (.lst (L.map fun x => V.ref x.1)) := (hid_of (s3 _ _ (hid_get qZ op.at_))).2
      refine ⟨_, rfl, _, rfl, _, _, rfl, rfl, _, rfl, q, _, rfl, SqL.of hq3, fun z nz => ?_⟩
      have ec : cutV (L.map fun x => V.ref x.1) (some ((j : Nat) + 1 : Int)) none = (L.drop (j + 1)).map fun x => V.ref x.1 := by
        rw [show ((j : Nat) + 1 : Int) = ((j + 1 : Nat) : Int) from rfl, cut_drop, List.map_drop]
      rw [ec]
      have sz := same_new (o := .lst ((L.drop (j + 1)).map fun x => V.ref x.1)) nz
      have hz4 : upd Y3 z (.lst ((L.drop (j + 1)).map fun x => V.ref x.1)) z = some (.lst ((L.drop (j + 1)).map fun x => V.ref x.1)) := upd_same
      generalize upd Y3 z (.lst ((L.drop (j + 1)).map fun x => V.ref x.1)) = Y4 at sz hz4 ⊢
      refine ⟨z, rfl, ⟨_, SqL.of hz4⟩, fun D nD => ?_⟩
      have dl : (L.drop (j + 1)).length ≤ 1000 := by rw [List.length_drop]; have := op.len; omega
      refine lc_p walk_list nD (by rw [List.length_map]; omega) (fun _ _ y => y = .bl false) (fun _ _ _ _ _ _ h => h) (fun _ => true) (fun W s => SqL.of (s _ _ hz4)) ?_ ?_
      · rintro i2 y W0 W kk kk' hi2 sW ⟨rfl, hy⟩ k1 _
        obtain ⟨x', hx', rfl⟩ : ∃ x', L[j + 1 + i2]? = some x' ∧ y = .ref x'.1 := by
          rw [List.getElem?_map, List.getElem?_drop] at hy
          cases h : L[j + 1 + i2]? with
          | none => rw [h] at hy; cases hy
          | some x => rw [h] at hy; cases hy; exact ⟨x, rfl, rfl⟩
        have hxm' := List.mem_of_getElem? hx'
        have sW3 := sz.trans sW
        refine ⟨rfl, tYesI ?_⟩
        refine ⟨_, rfl, x'.1, _, 1, .ref x'.2.1, rfl, rfl, SqT.of (sW3 _ _ (tup3 hxm')), atI_nat (j := 1) rfl, 1, rfl, _, rfl, x'.2.1, _, rfl, SqL.of (sW3 _ _ (un3 _ _ (by omega) hx')), fun z5 n5 => ?_⟩
        obtain ⟨tt, ett, htt⟩ := cut_str x'.2.2.2 (some (-1)) none
        rw [ett]
        refine ⟨(by show 1 ≤ sizeLine; decide), fun z6 n6 => ?_⟩
        have s5 := same_new (o := .lst (tt.map V.str)) n5
        have s6 := same_new (o := .lst [.str "late"]) n6
        refine ⟨encS tt, encS ["late"], .lst (SqL.of (s6 _ _ upd_same)) (dp_strs _), .lst (SqL.of upd_same) (dp_strs ["late"]), shaped_strs (fun n hn => ((op.ok _ hxm').2 n (htt n hn)).2), by decide +kernel, ?_⟩
        rw [late_no fun n hn => ((op.ok _ hxm').2 n (htt n hn)).1]
        exact k1 rfl _ _ (s5.trans s6) rfl
      · intro W ys sW hD p
        have eys := Paired_map (f := fun _ => V.bl false) p
        obtain ⟨m0, em0⟩ : ∃ m0, ys = List.replicate m0 (V.bl false) := ⟨_, eys.trans List.map_const'⟩
        refine ⟨D, List.replicate m0 false, rfl, SqL.of (by rw [hD, em0, List.map_replicate]), ⟨_, rfl, iteF' (by simp) ⟨⟨_, _, _, rfl⟩, s3.trans (sHid (sz.trans sW)), fun k x' hk hx' => sW _ _ (sz _ _ (un3 k x' hk hx'))⟩⟩⟩
    · rintro σ Y2 ⟨⟨v11, v12, v13, rfl⟩, s2, _⟩
      have hq2 : Y2 q = some (.lst (L.map fun x => V.ref x.1)) := (hid_of (s2 _ _ (hid_get qZ op.at_))).2
      refine ⟨_, rfl, .inl ⟨rfl, _, SqL.of hq2⟩, q, _, _, rfl, rfl, hq2, Nat.lt_of_le_of_lt (show (L.map fun x => V.ref x.1).length ≤ 1000 by rw [List.length_map]; exact op.len) (by decide), ?_⟩
      have s3 : Same (hid (q :: lists L) Y) (hid (q :: lists L) (upd Y2 q (.lst ((L.map fun x => V.ref x.1) ++ [.str "late"])))) := by
        rw [hid_put]
        exact hid_more s2 fun b hb => List.mem_cons_of_mem _ (eZ ▸ hb)
      refine ⟨⟨_, _, _, _, rfl⟩, hid_base sY (fun z hz => ?_) s3, (hid_of (s3 _ _ (hid_get lZ hlY))).2, fun h => absurd h (Nat.succ_ne_zero _), nxt _ s3⟩
      rcases List.mem_cons.mp hz with e | hz
      · rw [e]; exact op.fq
      · exact op.fr z hz
  · rintro σ Y ⟨⟨v10, v11, v12, v13, rfl⟩, sY, _⟩
    clear dis lq op1 op2 hl12 s9_12 nl9 eqs qs
    have s3Y := s39.trans sY
    have s4Y := s49.trans sY
    clear s39 s49 sY
    refine ⟨_, rfl, _, rfl, p, a, R', N, r, rfl, hbk3.same s3Y, .inl (s3Y.seq ha3), hl1, hm', bc', fun q1 H5 L1 s5 t1 e1 => ?_⟩
    replace e1 := e1.trans stE
    refine ⟨_, rfl, _, rfl, p, a, R', N, r, rfl, hbk3.same (s3Y.trans s5), .inl ((s3Y.trans s5).seq ha3), hl1, hm', bc', fun q2 H6 L2 s6 t2 e2 => ?_⟩
    replace e2 := e2.trans (lessOf_eq stE N)
    refine ⟨(by show 2 ≤ sizeLine; decide), fun l7 n7 => ?_⟩
    have s7 := same_new (o := .lst [.ref q1, .ref q2]) n7
    refine ⟨_, rfl, _, rfl, (by show 2 ≤ sizeLine; decide), fun l8 n8 => ?_⟩
    have s8 := same_new (o := .lst [.ref du, .ref le]) n8
    have s47 : Same H4 (upd (upd H6 l7 (.lst [.ref q1, .ref q2])) l8 (.lst [.ref du, .ref le])) := s4Y.trans (((s5.trans s6).trans s7).trans s8)
    refine ⟨_, _, rfl, sm_pair (n := 4) (s8 _ _ upd_same) upd_same (sm_dp 4 _ _ _ (dep_St _) (by rw [e1]; exact lpD) (sDp ((s6.trans s7).trans s8) _ _ (told_dp t1)) (by rw [e1]; exact sDp s47 _ _ dd4))
      (sm_dp 4 _ _ _ (dep_St _) (by rw [e2]; exact lpE) (sDp (s7.trans s8) _ _ (told_dp t2)) (by rw [e2]; exact sDp s47 _ _ dl4)), fun H9 s9 => ⟨_, rfl, ?_⟩⟩
    have s49 := s47.trans s9
    have s39 := s4.trans s49
    clear s7 s8 n7 n8 s47 s9 s5 s6 t1 t2 e1 e2 s3Y s4Y
    refine iteF ?_
    -- behind, by each letter
    obtain ⟨b9, dxs, eb9, hb9, dal⟩ := dp_list (sDp s49 _ _ dd4)
    cases eb9
    have hxl : dxs.length = (stepsOf R r).length := dpAll_len dal
    let d0 : Rule := (Str.empty, [])
    refine ⟨_, rfl, du, rfl, ⟨_, hb9⟩, fun D nD => ?_⟩
    refine lc_p walk_list nD (by omega) (fun i _ y => y = .str ((stepsOf R r).getD i d0).1) (fun _ _ _ _ _ _ h => h) (fun _ => true) (fun W s => s.seq hb9) ?_ ?_
    · rintro i y W0 W kk kk' hi sW ⟨rfl, hy⟩ k1 _
      obtain ⟨y', hy1, dy⟩ := dpAll_at dal hy
      obtain ⟨c1, c2, rfl, hc1, hc2⟩ := dp_L (sDp sW _ _ dy)
      refine ⟨c1, _, rfl, hc1, rfl, _, _, rfl, _, _, rfl, rfl, rfl, tYesI ⟨_, rfl, k1 rfl _ _ (Same.refl _) ?_⟩⟩
      rw [show (stepsOf R r).getD i d0 = y' from getD_of hy1]
    · intro W ys sW hD p1
      have eys := Paired_map (f := fun i => V.str ((stepsOf R r).getD i d0).1) p1
      have ey2 : ys = ((stepsOf R r).map (·.1)).map V.str := by
        rw [eys, filter_range, hxl, range_getD (stepsOf R r) d0 fun x => V.str x.1, List.map_map]
        rfl
      refine ⟨[], D, ys, (stepsOf R r).map (·.1), rfl, SqL.of hD, by rw [ey2]; exact dp_strs _, by rw [List.length_map]; omega, fun z hz => ?_, fun p0 ys2 W2 s2 np2 hp2 dp2 => ?_⟩
      · obtain ⟨x, hx, rfl⟩ := List.mem_map.mp hz
        exact (stepsOf_row gx hm hx).2.2.2.2
      have ey3 := dp_strs_inv dp2
      refine ⟨(by show 4 ≤ sizeLine; decide), fun l4 n4 => ?_⟩
      have s5 := same_new (o := .lst [.str "never", .str "!never", .str "?a", .str "a"]) n4
      have onl : (once ((stepsOf R r).map (·.1))).length ≤ 8 := Nat.le_trans (once_len _) (by rw [List.length_map]; exact stepsOf_len gx r)
      refine ⟨p0, l4, _, _, rfl, rfl, SqL.of (s5 _ _ hp2), SqL.of upd_same, Nat.le_trans (show ys2.length + 4 ≤ 12 by rw [ey3, List.length_map]; omega) (by decide), fun cc ncc => ?_⟩
      have s6 := same_new (o := .lst (ys2 ++ [.str "never", .str "!never", .str "?a", .str "a"])) ncc
      obtain ⟨sg, esg⟩ : ∃ sg : List Str, sg = once ((stepsOf R r).map (·.1)) ++ (["never", "!never", "?a", "a"] : List Str) := ⟨_, rfl⟩
      have evs : ys2 ++ [V.str "never", V.str "!never", V.str "?a", V.str "a"] = sg.map V.str := by rw [esg, List.map_append, ey3]; rfl
      have hcc : upd (upd W2 l4 (.lst [.str "never", .str "!never", .str "?a", .str "a"])) cc (.lst (ys2 ++ [.str "never", .str "!never", .str "?a", .str "a"])) cc = some (.lst (sg.map V.str)) := by rw [← evs]; exact upd_same
      have s9B : Same H9 (upd (upd W2 l4 (.lst [.str "never", .str "!never", .str "?a", .str "a"])) cc (.lst (ys2 ++ [.str "never", .str "!never", .str "?a", .str "a"]))) := ((sW.trans s2).trans s5).trans s6
      have sgok : ∀ z ∈ sg, letterB z = true ∧ z.length ≤ 1000000 := fun z hz => by
        rw [esg] at hz
        rcases List.mem_append.mp hz with hz | hz
        · obtain ⟨x, hx, rfl⟩ := List.mem_map.mp (once_mem.mp hz)
          have := stepsOf_row gx hm hx
          exact ⟨this.2.2.1, by have := this.2.2.2.1; omega⟩
        · exact (show ∀ z ∈ (["never", "!never", "?a", "a"] : List Str), letterB z = true ∧ z.length ≤ 1000000 by decide +kernel) z hz
      generalize upd (upd W2 l4 (.lst [.str "never", .str "!never", .str "?a", .str "a"])) cc (.lst (ys2 ++ [.str "never", .str "!never", .str "?a", .str "a"])) = B at s9B hcc ⊢
      clear s5 s6 n4 ncc evs ey3 dp2 hp2 np2 s2 onl esg ey2 eys p1 hD sW
      have s3B := s39.trans s9B
      have hbB := s9B.seq hb9
      have dalB := sDpAll s9B _ _ dal
      refine ⟨cc, rfl, ⟨_, SqL.of hcc⟩, ?_⟩
      refine for_it walk_list (fun i σ W => (∃ v9 v10 v11 v12 v13 v14 v15, σ = [some (.ref S), some (.ref d), some (.ref p), some (.ref a), some (.ref e), some (.ref du), some (.ref hh), some (.ref le), some (.str was), v9, v10, v11, v12, v13, v14, v15, none]) ∧ Same B W)
        ⟨⟨_, _, _, _, _, _, _, rfl⟩, Same.refl _⟩ (fun i σ W _ ⟨_, s⟩ => SqL.of (s _ _ hcc)) ?_ ?_
      · rintro i y σ W0 W hi ⟨⟨v9, v10, v11, v12, v13, v14, v15, rfl⟩, sW⟩ ⟨rfl, hy⟩
        obtain ⟨z, hzm, rfl⟩ : ∃ z, z ∈ sg ∧ y = .str z := by
          obtain ⟨z, hz, e⟩ := List.mem_map.mp (List.mem_of_getElem? hy)
          exact ⟨z, hz, e.symm⟩
        obtain ⟨zl, zn⟩ := sgok z hzm
        refine gname_x ?_
        -- the rows of this letter
        refine ⟨_, rfl, du, rfl, ⟨_, sW.seq hbB⟩, fun D nD => ?_⟩
        refine lc_d (K := K) walk_list nD (by omega) (fun i => encS ((stepsOf R r).getD i d0).2) (fun i => decide (((stepsOf R r).getD i d0).1 = z)) (fun G s => s.seq (sW.seq hbB)) ?_ ?_
        · rintro i y G0 G ys kk kk' hi sG hD ⟨rfl, hy⟩ k1 k2
          obtain ⟨y', hy1, dy⟩ := dpAll_at dalB hy
          obtain ⟨c1, c2, rfl, hc1, hc2⟩ := dp_L (sDp (sW.trans (same_hidD nD sG)) _ _ dy)
          rw [show (stepsOf R r).getD i d0 = y' from getD_of hy1] at k1 k2
          refine ⟨c1, _, rfl, sSeqT hid_same hc1, rfl, _, _, rfl, _, _, rfl, rfl, rfl, _, rfl, _, rfl, rfl, _, rfl, ?_⟩
          by_cases hc : y'.1 = z
          · exact iteT' (decide_eq_true (by rw [hc])) ⟨_, rfl, k1 (decide_eq_true hc) _ _ (Same.refl _) (.lst hc2 (dp_strs _))⟩
          · exact iteF' (decide_eq_false fun e => hc (V.str.inj e)) (k2 (decide_eq_false hc) _ (Same.refl _))
        · intro G ys sG hD dp
          rw [hxl, range_filter (stepsOf R r) d0 (fun x => decide (x.1 = z)) fun x => encS x.2] at dp
          have dp' : DpAll K (hid [D] G) ys ((rowsBy R r z).map encS) := by
            unfold rowsBy
            rw [List.map_map]
            exact dp
          refine sorted_rows [D] (SqL.of hD) dp' (by have := rowsBy_len gx r z; omega) fun rw zs nrw dzs => ?_
          have srw := same_new (o := .lst zs) nrw
          have drw : Dp K (upd G rw (.lst zs)) (.ref rw) (encRw (rowsBy R r z)) := .lst (SqL.of upd_same) (sDpAll (hid_same.trans srw) _ _ dzs)
          have sB1 : Same B (upd G rw (.lst zs)) := (sW.trans sG).trans srw
          generalize upd G rw (.lst zs) = G1 at drw sB1 ⊢
          clear srw dzs nrw dp' dp hD sG nD
          have s31 := s3B.trans sB1
          dsimp only
          refine gname_x ?_
          refine ⟨_, rfl, _, rfl, _, rfl, p, hh, R', N, r, z, rfl, hbk3.same s31, hh3.same s31, hl1, hm', bc', zl, zn, fun q G2 L sG2 tL eL => ?_⟩
          replace eL := eL.trans (rowsBy_eq stE z)
          refine ⟨_, rfl, _, rfl, _, rfl, _, rfl, p, a, R', N, r, z, rfl, hbk3.same (s31.trans sG2), .inl ((s31.trans sG2).seq ha3), hl1, hm', bc', zl, zn, fun q2 G3 L2 sG3 tL2 eL2 => ?_⟩
          replace eL2 := eL2.trans (rowsBy_eq stE z)
          refine ⟨(by show 2 ≤ sizeLine; decide), fun l7 n7 => ?_⟩
          have s7 := same_new (o := .lst [.ref q, .ref q2]) n7
          refine ⟨_, rfl, _, rfl, (by show 2 ≤ sizeLine; decide), fun l8 n8 => ?_⟩
          have s8 := same_new (o := .lst [.ref rw, .ref rw]) n8
          have sG4 : Same G2 (upd (upd G3 l7 (.lst [.ref q, .ref q2])) l8 (.lst [.ref rw, .ref rw])) := (sG3.trans s7).trans s8
          have drw4 := sDp (sG2.trans sG4) _ _ drw
          have rwl : (rowsBy R r z).length ≤ 1000 := by have := rowsBy_len gx r z; omega
          have lpW : lpB (encRw (rowsBy R r z)) = true := lp_Rw rwl fun x hx => by
            obtain ⟨y, hy, e⟩ := rowsBy_mem hx
            rw [← e]; exact rowL y hy
          refine ⟨_, _, rfl, sm_pair (n := 4) (s8 _ _ upd_same) upd_same (sm_dp 4 _ _ _ (dep_Rw _) (by rw [eL]; exact lpW) (sDp sG4 _ _ (toldR_dp tL)) (by rw [eL]; exact drw4))
            (sm_dp 4 _ _ _ (dep_Rw _) (by rw [eL2]; exact lpW) (sDp (s7.trans s8) _ _ (toldR_dp tL2)) (by rw [eL2]; exact drw4)), fun G9 s9 => ⟨_, rfl, iteF ?_⟩⟩
          have sG9 := sG4.trans s9
          clear s7 s8 n7 n8 drw4 sG4 sG3 tL2 eL2 s9
          -- what is told is one's own
          have hq9 := sG9 _ _ tL.at_
          have it9 : ∀ x ∈ L, G9 x.1 = some (.lst (x.2.map .str)) ∧ G1 x.1 = none := fun x hx => ⟨sG9 _ _ (tL.it x hx).1, (tL.it x hx).2⟩
          have Lb : ∀ x ∈ L, x.2.length ≤ 1000 := fun x hx => by
            have : x.2 ∈ rowsBy R r z := eL ▸ List.mem_map.mpr ⟨x, hx, rfl⟩
            obtain ⟨y, hy, e⟩ := rowsBy_mem this
            rw [← e]; exact rowL y hy
          have Ll : L.length ≤ 1000 := by have := congrArg List.length eL; rw [List.length_map] at this; omega
          obtain ⟨Z, eZ⟩ : ∃ Z : List Addr, Z = L.map (·.1) := ⟨_, rfl⟩
          have inZ : ∀ {x : Addr × List Str}, x ∈ L → x.1 ∈ Z := fun {x} hx => by rw [eZ]; exact List.mem_map.mpr ⟨x, hx, rfl⟩
          have qZ : q ∉ Z := fun h => by
            rw [eZ] at h
            obtain ⟨x, hx, e⟩ := List.mem_map.mp h
            exact tL.nq x hx e
          refine ⟨_, rfl, q, rfl, ⟨_, SqL.of hq9⟩, ?_⟩
          refine for_it walk_list (fun j σ W => (∃ v10 v11 v12 v13, σ = [some (.ref S), some (.ref d), some (.ref p), some (.ref a), some (.ref e), some (.ref du), some (.ref hh), some (.ref le), some (.str was), some (.ref q), v10, v11, v12, v13, some (.str z), some (.ref rw), none]) ∧
              Same (hid Z G9) (hid Z W) ∧ ∀ (k : Nat) (x : Addr × List Str), j ≤ k → L[k]? = some x → W x.1 = some (.lst (x.2.map .str)))
            ⟨⟨_, _, _, _, rfl⟩, Same.refl _, fun k x _ hx => (it9 x (List.mem_of_getElem? hx)).1⟩ (fun j σ W _ ⟨_, s, _⟩ => SqL.of (hid_same _ _ (s _ _ (hid_get qZ hq9)))) ?_ ?_
          · rintro j y σ W0 W2 hj ⟨⟨v10, v11, v12, v13, rfl⟩, s2, un⟩ ⟨rfl, hy⟩
            obtain ⟨x, hx, rfl⟩ : ∃ x, L[j]? = some x ∧ y = .ref x.1 := by
              rw [List.getElem?_map] at hy
              cases h : L[j]? with
              | none => rw [h] at hy; cases hy
              | some x => rw [h] at hy; cases hy; exact ⟨x, rfl, rfl⟩
            have hxm := List.mem_of_getElem? hx
            have hl2 := un j x (Nat.le_refl _) hx
            refine gname_x ?_
            refine ⟨_, rfl, .inl ⟨rfl, _, SqL.of hl2⟩, x.1, _, _, rfl, rfl, hl2, Nat.lt_of_le_of_lt (show (x.2.map V.str).length ≤ 1000 by rw [List.length_map]; exact Lb x hxm) (by decide), ?_⟩
            refine ⟨⟨_, _, _, _, rfl⟩, by rw [hid_in (inZ hxm)]; exact s2, fun k x' hk hx' => ?_⟩
            rw [upd_ne]
            · exact un k x' (by omega) hx'
            · intro e
              have h1 : (L.map (·.1))[k]? = some x'.1 := by rw [List.getElem?_map, hx']; rfl
              have h2 : (L.map (·.1))[j]? = some x'.1 := by rw [List.getElem?_map, hx, e]; rfl
              have := (List.getElem?_inj (List.getElem?_eq_some_iff.mp h1).1 tL.nd).mp (h1.trans h2.symm)
              omega
          · rintro σ W2 ⟨⟨v10, v11, v12, v13, rfl⟩, s2, _⟩
            have hq2 : W2 q = some (.lst (L.map fun x => V.ref x.1)) := hid_same _ _ (s2 _ _ (hid_get qZ hq9))
            refine ⟨_, rfl, .inl ⟨rfl, _, SqL.of hq2⟩, q, _, _, rfl, rfl, hq2, Nat.lt_of_le_of_lt (show (L.map fun x => V.ref x.1).length ≤ 1000 by rw [List.length_map]; exact Ll) (by decide), ?_⟩
            have s3 : Same (hid (q :: Z) G9) (hid (q :: Z) (upd W2 q (.lst ((L.map fun x => V.ref x.1) ++ [.str "late"])))) := by
              rw [hid_put]
              exact hid_more s2 fun b hb => List.mem_cons_of_mem _ hb
            have s13 : Same G1 (upd W2 q (.lst ((L.map fun x => V.ref x.1) ++ [.str "late"]))) := hid_base (sG2.trans sG9) (fun y hy => by
              rcases List.mem_cons.mp hy with e | hy
              · rw [e]; exact tL.fq
              · rw [eZ] at hy
                obtain ⟨x, hx, e⟩ := List.mem_map.mp hy
                rw [← e]; exact (it9 x hx).2) s3
            generalize upd W2 q (.lst ((L.map fun x => V.ref x.1) ++ [.str "late"])) = W3 at s13
            have s33 := s31.trans s13
            refine ⟨_, rfl, _, rfl, _, rfl, p, a, R', N, r, z, rfl, hbk3.same s33, .inl (s33.seq ha3), hl1, hm', bc', zl, zn, fun q4 W4 L4 sW4 tL4 eL4 => ?_⟩
            replace eL4 := eL4.trans (rowsBy_eq stE z)
            refine ⟨_, rfl, _, _, rfl, sm_mono (by decide) (sm_dp 4 _ _ _ (dep_Rw _) (by rw [eL4]; exact lpW) (toldR_dp tL4) (by rw [eL4]; exact sDp (s13.trans sW4) _ _ drw)), fun W5 s5 => ⟨_, rfl, iteF ?_⟩⟩
            exact ⟨⟨_, _, _, _, _, _, _, rfl⟩, ((sB1.trans s13).trans sW4).trans s5⟩
      · rintro σ W ⟨⟨v9, v10, v11, v12, v13, v14, v15, rfl⟩, sW⟩
        exact fin (s3B.trans sW)
end
end K8
set_option maxRecDepth 100000
set_option maxHeartbeats 8000000
namespace K8
open PySem PySem.Spec PyProof.Rows L2
def spLaw (K : PySem.W.Frag) (P : Addr) : Sp := fun vs H Q _ => ∃ (a : Addr) (ns : List Int), vs = [.ref a] ∧ SqL K H a (ns.map .int) ∧ ns.length ≤ 1000 ∧ TbP P H ∧ ∀ H', Q (.bl true) H'
theorem tb_hid {P : Addr} {M : List Addr} {H H' : Hp} (t : TbP P H) (hM : ∀ m ∈ M, ∃ xs, H m = some (.lst xs)) (s : Same (hid M H) (hid M H')) : TbP P H' := fun q hq => by
  obtain ⟨ps, g1, g2, g3⟩ := t q hq
  have out : ∀ {b : Addr} {o : HO}, H b = some o → (∀ xs, o ≠ .lst xs) → H' b = some o := fun {b o} h n => (hid_of (s b o (hid_get (fun z => by
    obtain ⟨xs, e⟩ := hM b z
    rw [e] at h
    exact n xs (Option.some.inj h).symm) h))).2
  refine ⟨ps, out g1 (fun _ z => by cases z), g2, fun pos cv hc => ?_⟩
  obtain ⟨c, e, g4⟩ := g3 pos cv hc
  exact ⟨c, e, out g4 fun _ z => by unfold LamX.CodeO at z; cases z⟩
theorem stm_hid {S S0 : Addr} {c : Nat} {H : Hp} (st : Stm S S0 c H) : ∀ m ∈ [S, S0], ∃ xs, H m = some (.lst xs) := fun m hm => by
  obtain ⟨_, ns, l, n, k, h1, h2, _⟩ := st
  rcases List.mem_cons.mp hm with e | hm
  · exact ⟨_, by rw [e]; exact h1⟩
  · exact ⟨_, by rw [List.mem_singleton.mp hm]; exact h2⟩
theorem stm_ex {S S0 : Addr} {c : Nat} {H H' : Hp} (st : Stm S S0 c H) (e : Ex H H') : Stm S S0 c H' := by
  obtain ⟨ne, ns, l, n, m, h1, h2, h3⟩ := st
  exact ⟨ne, ns, l, n, m, e _ _ h1 (fun _ z => by cases z), e _ _ h2 (fun _ z => by cases z), h3⟩
theorem ite_two {b : Bool} {A B : Prop} (h1 : A) (h2 : B) : if b = true then A else B := by
  cases b
  · exact iteF h2
  · exact iteT h1
/-- a row of talks at y -/
def RowAt (nms : List Str) (H : Hp) (y : V) : Prop := ∃ (a : Addr) (r : List Str), y = .ref a ∧ H a = some (.lst (r.map .str)) ∧ r.length ≤ 300 ∧ ∀ n ∈ r, n ∈ nms
theorem RowAt.same {nms : List Str} {H H' : Hp} {y : V} (h : RowAt nms H y) (s : Same H H') : RowAt nms H' y := by
  obtain ⟨a, r, e, h1, h2⟩ := h
  exact ⟨a, r, e, s _ _ h1, h2⟩
section
variable {P : Program} {w : World} {K : PySem.W.Frag} {mg : Str → Option Value} {base : Heap}
theorem sc_law : FnScope ["_law_script", "_law_stream", "_law_turn", "_law_rules", "_law_made", "_law_rows", "_law_row", "_law_empty", "_law_k", "_law_name"] ["_law_script"] (defScope s_law) := ⟨rfl, rfl, rfl, by decide +kernel, rfl, by decide +kernel, by decide +kernel⟩
theorem ok_law (T : TxR K mg) (TB : LamX.TabB base mg T.cR T.pR) : FnOk P w K mg base CX0 13 T.law.f T.law.fd ["_law_script"] (spLaw K T.pR) := by
  have G_start : FnOk P w K mg base CX0 12 T.start.f T.start.fd _ (spStart K) := (ok_start T.toTxt).mono (by decide)
  have G_d_book : FnOk P w K mg base CX0 12 T.d_book.f T.d_book.fd _ (spBookD K) := (ok_d_book T.toTxt).mono (by decide)
  have G_d_planted : FnOk P w K mg base CX0 12 T.d_planted.f T.d_planted.fd _ (spPlanted K) := (ok_d_planted T.toTxt).mono (by decide)
  have G_b_signed : FnOk P w K mg base CX0 12 T.b_signed.f T.b_signed.fd _ (spBSigned K) := (ok_b_signed T.toTxt).mono (by decide)
  have G_d_made : FnOk P w K mg base CX0 12 T.d_made.f T.d_made.fd _ (spMade K T.C) := (ok_d_made T.toTxB).mono (by decide)
  have G_d_row : FnOk P w K mg base CX0 12 T.d_row.f T.d_row.fd _ (spDRow K) := (ok_d_row T.toTxt).mono (by decide)
  have G_row_right : FnOk P w K mg base CX0 12 T.row_right.f T.row_right.fd _ (spRowRight K T.C) := (ok_row_right T.toTxB).mono (by decide)
  have G_refused_right : FnOk P w K mg base CX0 12 T.refused_right.f T.refused_right.fd _ (spRefused K T.C T.pR) := ok_refused T TB
  have G_init : FnOk P w K mg base CX0 6 T.fI T.fdI _ (spInit K T.C) := ok_init T.toTxB
  have G_same : FnOk P w K mg base CX0 12 T.same.f T.same.fd _ (spSame K 11) := ok_same T.toTxt 11
  have G_steps_of : FnOk P w K mg base CX0 12 T.steps_of.f T.steps_of.fd _ (spStepsOf K T.C) := (ok_steps_of T.toTxB).mono (by decide)
  have G_lessening : FnOk P w K mg base CX0 12 T.lessening.f T.lessening.fd _ (spLess K T.C) := (ok_lessening T.toTxB).mono (by decide)
  have G_behind : FnOk P w K mg base CX0 12 T.behind.f T.behind.fd _ (spBehind K T.C) := (ok_behind T.toTxB).mono (by decide)
  refine T.law.F.ok sc_law (fun vs H Q E h => ?_) (fun cdv A outer s H vs Q E hr h => ?_)
  · obtain ⟨a, ns, rfl, _⟩ := h
    rfl
  obtain ⟨a, ns, rfl, ha, hl, tb, q⟩ := h
  have nd := sc_law.nd
  have hr7 : Room 7 (A.deeper (envOfC "law" (defScope s_law) s.heap.objs.size T.law.f cdv)) := hr.mono (by decide)
  refine ⟨_, (pss_cons (ps_set (i := 1) nd rfl (Or.inr rfl) (eC T.start G_start hr (pa_cons (pv 0) pa_nil)))
    (pss_cons (ps_for PassesOwn.never rfl (pi_range1 rfl T.z_range (pa_cons pe_int pa_nil)) (pg_name (i := 2) nd rfl (Or.inl rfl))
      (pss_cons (ps_set (i := 3) nd rfl (Or.inr rfl) (pe_ifExp (pt_cmpR op_eq (pe_op op_modN (pv 2) pe_int) pe_int (nomark _)) (eC T.d_book G_d_book hr (pa_cons (pv 1) (pa_cons pe_int pa_nil))) (eC T.b_signed G_b_signed hr (pa_cons (pv 1) (pa_cons (pe_ix (ixT K) (eC T.d_planted G_d_planted hr (pa_cons (pv 1) (pa_cons pe_int pa_nil))) pe_int (fun _ _ => rfl)) pa_nil)))))
      (pss_cons (ps_set (i := 4) nd rfl (Or.inl rfl) (eC T.d_made G_d_made hr (pa_cons (pv 1) (pa_cons (pv 3) pa_nil))))
      (pss_cons (ps_set (i := 5) nd rfl (Or.inl rfl) (pe_op (oCatL K) (pe_lst (pa_cons (pe_lst pa_nil) pa_nil)) (pe_lc (own := [("_law_k", 8)]) (g := gName 8) (tt := tYes) rfl nd (pi_range1 rfl T.z_range (pa_cons pe_int pa_nil)) (blkOk_by (N := ["_law_script", "_law_stream", "_law_turn", "_law_rules", "_law_made", "_law_rows", "_law_row", "_law_empty", "_law_k", "_law_name"]) (sc := defScope s_law) (by decide +kernel)) (fun _ _ _ _ _ => (pg_name (i := 8) nd rfl (Or.inl rfl))) (fun _ _ _ _ _ => pts_nil) (fun _ _ _ _ _ => (eC T.d_row G_d_row hr (pa_cons (pv 1) (pa_cons (pv 3) (pa_cons pe_int pa_nil))))))))
      (pss_cons (ps_expr (eExtend K (pv 5) (pe_op (oCatL K) (pe_lock (pe_lc (own := [("_law_name", 9)]) (g := gName 9) (tt := tYes) rfl nd (pi_keys (pv 3)) (blkOk_by (N := ["_law_script", "_law_stream", "_law_turn", "_law_rules", "_law_made", "_law_rows", "_law_row", "_law_empty", "_law_k", "_law_name"]) (sc := defScope s_law) (by decide +kernel)) (fun _ _ _ _ _ => (pg_name (i := 9) nd rfl (Or.inl rfl))) (fun _ _ _ _ _ => pts_nil) (fun _ _ _ _ _ => (pe_lst (pa_cons (pv 9) pa_nil))))) (pe_lst (pa_cons (eC T.d_row G_d_row hr (pa_cons (pv 1) (pa_cons (pv 3) (pa_cons pe_int pa_nil)))) pa_nil)))))
      (pss_cons (ps_for PassesOwn.never rfl (iL K (pe_op (oCatL K) (pv 5) (pe_slice (slL K) (pv 5) (po_some pe_int) (po_some pe_int)))) (pg_name (i := 6) nd rfl (Or.inl rfl))
        (pss_one (ps_if (pt_not (pt_val (eC T.row_right G_row_right hr (pa_cons (pv 1) (pa_cons (pv 3) (pa_cons (pv 4) (pa_cons (pv 6) pa_nil)))))))
          (pss_one (ps_ret pe_bl)) pss_nil)))
      (pss_one (ps_if (PW.pt (pw_and (pt_cmpR op_lt (pv 2) pe_int (nomark _)) (pw_and1 (pt_not (pt_val (eC T.refused_right G_refused_right hr (pa_cons (pv 1) (pa_cons (pv 3) (pa_cons (pv 4) pa_nil)))))))))
        (pss_one (ps_ret pe_bl)) pss_nil))))))))
    (pss_cons (ps_set (i := 7) nd rfl (Or.inl rfl) (eMake T.toTxB G_init hr7 (pa_cons (pe_lst pa_nil) pa_nil)))
    (pss_one (ps_ret (eC T.same G_same hr (pa_cons (pe_lst (pa_cons (eC T.steps_of G_steps_of hr (pa_cons (pv 7) (pa_cons (pe_lst pa_nil) pa_nil))) (pa_cons (eC T.behind G_behind hr (pa_cons (pv 7) (pa_cons (pe_lst pa_nil) (pa_cons pe_str pa_nil)))) (pa_cons (eC T.lessening G_lessening hr (pa_cons (pv 7) (pa_cons (pe_tup pa_nil) pa_nil))) pa_nil)))) (pa_cons (pe_lst (pa_cons (pe_lst pa_nil) (pa_cons (pe_lst pa_nil) (pa_cons (pe_lst pa_nil) pa_nil)))) pa_nil)))))))), ?_⟩
  refine ⟨_, rfl, a, ns, rfl, ha, hl, fun S S0 H1 s1 st1 nS nS0 => ?_⟩
  have tb1 : TbP T.pR H1 := tb.ext s1
  refine ⟨_, rfl, by decide, by decide, ?_⟩
  refine for_it walk_range (fun i σ Y => (∃ v2 v3 v4 v5 v6, σ = [some (.ref a), some (.ref S), v2, v3, v4, v5, v6, none, none, none]) ∧ Stm S S0 (20000 * i) Y ∧ TbP T.pR Y)
    ⟨⟨_, _, _, _, _, rfl⟩, st1, tb1⟩ (fun _ _ _ _ _ => trivial) ?_ ?_
  · rintro i x σ Y0 Y hi ⟨⟨v2, v3, v4, v5, v6, rfl⟩, st, tbY⟩ ⟨rfl, rfl⟩
    have hLIM : LIM = 1099511627776 := rfl
    refine gname_x ?_
    have frS : ∀ {c : Nat} {H1 H2 : Hp}, Stm S S0 c H1 → TbP T.pR H1 → Same (hid [S, S0] H1) (hid [S, S0] H2) → TbP T.pR H2 := fun st tb s => tb_hid tb (stm_hid st) s
    -- the rules
    refine seq_tif ?_
    refine tif_x (fun v H' => ∃ (d : Addr) (kvs : List (Key × V)) (R : Bk), v = .ref d ∧ H' d = some (.dK kvs) ∧ KvD K (hid [S, S0] H') encRs R kvs ∧ GX R ∧ Stm S S0 (20000 * i + 5500) H' ∧ TbP T.pR H') ?_ ?_
    · rintro v H1 ⟨d, kvs, R, rfl, hd, kd, gx, st1, tb1⟩
      refine gname_x ?_
      obtain ⟨N, isn⟩ := gx.toGB.isN
      refine ⟨_, rfl, _, rfl, S, S0, d, _, kvs, R, N, rfl, st1, by omega, hd, kd, gx, isn, fun p R' H2 hbk beq st2 s12 => ?_⟩
      have tb2 := frS st1 tb1 s12
      have hd2 : hid [S, S0] H2 d = some (.dK kvs) := s12 _ _ (hid_get (stm_lst st1 hd fun _ z => by cases z) hd)
      have kd2 := kd.same s12
      clear s12 kd hd st1 tb1
      dsimp only
      refine gname_x ?_
      obtain ⟨c2, ec2⟩ : ∃ c2, c2 = 20000 * i + 5500 + 2000 := ⟨_, rfl⟩
      rw [← ec2] at st2
      obtain ⟨nms, enms⟩ : ∃ nms, nms = R.map (·.1) := ⟨_, rfl⟩
      have ek : kvs.map (·.1) = nms.map Sum.inr := by rw [enms]; exact kvd_keys kd2
      have nml : nms.length ≤ 12 := by rw [enms, List.length_map]; exact gx.few
      have nmne : nms ≠ [] := by rw [enms]; exact fun e => gx.some (List.map_eq_nil_iff.mp e)
      have nso : ∀ n ∈ nms, sOk n := fun n hn => (gx.names (enms ▸ hn)).2.2
      have klen : kvs.length = R.length := kd2.len
      have dZ : d ∉ [S, S0] := (hid_of hd2).1
      have rowS : ∀ {c m : Nat} {Y : Hp} {Q : VK}, Stm S S0 c Y → c + m + 1 ≤ LIM → m ≤ 300 → TbP T.pR Y → Y d = some (.dK kvs) → (∀ (p0 : Addr) (Y' : Hp), RowAt nms (hid [S, S0] Y') (.ref p0) → Y p0 = none → Stm S S0 (c + m + 1) Y' → Same (hid [S, S0] Y) (hid [S, S0] Y') → TbP T.pR Y' → Q (.ref p0) Y') → spDRow K [.ref S, .ref d, .int m] Y Q E0 :=
        fun {c m Y Q} st hc hm tb hd h => ⟨S, S0, d, c, m, kvs, nms, rfl, st, hc, by omega, hd, ek, nmne, by omega, nso, fun p0 ns Y' l1 l2 n0 h0 st' s' => h p0 Y' ⟨p0, ns, rfl, hid_get (by have := st.S_ne n0; simp; exact this) h0, by omega, l2⟩ n0 st' s' (frS st tb s')⟩
      -- the first rows
      refine ⟨(by show 0 ≤ sizeLine; decide), fun e0 ne0 => ⟨(by show 1 ≤ sizeLine; decide), fun e1 ne1 => ?_⟩⟩
      have s3 := same_new (o := .lst []) ne0
      have s4 := same_new (o := .lst [.ref e0]) ne1
      have st3 := st2.same (s3.trans s4)
      have tb3 := tb2.ext (s3.trans s4)
      have r3 : RowAt nms (hid [S, S0] (upd (upd H2 e0 (.lst [])) e1 (.lst [.ref e0]))) (.ref e0) := ⟨e0, [], rfl, hid_get (by have := st2.S_ne ne0; simp; exact this) (s4 _ _ upd_same), by show 0 ≤ 300; decide, fun n hn => nomatch hn⟩
      have h13 : upd (upd H2 e0 (.lst [])) e1 (.lst [.ref e0]) e1 = some (.lst [.ref e0]) := upd_same
      have e1Z : e1 ∉ [S, S0] := by have := (st2.same s3).S_ne ne1; simp; exact this
      have s23 : Same (hid [S, S0] H2) (hid [S, S0] (upd (upd H2 e0 (.lst [])) e1 (.lst [.ref e0]))) := sHid (s3.trans s4)
      generalize upd (upd H2 e0 (.lst [])) e1 (.lst [.ref e0]) = H3 at st3 tb3 r3 h13 s23 ⊢
      clear s3 s4 ne0 ne1 st2 tb2
      have hd3 := s23 _ _ hd2
      have kd3 := kd2.same s23
      have hbk3 := hbk.same s23
      clear hd2 kd2 hbk s23
      refine ⟨_, rfl, by decide, by decide, fun D nD => ?_⟩
      have sD := st3.S_ne nD
      have DZ : D ∉ [S, S0] := by simp; exact sD
      refine lc_g walk_range [S, S0] nD (by decide) (fun k Y => Stm S S0 (c2 + 6 * k) Y ∧ TbP T.pR Y) ⟨st3.new nD, tb3.ext (same_new nD)⟩ (fun k Y o ys hD h => ⟨h.1.put sD.1 sD.2, tb_put h.2 hD⟩) (fun _ Y y => RowAt nms (hid (D :: [S, S0]) Y) y) (fun _ _ _ _ _ s h => h.same s) (fun _ => true) (fun _ _ _ _ _ => trivial) ?_ ?_
      · rintro k x Y0 Y ys k1 k2 hk ⟨st4, tb4⟩ sm4 hD4 ⟨rfl, rfl⟩ k1' _
        refine ⟨rfl, tYesI ⟨_, rfl, _, rfl, ?_⟩⟩
        dsimp only [tNil]
        refine rowS (m := 5) st4 (by omega) (by decide) tb4 (hid_of (sm4 _ _ hd3)).2 fun p0 Y' rp np st5 s5 tb5 => ?_
        have hD5 : Y' D = some (.lst ys) := (hid_of (s5 D _ (hid_get DZ hD4))).2
        refine k1' rfl _ _ (hid_more s5 fun b hb => List.mem_cons_of_mem _ hb) hD5 ⟨st5.mono (by omega), tb5⟩ ?_
        obtain ⟨pp, r, e, h1, h2⟩ := rp
        cases e
        exact ⟨p0, r, rfl, hid_get (fun z => by
          rcases List.mem_cons.mp z with e | z
          · rw [e, hD4] at np; cases np
          · exact (hid_of h1).1 z) (hid_of h1).2, h2⟩
      · intro Y ys ⟨st4, tb4⟩ sm4 hD4 pr
        have ln := paired_len pr
        rw [filter_range, List.length_range] at ln
        have s34 : Same (hid [S, S0] H3) (hid [S, S0] Y) := fun b o z => hid_tail _ _ (sm4 _ _ z)
        have h14 : Y e1 = some (.lst [.ref e0]) := (hid_of (s34 _ _ (hid_get e1Z h13))).2
        have all4 : ∀ y ∈ ys, RowAt nms (hid [S, S0] Y) y := fun y hy => (paired_all (S := fun y => RowAt nms (hid (D :: [S, S0]) Y) y) (fun _ _ h => h) pr y hy).same hid_tail
        refine ⟨e1, D, [.ref e0], ys, rfl, rfl, SqL.of h14, SqL.of hD4, Nat.le_trans (show 1 + ys.length ≤ 4 by omega) (by decide), fun L nL => ?_⟩
        have s5 := same_new (o := .lst ([V.ref e0] ++ ys)) nL
        have hL : upd Y L (.lst ([V.ref e0] ++ ys)) L = some (.lst (.ref e0 :: ys)) := upd_same
        have st5 := st4.same s5
        have tb5 := tb4.ext s5
        have s35 : Same (hid [S, S0] H3) (hid (L :: [S, S0]) (upd Y L (.lst ([V.ref e0] ++ ys)))) := s34.trans (hid_push nL)
        have all5 : ∀ y ∈ V.ref e0 :: ys, RowAt nms (hid (L :: [S, S0]) (upd Y L (.lst ([V.ref e0] ++ ys)))) y := fun y hy => by
          rcases List.mem_cons.mp hy with e | hy
          · rw [e]; exact r3.same s35
          · exact (all4 y hy).same (hid_push nL)
        have LZ : L ∉ [S, S0] := by have := st4.S_ne nL; simp; exact this
        have ysl : ys.length ≤ 3 := by omega
        generalize upd Y L (.lst ([V.ref e0] ++ ys)) = B2 at hL st5 tb5 s35 all5 ⊢
        have hd5 := s35 _ _ hd3
        have kd5 := kd3.same s35
        have hbk5 := hbk3.same s35
        clear s35 s5 all4 h14 s34 ln pr hD4 sm4 tb4 st4 sD DZ nD hd3 kd3 hbk3 r3 st3 tb3 h13 e1Z nL
        dsimp only
        refine gname_x ?_
        -- more rows
        have hdB := (hid_of hd5).2
        refine ⟨_, rfl, .inl ⟨rfl, _, SqL.of hL⟩, d, _, hdB, trivial, fun od => ?_⟩
        have hWL : upd B2 d (.frz od (.dK kvs)) d = some (.frz od (.dK kvs)) := upd_same
        refine ⟨_, rfl, d, od, rfl, .inl ⟨kvs, hWL, fun D2 nD2 => ?_⟩⟩
        have Ld : L ≠ d := fun e => by rw [e, hdB] at hL; cases hL
        have hLL : upd B2 d (.frz od (.dK kvs)) L = some (.lst (.ref e0 :: ys)) := by rw [upd_ne Ld]; exact hL
        obtain ⟨YL, eL⟩ : ∃ YL, YL = upd B2 d (.frz od (.dK kvs)) := ⟨_, rfl⟩
        rw [← eL] at hWL hLL nD2 ⊢
        have Rle := gx.few
        have stL : Stm S S0 (c2 + 6 * 3) YL := by
          rw [eL]
          simp at dZ
          exact st5.put dZ.1 dZ.2
        have D2Z : D2 ∉ L :: [S, S0] := fun z => by
          rcases List.mem_cons.mp z with e | z
          · rw [e, hLL] at nD2; cases nD2
          · have := stL.S_ne nD2; simp at z; exact z.elim this.1 this.2
        refine lc_pd walk_keys nD2 (by omega) (fun _ Y y => RowAt nms (hid (L :: [S, S0]) Y) y) (fun _ _ _ _ _ s h => h.same (sHid s)) (fun _ => true) (fun Y sY => sY _ _ hWL) ?_ ?_
        · rintro j x W0 W wys k1 k2 hj sW hDW ⟨rfl, ky, vv, hkv, rfl⟩ k1' _
          obtain ⟨t, ht, ekk, dt⟩ := kd5.get hkv
          subst ekk
          refine ⟨rfl, tYesI ⟨_, rfl, (by show 1 ≤ sizeLine; decide), fun u nu => ?_⟩⟩
          have su := same_new (o := .lst [kV (Sum.inr t.1)]) nu
          have uD : u ≠ D2 := (ne_of_none hDW nu).symm
          have uZ : u ∉ L :: [S, S0] := fun z => by
            rcases List.mem_cons.mp z with e | z
            · rw [e, sW _ _ hLL] at nu; cases nu
            · have := (stL.same sW).S_ne nu; simp at z; exact z.elim this.1 this.2
          exact k1' rfl _ _ su ⟨u, [t.1], rfl, hid_get uZ (hid_get (by simpa using uD) upd_same), by show 1 ≤ 300; decide, fun n hn => by rw [List.mem_singleton.mp hn, enms]; exact List.mem_map.mpr ⟨t, List.mem_of_getElem? ht, rfl⟩⟩
        · intro Y6 ys6 s6 hD6 pr
          have ln := paired_len pr
          rw [filter_range, List.length_range] at ln
          have D2d : D2 ≠ d := (ne_of_none hWL nD2).symm
          have unl : Same B2 (upd Y6 d (.dK kvs)) := unlock0 (o := od) hdB (by rw [← eL]; exact s6)
          have hD7 : upd Y6 d (.dK kvs) D2 = some (.lst ys6) := by rw [upd_ne D2d]; exact hD6
          have all7 : ∀ y ∈ ys6, RowAt nms (hid (L :: [S, S0]) (upd Y6 d (.dK kvs))) y := fun y hy => by
            obtain ⟨u, r, e, h1, h2⟩ := paired_all (S := fun y => RowAt nms (hid (L :: [S, S0]) (hid [D2] Y6)) y) (fun _ _ h => h) pr y hy
            obtain ⟨g1, g2⟩ := hid_of h1
            refine ⟨u, r, e, hid_get g1 ?_, h2⟩
            have g3 := (hid_of g2).2
            rw [upd_ne fun e => by rw [e, s6 _ _ hWL] at g3; cases g3]
            exact g3
          refine ⟨s6 _ _ hWL, ?_⟩
          generalize upd Y6 d (.dK kvs) = B3 at unl hD7 all7 ⊢
          have st7 := st5.same unl
          have tb7 := tb5.ext unl
          have hL7 := unl _ _ hL
          have s57 : Same (hid (L :: [S, S0]) B2) (hid (L :: [S, S0]) B3) := sHid unl
          have hd7 := s57 _ _ hd5
          have kd7 := kd5.same s57
          have hbk7 := hbk5.same s57
          have all8 : ∀ y ∈ V.ref e0 :: ys, RowAt nms (hid (L :: [S, S0]) B3) y := fun y hy => (all5 y hy).same s57
          clear pr hD6 s6 s57 stL eL hWL nD2 hLL YL hdB hbk5 kd5 hd5 all5 st5 tb5 hL unl Y6
          refine ⟨_, rfl, _, rfl, ?_⟩
          dsimp only [tNil, tCons, tC]
          refine rowS (m := 300) st7 (by omega) (by decide) tb7 (hid_of hd7).2 fun p0 B4 rp np st9 s9 tb9 => ?_
          have s9' : Same (hid (L :: [S, S0]) B3) (hid (L :: [S, S0]) B4) := hid_more s9 fun b hb => List.mem_cons_of_mem _ hb
          have hL9 : B4 L = some (.lst (.ref e0 :: ys)) := (hid_of (s9 _ _ (hid_get LZ hL7))).2
          have hD9 : B4 D2 = some (.lst ys6) := (hid_of (s9' _ _ (hid_get D2Z hD7))).2
          have rp9 : RowAt nms (hid (L :: [S, S0]) B4) (.ref p0) := by
            obtain ⟨pp, r, e, h1, h2⟩ := rp
            cases e
            exact ⟨p0, r, rfl, hid_get (fun z => by
              rcases List.mem_cons.mp z with e | z
              · rw [e, hL7] at np; cases np
              · exact (hid_of h1).1 z) (hid_of h1).2, h2⟩
          have ys6l : ys6.length ≤ 12 := by omega
          refine ⟨(by show 1 ≤ sizeLine; decide), fun l1 nl1 => ?_⟩
          have s10 := same_new (o := .lst [.ref p0]) nl1
          refine ⟨D2, l1, ys6, [.ref p0], rfl, rfl, SqL.of (s10 _ _ hD9), SqL.of upd_same, Nat.le_trans (show ys6.length + 1 ≤ 13 by omega) (by decide), fun cc ncc => ?_⟩
          have s11 := same_new (o := .lst (ys6 ++ [.ref p0])) ncc
          refine ⟨L, cc, .ref e0 :: ys, _, rfl, rfl, s11 _ _ (s10 _ _ hL9), upd_same, Nat.le_trans (show (V.ref e0 :: ys).length + (ys6 ++ [V.ref p0]).length ≤ 20 by rw [List.length_cons, List.length_append, List.length_singleton]; omega) (by decide), ?_⟩
          obtain ⟨xs, exs⟩ : ∃ xs, xs = (V.ref e0 :: ys) ++ (ys6 ++ [V.ref p0]) := ⟨_, rfl⟩
          have xsl : xs.length ≤ 17 := by rw [exs, List.length_append, List.length_cons, List.length_append, List.length_singleton]; omega
          rw [← exs]
          have s12 : Same (hid (L :: [S, S0]) B3) (hid (L :: [S, S0]) (upd (upd (upd B4 l1 (.lst [.ref p0])) cc (.lst (ys6 ++ [.ref p0]))) L (.lst xs))) := by
            rw [hid_put]
            exact s9'.trans (sHid (s10.trans s11))
          have all12 : ∀ y ∈ xs, RowAt nms (hid [S, S0] (upd (upd (upd B4 l1 (.lst [.ref p0])) cc (.lst (ys6 ++ [.ref p0]))) L (.lst xs))) y := fun y hy => by
            refine RowAt.same ?_ (hid_tail (p := L))
            rw [exs] at hy
            rcases List.mem_append.mp hy with hy | hy
            · exact (all8 y hy).same s12
            · rcases List.mem_append.mp hy with hy | hy
              · exact (all7 y hy).same s12
              · rw [List.mem_singleton.mp hy]
                refine rp9.same ?_
                rw [hid_put]
                exact sHid (s10.trans s11)
          have hL12 : upd (upd (upd B4 l1 (.lst [.ref p0])) cc (.lst (ys6 ++ [.ref p0]))) L (.lst xs) L = some (.lst xs) := upd_same
          have Lne : L ≠ S ∧ L ≠ S0 := ⟨fun e => LZ (by rw [e]; simp), fun e => LZ (by rw [e]; simp)⟩
          have st12 := (st9.same (s10.trans s11)).put (o := .lst xs) Lne.1 Lne.2
          have tb12 := tb_put (tb9.ext (s10.trans s11)) (o := .lst xs) (s11 _ _ (s10 _ _ hL9))
          generalize upd (upd (upd B4 l1 (.lst [.ref p0])) cc (.lst (ys6 ++ [.ref p0]))) L (.lst xs) = B5 at s12 all12 hL12 st12 tb12 ⊢
          have hd12 := hid_tail _ _ (s12 _ _ hd7)
          have kd12 := kd7.same (s12.trans hid_tail)
          have hbk12 := hbk7.same (s12.trans hid_tail)
          clear s12 s11 s10 exs rp9 hD9 hL9 s9' s9 st9 tb9 rp np all8 all7 hd7 kd7 hbk7 hD7 hL7 st7 tb7 ncc nl1
          -- each row
          refine ⟨_, rfl, _, rfl, 1, rfl, 2, rfl, L, _, rfl, SqL.of hL12, fun zc nzc => ?_⟩
          have sz := same_new (o := .lst (cutV xs (some 1) (some 2))) nzc
          have cl := cutV_length xs (some 1) (some 2)
          refine ⟨L, zc, _, _, rfl, rfl, SqL.of (sz _ _ hL12), SqL.of upd_same, Nat.le_trans (show xs.length + (cutV xs (some 1) (some 2)).length ≤ 34 by omega) (by decide), fun mc nmc => ?_⟩
          have sm := same_new (o := .lst (xs ++ cutV xs (some 1) (some 2))) nmc
          obtain ⟨ms, ems⟩ : ∃ ms, ms = xs ++ cutV xs (some 1) (some 2) := ⟨_, rfl⟩
          have msl : ms.length ≤ 34 := by rw [ems, List.length_append]; omega
          have allm : ∀ y ∈ ms, RowAt nms (hid [S, S0] (upd (upd B5 zc (.lst (cutV xs (some 1) (some 2)))) mc (.lst (xs ++ cutV xs (some 1) (some 2))))) y := fun y hy => by
            refine (all12 y ?_).same (sHid (sz.trans sm))
            rw [ems] at hy
            rcases List.mem_append.mp hy with hy | hy
            · exact hy
            · exact List.mem_of_mem_drop (List.mem_of_mem_take hy)
          have hmc : upd (upd B5 zc (.lst (cutV xs (some 1) (some 2)))) mc (.lst (xs ++ cutV xs (some 1) (some 2))) mc = some (.lst ms) := by rw [ems]; exact upd_same
          have st13 := st12.same (sz.trans sm)
          have tb13 := tb12.ext (sz.trans sm)
          have s13 : Same (hid [S, S0] B5) (hid [S, S0] (upd (upd B5 zc (.lst (cutV xs (some 1) (some 2)))) mc (.lst (xs ++ cutV xs (some 1) (some 2))))) := sHid (sz.trans sm)
          have mZ : mc ∉ [S, S0] := by have := (st12.same sz).S_ne nmc; simp; exact this
          generalize upd (upd B5 zc (.lst (cutV xs (some 1) (some 2)))) mc (.lst (xs ++ cutV xs (some 1) (some 2))) = B at s13 allm hmc st13 tb13 ⊢
          have hd13 := s13 _ _ hd12
          have kd13 := kd12.same s13
          have hbk13 := hbk12.same s13
          clear s13 sm sz ems all12 hL12 hd12 kd12 hbk12 st12 tb12 nzc nmc
          obtain ⟨c3, ec3⟩ : ∃ c3, c3 = c2 + 6 * 3 + 300 + 1 := ⟨_, rfl⟩
          replace st13 : Stm S S0 c3 B := by rw [ec3]; exact st13
          refine ⟨mc, rfl, ⟨_, SqL.of hmc⟩, ?_⟩
          have hmZ : hid [S, S0] B mc = some (.lst ms) := hid_get mZ hmc
          refine for_it walk_list (fun j σ Y => (∃ v6, σ = [some (.ref a), some (.ref S), some (.int (0 + (i : Nat))), some (.ref d), some (.ref p), some (.ref L), v6, none, none, none]) ∧ Stm S S0 (c3 + 301 * j) Y ∧ TbP T.pR Y ∧ Same (hid [S, S0] B) (hid [S, S0] Y))
            ⟨⟨_, rfl⟩, st13, tb13, Same.refl _⟩ (fun j σ Y _ ⟨_, _, _, s⟩ => SqL.of (hid_same _ _ (s _ _ hmZ))) ?_ ?_
          · rintro j y σ W0 W hj ⟨⟨v6, rfl⟩, stj, tbj, sj⟩ ⟨rfl, hy⟩
            obtain ⟨ra, r, rfl, hr1, hr2, hr3⟩ := (allm y (List.mem_of_getElem? hy)).same sj
            refine gname_x ?_
            refine ⟨_, rfl, _, rfl, _, rfl, _, rfl, S, S0, d, p, ra, _, kvs, R, R', N, r, rfl, stj, by omega, (hid_of (sj _ _ hd13)).2, kd13.same sj, gx, hbk13.same sj, beq, isn, SqL.of hr1, hr2, fun n hn => enms ▸ hr3 n hn, fun c' W2 g1 g2 st' s' => ⟨_, rfl, iteF ⟨⟨_, rfl⟩, st'.mono (by omega), frS stj tbj s', sj.trans s'⟩⟩⟩
          · rintro σ Y ⟨⟨v6, rfl⟩, stj, tbj, sj⟩
            refine ⟨_, rfl, _, _, rfl, rfl, _, rfl, ?_⟩
            refine ite_two ?_ ?_
            · refine ⟨_, rfl, _, rfl, _, rfl, .ref S, d, p, kvs, R, R', N, rfl, (hid_of (sj _ _ hd13)).2, (kd13.same sj).same hid_same, gx, (hbk13.same sj).same hid_same, beq, tbj, fun W ex tbW => ⟨_, rfl, iteF ⟨⟨_, _, _, _, _, rfl⟩, (stm_ex stj ex).mono (by omega), tbW⟩⟩⟩
            · exact iteF ⟨⟨_, _, _, _, _, rfl⟩, stj.mono (by omega), tbj⟩
    · intro fin
      refine ⟨_, rfl, _, _, rfl, rfl, (show (2 : Int) ≠ 0 by decide), rfl, _, rfl, ?_⟩
      refine ite_two ?_ ?_
      · refine ⟨_, rfl, S, S0, _, 6, rfl, st, by omega, by decide, by decide, fun d kvs R H1 hd kd gx st1 s1 => fin _ _ ⟨d, kvs, R, rfl, hd, kd, gx, st1.mono (by omega), frS st tbY s1⟩⟩
      · refine ⟨_, rfl, _, rfl, S, S0, _, rfl, st, by omega, fun z d y kvs R H1 hz hd kd pl st1 s1 => ?_⟩
        refine ⟨z, _, 0, .ref d, rfl, rfl, hz, atI_nat (j := 0) rfl, S, S0, d, _, kvs, R, rfl, st1, by omega, hd, kd, pl, fun d2 kvs2 R2 H2 hd2 kd2 gx st2 s2 => fin _ _ ⟨d2, kvs2, R2, rfl, hd2, kd2, gx, st2.mono (by omega), frS st1 (frS st tbY s1) s2⟩⟩
  · rintro σ Y ⟨⟨v2, v3, v4, v5, v6, rfl⟩, st, tbY⟩
    refine ⟨(by show 0 ≤ sizeLine; decide), fun e0 ne0 => ?_⟩
    intro x dx nx ndx nex
    have h0 : upd Y e0 (.lst []) e0 = some (.lst []) := upd_same
    have hx4 : upd (upd (upd Y e0 (.lst [])) dx (.own x)) x (.ins T.C dx []) x = some (.ins T.C dx []) := upd_same
    have h04 : upd (upd (upd Y e0 (.lst [])) dx (.own x)) x (.ins T.C dx []) e0 = some (.lst []) := by
      rw [upd_ne (ne_of_none h0 nx), upd_ne (ne_of_none h0 ndx)]
      exact h0
    generalize upd (upd (upd Y e0 (.lst [])) dx (.own x)) x (.ins T.C dx []) = H4 at hx4 h04 ⊢
    refine ⟨x, dx, .ref e0, [], fun _ => 0, rfl, hx4, .lst (.inl (SqL.of h04)) .nil, ⟨(fun _ z => nomatch z), List.nodup_nil, by show 0 < 64; decide, fun _ z => nomatch z⟩, ⟨(fun _ z => nomatch z), fun _ z => nomatch z⟩, fun B R' _ pk bk => ⟨rfl, ?_⟩⟩
    obtain rfl : R' = [] := List.Perm.eq_nil pk
    clear nx ndx nex h0 hx4 h04
    dsimp only
    refine gname_x ?_
    have bc0 : BC [] := ⟨(fun _ z => nomatch z), fun _ z => nomatch z⟩
    have em : ∀ {H : Hp} {q e : Addr} {n : Nat}, SqL K H q [] → SqL K H e [] → Sm K H (n + 1) (.ref q) (.ref e) := fun {H q e n} h1 h2 => .inr (.inl ⟨q, e, [], [], rfl, rfl, Nat.zero_le _, .inl ⟨h1, h2⟩, .nil⟩)
    refine ⟨_, rfl, (by show 0 ≤ sizeLine; decide), fun a1 n1 => ?_⟩
    have s1 := same_new (o := .lst []) n1
    refine ⟨x, a1, [], fun _ => 0, [], rfl, bk.same s1, .inl (SqL.of upd_same), Nat.zero_le _, (fun _ z => nomatch z), bc0, fun q1 B1 L1 t1 d1 e1 => ?_⟩
    have hq1 := d1.at_
    rw [List.map_eq_nil_iff.mp e1] at hq1
    have bk1 := (bk.same s1).same t1
    clear e1 d1 t1 s1 n1
    refine ⟨_, rfl, (by show 0 ≤ sizeLine; decide), fun a2 n2 => ?_⟩
    have s2 := same_new (o := .lst []) n2
    refine ⟨x, a2, [], fun _ => 0, [], "a", rfl, bk1.same s2, .inl (SqL.of upd_same), Nat.zero_le _, (fun _ z => nomatch z), bc0, by decide +kernel, by decide, fun q2 B2 L2 t2 d2 e2 => ?_⟩
    have hq2 := d2.at_
    rw [List.map_eq_nil_iff.mp e2] at hq2
    have bk2 := (bk1.same s2).same t2
    have hq12 := t2 _ _ (s2 _ _ hq1)
    clear e2 d2 t2 s2 n2 hq1
    refine ⟨_, rfl, (by show 0 ≤ sizeLine; decide), fun a3 n3 => ?_⟩
    have s3 := same_new (o := .tup []) n3
    refine ⟨x, a3, [], fun _ => 0, [], rfl, bk2.same s3, .inr (SqT.of upd_same), Nat.zero_le _, (fun _ z => nomatch z), bc0, fun q3 B3 L3 t3 d3 e3 => ?_⟩
    have hq3 := d3.at_
    rw [List.map_eq_nil_iff.mp e3] at hq3
    have hq13 := t3 _ _ (s3 _ _ hq12)
    have hq23 := t3 _ _ (s3 _ _ hq2)
    clear e3 d3 t3 s3 n3 hq12 hq2
    refine ⟨(by show 3 ≤ sizeLine; decide), fun l0 n0 => ?_⟩
    refine ⟨(by show 0 ≤ sizeLine; decide), fun f1 m1 => ⟨(by show 0 ≤ sizeLine; decide), fun f2 m2 => ⟨(by show 0 ≤ sizeLine; decide), fun f3 m3 => ⟨(by show 3 ≤ sizeLine; decide), fun l9 n9 => ?_⟩⟩⟩⟩
    have u0 := same_new (o := .lst [.ref q1, .ref q2, .ref q3]) n0
    have u1 := same_new (o := .lst []) m1
    have u2 := same_new (o := .lst []) m2
    have u3 := same_new (o := .lst []) m3
    have u9 := same_new (o := .lst [.ref f1, .ref f2, .ref f3]) n9
    have uA := (((u0.trans u1).trans u2).trans u3).trans u9
    refine ⟨_, _, rfl, .inr (.inl ⟨l0, l9, _, _, rfl, rfl, (by show 3 ≤ 1000000; decide), .inl ⟨SqL.of (u9 _ _ (u3 _ _ (u2 _ _ (u1 _ _ upd_same)))), SqL.of upd_same⟩, .cons (em (SqL.of (uA _ _ hq13)) (SqL.of (u9 _ _ (u3 _ _ (u2 _ _ upd_same))))) (.cons (em (SqL.of (uA _ _ hq23)) (SqL.of (u9 _ _ (u3 _ _ upd_same)))) (.cons (em (SqL.of (uA _ _ hq3)) (SqL.of (u9 _ _ upd_same))) .nil))⟩), fun _ _ => q _⟩
end
end K8
set_option maxRecDepth 100000
set_option maxHeartbeats 4000000
namespace K8
open PySem PySem.Spec PyProof.Rows L2
/-! ### what the top has left -/
section
variable {K : PySem.W.Frag} {h : Heap} {mg : Str → Option Value} {x : Str} {st : Stmt} {ps : List Str} {f : Addr} {oc kV dc pm cd ct : Value} {od an : Option Addr} {sl : Array (Option Value)}
def defd (X : K.In h) (G : h.Ns PySem.mainGlobals mg) (hb : ∀ (kV doc pm : Value) (an : Option Addr) (cdv ct : Value) (us : List Value), us.length = ps.length → bindArgs (PySem.W.fnOf x x (defArgs st) (defBody st) (defScope st) .none kV doc pm an cdv ct) ⟨us, []⟩ = pure (ps.zip us))
    (a : PySem.W.nsIn K PySem.mainGlobals x = some (some (.ref f))) (l : K.lookup f = some ⟨oc, od, .func (PySem.W.fnOf x x (defArgs st) (defBody st) (defScope st) .none kV dc pm an cd ct), sl⟩) (c : PySem.W.codeIn K cd x = true) (k : PySem.W.keepIn K (.ref f) = true) : DefD K mg x st ps :=
  ⟨f, _, PySem.W.mg_of X G a, fun_mk l c k, (fun_mk l c k).binds hb⟩
theorem func_mk {c : Addr} (l : K.lookup f = some ⟨oc, od, .func (PySem.W.fnOf x x (defArgs st) (defBody st) (defScope st) .none kV dc pm an (.ref c) ct), sl⟩) (hc : PySem.W.codeIn K (.ref c) x = true) : FunC K x st f (PySem.W.fnOf x x (defArgs st) (defBody st) (defScope st) .none kV dc pm an (.ref c) ct) c :=
  ⟨⟨oc, od, kV, dc, pm, an, ct, sl, rfl, l, hc⟩⟩
def errd {nm qual fld : Str} {C fI : Addr} {q : Str} {n2 : Str} {N : Addr} {bs bm : List Value} {sn : List Str} {sub : List Value} {ab : Bool} {col : Option Bool} {dd : Option Addr} {m0 m1 m2 m3 m5 : Option Value} (X : K.In h) (G : h.Ns PySem.mainGlobals mg)
    (hb : ∀ (kV doc pm : Value) (an : Option Addr) (cdv ct : Value) (us : List Value), us.length = (["self", fld] : List Str).length → bindArgs (PySem.W.fnOf "__init__" qual (defArgs st) (defBody st) (defScope st) .none kV doc pm an cdv ct) ⟨us, []⟩ = pure ((["self", fld] : List Str).zip us))
    (a : PySem.W.nsIn K PySem.mainGlobals nm = some (some (.ref C))) (xL : K.lookup C = some (excClassObj n2 q C N bs bm true sn sub ab col dd m0 m1 m2 m3 m5 "ValueError.__new__")) (rv : PySem.HandSPX.refsVE bm = true)
    (sa : PySem.W.findIn K (.ref C) "__setattr__" = some (some (.builtin "object.__setattr__"))) (ex : PySem.W.subIn K (.ref C) (.type "BaseException") = some true) (ty : PySem.W.typeIn K (.ref C) = some (.type "type")) (kC : PySem.W.keepIn K (.ref C) = true)
    (iC : PySem.W.findIn K (.ref C) "__init__" = some (some (.ref fI))) (tI : PySem.W.typeIn K (.ref fI) = some (.type "function"))
    (l : K.lookup fI = some ⟨oc, od, .func (PySem.W.fnOf "__init__" qual (defArgs st) (defBody st) (defScope st) .none kV dc pm an cd ct), sl⟩) (c : PySem.W.codeIn K cd qual = true) (k : PySem.W.keepIn K (.ref fI) = true)
    (no : PySem.W.findIn K (.ref C) fld = some none) (ga : PySem.W.findIn K (.ref C) "__getattribute__" = some (some (.builtin "BaseException.__getattribute__"))) (gg : PySem.W.findIn K (.ref C) "__getattr__" = some none) (hd : PySem.W.hasDictIn K C = true) : ErrD K mg nm qual fld st :=
  ⟨C, PySem.W.mg_of X G a, fI, _, ⟨⟨n2, q, N, bs, bm, sn, sub, ab, col, dd, m0, m1, m2, m3, m5, xL, rv⟩, sa, ex, ty, kC⟩, iC, tI, fun_mk l c k, (fun_mk l c k).binds hb, no, ⟨ga, gg, ex, hd⟩⟩
end
/-! ### the end, its tables from the top -/
theorem walk_tab {l : PySem.W.OpenLaw} {n k : Nat} {q : Program} {loose : List Str} {XP : (Str → Option Value) → Heap → Prop} {YP : World → Heap → Prop} {d : DefRec} {K : Params → PySem.W.Frag} {CX : World → CXT} {x : Str}
    (hn : l.most = some n) (hn2 : n ≤ sizeLine) (hdf : d.params.defaults = []) (hr : Room k callerA) (hY : ∀ (w : World) (h : Heap), YP w h → (K w.params).In h)
    (F : ∀ (w : World) (mg : Str → Option Value) (fa : Addr) (h : Heap), (K w.params).In h → h.Ns PySem.mainGlobals mg → mg d.name = some (.ref fa) →
      (∀ (e : DefRec) (y : Str) (c P : Addr), (recsOf q).find? (fun e => e.name == y) = some e → PySem.W.tabIn (K w.params) y = some (c, P) → PySem.W.CodeHd h c P ∧ h.get? P = some { cls := .none, data := .fields #[] }) → LamX.LawAtS l w (K w.params) (CX w) k n x mg fa h)
    (hCX : ∀ (w : World) (H : Hp) (s : Shared) (e : Value) (s' : Shared), CX w [] H s (fun _ _ _ => False) e s' → False) :
    PySem.W.WalkO q loose XP YP l.row.toRowW d [] (fun f vs => PySem.call f vs) := by
  refine Att.attach_callB hn hdf fun w s₀ s₁ mg mb fa o pm cd doc a vs ns G Y ho hd hcd hmg hobj hints hlen hbits hg => ?_
  have KX := hY w _ Y
  obtain ⟨fd, cs, sp, hT, nT, C, hb, hsp, hF⟩ := F w mg fa _ KX G.T.g hmg fun e y c P hr ht => PySem.W.tab_of G.T KX hr ht
  exact LamX.law_callTs KX G.T.g G.T.b G.T.builtins G.T.nolimit hg hT nT C G.T.bmain hobj hints (Nat.le_trans hlen hn2) hr hF hb (fun H hH hS => hsp H a ns hlen hbits hH hS) fun H e s' => hCX w H s₁ e s'
/-- the law's promise, of what the top has left -/
theorem law_at {l : PySem.W.OpenLaw} {w : World} {K : PySem.W.Frag} {mg : Str → Option Value} {fa : Addr} {h : Heap} (T : TxR K mg) (hfa : mg "law" = some (.ref fa)) (hT : h.get? T.pR = some { cls := .none, data := .fields #[] }) (nT : K.lookup T.pR = none) (C : PySem.W.CodeHd h T.cR T.pR) :
    LamX.LawAtS l w K L2.CX0 13 63 "_law_script" mg fa h := by
  have e := hfa.symm.trans T.law.g
  cases e
  refine ⟨T.law.fd, [(T.cR, T.pR)], spLaw K T.pR, fun p hp => ?_, fun p hp => ?_, fun p hp => ?_, fun s u => ?_, fun H a ns hl hb hp hs => ?_, fun base KB GB TB => ?_⟩
  · rw [List.mem_singleton.mp hp]; exact hT
  · rw [List.mem_singleton.mp hp]; exact nT
  · rw [List.mem_singleton.mp hp]; exact C
  · obtain ⟨oc, od, kV, doc, pm, an, cdv, ct, osl, e2, _, _⟩ := T.law.F.ex
    rw [e2]
    exact .of_eq rfl
  · exact ⟨a, ns, rfl, hs, by omega, fun q hq => by
      rw [List.mem_singleton.mp hq]
      exact LamX.TabS.nil (hp _ (List.mem_singleton.mpr rfl)), fun _ => rfl⟩
  · exact ok_law T (TB _ (List.mem_singleton.mpr rfl))
end K8
set_option maxRecDepth 100000
set_option maxHeartbeats 4000000
namespace K8
open PySem PySem.Spec PyProof.Rows L2
section
variable {K : PySem.W.Frag} {h : Heap} {mg : Str → Option Value} {x : Str} {st : Stmt} {ps : List Str} {f c P C : Addr} {oc kV dc pm cd ct : Value} {od an : Option Addr} {sl : Array (Option Value)}
theorem refd (X : K.In h) (G : h.Ns PySem.mainGlobals mg) (hb : ∀ (kV doc pm : Value) (an : Option Addr) (cdv ct : Value) (us : List Value), us.length = ps.length → bindArgs (PySem.W.fnOf x x (defArgs st) (defBody st) (defScope st) .none kV doc pm an cdv ct) ⟨us, []⟩ = pure (ps.zip us))
    (a : PySem.W.nsIn K PySem.mainGlobals x = some (some (.ref f))) (l : K.lookup f = some ⟨oc, od, .func (PySem.W.fnOf x x (defArgs st) (defBody st) (defScope st) .none kV dc pm an (.ref c) ct), sl⟩) (hc : PySem.W.codeIn K (.ref c) x = true) (k : PySem.W.keepIn K (.ref f) = true)
    (hh : PySem.W.codeHdIn K c P = true) : ∃ (c : Addr) (D : DefD K mg x st ps), FunC K x st D.f D.fd c ∧ PySem.W.CodeHd h c P :=
  ⟨c, defd X G hb a l hc k, func_mk l hc, PySem.W.codeHd_of_K X hh⟩
def ErrP (K : PySem.W.Frag) (C : Addr) (qual fld : Str) (st : Stmt) : Prop := ∃ (fI : Addr) (fdI : FuncData), OexC K C ∧ PySem.W.findIn K (.ref C) "__init__" = some (some (.ref fI)) ∧ PySem.W.typeIn K (.ref fI) = some (.type "function") ∧ Fun K "__init__" qual st fI fdI ∧ Binds K fdI ["self", fld] [] ∧ PySem.W.findIn K (.ref C) fld = some none ∧ XfC K C
theorem errp {qual fld : Str} {fI : Addr} {q n2 : Str} {N : Addr} {bs bm : List Value} {sn : List Str} {sub : List Value} {ab : Bool} {col : Option Bool} {dd : Option Addr} {m0 m1 m2 m3 m5 : Option Value}
    (hb : ∀ (kV doc pm : Value) (an : Option Addr) (cdv ct : Value) (us : List Value), us.length = (["self", fld] : List Str).length → bindArgs (PySem.W.fnOf "__init__" qual (defArgs st) (defBody st) (defScope st) .none kV doc pm an cdv ct) ⟨us, []⟩ = pure ((["self", fld] : List Str).zip us))
    (xL : K.lookup C = some (excClassObj n2 q C N bs bm true sn sub ab col dd m0 m1 m2 m3 m5 "ValueError.__new__")) (rv : PySem.HandSPX.refsVE bm = true)
    (sa : PySem.W.findIn K (.ref C) "__setattr__" = some (some (.builtin "object.__setattr__"))) (ex : PySem.W.subIn K (.ref C) (.type "BaseException") = some true) (ty : PySem.W.typeIn K (.ref C) = some (.type "type")) (kC : PySem.W.keepIn K (.ref C) = true)
    (iC : PySem.W.findIn K (.ref C) "__init__" = some (some (.ref fI))) (tI : PySem.W.typeIn K (.ref fI) = some (.type "function"))
    (l : K.lookup fI = some ⟨oc, od, .func (PySem.W.fnOf "__init__" qual (defArgs st) (defBody st) (defScope st) .none kV dc pm an cd ct), sl⟩) (c : PySem.W.codeIn K cd qual = true) (k : PySem.W.keepIn K (.ref fI) = true)
    (no : PySem.W.findIn K (.ref C) fld = some none) (ga : PySem.W.findIn K (.ref C) "__getattribute__" = some (some (.builtin "BaseException.__getattribute__"))) (gg : PySem.W.findIn K (.ref C) "__getattr__" = some none) (hd : PySem.W.hasDictIn K C = true) : ErrP K C qual fld st :=
  ⟨fI, _, ⟨⟨n2, q, N, bs, bm, sn, sub, ab, col, dd, m0, m1, m2, m3, m5, xL, rv⟩, sa, ex, ty, kC⟩, iC, tI, fun_mk l c k, (fun_mk l c k).binds hb, no, ⟨ga, gg, ex, hd⟩⟩
def BookP (K : PySem.W.Frag) (C : Addr) : Prop := Cls K C ∧ NoAttr K C "own_rules" ∧ NoAttr K C "own_norms" ∧ NoAttr K C "own_rounds" ∧ (∃ (fI : Addr) (fdI : FuncData), Mk K C fI ∧ Fun K "__init__" "Book.__init__" s_init fI fdI ∧ Binds K fdI ["self", "talks"] []) ∧
  (∀ (H : Hp) (p dx : Addr) (fs : List (Str × V)), H p = some (.ins C dx fs) → TyX K H (.ref p) (.ref C)) ∧ PySem.W.kitOne K (.ref C) (.ref C) = some true ∧ ∀ n ∈ kinds, PySem.W.kitOne K (.type n) (.ref C) = some false
theorem bookp {fI : Addr} (pg : PySem.W.plainGet K C Str.empty = true) (hd : PySem.W.hasDictIn K C = true) (po : PySem.W.plainOver K C = true) (sa : PySem.W.findIn K (.ref C) "__setattr__" = some (some (.builtin "object.__setattr__")))
    (nR : PySem.W.findIn K (.ref C) "own_rules" = some none) (nN : PySem.W.findIn K (.ref C) "own_norms" = some none) (nO : PySem.W.findIn K (.ref C) "own_rounds" = some none) (mk : PySem.W.makesIn K C = true) (iC : PySem.W.findIn K (.ref C) "__init__" = some (some (.ref fI))) (fn : PySem.W.isFn K (.ref fI) = true) (kc : PySem.W.keepIn K (.ref C) = true)
    (l : K.lookup fI = some ⟨oc, od, .func (PySem.W.fnOf "__init__" "Book.__init__" (defArgs s_init) (defBody s_init) (defScope s_init) .none kV dc pm an cd ct), sl⟩) (c : PySem.W.codeIn K cd "Book.__init__" = true) (k : PySem.W.keepIn K (.ref fI) = true)
    (ha : PySem.W.findIn K (.ref C) "__class__" = some (some (.builtin "object.__class__"))) (hn : PySem.W.specialIn K (.builtin "object.__class__") "__get__" = some (some (.builtin "getset_descriptor.__get__"))) (ht : PySem.W.takesIn K (.builtin "object.__class__") = some true) (hm : PySem.W.mroIn K C (.type "object") = some true)
    (k1 : PySem.W.kitOne K (.ref C) (.ref C) = some true) (k2 : ∀ n ∈ kinds, PySem.W.kitOne K (.type n) (.ref C) = some false) : BookP K C :=
  ⟨⟨pg, hd, po, sa⟩, nR, nN, nO, ⟨fI, _, ⟨mk, iC, fn, kc⟩, fun_mk l c k, (fun_mk l c k).binds fun _ _ _ _ _ _ us hl => match us, hl with | [_, _], _ => rfl⟩, fun H p dx fs e => .base (.ins e ⟨pg, hd, po, sa⟩ ha hn ht hm), k1, k2⟩
theorem exv {K : PySem.W.Frag} {C : Addr} (h1 : PySem.W.findIn K (.ref C) "__getattribute__" = some (some (.builtin "BaseException.__getattribute__"))) (h2 : PySem.W.findIn K (.ref C) "__getattr__" = some none) (h3 : PySem.W.subIn K (.ref C) (.type "BaseException") = some true) (h4 : PySem.W.hasDictIn K C = true)
    (h5 : PySem.W.findIn K (.ref C) "__class__" = some (some (.builtin "object.__class__"))) (h6 : PySem.W.specialIn K (.builtin "object.__class__") "__get__" = some (some (.builtin "getset_descriptor.__get__"))) (h7 : PySem.W.takesIn K (.builtin "object.__class__") = some true) (h8 : PySem.W.mroIn K C (.type "object") = some true)
    (h9 : cmpB K C = true) (a1 : PySem.W.kitOne K (.ref C) (.type "list") = some false) (a2 : PySem.W.kitOne K (.ref C) (.type "tuple") = some false) (a3 : PySem.W.kitOne K (.ref C) (.type "dict") = some false) (a4 : PySem.W.kitOne K (.ref C) (.type "int") = some false) : ExV K C :=
  ⟨⟨h1, h2, h3, h4, h5, h6, h7, h8⟩, h9, fun m hm => by
    simp only [List.mem_cons, List.not_mem_nil, or_false] at hm
    rcases hm with rfl | rfl | rfl | rfl
    · exact a1
    · exact a2
    · exact a3
    · exact a4⟩
theorem words_mk {a : Addr} {dd : Option Addr} {its : Array Value} {n : Nat} {sl : Array (Option Value)} (l : K.lookup a = some ⟨.type "tuple", dd, .seq its n, sl⟩) (hs : its.size ≤ sizeLine) (hv : L2.Vals (words16.map V.str) its.toList) (H : Hp) : SqT K H a (words16.map V.str) :=
  .inr ⟨_, its, n, l, rfl, rfl, hs, hv⟩
theorem text_mk {z v : Str} {t : Tok} (X : K.In h) (G : h.Ns PySem.mainGlobals mg) (a : PySem.W.nsIn K PySem.mainGlobals x = some (some (.str z t))) (e : z = v) : ∃ t, mg x = some (.str v t) := ⟨t, e ▸ PySem.W.mg_of X G a⟩
theorem relS {z v : Str} {t : Tok} (e : z = v) : RelV (.str v) (.str z t) := ⟨t, by rw [e]⟩
theorem words_at {a : Addr} {dd : Option Addr} {its : Array Value} {n : Nat} (X : K.In h) (G : h.Ns PySem.mainGlobals mg) (ea : PySem.W.nsIn K PySem.mainGlobals x = some (some (.ref a))) (l : K.lookup a = some ⟨.type "tuple", dd, .seq its n, sl⟩) (hs : its.size = 16) (hv : L2.Vals (words16.map V.str) its.toList) :
    ∃ a, mg x = some (.ref a) ∧ ∀ H, SqT K H a (words16.map V.str) := ⟨a, PySem.W.mg_of X G ea, words_mk l (by rw [hs]; decide) hv⟩
end
theorem law_big {l : PySem.W.OpenLaw} {w : World} {K : PySem.W.Frag} {mg : Str → Option Value} {fa : Addr} {h : Heap} {C C1 C2 C3 TE c P : Addr} (X : K.In h) (G : h.Ns PySem.mainGlobals mg) (hfa : mg "law" = some (.ref fa)) (T : Txt K mg)
    (FR : FunC K "_law_refused_right" s_refused_right T.refused_right.f T.refused_right.fd c) (hC : PySem.W.CodeHd h c P) (hT : h.get? P = some { cls := .none, data := .fields #[] })
    (aB : PySem.W.nsIn K PySem.mainGlobals "Book" = some (some (.ref C))) (a1 : PySem.W.nsIn K PySem.mainGlobals "BadBook" = some (some (.ref C1))) (a2 : PySem.W.nsIn K PySem.mainGlobals "BadLetter" = some (some (.ref C2))) (a3 : PySem.W.nsIn K PySem.mainGlobals "BadRow" = some (some (.ref C3))) (aT : PySem.W.nsIn K PySem.mainGlobals "TalkError" = some (some (.ref TE)))
    (nT : K.lookup P = none) (B : BookP K C) (e1 : ErrP K C1 "BadBook.__init__" "thing" s_iBB) (e2 : ErrP K C2 "BadLetter.__init__" "thing" s_iBL) (e3 : ErrP K C3 "BadRow.__init__" "index" s_iBR)
    (x1 : PySem.W.exmOne K (.ref C1) (.ref C1) = some true) (x2 : PySem.W.exmOne K (.ref C3) (.ref C1) = some false) (x3 : PySem.W.exmOne K (.ref C3) (.ref C3) = some true) (x4 : PySem.W.exmOne K (.ref C2) (.ref C1) = some false) (x5 : PySem.W.exmOne K (.ref C2) (.ref C3) = some false) (x6 : PySem.W.exmOne K (.ref C2) (.ref C2) = some true)
    (kT : PySem.W.keepIn K (.ref TE) = true) (vT : ExV K TE) (kB : PySem.W.kitOne K (.ref TE) (.ref C) = some false) : LamX.LawAtS l w K L2.CX0 13 63 "_law_script" mg fa h := by
  obtain ⟨b1, b2, b3, b4, ⟨fI, fdI, b5, b6, b7⟩, b8, b9, b10⟩ := B
  obtain ⟨f1, fd1, p1, p2, p3, p4, p5, p6, p7⟩ := e1
  obtain ⟨f2, fd2, q1, q2, q3, q4, q5, q6, q7⟩ := e2
  obtain ⟨f3, fd3, r1, r2, r3, r4, r5, r6, r7⟩ := e3
  let TB : TxB K mg := { T with C := C, gC := PySem.W.mg_of X G aB, cl := b1, nR := b2, nN := b3, nO := b4, fI := fI, fdI := fdI, made := b5, FI := b6, bI := b7, tyI := b8, kitC := b9, kitNo := b10 }
  let E : TxE K mg := TxE.mk TB (ErrD.mk C1 (PySem.W.mg_of X G a1) f1 fd1 p1 p2 p3 p4 p5 p6 p7) (ErrD.mk C2 (PySem.W.mg_of X G a2) f2 fd2 q1 q2 q3 q4 q5 q6 q7) (ErrD.mk C3 (PySem.W.mg_of X G a3) f3 fd3 r1 r2 r3 r4 r5 r6 r7) x1 x2 x3 x4 x5 x6 TE (PySem.W.mg_of X G aT) kT vT kB
  let R : TxR K mg := TxR.mk E c P FR
  exact law_at R hfa hT nT hC
end K8
open PySem PySem.W PyProof.Rows
set_option maxRecDepth 100000 in
set_option maxHeartbeats 0 in
theorem PySem.Challenge.cw_primetalks_k08_whole_steps_holds : PySem.Challenge.rw_primetalks_k08_whole_steps.Holds := by
  w_on; o_law; k_head; (case hw => w_witness2)
  k_fill
  refine LamX.walk_ofTs (l := PySem.Challenge.rw_primetalks_k08_whole_steps) (n := 63) (k := 13) (x := "_law_script") (CX := fun _ => L2.CX0) rfl (by decide) rfl ⟨rfl, by decide, by decide⟩ (fun w h Y => PySem.W.km_in_of Y) ?F (fun _ _ _ _ _ z => z)
  case F =>
    intro w mg fa h Y KX G hmg
    have hT := PySem.W.km_tabs_of Y 422 (List.mem_singleton.mpr rfl)
    have f_z_isinstance : mg "isinstance" = none := by
      refine' PySem.W.mg_none_of KX G ?a_1
      k_is
    have f_z_list : mg "list" = none := by
      refine' PySem.W.mg_none_of KX G ?a_2
      k_is
    have f_z_tuple : mg "tuple" = none := by
      refine' PySem.W.mg_none_of KX G ?a_3
      k_is
    have f_z_str : mg "str" = none := by
      refine' PySem.W.mg_none_of KX G ?a_4
      k_is
    have f_z_len : mg "len" = none := by
      refine' PySem.W.mg_none_of KX G ?a_5
      k_is
    have f_z_all : mg "all" = none := by
      refine' PySem.W.mg_none_of KX G ?a_6
      k_is
    have f_z_sorted : mg "sorted" = none := by
      refine' PySem.W.mg_none_of KX G ?a_7
      k_is
    have f_z_dict : mg "dict" = none := by
      refine' PySem.W.mg_none_of KX G ?a_8
      k_is
    have f_z_sum : mg "sum" = none := by
      refine' PySem.W.mg_none_of KX G ?a_9
      k_is
    have f_z_enumerate : mg "enumerate" = none := by
      refine' PySem.W.mg_none_of KX G ?a_10
      k_is
    have f_z_range : mg "range" = none := by
      refine' PySem.W.mg_none_of KX G ?a_11
      k_is
    have f_z_max : mg "max" = none := by
      refine' PySem.W.mg_none_of KX G ?a_12
      k_is
    have f_z_min : mg "min" = none := by
      refine' PySem.W.mg_none_of KX G ?a_13
      k_is
    have f_z_int : mg "int" = none := by
      refine' PySem.W.mg_none_of KX G ?a_14
      k_is
    have f_z_zip : mg "zip" = none := by
      refine' PySem.W.mg_none_of KX G ?a_15
      k_is
    have f_z_bool : mg "bool" = none := by
      refine' PySem.W.mg_none_of KX G ?a_16
      k_is
    have f_z_repr : mg "repr" = none := by
      refine' PySem.W.mg_none_of KX G ?a_17
      k_is
    have f_z_any : mg "any" = none := by
      refine' PySem.W.mg_none_of KX G ?a_18
      k_is
    have f_g_SMALL : ∃ t, mg "SMALL" = some (.str K8.small26 t) := by
      refine' K8.text_mk KX G ?a_19 ?e_19
      (case a_19 => k_is); (case e_19 => kernel_rfl)
    have f_g_FIGURES : ∃ t, mg "FIGURES" = some (.str K8.figs10 t) := by
      refine' K8.text_mk KX G ?a_20 ?e_20
      (case a_20 => k_is); (case e_20 => kernel_rfl)
    obtain ⟨a_WORDS, f_g_WORDS, f_k_WORDS⟩ := K8.words_at (x := "WORDS") KX G (by k_is) (by k_is) (by kernel_rfl) (.cons (K8.relS (by kernel_rfl)) (.cons (K8.relS (by kernel_rfl)) (.cons (K8.relS (by kernel_rfl)) (.cons (K8.relS (by kernel_rfl)) (.cons (K8.relS (by kernel_rfl)) (.cons (K8.relS (by kernel_rfl)) (.cons (K8.relS (by kernel_rfl)) (.cons (K8.relS (by kernel_rfl)) (.cons (K8.relS (by kernel_rfl)) (.cons (K8.relS (by kernel_rfl)) (.cons (K8.relS (by kernel_rfl)) (.cons (K8.relS (by kernel_rfl)) (.cons (K8.relS (by kernel_rfl)) (.cons (K8.relS (by kernel_rfl)) (.cons (K8.relS (by kernel_rfl)) (.cons (K8.relS (by kernel_rfl)) (.nil)))))))))))))))))
    have f_is_list := K8.defd (x := "is_list") (st := K8.s_is_list) (ps := ["thing"]) KX G (fun _ _ _ _ _ _ us hl => match us, hl with | [_], _ => rfl) (by k_is) (by k_is) (by k_is) (by k_is)
    have f_is_name := K8.defd (x := "is_name") (st := K8.s_is_name) (ps := ["thing"]) KX G (fun _ _ _ _ _ _ us hl => match us, hl with | [_], _ => rfl) (by k_is) (by k_is) (by k_is) (by k_is)
    have f_is_bare_letter := K8.defd (x := "is_bare_letter") (st := K8.s_is_bare_letter) (ps := ["thing"]) KX G (fun _ _ _ _ _ _ us hl => match us, hl with | [_], _ => rfl) (by k_is) (by k_is) (by k_is) (by k_is)
    have f_is_letter := K8.defd (x := "is_letter") (st := K8.s_is_letter) (ps := ["thing"]) KX G (fun _ _ _ _ _ _ us hl => match us, hl with | [_], _ => rfl) (by k_is) (by k_is) (by k_is) (by k_is)
    have f_is_row := K8.defd (x := "is_row") (st := K8.s_is_row) (ps := ["thing"]) KX G (fun _ _ _ _ _ _ us hl => match us, hl with | [_], _ => rfl) (by k_is) (by k_is) (by k_is) (by k_is)
    have f_is_one_of := K8.defd (x := "is_one_of") (st := K8.s_is_one_of) (ps := ["known", "thing"]) KX G (fun _ _ _ _ _ _ us hl => match us, hl with | [_, _], _ => rfl) (by k_is) (by k_is) (by k_is) (by k_is)
    have f_is_rule := K8.defd (x := "is_rule") (st := K8.s_is_rule) (ps := ["thing"]) KX G (fun _ _ _ _ _ _ us hl => match us, hl with | [_], _ => rfl) (by k_is) (by k_is) (by k_is) (by k_is)
    have f_as_rule := K8.defd (x := "as_rule") (st := K8.s_as_rule) (ps := ["thing"]) KX G (fun _ _ _ _ _ _ us hl => match us, hl with | [_], _ => rfl) (by k_is) (by k_is) (by k_is) (by k_is)
    have f_is_talk := K8.defd (x := "is_talk") (st := K8.s_is_talk) (ps := ["thing"]) KX G (fun _ _ _ _ _ _ us hl => match us, hl with | [_], _ => rfl) (by k_is) (by k_is) (by k_is) (by k_is)
    have f_lacking_in := K8.defd (x := "lacking_in") (st := K8.s_lacking_in) (ps := ["rules"]) KX G (fun _ _ _ _ _ _ us hl => match us, hl with | [_], _ => rfl) (by k_is) (by k_is) (by k_is) (by k_is)
    have f_norms_in := K8.defd (x := "norms_in") (st := K8.s_norms_in) (ps := ["rules", "known"]) KX G (fun _ _ _ _ _ _ us hl => match us, hl with | [_, _], _ => rfl) (by k_is) (by k_is) (by k_is) (by k_is)
    have f_checked_talks := K8.defd (x := "checked_talks") (st := K8.s_checked_talks) (ps := ["talks"]) KX G (fun _ _ _ _ _ _ us hl => match us, hl with | [_], _ => rfl) (by k_is) (by k_is) (by k_is) (by k_is)
    have f_checked_book := K8.defd (x := "checked_book") (st := K8.s_checked_book) (ps := ["book"]) KX G (fun _ _ _ _ _ _ us hl => match us, hl with | [_], _ => rfl) (by k_is) (by k_is) (by k_is) (by k_is)
    have f_checked_row := K8.defd (x := "checked_row") (st := K8.s_checked_row) (ps := ["book", "row"]) KX G (fun _ _ _ _ _ _ us hl => match us, hl with | [_, _], _ => rfl) (by k_is) (by k_is) (by k_is) (by k_is)
    have f_norm_of := K8.defd (x := "norm_of") (st := K8.s_norm_of) (ps := ["book", "row"]) KX G (fun _ _ _ _ _ _ us hl => match us, hl with | [_, _], _ => rfl) (by k_is) (by k_is) (by k_is) (by k_is)
    have f_steps_in := K8.defd (x := "steps_in") (st := K8.s_steps_in) (ps := ["book", "row"]) KX G (fun _ _ _ _ _ _ us hl => match us, hl with | [_, _], _ => rfl) (by k_is) (by k_is) (by k_is) (by k_is)
    have f_steps_of := K8.defd (x := "steps_of") (st := K8.s_steps_of) (ps := ["book", "row"]) KX G (fun _ _ _ _ _ _ us hl => match us, hl with | [_, _], _ => rfl) (by k_is) (by k_is) (by k_is) (by k_is)
    have f_behind := K8.defd (x := "behind") (st := K8.s_behind) (ps := ["book", "row", "letter"]) KX G (fun _ _ _ _ _ _ us hl => match us, hl with | [_, _, _], _ => rfl) (by k_is) (by k_is) (by k_is) (by k_is)
    have f_lessening := K8.defd (x := "lessening") (st := K8.s_lessening) (ps := ["book", "row"]) KX G (fun _ _ _ _ _ _ us hl => match us, hl with | [_, _], _ => rfl) (by k_is) (by k_is) (by k_is) (by k_is)
    have f_d_names := K8.defd (x := "_law_d_names") (st := K8.s_d_names) (ps := ["_law_stream", "_law_many"]) KX G (fun _ _ _ _ _ _ us hl => match us, hl with | [_, _], _ => rfl) (by k_is) (by k_is) (by k_is) (by k_is)
    have f_d_book := K8.defd (x := "_law_d_book") (st := K8.s_d_book) (ps := ["_law_stream", "_law_most"]) KX G (fun _ _ _ _ _ _ us hl => match us, hl with | [_, _], _ => rfl) (by k_is) (by k_is) (by k_is) (by k_is)
    have f_d_parted := K8.defd (x := "_law_d_parted") (st := K8.s_d_parted) (ps := ["_law_stream", "_law_words", "_law_word"]) KX G (fun _ _ _ _ _ _ us hl => match us, hl with | [_, _, _], _ => rfl) (by k_is) (by k_is) (by k_is) (by k_is)
    have f_d_planted := K8.defd (x := "_law_d_planted") (st := K8.s_d_planted) (ps := ["_law_stream", "_law_most"]) KX G (fun _ _ _ _ _ _ us hl => match us, hl with | [_, _], _ => rfl) (by k_is) (by k_is) (by k_is) (by k_is)
    have f_d_made := K8.defd (x := "_law_d_made") (st := K8.s_d_made) (ps := ["_law_stream", "_law_rules"]) KX G (fun _ _ _ _ _ _ us hl => match us, hl with | [_, _], _ => rfl) (by k_is) (by k_is) (by k_is) (by k_is)
    have f_d_row := K8.defd (x := "_law_d_row") (st := K8.s_d_row) (ps := ["_law_stream", "_law_rules", "_law_most"]) KX G (fun _ _ _ _ _ _ us hl => match us, hl with | [_, _, _], _ => rfl) (by k_is) (by k_is) (by k_is) (by k_is)
    have f_d_norms := K8.defd (x := "_law_d_norms") (st := K8.s_d_norms) (ps := ["_law_rules"]) KX G (fun _ _ _ _ _ _ us hl => match us, hl with | [_], _ => rfl) (by k_is) (by k_is) (by k_is) (by k_is)
    have f_d_odd_rows := K8.defd (x := "_law_d_odd_rows") (st := K8.s_d_odd_rows) (ps := ["_law_rules"]) KX G (fun _ _ _ _ _ _ us hl => match us, hl with | [_], _ => rfl) (by k_is) (by k_is) (by k_is) (by k_is)
    have f_start := K8.defd (x := "_law_start") (st := K8.s_start) (ps := ["_law_script"]) KX G (fun _ _ _ _ _ _ us hl => match us, hl with | [_], _ => rfl) (by k_is) (by k_is) (by k_is) (by k_is)
    have f_draw := K8.defd (x := "_law_draw") (st := K8.s_draw) (ps := ["_law_stream", "_law_many"]) KX G (fun _ _ _ _ _ _ us hl => match us, hl with | [_, _], _ => rfl) (by k_is) (by k_is) (by k_is) (by k_is)
    have f_pick := K8.defd (x := "_law_pick") (st := K8.s_pick) (ps := ["_law_stream", "_law_some"]) KX G (fun _ _ _ _ _ _ us hl => match us, hl with | [_, _], _ => rfl) (by k_is) (by k_is) (by k_is) (by k_is)
    have f_mixed := K8.defd (x := "_law_mixed") (st := K8.s_mixed) (ps := ["_law_stream", "_law_some"]) KX G (fun _ _ _ _ _ _ us hl => match us, hl with | [_, _], _ => rfl) (by k_is) (by k_is) (by k_is) (by k_is)
    have f_same := K8.defd (x := "_law_same") (st := K8.s_same) (ps := ["_law_found", "_law_due"]) KX G (fun _ _ _ _ _ _ us hl => match us, hl with | [_, _], _ => rfl) (by k_is) (by k_is) (by k_is) (by k_is)
    have f_each_once := K8.defd (x := "_law_each_once") (st := K8.s_each_once) (ps := ["_law_things"]) KX G (fun _ _ _ _ _ _ us hl => match us, hl with | [_], _ => rfl) (by k_is) (by k_is) (by k_is) (by k_is)
    have f_loose := K8.defd (x := "_law_loose") (st := K8.s_loose) (ps := ["_law_stream", "_law_thing"]) KX G (fun _ _ _ _ _ _ us hl => match us, hl with | [_, _], _ => rfl) (by k_is) (by k_is) (by k_is) (by k_is)
    have f_b_size := K8.defd (x := "_law_b_size") (st := K8.s_b_size) (ps := ["_law_sizes", "_law_row"]) KX G (fun _ _ _ _ _ _ us hl => match us, hl with | [_, _], _ => rfl) (by k_is) (by k_is) (by k_is) (by k_is)
    have f_b_steps := K8.defd (x := "_law_b_steps") (st := K8.s_b_steps) (ps := ["_law_rules", "_law_row"]) KX G (fun _ _ _ _ _ _ us hl => match us, hl with | [_, _], _ => rfl) (by k_is) (by k_is) (by k_is) (by k_is)
    have f_b_less := K8.defd (x := "_law_b_less") (st := K8.s_b_less) (ps := ["_law_rules", "_law_sizes", "_law_row"]) KX G (fun _ _ _ _ _ _ us hl => match us, hl with | [_, _, _], _ => rfl) (by k_is) (by k_is) (by k_is) (by k_is)
    have f_b_signed := K8.defd (x := "_law_b_signed") (st := K8.s_b_signed) (ps := ["_law_stream", "_law_rules"]) KX G (fun _ _ _ _ _ _ us hl => match us, hl with | [_, _], _ => rfl) (by k_is) (by k_is) (by k_is) (by k_is)
    have f_met := K8.defd (x := "_law_met") (st := K8.s_met) (ps := ["_law_ask"]) KX G (fun _ _ _ _ _ _ us hl => match us, hl with | [_], _ => rfl) (by k_is) (by k_is) (by k_is) (by k_is)
    have f_row_right := K8.defd (x := "_law_row_right") (st := K8.s_row_right) (ps := ["_law_stream", "_law_rules", "_law_made", "_law_row"]) KX G (fun _ _ _ _ _ _ us hl => match us, hl with | [_, _, _, _], _ => rfl) (by k_is) (by k_is) (by k_is) (by k_is)
    obtain ⟨cR, f_refused_right, fR, hC⟩ := K8.refd (x := "_law_refused_right") (st := K8.s_refused_right) (ps := ["_law_stream", "_law_rules", "_law_made"]) (P := 422) KX G (fun _ _ _ _ _ _ us hl => match us, hl with | [_, _, _], _ => rfl) (by k_is) (by k_is) (by k_is) (by k_is) (by kernel_rfl)
    have f_law := K8.defd (x := "law") (st := K8.s_law) (ps := ["_law_script"]) KX G (fun _ _ _ _ _ _ us hl => match us, hl with | [_], _ => rfl) (by k_is) (by k_is) (by k_is) (by k_is)
    refine' K8.law_big KX G hmg (K8.Txt.mk f_z_isinstance f_z_list f_z_tuple f_z_str f_z_len f_z_all f_z_sorted f_z_dict f_z_sum f_z_enumerate f_z_range f_z_max f_z_min f_z_int f_z_zip f_z_bool f_z_repr f_z_any f_g_SMALL f_g_FIGURES a_WORDS f_g_WORDS f_k_WORDS f_is_list f_is_name f_is_bare_letter f_is_letter f_is_row f_is_one_of f_is_rule f_as_rule f_is_talk f_lacking_in f_norms_in f_checked_talks f_checked_book f_checked_row f_norm_of f_steps_in f_steps_of f_behind f_lessening f_d_names f_d_book f_d_parted f_d_planted f_d_made f_d_row f_d_norms f_d_odd_rows f_start f_draw f_pick f_mixed f_same f_each_once f_loose f_b_size f_b_steps f_b_less f_b_signed f_met f_row_right f_refused_right f_law) fR hC hT ?o0aB ?o0a1 ?o0a2 ?o0a3 ?o0aT ?o0nT ?o0B ?o0e1 ?o0e2 ?o0e3 ?o0x1 ?o0x2 ?o0x3 ?o0x4 ?o0x5 ?o0x6 ?o0kT ?o0vT ?o0kB
    (case o0aB => k_is); (case o0a1 => k_is); (case o0a2 => k_is); (case o0a3 => k_is); (case o0aT => k_is); (case o0nT => kernel_rfl)
    case o0B =>
      refine' K8.bookp ?pg_66 ?hd_66 ?po_66 ?sa_66 ?nR_66 ?nN_66 ?nO_66 ?mk_66 ?iC_66 ?fn_66 ?kc_66 ?l_66 ?c_66 ?k_66 ?ha_66 ?hn_66 ?ht_66 ?hm_66 ?k1_66 ?k2_66
      (case pg_66 => k_is); (case hd_66 => k_is); (case po_66 => k_is); (case sa_66 => k_is); (case nR_66 => k_is); (case nN_66 => k_is); (case nO_66 => k_is); (case mk_66 => k_is); (case iC_66 => k_is); (case fn_66 => k_is); (case kc_66 => k_is); (case l_66 => k_is); (case c_66 => k_is); (case k_66 => k_is); (case ha_66 => k_is); (case hn_66 => k_is); (case ht_66 => k_is); (case hm_66 => k_is)
      (case k1_66 => kernel_rfl)
      case k2_66 =>
        intro n hn
        simp only [List.mem_cons, List.not_mem_nil, or_false] at hn
        rcases hn with rfl | rfl | rfl | rfl | rfl | rfl | rfl <;> kernel_rfl
    case o0e1 =>
      refine' K8.errp (fun _ _ _ _ _ _ us hl => match us, hl with | [_, _], _ => rfl) ?xL_67 ?rv_67 ?sa_67 ?ex_67 ?ty_67 ?kC_67 ?iC_67 ?tI_67 ?l_67 ?c_67 ?k_67 ?no_67 ?ga_67 ?gg_67 ?hd_67
      (case xL_67 => k_is); (case rv_67 => decide +kernel); (case sa_67 => k_is); (case ex_67 => k_is); (case ty_67 => k_is); (case kC_67 => k_is); (case iC_67 => k_is); (case tI_67 => k_is); (case l_67 => k_is); (case c_67 => k_is); (case k_67 => k_is); (case no_67 => k_is); (case ga_67 => k_is); (case gg_67 => k_is); (case hd_67 => k_is)
    case o0e2 =>
      refine' K8.errp (fun _ _ _ _ _ _ us hl => match us, hl with | [_, _], _ => rfl) ?xL_68 ?rv_68 ?sa_68 ?ex_68 ?ty_68 ?kC_68 ?iC_68 ?tI_68 ?l_68 ?c_68 ?k_68 ?no_68 ?ga_68 ?gg_68 ?hd_68
      (case xL_68 => k_is); (case rv_68 => decide +kernel); (case sa_68 => k_is); (case ex_68 => k_is); (case ty_68 => k_is); (case kC_68 => k_is); (case iC_68 => k_is); (case tI_68 => k_is); (case l_68 => k_is); (case c_68 => k_is); (case k_68 => k_is); (case no_68 => k_is); (case ga_68 => k_is); (case gg_68 => k_is); (case hd_68 => k_is)
    case o0e3 =>
      refine' K8.errp (fun _ _ _ _ _ _ us hl => match us, hl with | [_, _], _ => rfl) ?xL_69 ?rv_69 ?sa_69 ?ex_69 ?ty_69 ?kC_69 ?iC_69 ?tI_69 ?l_69 ?c_69 ?k_69 ?no_69 ?ga_69 ?gg_69 ?hd_69
      (case xL_69 => k_is); (case rv_69 => decide +kernel); (case sa_69 => k_is); (case ex_69 => k_is); (case ty_69 => k_is); (case kC_69 => k_is); (case iC_69 => k_is); (case tI_69 => k_is); (case l_69 => k_is); (case c_69 => k_is); (case k_69 => k_is); (case no_69 => k_is); (case ga_69 => k_is); (case gg_69 => k_is); (case hd_69 => k_is)
    (case o0x1 => kernel_rfl); (case o0x2 => kernel_rfl); (case o0x3 => kernel_rfl); (case o0x4 => kernel_rfl); (case o0x5 => kernel_rfl); (case o0x6 => kernel_rfl)
    (case o0kT => k_is)
    case o0vT =>
      refine' K8.exv ?h1_72 ?h2_72 ?h3_72 ?h4_72 ?h5_72 ?h6_72 ?h7_72 ?h8_72 ?h9_72 ?m1_72 ?m2_72 ?m3_72 ?m4_72
      (case h1_72 => k_is); (case h2_72 => k_is); (case h3_72 => k_is); (case h4_72 => k_is); (case h5_72 => k_is); (case h6_72 => k_is); (case h7_72 => k_is); (case h8_72 => k_is); (case h9_72 => kernel_rfl); (case m1_72 => kernel_rfl); (case m2_72 => kernel_rfl); (case m3_72 => kernel_rfl); (case m4_72 => kernel_rfl)
    (case o0kB => kernel_rfl)
#print axioms PySem.Challenge.cw_primetalks_k08_whole_steps_holds
