import PyProof.Rows.All
import Wide.All
import OpenK.AllK
import Wide.FinOn
import KE.KStateDown
import KE.SortData
import Lean
import HandS.ForMost
import HandS.Defaults
import HandS.Codes
import HandS.IsInst
import HandS.Strs
import HandS.Property
import HandS.ClsMeth
import HandS.OwnEq
import HandS.Star
import HandS.Deep
import HandS.DictComp
import HandS.WideBits
import HandS.Zip0
import HandS.Lambda
import HandS.Head0
import HandS.Head1
import HandS.Head2
import HandS.HeadEnd
import HandS.HeadHook1
import HandS.HeadHook2
import HandS.HeadHook4
import HandS.HeadNt
import HandS.EndTab
import HandS.HeadWalk
import PySem.Challenge.RW_sortdraws_k25_whole_things_ahead
import KE.KDictKeyed
import KE.KeyNested
import HandS.Nested
import KE.KDictDisplayH
import HandS.Conv
section
set_option Elab.async false
set_option linter.all false
set_option maxRecDepth 100000
set_option maxHeartbeats 0
/-! ### the head: what is looked at, the run -/
namespace SD
section
open PySem PySem.Spec PyProof.Rows L2
def top (i : Nat) : Stmt := PySem.Challenge.pw_sortdraws_k25_whole_things_ahead.main.body.getD i (.Pass ⟨0, 0, 0, 0⟩)
abbrev inClass (s : Stmt) (j : Nat) : Stmt := L2.inClass s j
end
namespace Hd
open PySem PySem.W PySem.Calls PyProof.Rows He He5
def dG (x : Str) (i : Nat) : DefA := ⟨fun K => ga K x, x, x, L2.defArgs (top i), L2.defBody (top i), L2.defScope (top i), [], []⟩
def dM (C m q : Str) (i j : Nat) (dfl : List Dv) : DefA := ⟨fun K => ma K (ga K C) m, m, q, L2.defArgs (inClass (top i) j), L2.defBody (inClass (top i) j), L2.defScope (inClass (top i) j), dfl, []⟩
def dW (T : String) (C m q : Str) (i j : Nat) : DefA := ⟨fun K => wf K (ga K C) T m, m, q, L2.defArgs (inClass (top i) j), L2.defBody (inClass (top i) j), L2.defScope (inClass (top i) j), [], []⟩
def fn : List DefA := [dG "is_integer" 29,
  dG "is_natural" 30,
  dG "is_name" 31,
  dG "is_thing" 32,
  dG "check_thing" 33,
  dG "check_pair" 34,
  dG "wrong_in_order" 35,
  dG "check_order" 36,
  dG "check_things" 38,
  dG "number_of" 40,
  dG "greatest_divisor" 41,
  dG "is_group" 44,
  dG "wrong_group" 45,
  dG "grouped" 47,
  dG "deed_with" 53,
  dG "is_term" 55,
  dG "wrong_term" 56,
  dG "shared_divisor" 57,
  dG "form_of" 62,
  dG "check_form" 63,
  dG "is_ticketed" 68,
  dG "wrong_ticket" 69,
  dG "summed" 70,
  dG "urn_of_rows" 72,
  dG "check_urn" 73,
  dG "pair_with" 74,
  dG "urn_with" 75,
  dG "cut" 77,
  dG "ways_on" 78,
  dG "forms_of" 79,
  dG "turned" 82,
  dG "ways" 83,
  dG "ways_ahead" 84,
  dG "_law_purse" 86,
  dG "_law_draw" 87,
  dG "_law_things" 88,
  dG "_law_order" 89,
  dG "_law_ranked" 90,
  dG "_law_groups" 91,
  dG "_law_text" 92,
  dG "_law_done" 93,
  dG "_law_rows" 94,
  dG "_law_urn_text" 95,
  dG "_law_total" 96,
  dG "_law_power" 97,
  dG "_law_sum" 98,
  dG "_law_tells" 99,
  dG "_law_next" 100,
  dG "_law_levels" 101,
  dG "_law_ahead" 102,
  dG "_law_right" 103,
  dG "law" 104,
  dG "cut_forms" 81,
  dM "Deed" "__init__" "Deed.__init__" 49 0 [],
  dM "Urn" "__init__" "Urn.__init__" 71 0 [],
  dM "Form" "__init__" "Form.__init__" 58 0 [.int 1],
  dM "Deed" "only" "Deed.only" 49 10 [],
  dM "Urn" "only" "Urn.only" 71 5 [],
  dM "Form" "__add__" "Form.__add__" 58 6 [],
  dM "Form" "__eq__" "Form.__eq__" 58 14 [],
  dW "property" "Deed" "groups" "Deed.groups" 49 5,
  dW "property" "Deed" "things" "Deed.things" 49 6,
  dW "property" "Urn" "pairs" "Urn.pairs" 71 2,
  dW "property" "Urn" "things" "Urn.things" 71 3,
  dW "property" "Form" "terms" "Form.terms" 58 2,
  dW "property" "Form" "parts" "Form.parts" 58 3,
  dW "classmethod" "Urn" "read" "Urn.read" 71 1]
def fa : List Fa := [.glo "is_integer",
  .glo "is_natural",
  .glo "is_name",
  .glo "is_thing",
  .glo "check_thing",
  .glo "check_pair",
  .glo "wrong_in_order",
  .glo "check_order",
  .glo "check_things",
  .glo "number_of",
  .glo "greatest_divisor",
  .glo "is_group",
  .glo "wrong_group",
  .glo "grouped",
  .glo "deed_with",
  .glo "is_term",
  .glo "wrong_term",
  .glo "shared_divisor",
  .glo "form_of",
  .glo "check_form",
  .glo "is_ticketed",
  .glo "wrong_ticket",
  .glo "summed",
  .glo "urn_of_rows",
  .glo "check_urn",
  .glo "pair_with",
  .glo "urn_with",
  .glo "cut",
  .glo "ways_on",
  .glo "forms_of",
  .glo "turned",
  .glo "ways",
  .glo "ways_ahead",
  .glo "_law_purse",
  .glo "_law_draw",
  .glo "_law_things",
  .glo "_law_order",
  .glo "_law_ranked",
  .glo "_law_groups",
  .glo "_law_text",
  .glo "_law_done",
  .glo "_law_rows",
  .glo "_law_urn_text",
  .glo "_law_total",
  .glo "_law_power",
  .glo "_law_sum",
  .glo "_law_tells",
  .glo "_law_next",
  .glo "_law_levels",
  .glo "_law_ahead",
  .glo "_law_right",
  .glo "law",
  .glo "cut_forms",
  .glo "Deed",
  .cls "Deed",
  .mkr "Deed",
  .glo "Urn",
  .cls "Urn",
  .mkr "Urn",
  .glo "Form",
  .cls "Form",
  .mkr "Form",
  .free "isinstance",
  .free "int",
  .free "bool",
  .free "str",
  .free "tuple",
  .free "list",
  .free "len",
  .free "all",
  .free "any",
  .free "enumerate",
  .free "range",
  .free "sorted",
  .free "abs",
  .free "divmod",
  .free "sum",
  .free "max",
  .free "min",
  .int "MOST_THINGS" 8,
  .int "MOST_DEEDS" 8,
  .int "MOST_TICKETS" 60,
  .str "LETTERS" "abcdefghijklmnopqrstuvwxyz",
  .str "SIGNS" "abcdefghijklmnopqrstuvwxyz0123456789",
  .str "DIGITS" "0123456789",
  .noat "Deed" "parted",
  .noat "Deed" "ranks",
  .noat "Urn" "rows",
  .noat "Urn" "named",
  .noat "Form" "sums",
  .noat "Form" "under",
  .meth "Deed" "only",
  .meth "Urn" "only",
  .meth "Form" "__add__",
  .meth "Form" "__eq__"]
def names : List Str := (["is_integer", "is_natural", "is_name", "is_thing", "check_thing", "check_pair", "wrong_in_order", "check_order", "check_things", "number_of", "greatest_divisor", "is_group", "wrong_group", "grouped", "deed_with", "is_term", "wrong_term", "shared_divisor", "form_of", "check_form"] : List Str) ++ (["is_ticketed", "wrong_ticket", "summed", "urn_of_rows", "check_urn", "pair_with", "urn_with", "cut", "ways_on", "forms_of", "turned", "ways", "ways_ahead", "_law_purse", "_law_draw", "_law_things", "_law_order", "_law_ranked", "_law_groups", "_law_text"] : List Str) ++ (["_law_done", "_law_rows", "_law_urn_text", "_law_total", "_law_power", "_law_sum", "_law_tells", "_law_next", "_law_levels", "_law_ahead", "_law_right", "law", "cut_forms", "Deed", "Urn", "Form", "__init__", "only", "__add__", "__eq__"] : List Str) ++ (["groups", "things", "pairs", "terms", "parts", "read"] : List Str)
/-- the objects that an object names, by the names above -/
def sel (o : Obj) : List Addr := match o.data with
  | .func fd => refV fd.code ++ refV fd.defaults
  | .cls cd => [cd.ns]
  | .dict es _ => es.toList.flatMap fun e => match e.key with
    | .str x _ => (match names.contains x with
      | true => refV e.val
      | false => [])
    | _ => []
  | .fields vs => (match o.cls with
    | .type n => (match n == "property" || n == "classmethod" with
      | true => vs.toList.flatMap refV
      | false => [])
    | _ => [])
  | _ => []
def stepS (g : Addr → Option Obj) (as : List Addr) : List Addr := as.flatMap fun a => match g a with
  | some o => sel o
  | none => []
def asS (g : Addr → Option Obj) : Nat → List Addr → List Addr
  | 0, as => as
  | n + 1, as => as ++ asS g n (stepS g as)
def asT (g : Addr → Option Obj) : List Addr := cStatics :: asS g 5 [mainGlobals]
def insB (K : Frag) (C : Addr) : Bool := eqO (findIn K (.ref C) "__class__") (some (some (.builtin "object.__class__"))) && (eqO (specialIn K (.builtin "object.__class__") "__get__") (some (some (.builtin "getset_descriptor.__get__"))) &&
  (decide (takesIn K (.builtin "object.__class__") = some true) && decide (mroIn K C (.type "object") = some true)))
def prpB (K : Frag) (C m : Str) : Bool := eqO (findIn K (.ref (ga K C)) m) (some (some (.ref (ma K (ga K C) m)))) && (eqO (specialIn K (.ref (ma K (ga K C) m)) "__get__") (some (some (.builtin "property.__get__"))) &&
  (decide (takesIn K (.ref (ma K (ga K C) m)) = some true) && (match recIn K (ma K (ga K C) m) "property" with
    | some (.ref _ :: _) => true
    | _ => false)))
def cmB (K : Frag) (C m : Str) : Bool := readsIn K (ga K C) (.type "type") && (eqO (specialIn K (.ref (ga K C)) "__getattribute__") (some (some (.builtin "type.__getattribute__"))) &&
  (wrapB K (ga K C) "classmethod" "classmethod.__get__" m && fnIn K (wf K (ga K C) "classmethod" m)))
def opB (K : Frag) (C : Str) : Bool := selfFirst K (ga K C) && (eqO (findIn K (.ref (ga K C)) "__ne__") (some (some (.builtin "object.__ne__"))) && decide (mroIn K (ga K C) (.type "object") = some true))
def exs : List (Frag → Bool) := [fun K => insB K (ga K "Deed"),
  fun K => insB K (ga K "Urn"),
  fun K => insB K (ga K "Form"),
  fun K => prpB K "Deed" "groups",
  fun K => prpB K "Deed" "things",
  fun K => prpB K "Urn" "pairs",
  fun K => prpB K "Urn" "things",
  fun K => prpB K "Form" "terms",
  fun K => prpB K "Form" "parts",
  fun K => cmB K "Urn" "read",
  fun K => opB K "Form"]
def ex (K : Frag) : Bool := exs.all fun f => f K
def tf : List Defn := [("cut_forms", none)]
abbrev Al : Type := Bool × List He.FnW
def obsK (g : Addr → Option Obj) (K : Frag) : Al := ((fa.all fun f => f.ok K) && ((fn.all fun d => d.ok K) && (ex K && tabsB g tf K)), fn.map fun d => fnA K (d.at_ K))
def obsH (g : Addr → Option Obj) : Al := obsK g (frT g (asT g))
def valH : Al := (true, fn.map DefA.val)
structure Says (h : Heap) (K : Frag) : Prop where
  fa : ∀ f ∈ fa, f.ok K = true
  fn : ∀ d ∈ fn, ∃ fd, L2.FunD K d.name d.qual d.params d.body d.scope (d.dvs K) (d.kws K) (d.at_ K) fd
  ex : ex K = true
  hd : ∀ p ∈ tf, codeHdIn K (cT K p).1 (cT K p).2 = true
  out : ∀ p ∈ tf, K.lookup (cT K p).2 = none
  empty : ∀ p ∈ tf, h.get? (cT K p).2 = some { cls := .none, data := .fields #[] }
theorem says_of {h : Heap} (e : obsH h.get? = valH) : Says h (frT h.get? (asT h.get?)) := by
  unfold obsH at e
  have hin : ∀ (a : Addr) (o : Obj), h.get? a = some o → emptyTab o = true → (frT h.get? (asT h.get?)).lookup a = none := fun a o q z => frT_none q z
  generalize frT h.get? (asT h.get?) = K at *
  have e1 : ((Hd.fa.all fun f => f.ok K) && ((Hd.fn.all fun d => d.ok K) && (Hd.ex K && tabsB h.get? tf K))) = true := congrArg (fun z : Al => z.1) e
  have e2 : Hd.fn.map (fun d => fnA K (d.at_ K)) = Hd.fn.map DefA.val := congrArg (fun z : Al => z.2) e
  obtain ⟨h1, h2⟩ := ba e1
  obtain ⟨h3, h4⟩ := ba h2
  obtain ⟨h5, h6⟩ := ba h4
  have key : ∀ p ∈ tf, codeHdIn K (cT K p).1 (cT K p).2 = true ∧ ∃ o, h.get? (cT K p).2 = some o ∧ emptyTab o = true := fun p hp => by
    obtain ⟨h3, h4⟩ := ba (List.all_eq_true.mp h6 p hp)
    refine ⟨h3, ?_⟩
    cases q : h.get? (cT K p).2 with
    | none =>
      rw [q] at h4
      cases h4
    | some o =>
      rw [q] at h4
      exact ⟨o, rfl, h4⟩
  refine ⟨fun f hf => List.all_eq_true.mp h1 f hf, fun d hd => ?_, h5, fun p hp => (key p hp).1, fun p hp => ?_, fun p hp => ?_⟩
  · have := List.map_inj_left.mp e2 d hd
    exact DefA.funD this (List.all_eq_true.mp h3 d hd)
  · obtain ⟨_, o, q, z⟩ := key p hp
    exact hin _ _ q z
  · obtain ⟨_, o, q, z⟩ := key p hp
    rw [q, emptyTab_eq z]
def hk : PySem.W.Hook where
  α := Al
  obs := fun s => obsH s.heap.get?
  val := fun _ => valH
  says := fun _ h => ∃ K : Frag, K.In h ∧ Says h K
  of := fun _ _ e => ⟨_, frT_in, says_of e⟩
  keeps := fun _ _ _ ⟨K, hK, c⟩ k => ⟨K, Frag.In.keeps hK k, ⟨c.fa, c.fn, c.ex, c.hd, c.out, fun p hp => k _ _ (c.empty p hp)⟩⟩
def ob (s : SharedT) : Al := obsH (HandSHeadRun.getT s)
theorem ob_eq (s : SharedT) : ob s = hk.obs s.abs := by
  have e : HandSHeadRun.getT s = s.abs.heap.get? := funext (HandSHeadRun.getT_eq s)
  show obsH (HandSHeadRun.getT s) = obsH s.abs.heap.get?
  rw [e]
end Hd
end SD
end
section
set_option Elab.async false
set_option linter.all false
set_option maxRecDepth 100000
set_option maxHeartbeats 0
namespace SD
namespace Hd
open PySem PySem.W PySem.Calls PyProof.Rows He He5
abbrev R : PySem.W.OpenRow := PySem.W.OpenLaw.row PySem.Challenge.rw_sortdraws_k25_whole_things_ahead
def loose : List Str := (["_wall", "WrongValue", "WrongName", "NoAnswer", "InvalidText", "InvalidNumber", "InvalidParts", "NotADeed", "NotAnUrn", "NotAForm", "OtherThings", "InvalidGroups", "InvalidOrder", "InvalidThings", "InvalidKeys", "InvalidUrn", "InvalidTerms", "UnknownThing", "TooMany", "NotWhole"] : List Str) ++ (["MOST_THINGS", "MOST_DEEDS", "MOST_TICKETS", "MOST_DRAWS", "LETTERS", "SIGNS", "DIGITS", "is_integer", "is_natural", "is_name", "is_thing", "check_thing", "check_pair", "wrong_in_order", "check_order", "check_any_order", "check_things", "check_draws", "number_of", "greatest_divisor"] : List Str) ++ (["lowest", "is_group", "wrong_group", "wrong_key", "grouped", "then", "Deed", "done", "check_deed", "check_mate", "deed_with", "is_term", "wrong_term", "shared_divisor", "Form", "power", "numerator_at", "text_of", "form_of", "check_form"] : List Str) ++ (["integer_with", "term_with", "form_with", "is_ticketed", "wrong_ticket", "summed", "Urn", "urn_of_rows", "check_urn", "pair_with", "urn_with", "cut", "ways_on", "forms_of", "cut_forms", "turned", "ways", "ways_ahead", "_law_purse", "_law_draw"] : List Str) ++ (["_law_things", "_law_order", "_law_ranked", "_law_groups", "_law_text", "_law_done", "_law_rows", "_law_urn_text", "_law_total", "_law_power", "_law_sum", "_law_tells", "_law_next", "_law_levels", "_law_ahead", "_law_right"] : List Str)
theorem glue {α β γ δ : Type} {x : Option α} {f : α → β} {f2 : α → γ} {g : α → δ} {a : β} {b : γ} {c : δ} (h1 : x.map (fun s => (f s, f2 s)) = some (a, b)) (h2 : x.map g = some c) : x.map (fun s => (f s, f2 s, g s)) = some (a, b, c) := by
  cases x with
  | none => cases h1
  | some s =>
    have e1 : (f s, f2 s) = (a, b) := Option.some.inj h1
    have e2 : g s = c := Option.some.inj h2
    injection e1 with e3 e4
    show some (f s, f2 s, g s) = some (a, b, c)
    rw [e3, e4, e2]
theorem runA (w : World) (os : OsState) : (HandSHeadRun.endF (HandSHeadRun.stepQ (HandSHeadRun.denQ HandSHeadRun.tabQ) R.prog w) 14000 R.prog w os).map (fun s => (HandSHeadRun.looksF R.prog (boot_heap w.params) s.abs, HandSHeadRun.seenQ (PySem.W.view R.prog [104]) loose (importedModules R.prog.main.body) (fun s => xlAt (PySem.W.view R.prog [104]) [] s && recOk R.toRowW.records s) s.abs)) = some (true, openGood (PySem.W.view R.prog [104]) loose) := by kernel_rfl
theorem runB (w : World) (os : OsState) : (HandSHeadRun.endF (HandSHeadRun.stepQ (HandSHeadRun.denQ HandSHeadRun.tabQ) R.prog w) 14000 R.prog w os).map ob = some valH := by kernel_rfl
theorem run (w : World) : HandSHeadRun.RunEq R (PySem.W.view R.prog [104]) hk ob 14000 loose w := fun os => glue (runA w os) (runB w os)
theorem f9 : R.prog.bare := ⟨rfl, rfl, rfl, rfl, rfl, by decide +kernel⟩
theorem fin (call : WalkO (view R.prog [104]) loose (XL (view R.prog [104]) []) hk.says R.toRowW (HandSHeadRun.topDef R.prog 104) [] (fun f vs => PySem.call f vs)) : PySem.Challenge.rw_sortdraws_k25_whole_things_ahead.Holds := by
  w_on; o_law
  refine HandSHeadRun.head_any (r := R) (q := view R.prog [104]) (H := hk) (ob := ob) (M := 14000) (loose := loose) (d := HandSHeadRun.topDef R.prog 104) (kwd := []) ob_eq
    (by kernel_rfl) (fun s => by kernel_rfl) run (by kernel_rfl) (by kernel_rfl) (by kernel_rfl) (by rfl) (by assumption) (by decide +kernel) f9 ?hw call
  case hw => w_witness2
theorem fin_name : (HandSHeadRun.topDef R.prog 104).name = ("law" : PySem.Str) := by kernel_rfl
theorem fin_dfl : (HandSHeadRun.topDef R.prog 104).params.defaults = [] := by kernel_rfl
end Hd
end SD
end
section
set_option Elab.async false
set_option linter.all false
set_option maxRecDepth 100000
set_option maxHeartbeats 4000000
/-! ### enumerate of a tuple -/
namespace SD
open PySem PySem.Spec PyProof.Rows L2
theorem draws_tuple {prog : Program} {w : World} {A : Around} (hh : A.handled = none) (it l : Addr) (hne : l ≠ it) (items : Array Value) :
    Draws prog w A it [it, l] items.size (fun i v => items[i]? = some v) (fun i h => h.IsTupleIter it l i ∧ h.IsTuple l items) where
  live := fun _ _ st => let ⟨o, ho, _⟩ := st.1; ⟨o, ho⟩
  frame := fun _ _ _ st hk => ⟨let ⟨o, ho, q⟩ := st.1; ⟨o, hk it (by simp) o ho, q⟩, let ⟨o, ho, q⟩ := st.2; ⟨o, hk l (by simp) o ho, q⟩⟩
  item := fun i s Q E hi st hQ => by
    refine RZ.nextOf_tuple_item st.1 st.2 (x := items[i]) (by simp [hi]) fun h' hit' hs' => ?_
    obtain ⟨o, ho, q⟩ := st.2
    exact hQ _ h' s.toks (by simp [hi]) ⟨hit', ⟨o, (hs'.2 l hne).trans ho, q⟩⟩ hs'
  done := fun s Q E st hE => RZ.nextOf_tuple_end hh st.1 st.2 (by simp) hE
/-- the tuple at a, each item in a new pair -/
def ItE (K : PySem.W.Frag) (a : Addr) : It :=
  ⟨fun i H => ∃ (xs : List V) (x : V), SqT K H a xs ∧ xs[i]? = some x, fun i H v H' => ∃ T x, v = .ref T ∧ H T = none ∧ H' = upd H T (.tup [.int (i : Nat), x]) ∧ ∀ xs, SqT K H a xs → xs[i]? = some x, fun i H => ∃ xs : List V, SqT K H a xs ∧ i = xs.length⟩
theorem turn_enumT {P : Program} {w : World} {K : PySem.W.Frag} {elts : List Expr} {kk : Nat} {tpos : Pos} (a e it : Addr) :
    Turn P w K (.Tuple elts kk tpos) (ItE K a) [e, it] e (fun i h => (∃ old, IsEnum h e it ((i : Nat) : Int) old) ∧ h.IsTupleIter it a i ∧ e ≠ it) where
  mem := by simp
  obj := fun i h st b hb => by
    obtain ⟨⟨old, he⟩, ⟨o, ho, hc, hd⟩, _⟩ := st
    have e' : b = e ∨ b = it := by simpa using hb
    rcases e' with z | z
    · rw [z]; exact ⟨_, he, fun v q => nomatch q⟩
    · rw [z]; exact ⟨o, ho, fun v q => by rw [hd] at q; cases q⟩
  keep := fun i h h' st k => let ⟨⟨old, he⟩, ⟨o, ho, q⟩, hne⟩ := st; ⟨⟨old, k e (by simp) _ he⟩, ⟨o, k it (by simp) o ho, q⟩, hne⟩
  item := by
    intro X hP hw hK hc i pins s σ H E I hf st hg
    subst hP hw hK
    obtain ⟨⟨old, he⟩, hit, hne⟩ := st
    obtain ⟨xs, x, hq, hx⟩ := hg
    obtain ⟨its, rv, p, hz⟩ := I.tuple hq
    obtain ⟨u, hu, ru⟩ := rv.get hx
    have hel : e < s.heap.objs.size := Heap.lt_size he
    have hil : it < s.heap.objs.size := by obtain ⟨_, q, _⟩ := hit; exact Heap.lt_size q
    have hai : a ≠ it := by
      obtain ⟨o1, q1, c1, _⟩ := hit
      obtain ⟨o2, q2, c2, _⟩ := p
      intro z
      subst z
      rw [q1] at q2
      cases q2
      rw [c1] at c2
      exact absurd (Value.type.inj c2) (by decide)
    have hea : e ≠ a := by
      obtain ⟨o2, q2, c2, _⟩ := p
      intro z
      subst z
      rw [he] at q2
      cases q2
      exact absurd (Value.type.inj c2) (by decide)
    have hlt : i < its.toArray.size := by
      have := (List.getElem?_eq_some_iff.mp hu).1
      simpa using this
    refine wpAny_pyNext_enum_itemD (draws_tuple (A := X.A.in1) (I.ok.hd hc) it a hai its.toArray) he ⟨hit, p⟩ hlt hne (by simp; exact ⟨hne, hea⟩) fun y h' tk hy ho hst hT hsz hk => ?_
    have ey : y = u := by
      have : its[i]? = some y := by simpa using hy
      rw [hu] at this
      exact (Option.some.inj this).symm
    subst ey
    refine ⟨_, rfl, wpAny_letOwnedTupleGo_enum (s := { s with heap := h', toks := tk + 1 }) ho fun h'' he' sb => ?_⟩
    have hT2 : h''.get? s.heap.objs.size = some { cls := .type "tuple", data := .seq #[.int i tk, y] } := (sb.2 _ (Nat.ne_of_gt hel)).trans hT
    have new : ObjOk X.prog X.w (upd H s.heap.objs.size (.tup [.int (i : Nat), x])) h'' s.heap.objs.size (.tup [.int (i : Nat), x]) :=
      ⟨by show 2 ≤ sizeLine; decide, [.int i tk, y], .cons ⟨_, rfl⟩ (.cons ru .nil), ⟨_, hT2, rfl, _, rfl⟩⟩
    have I1 : Inv X pins σ (upd H s.heap.objs.size (.tup [.int (i : Nat), x])) { s with heap := h'', toks := tk + 1 } :=
      I.turnedNew (ch := [e, it]) (fun b ob hb q => (sb.2 b (fun z => hb (by simp [z]))).trans (hk b ob (fun z => hb (by simp [z])) (fun z => hb (by simp [z])) q)) hf (Nat.le_refl _) new
    refine ⟨.ref s.heap.objs.size, _, I1, rfl, ⟨_, x, rfl, I.hok.fresh (Nat.le_refl _), rfl, fun ys hy => by rw [I.tuple_inj hy hq]; exact hx⟩, ⟨⟨y, ?_⟩, let ⟨o, ho, q⟩ := hst.1; ⟨o, (sb.2 it (Ne.symm hne)).trans ho, q⟩, hne⟩, fun b hb => ?_⟩
    · have e1 : ((i + 1 : Nat) : Int) = (i : Int) + 1 := by omega
      rw [e1]; exact he'
    · have hb' : b < s.heap.objs.size := by
        have e' : b = e ∨ b = it := by simpa using hb
        rcases e' with z | z
        · rw [z]; exact hel
        · rw [z]; exact hil
      rw [upd_ne (Nat.ne_of_lt hb')]
      exact (hf b hb).1
  done := by
    intro X hP hw hK hc i pins s σ H E I hf st hg
    subst hP hw hK
    obtain ⟨⟨old, he⟩, hit, hne⟩ := st
    obtain ⟨xs, hq, hx⟩ := hg
    obtain ⟨its, rv, p, hz⟩ := I.tuple hq
    obtain ⟨f0, f1, f2, f3, f4, f5⟩ := hf it (by simp)
    have hl := rv.length
    have hai : a ≠ it := by
      obtain ⟨o1, q1, c1, _⟩ := hit
      obtain ⟨o2, q2, c2, _⟩ := p
      intro z
      subst z
      rw [q1] at q2
      cases q2
      rw [c1] at c2
      exact absurd (Value.type.inj c2) (by decide)
    have e0 : i = its.toArray.size := by simp; omega
    subst e0
    exact wpAny_pyNext_enum_endD (draws_tuple (A := X.A.in1) (I.ok.hd hc) it a hai its.toArray) he ⟨hit, p⟩ fun h' eb => ⟨rfl, I.turned (t' := s.toks) (fun b o hb q => eb b o hb q) f0 f1 f3 f4 f5⟩
  self := fun A i s Q E st h => let ⟨⟨_, he⟩, _⟩ := st; wpAny_pyIter_enum he h
section
variable {prog : Program} {w : World} {A : Around} {E : Value → Shared → Prop} {s : Shared}
open AutoSeq1 (wpAny_loadPart')
theorem meets_enumT_new (l : Addr) (items : Array Value) :
    Meets (Builtin.«enumerate.__new__» ⟨[.type "enumerate", .ref l], []⟩) (fun _ R s => s.heap.IsTuple l items ∧
      R (.ok (.ret (.ref (s.heap.push { cls := .type "tuple_iterator", data := .fields #[.ref l, .int 0 0] }).objs.size)))
        { s with heap := (s.heap.push { cls := .type "tuple_iterator", data := .fields #[.ref l, .int 0 0] }).push { cls := .type "enumerate", data := .fields #[.none, .bool false, .ref s.heap.objs.size, rawInt 0, .none, .none] } }) :=
  .of_wp fun prog w A R s h => by
    obtain ⟨hp, g, d, tk, os⟩ := s; obtain ⟨hl, h⟩ := h
    have hsub := sub_enumerate
    obtain ⟨ol, hl0, hc, n, hd⟩ := id hl
    wp_walk using wpAny_loadPart' hl0
    refine wpAny_stack_any fun st => wpAny_pure ?_
    split
    · rename_i c _ _ _ _ _
      cases (c == Value.type "enumerate")
      · wp_walk using wpAny_loadPart' hl0, wpAny_pyIter_tuple hl
        exact ⟨_, rfl, h⟩
      · wp_walk using wpAny_loadPart' hl0, wpAny_pyIter_tuple hl
        exact ⟨_, rfl, h⟩
    · wp_walk using wpAny_loadPart' hl0, wpAny_pyIter_tuple hl
      exact ⟨_, rfl, h⟩
theorem call_enumT {l : Addr} {items : Array Value} {Q : Value → Shared → Prop} (hL : s.heap.IsTuple l items)
    (h : ∀ h', IsEnum h' (s.heap.objs.size + 1) s.heap.objs.size 0 .none → h'.IsTupleIter s.heap.objs.size l 0 → h'.objs.size = s.heap.objs.size + 2 →
      (∀ b o, s.heap.get? b = some o → h'.get? b = some o) → Q (.ref (s.heap.objs.size + 1)) { s with heap := h' }) :
    wpAny (model prog w) A (call (.type "enumerate") [.ref l]) Q E s := by
  refine callType_new F.called_enumerate (by decide) (F.typeCall_enumerate_1 _) (F.newCall_enumerate_1 _) (fun obj => F.args_object_init_2 obj _) F.entry_enumerate_new
    (meets_enumT_new l items) ⟨hL, ?_⟩
  have hz : (s.heap.push { cls := .type "tuple_iterator", data := .fields #[.ref l, .int 0 0] }).objs.size = s.heap.objs.size + 1 := Heap.size_push ..
  show _ ∧ _
  rw [hz]
  have he : IsEnum ((s.heap.push { cls := .type "tuple_iterator", data := .fields #[.ref l, .int 0 0] }).push
      { cls := .type "enumerate", data := .fields #[.none, .bool false, .ref s.heap.objs.size, rawInt 0, .none, .none] }) (s.heap.objs.size + 1) s.heap.objs.size 0 .none := by
    have := Heap.get?_push_size (s.heap.push { cls := .type "tuple_iterator", data := .fields #[.ref l, .int 0 0] })
      (o := { cls := .type "enumerate", data := .fields #[.none, .bool false, .ref s.heap.objs.size, rawInt 0, .none, .none] }) rfl
    rw [hz] at this; exact this
  refine ⟨⟨_, he, rfl⟩, h _ he ⟨_, Heap.get?_push_of_some _ (Heap.get?_push_size _ rfl), rfl, rfl⟩ (by rw [Heap.size_push, hz]) fun b o x => Heap.get?_push_of_some _ (Heap.get?_push_of_some _ x)⟩
end
def iEnumT (K : PySem.W.Frag) (ta : TA) : TI := fun σ H R => ta σ H fun vs H1 => ∃ a xs, vs = [.ref a] ∧ SqT K H1 a xs ∧ R (ItE K a) H1
theorem pi_enumT {X : Cx} {e : Expr} {ta : TA} {p pos tpos : Pos} {elts : List Expr} {kk : Nat} (hg : Gl X "enumerate") (hm : X.mg "enumerate" = none) (ha : PA X [e] ta) (hs : starEach [e] X.env = [(false, eval e X.env)] := by rfl) :
    PI X (.Tuple elts kk tpos) (.Call (.Name "enumerate" p) [e] [] pos) (iEnumT X.K ta) := by
  refine ⟨fun pins s σ H R I h => ?_⟩
  refine Call_ (ld_blt I hg hm boot_enumerate (PyProof.Rows.callWith_type1 (thn (ha.run pos pins s σ H _ I h) fun us s1 ⟨vs, H1, I1, r1, q1⟩ => ?_) hs rfl))
  obtain ⟨a, xs, ex, hq, q⟩ := q1
  subst ex
  cases r1 with
  | cons r rr =>
    cases rr
    cases r
    obtain ⟨its, rv, p', hz⟩ := I1.tuple hq
    refine call_enumT p' fun h' he hit hsz hk => wpAny_pyIter_enum he ?_
    have I2 : Inv X pins σ H1 { s1 with heap := h' } := I1.kept (t' := s1.toks) hk
    refine ⟨s1.heap.objs.size + 1, [s1.heap.objs.size + 1, s1.heap.objs.size], _, _, H1, rfl, I2, turn_enumT a (s1.heap.objs.size + 1) s1.heap.objs.size, ⟨⟨.none, he⟩, hit, Nat.succ_ne_self _⟩, fun b hb => ?_, q⟩
    have e' : b = s1.heap.objs.size + 1 ∨ b = s1.heap.objs.size := by simpa using hb
    have hle : s1.heap.objs.size ≤ b := by
      rcases e' with z | z
      · rw [z]; exact Nat.le_add_right _ _
      · rw [z]; exact Nat.le_refl _
    exact I1.fpOk hle (I1.hok.fresh hle)
/-- for i, x in enumerate(t) -/
theorem for_enumT {K : PySem.W.Frag} {a : Addr} {xs : List V} {g : TG} {tb : TS} {D : Ends} {σ : L2.St} {H : Hp} (Pv : Nat → L2.St → Hp → Prop) (h0 : Pv 0 σ H) (hl : ∀ i σ H, i ≤ xs.length → Pv i σ H → SqT K H a xs)
    (hs : ∀ i x σ H T, xs[i]? = some x → Pv i σ H → H T = none → g (.ref T) σ (upd H T (.tup [.int (i : Nat), x])) fun σ2 H2 => tb { D with nx := Pv (i + 1), ct := Pv (i + 1), bk := D.nx } σ2 H2) (hd : ∀ σ H, Pv xs.length σ H → D.nx σ H) :
    ∃ W : Nat → Nat → L2.St → Hp → Prop, (∃ m, W 0 m σ H) ∧ ∀ i m σ H, W i m σ H →
      ((ItE K a).stop i H ∧ D.nx σ H) ∨ ((ItE K a).go i H ∧ ∃ N : L2.St → Hp → Prop, (∀ σ' H', N σ' H' → ∃ m', m' < m ∧ W (i + 1) m' σ' H') ∧ ∀ x H', (ItE K a).yld i H x H' → g x σ H' fun σ2 H2 => tb { D with nx := N, ct := N, bk := D.nx } σ2 H2) := by
  refine ⟨fun i m σ H => i ≤ xs.length ∧ m = xs.length - i ∧ Pv i σ H, ⟨_, Nat.zero_le _, rfl, h0⟩, fun i m σ H ⟨hi, hm, hp⟩ => ?_⟩
  by_cases e : i = xs.length
  · subst e
    exact .inl ⟨⟨xs, hl _ σ H (Nat.le_refl _) hp, rfl⟩, hd σ H hp⟩
  · have hlt : i < xs.length := by omega
    refine .inr ⟨⟨xs, xs[i], hl i σ H hi hp, List.getElem?_eq_getElem hlt⟩, Pv (i + 1), fun σ' H' z => ⟨xs.length - (i + 1), by omega, by omega, rfl, z⟩, fun x H' hy => ?_⟩
    obtain ⟨T, y, rfl, hT, rfl, hy⟩ := hy
    exact hs i y σ H T (hy xs (hl i σ H hi hp)) hp hT
end SD
end
section
set_option Elab.async false
set_option linter.all false
set_option maxRecDepth 100000
set_option maxHeartbeats 4000000
/-! ### comprehensions by clauses: dicts -/
namespace SD
open PySem PySem.Spec PyProof.Rows L2
/-- what a clause's body is to reach -/
abbrev TBd := L2.St → Hp → (Hp → Prop) → Prop
/-- one clause that walks J: an invariant by turn and measure -/
def CL (J : It) (vs : List Nat) (g : TG) (tt : TT) (tB : TBd) (st0 : L2.St) (H : Hp) (Fin : Hp → Prop) : Prop :=
  ∃ W : Nat → Nat → Hp → Prop, (∃ m, W 0 m H) ∧ ∀ i m H, W i m H →
    (J.stop i H ∧ Fin H) ∨ (J.go i H ∧ ∃ Nx : Hp → Prop, (∀ H', Nx H' → ∃ m', m' < m ∧ W (i + 1) m' H') ∧
      ∀ x H', J.yld i H x H' → g x st0 H' fun s2 H2 => wipe s2 vs = st0 ∧ tt s2 H2 fun b H3 => if b = true then tB s2 H3 Nx else Nx H3)
def BodyR (Y : Cx) (B : Sem Fin) (c : Code) (vs : List Nat) (t : TBd) : Prop :=
  ∀ (pins : List (Addr × Obj)) (s : Shared) (v : L2.St) (H : Hp) (N : Hp → Prop), Inv Y pins v H s → t v H N →
    wpAny (model Y.prog Y.w) Y.A B (fun fin s' => fin = .again c ∧ ∃ H', Inv Y pins (wipe v vs) H' s' ∧ N H') (fun _ _ => False) s
/-- a turn of a clause -/
def turnOf (tg : Expr) (pos : Pos) (ifs : List Expr) (env : Env) (it : Value) (B : Sem Fin) (c : Code) : Sem Fin := do
  standAt pos
  match ← pyNext it with
  | none => pure (.done .next)
  | some v =>
    letOwnedTupleGo tg it v
    assign tg env v
    let mut ok := true
    for c in ifs do
      if ok then ok ← isTrue c env (eval c env)
    if ok then B else again c
section
variable {Y : Cx} {pins : List (Addr × Obj)} {v : L2.St} {H : Hp} {s : Shared}
theorem inv_wipe (I : Inv Y pins v H s) (vs : List Nat) : Inv Y pins (wipe v vs) H s :=
  I.weak (wipe_length v vs) fun _ _ e => (wipe_some e).1
theorem clause_loop {tg kx vx : Expr} {gens : List Comprehension} {scope : Scope} {pos pos' : Pos} {ifs : List Expr} {k : Nat} {it : Addr} {acc : Value} {B : Sem Fin} {J : It} {fp : List Addr} {tn : Nat → Heap → Prop} {vs : List Nat} {g : TG} {tt : TT} {tB : TBd} {Fin : Hp → Prop} {R : Result → Shared → Prop}
    (hc : Y.calm = true) (hxe : Y.xe = fun _ _ => False) (T : Turn Y.prog Y.w Y.K tg J fp it tn)
    (ht : compTurn (.DictComp kx vx gens scope pos') k (.ref it) acc Y.env = turnOf tg pos ifs Y.env (.ref it) B (.compLoop (.DictComp kx vx gens scope pos') k (.ref it) acc Y.env))
    (pg : PG Y tg g) (pt : PTs Y ifs tt) (hB : BodyR Y B (.compLoop (.DictComp kx vx gens scope pos') k (.ref it) acc Y.env) vs tB) (I : Inv Y pins (wipe v vs) H s) (fpo : ∀ b ∈ fp, FpOk Y pins H b) (st : tn 0 s.heap)
    (h : CL J vs g tt tB (wipe v vs) H Fin) (hR : ∀ s' H', Inv Y pins (wipe v vs) H' s' → (∀ b ∈ fp, H' b = none) → Fin H' → R (.ok .next) s') :
    codeAny (model Y.prog Y.w) Y.A (.compLoop (.DictComp kx vx gens scope pos') k (.ref it) acc Y.env) R s := by
  obtain ⟨W, ⟨m0, w0⟩, turn⟩ := h
  have own : ∀ {G : Hp}, (∀ b ∈ fp, G b = none) → ∀ b ∈ fp, FpOk Y pins G b := fun hn b hb => ⟨hn b hb, (fpo b hb).2⟩
  refine codeAny_loop rfl (fun n s' => ∃ i G, Inv Y pins (wipe v vs) G s' ∧ tn i s'.heap ∧ (∀ b ∈ fp, G b = none) ∧ W i n G) ?_ m0 ⟨0, H, I, st, fun b hb => (fpo b hb).1, w0⟩
  rintro n sa ⟨i, Ga, Ia, ta, na, wa⟩
  show wpAny _ Y.A ((compTurn (.DictComp kx vx gens scope pos') k (.ref it) acc Y.env).onRaise (fun x => do noteFrame x Y.env; theTreesLotGoes x)) _ _ sa
  refine wpAny_noted ?_
  rw [ht]
  unfold turnOf
  refine wpAny_bind (wpAny_standAt (wpAny_bind ?_))
  rcases turn i n Ga wa with ⟨stop, fin⟩ | ⟨go, Nx, hNx, step⟩
  · refine thnF (T.done Y rfl rfl rfl hc i pins sa _ Ga (fun _ _ => False) Ia (own na) ta stop) fun r sb ⟨er, Ib⟩ => ?_
    subst er
    exact wpAny_pure (hR sb Ga Ib na fin)
  · refine thnF (T.item Y rfl rfl rfl hc i pins sa _ Ga (fun _ _ => False) Ia (own na) ta go) fun r sb ⟨u, er, hb⟩ => ?_
    subst er
    refine wpAny_bind (thnF hb fun _ sc ⟨x, Gc, Ic, rc, yc, tc, nc⟩ => ?_)
    have Ip := Ic.pinned (own nc) (T.obj _ _ tc)
    have r1 := pg.run _ sc _ Gc x u _ Ip rc (step x Gc yc)
    rw [hxe] at r1
    refine wpAny_bind (thnF r1 fun _ sd ⟨vd, Gd, Id, wd, qd⟩ => ?_)
    have r2 := pt.run _ sd vd Gd _ Id qd
    rw [hxe] at r2
    refine wpAny_bind (thnF r2 fun b se ⟨Ge, Ie, qe⟩ => ?_)
    have back : ∀ {s' : Shared} {G : Hp}, Inv Y (pins ++ pinsAt fp sc.heap) (wipe v vs) G s' → Nx G → ∃ m, m < n ∧ ∃ i G, Inv Y pins (wipe v vs) G s' ∧ tn i s'.heap ∧ (∀ b ∈ fp, G b = none) ∧ W i m G := by
      intro s' G Iz nz
      obtain ⟨m', hm, w'⟩ := hNx G nz
      have at_ : ∀ b ∈ fp, ∀ o, sc.heap.get? b = some o → s'.heap.get? b = some o ∧ G b = none := fun b hb o eo =>
        have z := Iz.pin (b, o) (List.mem_append_right _ (List.mem_append_right _ (mem_pinsAt hb eo)))
        ⟨z.1, z.2.1⟩
      refine ⟨m', hm, i + 1, G, Iz.unpinned, T.keep _ _ _ tc fun b hb o eo => (at_ b hb o eo).1, fun b hb => ?_, w'⟩
      obtain ⟨o, eo, _⟩ := T.obj _ _ tc b hb
      exact (at_ b hb o eo).2
    have Iw := inv_wipe Ie vs
    rw [wd] at Iw
    cases b with
    | false =>
      rw [if_neg (by decide)] at qe
      exact wpAny_pure ⟨rfl, back Iw qe⟩
    | true =>
      rw [if_pos rfl] at qe
      have r3 := hB _ se vd Ge Nx Ie qe
      rw [wd] at r3
      refine thnF r3 fun fin sf ⟨ef, Gf, If, qf⟩ => ?_
      subst ef
      exact ⟨rfl, back If qf⟩
end
/-- d[k] = v of a comprehension, by values -/
abbrev TDs := V → V → Hp → (Hp → Prop) → Prop
def PDs (Y : Cx) (D : Addr) (t : TDs) : Prop :=
  ∀ (pins : List (Addr × Obj)) (s : Shared) (v : L2.St) (H : Hp) (y z : V) (u r : Value) (N : Hp → Prop), Inv Y pins v H s → RelV y u → RelV z r → t y z H N →
    wpAny (model Y.prog Y.w) Y.A (dictSet D u r) (fun _ s' => ∃ H', Inv Y pins v H' s' ∧ N H') (fun _ _ => False) s
def tPut (t : TDs) (tk tv : TE) : TBd := fun v H N => tk v H fun y H1 => tv v H1 fun z H2 => t y z H2 N
/-- the store of a dict's entry -/
def emitD (kx vx : Expr) (D : Addr) (env : Env) : Sem Unit := do
  let kv ← eval kx env
  let vv ← holding [kv] (eval vx env)
  standAt { kx.pos with endLine := vx.pos.endLine, endCol := vx.pos.endCol }
  holding [kv, vv] (dictSet D kv vv)
def emitC (kx vx : Expr) (D : Addr) (env : Env) (c : Code) : Sem Fin := do
  emitD kx vx D env
  again c
theorem emit_body {Y : Cx} {kx vx : Expr} {D : Addr} {tk tv : TE} {t : TDs} {c : Code} {vs : List Nat} (hxe : Y.xe = fun _ _ => False) (hk : PE Y kx tk) (hv : PE Y vx tv) (hd : PDs Y D t) : BodyR Y (emitC kx vx D Y.env c) c vs (tPut t tk tv) := by
  intro pins s v H N I h
  unfold emitC emitD
  have r1 := hk.run pins s v H _ I h
  rw [hxe] at r1
  refine wpAny_bind (wpAny_bind (thnF r1 fun kv sa ⟨y, Ha, Ia, ra, qa⟩ => ?_))
  have r2 := hv.run pins sa v Ha _ Ia qa
  rw [hxe] at r2
  refine wpAny_bind (wpAny_holding (thnF r2 fun vv sb ⟨z, Hb, Ib, rb, qb⟩ => ?_))
  exact wpAny_bind (wpAny_standAt (wpAny_holding (thnF (hd pins sb v Hb y z kv vv N Ib ra rb qb) fun _ sc ⟨Hc, Ic, qc⟩ => wpAny_pure ⟨rfl, Hc, inv_wipe Ic vs, qc⟩)))
theorem turn_d1 (kx vx tg iter : Expr) (ifs : List Expr) (scope : Scope) (pos : Pos) (it : Value) (D : Addr) (env : Env) :
    compTurn (.DictComp kx vx [⟨tg, iter, ifs, 0⟩] scope pos) 0 it (.ref D) env = turnOf tg iter.pos ifs env it (emitC kx vx D env (.compLoop (.DictComp kx vx [⟨tg, iter, ifs, 0⟩] scope pos) 0 it (.ref D) env)) (.compLoop (.DictComp kx vx [⟨tg, iter, ifs, 0⟩] scope pos) 0 it (.ref D) env) := by rfl
theorem turn_d2 (kx vx tg iter tg1 iter1 : Expr) (ifs ifs1 : List Expr) (scope : Scope) (pos : Pos) (it : Value) (D : Addr) (env : Env) :
    compTurn (.DictComp kx vx [⟨tg, iter, ifs, 0⟩, ⟨tg1, iter1, ifs1, 0⟩] scope pos) 1 it (.ref D) env = turnOf tg1 iter1.pos ifs1 env it (emitC kx vx D env (.compLoop (.DictComp kx vx [⟨tg, iter, ifs, 0⟩, ⟨tg1, iter1, ifs1, 0⟩] scope pos) 1 it (.ref D) env)) (.compLoop (.DictComp kx vx [⟨tg, iter, ifs, 0⟩, ⟨tg1, iter1, ifs1, 0⟩] scope pos) 1 it (.ref D) env) := by rfl
/-- the second clause's making and walk -/
def innerC (e iter1 : Expr) (acc : Value) (env : Env) (c : Code) : Sem Fin := do
  let x ← eval iter1 env
  standAt iter1.pos
  let x ← foldedSetIterable iter1 env x
  let _ ← runOwn (.compStart e 1 (← holding [x] (pyIter x)) acc env) env
  again c
theorem turn_d0 (kx vx tg iter tg1 iter1 : Expr) (ifs ifs1 : List Expr) (scope : Scope) (pos : Pos) (it : Value) (D : Addr) (env : Env) :
    compTurn (.DictComp kx vx [⟨tg, iter, ifs, 0⟩, ⟨tg1, iter1, ifs1, 0⟩] scope pos) 0 it (.ref D) env = turnOf tg iter.pos ifs env it (innerC (.DictComp kx vx [⟨tg, iter, ifs, 0⟩, ⟨tg1, iter1, ifs1, 0⟩] scope pos) iter1 (.ref D) env (.compLoop (.DictComp kx vx [⟨tg, iter, ifs, 0⟩, ⟨tg1, iter1, ifs1, 0⟩] scope pos) 0 it (.ref D) env)) (.compLoop (.DictComp kx vx [⟨tg, iter, ifs, 0⟩, ⟨tg1, iter1, ifs1, 0⟩] scope pos) 0 it (.ref D) env) := by rfl
theorem start_any {prog : Program} {w : World} {A : Around} {R : Result → Shared → Prop} {s : Shared} {kx vx tg iter tg1 iter1 : Expr} {ifs ifs1 : List Expr} {scope : Scope} {pos : Pos} {it acc : Value} {env : Env} {k : Nat} {g : Comprehension}
    (hg : (clausesOf (.DictComp kx vx [⟨tg, iter, ifs, 0⟩, ⟨tg1, iter1, ifs1, 0⟩] scope pos))[k]? = some g) (ha : (g.is_async != 0) = false)
    (h0 : codeAny (model prog w) A (.compLoop (.DictComp kx vx [⟨tg, iter, ifs, 0⟩, ⟨tg1, iter1, ifs1, 0⟩] scope pos) k it acc env) R s)
    (h : ∀ (E : Value → Shared → Prop) (Q : Value → Shared → Prop), Q it s → wpAny (model prog w) A (pyIter it) Q E s) :
    codeAny (model prog w) A (.compStart (.DictComp kx vx [⟨tg, iter, ifs, 0⟩, ⟨tg1, iter1, ifs1, 0⟩] scope pos) k it acc env) R s := by
  refine codeAny_of_tree ?_
  show wpAny _ A ((compStart (.DictComp kx vx [⟨tg, iter, ifs, 0⟩, ⟨tg1, iter1, ifs1, 0⟩] scope pos) k it acc env).onRaise (fun x => do noteFrame x env; standAt theWindowsPlace)) _ _ s
  refine wpAny_notedAt ?_
  unfold compStart
  rw [hg]
  simp only [Option.elim, ha]
  show wpAny _ A (ask >>= _) _ _ s
  refine wpAny_bind (wpAny_askSetting (wpAny_ite ?_))
  split
  · first
      | exact wpAny_bind (wpAny_pure (wpAny_pure (And.intro rfl h0)))
      | exact wpAny_pure (And.intro rfl h0)
  · refine wpAny_bind (wpAny_rule ?_)
    first
      | exact wpAny_bind (wpAny_standAt (wpAny_bind (h _ _ (wpAny_pure (And.intro rfl h0)))))
      | (show wpAny _ A (standAt g.iter.pos >>= _) _ _ s; exact wpAny_bind (wpAny_standAt (wpAny_bind (h _ _ (wpAny_pure (And.intro rfl h0))))))

theorem inner_body {Y : Cx} {kx vx tg iter tg1 iter1 : Expr} {ifs ifs1 : List Expr} {scope : Scope} {pos : Pos} {D : Addr} {wi1 : TI} {g1 : TG} {tt1 : TT} {tk tv : TE} {t : TDs} {c : Code} {vs vs1 : List Nat} (hc : Y.calm = true) (hxe : Y.xe = fun _ _ => False)
    (hv : ∀ i ∈ vs1, i ∈ vs) (hi : PI Y tg1 iter1 wi1) (hg : PG Y tg1 g1) (ht : PTs Y ifs1 tt1) (hk : PE Y kx tk) (hx : PE Y vx tv) (hd : PDs Y D t) (hs : ∀ x, foldedSetIterable iter1 Y.env x = pure x) :
    BodyR Y (innerC (.DictComp kx vx [⟨tg, iter, ifs, 0⟩, ⟨tg1, iter1, ifs1, 0⟩] scope pos) iter1 (.ref D) Y.env c) c vs (fun v H N => wi1 v H fun J1 H1 => CL J1 vs1 g1 tt1 (tPut t tk tv) (wipe v vs1) H1 N) := by
  intro pins s v H N I h
  unfold innerC
  have r1 := hi.run pins s v H _ I h
  rw [hxe] at r1
  refine wpAny_bind (thnF r1 fun xv sa ha => ?_)
  refine wpAny_bind (wpAny_standAt (wpAny_bind (wpAny_of_eq (hs xv) (wpAny_bind (wpAny_holding (thnF ha fun itv sb hb => ?_))))))
  obtain ⟨it, fp, tn, J, Hb, e1, Ib, T, tb, fb, qb⟩ := hb
  subst e1
  refine wpAny_bind (wpAny_runOwn ?_)
  rw [Around.mark_none]
  refine start_any rfl rfl ?_ fun E Q hq => T.self Y.A 0 _ _ _ tb hq
  refine clause_loop hc hxe T (turn_d2 kx vx tg iter tg1 iter1 ifs ifs1 scope pos (.ref it) D Y.env) hg ht (emit_body hxe hk hx hd) (inv_wipe Ib vs1) fb tb qb fun s' H' I' n' q' => ?_
  refine wpAny_pure ⟨rfl, H', I'.weak (by rw [wipe_length, wipe_length]) (fun j z ez => ?_), q'⟩
  obtain ⟨z1, z2⟩ := wipe_some ez
  rw [wipe_out fun m => z2 (hv j m)]
  exact z1
section
variable {X : Cx}
/-- an empty dict, held as o0 says -/
def NewD (X : Cx) (o0 : Addr → HO) : Prop := ∀ (G : Hp) (h : Heap), sysModules < h.objs.size → ObjOk X.prog X.w G (h.push { cls := .type "dict", data := .dict #[] }) h.objs.size (o0 h.objs.size)
abbrev BlkAll (X : Cx) (scope : Scope) (P : Cx → Prop) : Prop := ∀ (s : Shared) (H : Hp) (C : Addr) (cl : List (Str × Addr)) (fp : List Addr), P (X.blk s H scope (compEnvC scope cl C X.env) fp)
/-- a dict comprehension by the reading of its first clause -/
def tDcl (wi : TI) (g : TG) (tt : TT) (tB : Addr → TBd) (o0 : Addr → HO) (vs : List Nat) : TE := fun v H Q => wi v H fun J H1 => ∀ D, H1 D = none → CL J vs g tt (tB D) (wipe v vs) (upd H1 D (o0 D)) fun H2 => Q (.ref D) H2
theorem pe_dcl {kx vx tg iter : Expr} {ifs : List Expr} {rest : List Comprehension} {scope : Scope} {own : List (Str × Nat)} {pos : Pos} {wi : TI} {g : TG} {tt : TT} {tB : Addr → TBd} {o0 : Addr → HO} {BC : Addr → Env → Code → Sem Fin}
    (hc : X.calm = true) (hN : X.N.Nodup) (hi : PI X tg iter wi) (ok : BlkOk X.N X.env.scope scope own) (hg : BlkAll X scope fun Y => PG Y tg g) (ht : BlkAll X scope fun Y => PTs Y ifs tt)
    (hB : BlkAll X scope fun Y => ∀ D c, BodyR Y (BC D Y.env c) c (own.map (·.2)) (tB D))
    (hT : ∀ (it : Value) (D : Addr) (env : Env), compTurn (.DictComp kx vx (⟨tg, iter, ifs, 0⟩ :: rest) scope pos) 0 it (.ref D) env = turnOf tg iter.pos ifs env it (BC D env (.compLoop (.DictComp kx vx (⟨tg, iter, ifs, 0⟩ :: rest) scope pos) 0 it (.ref D) env)) (.compLoop (.DictComp kx vx (⟨tg, iter, ifs, 0⟩ :: rest) scope pos) 0 it (.ref D) env))
    (h0 : NewD X o0) (hs : ∀ x, foldedSetIterable iter X.env x = pure x) : PE X (.DictComp kx vx (⟨tg, iter, ifs, 0⟩ :: rest) scope pos) (tDcl wi g tt tB o0 (own.map (·.2))) := by
  refine ⟨fun pins s v H Q I h => ?_⟩
  rw [arm_eval_DictComp]
  have caught : ∀ y ∈ scope.names, y.2 = .free → ∃ c, X.env.cells.lookup y.1 = some c := fun y hy e => (ok.free y hy e).elim (fun k => I.ok.has _ (.inl k)) fun k => I.ok.has _ (.inr k)
  refine wpAny_comprehension_free (use := none) rfl hs (closure_ok caught) ok.kind (fun y hy e => by rw [ok.uniq y hy, e]) (thn (hi.run pins s v H _ I h) fun xv s1 hx => thn hx fun itv s2 h2 => ?_)
  obtain ⟨it, fp, tn, J, Ha, e, Ia, T, ta, fa, q⟩ := h2
  subst e
  refine wpAny_newObj_type (newEnv_comp ?_)
  generalize eD : s2.heap.objs.size = D
  have nD : Ha D = none := Ia.hok.fresh (Nat.le_of_eq eD)
  have qD := q D nD
  generalize e3 : ({ s2 with heap := s2.heap.push { cls := .type "dict", data := .dict #[] } } : Shared) = s3
  have up3 : ∀ b o, s2.heap.get? b = some o → s3.heap.get? b = some o := fun b o eb => by rw [← e3]; exact Heap.get?_push_of_some _ eb
  have sz3 : s3.heap.objs.size = s2.heap.objs.size + 1 := by rw [← e3]; exact Heap.size_push ..
  have I3 : Inv X pins v (upd Ha D (o0 D)) s3 := by
    rw [← e3]
    refine Ia.laid (t' := s2.toks) (fun b o eb => Heap.get?_push_of_some _ eb) (Nat.le_of_eq eD) ?_
    rw [← eD]
    exact h0 _ _ Ia.big
  have lt2 : ∀ b ∈ fp, b < s2.heap.objs.size := fun b hb => let ⟨o, eb, _⟩ := T.obj _ _ ta b hb; Heap.lt_size eb
  have f3 : ∀ b ∈ fp, FpOk X pins (upd Ha D (o0 D)) b ∧ b < s3.heap.objs.size := fun b hb =>
    ⟨⟨by rw [upd_ne (by rw [← eD]; exact Nat.ne_of_lt (lt2 b hb))]; exact (fa b hb).1, (fa b hb).2⟩, by rw [sz3]; exact Nat.lt_succ_of_lt (lt2 b hb)⟩
  have I4 := block_start I3 ok hN f3
  have pg := hg s3 (upd Ha D (o0 D)) s3.heap.objs.size (cellsFrom (s3.heap.objs.size + 1) scope.names (cloFrom X.env.cells scope.names [])) fp
  have pt := ht s3 (upd Ha D (o0 D)) s3.heap.objs.size (cellsFrom (s3.heap.objs.size + 1) scope.names (cloFrom X.env.cells scope.names [])) fp
  have pB := hB s3 (upd Ha D (o0 D)) s3.heap.objs.size (cellsFrom (s3.heap.objs.size + 1) scope.names (cloFrom X.env.cells scope.names [])) fp D
  show codeAny _ _ (.compStart (.DictComp kx vx (⟨tg, iter, ifs, 0⟩ :: rest) scope pos) 0 (.ref it) (.ref D) (compEnvC scope (cellsFrom (s3.heap.objs.size + 1) scope.names (cloFrom X.env.cells scope.names [])) s3.heap.objs.size X.env)) (compPost (model X.prog X.w) X.A X.xe none (EP X pins v Q) (.ref D) s3.heap.objs.size) { s3 with heap := pushCells (s3.heap.push { cls := .type "dict", data := .dict #[] }) scope.names }
  generalize ec : compEnvC scope (cellsFrom (s3.heap.objs.size + 1) scope.names (cloFrom X.env.cells scope.names [])) s3.heap.objs.size X.env = ce at I4 pg pt pB ⊢
  have lc : ce.locals = s3.heap.objs.size := by subst ec; rfl
  generalize e4 : ({ s3 with heap := pushCells (s3.heap.push { cls := .type "dict", data := .dict #[] }) scope.names } : Shared) = s4 at I4 ⊢
  have t4 : tn 0 s4.heap := T.keep _ _ _ ta fun b _ o eb => by rw [← e4]; exact pushCells_keeps _ _ _ _ (Heap.get?_push_of_some _ (up3 b o eb))
  have f4 : ∀ b ∈ fp, FpOk (X.blk s3 (upd Ha D (o0 D)) scope ce fp) [] (upd Ha D (o0 D)) b := fun b hb =>
    ⟨(f3 b hb).1.1, (I4.ok.exf b hb).1, I4.ok.exfs b hb, .inl hb, fun x c ex => (I4.ok.exf b hb).2 x c ex, fun p hp => absurd (show p ∈ ([] : List (Addr × Obj)) ++ [] from hp) (by simp)⟩
  have loop : codeAny (model X.prog X.w) X.A (.compLoop (.DictComp kx vx (⟨tg, iter, ifs, 0⟩ :: rest) scope pos) 0 (.ref it) (.ref D) ce) (compPost (model X.prog X.w) X.A X.xe none (EP X pins v Q) (.ref D) s3.heap.objs.size) s4 := by
    refine clause_loop (Y := X.blk s3 (upd Ha D (o0 D)) scope ce fp) hc rfl T (hT (.ref it) D ce) pg pt (pB _) I4 f4 t4 qD fun s' H' I' n' q' => ?_
    have Iz : Inv X pins v H' s' := I3.call' (ch := fp) I'.os I'.base I'.hok I'.bare fun b hb => ⟨(f3 b hb).1.2.2.2.1, (f3 b hb).1.2.1, (f3 b hb).1.2.2.2.2.1, (f3 b hb).1.2.2.2.2.2⟩
    have nC : H' s3.heap.objs.size = none := lc ▸ (show H' ce.locals = none from I'.free)
    obtain ⟨m, hm, _⟩ := I'.loc
    have hm : s'.heap.Ns ce.locals m := hm
    rw [lc] at hm
    obtain ⟨f0, f1, f2, f3', f4', f5⟩ := I3.fpOk (Nat.le_refl _) nC
    exact ⟨m, hm, fun h'' sb => ⟨.ref D, H', Iz.turned (t' := s'.toks) (fun b o hb eb => (sb.2 b hb).trans eb) f0 f1 f3' f4' f5, rfl, q'⟩⟩
  exact codeAny_compStart_dict loop (T.self X.A 0 _ _ _ t4 loop)
/-- one clause -/
theorem pe_dc1 {kx vx tg iter : Expr} {ifs : List Expr} {scope : Scope} {own : List (Str × Nat)} {pos : Pos} {wi : TI} {g : TG} {tt : TT} {tk tv : TE} {o0 : Addr → HO} {tp : Addr → TDs} (h0 : NewD X o0) (hp : ∀ Y D, Y.prog = X.prog → Y.w = X.w → Y.A = X.A → Y.K = X.K → PDs Y D (tp D)) (hc : X.calm = true) (hN : X.N.Nodup)
    (hi : PI X tg iter wi) (ok : BlkOk X.N X.env.scope scope own) (hg : BlkAll X scope fun Y => PG Y tg g) (ht : BlkAll X scope fun Y => PTs Y ifs tt) (hk : BlkAll X scope fun Y => PE Y kx tk) (hv : BlkAll X scope fun Y => PE Y vx tv)
    (hs : ∀ x, foldedSetIterable iter X.env x = pure x := by intro _; rfl) : PE X (.DictComp kx vx [⟨tg, iter, ifs, 0⟩] scope pos) (tDcl wi g tt (fun D => tPut (tp D) tk tv) o0 (own.map (·.2))) :=
  pe_dcl (BC := emitC kx vx) hc hN hi ok hg ht (fun s H C cl fp D c => emit_body rfl (hk s H C cl fp) (hv s H C cl fp) (hp _ D rfl rfl rfl rfl)) (fun it D env => turn_d1 ..) h0 hs
/-- two clauses -/
theorem pe_dc2 {kx vx tg iter tg1 iter1 : Expr} {ifs ifs1 : List Expr} {scope : Scope} {own : List (Str × Nat)} {vs1 : List Nat} {pos : Pos} {wi wi1 : TI} {g g1 : TG} {tt tt1 : TT} {tk tv : TE} {o0 : Addr → HO} {tp : Addr → TDs} (h0 : NewD X o0) (hp : ∀ Y D, Y.prog = X.prog → Y.w = X.w → Y.A = X.A → Y.K = X.K → PDs Y D (tp D)) (hc : X.calm = true) (hN : X.N.Nodup)
    (hi : PI X tg iter wi) (ok : BlkOk X.N X.env.scope scope own) (hv1 : ∀ i ∈ vs1, i ∈ own.map (·.2)) (hg : BlkAll X scope fun Y => PG Y tg g) (ht : BlkAll X scope fun Y => PTs Y ifs tt) (hk : BlkAll X scope fun Y => PE Y kx tk) (hv : BlkAll X scope fun Y => PE Y vx tv)
    (hi1 : BlkAll X scope fun Y => PI Y tg1 iter1 wi1) (hg1 : BlkAll X scope fun Y => PG Y tg1 g1) (ht1 : BlkAll X scope fun Y => PTs Y ifs1 tt1)
    (hs : ∀ x, foldedSetIterable iter X.env x = pure x := by intro _; rfl) (hs1 : ∀ env x, foldedSetIterable iter1 env x = pure x := by intro _ _; rfl) :
    PE X (.DictComp kx vx [⟨tg, iter, ifs, 0⟩, ⟨tg1, iter1, ifs1, 0⟩] scope pos) (tDcl wi g tt (fun D v H N => wi1 v H fun J1 H1 => CL J1 vs1 g1 tt1 (tPut (tp D) tk tv) (wipe v vs1) H1 N) o0 (own.map (·.2))) :=
  pe_dcl (BC := fun D env c => innerC (.DictComp kx vx [⟨tg, iter, ifs, 0⟩, ⟨tg1, iter1, ifs1, 0⟩] scope pos) iter1 (.ref D) env c) hc hN hi ok hg ht
    (fun s H C cl fp D c => inner_body hc rfl hv1 (hi1 s H C cl fp) (hg1 s H C cl fp) (ht1 s H C cl fp) (hk s H C cl fp) (hv s H C cl fp) (hp _ D rfl rfl rfl rfl) (hs1 _)) (fun it D env => turn_d0 ..) h0 hs
end
/-- over a list or tuple that stays: an invariant by the turn -/
theorem cl_tup {K : PySem.W.Frag} {a : Addr} {xs : List V} {vs : List Nat} {g : TG} {tt : TT} {tB : TBd} {v0 : L2.St} {H : Hp} {Fin : Hp → Prop} (Pv : Nat → Hp → Prop) (h0 : Pv 0 H) (hl : ∀ i H, i ≤ xs.length → Pv i H → SqT K H a xs)
    (hs : ∀ i x H, xs[i]? = some x → Pv i H → g x v0 H fun s2 H2 => wipe s2 vs = v0 ∧ tt s2 H2 fun b H3 => if b = true then tB s2 H3 (Pv (i + 1)) else Pv (i + 1) H3) (hd : ∀ H, Pv xs.length H → Fin H) : CL (Itt K a) vs g tt tB v0 H Fin := by
  refine ⟨fun i m G => i ≤ xs.length ∧ m = xs.length - i ∧ Pv i G, ⟨_, Nat.zero_le _, rfl, h0⟩, fun i m G ⟨hi, hm, hp⟩ => ?_⟩
  by_cases e : i = xs.length
  · subst e
    exact .inl ⟨⟨xs, hl _ G (Nat.le_refl _) hp, Nat.le_refl _⟩, hd G hp⟩
  · have lt : i < xs.length := by omega
    refine .inr ⟨⟨xs, xs[i], hl i G hi hp, List.getElem?_eq_getElem lt⟩, Pv (i + 1), fun G' z => ⟨xs.length - (i + 1), by omega, by omega, rfl, z⟩, fun x G' hy => ?_⟩
    obtain ⟨rfl, hy⟩ := hy
    exact hs i x G' (hy xs (hl i G' hi hp)) hp
theorem cl_list {K : PySem.W.Frag} {a : Addr} {xs : List V} {vs : List Nat} {g : TG} {tt : TT} {tB : TBd} {v0 : L2.St} {H : Hp} {Fin : Hp → Prop} (Pv : Nat → Hp → Prop) (h0 : Pv 0 H) (hl : ∀ i H, i ≤ xs.length → Pv i H → SqL K H a xs)
    (hs : ∀ i x H, xs[i]? = some x → Pv i H → g x v0 H fun s2 H2 => wipe s2 vs = v0 ∧ tt s2 H2 fun b H3 => if b = true then tB s2 H3 (Pv (i + 1)) else Pv (i + 1) H3) (hd : ∀ H, Pv xs.length H → Fin H) : CL (Itl K a) vs g tt tB v0 H Fin := by
  refine ⟨fun i m G => i ≤ xs.length ∧ m = xs.length - i ∧ Pv i G, ⟨_, Nat.zero_le _, rfl, h0⟩, fun i m G ⟨hi, hm, hp⟩ => ?_⟩
  by_cases e : i = xs.length
  · subst e
    exact .inl ⟨⟨xs, hl _ G (Nat.le_refl _) hp, Nat.le_refl _⟩, hd G hp⟩
  · have lt : i < xs.length := by omega
    refine .inr ⟨⟨xs, xs[i], hl i G hi hp, List.getElem?_eq_getElem lt⟩, Pv (i + 1), fun G' z => ⟨xs.length - (i + 1), by omega, by omega, rfl, z⟩, fun x G' hy => ?_⟩
    obtain ⟨rfl, hy⟩ := hy
    exact hs i x G' (hy xs (hl i G' hi hp)) hp
theorem cl_enumT {K : PySem.W.Frag} {a : Addr} {xs : List V} {vs : List Nat} {g : TG} {tt : TT} {tB : TBd} {v0 : L2.St} {H : Hp} {Fin : Hp → Prop} (Pv : Nat → Hp → Prop) (h0 : Pv 0 H) (hl : ∀ i H, i ≤ xs.length → Pv i H → SqT K H a xs)
    (hs : ∀ i x H T, xs[i]? = some x → Pv i H → H T = none → g (.ref T) v0 (upd H T (.tup [.int (i : Nat), x])) fun s2 H2 => wipe s2 vs = v0 ∧ tt s2 H2 fun b H3 => if b = true then tB s2 H3 (Pv (i + 1)) else Pv (i + 1) H3) (hd : ∀ H, Pv xs.length H → Fin H) : CL (ItE K a) vs g tt tB v0 H Fin := by
  refine ⟨fun i m G => i ≤ xs.length ∧ m = xs.length - i ∧ Pv i G, ⟨_, Nat.zero_le _, rfl, h0⟩, fun i m G ⟨hi, hm, hp⟩ => ?_⟩
  by_cases e : i = xs.length
  · subst e
    exact .inl ⟨⟨xs, hl _ G (Nat.le_refl _) hp, rfl⟩, hd G hp⟩
  · have lt : i < xs.length := by omega
    refine .inr ⟨⟨xs, xs[i], hl i G hi hp, List.getElem?_eq_getElem lt⟩, Pv (i + 1), fun G' z => ⟨xs.length - (i + 1), by omega, by omega, rfl, z⟩, fun x G' hy => ?_⟩
    obtain ⟨T, y, rfl, hT, rfl, hy⟩ := hy
    exact hs i y G T (hy xs (hl i G hi hp)) hp hT
/-- keys ints or texts -/
def tpK (D : Addr) : TDs := fun y z H N => ∃ kvs k, y = kV k ∧ H D = some (.dK kvs) ∧ kvs.length < sizeLine ∧ N (upd H D (.dK (putK kvs k z)))
theorem newK {X : Cx} : NewD X fun _ => .dK [] := fun G h hb => dk_empty h hb
theorem putsK {Y : Cx} {D : Addr} : PDs Y D (tpK D) := by
  intro pins s v H y z u r N I ry rz h
  obtain ⟨kvs, k, rfl, hD, hz, n⟩ := h
  exact d_dictSet I hD hz ry rz fun s' I' => ⟨_, I', n⟩
end SD
end
section
set_option Elab.async false
set_option linter.all false
set_option maxRecDepth 100000
set_option maxHeartbeats 4000000
/-! ### tuples of names, groups of a deed; dicts by groups; sorting -/
namespace SD
open PySem PySem.Spec PyProof.Rows L2
abbrev Gs := List (List Str)
def tS (g : List Str) : PyData := .tuple (g.map .str)
def gD (gs : Gs) : PyData := .tuple (gs.map tS)
/-- a tuple of names -/
def TupS (H : Hp) (v : V) (g : List Str) : Prop := ∃ a, v = .ref a ∧ H a = some (.tup (g.map .str))
/-- the groups of a deed: a tuple of tuples of names -/
def GrpV (H : Hp) (v : V) (gs : Gs) : Prop := ∃ a vs, v = .ref a ∧ H a = some (.tup vs) ∧ Paired (TupS H) vs gs
theorem TupS.same {H G : Hp} {v : V} {g : List Str} (e : Same H G) (h : TupS H v g) : TupS G v g := let ⟨a, h1, h2⟩ := h; ⟨a, h1, e _ _ h2⟩
theorem GrpV.same {H G : Hp} {v : V} {gs : Gs} (e : Same H G) (h : GrpV H v gs) : GrpV G v gs :=
  let ⟨a, vs, h1, h2, h3⟩ := h; ⟨a, vs, h1, e _ _ h2, L2.Paired.mapP h3 fun _ _ z => z.same e⟩
section
variable {K : PySem.W.Frag} {H : Hp}
theorem dp_strs : ∀ g : List Str, DpAll K H (g.map .str) (g.map .str)
  | [] => .nil
  | x :: g => .cons (.str x) (dp_strs g)
theorem TupS.dp {v : V} {g : List Str} (h : TupS H v g) : Dp K H v (tS g) := by
  obtain ⟨a, rfl, h⟩ := h
  exact .tup (SqT.of h) (dp_strs g)
theorem dp_grps : ∀ {vs : List V} {gs : Gs}, Paired (TupS H) vs gs → DpAll K H vs (gs.map tS)
  | _, _, .nil => .nil
  | _, _, .cons h t => .cons h.dp (dp_grps t)
theorem GrpV.dp {v : V} {gs : Gs} (h : GrpV H v gs) : Dp K H v (gD gs) := by
  obtain ⟨a, vs, rfl, h1, h2⟩ := h
  exact .tup (SqT.of h1) (dp_grps h2)
end
/-! ### groups as keys -/
def nkS (g : List Str) : NestedKey := .tup (g.map .text)
def nkG (gs : Gs) : NestedKey := .tup (gs.map nkS)
theorem map_text_inj : ∀ {a b : List Str}, a.map NestedKey.text = b.map NestedKey.text → a = b
  | [], [], _ => rfl
  | [], _ :: _, e => by simp at e
  | _ :: _, [], e => by simp at e
  | x :: xs, y :: ys, e => by
    rw [List.map_cons, List.map_cons] at e
    injection e with e1 e2
    injection e1 with e1
    rw [e1, map_text_inj e2]
theorem nkS_inj {a b : List Str} (h : nkS a = nkS b) : a = b := by
  unfold nkS at h
  injection h with h
  exact map_text_inj h
theorem map_nkS_inj : ∀ {a b : Gs}, a.map nkS = b.map nkS → a = b
  | [], [], _ => rfl
  | [], _ :: _, e => by simp at e
  | _ :: _, [], e => by simp at e
  | x :: xs, y :: ys, e => by
    rw [List.map_cons, List.map_cons] at e
    injection e with e1 e2
    rw [nkS_inj e1, map_nkS_inj e2]
theorem nkG_inj {a b : Gs} (h : nkG a = nkG b) : a = b := by
  unfold nkG at h
  injection h with h
  exact map_nkS_inj h
theorem texts_depth : ∀ g : List Str, NestedKey.depthAll (g.map .text) = 0
  | [] => by simp [NestedKey.depthAll]
  | x :: g => by
    rw [List.map_cons, NestedKey.depthAll, texts_depth g]
    simp [NestedKey.depth]
theorem nkS_depth : ∀ gs : Gs, NestedKey.depthAll (gs.map nkS) ≤ 1
  | [] => by simp [NestedKey.depthAll]
  | g :: gs => by
    rw [List.map_cons, NestedKey.depthAll]
    have e : (nkS g).depth = 1 := by
      unfold nkS
      rw [NestedKey.depth, texts_depth]
    have := nkS_depth gs
    omega
theorem nkG_depth (gs : Gs) : (nkG gs).depth ≤ 8 := by
  unfold nkG
  rw [NestedKey.depth]
  have := nkS_depth gs
  omega
section
variable {X : Cx} {pins : List (Addr × Obj)} {v0 : L2.St} {H : Hp} {s : Shared}
theorem nested_strs : ∀ {g : List Str} {us : List Value}, Vals (g.map .str) us → NestedAll s.heap (g.map .text) us
  | [], _, r => by
    rw [List.map_nil] at r
    cases r
    exact .nil
  | x :: g, _, r => by
    rw [List.map_cons] at r
    cases r with
    | cons h t =>
      obtain ⟨k, rfl⟩ := h
      exact .cons (.text x k) (nested_strs t)
theorem TupS.nested (I : Inv X pins v0 H s) {v : V} {u : Value} {g : List Str} (h : TupS H v g) (r : RelV v u) : NestedIs s.heap (nkS g) u := by
  obtain ⟨a, rfl, h⟩ := h
  cases r
  obtain ⟨_, its, rv, o, ho, hc, n, hd⟩ := I.hok a _ h
  refine .tup ho hc hd ?_
  have := nested_strs (s := s) rv
  simpa using this
theorem nested_grps (I : Inv X pins v0 H s) : ∀ {vs : List V} {gs : Gs} {us : List Value}, Paired (TupS H) vs gs → Vals vs us → NestedAll s.heap (gs.map nkS) us
  | _, _, _, .nil, r => by
    cases r
    exact .nil
  | _, _, _, .cons h t, r => by
    cases r with
    | cons r1 r2 => exact .cons (h.nested I r1) (nested_grps I t r2)
theorem GrpV.nested (I : Inv X pins v0 H s) {a : Addr} {gs : Gs} (h : GrpV H (.ref a) gs) : (nestedKind X.prog X.w).is s.heap (nkG gs) a := by
  obtain ⟨b, vs, e, h1, h2⟩ := h
  cases e
  obtain ⟨_, its, rv, o, ho, hc, n, hd⟩ := I.hok a _ h1
  refine ⟨.tup ho hc hd ?_, nkG_depth gs⟩
  have := nested_grps I h2 rv
  simpa using this
end
/-! ### a dict whose keys are groups, all its values True -/
def ents (P : Program) (w : World) (xs : List (Gs × Addr)) : List (NestedKey × Addr × Value) := xs.map fun x => (nkG x.1, x.2, Value.bool true)
def DGs (P : Program) (w : World) (d : Addr) (xs : List (Gs × Addr)) : HO := .ext fun h => (d == sysModules) = false ∧ ∃ o ep, h.get? d = some o ∧ o.ExactDict ∧ o.data = .dict ((ents P w xs).map (entryOfKey (nestedKind P w))).toArray ep
def putG (xs : List (Gs × Addr)) (gs : Gs) (a : Addr) : List (Gs × Addr) := if gs ∈ xs.map (·.1) then xs else xs ++ [(gs, a)]
theorem ents_keys (P : Program) (w : World) (xs : List (Gs × Addr)) : (ents P w xs).map (·.1) = (xs.map (·.1)).map nkG := by
  unfold ents
  simp [List.map_map, Function.comp_def]
theorem nodup_nk : ∀ {l : List Gs}, l.Nodup → (l.map nkG).Nodup
  | [], _ => List.nodup_nil
  | g :: l, h => by
    obtain ⟨h1, h2⟩ := List.nodup_cons.mp h
    rw [List.map_cons, List.nodup_cons]
    refine ⟨fun m => ?_, nodup_nk h2⟩
    obtain ⟨g', m', e⟩ := List.mem_map.mp m
    exact h1 (nkG_inj e ▸ m')
theorem atKey_mem {L : List (NestedKey × Addr × Value)} {k : NestedKey} : (atKey L k).isSome = true ↔ k ∈ L.map (·.1) := by
  unfold atKey
  rw [Option.isSome_map, List.find?_isSome]
  constructor
  · rintro ⟨x, m, e⟩
    exact List.mem_map.mpr ⟨x, m, by simpa using e⟩
  · intro m
    obtain ⟨x, mx, e⟩ := List.mem_map.mp m
    exact ⟨x, mx, by simpa using e⟩
theorem putAt_id (P : Program) (w : World) (k : NestedKey) : ∀ xs : List (Gs × Addr), (ents P w xs).map (putAt k (.bool true)) = ents P w xs
  | [] => rfl
  | x :: xs => by
    have ih := putAt_id P w k xs
    unfold ents at ih ⊢
    rw [List.map_cons, List.map_cons, ih]
    congr 1
    unfold putAt
    split <;> rfl
theorem ents_stored (P : Program) (w : World) (xs : List (Gs × Addr)) (gs : Gs) (a : Addr) : storedH (ents P w xs) (nkG gs) a (.bool true) = ents P w (putG xs gs a) := by
  unfold storedH putG
  have key : (atKey (ents P w xs) (nkG gs)).isSome = true ↔ gs ∈ xs.map (·.1) := by
    rw [atKey_mem, ents_keys]
    constructor
    · intro m
      obtain ⟨g, mg, e⟩ := List.mem_map.mp m
      exact nkG_inj e ▸ mg
    · intro m
      exact List.mem_map.mpr ⟨gs, m, rfl⟩
  by_cases c : gs ∈ xs.map (·.1)
  · rw [if_pos c, if_pos (key.mpr c), putAt_id]
  · rw [if_neg c, if_neg (fun z => c (key.mp z))]
    unfold ents
    rw [List.map_append]
    rfl
theorem putG_nodup {xs : List (Gs × Addr)} (h : (xs.map (·.1)).Nodup) (gs : Gs) (a : Addr) : ((putG xs gs a).map (·.1)).Nodup := by
  unfold putG
  split
  · exact h
  · rename_i c
    rw [List.map_append]
    exact nd_snoc h c
section
variable {X : Cx} {pins : List (Addr × Obj)} {v0 : L2.St} {H : Hp} {s : Shared}
theorem dgs_dict (I : Inv X pins v0 H s) {d : Addr} {xs : List (Gs × Addr)} (h : H d = some (DGs X.prog X.w d xs)) (hg : ∀ x ∈ xs, GrpV H (.ref x.2) x.1) (hn : (xs.map (·.1)).Nodup) :
    (d == sysModules) = false ∧ s.heap.DictOfH (nestedKind X.prog X.w) d (ents X.prog X.w xs) := by
  obtain ⟨⟨hs, o, ep, ho, hx, hd⟩, _⟩ := I.hok d _ h
  refine ⟨hs, o, _, ep, ho, hx, hd, by simp, fun x m => ?_, by rw [ents_keys]; exact nodup_nk hn⟩
  unfold ents at m
  obtain ⟨y, my, e⟩ := List.mem_map.mp m
  subst e
  exact (hg y my).nested I
/-- {gs: True for ..} -/
def tpG (P : Program) (w : World) (D : Addr) : TDs := fun y z H N => ∃ xs gs a, y = .ref a ∧ z = .bl true ∧ H D = some (DGs P w D xs) ∧ (∀ x ∈ xs, GrpV H (.ref x.2) x.1) ∧ (xs.map (·.1)).Nodup ∧ GrpV H (.ref a) gs ∧ xs.length < 1000 ∧ N (upd H D (DGs P w D (putG xs gs a)))
theorem dgs_ok {P : Program} {w : World} {G : Hp} {h : Heap} {d : Addr} {xs : List (Gs × Addr)} (hs : (d == sysModules) = false) {o : Obj} {ep : Nat} (ho : h.get? d = some o) (hx : o.ExactDict) (hd : o.data = .dict ((ents P w xs).map (entryOfKey (nestedKind P w))).toArray ep) :
    ObjOk P w G h d (DGs P w d xs) :=
  ⟨⟨hs, o, ep, ho, hx, hd⟩, ⟨o, ho⟩, fun h1 h2 ⟨a, o', ep', b, c⟩ k => ⟨a, o', ep', k _ b, c⟩⟩
theorem putsG {Y : Cx} {D : Addr} (hu : Y.A.units + 8 < cLine) : PDs Y D (tpG Y.prog Y.w D) := by
  intro pins s v H y z u r N I ry rz h
  obtain ⟨xs, gs, a, rfl, rfl, hD, hg, hn, ha, hz, n⟩ := h
  cases ry
  cases rz
  obtain ⟨hs, dd⟩ := dgs_dict I hD hg hn
  refine wpAny_dictSet_heap (knd := nestedKind Y.prog Y.w) hu (ha.nested I) dd (fun h' dd' sb => ?_) (by unfold ents; rw [List.length_map, sizeLine_eq]; omega)
  rw [ents_stored] at dd'
  obtain ⟨o, es, ep, ho, hx, hd, he, _⟩ := dd'
  have e2 : es = ((ents Y.prog Y.w (putG xs gs a)).map (entryOfKey (nestedKind Y.prog Y.w))).toArray := by rw [← he, Array.toArray_toList]
  rw [e2] at hd
  exact ⟨_, d_write I (by rw [hD]; exact True.intro) sb ⟨o, ho⟩ (dgs_ok hs ho hx hd), n⟩
theorem newG {X : Cx} : NewD X fun d => DGs X.prog X.w d [] := fun G h hb =>
  dgs_ok (beq_eq_false_iff_ne.mpr (Ne.symm (Nat.ne_of_lt hb))) (Heap.get?_push_size _ rfl) ⟨rfl, rfl, rfl⟩ rfl
end
end SD
end
section
set_option Elab.async false
set_option linter.all false
set_option maxRecDepth 100000
set_option maxHeartbeats 4000000
/-! ### sorted() of lists of data, of a dict by groups -/
namespace SD
open PySem PySem.Spec PyProof.Rows L2
open PySem.W (dataLe AllAlike Sortable)
/-- items sorted by the data that they stand for -/
def srt {β : Type} (k : β → PyData) (zs : List β) : List β := zs.mergeSort (dataLe false k)
theorem each_of {β : Type} (f : β → V) : ∀ {zs : List β} {us : List Value}, Vals (zs.map f) us → PySem.W.EachIs (fun u z => RelV (f z) u) us zs
  | [], _, r => by
    rw [List.map_nil] at r
    cases r
    exact .nil
  | z :: zs, _, r => by
    rw [List.map_cons] at r
    cases r with
    | cons h t => exact .cons h (each_of f t)
theorem vals_each {β : Type} (f : β → V) : ∀ {us : List Value} {zs : List β}, PySem.W.EachIs (fun u z => RelV (f z) u) us zs → Vals (zs.map f) us
  | _, _, .nil => .nil
  | _, _, .cons h t => .cons h (vals_each f t)
section
variable {X : Cx}
theorem each_reads {pins : List (Addr × Obj)} {v0 : L2.St} {H : Hp} {s : Shared} (I : Inv X pins v0 H s) {β : Type} (f : β → V) (k : β → PyData) : ∀ {zs : List β} {us : List Value}, (∀ z ∈ zs, Dp X.K H (f z) (k z)) → Vals (zs.map f) us →
    PySem.W.EachIs (fun u z => ∃ as, Reads s.heap u (k z) as) us zs
  | [], _, _, r => by
    rw [List.map_nil] at r
    cases r
    exact .nil
  | z :: zs, _, h, r => by
    rw [List.map_cons] at r
    cases r with
    | cons a t => exact .cons (Dp.reads I _ _ _ (h z List.mem_cons_self) a) (each_reads I f k (fun y m => h y (List.mem_cons_of_mem _ m)) t)
/-- sorted(xs): the items z of β, as values f z, standing for k z -/
def rSortD (K : PySem.W.Frag) {β : Type} (f : β → V) (k : β → PyData) : List V → Hp → VK → Prop := fun vs H Q => ∃ (a : Addr) (zs : List β), vs = [V.ref a] ∧ SqL K H a (zs.map f) ∧ (∀ z ∈ zs, Dp K H (f z) (k z)) ∧ AllAlike (zs.map k) ∧ Sortable (zs.map k) ∧ zs.length ≤ sizeLine ∧ (∀ z ∈ zs, (k z).depth ≤ 50) ∧
  ∀ p, H p = none → Q (.ref p) (upd H p (.lst ((srt k zs).map f)))
theorem cr_sortD {β : Type} (f : β → V) (k : β → PyData) (hu : X.A.units + 64 < cLine) : CallR X (.builtin "sorted") (rSortD X.K f k) := by
  intro pins s v H vs us Q I r h
  obtain ⟨a, zs, rfl, hs, hd, ha, hk, hz, hdp, q⟩ := h
  obtain ⟨its, rv, hl, _⟩ := I.list hs
  rw [Vals.ref1 r]
  refine PySem.W.sorted_data (enc := k) hl.isList (each_of f rv) (each_reads I f k hd rv) ha hk hz (fun b m => by have := hdp b m; omega) fun out ho he => ?_
  obtain ⟨ep, he'⟩ := PyProof.Rows.sortedAll_at s.heap its out.toArray
  have hlen : ((srt k zs).map f).length ≤ sizeLine := by
    rw [List.length_map]
    unfold srt
    rw [(List.mergeSort_perm zs _).length_eq]
    exact hz
  refine ⟨.ref _, upd H (s.heap.objs.size + 1) (.lst ((srt k zs).map f)), I.laid (t' := s.toks) (fun _ _ => PyProof.Rows.sortedAll_old) (Nat.le_succ _) ⟨hlen, out, ep, vals_each f he, ?_⟩, rfl, q _ (I.hok.fresh (Nat.le_succ _))⟩
  exact he'
/-- sorted(d), d a dict by groups -/
def rSortG (X : Cx) : List V → Hp → VK → Prop := fun vs H Q => ∃ (d : Addr) (xs : List (Gs × Addr)), vs = [V.ref d] ∧ H d = some (DGs X.prog X.w d xs) ∧ (∀ x ∈ xs, GrpV H (.ref x.2) x.1) ∧ (xs.map (·.1)).Nodup ∧ (∀ x ∈ xs, x.1 ≠ [] ∧ x.1.length < 1000) ∧ xs.length < 1000 ∧
  ∀ p, H p = none → Q (.ref p) (upd H p (.lst ((srt (fun x : Gs × Addr => gD x.1) xs).map fun x => V.ref x.2)))
theorem alike_strs : ∀ a b : List Str, PySem.W.alikeAll (a.map .str) (b.map .str) = true
  | [], _ => by simp [PySem.W.alikeAll]
  | _ :: _, [] => by simp [PySem.W.alikeAll]
  | x :: a, y :: b => by
    rw [List.map_cons, List.map_cons, PySem.W.alikeAll, alike_strs a b]
    simp [PySem.W.alike]
theorem alike_tS (a b : List Str) : PySem.W.alike (tS a) (tS b) = true := by
  unfold tS
  rw [PySem.W.alike, alike_strs]
theorem alike_tSs : ∀ a b : Gs, PySem.W.alikeAll (a.map tS) (b.map tS) = true
  | [], _ => by simp [PySem.W.alikeAll]
  | _ :: _, [] => by simp [PySem.W.alikeAll]
  | x :: a, y :: b => by
    rw [List.map_cons, List.map_cons, PySem.W.alikeAll, alike_tSs a b, alike_tS]
    rfl
theorem alike_gD (a b : Gs) : PySem.W.alike (gD a) (gD b) = true := by
  unfold gD
  rw [PySem.W.alike, alike_tSs]
theorem strs_dep : ∀ g : List Str, PyData.depthAll (g.map .str) = 0
  | [] => by simp [PyData.depthAll]
  | x :: g => by
    rw [List.map_cons, PyData.depthAll, strs_dep g]
    simp [PyData.depth]
theorem tSs_dep : ∀ gs : Gs, PyData.depthAll (gs.map tS) ≤ 1
  | [] => by simp [PyData.depthAll]
  | g :: gs => by
    have h := tSs_dep gs
    have e : (tS g).depth = 1 := by
      unfold tS
      rw [PyData.depth, strs_dep]
    rw [List.map_cons, PyData.depthAll, e]
    omega
theorem gD_dep (gs : Gs) : (gD gs).depth ≤ 2 := by
  unfold gD
  rw [PyData.depth]
  have := tSs_dep gs
  omega
theorem gD_tup {gs : Gs} (h : gs ≠ []) : ∃ x r, gD gs = .tuple (x :: r) := by
  cases gs with
  | nil => exact absurd rfl h
  | cons g r => exact ⟨tS g, r.map tS, rfl⟩
end
section
variable {X : Cx} {pins : List (Addr × Obj)} {v0 : L2.St} {H : Hp} {s : Shared}
theorem reads_strs : ∀ {g : List Str} {us : List Value}, Vals (g.map .str) us → ReadsAll s.heap us (g.map .str) []
  | [], _, r => by
    rw [List.map_nil] at r
    cases r
    exact .nil
  | x :: g, _, r => by
    rw [List.map_cons] at r
    cases r with
    | cons h t =>
      obtain ⟨k, rfl⟩ := h
      exact ReadsAll.cons (as := []) (bs := []) (.str x k) (reads_strs t)
theorem TupS.reads (I : Inv X pins v0 H s) {v : V} {u : Value} {g : List Str} (h : TupS H v g) (r : RelV v u) : Reads s.heap u (tS g) [] := by
  obtain ⟨a, rfl, h⟩ := h
  cases r
  obtain ⟨_, its, rv, o, ho, hc, n, hd⟩ := I.hok a _ h
  exact .tuple ho hc hd (by simpa using reads_strs (s := s) rv)
theorem reads_grps (I : Inv X pins v0 H s) : ∀ {vs : List V} {gs : Gs} {us : List Value}, Paired (TupS H) vs gs → Vals vs us → ReadsAll s.heap us (gs.map tS) []
  | _, _, _, .nil, r => by
    cases r
    exact .nil
  | _, _, _, .cons h t, r => by
    cases r with
    | cons r1 r2 => exact ReadsAll.cons (as := []) (bs := []) (h.reads I r1) (reads_grps I t r2)
theorem GrpV.reads (I : Inv X pins v0 H s) {v : V} {u : Value} {gs : Gs} (h : GrpV H v gs) (r : RelV v u) : Reads s.heap u (gD gs) [] := by
  obtain ⟨a, vs, rfl, h1, h2⟩ := h
  cases r
  obtain ⟨_, its, rv, o, ho, hc, n, hd⟩ := I.hok a _ h1
  exact .tuple ho hc hd (by simpa using reads_grps I h2 rv)
/-- the keys of such a dict, as they are walked -/
theorem keys_rel {P : Program} {w : World} {xs : List (Gs × Addr)} {acc : List Value} (hl : acc.length = xs.length) (h : ∀ (j : Nat) (v : Value), acc[j]? = some v → ∃ x, xs[j]? = some x ∧ v = .ref x.2) : PySem.W.EachIs (fun u x => RelV (V.ref x.2) u) acc xs := by
  induction xs generalizing acc with
  | nil =>
    cases acc with
    | nil => exact .nil
    | cons a r => simp at hl
  | cons x xs ih =>
    cases acc with
    | nil => simp at hl
    | cons a r =>
      obtain ⟨y, e1, e2⟩ := h 0 a rfl
      have e3 : x = y := Option.some.inj e1
      subst e3
      exact .cons e2 (ih (by simpa using hl) fun j v e => by simpa using h (j + 1) v (by simpa using e))
theorem each_grps (I : Inv X pins v0 H s) : ∀ {xs : List (Gs × Addr)} {acc : List Value}, (∀ x ∈ xs, GrpV H (.ref x.2) x.1) → PySem.W.EachIs (fun u x => RelV (V.ref x.2) u) acc xs → PySem.W.EachIs (fun u x => Reads s.heap u (gD x.1) []) acc xs
  | _, _, _, .nil => .nil
  | _, _, h, .cons a t => .cons ((h _ List.mem_cons_self).reads I a) (each_grps I (fun y m => h y (List.mem_cons_of_mem _ m)) t)
theorem each_mono {α β : Type} {R S : α → β → Prop} (f : ∀ a b, R a b → S a b) : ∀ {as : List α} {bs : List β}, PySem.W.EachIs R as bs → PySem.W.EachIs S as bs
  | _, _, .nil => .nil
  | _, _, .cons a t => .cons (f _ _ a) (each_mono f t)
theorem cr_sortG (hcalm : X.calm = true) (hu : X.A.units + 64 < cLine) : CallR X (.builtin "sorted") (rSortG X) := by
  intro pins s v0 H vs us Q I r h
  obtain ⟨d, xs, rfl, hd, hg, hn, hne, hz, q⟩ := h
  rw [Vals.ref1 r]
  obtain ⟨hs, o, es, ep, ho, hx, hdat, he, _⟩ := dgs_dict I hd hg hn
  have raw : s.heap.DictRaw d es ep := ⟨o, ho, hx, hdat⟩
  have hes : es.size = xs.length := by
    rw [← Array.length_toList, he]
    unfold ents
    simp
  refine Calls.call_function_entry PyProof.Rows.kind_sorted PyProof.Rows.plain_sorted PyProof.Rows.entry_sorted (PyProof.Rows.args_sorted1 _) ?_
  unfold Builtin.«sorted»
  refine wpAny_bind (m := checkCount "sorted" 1 1 _) (wpAny_pure ?_)
  refine wpAny_bind (PySem.W.kdu_collect (A := X.A.in1) (PySem.KdlSrc.rawDict hs) (I.ok.hd hcalm) raw (by rw [hes, sizeLine_eq]; omega) fun h' tk acc hk hacc => ?_)
  have al : acc.toList.length = xs.length := by rw [Array.length_toList, hacc.1, hes]
  have rel : PySem.W.EachIs (fun u x => RelV (V.ref x.2) u) acc.toList xs := keys_rel (P := X.prog) (w := X.w) al fun j u e => by
    obtain ⟨hi, ev⟩ := hacc.2 j u (by rw [← Array.getElem?_toList]; exact e)
    have e2 : es[j]? = ((ents X.prog X.w xs)[j]?).map (entryOfKey (nestedKind X.prog X.w)) := by rw [← Array.getElem?_toList, he, List.getElem?_map]
    rw [Array.getElem?_eq_getElem hi] at e2
    unfold ents at e2
    rw [List.getElem?_map] at e2
    cases e3 : xs[j]? with
    | none =>
      rw [e3] at e2
      cases e2
    | some x =>
      rw [e3] at e2
      refine ⟨x, rfl, ?_⟩
      rw [ev, Option.some.inj e2]
      rfl
  have I1 : Inv X pins v0 H { s with heap := h', toks := tk } := I.kept hk
  refine wpAny_bind (wpAny_newList ?_ (by rw [al, sizeLine_eq]; omega))
  have at_ : (h'.push (seqObj "list" acc.toList.toArray 0)).get? h'.objs.size = some (seqObj "list" acc.toList.toArray 0) := Heap.get?_push_size _ rfl
  have up : ∀ b u, h'.get? b = some u → (h'.push (seqObj "list" acc.toList.toArray 0)).get? b = some u := fun b u e => Heap.get?_push_of_some _ e
  show wpAny _ _ _ _ _ { s with heap := h'.push (seqObj "list" acc.toList.toArray 0), toks := tk }
  have rd : PySem.W.EachIs (fun u x => ∃ as, Reads (h'.push (seqObj "list" acc.toList.toArray 0)) u (gD x.1) as ∧ h'.objs.size ∉ as) acc.toList xs :=
    each_mono (fun u x z => ⟨[], PyProof.Rows.Reads.keeps up z, by simp⟩) (each_grps I1 hg rel)
  refine wpAny_bind (wpAny_holding (PySem.W.list_sort_data (s := { s with heap := h'.push (seqObj "list" acc.toList.toArray 0), toks := tk }) (R := fun u x => RelV (V.ref x.2) u) (enc := fun x : Gs × Addr => gD x.1) at_ rel rd ?_ ?_ (by rw [sizeLine_eq]; omega) (fun b m => ?_) fun out hol hee => ?_))
  · exact PySem.W.AllAlike.of fun b b' => alike_gD b.1 b'.1
  · refine Or.inl fun dd m => ?_
    obtain ⟨x, mx, e⟩ := List.mem_map.mp m
    subst e
    exact gD_tup (hne x mx).1
  · have := gD_dep b.1
    show X.A.in1.units + 1 + _ < cLine
    have e1 : X.A.in1.units = X.A.units + 1 := rfl
    omega
  · obtain ⟨e', he'⟩ := PyProof.Rows.sortedHeap_at (vs := acc.toList) (out := out.toArray) at_
    have hlen : ((srt (fun x : Gs × Addr => gD x.1) xs).map fun x => V.ref x.2).length ≤ sizeLine := by
      rw [List.length_map]
      unfold srt
      rw [(List.mergeSort_perm xs _).length_eq, sizeLine_eq]
      omega
    refine wpAny_pure ⟨_, rfl, .ref h'.objs.size, upd H h'.objs.size (.lst ((srt (fun x : Gs × Addr => gD x.1) xs).map fun x => V.ref x.2)), I1.laid (t' := tk) (fun b u e => ?_) (Nat.le_refl _) ⟨hlen, out, e', vals_each (fun x : Gs × Addr => V.ref x.2) hee, he'⟩, rfl, q _ (I1.hok.fresh (Nat.le_refl _))⟩
    have hb : b < h'.objs.size := Heap.lt_size e
    rw [PyProof.Rows.sortedHeap_old (Nat.ne_of_lt hb) (by rw [size_push']; exact Nat.lt_succ_of_lt hb)]
    exact Heap.get?_push_of_some _ e
end
end SD
end
section
set_option Elab.async false
set_option linter.all false
set_option maxRecDepth 100000
set_option maxHeartbeats 4000000
/-! ### operators of an own class -/
namespace SD
open PySem PySem.Spec PyProof.Rows L2
section
variable {X : Cx} {CX : CXT} {k : Nat} {f C : Addr} {fd : FuncData} {ps : List Str} {sp : Sp} {E : XK}
/-- a def called somewhere below the running body -/
theorem run_in {A : Around} {pins : List (Addr × Obj)} {v0 : L2.St} {H : Hp} {s : Shared} {Q : VK} {us : List Value} {vs : List V} (F : FnOk X.prog X.w X.K X.mg X.base CX k f fd ps sp) (hr : Room k A) (hf : A.frames = X.A.frames) (hb : Binds X.K fd ps []) (hx : Passes CX X E)
    (I : Inv X pins v0 H s) (r : Vals vs us) (h : sp vs H Q E) : wpAny (model X.prog X.w) A (call (.ref f) us) (EP X pins v0 Q) X.xe s := by
  have e1 := I.env0
  have e0 : Env0 X.prog X.w X.K X.mg X.base A X.stack s H := ⟨hf.trans e1.frames, e1.mod, e1.bs, e1.bsz, e1.funs, e1.frf, e1.hok, e1.bare⟩
  have hl := F.len _ _ _ _ h
  have bt : BindsTo s fd ⟨us, []⟩ (ps.zip us) := by
    have := hb s us I.kIn (by rw [List.append_nil, ← r.length]; exact hl)
    rwa [List.append_nil] at this
  refine wpAny_call (codeAny_mono (F.run A X.stack s H ⟨us, []⟩ us vs Q E hr e0 bt r h) fun r s' hq => ?_)
  cases r with
  | error e => exact hx pins v0 H s e s' I hq
  | ok fl =>
    cases fl with
    | ret w => exact I.after hq
    | next => exact False.elim hq
    | brk => exact False.elim hq
    | cont => exact False.elim hq
/-- a + b, both of the class at C, by its own __add__ -/
def rAddO (C : Addr) (sp : Sp) (E : XK) : R2 := fun x y H Q => ∃ a b dx fs dy gs, x = .ref a ∧ y = .ref b ∧ H a = some (.ins C dx fs) ∧ H b = some (.ins C dy gs) ∧ sp [.ref a, .ref b] H Q E
theorem op_addO (F : FnOk X.prog X.w X.K X.mg X.base CX k f fd ps sp) (hr : Room k X.A) (hb : Binds X.K fd ps []) (hx : Passes CX X E) (hs : PySem.W.findIn X.K (.ref C) "__add__" = some (some (.ref f))) (hf : PySem.W.isFn X.K (.ref f) = true) (hc : PySem.W.selfFirst X.K C = true) :
    OpR X (binaryOp .Add) (rAddO C sp E) := by
  intro pins s v0 H x y v u Q I rx ry h
  obtain ⟨a, b, dx, fs, dy, gs, rfl, rfl, ha, hb', q⟩ := h
  cases rx
  cases ry
  obtain ⟨mA, J, _⟩ := ins_get I.hok ha
  obtain ⟨mB, J', _⟩ := ins_get I.hok hb'
  obtain ⟨od, J, _⟩ := J.look
  obtain ⟨od', J', _⟩ := J'.look
  obtain ⟨m, hF⟩ := I.fr
  refine PySem.W.binop_K (op := .Add) hF I.ok.mod.kin J J'.type hc hs hf ?_
  refine wpAny_mono (run_in F hr rfl hb hx I (show Vals [V.ref a, V.ref b] [Value.ref a, Value.ref b] from .cons rfl (.cons rfl .nil)) q) (fun z s' hz => ?_) fun _ _ e => e
  obtain ⟨w, H', I', rz, qz⟩ := hz
  have whole : EP X pins v0 Q z s' := ⟨w, H', I', rz, qz⟩
  cases z <;> first | exact whole | (cases w <;> first | (obtain ⟨t, e⟩ := rz; exact nomatch e) | exact nomatch rz)
/-! ### a != b by the class's own == -/
theorem ne_bind (self : Value) : bindSpecial (.builtin "object.__ne__") self = pure (.builtin "object.__ne__", [self]) :=
  (Slot.of (T := "object") (name := "__ne__") (owner := "object") (n := "__ne__") (by rw [typeLookup_type, builtinLookup_eq_fast]; kernel_rfl) (by decide +kernel) (by decide +kernel) (by decide +kernel)
    (.inl (by decide +kernel)) (by rw [isSubtype_type]; kernel_rfl)).bind self
theorem ne_plain : plainId "object.__ne__" = true := by decide +kernel
theorem ifBound_ne {M : Model} {A : Around} {E : Value → Shared → Prop} {s : Shared} {K : PySem.W.Frag} {x C : Addr} {ox : Obj} {od : Option Obj} {args : List Value} {Q : Option Value → Shared → Prop} (X : K.In s.heap) (I : PySem.W.InstAt s.heap x ox C od)
    (hs : PySem.W.findIn K (.ref C) "__ne__" = some (some (.builtin "object.__ne__"))) (h : wpAny M A (call (.builtin "object.__ne__") (.ref x :: args)) (fun v => Q (some v)) E s) : wpAny M A (callSpecialIfBound? (.ref x) "__ne__" args) Q E s := by
  simp only [callSpecialIfBound?, bindSpecialIfBound?]
  refine wpAny_holding (wpAny_bind (wpAny_bind (wpAny_bind (I.type.here ((PySem.W.looks_findIn X hs).here ?_)))))
  refine wpAny_bind (wpAny_askSetting (wpAny_ite ?_))
  have fin : wpAny M A (call (.builtin "object.__ne__") ([.ref x] ++ args) >>= fun v => pure (some v)) Q E s := wpAny_bind (wpAny_mono h (fun v s' h' => wpAny_pure h') fun _ _ h' => h')
  rw [ne_bind]
  split
  · exact wpAny_bind (wpAny_pure (wpAny_pure (by exact fin)))
  · exact wpAny_tryCatch (wpAny_bind (wpAny_pure (wpAny_pure (by exact fin))))
def rNeO (C : Addr) (sp : Sp) (E : XK) : R2 := fun x y H Q => ∃ a b dx fs dy gs, x = .ref a ∧ y = .ref b ∧ H a = some (.ins C dx fs) ∧ H b = some (.ins C dy gs) ∧ sp [.ref a, .ref b] H (fun v H' => ∃ c, v = .bl c ∧ Q (.bl (!c)) H') E
theorem op_neO (F : FnOk X.prog X.w X.K X.mg X.base CX k f fd ps sp) (hr : Room (k + 1) X.A) (hb : Binds X.K fd ps []) (hx : Passes CX X E) (hs : PySem.W.findIn X.K (.ref C) "__eq__" = some (some (.ref f))) (hf : PySem.W.isFn X.K (.ref f) = true)
    (hn : PySem.W.findIn X.K (.ref C) "__ne__" = some (some (.builtin "object.__ne__"))) (hm : PySem.W.mroIn X.K C (.type "object") = some true) : OpR X (compareOp .NotEq) (rNeO C sp E) := by
  intro pins s v0 H x y v u Q I rx ry h
  obtain ⟨a, b, dx, fs, dy, gs, rfl, rfl, ha, hb', q⟩ := h
  cases rx
  cases ry
  obtain ⟨mA, J, _⟩ := ins_get I.hok ha
  obtain ⟨mB, J', _⟩ := ins_get I.hok hb'
  obtain ⟨od, J, _⟩ := J.look
  obtain ⟨od', J', _⟩ := J'.look
  have KI := I.kIn
  have hu : X.A.units + 1 < cLine := hu_of hr
  have run : wpAny (model X.prog X.w) X.A.in1 (call (.ref f) [.ref a, .ref b]) (EP X pins v0 fun v H' => ∃ c, v = .bl c ∧ Q (.bl (!c)) H') X.xe s := run_in F hr.in1 rfl hb hx I (show Vals [V.ref a, V.ref b] [Value.ref a, Value.ref b] from .cons rfl (.cons rfl .nil)) q
  have body : wpAny (model X.prog X.w) X.A.in1 (Builtin.«object.__ne__» ⟨[.ref a, .ref b], []⟩) (fun fin s' => ∃ r, fin = .done (.ret r) ∧ ∃ c H', r = .bool c ∧ Inv X pins v0 H' s' ∧ Q (.bl c) H') X.xe s := by
    unfold Builtin.«object.__ne__»
    show wpAny _ _ (cRoomFor "comparison" [.ref a, .ref b] >>= _) _ _ s
    refine wpAny_bind (wpAny_cRoomFor hu ?_)
    refine wpAny_bind (PySem.W.ifBound_K KI J hs hf (wpAny_mono run (fun z s' hz => ?_) fun _ _ e => e))
    obtain ⟨w, H', I', rz, c, ew, qc⟩ := hz
    subst ew
    cases rz
    refine wpAny_bind (wpAny_truthy_bool ?_)
    exact wpAny_pure ⟨_, rfl, _, H', rfl, I', qc⟩
  have one : wpAny (model X.prog X.w) X.A (tryCompare (.ref a) "__ne__" (.ref b)) (fun r s' => ∃ c H', r = some (.bool c) ∧ Inv X pins v0 H' s' ∧ Q (.bl c) H') X.xe s := by
    unfold tryCompare
    refine wpAny_bind (ifBound_ne KI J hn (wpAny_call (codeAny_call_builtin ne_plain PySem.F.cmpEntry_ne (PySem.W.check_slot PySem.F.cmpKind_ne PySem.F.cmpSplit_ne (J.type.andThen (PySem.W.looks_mroIn KI hm)) (PySem.F.cmpArgs_ne _ _) (wpAny_mono body (fun fin s' hz => ?_) fun _ _ e => e)))))
    obtain ⟨r, ef, c, H', er, I', qc⟩ := hz
    subst ef
    subst er
    exact wpAny_pure ⟨c, H', rfl, I', qc⟩
  show wpAny (model X.prog X.w) X.A (richCompare .NotEq (.ref a) (.ref b)) (EP X pins v0 Q) X.xe s
  unfold richCompare
  simp only [oneThing_ref]
  refine wpAny_holding (wpAny_bind (wpAny_cRoomFor (Nat.lt_of_succ_lt hu) ?_))
  refine wpAny_bind (J.type.here (wpAny_bind (J'.type.here ?_)))
  simp only [bne_self_eq_false, Bool.false_eq_true, if_false]
  refine wpAny_bind (wpAny_pure ?_)
  simp only [Bool.false_eq_true, if_false]
  refine wpAny_bind (wpAny_mono one (fun r s' z => ?_) fun _ _ e => e)
  obtain ⟨c, H', er, I', qc⟩ := z
  subst er
  exact wpAny_pure ⟨.bl c, H', I', rfl, qc⟩
end
end SD
end
section
set_option Elab.async false
set_option linter.all false
set_option maxRecDepth 100000
set_option maxHeartbeats 4000000
/-! ### a lambda with parameters and captured names: made, handed on, called elsewhere -/
namespace SD
open PySem PySem.Spec PyProof.Rows L2 LamX NdefX
/-- the object at f is the lambda F with this body -/
def LmO (f : Addr) (F : NF) (body : Expr) : HO := .ext fun h => ∃ pm ctv : Value, h.get? f = some (PySem.W.kla_obj F.name F.qual F.params body F.scope F.cl pm F.c ctv)
theorem lmO_at {P : Program} {w : World} {H : Hp} {h : Heap} {f : Addr} {F : NF} {body : Expr} (hok : HOk P w H h) (e : H f = some (LmO f F body)) : ∃ pm ctv : Value, h.get? f = some (PySem.W.kla_obj F.name F.qual F.params body F.scope F.cl pm F.c ctv) := (hok f _ e).1
theorem lmO_ne {f : Addr} {F : NF} {body : Expr} (ps : Array Value) : LmO f F body ≠ .tbl ps := fun e => by cases e
section
variable {X : Cx} {pins : List (Addr × Obj)} {v0 : L2.St} {H : Hp} {s : Shared}
theorem lm_laid {F : NF} {body : Expr} {pm ctv : Value} {t' : Nat} (I : Inv X pins v0 H s) : Inv X pins v0 (upd H s.heap.objs.size (LmO s.heap.objs.size F body)) { s with heap := s.heap.push (PySem.W.kla_obj F.name F.qual F.params body F.scope F.cl pm F.c ctv), toks := t' } := by
  refine I.laid (fun b o e => Heap.get?_push_of_some _ e) (Nat.le_refl _) ⟨⟨pm, ctv, Heap.get?_push_size _ rfl⟩, ⟨_, Heap.get?_push_size _ rfl⟩, fun h1 h2 z k => ?_⟩
  obtain ⟨a, b, e⟩ := z
  exact ⟨a, b, k _ e⟩
theorem lam_new {T : List (Addr × Str)} {c P : Addr} {params : Arguments} {body : Expr} {scope : Scope} {pos : Pos} {E : Value → Shared → Prop} {Q : Value → Shared → Prop} (I : Inv X pins v0 H s) (TB : TabB X.base X.mg c P) (hcode : X.env.code = .ref c)
    (hm : (P, X.env.qual ++ "<lambda>") ∈ T) (hu : ∀ p ∈ T, p.1 = P → p.2 = X.env.qual ++ "<lambda>") (hT : Tabs T H) (hdef : defaultsOf params X.env = ([], [])) (hfree : ∀ y ∈ scope.names, y.2 = .free → ∃ c, X.env.cells.lookup y.1 = some c)
    (h : ∀ (f c' : Addr) (G : Hp) (s' : Shared), Inv X pins v0 G s' → ExtN H G → Tabs T G → H f = none → G f = some (LmO f ⟨"<lambda>", X.env.qual ++ "<lambda>", params, [], scope, cloFrom X.env.cells scope.names [], c'⟩ body) → G c' = some (CodeO c' (X.env.qual ++ "<lambda>")) → Q (.ref f) s') :
    wpAny (model X.prog X.w) X.A (eval (.Lambda params body scope pos) X.env) Q E s := by
  obtain ⟨ps, hP, ht, known⟩ := hT _ hm
  refine PySem.W.kla_eval hdef ?_
  have bP : s.heap.BuiltinsAt X.mg P := TB.bm.keeps I.bk
  have obP : s.heap.get? P = some { cls := .none, data := .fields ps } := I.hok P _ hP
  -- the last step, from any state that knows the code object
  have fin : ∀ (G : Hp) (h' : Heap) (tk : Nat) (c' : Addr) (pm ctv : Value), Inv X pins v0 G { s with heap := h', toks := tk } → ExtN H G → Tabs T G → s.heap.objs.size ≤ h'.objs.size → G c' = some (CodeO c' (X.env.qual ++ "<lambda>")) →
      Q (.ref h'.objs.size) { s with heap := h'.push (PySem.W.kla_obj "<lambda>" (X.env.qual ++ "<lambda>") params body scope (cloFrom X.env.cells scope.names []) pm c' ctv), toks := tk } := fun G h' tk c' pm ctv J eG tG hsz hco => by
    have nf : G h'.objs.size = none := J.hok.fresh (Nat.le_refl _)
    have J2 := lm_laid (F := ⟨"<lambda>", X.env.qual ++ "<lambda>", params, [], scope, cloFrom X.env.cells scope.names [], c'⟩) (body := body) (pm := pm) (ctv := ctv) (t' := tk) J
    have up : ∀ b o, G b = some o → upd G h'.objs.size (LmO h'.objs.size ⟨"<lambda>", X.env.qual ++ "<lambda>", params, [], scope, cloFrom X.env.cells scope.names [], c'⟩ body) b = some o := fun b o e => by
      rw [upd_ne (ne_of_none e nf)]
      exact e
    exact h h'.objs.size c' _ _ J2 (fun b o e n => up b o (eG b o e n)) (tG.ext up) (I.hok.fresh hsz) upd_same (up _ _ hco)
  cases hc : codeAmong pos ps.toList with
  | none =>
    refine PySem.W.kla_makeFunction (mg := X.mg) (c := c) (P := P) (ps := ps) (closure_ok hfree) I.ok.glob (I.mod.glob.keeps I.bk) hcode (TB.code.keeps I.bk) obP ht hc TB.gP bP fun c' ctv h' tk hx hge hlt hrec htb => ?_
    obtain ⟨c2, oc, vs, t, e2, hoc, hd, hv⟩ := hrec
    cases e2
    have nC : H c' = none := I.hok.fresh hge
    have J := inv_table (t' := tk) (q := X.env.qual ++ "<lambda>") (more := #[rawInt pos.line, rawInt pos.col, .ref c']) (h' := h') I hP (fun b o hb e => hx b o hb e) htb hge ⟨oc, vs, t, hoc, hd, hv⟩
    have eE : ExtN H (upd (upd H P (.tbl (ps ++ #[rawInt pos.line, rawInt pos.col, .ref c']))) c' (CodeO c' (X.env.qual ++ "<lambda>"))) := fun b o e n => by
      rw [upd_ne (ne_of_none e nC), upd_ne (fun z => n ps (Option.some.inj (e.symm.trans (by rw [z]; exact hP))))]
      exact e
    have eL : (ps ++ #[rawInt pos.line, rawInt pos.col, .ref c']).toList = ps.toList ++ [rawInt pos.line, rawInt pos.col, .ref c'] := by simp
    refine fin _ h' tk c' _ ctv J eE (fun p hp => ?_) (Nat.le_trans hge (Nat.le_of_lt hlt)) upd_same
    by_cases hb : p.1 = P
    · rw [hu p hp hb, hb]
      refine ⟨_, by rw [upd_ne (ne_of_none hP nC), upd_same], by rw [eL]; exact PySem.TriplesOk_snoc _ _ _ _ ht, fun p' cv hcv => ?_⟩
      rw [eL] at hcv
      rcases among_app _ ht hcv with z | z
      · obtain ⟨c0, e1, e2⟩ := known p' cv z
        exact ⟨c0, e1, eE _ _ e2 codeO_ne⟩
      · exact ⟨c', z, upd_same⟩
    · obtain ⟨ps', a1, a2, a3⟩ := hT p hp
      refine ⟨ps', by rw [upd_ne (ne_of_none a1 nC), upd_ne hb]; exact a1, a2, fun p' cv hcv => ?_⟩
      obtain ⟨c0, e1, e2⟩ := a3 p' cv hcv
      exact ⟨c0, e1, eE _ _ e2 codeO_ne⟩
  | some cv =>
    obtain ⟨c', e, hco⟩ := known pos cv hc
    subst e
    refine PySem.W.kla_makeFunctionHit (mg := X.mg) (c := c) (P := P) (ps := ps) (closure_ok hfree) I.ok.glob (I.mod.glob.keeps I.bk) hcode (TB.code.keeps I.bk) obP ht hc bP fun ctv h' tk hx hsz => ?_
    exact fin H h' tk c' _ ctv (I.kept (t' := tk) hx) (ExtN.refl H) hT hsz hco
end
/-- lambda ..: a new function object, told -/
def tLamN (T : List (Addr × Str)) (q : Str) (F : Addr → NF) (body : Expr) : TE := fun _ H Q => Tabs T H ∧ ∀ (f c' : Addr) (G : Hp), ExtN H G → Tabs T G → H f = none → G f = some (LmO f (F c') body) → G c' = some (CodeO c' q) → Q (.ref f) G
section
variable {X : Cx}
theorem pe_lam {T : List (Addr × Str)} {c P : Addr} {params : Arguments} {body : Expr} {scope : Scope} {pos : Pos} (TB : TabB X.base X.mg c P) (hcode : X.env.code = .ref c) (hm : (P, X.env.qual ++ "<lambda>") ∈ T) (hu : ∀ p ∈ T, p.1 = P → p.2 = X.env.qual ++ "<lambda>")
    (hdef : defaultsOf params X.env = ([], [])) (hfree : ∀ y ∈ scope.names, y.2 = .free → X.env.scope.names.lookup y.1 = some .cell ∨ X.env.scope.names.lookup y.1 = some .free) :
    PE X (.Lambda params body scope pos) (tLamN T (X.env.qual ++ "<lambda>") (fun c' => ⟨"<lambda>", X.env.qual ++ "<lambda>", params, [], scope, cloFrom X.env.cells scope.names [], c'⟩) body) := by
  refine ⟨fun pins s v0 H Q I h => ?_⟩
  obtain ⟨hT, q⟩ := h
  refine lam_new I TB hcode hm hu hT hdef (fun y hy e => (hfree y hy e).elim (fun k => I.ok.has _ (.inl k)) fun k => I.ok.has _ (.inr k)) fun f c' G s' J eG tG nf hf hc => ?_
  exact ⟨.ref f, G, J, rfl, q f c' G eG tG nf hf hc⟩
end
/-! ### the call of such a lambda -/
section
variable {CX : CXT} {P : Program} {w : World} {K : PySem.W.Frag} {mg : Str → Option Value} {base : Heap} {N ps fr : List Str} {F : NF} {body : Expr} {f : Addr} {k : Nat} {sp : List (Option V) → Sp}
/-- what is promised of the lambda at f, ws what its captured cells hold -/
def LmOk (P : Program) (w : World) (K : PySem.W.Frag) (mg : Str → Option Value) (base : Heap) (CX : CXT) (k : Nat) (f : Addr) (F : NF) (body : Expr) (ps fr : List Str) (sp : List (Option V) → Sp) : Prop :=
  ∀ (A : Around) (outer : List Env) (s : Shared) (H : Hp) (us : List Value) (vs : List V) (ws : List (Option V)) (Q : VK) (E : XK), Room k A → Env0 P w K mg base A outer s H → H f = some (LmO f F body) → H F.c = some (CodeO F.c F.qual) →
    CellsAt F.cl fr ws s.heap H → Vals vs us → vs.length = ps.length → sp ws vs H Q E → codeAny (model P w) A (.call (.ref f) ⟨us, []⟩) (CR CX outer P w H s Q E) s
theorem lmOk_of (S : NScope N ps fr F.scope) (hb : ∀ (pm ctv : Value) (us : List Value), us.length = ps.length → bindArgs (PySem.W.kla_fn F.name F.qual F.params body F.scope F.cl pm (.ref F.c) ctv) ⟨us, []⟩ = pure (ps.zip us))
    (hbody : ∀ (A : Around) (outer : List Env) (s : Shared) (H : Hp) (vs : List V) (ws : List (Option V)) (Q : VK) (E : XK), Room k (A.deeper (envF F f s.heap.objs.size)) → ws.length = fr.length → vs.length = ps.length → sp ws vs H Q E →
      ∃ t, PE (ncx CX P w K mg base N F f A outer s H E) body t ∧ t (startF N vs ws) H Q) : LmOk P w K mg base CX (k + 1) f F body ps fr sp := by
  intro A outer s H us vs ws Q E hr e0 hf hc C r hl hsp
  have lim : s.heap.NoLimit := e0.mod.nolimit.keeps fun b o e => (e0.bs b o e).1
  obtain ⟨pm, ctv, ho⟩ := lmO_at e0.hok hf
  refine PySem.W.kla_callFunE hr.depth ho rfl S.co S.gen rfl (codeO_at e0.hok hc) ?_
  rw [hb pm ctv us (by rw [← r.length]; exact hl)]
  refine wpAny_pure (wpAny_newFunctionEnv S.nocell (fun ⟨n, _⟩ hy => S.par n (List.of_mem_zip hy).1) (fun h₁ hns hsb => ⟨lim.fresh _ hsb, ?_⟩) S.kind)
  have kp : ∀ b o, s.heap.get? b = some o → h₁.get? b = some o := fun b o e => hsb.extBut b o (Nat.ne_of_lt (Heap.lt_size e)) (Heap.get?_push_of_some _ e)
  obtain ⟨t, ht, hq⟩ := hbody A outer s H vs ws Q E (hr.deeper _) C.len hl hsp
  have I : Inv (ncx CX P w K mg base N F f A outer s H E) [] (startF N vs ws) H { s with heap := h₁, toks := s.toks + (ps.zip us).length } := inv_startN S hr.hd e0 hl r C hns kp
  show codeAny _ _ (.expr body (envF F f s.heap.objs.size)) _ _
  refine PySem.W.kla_codeExpr (wpAny_mono (ht.run [] _ (startF N vs ws) H Q I hq) (fun u s' hs => ?_) fun e s' hs => hs)
  obtain ⟨v, H', J, rv, q⟩ := hs
  exact ⟨v, H', J.os, J.bare, J.base, J.hok, rv, q⟩
end
end SD
end
section
set_option Elab.async false
set_option linter.all false
set_option maxRecDepth 100000
set_option maxHeartbeats 4000000
/-! ### cells lent to a callee -/
namespace SD
open PySem PySem.Spec PyProof.Rows L2 LamX NdefX
def LentO (o : Obj) : HO := .frz o (.ext fun _ => True)
def lend (cs : List (Addr × Obj)) (H : Hp) : Hp := fun b => match cs.lookup b with
  | some o => some (LentO o)
  | none => H b
def unlend (cs : List (Addr × Obj)) (H : Hp) : Hp := fun b => match cs.lookup b with
  | some _ => none
  | none => H b
section
variable {cs : List (Addr × Obj)} {H H' : Hp} {b : Addr} {o : Obj}
theorem lk_mem : ∀ {cs : List (Addr × Obj)}, cs.lookup b = some o → (b, o) ∈ cs
  | [], h => by simp at h
  | (a, u) :: r, h => by
    by_cases e : b == a
    · simp only [List.lookup, e] at h
      have e' : b = a := by simpa using e
      cases h
      rw [e']
      exact List.mem_cons_self
    · have e2 : (b == a) = false := by simpa using e
      simp only [List.lookup, e2] at h
      exact List.mem_cons_of_mem _ (lk_mem h)
theorem lk_some : ∀ {cs : List (Addr × Obj)}, (b, o) ∈ cs → ∃ u, cs.lookup b = some u
  | (a, u) :: r, h => by
    by_cases e : b == a
    · exact ⟨u, by simp only [List.lookup, e]⟩
    · have e2 : (b == a) = false := by simpa using e
      rcases List.mem_cons.mp h with z | z
      · cases z
        simp at e
      · obtain ⟨v, hv⟩ := lk_some z
        exact ⟨v, by simp only [List.lookup, e2]; exact hv⟩
theorem lend_in (h : cs.lookup b = some o) : lend cs H b = some (LentO o) := by unfold lend; rw [h]
theorem lend_out (h : cs.lookup b = none) : lend cs H b = H b := by unfold lend; rw [h]
theorem unlend_in (h : cs.lookup b = some o) : unlend cs H b = none := by unfold unlend; rw [h]
theorem unlend_out (h : cs.lookup b = none) : unlend cs H b = H b := by unfold unlend; rw [h]
theorem lk_of_un {u : HO} (hn : ∀ p ∈ cs, H p.1 = none) (e : H b = some u) : cs.lookup b = none := by
  cases h : cs.lookup b with
  | none => rfl
  | some o => have := hn _ (lk_mem h); rw [this] at e; cases e
theorem lk_of_not {u : HO} (hn : ∀ p ∈ cs, ∃ o, H p.1 = some (LentO o)) (e : H b = some u) (hu : ∀ o, u ≠ LentO o) : cs.lookup b = none := by
  cases h : cs.lookup b with
  | none => rfl
  | some o => obtain ⟨o', e'⟩ := hn _ (lk_mem h); rw [e'] at e; cases e; exact absurd rfl (hu o')
end
section
variable {P : Program} {w : World} {cs : List (Addr × Obj)} {H H' : Hp} {h h' : Heap} {K : PySem.W.Frag} {mg : Str → Option Value} {base : Heap} {A : Around} {outer : List Env} {s s' : Shared}
theorem lent_at (hok : HOk P w H h) {c : Addr} {o : Obj} (e : H c = some (LentO o)) : h.get? c = some o := (hok c _ e).1
theorem hok_lend (hok : HOk P w H h) (hc : ∀ p ∈ cs, h.get? p.1 = some p.2 ∧ H p.1 = none) : HOk P w (lend cs H) h := by
  intro a u e
  cases l : cs.lookup a with
  | some o =>
    rw [lend_in l] at e
    cases e
    have := hc _ (lk_mem l)
    exact ⟨this.1, True.intro, ⟨o, this.1⟩, fun _ _ _ _ => True.intro⟩
  | none =>
    rw [lend_out l] at e
    refine (hok a u e).stay (fun b v _ k => k) (fun b k => ?_) fun b xs k => ?_
    · rw [lend_out (lk_of_un (fun p hp => (hc p hp).2) k)]; exact k
    · rw [lend_out (lk_of_un (fun p hp => (hc p hp).2) k)]; exact k
theorem hok_unlend (hok : HOk P w H h) (hc : ∀ p ∈ cs, ∃ o, H p.1 = some (LentO o)) : HOk P w (unlend cs H) h := by
  intro a u e
  cases l : cs.lookup a with
  | some o => rw [unlend_in l] at e; cases e
  | none =>
    rw [unlend_out l] at e
    refine (hok a u e).stay (fun b v _ k => k) (fun b k => ?_) fun b xs k => ?_
    · rw [unlend_out (lk_of_not hc k (fun o z => by cases z))]; exact k
    · rw [unlend_out (lk_of_not hc k (fun o z => by cases z))]; exact k
theorem env0_lend (e : Env0 P w K mg base A outer s H) (hc : ∀ p ∈ cs, s.heap.get? p.1 = some p.2 ∧ H p.1 = none) (hb : ∀ p ∈ cs, base.get? p.1 = none) (hf : ∀ p ∈ cs, p.1 ∉ frs outer) : Env0 P w K mg base A outer s (lend cs H) where
  frames := e.frames
  mod := e.mod
  bs := fun b o k => ⟨(e.bs b o k).1, by
    cases l : cs.lookup b with
    | some o' => rw [hb _ (lk_mem l)] at k; cases k
    | none => rw [lend_out l]; exact (e.bs b o k).2⟩
  bsz := e.bsz
  funs := e.funs
  frf := fun b k => by
    cases l : cs.lookup b with
    | some o' => exact absurd k (hf _ (lk_mem l))
    | none => rw [lend_out l]; exact e.frf b k
  hok := hok_lend e.hok hc
  bare := e.bare
theorem env0_unlend (e : Env0 P w K mg base A outer s H) (hc : ∀ p ∈ cs, ∃ o, H p.1 = some (LentO o)) : Env0 P w K mg base A outer s (unlend cs H) where
  frames := e.frames
  mod := e.mod
  bs := fun b o k => ⟨(e.bs b o k).1, by
    cases l : cs.lookup b with
    | some o' => rw [unlend_in l]
    | none => rw [unlend_out l]; exact (e.bs b o k).2⟩
  bsz := e.bsz
  funs := e.funs
  frf := fun b k => by
    cases l : cs.lookup b with
    | some o' => rw [unlend_in l]
    | none => rw [unlend_out l]; exact e.frf b k
  hok := hok_unlend e.hok hc
  bare := e.bare
theorem ce_lend {Q : VK} {u : Value} (hc : ∀ p ∈ cs, s.heap.get? p.1 = some p.2 ∧ H p.1 = none) (c : CE outer P w (lend cs H) s (fun v H' => Q v (unlend cs H')) u s') : CE outer P w H s Q u s' := by
  obtain ⟨v, H', os, bare, un, hok, r, q⟩ := c
  have hn : ∀ p ∈ cs, H p.1 = none := fun p hp => (hc p hp).2
  have hl : ∀ p ∈ cs, ∃ o, H' p.1 = some (LentO o) := fun p hp => by
    obtain ⟨o, ho⟩ := lk_some (o := p.2) hp
    exact ⟨o, un.frzs _ _ _ (lend_in ho)⟩
  refine ⟨v, unlend cs H', os, bare, ?_, hok_unlend hok hl, r, q⟩
  refine ⟨fun b o e n hf hx => ?_, fun b o e n hf hx => ?_, fun b o e n hx => ?_, fun b o e hx => un.there b o e hx, fun b xs e => ?_, fun b o u e => ?_, fun b ps e => ?_⟩
  · cases l : cs.lookup b with
    | some o' =>
      have := (hc _ (lk_mem l)).1
      rw [e] at this
      cases this
      exact lent_at hok (un.frzs _ _ _ (lend_in l))
    | none => exact un.keep b o e (by rw [lend_out l]; exact n) hf hx
  · cases l : cs.lookup b with
    | some o' =>
      have := (hc _ (lk_mem l)).1
      rw [e] at this
      cases this
      exact ⟨_, lent_at hok (un.frzs _ _ _ (lend_in l))⟩
    | none => exact un.slot b o e (by rw [lend_out l]; exact n) hf hx
  · cases l : cs.lookup b with
    | some o' => exact unlend_in l
    | none => rw [unlend_out l]; exact un.free b o e (by rw [lend_out l]; exact n) hx
  · have l := lk_of_un hn e
    rw [unlend_out l]
    exact un.tups b xs (by rw [lend_out l]; exact e)
  · have l := lk_of_un hn e
    rw [unlend_out l]
    exact un.frzs b o u (by rw [lend_out l]; exact e)
  · have l := lk_of_un hn e
    obtain ⟨m, hm⟩ := un.tbls b ps (by rw [lend_out l]; exact e)
    exact ⟨m, by rw [unlend_out l]; exact hm⟩
theorem ce_unlend {Q : VK} {u : Value} (hs : HOk P w H s.heap) (hf : ∀ b ∈ frs outer, H b = none) (hc : ∀ p ∈ cs, H p.1 = some (LentO p.2)) (c : CE outer P w (unlend cs H) s (fun v H' => Q v (lend cs H')) u s') : CE outer P w H s Q u s' := by
  obtain ⟨v, H', os, bare, un, hok, r, q⟩ := c
  have hat : ∀ p ∈ cs, s.heap.get? p.1 = some p.2 := fun p hp => lent_at hs (hc p hp)
  have hn : ∀ p ∈ cs, unlend cs H p.1 = none := fun p hp => by
    obtain ⟨o, ho⟩ := lk_some (o := p.2) hp
    exact unlend_in ho
  have hn' : ∀ p ∈ cs, H' p.1 = none := fun p hp => un.free p.1 p.2 (hat p hp) (hn p hp) (by simp)
  have hl : ∀ p ∈ cs, ∃ o, H p.1 = some (LentO o) := fun p hp => ⟨_, hc p hp⟩
  have keep : ∀ p ∈ cs, s'.heap.get? p.1 = some p.2 := fun p hp => un.keep p.1 p.2 (hat p hp) (hn p hp) (fun k => by have := hc p hp; rw [hf _ k] at this; cases this) (by simp)
  refine ⟨v, lend cs H', os, bare, ?_, hok_lend hok fun p hp => ⟨keep p hp, hn' p hp⟩, r, q⟩
  have out : ∀ b, H b = none → cs.lookup b = none := fun b n => by
    cases l : cs.lookup b with
    | some o' => rw [hc _ (lk_mem l)] at n; cases n
    | none => rfl
  refine ⟨fun b o e n hf hx => ?_, fun b o e n hf hx => ?_, fun b o e n hx => ?_, fun b o e hx => un.there b o e hx, fun b xs e => ?_, fun b o u e => ?_, fun b ps e => ?_⟩
  · exact un.keep b o e (by rw [unlend_out (out b n)]; exact n) hf hx
  · exact un.slot b o e (by rw [unlend_out (out b n)]; exact n) hf hx
  · rw [lend_out (out b n)]; exact un.free b o e (by rw [unlend_out (out b n)]; exact n) hx
  · have l := lk_of_not hl e (fun o z => by cases z)
    rw [lend_out l]
    exact un.tups b xs (by rw [unlend_out l]; exact e)
  · cases l : cs.lookup b with
    | some o' =>
      rw [lend_in l]
      have := hc _ (lk_mem l)
      rw [e] at this
      exact this.symm
    | none => rw [lend_out l]; exact un.frzs b o u (by rw [unlend_out l]; exact e)
  · have l := lk_of_not hl e (fun o z => by cases z)
    obtain ⟨m, hm⟩ := un.tbls b ps (by rw [unlend_out l]; exact e)
    exact ⟨m, by rw [lend_out l]; exact hm⟩
end
/-- the captured cells cl of the names fr among the records cs -/
structure CellsIn (cl : List (Str × Addr)) (fr : List Str) (ws : List (Option V)) (cs : List (Addr × Obj)) : Prop where
  len : ws.length = fr.length
  all : ∀ y c, cl.lookup y = some c → ∃ o v, cs.lookup c = some o ∧ o.data = .cell v
  inj : ∀ x y c, cl.lookup x = some c → cl.lookup y = some c → x = y
  has : ∀ (i : Nat) (y : Str), fr[i]? = some y → ∃ c, cl.lookup y = some c ∧ ∀ v, ws[i]? = some (some v) → ∃ u o, RelV v u ∧ cs.lookup c = some o ∧ o.data = .cell (some u)
theorem cells_lent {cl : List (Str × Addr)} {fr : List Str} {ws : List (Option V)} {h : Heap} {H : Hp} (C : CellsAt cl fr ws h H) : ∃ cs : List (Addr × Obj), (∀ p ∈ cs, h.get? p.1 = some p.2 ∧ H p.1 = none) ∧ (∀ p ∈ cs, ∃ y, cl.lookup y = some p.1) ∧ CellsIn cl fr ws cs := by
  let cs : List (Addr × Obj) := (cl.filter fun p => decide (cl.lookup p.1 = some p.2)).filterMap fun p => (h.get? p.2).map fun o => (p.2, o)
  have h1 : ∀ p ∈ cs, h.get? p.1 = some p.2 ∧ ∃ y, cl.lookup y = some p.1 := fun p hp => by
    obtain ⟨q, hq, e⟩ := List.mem_filterMap.mp hp
    obtain ⟨_, hd⟩ := List.mem_filter.mp hq
    cases g : h.get? q.2 with
    | none => rw [g] at e; cases e
    | some o => rw [g] at e; cases e; exact ⟨g, q.1, by simpa using hd⟩
  have lkm : ∀ (l : List (Str × Addr)) y c, l.lookup y = some c → (y, c) ∈ l := by
    intro l y c
    induction l with
    | nil => intro e; simp at e
    | cons a r ih =>
      intro e
      by_cases z : y == a.1
      · obtain ⟨a1, a2⟩ := a
        simp only [List.lookup, z] at e
        cases e
        have z' : y = a1 := by simpa using z
        rw [z']
        exact List.mem_cons_self
      · have z2 : (y == a.1) = false := by simpa using z
        obtain ⟨a1, a2⟩ := a
        simp only [List.lookup, z2] at e
        exact List.mem_cons_of_mem _ (ih e)
  have h2 : ∀ y c, cl.lookup y = some c → ∀ o, h.get? c = some o → cs.lookup c = some o := fun y c e o ho => by
    have m : (c, o) ∈ cs := List.mem_filterMap.mpr ⟨(y, c), List.mem_filter.mpr ⟨lkm _ _ _ e, by simpa using e⟩, by show (h.get? c).map _ = _; rw [ho]; rfl⟩
    obtain ⟨u, hu⟩ := lk_some m
    have := (h1 _ (lk_mem hu)).1
    have e2 : h.get? c = some u := this
    rw [ho] at e2
    rw [hu, e2]
  refine ⟨cs, fun p hp => ⟨(h1 p hp).1, ?_⟩, fun p hp => (h1 p hp).2, C.len, fun y c e => ?_, C.inj, fun i y e => ?_⟩
  · obtain ⟨y, e⟩ := (h1 p hp).2
    exact (C.all y _ e).1
  · obtain ⟨_, v, o, ho, hd⟩ := C.all y c e
    exact ⟨o, v, h2 y c e o ho, hd⟩
  · obtain ⟨c, e1, e2⟩ := C.has i y e
    refine ⟨c, e1, fun v hv => ?_⟩
    obtain ⟨u, r, o, ho, hd⟩ := e2 v hv
    exact ⟨u, o, r, h2 y c e1 o ho, hd⟩
theorem cells_back {P : Program} {w : World} {cl : List (Str × Addr)} {fr : List Str} {ws : List (Option V)} {h : Heap} {H : Hp} {cs : List (Addr × Obj)} (hok : HOk P w H h) (hc : ∀ p ∈ cs, H p.1 = some (LentO p.2)) (C : CellsIn cl fr ws cs) : CellsAt cl fr ws h (unlend cs H) := by
  refine ⟨C.len, fun y c e => ?_, C.inj, fun i y e => ?_⟩
  · obtain ⟨o, v, l, hd⟩ := C.all y c e
    exact ⟨unlend_in l, v, o, lent_at hok (hc _ (lk_mem l)), hd⟩
  · obtain ⟨c, e1, e2⟩ := C.has i y e
    refine ⟨c, e1, fun v hv => ?_⟩
    obtain ⟨u, o, r, l, hd⟩ := e2 v hv
    exact ⟨u, r, o, lent_at hok (hc _ (lk_mem l)), hd⟩
/-! ### the call of a def with the captured cells lent -/
def tCallLend (cl : List (Str × Addr)) (fr : List Str) (js : List Nat) (sp : Sp) (E : XK) (t : TA) : TE := fun σ H Q => t σ H fun vs H1 => ∀ cs : List (Addr × Obj), (∀ p ∈ cs, H1 p.1 = none) → CellsIn cl fr (js.map (slotAt σ)) cs → sp vs (lend cs H1) (fun v H' => Q v (unlend cs H')) E
section
variable {X : Cx} {CX : CXT} {k i : Nat} {f : Addr} {fd : FuncData} {ps fr : List Str} {js : List Nat} {cl : List (Str × Addr)} {sp : Sp} {E : XK} {x : Str} {p pos : Pos} {e : Expr} {es : List Expr} {t : TA}
theorem cells_out {pins : List (Addr × Obj)} {σ : L2.St} {H : Hp} {s : Shared} (I : Inv X pins σ H s) (hfn : ∀ y, X.fn y = true) {y : Str} {c : Addr} (e : X.env.cells.lookup y = some c) : X.base.get? c = none ∧ c ∉ frs X.stack := by
  have h0 : X.s_0.heap.objs.size ≤ c := I.ok.cab y c (hfn y) e
  refine ⟨?_, fun k => ?_⟩
  · cases g : X.base.get? c with
    | none => rfl
    | some o => exact absurd (Nat.lt_of_lt_of_le (Heap.lt_size g) (Nat.le_trans I.ok.bsz h0)) (Nat.lt_irrefl _)
  · rcases List.mem_cons.mp (I.stkSub c k) with z | z
    · exact I.cne y c e z
    · obtain ⟨_, o, ho, _⟩ := I.ok.funs.mem z
      exact absurd (Nat.lt_of_lt_of_le (Heap.lt_size ho) h0) (Nat.lt_irrefl _)
theorem pe_callLend (F : FnOk X.prog X.w X.K X.mg X.base CX k f fd ps sp) (hr : Room k X.A) (hg : Gl X x) (hm : X.mg x = some (.ref f)) (hk : PySem.W.keepIn X.K (.ref f) = true) (hb : Binds X.K fd ps []) (hx : ∀ a b c d e f, ¬ CX a b c d e f) (cp : X.Ok → Caps X cl fr js) (hfn : ∀ y, X.fn y = true)
    (ha : PA X (e :: es) t) (hdb : (x == ("__debug__" : Str)) = false := by decide) (he : starEach (e :: es) X.env = (false, eval e X.env) :: starEach es X.env := by rfl) (hpl : (backTo pos (starEach es X.env)).any (·.1) = false := by rfl) :
    PE X (.Call (.Name x p) (e :: es) [] pos) (tCallLend cl fr js sp E t) := by
  refine ⟨fun pins s σ H Q I h => ?_⟩
  refine wpAny_Call_Name_kw (ld_glob I hg hm ?_ hdb)
  refine PySem.W.callWith_K (h₀ := X.base) I.ok.mod.kin hk (thn (ha.run pos pins s σ H _ I h) fun us s1 ⟨vs, H1, I1, r, q⟩ => ⟨I1.kIn, ?_⟩) he hpl
  obtain ⟨cs, h1, h2, C⟩ := cells_lent (cells_of I1 (cp I1.ok))
  have q2 := q cs (fun p hp => (h1 p hp).2) C
  have hl : us.length = ps.length := by rw [← r.length]; exact F.len _ _ _ _ q2
  have out := fun p hp => let ⟨y, e⟩ := h2 p hp; cells_out I1 hfn ((cp I1.ok).sub y _ e)
  have eu : us ++ [] = us := List.append_nil us
  have bt := hb s1 us I1.kIn (by rw [eu]; exact hl)
  rw [eu] at bt
  refine wpAny_call (codeAny_mono (F.run X.A X.stack s1 (lend cs H1) ⟨us, []⟩ us vs _ E hr (env0_lend I1.env0 h1 (fun p hp => (out p hp).1) fun p hp => (out p hp).2) bt r q2) fun r s' hq => ?_)
  cases r with
  | error e => exact absurd hq (hx _ _ _ _ _ _)
  | ok fl =>
    cases fl with
    | ret u => exact I1.after (ce_lend h1 hq)
    | next => exact False.elim hq
    | brk => exact False.elim hq
    | cont => exact False.elim hq
/-! ### the call of a lambda that a name holds -/
/-- .. its cells lent: cs -/
def tCallLm (K : PySem.W.Frag) (i : Nat) (S : Addr → List (Option V) → Hp → Prop) (sp : List (Option V) → Sp) (E : XK) (t : TA) : TE := fun σ H Q => ∃ f, σ[i]? = some (some (.ref f)) ∧ (∃ ws, S f ws H) ∧ t σ H fun vs H1 => ∃ ws, S f ws H1 ∧
  ∀ cs : List (Addr × Obj), (∀ p ∈ cs, H1 p.1 = some (LentO p.2)) → sp ws vs (unlend cs H1) (fun v H' => Q v (lend cs H')) E
theorem lmFnAt {H : Hp} {h : Heap} {P : Program} {w : World} {F : NF} {body : Expr} (hok : HOk P w H h) (e : H f = some (LmO f F body)) : PySem.W.FnAt f h := by
  obtain ⟨pm, ctv, ho⟩ := lmO_at hok e
  exact ⟨_, _, _, _, ho⟩
theorem pe_callLm {S : Addr → List (Option V) → Hp → Prop} {body : Expr} {sp : List (Option V) → Sp}
    (hS : ∀ f ws H, S f ws H → ∃ (F : NF) (cs : List (Addr × Obj)), H f = some (LmO f F body) ∧ H F.c = some (CodeO F.c F.qual) ∧ (∀ p ∈ cs, H p.1 = some (LentO p.2)) ∧ CellsIn F.cl fr ws cs ∧ LmOk X.prog X.w X.K X.mg X.base CX k f F body ps fr sp)
    (len : ∀ ws vs H Q E, sp ws vs H Q E → vs.length = ps.length)
    (hr : Room k X.A) (hx : ∀ a b c d e f, ¬ CX a b c d e f) (hN : X.N[i]? = some x) (hv : Vis X.env.scope x) (ha : PA X (e :: es) t)
    (hd : (x == ("__debug__" : Str)) = false := by decide) (hcd : (x == ("__classdict__" : Str)) = false := by decide)
    (he : starEach (e :: es) X.env = (false, eval e X.env) :: starEach es X.env := by rfl) (hpl : (backTo pos (starEach es X.env)).any (·.1) = false := by rfl) :
    PE X (.Call (.Name x p) (e :: es) [] pos) (tCallLm X.K i S sp E t) := by
  refine ⟨fun pins s σ H Q I h => ?_⟩
  obtain ⟨f, hs, ⟨ws, hS0⟩, ht⟩ := h
  obtain ⟨F, cs, hf, hc, hcs, C, L⟩ := hS f ws H hS0
  refine wpAny_Call_Name_kw (thn ((pe_var (pos := p) hN hv hd hcd).run pins s σ H (fun v H1 => v = .ref f ∧ H1 = H) I ⟨.ref f, hs, rfl, rfl⟩) fun u s1 ⟨v, H1, I1, r1, q1⟩ => ?_)
  obtain ⟨ev, eH⟩ := q1
  subst ev
  rw [eH] at I1
  obtain rfl : u = Value.ref f := r1
  refine PySem.W.callWith_F (first := []) (lmFnAt I1.hok hf) (thn (ha.run pos pins s1 σ H _ I1 ht) fun us s2 ⟨vs, H2, I2, r, ws2, hS2, q⟩ => ?_) he hpl
  obtain ⟨F2, cs2, hf2, hc2, hcs2, C2, L2⟩ := hS f ws2 H2 hS2
  refine ⟨lmFnAt I2.hok hf2, ?_⟩
  show wpAny _ _ (call (.ref f) us) _ _ _
  have q2 := q cs2 hcs2
  have hn : ∀ p ∈ cs2, ∃ o, H2 p.1 = some (LentO o) := fun p hp => ⟨_, hcs2 p hp⟩
  refine wpAny_call (codeAny_mono (L2 X.A X.stack s2 (unlend cs2 H2) us vs ws2 _ E hr (env0_unlend I2.env0 hn) ?_ ?_ (cells_back I2.hok hcs2 C2) r (len _ _ _ _ _ q2) q2) fun r s' hq => ?_)
  · rw [unlend_out (lk_of_not hn hf2 (fun o z => by cases z))]; exact hf2
  · rw [unlend_out (lk_of_not hn hc2 (fun o z => by cases z))]; exact hc2
  cases r with
  | error e => exact absurd hq (hx _ _ _ _ _ _)
  | ok fl =>
    cases fl with
    | ret u => exact I2.after (ce_unlend I2.hok I2.stkFree hcs2 hq)
    | next => exact False.elim hq
    | brk => exact False.elim hq
    | cont => exact False.elim hq
end
end SD
end
section
set_option Elab.async false
set_option linter.all false
set_option maxRecDepth 100000
set_option maxHeartbeats 4000000
/-! ### tuples that are known to the object; dicts by tuples of names -/
namespace SD
open PySem PySem.Spec PyProof.Rows L2
/-- a tuple whose object is known -/
def FTup (H : Hp) (a : Addr) (xs : List V) : Prop := ∃ o, H a = some (.frz o (.tup xs)) ∧ o.dict = none
theorem FTup.sq {K : PySem.W.Frag} {H : Hp} {a : Addr} {xs : List V} (h : FTup H a xs) : SqT K H a xs := let ⟨o, e, _⟩ := h; .inl (.inr ⟨o, e⟩)
theorem FTup.same {H G : Hp} {a : Addr} {xs : List V} (e : Same H G) (h : FTup H a xs) : FTup G a xs := let ⟨o, e1, e2⟩ := h; ⟨o, e _ _ e1, e2⟩
def tTupF (t : TA) : TE := fun σ H Q => t σ H fun xs H1 => xs.length ≤ sizeLine ∧ ∀ p o, H1 p = none → o.dict = none → Q (.ref p) (upd H1 p (.frz o (.tup xs)))
section
variable {X : Cx}
theorem frz_new {pins : List (Addr × Obj)} {σ : L2.St} {H : Hp} {s : Shared} {xs : List V} {us : List Value} {t' : Nat} (I : Inv X pins σ H s) (z : xs.length ≤ sizeLine) (r : Vals xs us) :
    Inv X pins σ (upd H s.heap.objs.size (.frz { cls := .type "tuple", data := .seq us.toArray } (.tup xs))) { s with heap := s.heap.push { cls := .type "tuple", data := .seq us.toArray }, toks := t' } :=
  I.laid (fun b u e => Heap.get?_push_of_some _ e) (Nat.le_refl _) ⟨Heap.get?_push_size _ rfl, z, us, r, ⟨_, Heap.get?_push_size _ rfl, rfl, _, rfl⟩⟩
theorem pe_tupF {es : List Expr} {t : TA} {pos : Pos} {x1} (h : PA X es t) : PE X (.Tuple es x1 pos) (tTupF t) := by
  refine ⟨fun pins s σ H Q I hq => ?_⟩
  refine wpAny_Tuple_spliced (thn (h.run pos pins s σ H _ I hq) fun us s1 ⟨xs, H1, I1, r, z, q⟩ => ⟨by rw [← r.length]; exact z, ?_⟩)
  have hf : H1 s1.heap.objs.size = none := I1.hok.fresh (Nat.le_refl _)
  exact ⟨.ref s1.heap.objs.size, _, frz_new (t' := s1.toks) I1 z r, rfl, q _ _ hf rfl⟩
/-- tuple(a list) -/
theorem call_tuple_F : CallR X (.type "tuple") (fun xs H Q => ∃ p ys, xs = [.ref p] ∧ SqL X.K H p ys ∧ ∀ l o, H l = none → o.dict = none → Q (.ref l) (upd H l (.frz o (.tup ys)))) := by
  intro pins s σ H xs us Q I r h
  obtain ⟨p, ys, rfl, hq, q⟩ := h
  obtain ⟨u, rfl, rx⟩ := vals1 r
  cases rx
  obtain ⟨its, r', pl, hz⟩ := I.list hq
  have hlen := r'.length
  refine call_tuple_list pl.isList (fun h' kp => ?_) (by simp only [List.size_toArray] <;> omega)
  have I1 : Inv X pins σ H { s with heap := h' } := I.kept (t' := s.toks) kp
  exact ⟨.ref h'.objs.size, _, frz_new (t' := s.toks) I1 hz r', rfl, q _ _ (I1.hok.fresh (Nat.le_refl _)) rfl⟩
/-- t.m(e) of such a tuple -/
def tFM (r : V → List V → Hp → VK → Prop) (to : TE) (t : TA) : TE := fun σ H Q => to σ H fun x H1 => (∃ a ys, x = .ref a ∧ FTup H1 a ys) ∧ t σ H1 fun xs H2 => r x xs H2 Q
theorem ftup_is {pins : List (Addr × Obj)} {σ : L2.St} {H : Hp} {s : Shared} {a : Addr} {ys : List V} (I : Inv X pins σ H s) (h : FTup H a ys) : s.TypeIs (.ref a) "tuple" ∧ ∀ b, Value.ref a = .ref b → ∃ ob, s.heap.get? b = some ob ∧ ob.dict = none := by
  obtain ⟨o, e, hd⟩ := h
  obtain ⟨ho, _, its, _, o', ho', hc, _⟩ := I.hok a _ e
  rw [ho] at ho'
  cases ho'
  refine ⟨⟨o, ho, hc⟩, fun b e => ?_⟩
  cases e
  exact ⟨o, ho, hd⟩
theorem pe_fm {o e : Expr} {es : List Expr} {to : TE} {t : TA} {name : Str} {apos cpos : Pos} {id : String} {r : V → List V → Hp → VK → Prop} (pa : PlainAttrs "tuple") (slot : Slot "tuple" name id) (hty : typeOf (.builtin id) = pure (.type "method_descriptor")) (hm : MtR X id r) (ho : PE X o to) (ha : PA X (e :: es) t)
    (hbase : attributeBase o name X.env (eval o X.env) = eval o X.env := by rfl)
    (hfew : ((backTo cpos (starEach (e :: es) X.env)).all (fun x => !x.1) && (backToKw cpos (keywordEach [] X.env)).all (fun x => x.1.isSome)
      && decide ((e :: es).length + ([] : List Keyword).length + (if ([] : List Keyword).isEmpty then 0 else 1) < 30)) = true := by rfl)
    (hline : (apos.endLine == cpos.line) = true := by rfl) (hs : starEach (e :: es) X.env = (false, eval e X.env) :: starEach es X.env := by rfl) (hplain : (backTo cpos (starEach es X.env)).any (·.1) = false := by rfl) :
    PE X (.Call (.Attribute o name apos) (e :: es) [] cpos) (tFM r to t) := by
  refine ⟨fun pins s σ H Q I h => ?_⟩
  refine wpAny_Call_method_late hbase hfew hline rfl (thn (ho.run pins s σ H _ I h) fun v s1 ⟨x, H1, I1, r1, ⟨a, ys, ex, ty⟩, q1⟩ => ?_)
  subst ex
  obtain rfl : v = Value.ref a := r1
  obtain ⟨h1, h2⟩ := ftup_is I1 ty
  refine ⟨"tuple", id, pa, slot, hty, h1, h2, ?_⟩
  have hA := ha.run cpos pins s1 σ H1 _ I1 q1
  rw [hs] at hA ⊢
  refine Calls.callWith_builtin (by show (false || (backTo cpos (starEach es X.env)).any (·.1)) = false; rw [hplain] <;> rfl) (Calls.evalArgs_plain ?_)
  exact thn hA fun us s2 ⟨vs, H2, I2, r2, q2⟩ => hm pins s2 σ H2 (.ref a) vs _ us Q I2 (show RelV (.ref a) (.ref a) from rfl) r2 q2
end
/-! ### dicts by such tuples of names, of ints -/
abbrev Lv := List (List Str × Addr × Int)
def kg (g : List Str) : List Key := g.map .inr
theorem kg_inj : ∀ {a b : List Str}, kg a = kg b → a = b
  | [], [], _ => rfl
  | [], _ :: _, e => by simp [kg] at e
  | _ :: _, [], e => by simp [kg] at e
  | x :: xs, y :: ys, e => by
    unfold kg at e
    rw [List.map_cons, List.map_cons] at e
    injection e with e1 e2
    injection e1 with e1
    rw [e1, kg_inj e2]
theorem kg_vals (g : List Str) : (kg g).map kV = g.map V.str := by
  unfold kg
  rw [List.map_map]
  rfl
def LdR (x : List Str × Addr × Int) (y : List Key × Addr × Value) : Prop := y.1 = kg x.1 ∧ y.2.1 = x.2.1 ∧ RelV (.int x.2.2) y.2.2
def DLv (P : Program) (w : World) (d : Addr) (xs : Lv) : HO := .ext fun h => (d == sysModules) = false ∧ ∃ ys, Paired LdR xs ys ∧ ∃ o es ep, h.get? d = some o ∧ o.ExactDict ∧ o.data = .dict es ep ∧ es.toList = ys.map (entryOfKey (tupleKind (mixKind P w)))
structure LvOk (H : Hp) (xs : Lv) : Prop where
  keys : ∀ x ∈ xs, FTup H x.2.1 (x.1.map .str)
  nd : (xs.map (·.1)).Nodup
  len : xs.length < 100000
theorem LvOk.same {H G : Hp} {xs : Lv} (e : Same H G) (h : LvOk H xs) : LvOk G xs := ⟨fun x m => (h.keys x m).same e, h.nd, h.len⟩
def lget (xs : Lv) (g : List Str) : Option Int := (xs.find? fun x => decide (x.1 = g)).map (·.2.2)
def lput (xs : Lv) (g : List Str) (a : Addr) (n : Int) : Lv := if (lget xs g).isSome then xs.map (fun x => if x.1 = g then (x.1, x.2.1, n) else x) else xs ++ [(g, a, n)]
theorem lget_atKey {xs : Lv} {ys : List (List Key × Addr × Value)} (r : Paired LdR xs ys) (g : List Str) : RelO ((lget xs g).map V.int) ((atKey ys (kg g)).map (·.2)) := by
  induction r with
  | nil => exact True.intro
  | @cons x y xs ys h t ih =>
    obtain ⟨h1, h2, h3⟩ := h
    unfold lget atKey
    by_cases e : x.1 = g
    · rw [List.find?_cons_of_pos (by simpa using e), List.find?_cons_of_pos (by simpa [h1] using congrArg kg e)]
      exact h3
    · rw [List.find?_cons_of_neg (by simpa using e), List.find?_cons_of_neg (by simpa [h1] using fun z => e (kg_inj z))]
      exact ih
theorem atKey_isSome {xs : Lv} {ys : List (List Key × Addr × Value)} (r : Paired LdR xs ys) (g : List Str) : (atKey ys (kg g)).isSome = (lget xs g).isSome := by
  have h := lget_atKey r g
  cases a : lget xs g <;> cases b : atKey ys (kg g) <;> rw [a, b] at h <;> first | rfl | exact h.elim
theorem lput_stored {xs : Lv} {ys : List (List Key × Addr × Value)} (r : Paired LdR xs ys) (g : List Str) (a : Addr) (n : Int) {u : Value} (hu : RelV (.int n) u) : Paired LdR (lput xs g a n) (storedH ys (kg g) a u) := by
  have e := atKey_isSome r g
  unfold lput storedH
  rw [e]
  by_cases c : (lget xs g).isSome = true
  · rw [if_pos c, if_pos c]
    clear e c
    induction r with
    | nil => exact .nil
    | @cons x y xs ys h t ih =>
      rw [List.map_cons, List.map_cons]
      refine .cons ?_ ih
      obtain ⟨h1, h2, h3⟩ := h
      unfold putAt
      by_cases z : x.1 = g
      · rw [if_pos z, if_pos (by rw [h1, z])]
        exact ⟨h1, h2, hu⟩
      · rw [if_neg z, if_neg (by rw [h1]; exact fun q => z (kg_inj q))]
        exact ⟨h1, h2, h3⟩
  · rw [if_neg c, if_neg c]
    clear e c
    induction r with
    | nil => exact .cons ⟨rfl, rfl, hu⟩ .nil
    | cons h t ih => exact .cons h ih
theorem lget_none {xs : Lv} {g : List Str} (h : lget xs g = none) : g ∉ xs.map (·.1) := by
  intro m
  obtain ⟨x, mx, e⟩ := List.mem_map.mp m
  unfold lget at h
  rw [Option.map_eq_none_iff, List.find?_eq_none] at h
  exact h x mx (by simpa using e)
theorem lput_keys (xs : Lv) (g : List Str) (a : Addr) (n : Int) : (lput xs g a n).map (·.1) = if (lget xs g).isSome then xs.map (·.1) else xs.map (·.1) ++ [g] := by
  unfold lput
  split
  · rw [List.map_map]
    refine List.map_congr_left fun x _ => ?_
    show (if x.1 = g then (x.1, x.2.1, n) else x).1 = x.1
    split <;> rfl
  · rw [List.map_append]
    rfl
theorem lput_nodup {xs : Lv} (h : (xs.map (·.1)).Nodup) (g : List Str) (a : Addr) (n : Int) : ((lput xs g a n).map (·.1)).Nodup := by
  rw [lput_keys]
  split
  · exact h
  · rename_i c
    have e : lget xs g = none := by simpa using c
    rw [List.nodup_append]
    refine ⟨h, by simp, fun x mx y my => ?_⟩
    have : y = g := by simpa using my
    subst this
    intro z
    exact lget_none e (z ▸ mx)
theorem lput_mem {xs : Lv} {g : List Str} {a : Addr} {n : Int} {x : List Str × Addr × Int} (m : x ∈ lput xs g a n) : (x.1, x.2.1) ∈ xs.map (fun y => (y.1, y.2.1)) ∨ (x.1 = g ∧ x.2.1 = a) := by
  unfold lput at m
  split at m
  · obtain ⟨y, my, e⟩ := List.mem_map.mp m
    refine .inl (List.mem_map.mpr ⟨y, my, ?_⟩)
    rw [← e]
    split <;> rfl
  · rcases List.mem_append.mp m with z | z
    · exact .inl (List.mem_map.mpr ⟨x, z, rfl⟩)
    · have : x = (g, a, n) := by simpa using z
      subst this
      exact .inr ⟨rfl, rfl⟩
theorem lput_len (xs : Lv) (g : List Str) (a : Addr) (n : Int) : (lput xs g a n).length ≤ xs.length + 1 := by
  unfold lput
  split
  · rw [List.length_map]; omega
  · rw [List.length_append]; exact Nat.le_refl _
section
variable {X : Cx} {pins : List (Addr × Obj)} {v0 : L2.St} {H : Hp} {s : Shared} {d a : Addr} {xs : Lv} {g : List Str}
theorem ftup_key (I : Inv X pins v0 H s) (h : FTup H a (g.map .str)) : (tupleKind (mixKind X.prog X.w)).is s.heap (kg g) a := by
  obtain ⟨o, e, hd⟩ := h
  obtain ⟨_, _, its, r, o', ho', hc, n, hdt⟩ := I.hok a _ e
  rw [← kg_vals] at r
  exact ⟨o', its.toArray, n, ho', hc, hdt, by simpa using items_are (P := X.prog) (w := X.w) r⟩
theorem keys_paired {G : Hp} (I : Inv X pins v0 G s) : ∀ {xs : Lv} {ys : List (List Key × Addr × Value)}, Paired LdR xs ys → (∀ x ∈ xs, FTup G x.2.1 (x.1.map .str)) → ∀ y ∈ ys, (tupleKind (mixKind X.prog X.w)).is s.heap y.1 y.2.1
  | _, _, .nil, _ => fun y m => by cases m
  | _, _, .cons h t, hk => fun y m => by
    rcases List.mem_cons.mp m with z | z
    · subst z
      obtain ⟨h1, h2, _⟩ := h
      rw [h1, h2]
      exact ftup_key I (hk _ List.mem_cons_self)
    · exact keys_paired I t (fun x mx => hk x (List.mem_cons_of_mem _ mx)) y z
theorem ld_keys : ∀ {xs : Lv} {ys : List (List Key × Addr × Value)}, Paired LdR xs ys → ys.map (·.1) = (xs.map (·.1)).map kg
  | _, _, .nil => rfl
  | _, _, .cons h t => by rw [List.map_cons, List.map_cons, List.map_cons, ld_keys t, h.1]
theorem kg_nodup : ∀ {l : List (List Str)}, l.Nodup → (l.map kg).Nodup
  | [], _ => List.nodup_nil
  | g :: l, h => by
    obtain ⟨h1, h2⟩ := List.nodup_cons.mp h
    rw [List.map_cons, List.nodup_cons]
    refine ⟨fun m => ?_, kg_nodup h2⟩
    obtain ⟨g', m', e⟩ := List.mem_map.mp m
    exact h1 (kg_inj e ▸ m')
theorem dlv_raw {G : Hp} (I : Inv X pins v0 H s) (r : Rd H d (DLv X.prog X.w d xs)) : (d == sysModules) = false ∧ ∃ ys, Paired LdR xs ys ∧ ∃ o es ep, s.heap.get? d = some o ∧ o.ExactDict ∧ o.data = .dict es ep ∧ es.toList = ys.map (entryOfKey (tupleKind (mixKind X.prog X.w))) := (r.ok I.hok).1
theorem dlv_dict (I : Inv X pins v0 H s) (r : Rd H d (DLv X.prog X.w d xs)) (ok : LvOk H xs) : (d == sysModules) = false ∧ ∃ ys, Paired LdR xs ys ∧ s.heap.DictOfH (tupleKind (mixKind X.prog X.w)) d ys := by
  obtain ⟨hs, ys, p, o, es, ep, ho, hx, hd, he⟩ := dlv_raw (G := H) I r
  exact ⟨hs, ys, p, o, es, ep, ho, hx, hd, he, keys_paired I p ok.keys, by rw [ld_keys p]; exact kg_nodup ok.nd⟩
theorem dlv_ok {P : Program} {w : World} {G : Hp} {h : Heap} (hs : (d == sysModules) = false) {ys : List (List Key × Addr × Value)} (p : Paired LdR xs ys) {o : Obj} {es : Array DictEntry} {ep : Nat} (ho : h.get? d = some o) (hx : o.ExactDict) (hd : o.data = .dict es ep) (he : es.toList = ys.map (entryOfKey (tupleKind (mixKind P w)))) :
    ObjOk P w G h d (DLv P w d xs) := ⟨⟨hs, ys, p, o, es, ep, ho, hx, hd, he⟩, ⟨o, ho⟩, fun h1 h2 ⟨a, ys, p, o', es', ep', b, c⟩ k => ⟨a, ys, p, o', es', ep', k _ b, c⟩⟩
theorem dlv_mut {P : Program} {w : World} : Mut (some (DLv P w d xs)) := True.intro
theorem lput_ok {G : Hp} {n : Int} (e : ∀ b o u, H b = some (.frz o u) → G b = some (.frz o u)) (ok : LvOk H xs) (hl : xs.length < 90000) (h : FTup H a (g.map .str)) : LvOk G (lput xs g a n) := by
  refine ⟨fun x m => ?_, lput_nodup ok.nd g a n, ?_⟩
  · have k : FTup H x.2.1 (x.1.map .str) := by
      rcases lput_mem m with z | ⟨z1, z2⟩
      · obtain ⟨y, my, ey⟩ := List.mem_map.mp z
        have e1 : y.1 = x.1 := congrArg (·.1) ey
        have e2 : y.2.1 = x.2.1 := congrArg (·.2) ey
        rw [← e1, ← e2]
        exact ok.keys y my
      · rw [z1, z2]; exact h
    obtain ⟨o, e1, e2⟩ := k
    exact ⟨o, e _ _ _ e1, e2⟩
  · have := lput_len xs g a n
    omega
end
/-! readings and rules -/
/-- {} -/
def tLnew (P : Program) (w : World) : TE := fun _ H Q => ∀ p, H p = none → Q (.ref p) (upd H p (DLv P w p []))
/-- {k: v} -/
def tLdisp (P : Program) (w : World) (tk tv : TE) : TE := fun σ H Q => ∀ p, H p = none → tPairs [(tk, tv)] σ (upd H p (DLv P w p [])) fun ps G => ∃ a g n, ps = [(.ref a, .int n)] ∧ G p = some (DLv P w p []) ∧ FTup G a (g.map .str) ∧ Q (.ref p) (upd G p (DLv P w p [(g, a, n)]))
/-- d[k] -/
def tLget (P : Program) (w : World) (td ty : TE) : TE := fun σ H Q => td σ H fun x H1 => ty σ H1 fun y H2 => ∃ d a xs g n, x = .ref d ∧ y = .ref a ∧ Rd H2 d (DLv P w d xs) ∧ LvOk H2 xs ∧ FTup H2 a (g.map .str) ∧ lget xs g = some n ∧ Q (.int n) H2
/-- d.get(k, n0) -/
def tLget2 (P : Program) (w : World) (td ty tx : TE) : TE := fun σ H Q => td σ H fun x H1 => ∃ d, x = .ref d ∧ (∃ xs, Rd H1 d (DLv P w d xs)) ∧ ty σ H1 fun y H2 => tx σ H2 fun z H3 => ∃ a xs g n0, y = .ref a ∧ z = .int n0 ∧ Rd H3 d (DLv P w d xs) ∧ LvOk H3 xs ∧ FTup H3 a (g.map .str) ∧ Q (.int ((lget xs g).getD n0)) H3
/-- d[k] = v -/
def sLput (P : Program) (w : World) (td ty tv : TE) : TS := fun D σ H => tv σ H fun v H1 => td σ H1 fun x H2 => ty σ H2 fun y H3 => ∃ d a xs g n, x = .ref d ∧ y = .ref a ∧ v = .int n ∧ H3 d = some (DLv P w d xs) ∧ LvOk H3 xs ∧ xs.length < 90000 ∧ FTup H3 a (g.map .str) ∧ D.nx σ (upd H3 d (DLv P w d (lput xs g a n)))
def ItL (P : Program) (w : World) (d : Addr) (o : Obj) (xs : Lv) : It :=
  ⟨fun i H => H d = some (.frz o (DLv P w d xs)) ∧ i < xs.length, fun i H x H' => H' = H ∧ ∃ g a n, xs[i]? = some (g, a, n) ∧ x = .ref a, fun i H => H d = some (.frz o (DLv P w d xs)) ∧ xs.length ≤ i⟩
def iLkeys (P : Program) (w : World) (td : TE) : TI := fun σ H R => td σ H fun x H1 => ∃ d o xs, x = .ref d ∧ H1 d = some (.frz o (DLv P w d xs)) ∧ R (ItL P w d o xs) H1
section
variable {X : Cx} {o i e f value : Expr} {pos pos' apos cpos : Pos} {td ty tx tk tv : TE}
theorem dlv_type {pins : List (Addr × Obj)} {v0 : L2.St} {H : Hp} {s : Shared} {d : Addr} {xs : Lv} (I : Inv X pins v0 H s) (r : Rd H d (DLv X.prog X.w d xs)) : s.TypeIs (.ref d) "dict" ∧ ∀ b, Value.ref d = .ref b → ∃ ob, s.heap.get? b = some ob ∧ ob.dict = none := by
  obtain ⟨_, ys, p, o, es, ep, ho, hx, _⟩ := dlv_raw (G := H) I r
  refine ⟨⟨o, ho, hx.1⟩, fun b e => ?_⟩
  cases e
  exact ⟨o, ho, hx.2.1⟩
theorem dlv_empty {P : Program} {w : World} {H : Hp} (h : Heap) (hb : sysModules < h.objs.size) : ObjOk P w H (h.push { cls := .type "dict", data := .dict #[] }) h.objs.size (DLv P w h.objs.size []) :=
  dlv_ok (beq_eq_false_iff_ne.mpr (Ne.symm (Nat.ne_of_lt hb))) .nil (Heap.get?_push_size _ rfl) ⟨rfl, rfl, rfl⟩ rfl rfl
theorem pe_lnew : PE X (.Dict [] [] pos) (tLnew X.prog X.w) := by
  refine ⟨fun pins s σ H Q I q => ?_⟩
  have hn := I.hok.fresh (Nat.le_refl s.heap.objs.size)
  have I1 := I.laid (a := s.heap.objs.size) (o := DLv X.prog X.w s.heap.objs.size []) (h' := s.heap.push { cls := .type "dict", data := .dict #[] }) (t' := s.toks) (fun _ _ q => Heap.get?_push_of_some _ q) (Nat.le_refl _) (dlv_empty s.heap I.big)
  exact wpAny_Dict_empty ⟨.ref s.heap.objs.size, _, I1, rfl, q _ hn⟩
theorem pe_lget (hu : X.A.units + 1 < cLine) (ho : PE X o td) (hi : PE X i ty) (hs : NoSl i) : PE X (.Subscript o i pos) (tLget X.prog X.w td ty) := by
  refine ⟨fun pins s σ H Q I h => ?_⟩
  refine subD_of PySem.F.slot_dict_getitem.lookup hs (thn (ho.run pins s σ H _ I h) fun u s1 ⟨x, H1, I1, rx, q1⟩ => thn (hi.run pins s1 σ H1 _ I1 q1) fun iv s2 ⟨y, H2, I2, ry, d, a, xs, g, n, ex, ey, r, ok, hk, l, q2⟩ => ?_)
  subst ex ey
  obtain rfl : u = Value.ref d := rx
  obtain rfl : iv = Value.ref a := ry
  obtain ⟨hsm, ys, p, dd⟩ := dlv_dict I2 r ok
  have k := lget_atKey p g
  rw [l] at k
  obtain ⟨w', hw, rw'⟩ := RelO.some_of (v := .int n) k
  obtain ⟨p1, hp, hp2⟩ := Option.map_eq_some_iff.mp hw
  refine ⟨(dlv_type I2 r).1, wpAny_getItem_heap (tupleKind_room_in1 hu) (ftup_key I2 hk) dd hp ?_⟩
  rw [hp2]
  exact ⟨.int n, H2, I2.tok _, rw', q2⟩
theorem pe_lget2 (hu : X.A.units + 1 < cLine) (ho : PE X o td) (he : PE X e ty) (hf : PE X f tx) (m : M2 X o "get" apos e f cpos) : PE X (.Call (.Attribute o "get" apos) [e, f] [] cpos) (tLget2 X.prog X.w td ty tx) := by
  refine ⟨fun pins s σ H Q I h => ?_⟩
  refine wpAny_Call_method m.base m.few m.line PySem.F.plainAttrs_dict PySem.F.slot_dict_get PySem.F.type_dict_get (thn (ho.run pins s σ H _ I h) fun u s1 ⟨x, H1, I1, rx, d, ex, ⟨xs1, r1⟩, q1⟩ => ?_)
  subst ex
  obtain rfl : u = Value.ref d := rx
  obtain ⟨t1, t2⟩ := dlv_type I1 r1
  refine ⟨t1, t2, ?_⟩
  rw [m.trees]
  refine Calls.callWith_builtin rfl (Calls.evalArgs_plain (Calls.spliced_cons (thn (he.run pins s1 σ H1 _ I1 q1) fun iv s2 ⟨y, H2, I2, ry, q2⟩ =>
    Calls.spliced_cons (thn (hf.run pins s2 σ H2 _ I2 q2) fun fv s3 ⟨z, H3, I3, rz, a, xs, g, n0, ey, ez, r, ok, hk, q3⟩ => Calls.spliced_nil ?_))))
  subst ey ez
  obtain rfl : iv = Value.ref a := ry
  obtain ⟨hsm, ys, p, dd⟩ := dlv_dict I3 r ok
  have k := lget_atKey p g
  refine call_meetsIn PySem.F.slot_dict_get dd.typeIs PySem.F.entry_dict_get (PySem.F.args_dict_get_3 _ _ _) (meetsH_dict_get_default (tupleKind (mixKind X.prog X.w)) d a hsm fv) ⟨tupleKind_room_in1 hu, kg g, ys, ftup_key I3 hk, dd, _, H3, I3.tok _, ?_, q3⟩
  have k2 := k.getD (d := .int n0) (d' := fv) rz
  have e : ((lget xs g).map V.int).getD (.int n0) = .int ((lget xs g).getD n0) := by cases lget xs g <;> rfl
  rw [← e]
  exact k2
theorem ps_lput (hu : X.A.units + 1 < cLine) (ho : PE X o td) (hi : PE X i ty) (hv : PE X value tv) (hs : swapsWith value (some (.Subscript o i pos')) pos.line X.env = pure false) :
    PS X (.Assign [.Subscript o i pos'] value pos) (sLput X.prog X.w td ty tv) := by
  refine ⟨fun pins s σ H D I h => ?_⟩
  refine wpAny_Assign_Subscript (thn (hv.run pins s σ H _ I h) fun r s1 ⟨v, H1, I1, rv, q1⟩ => thn (ho.run pins s1 σ H1 _ I1 q1) fun u s2 ⟨x, H2, I2, rx, q2⟩ => thn (hi.run pins s2 σ H2 _ I2 q2) fun iv s3 ⟨y, H3, I3, ry, d, a, xs, g, n, ex, ey, ev, hd, ok, hl, hk, q3⟩ => ?_) hs
  subst ex ey ev
  obtain rfl : u = Value.ref d := rx
  obtain rfl : iv = Value.ref a := ry
  obtain ⟨hsm, ys, p, dd⟩ := dlv_dict I3 (.of hd) ok
  have hz : ys.length ≤ sizeLine := by rw [← Paired.length p, sizeLine_eq]; have := ok.len; omega
  refine wpAny_setItem_heap (hsz := hz) (tupleKind_room_in1 hu) (ftup_key I3 hk) dd fun h' dd' sb => ?_
  obtain ⟨q, es, ep, hq, h2, h3, h4, _, h5⟩ := dd'
  exact ⟨σ, _, d_write I3 (by rw [hd]; exact True.intro) sb ⟨q, hq⟩ (dlv_ok hsm (lput_stored p g a n rv) hq h2 h3 h4), q3⟩
/-- a display whose keys are such: the dict told with the keys' own tuples -/
theorem dict_dispH {prog : Program} {w : World} {κ : Type} [DecidableEq κ] {knd : HeapKind prog w κ} {A : Around} {E : Value → Shared → Prop} {s : Shared} {env : Env} {keys : List (Option Expr)} {values : List Expr} {pos : Pos} {pairs : List (Sem Value × Sem Value)} {Q : Value → Shared → Prop} (hu : knd.room A)
    (hshape : (evalEachOpt keys env).zip ((evalEach values env).map fun v => do let x ← v; standAt pos; pure x) = pairs.map fun p => (some p.1, p.2)) (h0 : pairs ≠ []) (hlen : pairs.length ≤ 15)
    (h : wpAny (model prog w) A (evalPairs pairs) (fun vs s₁ => ∃ ps, CarriesH knd s₁.heap vs ps ∧ s₁.heap.DictOfH knd s.heap.objs.size [] ∧
      ∀ h' tk, h'.DictOfH knd s.heap.objs.size (storedAllH [] ps) → Heap.SameBut s.heap.objs.size s₁.heap h' → Q (.ref s.heap.objs.size) { s₁ with heap := h', toks := tk }) E
      { s with heap := s.heap.push { cls := .type "dict", data := .dict #[] } }) : wpAny (model prog w) A (eval (.Dict keys values pos) env) Q E s := by
  rw [arm_eval_Dict, hshape, dictDisplay_pairs pairs h0 (by omega)]
  exact wpAny_bind (wpAny_standAt (wpAny_bind (wpAny_subDictH (knd := knd) (Q := fun d s' => wpAny (model prog w) A (pure (Value.ref d)) Q E s') hu hlen
    (wpAny_mono h (fun vs s₁ h₁ => by obtain ⟨ps, hc, hm, hq⟩ := h₁; exact ⟨ps, hc, hm, fun h' tk a b => wpAny_pure (hq h' tk a b)⟩) fun _ _ e => e))))
theorem pe_ldisp {k v : Expr} (hu : X.A.units + 1 < cLine) (hk : PE X k tk) (hv : PE X v tv) (h0 : PPs X pos [some k] [v] [(tk, tv)]) 
    (hshape : ((evalEachOpt [some k] X.env).zip ((evalEach [v] X.env).map fun v => do let x ← v; standAt pos; pure x)) = (pairTrees [some k] [v] X.env pos).map fun p => (some p.1, p.2) := by rfl) (hne : pairTrees [some k] [v] X.env pos ≠ [] := by intro h; cases h) (hlen : (pairTrees [some k] [v] X.env pos).length ≤ 15 := by decide) :
    PE X (.Dict [some k] [v] pos) (tLdisp X.prog X.w tk tv) := by
  refine ⟨fun pins s σ H Q I q => ?_⟩
  have hn := I.hok.fresh (Nat.le_refl s.heap.objs.size)
  have I1 := I.laid (a := s.heap.objs.size) (o := DLv X.prog X.w s.heap.objs.size []) (h' := s.heap.push { cls := .type "dict", data := .dict #[] }) (t' := s.toks) (fun _ _ q => Heap.get?_push_of_some _ q) (Nat.le_refl _) (dlv_empty s.heap I.big)
  refine dict_dispH (knd := tupleKind (mixKind X.prog X.w)) (show X.A.units < cLine by omega) hshape hne hlen (thn (h0.run pins _ σ _ _ I1 (q _ hn)) fun ws s2 ⟨ps, H2, I2, rel, a, g, n, ep, hd, hk2, q2⟩ => ?_)
  subst ep
  obtain ⟨q1, rfl, r1, r2⟩ : ∃ q1 : Value × Value, ws = [q1] ∧ RelV (.ref a) q1.1 ∧ RelV (.int n) q1.2 := by
    cases rel with
    | @cons b c bs cs h t => cases t; exact ⟨c, rfl, h⟩
  obtain ⟨u1, u2⟩ := q1
  obtain rfl : u1 = Value.ref a := r1
  obtain ⟨hsm, ys, p, o', es, ep, ho, hx, hdd, he⟩ := dlv_raw (G := H2) I2 (.of hd)
  cases p
  refine ⟨[(kg g, a, u2)], ⟨rfl, rfl, ftup_key I2 hk2, True.intro⟩, ⟨o', es, ep, ho, hx, hdd, he, (fun x m => nomatch m), List.nodup_nil⟩, fun h' tk' dd' sb => ?_⟩
  obtain ⟨q, es', ep', hq, h2, h3, h4, _, _⟩ := dd'
  exact ⟨.ref s.heap.objs.size, _, d_write I2 (by rw [hd]; exact True.intro) sb ⟨q, hq⟩ (dlv_ok hsm (.cons ⟨rfl, rfl, r2⟩ .nil) hq h2 h3 h4), rfl, q2⟩
theorem turn_lkeys {P : Program} {w : World} {K : PySem.W.Frag} {tg : Expr} {d : Addr} {o : Obj} {xs : Lv} {es : Array DictEntry} {ep : Nat} (it : Addr) (hod : o.data = .dict es ep) : Turn P w K tg (ItL P w d o xs) [it] it (fun i h => h.IsKeyIter it d i xs.length ep) where
  mem := by simp
  obj := fun i h st b hb => by
    have e : b = it := by simpa using hb
    subst e
    obtain ⟨oi, e, c, dd⟩ := st
    exact ⟨oi, e, fun v z => by rw [dd] at z; cases z⟩
  keep := fun i h h' st k => st.at fun oi e => k it (by simp) oi e
  item := by
    intro X hP hw hK hc i pins s σ H E I hf st hg
    subst hP hw hK
    obtain ⟨hd, hi⟩ := hg
    obtain ⟨f0, f1, f2, f3, f4, f5⟩ := hf it (by simp)
    obtain ⟨hs, ys, p, o', es', ep', ho, hx, hdt, he⟩ := dlv_raw (G := H) I (.inr ⟨o, hd⟩)
    have hgd : s.heap.get? d = some o := (I.hok d _ hd).1
    rw [hgd] at ho
    cases ho
    obtain ⟨rfl, rfl⟩ := dict_ep hod hdt
    have hsz := (size_of_entries he).trans (Paired.length p).symm
    obtain ⟨⟨g, a, n⟩, hx⟩ : ∃ p, xs[i]? = some p := ⟨xs[i], List.getElem?_eq_getElem hi⟩
    obtain ⟨b, hb, e1, e2, _⟩ := paired_get p hx
    have q := entry_at he i
    rw [hb] at q
    refine next_key_item st hgd hdt hsz q fun h' st' sb => ?_
    have I1 : Inv X pins σ H { s with heap := h' } := I.turned (t' := s.toks) (fun b ob hb e => (sb.2 b hb).trans e) f0 f1 f3 f4 f5
    obtain ⟨oi, e, c, dd⟩ := id st'
    have ek : (entryOfKey (tupleKind (mixKind X.prog X.w)) b).key = .ref a := congrArg Value.ref e2
    exact ⟨_, rfl, go_of (s := { s with heap := h' }) e c dd (by decide) ⟨.ref a, H, I1, ek, ⟨rfl, g, a, n, hx, rfl⟩, st', fun b hb => (hf b hb).1⟩⟩
  done := by
    intro X hP hw hK hc i pins s σ H E I hf st hg
    subst hP hw hK
    obtain ⟨hd, hi⟩ := hg
    obtain ⟨f0, f1, f2, f3, f4, f5⟩ := hf it (by simp)
    obtain ⟨hs, ys, p, o', es', ep', ho, hx, hdt, he⟩ := dlv_raw (G := H) I (.inr ⟨o, hd⟩)
    have hgd : s.heap.get? d = some o := (I.hok d _ hd).1
    rw [hgd] at ho
    cases ho
    obtain ⟨rfl, rfl⟩ := dict_ep hod hdt
    have hsz := (size_of_entries he).trans (Paired.length p).symm
    exact next_key_end (I.ok.hd hc) st hgd hdt hsz hi fun h' eb => ⟨rfl, I.turned (t' := s.toks) (fun b ob hb e => eb b ob hb e) f0 f1 f3 f4 f5⟩
  self := fun A i s Q E st h => by
    refine wpAny_pyIter_slot st.typeIs F.slot_dict_keyiterator_iter (wpAny_call_entry F.slot_dict_keyiterator_iter st.typeIs F.entry_dict_keyiterator_iter ?_ (F.args_dict_keyiterator_iter_1 _))
    show wpAny _ _ (ret (.ref it)) _ _ s
    exact wpAny_pure ⟨_, rfl, "dict_keyiterator", _, st.typeIs, F.slot_dict_keyiterator_next.lookup, h⟩
theorem pi_lkeys {tg : Expr} (he : PE X e td) : PI X tg e (iLkeys X.prog X.w td) := by
  refine ⟨fun pins s σ H R I h => ?_⟩
  refine thn (he.run pins s σ H _ I h) fun u s1 ⟨x, H1, I1, rx, d, o, xs, ex, hd, q⟩ => ?_
  subst ex
  obtain rfl : u = Value.ref d := rx
  obtain ⟨hs, ys, p, o', es, ep, ho, hx, hdt, hen⟩ := dlv_raw (G := H1) I1 (.inr ⟨o, hd⟩)
  have hgd : s1.heap.get? d = some o := (I1.hok d _ hd).1
  rw [hgd] at ho
  cases ho
  have hsz : es.size = xs.length := by rw [size_of_entries hen, Paired.length p]
  refine iter_keys hs hgd hx hdt (pi_one (tk := s1.toks) I1 _ (turn_lkeys _ hdt) ⟨_, Heap.get?_push_size _ rfl, rfl, ?_⟩ q)
  rw [hsz] <;> rfl
end
end SD
end
section
set_option Elab.async false
set_option linter.all false
set_option maxRecDepth 100000
set_option maxHeartbeats 4000000
/-! ### what of the program's top is needed; the calls by name -/
namespace SD
open PySem PySem.Spec PyProof.Rows L2
structure FnF (K : PySem.W.Frag) (mg : Str → Option Value) (x : Str) (st : Stmt) : Prop where
  ex : ∃ f fd, L2.Fun K x x st f fd ∧ mg x = some (.ref f)
structure FnC (K : PySem.W.Frag) (mg : Str → Option Value) (x : Str) (st : Stmt) (c : Addr) : Prop where
  ex : ∃ f fd, L2.Fun K x x st f fd ∧ mg x = some (.ref f) ∧ fd.code = .ref c
/-- a class: its own word, its name -/
structure ClF (K : PySem.W.Frag) (mg : Str → Option Value) (x : Str) (C : Addr) : Prop where
  ins : C8.InsC K C
  mgc : mg x = some (.ref C)
structure IniF (K : PySem.W.Frag) (C : Addr) (qual : Str) (st : Stmt) (dvs : List V) : Prop where
  ex : ∃ f fd, Mk K C f ∧ FunD K "__init__" qual (defArgs st) (defBody st) (defScope st) dvs [] f fd
structure MetF (K : PySem.W.Frag) (C : Addr) (m qual : Str) (st : Stmt) : Prop where
  ex : ∃ f fd, Meth K C m f ∧ L2.Fun K m qual st f fd
structure PrpF (K : PySem.W.Frag) (C : Addr) (m qual : Str) (st : Stmt) : Prop where
  ex : ∃ p g fd, PropOf K C m p g ∧ L2.Fun K m qual st g fd
structure ClmF (K : PySem.W.Frag) (C : Addr) (m qual : Str) (st : Stmt) : Prop where
  ex : ∃ p g fd mc, ClX.CRead K C mc ∧ ClX.CMet K C mc m p g ∧ L2.Fun K m qual st g fd
structure OpsF (K : PySem.W.Frag) (C : Addr) (qadd qeq : Str) (sadd seq : Stmt) : Prop where
  add : ∃ f fd, PySem.W.findIn K (.ref C) "__add__" = some (some (.ref f)) ∧ PySem.W.isFn K (.ref f) = true ∧ L2.Fun K "__add__" qadd sadd f fd
  self : PySem.W.selfFirst K C = true
  eq : ∃ f fd, PySem.W.findIn K (.ref C) "__eq__" = some (some (.ref f)) ∧ PySem.W.isFn K (.ref f) = true ∧ L2.Fun K "__eq__" qeq seq f fd
  ne : PySem.W.findIn K (.ref C) "__ne__" = some (some (.builtin "object.__ne__"))
  mro : PySem.W.mroIn K C (.type "object") = some true
def bn : List Str := ["isinstance", "int", "bool", "str", "tuple", "list", "len", "all", "any", "enumerate", "range", "sorted", "abs", "divmod", "sum", "max", "min"]
abbrev aD (K : PySem.W.Frag) : Addr := He.ga K "Deed"
abbrev aU (K : PySem.W.Frag) : Addr := He.ga K "Urn"
abbrev aF (K : PySem.W.Frag) : Addr := He.ga K "Form"
structure Tops (K : PySem.W.Frag) (mg : Str → Option Value) : Prop where
  f_is_integer : FnF K mg "is_integer" (top 29)
  f_is_natural : FnF K mg "is_natural" (top 30)
  f_is_name : FnF K mg "is_name" (top 31)
  f_is_thing : FnF K mg "is_thing" (top 32)
  f_check_thing : FnF K mg "check_thing" (top 33)
  f_check_pair : FnF K mg "check_pair" (top 34)
  f_wrong_in_order : FnF K mg "wrong_in_order" (top 35)
  f_check_order : FnF K mg "check_order" (top 36)
  f_check_things : FnF K mg "check_things" (top 38)
  f_number_of : FnF K mg "number_of" (top 40)
  f_greatest_divisor : FnF K mg "greatest_divisor" (top 41)
  f_is_group : FnF K mg "is_group" (top 44)
  f_wrong_group : FnF K mg "wrong_group" (top 45)
  f_grouped : FnF K mg "grouped" (top 47)
  f_deed_with : FnF K mg "deed_with" (top 53)
  f_is_term : FnF K mg "is_term" (top 55)
  f_wrong_term : FnF K mg "wrong_term" (top 56)
  f_shared_divisor : FnF K mg "shared_divisor" (top 57)
  f_form_of : FnF K mg "form_of" (top 62)
  f_check_form : FnF K mg "check_form" (top 63)
  f_is_ticketed : FnF K mg "is_ticketed" (top 68)
  f_wrong_ticket : FnF K mg "wrong_ticket" (top 69)
  f_summed : FnF K mg "summed" (top 70)
  f_urn_of_rows : FnF K mg "urn_of_rows" (top 72)
  f_check_urn : FnF K mg "check_urn" (top 73)
  f_pair_with : FnF K mg "pair_with" (top 74)
  f_urn_with : FnF K mg "urn_with" (top 75)
  f_cut : FnF K mg "cut" (top 77)
  f_ways_on : FnF K mg "ways_on" (top 78)
  f_forms_of : FnF K mg "forms_of" (top 79)
  f_turned : FnF K mg "turned" (top 82)
  f_ways : FnF K mg "ways" (top 83)
  f_ways_ahead : FnF K mg "ways_ahead" (top 84)
  f_law_purse : FnF K mg "_law_purse" (top 86)
  f_law_draw : FnF K mg "_law_draw" (top 87)
  f_law_things : FnF K mg "_law_things" (top 88)
  f_law_order : FnF K mg "_law_order" (top 89)
  f_law_ranked : FnF K mg "_law_ranked" (top 90)
  f_law_groups : FnF K mg "_law_groups" (top 91)
  f_law_text : FnF K mg "_law_text" (top 92)
  f_law_done : FnF K mg "_law_done" (top 93)
  f_law_rows : FnF K mg "_law_rows" (top 94)
  f_law_urn_text : FnF K mg "_law_urn_text" (top 95)
  f_law_total : FnF K mg "_law_total" (top 96)
  f_law_power : FnF K mg "_law_power" (top 97)
  f_law_sum : FnF K mg "_law_sum" (top 98)
  f_law_tells : FnF K mg "_law_tells" (top 99)
  f_law_next : FnF K mg "_law_next" (top 100)
  f_law_levels : FnF K mg "_law_levels" (top 101)
  f_law_ahead : FnF K mg "_law_ahead" (top 102)
  f_law_right : FnF K mg "_law_right" (top 103)
  f_law : FnF K mg "law" (top 104)
  nn0 : ∀ x ∈ bn, mg x = none
  cMOST_THINGS : ∃ u, mg "MOST_THINGS" = some u ∧ RelV (.int 8) u
  cMOST_DEEDS : ∃ u, mg "MOST_DEEDS" = some u ∧ RelV (.int 8) u
  cMOST_TICKETS : ∃ u, mg "MOST_TICKETS" = some u ∧ RelV (.int 60) u
  cLETTERS : ∃ u, mg "LETTERS" = some u ∧ RelV (.str "abcdefghijklmnopqrstuvwxyz") u
  cSIGNS : ∃ u, mg "SIGNS" = some u ∧ RelV (.str "abcdefghijklmnopqrstuvwxyz0123456789") u
  cDIGITS : ∃ u, mg "DIGITS" = some u ∧ RelV (.str "0123456789") u
  oD : ClF K mg "Deed" (aD K)
  oU : ClF K mg "Urn" (aU K)
  oF : ClF K mg "Form" (aF K)
  iD : IniF K (aD K) "Deed.__init__" (inClass (top 49) 0) []
  iU : IniF K (aU K) "Urn.__init__" (inClass (top 71) 0) []
  iF : IniF K (aF K) "Form.__init__" (inClass (top 58) 0) [.int 1]
  nD1 : NoAttr K (aD K) "parted"
  nD2 : NoAttr K (aD K) "ranks"
  nU1 : NoAttr K (aU K) "rows"
  nU2 : NoAttr K (aU K) "named"
  nF1 : NoAttr K (aF K) "sums"
  nF2 : NoAttr K (aF K) "under"
  pDg : PrpF K (aD K) "groups" "Deed.groups" (inClass (top 49) 5)
  pDt : PrpF K (aD K) "things" "Deed.things" (inClass (top 49) 6)
  pUp : PrpF K (aU K) "pairs" "Urn.pairs" (inClass (top 71) 2)
  pUt : PrpF K (aU K) "things" "Urn.things" (inClass (top 71) 3)
  pFt : PrpF K (aF K) "terms" "Form.terms" (inClass (top 58) 2)
  pFp : PrpF K (aF K) "parts" "Form.parts" (inClass (top 58) 3)
  mDo : MetF K (aD K) "only" "Deed.only" (inClass (top 49) 10)
  mUo : MetF K (aU K) "only" "Urn.only" (inClass (top 71) 5)
  rU : ClmF K (aU K) "read" "Urn.read" (inClass (top 71) 1)
  opF : OpsF K (aF K) "Form.__add__" "Form.__eq__" (inClass (top 58) 6) (inClass (top 58) 14)
theorem Tops.nn {K : PySem.W.Frag} {mg : Str → Option Value} (T : Tops K mg) (x : Str) (h : x ∈ bn := by decide) : mg x = none := T.nn0 x h
/-! ### calls by name -/
section
variable {P : Program} {w : World} {K : PySem.W.Frag} {mg : Str → Option Value} {base : Heap}
structure Cl (P : Program) (w : World) (K : PySem.W.Frag) (mg : Str → Option Value) (base : Heap) (k : Nat) (x : Str) (ps : List Str) (sp : Sp) : Prop where
  ex : ∃ f fd, FnOk P w K mg base CX0 k f fd ps sp ∧ mg x = some (.ref f) ∧ PySem.W.keepIn K (.ref f) = true ∧ Binds K fd ps []
abbrev BodyOk (P : Program) (w : World) (K : PySem.W.Frag) (mg : Str → Option Value) (base : Heap) (k : Nat) (N : List Str) (qual : Str) (st : Stmt) (f : Addr) (sp : Sp) : Prop :=
  ∀ (cdv : Value) (A : Around) (outer : List Env) (s : Shared) (H : Hp) (vs : List V) (Q : VK) (E : XK), Room k (A.deeper (envOfC qual (defScope st) s.heap.objs.size f cdv)) → sp vs H Q E →
      ∃ t, PSs (cxOf CX0 P w K mg base N qual (defScope st) f cdv A outer s H E).nox (defBody st) t ∧ t { nx := fun _ H' => Q .non H', rt := Q } (start N vs) H
abbrev BindN (x qual : Str) (st : Stmt) (ps : List Str) : Prop := ∀ (kV doc pm : Value) (an : Option Addr) (cdv ct : Value) (us : List Value), us.length = ps.length → bindArgs (PySem.W.fnOf x qual (defArgs st) (defBody st) (defScope st) .none kV doc pm an cdv ct) ⟨us, []⟩ = pure (ps.zip us)
theorem Cl.of {x : Str} {st : Stmt} {N ps : List Str} {k : Nat} {sp : Sp} (D : FnF K mg x st) (S : FnScope N ps (defScope st)) (hb : BindN x x st ps) (len : ∀ vs H Q E, sp vs H Q E → vs.length = ps.length)
    (hbody : ∀ f, BodyOk P w K mg base k N x st f sp) : Cl P w K mg base (k + 1) x ps sp := by
  obtain ⟨f, fd, F, hm⟩ := D.ex
  exact ⟨f, fd, F.ok S len fun cdv A outer s H vs Q E hr h => hbody f cdv A outer s H vs Q E hr h, hm, F.kp, F.binds hb⟩
/-- a method of the class at C -/
structure Mt (P : Program) (w : World) (K : PySem.W.Frag) (mg : Str → Option Value) (base : Heap) (k : Nat) (C : Addr) (m : Str) (ps : List Str) (sp : Sp) : Prop where
  ex : ∃ f fd, Cls K C ∧ Meth K C m f ∧ FnOk P w K mg base CX0 k f fd ps sp ∧ Binds K fd ps []
theorem Mt.of {m qual : Str} {C : Addr} {st : Stmt} {N ps : List Str} {k : Nat} {sp : Sp} (c : Cls K C) (D : MetF K C m qual st) (S : FnScope N ps (defScope st)) (hb : BindN m qual st ps) (len : ∀ vs H Q E, sp vs H Q E → vs.length = ps.length)
    (hbody : ∀ f, BodyOk P w K mg base k N qual st f sp) : Mt P w K mg base (k + 1) C m ps sp := by
  obtain ⟨f, fd, me, F⟩ := D.ex
  exact ⟨f, fd, c, me, F.ok S len fun cdv A outer s H vs Q E hr h => hbody f cdv A outer s H vs Q E hr h, F.binds hb⟩
/-- a property -/
structure Pr (P : Program) (w : World) (K : PySem.W.Frag) (mg : Str → Option Value) (base : Heap) (k : Nat) (C : Addr) (m : Str) (sp : Sp) : Prop where
  ex : ∃ p g fd, Cls K C ∧ PropOf K C m p g ∧ FnOk P w K mg base CX0 k g fd ["self"] sp ∧ Binds K fd ["self"] []
theorem Pr.of {m qual : Str} {C : Addr} {st : Stmt} {N : List Str} {k : Nat} {sp : Sp} (c : Cls K C) (D : PrpF K C m qual st) (S : FnScope N ["self"] (defScope st)) (hb : BindN m qual st ["self"]) (len : ∀ vs H Q E, sp vs H Q E → vs.length = 1)
    (hbody : ∀ f, BodyOk P w K mg base k N qual st f sp) : Pr P w K mg base (k + 1) C m sp := by
  obtain ⟨p, g, fd, pr, F⟩ := D.ex
  exact ⟨p, g, fd, c, pr, F.ok S len fun cdv A outer s H vs Q E hr h => hbody g cdv A outer s H vs Q E hr h, F.binds hb⟩
/-- a class that is made: sp, its __init__ -/
structure Ml (P : Program) (w : World) (K : PySem.W.Frag) (mg : Str → Option Value) (base : Heap) (k : Nat) (x : Str) (C : Addr) (ps : List Str) (sp : Sp) (dvs : List V) : Prop where
  ex : ∃ f fd ds, Mk K C f ∧ mg x = some (.ref C) ∧ FnOk P w K mg base CX0 k f fd ps sp ∧ Binds K fd ps ds ∧ Vals dvs ds
end
section
variable {X : Cx} {k j : Nat} {C : Addr} {x m : Str} {ps : List Str} {sp : Sp} {dvs : List V} {p pos apos : Pos} {e o : Expr} {es : List Expr} {ta : TE} {t : TA}
theorem pe_cl (c : Cl X.prog X.w X.K X.mg X.base k x ps sp) (hr : Room j X.A) (hk : k ≤ j) (hg : Gl X x) (ha : PA X (e :: es) t)
    (hdb : (x == ("__debug__" : Str)) = false := by decide) (he : starEach (e :: es) X.env = (false, eval e X.env) :: starEach es X.env := by rfl) (hpl : (backTo pos (starEach es X.env)).any (·.1) = false := by rfl) :
    PE X (.Call (.Name x p) (e :: es) [] pos) (tCall sp [] E0 t) := by
  obtain ⟨f, fd, F, hm, kp, b⟩ := c.ex
  exact pe_call F (hr.mono hk) hg hm kp b .nil pass0 ha hdb he hpl
theorem pe_ml (c : Ml X.prog X.w X.K X.mg X.base k x C ps sp dvs) (hr : Room j X.A) (hk : k + 1 ≤ j) (hg : Gl X x) (ha : PA X (e :: es) t)
    (hdb : (x == ("__debug__" : Str)) = false := by decide) (he : starEach (e :: es) X.env = (false, eval e X.env) :: starEach es X.env := by rfl) (hpl : (backTo pos (starEach es X.env)).any (·.1) = false := by rfl) :
    PE X (.Call (.Name x p) (e :: es) [] pos) (tMake C sp dvs E0 t) := by
  obtain ⟨f, fd, ds, M, hm, F, b, d⟩ := c.ex
  exact pe_make M F (hr.mono hk) hg hm b d pass0 ha hdb he hpl
theorem pe_mt {pl : Sem Bool} (c : Mt X.prog X.w X.K X.mg X.base k C m ps sp) (hr : Room j X.A) (hk : k ≤ j) (he : PE X o ta) (ha : PA X (e :: es) t)
    (hst : starEach (e :: es) X.env = (false, eval e X.env) :: starEach es X.env := by rfl) (hpl : (backTo pos (starEach es X.env)).any (·.1) = false := by rfl)
    (ht : eval (.Call (.Attribute o m apos) (e :: es) [] pos) X.env = (do
      let ov ← eval o X.env
      standAt apos.atName
      let (f, first) ← holding [ov] (getMethod ov m pl)
      callWith pos f first (backTo pos (starEach (e :: es) X.env)) (backToKw pos (keywordEach [] X.env))) := by rfl) :
    PE X (.Call (.Attribute o m apos) (e :: es) [] pos) (tMeth C m sp [] E0 ta t) := by
  obtain ⟨f, fd, hc, hm, F, b⟩ := c.ex
  exact pe_meth (pl := pl) he hc hm F (hr.mono hk) b .nil pass0 ha hst hpl ht
theorem pe_pr (c : Pr X.prog X.w X.K X.mg X.base k C m sp) (hr : Room j X.A) (hk : k + 1 ≤ j) (he : PE X e ta) (hab : attributeBase e m X.env (eval e X.env) = eval e X.env) : PE X (.Attribute e m pos) (tProp C sp [] E0 ta) := by
  obtain ⟨p, g, fd, hc, hp, F, b⟩ := c.ex
  exact pe_prop he hc hp F (hr.mono hk) b .nil pass0 hab
end
end SD
end
section
set_option Elab.async false
set_option linter.all false
set_option maxRecDepth 100000
set_option maxHeartbeats 4000000
/-! ### comprehensions whose turns leave all that was there -/
namespace SD
open PySem PySem.Spec PyProof.Rows L2
/-- all but what stands at D is as it was -/
def But (D : Addr) (H H' : Hp) : Prop := ∀ b o, b ≠ D → H b = some o → H' b = some o
theorem But.of {D : Addr} {H H' : Hp} (e : Same H H') : But D H H' := fun b o _ h => e b o h
theorem But.refl (D : Addr) (H : Hp) : But D H H := fun _ _ _ h => h
theorem But.trans {D : Addr} {H H1 H2 : Hp} (a : But D H H1) (b : But D H1 H2) : But D H H2 := fun c o n h => b c o n (a c o n h)
theorem But.upd (D : Addr) (H : Hp) (o : HO) : But D H (upd H D o) := fun b u n h => by rw [upd_ne n]; exact h
theorem But.same {D : Addr} {H H' : Hp} (e : But D H H') (n : H D = none) : Same H H' := fun b o h => e b o (ne_of_none h n) h
theorem same_new {H : Hp} {p : Addr} {o : HO} (n : H p = none) : Same H (upd H p o) := fun b u h => by rw [upd_ne (ne_of_none h n)]; exact h
theorem _root_.L2.Same.sqT {K : PySem.W.Frag} {H H' : Hp} {a : Addr} {xs : List V} (e : Same H H') (h : SqT K H a xs) : SqT K H' a xs := by
  rcases h with (h | ⟨o, h⟩) | h
  · exact .inl (.inl (e _ _ h))
  · exact .inl (.inr ⟨o, e _ _ h⟩)
  · exact .inr h
/-- the comprehension's list behind i turns -/
def LcP (D : Addr) (H1 : Hp) (R : Nat → List V → Hp → Prop) (i : Nat) : Hp → Prop := fun H => ∃ acc, Same H1 H ∧ H D = some (.lst acc) ∧ acc.length ≤ i ∧ R i acc H
theorem lc_put {D : Addr} {H1 H H4 : Hp} {R : Nat → List V → Hp → Prop} {i : Nat} {acc : List V} {y : V} (hn : H1 D = none) (e1 : Same H1 H) (e : Same H H4) (hD : H D = some (.lst acc)) (hl : acc.length ≤ i) (hi : i < 90000) (hR : R (i + 1) (acc ++ [y]) (upd H4 D (.lst (acc ++ [y])))) :
    ∃ acc, H4 D = some (.lst acc) ∧ acc.length < sizeLine ∧ LcP D H1 R (i + 1) (upd H4 D (.lst (acc ++ [y]))) :=
  ⟨acc, e _ _ hD, by rw [sizeLine_eq]; omega, acc ++ [y], fun b o h => by rw [upd_ne (ne_of_none h hn)]; exact e _ _ (e1 _ _ h), upd_same, by rw [List.length_append]; exact Nat.succ_le_succ hl, hR⟩
theorem lc_skip {D : Addr} {H1 H H4 : Hp} {R : Nat → List V → Hp → Prop} {i : Nat} {acc : List V} (e1 : Same H1 H) (e : Same H H4) (hD : H D = some (.lst acc)) (hl : acc.length ≤ i) (hR : R (i + 1) acc H4) : LcP D H1 R (i + 1) H4 :=
  ⟨acc, e1.trans e, e _ _ hD, Nat.le_succ_of_le hl, hR⟩
abbrev LcBody (g : TG) (tt : TT) (te : TE) (vs : List Nat) (σ : L2.St) (D : Addr) (x : V) (H : Hp) (N : Hp → Prop) : Prop := g x (wipe σ vs) H fun σ2 H2 => wipe σ2 vs = wipe σ vs ∧ tt σ2 H2 fun b H3 =>
      if b = true then te σ2 H3 fun y H4 => ∃ acc, H4 D = some (.lst acc) ∧ acc.length < sizeLine ∧ N (upd H4 D (.lst (acc ++ [y]))) else N H3
abbrev LcGoal (J : It) (g : TG) (tt : TT) (te : TE) (vs : List Nat) (σ : L2.St) (H1 : Hp) (D : Addr) (Qd : Hp → Prop) : Prop :=
    ∃ W : Nat → Nat → Hp → Prop, (∃ m, W 0 m (upd H1 D (.lst []))) ∧ ∀ i m H, W i m H →
      (J.stop i H ∧ Qd H) ∨ (J.go i H ∧ ∃ Nx : Hp → Prop, (∀ H', Nx H' → ∃ m', m' < m ∧ W (i + 1) m' H') ∧ ∀ x H', J.yld i H x H' → LcBody g tt te vs σ D x H' Nx)
section
variable {K : PySem.W.Frag} {a : Addr} {xs : List V} {g : TG} {tt : TT} {te : TE} {vs : List Nat} {σ : L2.St} {H1 : Hp} {D : Addr} {Qd : Hp → Prop} (R : Nat → List V → Hp → Prop)
theorem lcJ {J : It} (n : Nat) (y : Nat → V → Prop) (hgo : ∀ i H, Same H1 H → i < n → J.go i H) (hst : ∀ H, Same H1 H → J.stop n H) (hy : ∀ i H v H', Same H1 H → i < n → J.yld i H v H' → H' = H ∧ y i v) (hn : H1 D = none) (h0 : R 0 [] (upd H1 D (.lst [])))
    (hs : ∀ i x H acc, i < n → y i x → Same H1 H → H D = some (.lst acc) → acc.length ≤ i → R i acc H → LcBody g tt te vs σ D x H (LcP D H1 R (i + 1))) (hd : ∀ H acc, Same H1 H → H D = some (.lst acc) → acc.length ≤ n → R n acc H → Qd H) : LcGoal J g tt te vs σ H1 D Qd := by
  refine ⟨fun i m H => m = n - i ∧ i ≤ n ∧ LcP D H1 R i H, ⟨n, by simp, Nat.zero_le _, [], same_new hn, upd_same, Nat.le_refl _, h0⟩, ?_⟩
  rintro i m H ⟨rfl, hi, acc, e, hD, hl, r⟩
  by_cases hlt : i < n
  · refine .inr ⟨hgo i H e hlt, LcP D H1 R (i + 1), fun H' p' => ⟨n - (i + 1), by omega, rfl, hlt, p'⟩, fun x H' q => ?_⟩
    obtain ⟨eH, q2⟩ := hy i H x H' e hlt q
    subst eH
    exact hs i x _ acc hlt q2 e hD hl r
  · have ei : i = n := by omega
    subst ei
    exact .inl ⟨hst H e, hd H acc e hD hl r⟩
theorem lcT (hx : SqT K H1 a xs) (hn : H1 D = none) (h0 : R 0 [] (upd H1 D (.lst [])))
    (hs : ∀ i x H acc, xs[i]? = some x → Same H1 H → H D = some (.lst acc) → acc.length ≤ i → R i acc H → LcBody g tt te vs σ D x H (LcP D H1 R (i + 1))) (hd : ∀ H acc, Same H1 H → H D = some (.lst acc) → acc.length ≤ xs.length → R xs.length acc H → Qd H) : LcGoal (Itt K a) g tt te vs σ H1 D Qd := by
  refine lcJ R xs.length (fun i v => xs[i]? = some v) (fun i H e h => ⟨xs, xs[i], e.sqT hx, by simp [h]⟩) (fun H e => ⟨xs, e.sqT hx, Nat.le_refl _⟩) (fun i H v H' e h q => ⟨q.1, q.2 xs (e.sqT hx)⟩) hn h0 (fun i x H acc _ => hs i x H acc) hd
theorem lcL (hx : SqL K H1 a xs) (hn : H1 D = none) (h0 : R 0 [] (upd H1 D (.lst [])))
    (hs : ∀ i x H acc, xs[i]? = some x → Same H1 H → H D = some (.lst acc) → acc.length ≤ i → R i acc H → LcBody g tt te vs σ D x H (LcP D H1 R (i + 1))) (hd : ∀ H acc, Same H1 H → H D = some (.lst acc) → acc.length ≤ xs.length → R xs.length acc H → Qd H) : LcGoal (Itl K a) g tt te vs σ H1 D Qd := by
  refine lcJ R xs.length (fun i v => xs[i]? = some v) (fun i H e h => ⟨xs, xs[i], e.seq hx, by simp [h]⟩) (fun H e => ⟨xs, e.seq hx, Nat.le_refl _⟩) (fun i H v H' e h q => ⟨q.1, q.2 xs (e.seq hx)⟩) hn h0 (fun i x H acc _ => hs i x H acc) hd
theorem lcR {lo : Int} {n : Nat} (hn : H1 D = none) (h0 : R 0 [] (upd H1 D (.lst [])))
    (hs : ∀ i H acc, i < n → Same H1 H → H D = some (.lst acc) → acc.length ≤ i → R i acc H → LcBody g tt te vs σ D (.int (lo + i)) H (LcP D H1 R (i + 1))) (hd : ∀ H acc, Same H1 H → H D = some (.lst acc) → acc.length ≤ n → R n acc H → Qd H) : LcGoal (Itr lo n) g tt te vs σ H1 D Qd := by
  refine lcJ R n (fun i v => v = .int (lo + i)) (fun i H e h => h) (fun H e => Nat.le_refl _) (fun i H v H' e h q => q) hn h0 (fun i x H acc hi ex => ?_) hd
  subst ex
  exact hs i H acc hi
theorem lcS {z : Str} (hn : H1 D = none) (h0 : R 0 [] (upd H1 D (.lst [])))
    (hs : ∀ i c H acc, z.cps.toList[i]? = some c → Same H1 H → H D = some (.lst acc) → acc.length ≤ i → R i acc H → LcBody g tt te vs σ D (.str ⟨#[c]⟩) H (LcP D H1 R (i + 1))) (hd : ∀ H acc, Same H1 H → H D = some (.lst acc) → acc.length ≤ z.length → R z.length acc H → Qd H) : LcGoal (Its z) g tt te vs σ H1 D Qd := by
  refine lcJ R z.length (fun i v => ∃ c, z.cps[i]? = some c ∧ v = .str ⟨#[c]⟩) (fun i H e h => h) (fun H e => Nat.le_refl _) (fun i H v H' e h q => q) hn h0 (fun i x H acc hi ex => ?_) hd
  obtain ⟨c, hc, rfl⟩ := ex
  exact hs i c H acc (by simpa using hc)
end
/-! lists by their beginnings -/
theorem take_succ_map {α β : Type} {f : α → β} {l : List α} {i : Nat} {x : α} (h : l[i]? = some x) : (l.take (i + 1)).map f = (l.take i).map f ++ [f x] := by
  rw [List.take_succ, h, List.map_append]
  rfl
theorem take_succ_filter {α : Type} {p : α → Bool} {l : List α} {i : Nat} {x : α} (h : l[i]? = some x) : (l.take (i + 1)).filter p = (l.take i).filter p ++ (if p x then [x] else []) := by
  rw [List.take_succ, h, List.filter_append]
  simp [List.filter_cons]
theorem inV_strs (x : Str) (l : List Str) : inV (.str x) (l.map V.str) = decide (x ∈ l) := by
  unfold inV
  rw [List.any_map]
  induction l with
  | nil => rfl
  | cons y l ih =>
    rw [List.any_cons, ih]
    simp only [List.mem_cons, Function.comp, eqV, Bool.decide_or]
    congr 1
    by_cases e : x = y <;> simp [e]
    intro z; exact e z.symm
theorem flat_strs (l : List Str) : (l.map V.str).all flatV = true := by
  rw [List.all_map]
  exact List.all_eq_true.mpr fun _ _ => rfl
theorem inV_ints (x : Int) (l : List Int) : inV (.int x) (l.map V.int) = decide (x ∈ l) := by
  unfold inV
  rw [List.any_map]
  induction l with
  | nil => rfl
  | cons y l ih =>
    rw [List.any_cons, ih]
    simp only [List.mem_cons, Function.comp, eqV, Bool.decide_or]
    congr 1
    by_cases e : x = y <;> simp [e]
    intro z; exact e z.symm
theorem flat_ints (l : List Int) : (l.map V.int).all flatV = true := by
  rw [List.all_map]
  exact List.all_eq_true.mpr fun _ _ => rfl
end SD
namespace SD
open PySem PySem.Spec PyProof.Rows L2
/-- a walk by an invariant of the turn, whatever the turn does -/
abbrev LoopG (J : It) (H0 : Hp) (B : V → Hp → (Hp → Prop) → Prop) (Qd : Hp → Prop) : Prop :=
  ∃ W : Nat → Nat → Hp → Prop, (∃ m, W 0 m H0) ∧ ∀ i m H, W i m H → (J.stop i H ∧ Qd H) ∨ (J.go i H ∧ ∃ Nx : Hp → Prop, (∀ H', Nx H' → ∃ m', m' < m ∧ W (i + 1) m' H') ∧ ∀ x H', J.yld i H x H' → B x H' Nx)
section
variable {K : PySem.W.Frag} {a : Addr} {xs : List V} {H0 : Hp} {B : V → Hp → (Hp → Prop) → Prop} {Qd : Hp → Prop} (Pv : Nat → Hp → Prop)
theorem loopJ {J : It} (n : Nat) (y : Nat → V → Hp → Hp → Prop) (hgo : ∀ i H, Pv i H → i < n → J.go i H) (hst : ∀ H, Pv n H → J.stop n H) (hy : ∀ i H v H', Pv i H → i < n → J.yld i H v H' → y i v H H') (h0 : Pv 0 H0)
    (hs : ∀ i x H H', i < n → y i x H H' → Pv i H → B x H' (Pv (i + 1))) (hd : ∀ H, Pv n H → Qd H) : LoopG J H0 B Qd := by
  refine ⟨fun i m H => m = n - i ∧ i ≤ n ∧ Pv i H, ⟨n, by simp, Nat.zero_le _, h0⟩, ?_⟩
  rintro i m H ⟨rfl, hi, p⟩
  by_cases hlt : i < n
  · exact .inr ⟨hgo i H p hlt, Pv (i + 1), fun H' p' => ⟨n - (i + 1), by omega, rfl, hlt, p'⟩, fun x H' q => hs i x H H' hlt (hy i H x H' p hlt q) p⟩
  · have ei : i = n := by omega
    subst ei
    exact .inl ⟨hst H p, hd H p⟩
theorem loopT (hx : ∀ i H, Pv i H → SqT K H a xs) (h0 : Pv 0 H0) (hs : ∀ i x H, xs[i]? = some x → Pv i H → B x H (Pv (i + 1))) (hd : ∀ H, Pv xs.length H → Qd H) : LoopG (Itt K a) H0 B Qd :=
  loopJ Pv xs.length (fun i v H H' => H' = H ∧ xs[i]? = some v) (fun i H p h => ⟨xs, xs[i], hx i H p, by simp [h]⟩) (fun H p => ⟨xs, hx _ H p, Nat.le_refl _⟩) (fun i H v H' p h q => ⟨q.1, q.2 xs (hx i H p)⟩) h0
    (fun i x H H' _ q p => by obtain ⟨e, q⟩ := q; subst e; exact hs i x _ q p) hd
theorem loopL (hx : ∀ i H, Pv i H → SqL K H a xs) (h0 : Pv 0 H0) (hs : ∀ i x H, xs[i]? = some x → Pv i H → B x H (Pv (i + 1))) (hd : ∀ H, Pv xs.length H → Qd H) : LoopG (Itl K a) H0 B Qd :=
  loopJ Pv xs.length (fun i v H H' => H' = H ∧ xs[i]? = some v) (fun i H p h => ⟨xs, xs[i], hx i H p, by simp [h]⟩) (fun H p => ⟨xs, hx _ H p, Nat.le_refl _⟩) (fun i H v H' p h q => ⟨q.1, q.2 xs (hx i H p)⟩) h0
    (fun i x H H' _ q p => by obtain ⟨e, q⟩ := q; subst e; exact hs i x _ q p) hd
theorem loopR {lo : Int} {n : Nat} (h0 : Pv 0 H0) (hs : ∀ i H, i < n → Pv i H → B (.int (lo + i)) H (Pv (i + 1))) (hd : ∀ H, Pv n H → Qd H) : LoopG (Itr lo n) H0 B Qd :=
  loopJ Pv n (fun i v H H' => H' = H ∧ v = .int (lo + i)) (fun i H p h => h) (fun H p => Nat.le_refl _) (fun i H v H' p h q => q) h0
    (fun i x H H' hi q p => by obtain ⟨e, q⟩ := q; subst e q; exact hs i _ hi p) hd
theorem loopE (hx : ∀ i H, Pv i H → SqT K H a xs) (h0 : Pv 0 H0) (hs : ∀ i x H T, xs[i]? = some x → Pv i H → H T = none → B (.ref T) (upd H T (.tup [.int (i : Nat), x])) (Pv (i + 1))) (hd : ∀ H, Pv xs.length H → Qd H) : LoopG (ItE K a) H0 B Qd :=
  loopJ Pv xs.length (fun i v H H' => ∃ T x, v = .ref T ∧ H T = none ∧ H' = upd H T (.tup [.int (i : Nat), x]) ∧ xs[i]? = some x) (fun i H p h => ⟨xs, xs[i], hx i H p, by simp [h]⟩) (fun H p => ⟨xs, hx _ H p, rfl⟩)
    (fun i H v H' p h q => by obtain ⟨T, x, e1, e2, e3, e4⟩ := q; exact ⟨T, x, e1, e2, e3, e4 xs (hx i H p)⟩) h0 (fun i x H H' _ q p => by obtain ⟨T, x', e1, e2, e3, e4⟩ := q; subst e1 e3; exact hs i x' H T e4 p e2) hd
end
/-- an item put at the end of the comprehension's list -/
theorem lc_app {D : Addr} {H : Hp} {acc : List V} {y : V} {N : Hp → Prop} (hD : H D = some (.lst acc)) (hl : acc.length < 90000) (h : N (upd H D (.lst (acc ++ [y])))) : ∃ acc, H D = some (.lst acc) ∧ acc.length < sizeLine ∧ N (upd H D (.lst (acc ++ [y]))) :=
  ⟨acc, hD, by rw [sizeLine_eq]; omega, h⟩
theorem lst_keep {H1 H : Hp} {D : Addr} {o : HO} (e : Same H1 H) (hn : H1 D = none) : Same H1 (upd H D o) := fun b u h => by rw [upd_ne (ne_of_none h hn)]; exact e _ _ h
theorem paired_at {α β : Type} {R : α → β → Prop} : ∀ {xs : List α} {ys : List β} {i : Nat} {x : α}, Paired R xs ys → xs[i]? = some x → ∃ y, ys[i]? = some y ∧ R x y
  | _, _, _, _, .nil, e => by simp at e
  | _, _, 0, _, .cons r _, e => by simp at e; subst e; exact ⟨_, rfl, r⟩
  | _, _, i + 1, x, .cons _ t, e => by
    obtain ⟨y, h1, h2⟩ := paired_at (i := i) t (by simpa using e)
    exact ⟨y, by simpa using h1, h2⟩
theorem paired_len {α β : Type} {R : α → β → Prop} : ∀ {xs : List α} {ys : List β}, Paired R xs ys → xs.length = ys.length
  | _, _, .nil => rfl
  | _, _, .cons _ t => congrArg (· + 1) (paired_len t)
theorem paired_snoc {α β : Type} {R : α → β → Prop} {x : α} {y : β} (r : R x y) : ∀ {xs : List α} {ys : List β}, Paired R xs ys → Paired R (xs ++ [x]) (ys ++ [y])
  | _, _, .nil => .cons r .nil
  | _, _, .cons a t => .cons a (paired_snoc r t)
theorem paired_mono {α β : Type} {R S : α → β → Prop} (f : ∀ a b, R a b → S a b) : ∀ {xs : List α} {ys : List β}, Paired R xs ys → Paired S xs ys
  | _, _, .nil => .nil
  | _, _, .cons a t => .cons (f _ _ a) (paired_mono f t)
theorem blT {p : Prop} [Decidable p] (h : p) : V.bl (decide p) = .bl true := congrArg V.bl (decide_eq_true h)
theorem blF {p : Prop} [Decidable p] (h : ¬ p) : V.bl (decide p) = .bl false := congrArg V.bl (decide_eq_false h)
theorem blN {p : Prop} [Decidable p] (h : p) : V.bl (!decide p) = .bl false := by rw [decide_eq_true h]; rfl
theorem blNF {p : Prop} [Decidable p] (h : ¬ p) : V.bl (!decide p) = .bl true := by rw [decide_eq_false h]; rfl
theorem tYesI {A B : Hp → Prop} {σ : L2.St} {H : Hp} (h : A H) : tYes σ H fun b H3 => if b = true then A H3 else B H3 := by
  show if true = true then A H else B H
  rw [if_pos rfl]
  exact h
theorem rep_snoc {α : Type} (n : Nat) (a : α) : List.replicate n a ++ [a] = List.replicate (n + 1) a := by rw [List.replicate_succ']
theorem rep_map {α β : Type} (f : α → β) (n : Nat) (a : α) : (List.replicate n a).map f = List.replicate n (f a) := by simp
abbrev nm (g : List Str) : List V := g.map V.str
theorem nm_at {o : List Str} {i : Nat} {x : V} (h : (nm o)[i]? = some x) : ∃ z, o[i]? = some z ∧ x = .str z := by
  rw [List.getElem?_map] at h
  obtain ⟨z, h1, h2⟩ := Option.map_eq_some_iff.mp h
  exact ⟨z, h1, h2.symm⟩
/-! names in order -/
def Asc (g : List Str) : Prop := g.Pairwise fun x y => x.cps.toList < y.cps.toList
theorem asc_nodup {g : List Str} (h : Asc g) : g.Nodup := h.imp fun {a b} l e => by subst e; exact List.lt_irrefl _ l
theorem str_ext {x y : Str} (h : x.cps.toList = y.cps.toList) : x = y := TL.ext_tl h
theorem rising_le : ∀ {p : Str} {l : List Str}, risingS p l = true → (∀ y ∈ l, ¬ y.cps.toList < p.cps.toList) ∧ l.Pairwise fun x y => ¬ y.cps.toList < x.cps.toList
  | p, [], _ => ⟨(fun y m => nomatch m), List.Pairwise.nil⟩
  | p, x :: r, h => by
    unfold risingS at h
    rw [Bool.and_eq_true, ltCps_eq] at h
    obtain ⟨h1, h2⟩ := h
    have l1 : ¬ x.cps.toList < p.cps.toList := by simpa using h1
    obtain ⟨a, b⟩ := rising_le h2
    refine ⟨fun y m => ?_, .cons a b⟩
    rcases List.mem_cons.mp m with z | z
    · subst z; exact l1
    · exact fun q => l1 (List.lt_of_le_of_lt (List.not_lt.mp (a y z)) q)
theorem asc_of {ys : List Str} (h : sortedS ys = true) (n : ys.Nodup) : Asc ys := by
  cases ys with
  | nil => exact .nil
  | cons p l =>
    obtain ⟨a, b⟩ := rising_le h
    have c : (p :: l).Pairwise fun x y => ¬ y.cps.toList < x.cps.toList := .cons a b
    refine (c.and n).imp fun {x y} q => ?_
    rcases Decidable.em (x.cps.toList < y.cps.toList) with z | z
    · exact z
    · exact absurd (str_ext (List.le_antisymm (List.not_lt.mp q.1) (List.not_lt.mp z))) q.2
theorem asc_uniq {a b : List Str} (ha : Asc a) (hb : Asc b) (p : a.Perm b) : a = b :=
  List.Perm.eq_of_pairwise (fun x y _ _ h1 h2 => absurd (List.lt_trans h1 h2) (List.lt_irrefl _)) ha hb p
end SD
/-! ### the rules by an outer name of the written part -/
namespace SD
open PySem PySem.Spec PyProof.Rows L2
section
variable {X : Cx} {K : PySem.W.Frag} {P : Program} {w : World}
theorem ix_tupK (h : X.K = K) : IxR X (rIxT K) := by subst h; exact ix_tup
theorem ix_listK (h : X.K = K) : IxR X (rIxL K) := by subst h; exact ix_list
theorem op_in_seqK (h : X.K = K) : OpR X (compareOp .In) (rIn K false) := by subst h; exact op_in_seq
theorem op_notIn_seqK (h : X.K = K) : OpR X (compareOp .NotIn) (rIn K true) := by subst h; exact op_notIn_seq
theorem op_notInDK (h : X.K = K) (hu : X.A.units + 65 < cLine) : OpR X (compareOp .NotIn) (rNotInD K) := by subst h; exact op_notInD hu
theorem op_eqDK (h : X.K = K) (hu : X.A.units + 64 < cLine) : OpR X (compareOp .Eq) (rEqD K) := by subst h; exact op_eqD hu
theorem op_neDK (h : X.K = K) (hu : X.A.units + 64 < cLine) : OpR X (compareOp .NotEq) (rNeD K) := by subst h; exact op_neD hu
theorem sl_tupK (h : X.K = K) : SlR X (rSlT K) := by subst h; exact sl_tup
theorem sl_listK (h : X.K = K) : SlR X (rSlL K) := by subst h; exact sl_list
abbrev rLenS (K : PySem.W.Frag) : List V → Hp → VK → Prop := fun xs H Q => ∃ p ys, xs = [.ref p] ∧ (SqL K H p ys ∨ SqT K H p ys) ∧ Q (.int ys.length) H
theorem call_len_seqK (h : X.K = K) : CallR X (.builtin "len") (rLenS K) := by subst h; exact call_len_seq
abbrev rTupO (K : PySem.W.Frag) : List V → Hp → VK → Prop := fun xs H Q => ∃ p ys, xs = [.ref p] ∧ ((SqL K H p ys ∧ ∀ l, H l = none → Q (.ref l) (upd H l (.tup ys))) ∨ (SqT K H p ys ∧ Q (.ref p) H))
theorem call_tuple_ofK (h : X.K = K) : CallR X (.type "tuple") (rTupO K) := by subst h; exact call_tuple_of
abbrev rTupFF (K : PySem.W.Frag) : List V → Hp → VK → Prop := fun xs H Q => ∃ p ys, xs = [.ref p] ∧ SqL K H p ys ∧ ∀ l o, H l = none → o.dict = none → Q (.ref l) (upd H l (.frz o (.tup ys)))
theorem call_tuple_FK (h : X.K = K) : CallR X (.type "tuple") (rTupFF K) := by subst h; exact call_tuple_F
abbrev rLstO (K : PySem.W.Frag) : List V → Hp → VK → Prop := fun xs H Q => ∃ p ys, xs = [.ref p] ∧ (SqL K H p ys ∨ SqT K H p ys) ∧ ∀ l, H l = none → Q (.ref l) (upd H l (.lst ys))
theorem call_list_ofK (h : X.K = K) : CallR X (.type "list") (rLstO K) := by subst h; exact call_list_of
theorem call_isiK' (h : X.K = K) : CallR X (.builtin "isinstance") (rIsi K) := by subst h; exact call_isi
theorem cr_allK (h : X.K = K) (hc : X.calm = true) : CallR X (.builtin "all") (rAll K) := by subst h; exact cr_all hc
theorem cr_anyK (h : X.K = K) (hc : X.calm = true) : CallR X (.builtin "any") (rAny K) := by subst h; exact cr_any hc
theorem cr_sumK (h : X.K = K) (hc : X.calm = true) : CallR X (.builtin "sum") (rSum K) := by subst h; exact cr_sum hc
theorem cr_sortedSK (h : X.K = K) : CallR X (.builtin "sorted") (rSortedS K) := by subst h; exact cr_sortedS
theorem cr_sortedIK (h : X.K = K) : CallR X (.builtin "sorted") (rSorted K) := by subst h; exact cr_sorted
theorem cr_sortDK {β : Type} (f : β → V) (k : β → PyData) (h : X.K = K) (hu : X.A.units + 64 < cLine) : CallR X (.builtin "sorted") (rSortD K f k) := by subst h; exact cr_sortD f k hu
abbrev rTIdx (K : PySem.W.Frag) : V → List V → Hp → VK → Prop := fun x xs H Q => ∃ p, ∃ ys : List Str, ∃ z j, x = .ref p ∧ xs = [.str z] ∧ SqT K H p (ys.map V.str) ∧ ys[j]? = some z ∧ (∀ m, m < j → ys[m]? ≠ some z) ∧ Q (.int (j : Nat)) H
theorem mt_tup_indexK (h : X.K = K) : MtR X "tuple.index" (rTIdx K) := by subst h; exact mt_tup_index
theorem pi_tupK {tg l : Expr} {tl : TE} (h : X.K = K) (hl : PE X l tl) : PI X tg l (iTup K tl) := by subst h; exact pi_tup hl
theorem pi_listK {tg l : Expr} {tl : TE} (h : X.K = K) (hl : PE X l tl) : PI X tg l (iList K tl) := by subst h; exact pi_list hl
theorem pi_lkeysK {tg l : Expr} {tl : TE} (hP : X.prog = P) (hw : X.w = w) (hl : PE X l tl) : PI X tg l (iLkeys P w tl) := by subst hP hw; exact pi_lkeys hl
theorem pg_tupK {es : List Expr} {k : Nat} {t : TGs} {n : Nat} {pos : Pos} (h : X.K = K) (hc : X.calm = true) (hp : PGs X es t)
    (hn : (assignEach es X.env).length = n := by rfl) (hst : (assignEach es X.env).findIdx? (·.1) = none := by rfl) : PG X (.Tuple es k pos) (gTup K n t) := by subst h; exact pg_tup hc hp hn hst
theorem pe_fldK {e : Expr} {f : Str} {pos : Pos} {ta : TE} (h : X.K = K) (he : PE X e ta) (hb : attributeBase e f X.env (eval e X.env) = eval e X.env) : PE X (.Attribute e f pos) (tFld K ta f) := by subst h; exact pe_fld he hb
theorem pe_lgetK {o i : Expr} {pos : Pos} {td ty : TE} (hP : X.prog = P) (hw : X.w = w) (hu : X.A.units + 1 < cLine) (ho : PE X o td) (hi : PE X i ty) (hs : NoSl i) : PE X (.Subscript o i pos) (tLget P w td ty) := by subst hP hw; exact pe_lget hu ho hi hs
theorem pe_bmK {o e : Expr} {es : List Expr} {to : TE} {t : TA} {name : Str} {apos cpos : Pos} {T id : String} {r : V → List V → Hp → VK → Prop} (hK : X.K = K) (pa : PlainAttrs T) (slot : Slot T name id) (hty : typeOf (.builtin id) = pure (.type "method_descriptor")) (hm : MtR X id r) (ho : PE X o to) (ha : PA X (e :: es) t)
    (hbase : attributeBase o name X.env (eval o X.env) = eval o X.env := by rfl)
    (hfew : ((backTo cpos (starEach (e :: es) X.env)).all (fun x => !x.1) && (backToKw cpos (keywordEach [] X.env)).all (fun x => x.1.isSome)
      && decide ((e :: es).length + ([] : List Keyword).length + (if ([] : List Keyword).isEmpty then 0 else 1) < 30)) = true := by rfl)
    (hline : (apos.endLine == cpos.line) = true := by rfl) (hs : starEach (e :: es) X.env = (false, eval e X.env) :: starEach es X.env := by rfl) (hplain : (backTo cpos (starEach es X.env)).any (·.1) = false := by rfl) :
    PE X (.Call (.Attribute o name apos) (e :: es) [] cpos) (tBM K T r to t) := by subst hK; exact pe_bm pa slot hty hm ho ha hbase hfew hline hs hplain
theorem pa_starK {e : Expr} {es : List Expr} {te : TE} {t : TA} {p : Pos} (h : X.K = K) (he : PE X e te) (hr : PA X es t) (hs : starEach (.Starred e p :: es) X.env = (true, eval e X.env) :: starEach es X.env := by rfl) : PA X (.Starred e p :: es) (StX.tStar K te t) := by subst h; exact StX.pa_star he hr hs
theorem pi_enumTK {e : Expr} {ta : TA} {p pos tpos : Pos} {elts : List Expr} {kk : Nat} (h : X.K = K) (hg : Gl X "enumerate") (hm : X.mg "enumerate" = none) (ha : PA X [e] ta) (hs : starEach [e] X.env = [(false, eval e X.env)] := by rfl) :
    PI X (.Tuple elts kk tpos) (.Call (.Name "enumerate" p) [e] [] pos) (iEnumT K ta) := by subst h; exact pi_enumT hg hm ha hs
end
end SD
end
section
set_option Elab.async false
set_option linter.all false
set_option maxRecDepth 100000
set_option maxHeartbeats 4000000
/-! ### values -/
namespace SD
open PySem PySem.Spec PyProof.Rows L2
def cLet : Str := "abcdefghijklmnopqrstuvwxyz"
def cSig : Str := "abcdefghijklmnopqrstuvwxyz0123456789"
/-- a name of a thing -/
structure IsName (x : Str) : Prop where
  one : 1 ≤ x.length
  eight : x.length ≤ 8
  head : ∃ c, x.cps.toList[0]? = some c ∧ c ∈ cLet.cps.toList
  all : ∀ c ∈ x.cps.toList, c ∈ cSig.cps.toList
theorem rd_tuple {K : PySem.W.Frag} {H : Hp} {a : Addr} {xs : List V} (h : Rd H a (.tup xs)) : TyX K H (.ref a) (.type "tuple") := by
  rcases h with h | ⟨o, h⟩
  · exact .base (.tup h)
  · exact .fTuple h
theorem rd_sqT {K : PySem.W.Frag} {H : Hp} {a : Addr} {xs : List V} (h : Rd H a (.tup xs)) : SqT K H a xs := .inl h
theorem _root_.L2.Same.rd {H H' : Hp} {a : Addr} {u : HO} (e : Same H H') (h : Rd H a u) : Rd H' a u := by
  rcases h with h | ⟨o, h⟩
  · exact .inl (e _ _ h)
  · exact .inr ⟨o, e _ _ h⟩
abbrev s_is_integer : Stmt := top 29
abbrev N_is_integer : List Str := ["value"]
theorem sc_is_integer : FnScope N_is_integer ["value"] (defScope s_is_integer) := ⟨rfl, rfl, rfl, by decide +kernel, rfl, by decide +kernel, by decide +kernel⟩
abbrev s_is_natural : Stmt := top 30
abbrev N_is_natural : List Str := ["value"]
theorem sc_is_natural : FnScope N_is_natural ["value"] (defScope s_is_natural) := ⟨rfl, rfl, rfl, by decide +kernel, rfl, by decide +kernel, by decide +kernel⟩
abbrev s_is_name : Stmt := top 31
abbrev N_is_name : List Str := ["value", "sign"]
theorem sc_is_name : FnScope N_is_name ["value"] (defScope s_is_name) := ⟨rfl, rfl, rfl, by decide +kernel, rfl, by decide +kernel, by decide +kernel⟩
abbrev s_is_thing : Stmt := top 32
abbrev N_is_thing : List Str := ["value", "things"]
theorem sc_is_thing : FnScope N_is_thing ["value", "things"] (defScope s_is_thing) := ⟨rfl, rfl, rfl, by decide +kernel, rfl, by decide +kernel, by decide +kernel⟩
abbrev s_check_thing : Stmt := top 33
abbrev N_check_thing : List Str := ["thing", "things"]
theorem sc_check_thing : FnScope N_check_thing ["thing", "things"] (defScope s_check_thing) := ⟨rfl, rfl, rfl, by decide +kernel, rfl, by decide +kernel, by decide +kernel⟩
abbrev s_check_pair : Stmt := top 34
abbrev N_check_pair : List Str := ["one", "other", "things"]
theorem sc_check_pair : FnScope N_check_pair ["one", "other", "things"] (defScope s_check_pair) := ⟨rfl, rfl, rfl, by decide +kernel, rfl, by decide +kernel, by decide +kernel⟩
abbrev s_wrong_in_order : Stmt := top 35
abbrev N_wrong_in_order : List Str := ["value", "things", "k", "thing"]
theorem sc_wrong_in_order : FnScope N_wrong_in_order ["value", "things"] (defScope s_wrong_in_order) := ⟨rfl, rfl, rfl, by decide +kernel, rfl, by decide +kernel, by decide +kernel⟩
abbrev s_check_order : Stmt := top 36
abbrev N_check_order : List Str := ["order", "things", "wrong"]
theorem sc_check_order : FnScope N_check_order ["order", "things"] (defScope s_check_order) := ⟨rfl, rfl, rfl, by decide +kernel, rfl, by decide +kernel, by decide +kernel⟩
abbrev s_check_things : Stmt := top 38
abbrev N_check_things : List Str := ["value", "things", "k", "thing"]
theorem sc_check_things : FnScope N_check_things ["value", "things"] (defScope s_check_things) := ⟨rfl, rfl, rfl, by decide +kernel, rfl, by decide +kernel, by decide +kernel⟩
abbrev s_number_of : Stmt := top 40
abbrev N_number_of : List Str := ["text", "sign"]
theorem sc_number_of : FnScope N_number_of ["text"] (defScope s_number_of) := ⟨rfl, rfl, rfl, by decide +kernel, rfl, by decide +kernel, by decide +kernel⟩
abbrev s_greatest_divisor : Stmt := top 41
abbrev N_greatest_divisor : List Str := ["one", "other"]
theorem sc_greatest_divisor : FnScope N_greatest_divisor ["one", "other"] (defScope s_greatest_divisor) := ⟨rfl, rfl, rfl, by decide +kernel, rfl, by decide +kernel, by decide +kernel⟩
def sp_is_integer : Sp := fun vs H Q _ => ∃ i, vs = [.int i] ∧ Q (.bl true) H
def sp_is_natural : Sp := fun vs H Q _ => ∃ i, vs = [.int i] ∧ Q (.bl (decide (0 ≤ i))) H
def sp_is_name : Sp := fun vs H Q _ => ∃ x, vs = [.str x] ∧ IsName x ∧ ∀ H', Same H H' → Q (.bl true) H'
def sp_is_thing (K : PySem.W.Frag) : Sp := fun vs H Q _ => ∃ x a g, vs = [.str x, .ref a] ∧ SqT K H a (nm g) ∧ Q (.bl (decide (x ∈ g))) H
def sp_check_thing (K : PySem.W.Frag) : Sp := fun vs H Q _ => ∃ x a g, vs = [.str x, .ref a] ∧ SqT K H a (nm g) ∧ x ∈ g ∧ Q .non H
def sp_check_pair (K : PySem.W.Frag) : Sp := fun vs H Q _ => ∃ x y a g, vs = [.str x, .str y, .ref a] ∧ SqT K H a (nm g) ∧ x ∈ g ∧ y ∈ g ∧ y ≠ x ∧ Q .non H
def sp_wrong_in_order (K : PySem.W.Frag) : Sp := fun vs H Q _ => ∃ a b o g, vs = [.ref a, .ref b] ∧ Rd H a (.tup (nm o)) ∧ SqT K H b (nm g) ∧ o.Nodup ∧ (∀ x ∈ o, x ∈ g) ∧ o.length = g.length ∧ ∀ H', Same H H' → Q (.int (-1)) H'
def sp_check_order (K : PySem.W.Frag) : Sp := fun vs H Q _ => ∃ a b o g, vs = [.ref a, .ref b] ∧ Rd H a (.tup (nm o)) ∧ SqT K H b (nm g) ∧ o.Nodup ∧ (∀ x ∈ o, x ∈ g) ∧ o.length = g.length ∧ ∀ H', Same H H' → Q .non H'
def sp_check_things (K : PySem.W.Frag) : Sp := fun vs H Q _ => ∃ a b o g, vs = [.ref a, .ref b] ∧ Rd H a (.tup (nm o)) ∧ SqT K H b (nm g) ∧ o ≠ [] ∧ (∀ x ∈ o, x ∈ g) ∧ Asc o ∧ ∀ H', Same H H' → Q .non H'
def sp_number_of : Sp := fun vs H Q _ => ∃ n : Nat, vs = [.str ⟨#[48 + n]⟩] ∧ 1 ≤ n ∧ n ≤ 9 ∧ ∀ H', Same H H' → Q (.int n) H'
def sp_greatest_divisor : Sp := fun vs H Q _ => ∃ i j : Int, vs = [.int i, .int j] ∧ Q (.int (Int.gcd i j : Nat)) H
theorem nodup_ix {o : List Str} (h : o.Nodup) {i j : Nat} (hj : j < i) (hi : i < o.length) (e : o[j]? = o[i]?) : False := by
  have n := List.pairwise_iff_getElem.mp h j i (by omega) hi hj
  rw [List.getElem?_eq_getElem (by omega), List.getElem?_eq_getElem hi] at e
  exact n (Option.some.inj e)
theorem dig_cases {p : Nat → Prop} (h : p 1 ∧ p 2 ∧ p 3 ∧ p 4 ∧ p 5 ∧ p 6 ∧ p 7 ∧ p 8 ∧ p 9) (n : Nat) (h1 : 1 ≤ n) (h9 : n ≤ 9) : p n := by
  obtain ⟨a, b, c, d, e, f, g, i, j⟩ := h
  have : n = 1 ∨ n = 2 ∨ n = 3 ∨ n = 4 ∨ n = 5 ∨ n = 6 ∨ n = 7 ∨ n = 8 ∨ n = 9 := by omega
  rcases this with r | r | r | r | r | r | r | r | r <;> subst r <;> assumption
theorem dig_int (n : Nat) (h1 : 1 ≤ n) (h9 : n ≤ 9) : PySem.intText? ⟨#[48 + n]⟩ = some (n : Int) :=
  dig_cases (p := fun n => PySem.intText? ⟨#[48 + n]⟩ = some (n : Int)) (by refine ⟨?_, ?_, ?_, ?_, ?_, ?_, ?_, ?_, ?_⟩ <;> decide +kernel) n h1 h9
theorem dig_in (n : Nat) (h1 : 1 ≤ n) (h9 : n ≤ 9) : 48 + n ∈ (Str.ofString "0123456789").cps.toList :=
  dig_cases (p := fun n => 48 + n ∈ (Str.ofString "0123456789").cps.toList) (by refine ⟨?_, ?_, ?_, ?_, ?_, ?_, ?_, ?_, ?_⟩ <;> decide +kernel) n h1 h9
theorem dig_ne (n : Nat) (h1 : 1 ≤ n) (h9 : n ≤ 9) : (⟨#[48 + n]⟩ : Str) ≠ "" ∧ (⟨#[48 + n]⟩ : Str) ≠ "0" :=
  dig_cases (p := fun n => (⟨#[48 + n]⟩ : Str) ≠ "" ∧ (⟨#[48 + n]⟩ : Str) ≠ "0") (by refine ⟨?_, ?_, ?_, ?_, ?_, ?_, ?_, ?_, ?_⟩ <;> decide +kernel) n h1 h9
theorem gcd_fmod (a b : Int) : Int.gcd b (a.fmod b) = Int.gcd a b := by
  rw [Int.fmod_def, Int.gcd_comm a b]
  exact Int.gcd_sub_mul_left_right b a _
theorem fmod_lt (a : Int) {b : Int} (h : b ≠ 0) : (a.fmod b).natAbs < b.natAbs := by
  rcases Int.lt_or_gt_of_ne h with n | p
  · rw [Int.fmod_eq_emod]
    have h1 := Int.emod_nonneg a h
    have h2 := Int.emod_lt a h
    split
    · omega
    · rename_i c
      have h3 : a % b ≠ 0 := fun z => c (.inr (Int.dvd_of_emod_eq_zero z))
      omega
  · have h1 := Int.fmod_nonneg_of_pos a p
    have h2 := Int.fmod_lt_of_pos a p
    omega
theorem kit_int {K : PySem.W.Frag} : PySem.W.kitOne K (.type "int") (.type "int") = some true := kit_ty (by decide +kernel)
theorem kit_int_bool {K : PySem.W.Frag} : PySem.W.kitOne K (.type "int") (.type "bool") = some false := kit_ty (by decide +kernel)
theorem kit_str {K : PySem.W.Frag} : PySem.W.kitOne K (.type "str") (.type "str") = some true := kit_ty (by decide +kernel)
theorem kit_tup {K : PySem.W.Frag} : PySem.W.kitOne K (.type "tuple") (.type "tuple") = some true := kit_ty (by decide +kernel)
section
variable {P : Program} {w : World} {K : PySem.W.Frag} {mg : Str → Option Value} {base : Heap}
theorem cl_is_integer (T : Tops K mg) : Cl P w K mg base 1 "is_integer" ["value"] sp_is_integer := by
  refine .of T.f_is_integer sc_is_integer (fun _ _ _ _ _ _ us hl => match us, hl with | [_], _ => rfl) (fun vs H Q E h => ?_) fun f cdv A outer s H vs Q E hr h => ?_
  · obtain ⟨_, rfl, _⟩ := h; rfl
  obtain ⟨i, rfl, q⟩ := h
  refine ⟨_, (pss_one (ps_ret (pe_and (pe_callB (call_isiK' (K := K) rfl) (by rfl) (T.nn "isinstance") rfl (pa_cons (pv 0) (pa_cons (pe_bltn (v := .ty "int") (by rfl) (T.nn "int") rfl rfl) pa_nil))) (pe_one (pe_not (pe_callB (call_isiK' (K := K) rfl) (by rfl) (T.nn "isinstance") rfl (pa_cons (pv 0) (pa_cons (pe_bltn (v := .ty "bool") (by rfl) (T.nn "bool") rfl rfl) pa_nil)))))))), ?_⟩
  refine ⟨_, rfl, _, _, _, _, true, rfl, .ty "int", .base (.int i), kit_int, true, rfl, iteT ?_⟩
  exact ⟨_, rfl, _, _, _, _, false, rfl, .ty "bool", .base (.int i), kit_int_bool, false, rfl, q⟩
theorem cl_is_natural (T : Tops K mg) : Cl P w K mg base 2 "is_natural" ["value"] sp_is_natural := by
  refine .of T.f_is_natural sc_is_natural (fun _ _ _ _ _ _ us hl => match us, hl with | [_], _ => rfl) (fun vs H Q E h => ?_) fun f cdv A outer s H vs Q E hr h => ?_
  · obtain ⟨_, rfl, _⟩ := h; rfl
  obtain ⟨i, rfl, q⟩ := h
  refine ⟨_, (pss_one (ps_ret (pe_and (pe_cl (cl_is_integer T) hr (by decide) rfl (pa_cons (pv 0) pa_nil)) (pe_one (pe_cmpR op_ge (pv 0) pe_int (nomark _)))))), ?_⟩
  refine ⟨_, rfl, i, rfl, true, rfl, iteT ?_⟩
  exact ⟨_, rfl, i, 0, rfl, rfl, q⟩
theorem cl_is_name (T : Tops K mg) : Cl P w K mg base 1 "is_name" ["value"] sp_is_name := by
  refine .of T.f_is_name sc_is_name (fun _ _ _ _ _ _ us hl => match us, hl with | [_], _ => rfl) (fun vs H Q E h => ?_) fun f cdv A outer s H vs Q E hr h => ?_
  · obtain ⟨_, rfl, _⟩ := h; rfl
  obtain ⟨x, rfl, ⟨h1, h8, ⟨c, hc, hcl⟩, hall⟩, q⟩ := h
  refine ⟨_, (pss_cons (ps_if (PW.pt (pw_or (pt_not (pt_val (pe_callB (call_isiK' (K := K) rfl) (by rfl) (T.nn "isinstance") rfl (pa_cons (pv 0) (pa_cons (pe_bltn (v := .ty "str") (by rfl) (T.nn "str") rfl rfl) pa_nil))))) (pw_or1 (pt_not (pt_chain op_le op_le pe_int (pe_callB call_len_str (by rfl) (T.nn "len") rfl (pa_cons (pv 0) pa_nil)) pe_int)))))
       (pss_one (ps_ret pe_bl))
       pss_nil)
      (pss_one (ps_ret (pe_and (pe_cmpR op_in_sign (pe_item_str (pv 0) pe_int (fun _ _ => rfl)) (C8.pe_gc rfl T.cLETTERS) (by rfl)) (pe_one (pe_callB (cr_allK (K := K) rfl rfl) (by rfl) (T.nn "all") rfl (pa_cons (pe_lc (own := [("sign", 1)]) (by rfl) sc_is_name.nd (pi_str (pv 0)) (blkOk_by (own := [("sign", 1)]) (N := N_is_name) (sc := defScope s_is_name) (by decide +kernel)) (fun _ _ _ _ _ => (pg_name (i := 1) sc_is_name.nd rfl (Or.inl rfl))) (fun _ _ _ _ _ => pts_nil) (fun _ _ _ _ _ => (pe_cmpR op_in_sign (pv 1) (C8.pe_gc rfl T.cSIGNS) (by rfl)))) pa_nil))))))), ?_⟩
  have hz : x.length ≤ sizeLine := Nat.le_trans h8 (by decide)
  refine ⟨_, rfl, _, _, _, _, true, rfl, .ty "str", .base (.str x), kit_str, true, rfl, ?_⟩
  refine iteF ?_
  refine ⟨_, rfl, x, rfl, hz, 1, x.length, rfl, rfl, true, blT (by omega), iteT ?_⟩
  refine ⟨x.length, 8, rfl, rfl, true, blT (by omega), ?_⟩
  refine iteF ?_
  have h0 : x.cps[0]? = some c := by simpa using hc
  refine ⟨_, rfl, x, 0, c, rfl, rfl, Int.le_refl 0, by decide, by omega, h0, ?_⟩
  refine ⟨c, _, rfl, rfl, true, blT hcl, iteT ?_⟩
  refine ⟨_, rfl, x, rfl, fun D hD => ?_⟩
  refine lcS (fun i acc H => acc = List.replicate i (V.bl true)) hD rfl (fun i c H1 acc hc e1 hD1 hl hacc => ?_) fun H1 acc e1 hD1 hl hacc => ?_
  · refine ⟨rfl, tYesI ?_⟩
    have hi : i < 8 := by have := (List.getElem?_eq_some_iff.mp hc).1; have e : x.cps.toList.length = x.length := rfl; omega
    refine ⟨_, rfl, c, cSig, rfl, rfl, lc_put hD e1 (.refl _) hD1 hl (by omega) ?_⟩
    rw [hacc, decide_eq_true (hall c (List.mem_of_getElem? hc)), rep_snoc]
  · refine ⟨D, List.replicate x.length true, rfl, .of (by rw [hD1, hacc, rep_map]), ?_⟩
    have e : (List.replicate x.length true).all id = true := by simp
    rw [e]
    exact q _ e1
theorem cl_is_thing (T : Tops K mg) : Cl P w K mg base 1 "is_thing" ["value", "things"] (sp_is_thing K) := by
  refine .of T.f_is_thing sc_is_thing (fun _ _ _ _ _ _ us hl => match us, hl with | [_, _], _ => rfl) (fun vs H Q E h => ?_) fun f cdv A outer s H vs Q E hr h => ?_
  · obtain ⟨_, _, _, rfl, _⟩ := h; rfl
  obtain ⟨x, a, g, rfl, hg, q⟩ := h
  refine ⟨_, (pss_one (ps_ret (pe_and (pe_callB (call_isiK' (K := K) rfl) (by rfl) (T.nn "isinstance") rfl (pa_cons (pv 0) (pa_cons (pe_bltn (v := .ty "str") (by rfl) (T.nn "str") rfl rfl) pa_nil))) (pe_one (pe_cmpR (op_in_seqK (K := K) rfl) (pv 0) (pv 1) (by rfl)))))), ?_⟩
  refine ⟨_, rfl, _, _, _, _, true, rfl, .ty "str", .base (.str x), kit_str, true, rfl, iteT ?_⟩
  refine ⟨_, rfl, _, rfl, a, nm g, rfl, .inr hg, rfl, flat_strs g, ?_⟩
  show Q (.bl (inV (.str x) (nm g))) H
  rw [inV_strs]
  exact q
theorem cl_check_thing (T : Tops K mg) : Cl P w K mg base 2 "check_thing" ["thing", "things"] (sp_check_thing K) := by
  refine .of T.f_check_thing sc_check_thing (fun _ _ _ _ _ _ us hl => match us, hl with | [_, _], _ => rfl) (fun vs H Q E h => ?_) fun f cdv A outer s H vs Q E hr h => ?_
  · obtain ⟨_, _, _, rfl, _⟩ := h; rfl
  obtain ⟨x, a, g, rfl, hg, hx, q⟩ := h
  refine ⟨_, (pss_one (ps_if (pt_not (pt_val (pe_cl (cl_is_thing T) hr (by decide) rfl (pa_cons (pv 0) (pa_cons (pv 1) pa_nil)))))
       (pss_one ps_never)
       pss_nil)), ?_⟩
  refine ⟨_, rfl, _, rfl, x, a, g, rfl, hg, true, blT hx, iteF ?_⟩
  exact q
theorem cl_check_pair (T : Tops K mg) : Cl P w K mg base 3 "check_pair" ["one", "other", "things"] (sp_check_pair K) := by
  refine .of T.f_check_pair sc_check_pair (fun _ _ _ _ _ _ us hl => match us, hl with | [_, _, _], _ => rfl) (fun vs H Q E h => ?_) fun f cdv A outer s H vs Q E hr h => ?_
  · obtain ⟨_, _, _, _, rfl, _⟩ := h; rfl
  obtain ⟨x, y, a, g, rfl, hg, hx, hy, hne, q⟩ := h
  refine ⟨_, (pss_cons (ps_expr (pe_cl (cl_check_thing T) hr (by decide) rfl (pa_cons (pv 0) (pa_cons (pv 2) pa_nil))))
      (pss_one (ps_if (PW.pt (pw_or (pt_not (pt_val (pe_cl (cl_is_thing T) hr (by decide) rfl (pa_cons (pv 1) (pa_cons (pv 2) pa_nil))))) (pw_or1 (pt_cmpR op_eq (pv 1) (pv 0) (nomark _)))))
       (pss_one ps_never)
       pss_nil))), ?_⟩
  refine ⟨_, rfl, _, rfl, x, a, g, rfl, hg, hx, ?_⟩
  refine ⟨_, rfl, _, rfl, y, a, g, rfl, hg, true, blT hy, iteF ?_⟩
  refine ⟨_, rfl, _, rfl, rfl, false, blF (fun e => hne (by injection e)), iteF ?_⟩
  exact q
theorem cl_wrong_in_order (T : Tops K mg) : Cl P w K mg base 2 "wrong_in_order" ["value", "things"] (sp_wrong_in_order K) := by
  refine .of T.f_wrong_in_order sc_wrong_in_order (fun _ _ _ _ _ _ us hl => match us, hl with | [_, _], _ => rfl) (fun vs H Q E h => ?_) fun f cdv A outer s H vs Q E hr h => ?_
  · obtain ⟨_, _, _, _, rfl, _⟩ := h; rfl
  obtain ⟨a, b, o, g, rfl, ha, hg, hnd, hin, hlen, q⟩ := h
  refine ⟨_, (pss_cons (ps_if (pt_not (pt_val (pe_callB (call_isiK' (K := K) rfl) (by rfl) (T.nn "isinstance") rfl (pa_cons (pv 0) (pa_cons (pe_bltn (v := .ty "tuple") (by rfl) (T.nn "tuple") rfl rfl) pa_nil)))))
       (pss_one (ps_ret pe_non))
       pss_nil)
      (pss_cons (ps_for PassesOwn.never rfl (pi_enumTK (K := K) rfl (by rfl) (T.nn "enumerate") (pa_cons (pv 0) pa_nil)) (pg_tupK (K := K) rfl rfl (pgs_cons (pg_name (i := 2) sc_wrong_in_order.nd rfl (Or.inl rfl)) (pgs_cons (pg_name (i := 3) sc_wrong_in_order.nd rfl (Or.inl rfl)) pgs_nil)))
       (pss_one (ps_if (PW.pt (pw_or (pt_not (pt_val (pe_cl (cl_is_thing T) hr (by decide) rfl (pa_cons (pv 3) (pa_cons (pv 1) pa_nil))))) (pw_or1 (pt_cmpR (op_in_seqK (K := K) rfl) (pv 3) (pe_slice (sl_tupK (K := K) rfl) (pv 0) po_none (po_some (pv 2))) (by rfl)))))
       (pss_one (ps_ret (pv 2)))
       pss_nil)))
      (pss_one (ps_ret (pe_ifExp (pt_cmpR op_eq (pe_callB (call_len_seqK (K := K) rfl) (by rfl) (T.nn "len") rfl (pa_cons (pv 0) pa_nil)) (pe_callB (call_len_seqK (K := K) rfl) (by rfl) (T.nn "len") rfl (pa_cons (pv 1) pa_nil)) (nomark _)) (pe_un un_neg pe_int) (pe_callB (call_len_seqK (K := K) rfl) (by rfl) (T.nn "len") rfl (pa_cons (pv 0) pa_nil))))))), ?_⟩
  refine ⟨_, rfl, _, _, _, _, true, rfl, .ty "tuple", rd_tuple ha, kit_tup, true, rfl, iteF ?_⟩
  refine ⟨_, rfl, a, _, rfl, rd_sqT ha, ?_⟩
  refine for_enumT (xs := nm o) (fun i σ' H' => (∃ u v, σ' = [some (.ref a), some (.ref b), u, v]) ∧ Same H H') ⟨⟨_, _, rfl⟩, .refl _⟩ (fun i σ' H' _ p => p.2.sqT (rd_sqT ha)) (fun i x σ' H' T hx p hT => ?_) fun σ' H' p => ?_
  · obtain ⟨⟨u, v, rfl⟩, e⟩ := p
    obtain ⟨z, hz, rfl⟩ : ∃ z, o[i]? = some z ∧ x = .str z := by
      rw [List.getElem?_map] at hx
      obtain ⟨z, h1, h2⟩ := Option.map_eq_some_iff.mp hx
      exact ⟨z, h1, h2.symm⟩
    have e1 : Same H (upd H' T (.tup [.int (i : Nat), .str z])) := e.trans (same_new hT)
    have hi : i < o.length := (List.getElem?_eq_some_iff.mp hz).1
    refine ⟨T, _, rfl, .of upd_same, rfl, _, _, rfl, _, _, rfl, rfl, ?_⟩
    refine ⟨_, rfl, _, rfl, z, b, g, rfl, e1.sqT hg, true, blT (hin z (List.mem_of_getElem? hz)), iteF ?_⟩
    refine ⟨_, rfl, _, rfl, _, rfl, (i : Int), rfl, a, _, rfl, e1.sqT (rd_sqT ha), ?_, fun p hp => ?_⟩
    · rw [HT.sIx_none]
      have : HT.sIx (nm o).length (nm o).length (some (i : Int)) = i := by rw [HT.sIx_nat]; simp; omega
      rw [this, List.length_map]
      omega
    · have ec : cutV (nm o) none (some (i : Int)) = nm (o.take i) := by
        unfold cutV
        rw [HT.sIx_none, HT.sIx_nat]
        simp
      refine ⟨p, _, rfl, .inr (.of upd_same), rfl, ?_, false, ?_, iteF ?_⟩
      · rw [ec]; exact flat_strs _
      · show V.bl (inV (.str z) (cutV (nm o) none (some (i : Int)))) = _
        rw [ec, inV_strs]
        refine blF fun m => ?_
        obtain ⟨j, hj, ej⟩ := List.getElem_of_mem m
        have hj2 : j < i := by have := List.length_take (i := i) (l := o); omega
        have ej2 : o[j]? = some z := by
          rw [List.getElem_take] at ej
          rw [← ej]
          exact List.getElem?_eq_getElem _
        exact nodup_ix hnd hj2 hi (ej2.trans hz.symm)
      · exact ⟨⟨_, _, rfl⟩, e1.trans (same_new hp)⟩
  · obtain ⟨⟨u, v, rfl⟩, e⟩ := p
    refine ⟨_, rfl, a, _, rfl, .inr (e.sqT (rd_sqT ha)), _, rfl, b, _, rfl, .inr (e.sqT hg), rfl, true, blT (by simp [hlen]), iteT ?_⟩
    exact ⟨_, rfl, q _ e⟩
theorem cl_check_order (T : Tops K mg) : Cl P w K mg base 3 "check_order" ["order", "things"] (sp_check_order K) := by
  refine .of T.f_check_order sc_check_order (fun _ _ _ _ _ _ us hl => match us, hl with | [_, _], _ => rfl) (fun vs H Q E h => ?_) fun f cdv A outer s H vs Q E hr h => ?_
  · obtain ⟨_, _, _, _, rfl, _⟩ := h; rfl
  obtain ⟨a, b, o, g, rfl, ha, hg, hnd, hin, hlen, q⟩ := h
  refine ⟨_, (pss_cons (ps_set (i := 2) sc_check_order.nd rfl (Or.inl rfl) (pe_cl (cl_wrong_in_order T) hr (by decide) rfl (pa_cons (pv 0) (pa_cons (pv 1) pa_nil))))
      (pss_one (ps_if (pt_cmpR op_ne (pv 2) (pe_un un_neg pe_int) (nomark _))
       (pss_one ps_never)
       pss_nil))), ?_⟩
  refine ⟨_, rfl, _, rfl, a, b, o, g, rfl, ha, hg, hnd, hin, hlen, fun H' e => ?_⟩
  refine ⟨_, rfl, _, rfl, rfl, false, blN rfl, iteF ?_⟩
  exact q _ e
theorem cl_check_things (T : Tops K mg) : Cl P w K mg base 2 "check_things" ["value", "things"] (sp_check_things K) := by
  refine .of T.f_check_things sc_check_things (fun _ _ _ _ _ _ us hl => match us, hl with | [_, _], _ => rfl) (fun vs H Q E h => ?_) fun f cdv A outer s H vs Q E hr h => ?_
  · obtain ⟨_, _, _, _, rfl, _⟩ := h; rfl
  obtain ⟨a, b, o, g, rfl, ha, hg, hne, hin, hasc, q⟩ := h
  refine ⟨_, (pss_cons (ps_if (PW.pt (pw_or (pt_not (pt_val (pe_callB (call_isiK' (K := K) rfl) (by rfl) (T.nn "isinstance") rfl (pa_cons (pv 0) (pa_cons (pe_bltn (v := .ty "tuple") (by rfl) (T.nn "tuple") rfl rfl) pa_nil))))) (pw_or1 (pt_cmpR op_eq (pe_callB (call_len_seqK (K := K) rfl) (by rfl) (T.nn "len") rfl (pa_cons (pv 0) pa_nil)) pe_int (nomark _)))))
       (pss_one ps_never)
       pss_nil)
      (pss_one (ps_for PassesOwn.never rfl (pi_enumTK (K := K) rfl (by rfl) (T.nn "enumerate") (pa_cons (pv 0) pa_nil)) (pg_tupK (K := K) rfl rfl (pgs_cons (pg_name (i := 2) sc_check_things.nd rfl (Or.inl rfl)) (pgs_cons (pg_name (i := 3) sc_check_things.nd rfl (Or.inl rfl)) pgs_nil)))
       (pss_one (ps_if (PW.pt (pw_or (pt_not (pt_val (pe_cl (cl_is_thing T) hr (by decide) rfl (pa_cons (pv 3) (pa_cons (pv 1) pa_nil))))) (pw_or1 (PW.pt (pw_and (pt_cmpR op_gt (pv 2) pe_int (nomark _)) (pw_and1 (pt_cmpR op_le_str (pv 3) (pe_ix (ix_tupK (K := K) rfl) (pv 0) (pe_op op_sub (pv 2) pe_int) (fun _ _ => rfl)) (nomark _))))))))
       (pss_one ps_never)
       pss_nil))))), ?_⟩
  have hlen : o.length ≠ 0 := fun z => hne (List.length_eq_zero_iff.mp z)
  refine ⟨_, rfl, _, _, _, _, true, rfl, .ty "tuple", rd_tuple ha, kit_tup, true, rfl, iteF ?_⟩
  refine ⟨_, rfl, a, _, rfl, .inr (rd_sqT ha), rfl, false, blF (fun z => ?_), iteF ?_⟩
  · injection z with z
    simp at z
    exact hne z
  refine ⟨_, rfl, a, _, rfl, rd_sqT ha, ?_⟩
  refine for_enumT (xs := nm o) (fun i σ' H' => (∃ u v, σ' = [some (.ref a), some (.ref b), u, v]) ∧ Same H H') ⟨⟨_, _, rfl⟩, .refl _⟩ (fun i σ' H' _ p => p.2.sqT (rd_sqT ha)) (fun i x σ' H' T hx p hT => ?_) fun σ' H' p => q _ p.2
  obtain ⟨⟨u, v, rfl⟩, e⟩ := p
  obtain ⟨z, hz, rfl⟩ : ∃ z, o[i]? = some z ∧ x = .str z := by
    rw [List.getElem?_map] at hx
    obtain ⟨z, h1, h2⟩ := Option.map_eq_some_iff.mp hx
    exact ⟨z, h1, h2.symm⟩
  have e1 : Same H (upd H' T (.tup [.int (i : Nat), .str z])) := e.trans (same_new hT)
  have hi : i < o.length := (List.getElem?_eq_some_iff.mp hz).1
  refine ⟨T, _, rfl, .of upd_same, rfl, _, _, rfl, _, _, rfl, rfl, ?_⟩
  refine ⟨_, rfl, _, rfl, z, b, g, rfl, e1.sqT hg, true, blT (hin z (List.mem_of_getElem? hz)), iteF ?_⟩
  by_cases h0 : i = 0
  · subst h0
    refine ⟨_, rfl, _, 0, rfl, rfl, false, blF (by decide), iteF (iteF ?_)⟩
    exact ⟨⟨_, _, rfl⟩, e1⟩
  · refine ⟨_, rfl, _, 0, rfl, rfl, true, blT (by omega), iteT ?_⟩
    have hp : o[i - 1]? = some o[i - 1] := List.getElem?_eq_getElem (by omega)
    refine ⟨_, rfl, _, rfl, _, rfl, _, 1, rfl, rfl, a, _, _, .str o[i - 1], rfl, rfl, e1.sqT (rd_sqT ha), ?_, z, o[i - 1], rfl, rfl, false, ?_, iteF ?_⟩
    · have : ((i : Nat) : Int) - 1 = ((i - 1 : Nat) : Int) := by omega
      rw [this]
      exact atI_nat (by rw [List.getElem?_map, hp]; rfl)
    · have lt : o[i - 1].cps.toList < z.cps.toList := by
        have := List.pairwise_iff_getElem.mp hasc (i - 1) i (by omega) hi (by omega)
        have ez : o[i] = z := by
          have := List.getElem?_eq_getElem hi
          rw [hz] at this
          exact (Option.some.inj this).symm
        rw [ez] at this
        exact this
      exact blN lt
    · exact ⟨⟨_, _, rfl⟩, e1⟩
theorem cl_number_of (T : Tops K mg) : Cl P w K mg base 1 "number_of" ["text"] sp_number_of := by
  refine .of T.f_number_of sc_number_of (fun _ _ _ _ _ _ us hl => match us, hl with | [_], _ => rfl) (fun vs H Q E h => ?_) fun f cdv A outer s H vs Q E hr h => ?_
  · obtain ⟨_, rfl, _⟩ := h; rfl
  obtain ⟨n, rfl, h1, h9, q⟩ := h
  refine ⟨_, (pss_cons (ps_if (PW.pt (pw_or (pt_cmpR op_eq (pv 0) pe_str (nomark _)) (pw_or1 (pt_not (pt_val (pe_callB (cr_allK (K := K) rfl rfl) (by rfl) (T.nn "all") rfl (pa_cons (pe_lc (own := [("sign", 1)]) (by rfl) sc_number_of.nd (pi_str (pv 0)) (blkOk_by (own := [("sign", 1)]) (N := N_number_of) (sc := defScope s_number_of) (by decide +kernel)) (fun _ _ _ _ _ => (pg_name (i := 1) sc_number_of.nd rfl (Or.inl rfl))) (fun _ _ _ _ _ => pts_nil) (fun _ _ _ _ _ => (pe_cmpR op_in_sign (pv 1) (C8.pe_gc rfl T.cDIGITS) (by rfl)))) pa_nil)))))))
       (pss_one (ps_ret pe_non))
       pss_nil)
      (pss_cons (ps_if (PW.pt (pw_and (pt_cmpR op_ne (pv 0) pe_str (nomark _)) (pw_and1 (pt_cmpR op_eq (pe_item_str (pv 0) pe_int (fun _ _ => rfl)) pe_str (nomark _)))))
       (pss_one (ps_ret pe_non))
       pss_nil)
      (pss_one (ps_ret (pe_callTy call_int_str (by rfl) (T.nn "int") rfl (pa_cons (pv 0) pa_nil)))))), ?_⟩
  have hne := dig_ne n h1 h9
  refine ⟨_, rfl, rfl, false, blF (fun z => hne.1 (by injection z)), iteF ?_⟩
  refine ⟨_, rfl, _, rfl, fun D hD => ?_⟩
  refine lcS (fun i acc H => acc = List.replicate i (V.bl true)) hD rfl (fun i c H1 acc hc e1 hD1 hl hacc => ?_) fun H1 acc e1 hD1 hl hacc => ?_
  · refine ⟨rfl, tYesI ?_⟩
    have hi : i < 1 := (List.getElem?_eq_some_iff.mp hc).1
    have hc2 : c = 48 + n := by
      have : i = 0 := by omega
      subst this
      simpa using hc.symm
    refine ⟨_, rfl, c, _, rfl, rfl, lc_put hD e1 (.refl _) hD1 hl (by omega) ?_⟩
    rw [hacc, decide_eq_true (hc2 ▸ dig_in n h1 h9), rep_snoc]
  · refine ⟨D, List.replicate 1 true, rfl, .of (by rw [hD1, hacc]; rfl), true, rfl, iteF ?_⟩
    refine ⟨_, rfl, rfl, true, blNF (fun z => hne.2 (by injection z)), iteT ?_⟩
    refine ⟨_, rfl, _, 0, 48 + n, rfl, rfl, Int.le_refl 0, by decide, by show (0 : Int) < 1; decide, rfl, rfl, false, blF (fun z => hne.2 (by injection z)), iteF ?_⟩
    exact ⟨_, rfl, _, _, rfl, dig_int n h1 h9, by show 1 ≤ 640; decide, q _ e1⟩
theorem cl_greatest_divisor (T : Tops K mg) : Cl P w K mg base 1 "greatest_divisor" ["one", "other"] sp_greatest_divisor := by
  refine .of T.f_greatest_divisor sc_greatest_divisor (fun _ _ _ _ _ _ us hl => match us, hl with | [_, _], _ => rfl) (fun vs H Q E h => ?_) fun f cdv A outer s H vs Q E hr h => ?_
  · obtain ⟨_, _, rfl, _⟩ := h; rfl
  obtain ⟨i, j, rfl, q⟩ := h
  refine ⟨_, (pss_cons (ps_while PassesOwn.never (pt_cmpR op_ne (pv 1) pe_int (nomark _))
       (pss_one (ps_par (i := 0) (j := 1) (by rfl) sc_greatest_divisor.nd rfl rfl (by decide) rfl rfl (pa_cons (pv 1) (pa_cons (pe_op op_modN (pv 0) (pv 1)) pa_nil)) (by rfl))))
      (pss_one (ps_ret (pe_callB call_abs (by rfl) (T.nn "abs") rfl (pa_cons (pv 0) pa_nil))))), ?_⟩
  refine while_by (fun σ' H' => ∃ a b : Int, σ' = [some (.int a), some (.int b)] ∧ Int.gcd a b = Int.gcd i j ∧ H' = H) (fun σ' _ => match σ' with | [_, some (.int b)] => b.natAbs | _ => 0) ⟨i, j, rfl, rfl, rfl⟩ (fun σ' H' p => ?_) ?_
  · obtain ⟨a, b, rfl, hg, rfl⟩ := p
    by_cases hb : b = 0
    · subst hb
      refine ⟨_, rfl, rfl, false, blN rfl, ?_⟩
      refine iteF ⟨_, rfl, a, rfl, ?_⟩
      rw [← hg, Int.gcd_zero_right] at q
      have : (if a < 0 then -a else a) = ((a.natAbs : Nat) : Int) := by split <;> omega
      rw [this]
      exact q
    · refine ⟨_, rfl, rfl, true, blNF (fun z => hb (by injection z)), iteT ?_⟩
      refine ⟨_, rfl, _, rfl, _, rfl, a, b, rfl, rfl, hb, _, _, rfl, ⟨b, a.fmod b, rfl, (gcd_fmod a b).trans hg, rfl⟩, ?_⟩
      exact fmod_lt a hb
  · intro σ H Q Q' hQ h
    obtain ⟨v, hv, h⟩ := h
    obtain ⟨hs, k, hk, h⟩ := h
    exact ⟨v, hv, hs, k, hk, hQ _ _ h⟩
end
end SD
end
section
set_option Elab.async false
set_option linter.all false
set_option maxRecDepth 100000
set_option maxHeartbeats 4000000
/-! ### deeds -/
namespace SD
open PySem PySem.Spec PyProof.Rows L2
theorem nm_app (a b : List Str) : nm (a ++ b) = nm a ++ nm b := List.map_append
theorem nm_snoc {g : List Str} {i : Nat} {y : Str} (h : g[i]? = some y) : nm (g.take i) ++ [.str y] = nm (g.take (i + 1)) := by
  show _ = (g.take (i + 1)).map V.str
  rw [take_succ_map h]
theorem tupS_upd {G : Hp} {f0 : Addr} {acc : List V} {o : HO} {v : V} {g : List Str} (hf : G f0 = some (.lst acc)) (h : TupS G v g) : TupS (upd G f0 o) v g := by
  obtain ⟨b, rfl, hb⟩ := h
  exact ⟨b, rfl, by rw [upd_ne (ne_of hb hf (fun z => by cases z))]; exact hb⟩
theorem but_lay {x D : Addr} {H G : Hp} {o : HO} (e : But x H G) (n : G D = none) : But x H (upd G D o) := fun b u hb h => by rw [upd_ne (ne_of_none (e b u hb h) n)]; exact e b u hb h
theorem but_put {x D : Addr} {H G : Hp} {o : HO} (e : But x H G) (n : H D = none) : But x H (upd G D o) := fun b u hb h => by rw [upd_ne (ne_of_none h n)]; exact e b u hb h
theorem but_own {x : Addr} {H G : Hp} {o : HO} (e : But x H G) : But x H (upd G x o) := fun b u hb h => by rw [upd_ne hb]; exact e b u hb h
structure GoodG (g : List Str) : Prop where
  ne : g ≠ []
  nms : ∀ x ∈ g, IsName x
  asc : Asc g
structure GoodGs (gs : Gs) : Prop where
  ne : gs ≠ []
  all : ∀ g ∈ gs, GoodG g
  nd : gs.flatten.Nodup
  le : gs.flatten.length ≤ 8
theorem flat_take {gs : Gs} {i : Nat} {g : List Str} (h : gs[i]? = some g) : (gs.take (i + 1)).flatten = (gs.take i).flatten ++ g := by
  rw [List.take_succ, h, List.flatten_append]
  simp
theorem flat_split (gs : Gs) (k : Nat) : gs.flatten = (gs.take k).flatten ++ (gs.drop k).flatten := by
  rw [← List.flatten_append, List.take_append_drop]
theorem flat_le {gs : Gs} {i : Nat} {g : List Str} (h : gs[i]? = some g) : (gs.take i).flatten.length + g.length ≤ gs.flatten.length := by
  have e := congrArg List.length (flat_split gs (i + 1))
  rw [flat_take h, List.length_append, List.length_append] at e
  omega
theorem flat_new {gs : Gs} {i : Nat} {g : List Str} (h : gs[i]? = some g) (n : gs.flatten.Nodup) {x : Str} (m : x ∈ g) : x ∉ (gs.take i).flatten := by
  rw [flat_split gs (i + 1), flat_take h] at n
  have n2 := (List.nodup_append.mp (List.nodup_append.mp n).1).2.2
  exact fun m2 => n2 x m2 x m rfl
theorem GoodGs.len {gs : Gs} (G : GoodGs gs) : gs.length ≤ 8 := by
  have h : ∀ l : Gs, (∀ g ∈ l, g ≠ []) → l.length ≤ l.flatten.length := by
    intro l
    induction l with
    | nil => intro _; exact Nat.le_refl _
    | cons g l ih =>
      intro h
      have h1 := ih fun x m => h x (List.mem_cons_of_mem _ m)
      have h2 : g.length ≠ 0 := fun z => h g List.mem_cons_self (List.length_eq_zero_iff.mp z)
      rw [List.length_cons, List.flatten_cons, List.length_append]
      omega
  exact Nat.le_trans (h gs fun g m => (G.all g m).ne) G.le
theorem GoodGs.glen {gs : Gs} (G : GoodGs gs) {g : List Str} (m : g ∈ gs) : g.length ≤ 8 := by
  obtain ⟨i, hi, e⟩ := List.getElem_of_mem m
  have := flat_le (gs := gs) (i := i) (g := g) (by rw [← e]; exact List.getElem?_eq_getElem hi)
  have := G.le
  omega
/-- a deed's dict of ranks -/
def RkOk (kvs : List (Key × V)) (gs : Gs) : Prop := ∀ (i : Nat) (g : List Str) (x : Str), gs[i]? = some g → x ∈ g → valV kvs (.inr x) = some (.int i)
def DeedV (K : PySem.W.Frag) (H : Hp) (v : V) (gs : Gs) : Prop := ∃ x dx a r kvs, v = .ref x ∧ H x = some (.ins (aD K) dx [("parted", .ref a), ("ranks", .ref r)]) ∧ GrpV H (.ref a) gs ∧ H r = some (.dK kvs) ∧ RkOk kvs gs
theorem DeedV.same {K : PySem.W.Frag} {H G : Hp} {v : V} {gs : Gs} (e : Same H G) (h : DeedV K H v gs) : DeedV K G v gs := by
  obtain ⟨x, dx, a, r, kvs, h1, h2, h3, h4, h5⟩ := h
  exact ⟨x, dx, a, r, kvs, h1, e _ _ h2, h3.same e, e _ _ h4, h5⟩
abbrev s_is_group : Stmt := top 44
abbrev N_is_group : List Str := ["value", "name", "k"]
theorem sc_is_group : FnScope N_is_group ["value"] (defScope s_is_group) := ⟨rfl, rfl, rfl, by decide +kernel, rfl, by decide +kernel, by decide +kernel⟩
abbrev s_wrong_group : Stmt := top 45
abbrev N_wrong_group : List Str := ["groups", "names", "k", "group", "name"]
theorem sc_wrong_group : FnScope N_wrong_group ["groups"] (defScope s_wrong_group) := ⟨rfl, rfl, rfl, by decide +kernel, rfl, by decide +kernel, by decide +kernel⟩
abbrev s_grouped : Stmt := top 47
abbrev N_grouped : List Str := ["things", "ranks", "found", "rank", "thing"]
theorem sc_grouped : FnScope N_grouped ["things", "ranks"] (defScope s_grouped) := ⟨rfl, rfl, rfl, by decide +kernel, rfl, by decide +kernel, by decide +kernel⟩
abbrev s_Deed_init : Stmt := inClass (top 49) 0
abbrev N_Deed_init : List Str := ["self", "groups", "wrong", "k", "group", "thing"]
theorem sc_Deed_init : FnScope N_Deed_init ["self", "groups"] (defScope s_Deed_init) := ⟨rfl, rfl, rfl, by decide +kernel, rfl, by decide +kernel, by decide +kernel⟩
abbrev s_Deed_groups : Stmt := inClass (top 49) 5
abbrev N_Deed_groups : List Str := ["self"]
theorem sc_Deed_groups : FnScope N_Deed_groups ["self"] (defScope s_Deed_groups) := ⟨rfl, rfl, rfl, by decide +kernel, rfl, by decide +kernel, by decide +kernel⟩
abbrev s_Deed_things : Stmt := inClass (top 49) 6
abbrev N_Deed_things : List Str := ["self", "group", "thing"]
theorem sc_Deed_things : FnScope N_Deed_things ["self"] (defScope s_Deed_things) := ⟨rfl, rfl, rfl, by decide +kernel, rfl, by decide +kernel, by decide +kernel⟩
abbrev s_Deed_only : Stmt := inClass (top 49) 10
abbrev N_Deed_only : List Str := ["self", "things"]
theorem sc_Deed_only : FnScope N_Deed_only ["self", "things"] (defScope s_Deed_only) := ⟨rfl, rfl, rfl, by decide +kernel, rfl, by decide +kernel, by decide +kernel⟩
abbrev s_deed_with : Stmt := top 53
abbrev N_deed_with : List Str := ["text", "groups", "piece"]
theorem sc_deed_with : FnScope N_deed_with ["text"] (defScope s_deed_with) := ⟨rfl, rfl, rfl, by decide +kernel, rfl, by decide +kernel, by decide +kernel⟩
def sp_is_group : Sp := fun vs H Q _ => ∃ a g, vs = [.ref a] ∧ H a = some (.tup (nm g)) ∧ GoodG g ∧ g.length ≤ 8 ∧ ∀ H', Same H H' → Q (.bl true) H'
def sp_wrong_group : Sp := fun vs H Q _ => ∃ a gs, vs = [.ref a] ∧ GrpV H (.ref a) gs ∧ GoodGs gs ∧ ∀ H', Same H H' → Q (.int (-1)) H'
def pairGs (p q : Str) (i j : Int) : Gs := if i = j then [[p, q]] else if i < j then [[p], [q]] else [[q], [p]]
def sp_grouped (K : PySem.W.Frag) : Sp := fun vs H Q _ => ∃ a r kvs p q i j, vs = [.ref a, .ref r] ∧ H a = some (.tup (nm [p, q])) ∧ H r = some (.dK kvs) ∧ Asc [p, q] ∧ valV kvs (.inr p) = some (.int i) ∧ valV kvs (.inr q) = some (.int j) ∧
  ∀ v H', Same H H' → GrpV H' v (pairGs p q i j) → Q v H'
def sp_Deed_init (K : PySem.W.Frag) : Sp := fun vs H Q _ => ∃ x dx a gs, vs = [.ref x, .ref a] ∧ H x = some (.ins (aD K) dx []) ∧ GrpV H (.ref a) gs ∧ GoodGs gs ∧
  ∀ r kvs H', But x H H' → H' x = some (.ins (aD K) dx [("parted", .ref a), ("ranks", .ref r)]) → H' r = some (.dK kvs) → RkOk kvs gs → Q .non H'
def sp_Deed_groups (K : PySem.W.Frag) : Sp := fun vs H Q _ => ∃ x gs, vs = [.ref x] ∧ DeedV K H (.ref x) gs ∧ ∀ a, GrpV H (.ref a) gs → Q (.ref a) H
def sp_Deed_things (K : PySem.W.Frag) : Sp := fun vs H Q _ => ∃ x gs, vs = [.ref x] ∧ DeedV K H (.ref x) gs ∧ gs.flatten.Nodup ∧ gs.flatten.length ≤ 8 ∧ ∀ p ys H', Same H H' → H' p = some (.tup (nm ys)) → ys.Perm gs.flatten → Asc ys → Q (.ref p) H'
section
variable {P : Program} {w : World} {K : PySem.W.Frag} {mg : Str → Option Value} {base : Heap}
theorem cl_is_group (T : Tops K mg) : Cl P w K mg base 2 "is_group" ["value"] sp_is_group := by
  refine .of T.f_is_group sc_is_group (fun _ _ _ _ _ _ us hl => match us, hl with | [_], _ => rfl) (fun vs H Q E h => ?_) fun f cdv A outer s H vs Q E hr h => ?_
  · obtain ⟨_, _, rfl, _⟩ := h; rfl
  obtain ⟨a, g, rfl, ha, ⟨hne, hnm, hasc⟩, h8, q⟩ := h
  refine ⟨_, (pss_cons (ps_if (PW.pt (pw_or (pt_not (pt_val (pe_callB (call_isiK' (K := K) rfl) (by rfl) (T.nn "isinstance") rfl (pa_cons (pv 0) (pa_cons (pe_bltn (v := .ty "tuple") (by rfl) (T.nn "tuple") rfl rfl) pa_nil))))) (pw_or (pt_cmpR op_eq (pe_callB (call_len_seqK (K := K) rfl) (by rfl) (T.nn "len") rfl (pa_cons (pv 0) pa_nil)) pe_int (nomark _)) (pw_or1 (pt_not (pt_val (pe_callB (cr_allK (K := K) rfl rfl) (by rfl) (T.nn "all") rfl (pa_cons (pe_lc (own := [("name", 1)]) (by rfl) sc_is_group.nd (pi_tupK (K := K) rfl (pv 0)) (blkOk_by (own := [("name", 1)]) (N := N_is_group) (sc := defScope s_is_group) (by decide +kernel)) (fun _ _ _ _ _ => (pg_name (i := 1) sc_is_group.nd rfl (Or.inl rfl))) (fun _ _ _ _ _ => pts_nil) (fun _ _ _ _ _ => (pe_cl (cl_is_name T) hr (by decide) rfl (pa_cons (pv 1) pa_nil)))) pa_nil))))))))
       (pss_one (ps_ret pe_bl))
       pss_nil)
      (pss_one (ps_ret (pe_callB (cr_allK (K := K) rfl rfl) (by rfl) (T.nn "all") rfl (pa_cons (pe_lc (own := [("k", 2)]) (by rfl) sc_is_group.nd (pi_range1 (by rfl) (T.nn "range") (pa_cons (pe_op op_sub (pe_callB (call_len_seqK (K := K) rfl) (by rfl) (T.nn "len") rfl (pa_cons (pv 0) pa_nil)) pe_int) pa_nil)) (blkOk_by (own := [("k", 2)]) (N := N_is_group) (sc := defScope s_is_group) (by decide +kernel)) (fun _ _ _ _ _ => (pg_name (i := 2) sc_is_group.nd rfl (Or.inl rfl))) (fun _ _ _ _ _ => pts_nil) (fun _ _ _ _ _ => (pe_cmpR op_lt_str (pe_ix (ix_tupK (K := K) rfl) (pv 0) (pv 2) (fun _ _ => rfl)) (pe_ix (ix_tupK (K := K) rfl) (pv 0) (pe_op op_add (pv 2) pe_int) (fun _ _ => rfl)) (nomark _)))) pa_nil))))), ?_⟩
  refine ⟨_, rfl, _, _, _, _, true, rfl, .ty "tuple", rd_tuple (.of ha), kit_tup, true, rfl, iteF ?_⟩
  refine ⟨_, rfl, a, _, rfl, .inr (.of ha), rfl, false, blF (fun z => ?_), iteF ?_⟩
  · injection z with z
    simp at z
    exact hne z
  refine ⟨_, rfl, a, rfl, ⟨_, .of ha⟩, fun D hD => ?_⟩
  refine lcT (fun i acc H => acc = List.replicate i (V.bl true)) (xs := nm g) (.of ha) hD rfl (fun i x H1 acc hx e1 hD1 hl hacc => ?_) fun H1 acc e1 hD1 hl hacc => ?_
  · obtain ⟨z, hz, rfl⟩ := nm_at hx
    have hi : i < g.length := (List.getElem?_eq_some_iff.mp hz).1
    refine ⟨rfl, tYesI ⟨_, rfl, z, rfl, hnm z (List.mem_of_getElem? hz), fun H2 e2 => lc_put hD e1 e2 hD1 hl (by omega) ?_⟩⟩
    rw [hacc, rep_snoc]
  · refine ⟨D, List.replicate g.length true, rfl, .of (by rw [hD1, hacc, rep_map, List.length_map]), true, by simp, iteF ?_⟩
    have hg1 : g.length ≠ 0 := fun z => hne (List.length_eq_zero_iff.mp z)
    refine ⟨_, rfl, a, _, rfl, .inr (.of (e1 _ _ ha)), g.length, 1, by simp, rfl, _, rfl, by omega, by omega, fun D2 hD2 => ?_⟩
    have en : ((g.length : Int) - 1).toNat = g.length - 1 := by omega
    rw [en]
    refine lcR (fun i acc H => acc = List.replicate i (V.bl true)) hD2 rfl (fun i H2 acc hi e2 hD3 hl2 hacc2 => ?_) fun H2 acc e2 hD3 hl2 hacc2 => ?_
    · have ha2 : H2 a = some (.tup (nm g)) := e2 _ _ (e1 _ _ ha)
      refine ⟨rfl, tYesI ?_⟩
      have h1 : g[i]? = some g[i] := List.getElem?_eq_getElem (by omega)
      have h2 : g[i + 1]? = some g[i + 1] := List.getElem?_eq_getElem (by omega)
      refine ⟨_, rfl, _, rfl, a, _, _, .str g[i], rfl, rfl, .of ha2, ?_, _, rfl, _, rfl, _, 1, rfl, rfl, a, _, _, .str g[i + 1], rfl, rfl, .of ha2, ?_, _, _, rfl, rfl, lc_put hD2 e2 (.refl _) hD3 hl2 (by omega) ?_⟩
      · rw [Int.zero_add]
        exact atI_nat (by rw [List.getElem?_map, h1]; rfl)
      · have e : (0 : Int) + (i : Nat) + 1 = ((i + 1 : Nat) : Int) := by omega
        rw [e]
        exact atI_nat (by rw [List.getElem?_map, h2]; rfl)
      · rw [hacc2, decide_eq_true (List.pairwise_iff_getElem.mp hasc i (i + 1) (by omega) (by omega) (by omega)), rep_snoc]
    · refine ⟨D2, List.replicate (g.length - 1) true, rfl, .of (by rw [hD3, hacc2, rep_map]), ?_⟩
      have e : (List.replicate (g.length - 1) true).all id = true := by simp
      rw [e]
      exact q _ (e1.trans e2)
theorem cl_wrong_group (T : Tops K mg) : Cl P w K mg base 3 "wrong_group" ["groups"] sp_wrong_group := by
  refine .of T.f_wrong_group sc_wrong_group (fun _ _ _ _ _ _ us hl => match us, hl with | [_], _ => rfl) (fun vs H Q E h => ?_) fun f cdv A outer s H vs Q E hr h => ?_
  · obtain ⟨_, _, rfl, _⟩ := h; rfl
  obtain ⟨a, gs, rfl, ⟨a', us, ea, ha, hp⟩, G, q⟩ := h
  cases ea
  refine ⟨_, (pss_cons (ps_if (PW.pt (pw_or (pt_not (pt_val (pe_callB (call_isiK' (K := K) rfl) (by rfl) (T.nn "isinstance") rfl (pa_cons (pv 0) (pa_cons (pe_bltn (v := .ty "tuple") (by rfl) (T.nn "tuple") rfl rfl) pa_nil))))) (pw_or1 (pt_cmpR op_eq (pe_callB (call_len_seqK (K := K) rfl) (by rfl) (T.nn "len") rfl (pa_cons (pv 0) pa_nil)) pe_int (nomark _)))))
       (pss_one (ps_ret pe_non))
       pss_nil)
      (pss_cons (ps_set (i := 1) sc_wrong_group.nd rfl (Or.inr rfl) (pe_lst pa_nil))
      (pss_cons (ps_for PassesOwn.never rfl (pi_enumTK (K := K) rfl (by rfl) (T.nn "enumerate") (pa_cons (pv 0) pa_nil)) (pg_tupK (K := K) (n := 2) rfl rfl (pgs_cons (pg_name (i := 2) sc_wrong_group.nd rfl (Or.inl rfl)) (pgs_cons (pg_name (i := 3) sc_wrong_group.nd rfl (Or.inl rfl)) pgs_nil)))
       (pss_cons (ps_if (PW.pt (pw_or (pt_not (pt_val (pe_cl (cl_is_group T) hr (by decide) rfl (pa_cons (pv 3) pa_nil)))) (pw_or (pt_val (pe_callB (cr_anyK (K := K) rfl rfl) (by rfl) (T.nn "any") rfl (pa_cons (pe_lc (own := [("name", 4)]) (by rfl) sc_wrong_group.nd (pi_tupK (K := K) rfl (pv 3)) (blkOk_by (own := [("name", 4)]) (N := N_wrong_group) (sc := defScope s_wrong_group) (by decide +kernel)) (fun _ _ _ _ _ => (pg_name (i := 4) sc_wrong_group.nd rfl (Or.inl rfl))) (fun _ _ _ _ _ => pts_nil) (fun _ _ _ _ _ => (pe_cmpR (op_in_seqK (K := K) rfl) (pv 4) (pv 1) (by rfl)))) pa_nil))) (pw_or1 (pt_cmpR op_gt (pe_op op_add (pe_callB (call_len_seqK (K := K) rfl) (by rfl) (T.nn "len") rfl (pa_cons (pv 1) pa_nil)) (pe_callB (call_len_seqK (K := K) rfl) (by rfl) (T.nn "len") rfl (pa_cons (pv 3) pa_nil))) (C8.pe_gc rfl T.cMOST_THINGS) (nomark _))))))
       (pss_one (ps_ret (pv 2)))
       pss_nil)
      (pss_one (ps_set (i := 1) sc_wrong_group.nd rfl (Or.inr rfl) (pe_op op_cat (pv 1) (pe_lc (own := [("name", 4)]) (by rfl) sc_wrong_group.nd (pi_tupK (K := K) rfl (pv 3)) (blkOk_by (own := [("name", 4)]) (N := N_wrong_group) (sc := defScope s_wrong_group) (by decide +kernel)) (fun _ _ _ _ _ => (pg_name (i := 4) sc_wrong_group.nd rfl (Or.inl rfl))) (fun _ _ _ _ _ => pts_nil) (fun _ _ _ _ _ => (pv 4))))))))
      (pss_one (ps_ret (pe_un un_neg pe_int)))))), ?_⟩
  have hlen := paired_len hp
  refine ⟨_, rfl, _, _, _, _, true, rfl, .ty "tuple", rd_tuple (.of ha), kit_tup, true, rfl, iteF ?_⟩
  refine ⟨_, rfl, a, _, rfl, .inr (.of ha), rfl, false, blF (fun z => ?_), iteF ?_⟩
  · injection z with z
    have : us.length = 0 := by simpa using z
    rw [hlen] at this
    exact G.ne (List.length_eq_zero_iff.mp this)
  refine ⟨Nat.zero_le _, fun p np => ?_⟩
  have e0 : Same H (upd H p (.lst [])) := same_new np
  refine ⟨_, rfl, a, _, rfl, .of (e0 _ _ ha), ?_⟩
  refine for_enumT (xs := us) (fun i σ' H' => ∃ p u v z, σ' = [some (.ref a), some (.ref p), u, v, z] ∧ Same H H' ∧ H' p = some (.lst (nm (gs.take i).flatten))) ⟨p, _, _, _, rfl, e0, upd_same⟩ (fun i σ' H' _ hh => ?_) (fun i x σ' H' T' hx hh hT => ?_) fun σ' H' hh => ?_
  · obtain ⟨_, _, _, _, _, e, _⟩ := hh
    exact .of (e _ _ ha)
  · obtain ⟨p, u, v, z, rfl, e, hpl⟩ := hh
    obtain ⟨g, hg, ga, rfl, hga⟩ := paired_at hp hx
    have mg' := List.mem_of_getElem? hg
    have e1 : Same H (upd H' T' (.tup [.int (i : Nat), .ref ga])) := e.trans (same_new hT)
    have hpl1 : upd H' T' (.tup [.int (i : Nat), .ref ga]) p = some (.lst (nm (gs.take i).flatten)) := same_new hT _ _ hpl
    have hle := flat_le hg
    have hle8 := G.le
    refine ⟨T', _, rfl, .of upd_same, rfl, _, _, rfl, _, _, rfl, rfl, ?_⟩
    refine ⟨_, rfl, ga, g, rfl, e1 _ _ hga, G.all g mg', G.glen mg', fun H2 e2 => ⟨true, rfl, iteF ?_⟩⟩
    have hga2 : H2 ga = some (.tup (nm g)) := e2 _ _ (e1 _ _ hga)
    refine ⟨_, rfl, ga, rfl, ⟨_, .of hga2⟩, fun D hD => ?_⟩
    refine lcT (fun i acc H => acc = List.replicate i (V.bl false)) (xs := nm g) (.of hga2) hD rfl (fun j x H3 acc hx e3 hD1 hl hacc => ?_) fun H3 acc e3 hD1 hl hacc => ?_
    · obtain ⟨y, hy, rfl⟩ := nm_at hx
      have hj : j < g.length := (List.getElem?_eq_some_iff.mp hy).1
      refine ⟨rfl, tYesI ⟨_, rfl, _, rfl, p, _, rfl, .inl (.of (e3 _ _ (e2 _ _ hpl1))), rfl, flat_strs _, lc_put hD e3 (.refl _) hD1 hl (by omega) ?_⟩⟩
      show acc ++ [V.bl (inV (.str y) (nm (gs.take i).flatten))] = _
      rw [inV_strs, decide_eq_false (flat_new hg G.nd (List.mem_of_getElem? hy)), hacc, rep_snoc]
    · refine ⟨D, List.replicate g.length false, rfl, .of (by rw [hD1, hacc, rep_map, List.length_map]), false, by simp, iteF ?_⟩
      have hpl3 : H3 p = some (.lst (nm (gs.take i).flatten)) := e3 _ _ (e2 _ _ hpl1)
      have hga3 : H3 ga = some (.tup (nm g)) := e3 _ _ hga2
      refine ⟨_, rfl, p, _, rfl, .inl (.of hpl3), _, rfl, ga, _, rfl, .inr (.of hga3), _, _, rfl, rfl, _, 8, rfl, rfl, false, blF (by rw [List.length_map, List.length_map]; omega), iteF ?_⟩
      refine ⟨_, rfl, _, rfl, ga, rfl, ⟨_, .of hga3⟩, fun D2 hD2 => ?_⟩
      refine lcT (fun i acc H => acc = nm (g.take i)) (xs := nm g) (.of hga3) hD2 rfl (fun j x H4 acc hx e4 hD3 hl hacc => ?_) fun H4 acc e4 hD3 hl hacc => ?_
      · obtain ⟨y, hy, rfl⟩ := nm_at hx
        have hj : j < g.length := (List.getElem?_eq_some_iff.mp hy).1
        refine ⟨rfl, tYesI ⟨_, rfl, lc_put hD2 e4 (.refl _) hD3 hl (by omega) ?_⟩⟩
        rw [hacc, nm_snoc hy]
      · rw [List.length_map, List.take_length] at hacc
        subst hacc
        refine ⟨p, D2, _, _, rfl, rfl, e4 _ _ hpl3, hD3, by rw [List.length_map, List.length_map, sizeLine_eq]; omega, fun p2 np2 => ?_⟩
        refine ⟨p2, _, _, _, rfl, e1.trans (e2.trans (e3.trans (e4.trans (same_new np2)))), ?_⟩
        rw [upd_same, flat_take hg, nm_app]
  · obtain ⟨p, u, v, z, rfl, e, hpl⟩ := hh
    exact ⟨_, rfl, q _ e⟩
theorem cl_grouped (T : Tops K mg) : Cl P w K mg base 1 "grouped" ["things", "ranks"] (sp_grouped K) := by
  refine .of T.f_grouped sc_grouped (fun _ _ _ _ _ _ us hl => match us, hl with | [_, _], _ => rfl) (fun vs H Q E h => ?_) fun f cdv A outer s H vs Q E hr h => ?_
  · obtain ⟨_, _, _, _, _, _, _, rfl, _⟩ := h; rfl
  obtain ⟨a, r, kvs, p, q', i, j, rfl, ha, hrk, hasc, hp, hq, q⟩ := h
  refine ⟨_, (pss_cons (ps_set (i := 2) sc_grouped.nd rfl (Or.inl rfl) (pe_lst pa_nil))
      (pss_cons (ps_for PassesOwn.never rfl (pi_listK (K := K) rfl (pe_callB (call_sortedDI rfl) (by rfl) (T.nn "sorted") rfl (pa_cons (pe_dc1 (own := [("thing", 4)]) (h0 := newK) (hp := fun _ _ _ _ _ _ => putsK) (by rfl) sc_grouped.nd (pi_tupK (K := K) rfl (pv 0)) (blkOk_by (own := [("thing", 4)]) (N := N_grouped) (sc := defScope s_grouped) (by decide +kernel)) (fun _ _ _ _ _ => (pg_name (i := 4) sc_grouped.nd rfl (Or.inl rfl))) (fun _ _ _ _ _ => pts_nil) (fun _ _ _ _ _ => (pe_dget (hu_of hr) (pv 1) (pv 4) (fun _ _ => rfl))) (fun _ _ _ _ _ => pe_bl)) pa_nil))) (pg_name (i := 3) sc_grouped.nd rfl (Or.inr rfl))
       (pss_one (ps_expr (pe_bmK (K := K) rfl PySem.F.plainAttrs_list PySem.F.slot_list_append PySem.F.type_list_append mt_append (pv 2) (pa_cons (pe_callTy (call_tuple_ofK (K := K) rfl) (by rfl) (T.nn "tuple") rfl (pa_cons (pe_callB (cr_sortedSK (K := K) rfl) (by rfl) (T.nn "sorted") rfl (pa_cons (pe_lc (own := [("thing", 4)]) (by rfl) sc_grouped.nd (pi_tupK (K := K) rfl (pv 0)) (blkOk_by (own := [("thing", 4)]) (N := N_grouped) (sc := defScope s_grouped) (by decide +kernel)) (fun _ _ _ _ _ => (pg_name (i := 4) sc_grouped.nd rfl (Or.inl rfl))) (fun _ _ _ _ _ => (pts_one (pt_cmpR op_eq (pe_dget (hu_of hr) (pv 1) (pv 4) (fun _ _ => rfl)) (pv 3) (nomark _)))) (fun _ _ _ _ _ => (pv 4))) pa_nil)) pa_nil)) pa_nil)))))
      (pss_one (ps_ret (pe_callTy (call_tuple_ofK (K := K) rfl) (by rfl) (T.nn "tuple") rfl (pa_cons (pv 2) pa_nil)))))), ?_⟩
  have hpq : p ≠ q' := fun z => by
    have := asc_nodup hasc
    rw [z] at this
    simp at this
  refine ⟨Nat.zero_le _, fun f0 nf0 => ?_⟩
  have e0 : Same H (upd H f0 (.lst [])) := same_new nf0
  -- the dict of the ranks
  refine ⟨_, rfl, a, rfl, ⟨_, .of (e0 _ _ ha)⟩, fun D hD => ?_⟩
  have dg : ∀ {G : Hp}, Same (upd H f0 (.lst [])) G → ∀ {x : Str} {n : Int}, valV kvs (.inr x) = some (.int n) → DGet G r (.str x) (some (.int n)) := fun e x n h => by
    rw [← h]
    exact DGet.k (k := .inr x) (e _ _ (e0 _ _ hrk))
  let vk : Nat → List (Key × V) := fun n => match n with
    | 0 => []
    | 1 => putK [] (.inl i) (.bl true)
    | _ => putK (putK [] (.inl i) (.bl true)) (.inl j) (.bl true)
  refine loopT (xs := nm [p, q']) (fun n G => Same (upd H f0 (.lst [])) G ∧ G D = some (.dK (vk n))) (fun n G h => .of (h.1 _ _ (e0 _ _ ha))) ⟨same_new hD, upd_same⟩ (fun n x G hx h => ?_) fun G h => ?_
  · obtain ⟨eG, hDG⟩ := h
    refine ⟨rfl, tYesI ?_⟩
    match n, hx, hDG with
    | 0, hx, hDG =>
      cases hx
      exact ⟨_, rfl, _, rfl, r, _, rfl, dg eG hp, _, .inl i, rfl, hDG, show 0 < sizeLine by decide, lst_keep eG hD, upd_same⟩
    | 1, hx, hDG =>
      cases hx
      exact ⟨_, rfl, _, rfl, r, _, rfl, dg eG hq, _, .inl j, rfl, hDG, show 1 < sizeLine by decide, lst_keep eG hD, upd_same⟩
  · obtain ⟨eG, hDG⟩ := h
    have eH : Same H G := e0.trans eG
    have nf0 : H f0 = none := nf0
    have hf0 : G f0 = some (.lst []) := eG _ _ upd_same
    let grp : Int → List Str := fun m => (if i = m then [p] else []) ++ (if j = m then [q'] else [])
    -- the keys: i, or i and j
    have keys : ∃ ks : List Int, (vk 2).map (·.1) = ks.map Sum.inl ∧ ks.length < 64 ∧ ∀ ys : List Int, ys.Perm ks → ys.Pairwise (· ≤ ·) → ys.map grp = pairGs p q' i j ∧ ys.length ≤ 2 := by
      by_cases hij : i = j
      · subst hij
        refine ⟨[i], ?_, by show 1 < 64; decide, fun ys pm _ => ?_⟩
        · simp [vk, putK]
        · have : ys = [i] := List.perm_singleton.mp pm
          subst this
          simp [grp, pairGs]
      · refine ⟨[i, j], ?_, by show 2 < 64; decide, fun ys pm sr => ?_⟩
        · simp [vk, putK, hij]
        · have hl := pm.length_eq
          match ys, hl, pm, sr with
          | [u, v], _, pm, sr =>
            have mu : u = i ∨ u = j := by have := pm.subset (List.mem_cons_self (a := u)); simpa using this
            have mi : i = u ∨ i = v := by have := pm.symm.subset (List.mem_cons_self (a := i)); simpa using this
            have mj : j = u ∨ j = v := by have := pm.symm.subset (show j ∈ [i, j] by simp); simpa using this
            have le : u ≤ v := by simpa using sr
            have hc : (u = i ∧ v = j) ∨ (u = j ∧ v = i) := by omega
            rcases hc with ⟨rfl, rfl⟩ | ⟨rfl, rfl⟩
            · have : u < v := by omega
              simp [grp, pairGs, hij, this, Ne.symm hij]
            · have h1 : ¬ v < u := by omega
              simp [grp, pairGs, hij, h1, Ne.symm hij]
    obtain ⟨ks, hks, h64, hys⟩ := keys
    refine ⟨D, _, ks, rfl, .of hDG, hks, h64, fun ys L pm sr hL => ?_⟩
    obtain ⟨hgrp, hl2⟩ := hys ys pm sr
    have eL : Same H (upd G L (.lst (ys.map V.int))) := eH.trans (same_new hL)
    refine ⟨L, rfl, ⟨_, .of upd_same⟩, ?_⟩
    have hf1 : upd G L (.lst (ys.map V.int)) f0 = some (.lst []) := same_new hL _ _ hf0
    have neL : L ≠ f0 := fun z => by rw [z] at hL; rw [hf0] at hL; cases hL
    refine for_list (xs := ys.map V.int) (fun n σ' G' => ∃ u v acc, σ' = [some (.ref a), some (.ref r), some (.ref f0), u, v] ∧ Same H G' ∧ G' L = some (.lst (ys.map V.int)) ∧ G' f0 = some (.lst acc) ∧ Paired (TupS G') acc ((ys.take n).map grp)) ⟨_, _, [], rfl, eL, upd_same, hf1, .nil⟩ (fun n σ' G' _ hh => ?_) (fun n x σ' G' hx hh => ?_) fun σ' G' hh => ?_
    · obtain ⟨_, _, _, _, _, h, _⟩ := hh
      exact .of h
    · obtain ⟨u, v, acc, rfl, e1, hL1, hf, pr⟩ := hh
      obtain ⟨m, hm, rfl⟩ : ∃ m, ys[n]? = some m ∧ x = .int m := by
        rw [List.getElem?_map] at hx
        obtain ⟨z, h1, h2⟩ := Option.map_eq_some_iff.mp hx
        exact ⟨z, h1, h2.symm⟩
      have hn2 : n < ys.length := (List.getElem?_eq_some_iff.mp hm).1
      refine ⟨_, rfl, .inl ⟨rfl, _, .of hf⟩, ?_⟩
      refine ⟨_, rfl, a, rfl, ⟨_, .of (e1 _ _ ha)⟩, fun D2 hD2 => ?_⟩
      refine lcT (fun k acc2 _ => acc2 = nm (((if i = m then [p] else []) ++ (if j = m then [q'] else [])).take 2) ∧ k = 2 ∨ acc2 = nm (if i = m then [p] else []) ∧ k = 1 ∨ acc2 = [] ∧ k = 0) (xs := nm [p, q']) (.of (e1 _ _ ha)) hD2 (.inr (.inr ⟨rfl, rfl⟩)) (fun k x G2 acc2 hx e2 hD3 hl hacc => ?_) fun G2 acc2 e2 hD3 hl hacc => ?_
      · refine ⟨rfl, ?_⟩
        have hr2 : G2 r = some (.dK kvs) := e2 _ _ (e1 _ _ hrk)
        match k, hx, hacc with
        | 0, hx, hacc =>
          cases hx
          have ea : acc2 = [] := by simpa using hacc
          subst ea
          have dgp : DGet G2 r (.str p) (some (.int i)) := by rw [← hp]; exact DGet.k (k := .inr p) hr2
          by_cases him : i = m
          · refine ⟨_, rfl, _, rfl, r, _, rfl, dgp, _, rfl, rfl, true, blT (by rw [him]), iteT ⟨_, rfl, lc_put hD2 e2 (.refl _) hD3 hl (by decide) (.inr (.inl ⟨?_, rfl⟩))⟩⟩
            rw [if_pos him]
            rfl
          · refine ⟨_, rfl, _, rfl, r, _, rfl, dgp, _, rfl, rfl, false, blF (fun z => him (by injection z)), iteF (lc_skip e2 (.refl _) hD3 hl (.inr (.inl ⟨?_, rfl⟩)))⟩
            rw [if_neg him]
            rfl
        | 1, hx, hacc =>
          cases hx
          have ea : acc2 = nm (if i = m then [p] else []) := by simpa using hacc
          subst ea
          have dgq : DGet G2 r (.str q') (some (.int j)) := by rw [← hq]; exact DGet.k (k := .inr q') hr2
          have tk : ∀ l1 l2 : List Str, l1.length ≤ 1 → l2.length ≤ 1 → (l1 ++ l2).take 2 = l1 ++ l2 := fun l1 l2 h1 h2 => List.take_of_length_le (by rw [List.length_append]; omega)
          by_cases hjm : j = m
          · refine ⟨_, rfl, _, rfl, r, _, rfl, dgq, _, rfl, rfl, true, blT (by rw [hjm]), iteT ⟨_, rfl, lc_put hD2 e2 (.refl _) hD3 hl (by decide) (.inl ⟨?_, rfl⟩)⟩⟩
            rw [tk _ _ (by split <;> simp) (by split <;> simp), nm_app, if_pos hjm]
            rfl
          · refine ⟨_, rfl, _, rfl, r, _, rfl, dgq, _, rfl, rfl, false, blF (fun z => hjm (by injection z)), iteF (lc_skip e2 (.refl _) hD3 hl (.inl ⟨?_, rfl⟩))⟩
            rw [tk _ _ (by split <;> simp) (by split <;> simp), nm_app, if_neg hjm]
            simp
      · have ea : acc2 = nm (grp m) := by
          rcases hacc with ⟨h, _⟩ | ⟨_, h⟩ | ⟨_, h⟩
          · rw [h, List.take_of_length_le]
            rw [List.length_append]
            split <;> split <;> simp
          · cases h
          · cases h
        subst ea
        have hgl : (grp m).length ≤ 2 := by simpa using hl
        refine ⟨D2, grp m, rfl, .of hD3, by omega, fun zs L2 pz sz hL2 => ?_⟩
        have hga : Asc (grp m) := by
          show Asc ((if i = m then [p] else []) ++ (if j = m then [q'] else []))
          split <;> split <;> first | exact hasc | simp [Asc]
        have ez : zs = grp m := asc_uniq (asc_of sz (pz.nodup_iff.mpr (asc_nodup hga))) hga pz
        subst ez
        have e3 := e2.trans (same_new (o := .lst (nm (grp m))) hL2)
        refine ⟨L2, nm (grp m), rfl, .inl ⟨.of upd_same, fun tp htp => ?_⟩⟩
        have e4 := e3.trans (same_new (o := .tup (nm (grp m))) htp)
        have hf4 := e4 _ _ hf
        refine ⟨f0, acc, .ref tp, rfl, rfl, hf4, ?_, _, _, acc ++ [.ref tp], rfl, lst_keep (e1.trans e4) nf0, ?_, upd_same, ?_⟩
        · have := paired_len pr
          rw [this, sizeLine_eq]
          simp
          omega
        · rw [upd_ne neL]; exact e4 _ _ hL1
        · rw [take_succ_map hm]
          have nt : tp ≠ f0 := fun z => by rw [z] at htp; rw [e3 _ _ hf] at htp; cases htp
          have k1 : TupS (upd (upd (upd G2 L2 (.lst (nm (grp m)))) tp (.tup (nm (grp m)))) f0 (.lst (acc ++ [.ref tp]))) (.ref tp) (grp m) := ⟨tp, rfl, by rw [upd_ne nt]; exact upd_same⟩
          exact paired_snoc k1 (paired_mono (fun v g tv => tupS_upd hf4 (tv.same e4)) pr)
    · obtain ⟨u, v, acc, rfl, e1, hL1, hf, pr⟩ := hh
      refine ⟨_, rfl, f0, acc, rfl, .inl ⟨.of hf, fun tp htp => ?_⟩⟩
      refine q _ _ (e1.trans (same_new htp)) ⟨tp, acc, rfl, upd_same, ?_⟩
      rw [← hgrp]
      have en : (ys.take (ys.map V.int).length).map grp = ys.map grp := by rw [List.length_map, List.take_length]
      rw [en] at pr
      exact paired_mono (fun v g tv => tv.same (same_new htp)) pr
theorem ml_Deed (T : Tops K mg) : Ml P w K mg base 4 "Deed" (aD K) ["self", "groups"] (sp_Deed_init K) [] := by
  obtain ⟨f, fd, M, F⟩ := T.iD.ex
  refine ⟨f, fd, [], M, T.oD.mgc, ?_, FunD.bindsN F (fun _ _ _ _ _ _ us hl => match us, hl with | [_, _], _ => rfl), .nil⟩
  refine F.ok sc_Deed_init (fun vs H Q E h => ?_) fun cdv A outer s H vs Q E hr h => ?_
  · obtain ⟨_, _, _, _, rfl, _⟩ := h; rfl
  obtain ⟨x, dx, a, gs, rfl, hx, hg, G, q⟩ := h
  refine ⟨_, PSs.nox ((pss_cons (ps_set (i := 2) sc_Deed_init.nd rfl (Or.inl rfl) (pe_cl (cl_wrong_group T) hr (by decide) rfl (pa_cons (pv 1) pa_nil)))
      (pss_cons (ps_if (pt_cmpR op_ne (pv 2) (pe_un un_neg pe_int) (nomark _))
       (pss_one ps_never)
       pss_nil)
      (pss_cons (ps_fld (pv 0) (pv 1) rfl)
      (pss_one (ps_fld (pv 0) (pe_dc2 (own := [("k", 3), ("group", 4), ("thing", 5)]) (vs1 := [5]) (h0 := newK) (hp := fun _ _ _ _ _ _ => putsK) (by rfl) sc_Deed_init.nd (pi_enumTK (K := K) rfl (by rfl) (T.nn "enumerate") (pa_cons (pv 1) pa_nil)) (blkOk_by (own := [("k", 3), ("group", 4), ("thing", 5)]) (N := N_Deed_init) (sc := defScope s_Deed_init) (by decide +kernel)) (by decide) (fun _ _ _ _ _ => (pg_tupK (K := K) (n := 2) rfl rfl (pgs_cons (pg_name (i := 3) sc_Deed_init.nd rfl (Or.inl rfl)) (pgs_cons (pg_name (i := 4) sc_Deed_init.nd rfl (Or.inl rfl)) pgs_nil)))) (fun _ _ _ _ _ => pts_nil) (fun _ _ _ _ _ => (pv 5)) (fun _ _ _ _ _ => (pv 3)) (fun _ _ _ _ _ => (pi_tupK (K := K) rfl (pv 4))) (fun _ _ _ _ _ => (pg_name (i := 5) sc_Deed_init.nd rfl (Or.inl rfl))) (fun _ _ _ _ _ => pts_nil)) rfl))))) ), ?_⟩
  refine ⟨_, rfl, a, gs, rfl, hg, G, fun H1 e1 => ?_⟩
  refine ⟨_, rfl, _, rfl, rfl, false, blN rfl, iteF ?_⟩
  refine ⟨_, rfl, _, rfl, x, _, dx, _, rfl, e1 _ _ hx, T.oD.ins.cl, T.nD1, by decide, ?_⟩
  obtain ⟨a', us, ea, ha, hp⟩ := hg
  cases ea
  have hlen := paired_len hp
  have f2 : But x H (upd H1 x (.ins (aD K) dx (putF "parted" (.ref a) []))) := fun b o n h => by rw [upd_ne n]; exact e1 _ _ h
  have ha2 := f2 _ _ (ne_of ha hx (fun z => by cases z)) ha
  refine ⟨_, rfl, a, us, rfl, .of ha2, fun D hD => ?_⟩
  have hxD : D ≠ x := fun z => by rw [z, upd_same] at hD; cases hD
  have hHD : H D = none := by
    cases z : H D with
    | none => rfl
    | some o => rw [f2 _ _ hxD z] at hD; cases hD
  have hax : a ≠ x := ne_of ha hx (fun z => by cases z)
  refine loopE (xs := us) (fun n G' => But x H G' ∧ G' x = some (.ins (aD K) dx [("parted", .ref a)]) ∧ ∃ kvs, G' D = some (.dK kvs) ∧ kvs.length ≤ (gs.take n).flatten.length ∧ ∀ (i : Nat) (g : List Str) (y : Str), i < n → gs[i]? = some g → y ∈ g → valV kvs (.inr y) = some (.int i))
    (fun n G' h => .of (h.1 _ _ hax ha)) ⟨but_lay f2 hD, by rw [upd_ne (Ne.symm hxD)]; exact upd_same, [], upd_same, Nat.zero_le _, fun i g y h => absurd h (Nat.not_lt_zero _)⟩ (fun n v G' T' hv h hT => ?_) fun G' h => ?_
  · obtain ⟨eG, hxG, kvs, hDG, hkl, hold⟩ := h
    obtain ⟨g, hg', ga, rfl, hga⟩ := paired_at hp hv
    have hle := flat_le hg'
    have hle8 := G.le
    have hgx : ga ≠ x := ne_of hga hx (fun z => by cases z)
    refine ⟨T', _, rfl, .of upd_same, rfl, _, _, rfl, _, _, rfl, rfl, rfl, tYesI ⟨_, rfl, ga, rfl, ⟨_, .of ((but_lay eG hT) _ _ hgx hga)⟩, ?_⟩⟩
    refine loopT (xs := nm g) (fun m G2 => But x H G2 ∧ G2 x = some (.ins (aD K) dx [("parted", .ref a)]) ∧ ∃ kvs, G2 D = some (.dK kvs) ∧ kvs.length ≤ (gs.take n).flatten.length + m ∧ (∀ (i : Nat) (g : List Str) (y : Str), i < n → gs[i]? = some g → y ∈ g → valV kvs (.inr y) = some (.int i)) ∧ ∀ y ∈ g.take m, valV kvs (.inr y) = some (.int n))
      (fun m G2 h => .of (h.1 _ _ hgx hga)) ⟨but_lay eG hT, same_new hT _ _ hxG, kvs, same_new hT _ _ hDG, hkl, hold, fun y h => by simp at h⟩ (fun m y G2 hy h => ?_) fun G2 h => ?_
    · obtain ⟨e2, hx2, kvs2, hD2, hk2, ho2, hn2⟩ := h
      obtain ⟨z, hz, rfl⟩ := nm_at hy
      have hm : m < g.length := (List.getElem?_eq_some_iff.mp hz).1
      refine ⟨rfl, tYesI ⟨_, rfl, _, rfl, kvs2, .inr z, rfl, hD2, by rw [sizeLine_eq]; omega, but_put e2 hHD, by rw [upd_ne (Ne.symm hxD)]; exact hx2, _, upd_same, ?_, fun i g' y hi hg2 hy2 => ?_, fun y hy2 => ?_⟩⟩
      · have := length_putK kvs2 (.inr z) (.int n)
        omega
      · rw [valV_put, if_neg]
        · exact ho2 i g' y hi hg2 hy2
        · intro e
          injection e with e
          subst e
          refine flat_new hg' G.nd (List.mem_of_getElem? hz) ?_
          have : g' ∈ gs.take n := List.mem_of_getElem? (i := i) (by rw [List.getElem?_take_of_lt hi]; exact hg2)
          exact List.mem_flatten.mpr ⟨g', this, hy2⟩
      · rw [valV_put]
        by_cases e : y = z
        · subst e; rw [if_pos rfl]
        · rw [if_neg (fun q => e (by injection q))]
          refine hn2 y ?_
          rw [List.take_succ, hz] at hy2
          rcases List.mem_append.mp hy2 with q | q
          · exact q
          · exact absurd (by simpa using q) e
    · obtain ⟨e2, hx2, kvs2, hD2, hk2, ho2, hn2⟩ := h
      refine ⟨e2, hx2, kvs2, hD2, ?_, fun i g' y hi hg2 hy => ?_⟩
      · rw [flat_take hg', List.length_append]
        rw [List.length_map] at hk2
        exact hk2
      · rcases Nat.lt_or_eq_of_le (Nat.le_of_lt_succ hi) with q | q
        · exact ho2 i g' y q hg2 hy
        · subst q
          rw [hg'] at hg2
          cases hg2
          exact hn2 y (by rw [List.length_map, List.take_length]; exact hy)
  · obtain ⟨eG, hxG, kvs, hDG, hkl, hold⟩ := h
    refine ⟨_, rfl, x, _, dx, _, rfl, hxG, T.oD.ins.cl, T.nD2, by show 1 < 1000; decide, ?_⟩
    refine q D kvs _ (but_own eG) upd_same (by rw [upd_ne hxD]; exact hDG) fun i g y hg2 hy => hold i g y ?_ hg2 hy
    rw [hlen]
    exact (List.getElem?_eq_some_iff.mp hg2).1
theorem pr_Dg (T : Tops K mg) : Pr P w K mg base 1 (aD K) "groups" (sp_Deed_groups K) := by
  refine .of T.oD.ins.cl T.pDg sc_Deed_groups (fun _ _ _ _ _ _ us hl => match us, hl with | [_], _ => rfl) (fun vs H Q E h => ?_) fun f cdv A outer s H vs Q E hr h => ?_
  · obtain ⟨_, _, rfl, _⟩ := h; rfl
  obtain ⟨x, gs, rfl, ⟨x', dx, a, r, kvs, ex, hx, hg, _⟩, q⟩ := h
  cases ex
  refine ⟨_, (pss_one (ps_ret (pe_fldK (K := K) rfl (pv 0) rfl))) , ?_⟩
  exact ⟨_, rfl, x, _, dx, _, .ref a, rfl, hx, T.oD.ins.cl, T.nD1, rfl, q a hg⟩
theorem pr_Dt (T : Tops K mg) : Pr P w K mg base 1 (aD K) "things" (sp_Deed_things K) := by
  refine .of T.oD.ins.cl T.pDt sc_Deed_things (fun _ _ _ _ _ _ us hl => match us, hl with | [_], _ => rfl) (fun vs H Q E h => ?_) fun f cdv A outer s H vs Q E hr h => ?_
  · obtain ⟨_, _, rfl, _⟩ := h; rfl
  obtain ⟨x, gs, rfl, ⟨x', dx, a, r, kvs, ex, hx, ⟨a', us, ea, ha, hp⟩, _⟩, hnd, hle, q⟩ := h
  cases ex
  cases ea
  refine ⟨_, (pss_one (ps_ret (pe_callTy (call_tuple_ofK (K := K) rfl) (by rfl) (T.nn "tuple") rfl (pa_cons (pe_callB (cr_sortedSK (K := K) rfl) (by rfl) (T.nn "sorted") rfl (pa_cons (pe_lc2 (own := [("group", 1), ("thing", 2)]) (vs1 := [2]) (by rfl) sc_Deed_things.nd (pi_tupK (K := K) rfl (pe_fldK (K := K) rfl (pv 0) rfl)) (blkOk_by (own := [("group", 1), ("thing", 2)]) (N := N_Deed_things) (sc := defScope s_Deed_things) (by decide +kernel)) (by decide) (fun _ _ _ _ _ => (pg_name (i := 1) sc_Deed_things.nd rfl (Or.inl rfl))) (fun _ _ _ _ _ => pts_nil) (fun _ _ _ _ _ => (pi_tupK (K := K) rfl (pv 1))) (fun _ _ _ _ _ => (pg_name (i := 2) sc_Deed_things.nd rfl (Or.inl rfl))) (fun _ _ _ _ _ => pts_nil) (fun _ _ _ _ _ => (pv 2))) pa_nil)) pa_nil)))) , ?_⟩
  refine ⟨_, rfl, x, _, dx, _, .ref a, rfl, hx, T.oD.ins.cl, T.nD1, rfl, a, rfl, ⟨_, .of ha⟩, fun D hD => ?_⟩
  refine loopT (xs := us) (fun n G => Same H G ∧ G D = some (.lst (nm (gs.take n).flatten))) (fun n G h => .of (h.1 _ _ ha)) ⟨same_new hD, upd_same⟩ (fun n v G hv h => ?_) fun G h => ?_
  · obtain ⟨eG, hDG⟩ := h
    obtain ⟨g, hg, ga, rfl, hga⟩ := paired_at hp hv
    have hgG := eG _ _ hga
    refine ⟨rfl, tYesI ⟨_, rfl, ga, rfl, ⟨_, .of hgG⟩, ?_⟩⟩
    refine loopT (xs := nm g) (fun m G2 => Same H G2 ∧ G2 D = some (.lst (nm (gs.take n).flatten ++ nm (g.take m)))) (fun m G2 h => .of (h.1 _ _ hga)) ⟨eG, by rw [hDG]; simp⟩ (fun m y G2 hy h => ?_) fun G2 h => ?_
    · obtain ⟨e2, hD2⟩ := h
      obtain ⟨z, hz, rfl⟩ := nm_at hy
      have hm : m < g.length := (List.getElem?_eq_some_iff.mp hz).1
      have := flat_le hg
      refine ⟨rfl, tYesI ⟨_, rfl, _, hD2, ?_, lst_keep e2 hD, ?_⟩⟩
      · rw [List.length_append, List.length_map, List.length_map, List.length_take, sizeLine_eq]
        omega
      · rw [upd_same, List.append_assoc, nm_snoc hz]
    · refine ⟨h.1, ?_⟩
      rw [h.2, flat_take hg, nm_app, List.length_map, List.take_length]
  · obtain ⟨eG, hDG⟩ := h
    have en : (gs.take us.length).flatten = gs.flatten := by rw [paired_len hp, List.take_length]
    rw [en] at hDG
    refine ⟨D, gs.flatten, rfl, .of hDG, by omega, fun ys L py sy hL => ?_⟩
    refine ⟨L, nm ys, rfl, .inl ⟨.of upd_same, fun tp htp => ?_⟩⟩
    exact q tp ys _ (eG.trans ((same_new hL).trans (same_new htp))) upd_same py (asc_of sy (py.nodup_iff.mpr hnd))
/-- Deed(groups), made -/
theorem mkDeed {H1 : Hp} {a : Addr} {gs : Gs} {Q : VK} (hg : GrpV H1 (.ref a) gs) (G : GoodGs gs) (q : ∀ x H', Same H1 H' → DeedV K H' (.ref x) gs → Q (.ref x) H') :
    ∀ x dx, H1 x = none → H1 dx = none → dx ≠ x → sp_Deed_init K (.ref x :: ([.ref a] ++ [])) (upd (upd H1 dx (.own x)) x (.ins (aD K) dx [])) (fun v H2 => v = .non ∧ Q (.ref x) H2) E0 := by
  intro x dx nx nd hne
  have s1 : Same H1 (upd (upd H1 dx (.own x)) x (.ins (aD K) dx [])) := fun b o h => by rw [upd_ne (ne_of_none h nx), upd_ne (ne_of_none h nd)]; exact h
  refine ⟨x, dx, a, gs, rfl, upd_same, hg.same s1, G, fun r kvs H' hb hx hr hk => ⟨rfl, ?_⟩⟩
  have s2 : Same H1 H' := Same.made nx nd fun b o h n => hb b o n h
  exact q x H' s2 ⟨x, dx, a, r, kvs, rfl, hx, hg.same s2, hr, hk⟩
theorem pair_good {p q' : Str} {i j : Int} (hp : IsName p) (hq : IsName q') (h : Asc [p, q']) : GoodGs (pairGs p q' i j) := by
  have hn := asc_nodup h
  have hne : p ≠ q' := fun z => by rw [z] at hn; simp at hn
  have g1 : GoodG [p] := ⟨by simp, by simpa using hp, by simp [Asc]⟩
  have g2 : GoodG [q'] := ⟨by simp, by simpa using hq, by simp [Asc]⟩
  have g3 : GoodG [p, q'] := ⟨by simp, by simp [hp, hq], h⟩
  unfold pairGs
  split
  · exact ⟨by simp, by simpa using g3, by simpa using hn, by simp⟩
  · split
    · exact ⟨by simp, by simp [g1, g2], by simp [hne], by simp⟩
    · exact ⟨by simp, by simp [g1, g2], by simp [Ne.symm hne], by simp⟩
/-- the rank of a name -/
def rk (gs : Gs) (x : Str) : Nat := gs.findIdx fun g => decide (x ∈ g)
theorem rk_at {gs : Gs} {x : Str} (h : x ∈ gs.flatten) : ∃ g, gs[rk gs x]? = some g ∧ x ∈ g := by
  obtain ⟨g, mg, mx⟩ := List.mem_flatten.mp h
  have hl : rk gs x < gs.length := List.findIdx_lt_length_of_exists ⟨g, mg, by simpa using mx⟩
  refine ⟨gs[rk gs x], List.getElem?_eq_getElem hl, ?_⟩
  exact of_decide_eq_true (List.findIdx_getElem (xs := gs) (p := fun g => decide (x ∈ g)) (w := hl))
def sp_Deed_only (K : PySem.W.Frag) : Sp := fun vs H Q _ => ∃ x a gs p q', vs = [.ref x, .ref a] ∧ DeedV K H (.ref x) gs ∧ GoodGs gs ∧ H a = some (.tup (nm [p, q'])) ∧ Asc [p, q'] ∧ p ∈ gs.flatten ∧ q' ∈ gs.flatten ∧
  ∀ y H', Same H H' → DeedV K H' (.ref y) (pairGs p q' (rk gs p) (rk gs q')) → Q (.ref y) H'
theorem mt_Deed_only (T : Tops K mg) : Mt P w K mg base 6 (aD K) "only" ["self", "things"] (sp_Deed_only K) := by
  refine .of T.oD.ins.cl T.mDo sc_Deed_only (fun _ _ _ _ _ _ us hl => match us, hl with | [_, _], _ => rfl) (fun vs H Q E h => ?_) fun f cdv A outer s H vs Q E hr h => ?_
  · obtain ⟨_, _, _, _, _, rfl, _⟩ := h; rfl
  obtain ⟨x, a, gs, p, q', rfl, hd, G, ha, hasc, mp, mq, q⟩ := h
  refine ⟨_, (pss_cons (ps_expr (pe_cl (cl_check_things T) hr (by decide) rfl (pa_cons (pv 1) (pa_cons (pe_pr (pr_Dt T) hr (by decide) (pv 0) rfl) pa_nil))))
      (pss_one (ps_ret (pe_ml (ml_Deed T) hr (by decide) rfl (pa_cons (pe_cl (cl_grouped T) hr (by decide) rfl (pa_cons (pv 1) (pa_cons (pe_fldK (K := K) rfl (pv 0) rfl) pa_nil))) pa_nil))))) , ?_⟩
  obtain ⟨x', dx, a', r, kvs, ex, hx, hg, hrk, hk⟩ := id hd
  cases ex
  refine ⟨_, rfl, _, rfl, x, dx, _, rfl, hx, x, gs, rfl, hd, G.nd, G.le, fun tp ys H1 e1 htp py ay => ?_⟩
  refine ⟨a, tp, [p, q'], ys, rfl, .of (e1 _ _ ha), .of htp, by simp, fun z mz => ?_, hasc, fun H2 e2 => ?_⟩
  · refine py.symm.subset ?_
    have : z = p ∨ z = q' := by simpa using mz
    rcases this with h | h <;> rw [h] <;> assumption
  have e12 := e1.trans e2
  obtain ⟨g1, hg1, m1⟩ := rk_at mp
  obtain ⟨g2, hg2, m2⟩ := rk_at mq
  have nmOf : ∀ y, y ∈ gs.flatten → IsName y := fun y hy => by
    obtain ⟨g, mg', mx⟩ := List.mem_flatten.mp hy
    exact (G.all g mg').nms y mx
  refine ⟨_, rfl, _, rfl, x, _, dx, _, .ref r, rfl, e12 _ _ hx, T.oD.ins.cl, T.nD2, rfl, ?_⟩
  refine ⟨a, r, kvs, p, q', rk gs p, rk gs q', rfl, e12 _ _ ha, e12 _ _ hrk, hasc, hk _ _ _ hg1 m1, hk _ _ _ hg2 m2, fun v H3 e3 hv => ?_⟩
  obtain ⟨b, us, rfl, hb⟩ := id hv
  exact mkDeed hv (pair_good (nmOf p mp) (nmOf q' mq) hasc) fun y H4 e4 hd4 => q y H4 (e12.trans (e3.trans e4)) hd4
end
end SD
end
section
set_option Elab.async false
set_option linter.all false
set_option maxRecDepth 100000
set_option maxHeartbeats 4000000
/-! ### the texts of deeds and urns, read back -/
namespace SD
open PySem PySem.Spec PyProof.Rows L2
open TL (tl)
def gTxt (g : List Str) : Str := Txt.join " " g
def gsTxt (gs : Gs) : Str := Txt.join " | " (gs.map gTxt)
def rowTxt (r : Gs × Nat) : Str := (⟨#[48 + r.2]⟩ ++ ": ") ++ gsTxt r.1
def urnTxt (rs : List (Gs × Nat)) : Str := Txt.join "; " (rs.map rowTxt)
theorem join_tl (y : Str) (parts : List Str) : tl (Txt.join y parts) = TL.joinL (tl y) (parts.map tl) := by rw [TL.join_eq, TL.tl_join]
theorem mem_joinL {S : List Nat} {c : Nat} : ∀ {parts : List (List Nat)}, c ∈ TL.joinL S parts → c ∈ S ∨ ∃ p ∈ parts, c ∈ p
  | [], h => by simp [TL.joinL] at h
  | [p], h => .inr ⟨p, by simp, h⟩
  | p :: q :: r, h => by
    rw [TL.joinL] at h
    rcases List.mem_append.mp h with z | z
    · exact .inr ⟨p, by simp, z⟩
    · rcases List.mem_append.mp z with z | z
      · exact .inl z
      · rcases mem_joinL z with u | ⟨v, mv, hv⟩
        · exact .inl u
        · exact .inr ⟨v, List.mem_cons_of_mem _ mv, hv⟩
theorem joinL_len (S : List Nat) : ∀ parts : List (List Nat), (TL.joinL S parts).length ≤ (parts.map List.length).sum + parts.length * S.length
  | [] => by simp [TL.joinL]
  | [p] => by simp [TL.joinL]
  | p :: q :: r => by
    have h := joinL_len S (q :: r)
    rw [TL.joinL, List.length_append, List.length_append, List.map_cons, List.sum_cons, List.length_cons, Nat.succ_mul]
    omega
theorem join_len (y : Str) (parts : List Str) : (Txt.join y parts).length ≤ (parts.map (·.length)).sum + parts.length * y.length := by
  have h := joinL_len (tl y) (parts.map tl)
  rw [← join_tl] at h
  have e : (parts.map tl).map List.length = parts.map (·.length) := by rw [List.map_map]; rfl
  rw [e, List.length_map] at h
  exact h
theorem sum_le {l : List Nat} {b : Nat} (h : ∀ x ∈ l, x ≤ b) : l.sum ≤ l.length * b := by
  induction l with
  | nil => simp
  | cons a l ih =>
    have h1 := ih fun x m => h x (List.mem_cons_of_mem _ m)
    have h2 := h a List.mem_cons_self
    rw [List.sum_cons, List.length_cons, Nat.succ_mul]
    omega
theorem sig_ne {c : Nat} (h : c ∈ cSig.cps.toList) : c ≠ 32 ∧ c ≠ 124 ∧ c ≠ 58 ∧ c ≠ 59 := by
  have all : ∀ c ∈ cSig.cps.toList, c ≠ 32 ∧ c ≠ 124 ∧ c ≠ 58 ∧ c ≠ 59 := by decide +kernel
  exact all c h
theorem name_ne {x : Str} (n : IsName x) {c : Nat} (h : c ∈ tl x) : c ≠ 32 ∧ c ≠ 124 ∧ c ≠ 58 ∧ c ≠ 59 := sig_ne (n.all c h)
theorem gTxt_mem {g : List Str} (h : ∀ x ∈ g, IsName x) {c : Nat} (m : c ∈ tl (gTxt g)) : c ≠ 124 ∧ c ≠ 58 ∧ c ≠ 59 := by
  unfold gTxt at m
  rw [join_tl] at m
  rcases mem_joinL m with z | ⟨p, mp, z⟩
  · have : c = 32 := by
      have e : tl (Str.ofString " ") = [32] := by decide +kernel
      rw [e] at z
      simpa using z
    subst this
    decide
  · obtain ⟨x, mx, rfl⟩ := List.mem_map.mp mp
    exact (name_ne (h x mx) z).2
theorem gsTxt_mem {gs : Gs} (h : ∀ g ∈ gs, ∀ x ∈ g, IsName x) {c : Nat} (m : c ∈ tl (gsTxt gs)) : c ≠ 58 ∧ c ≠ 59 := by
  unfold gsTxt at m
  rw [join_tl] at m
  rcases mem_joinL m with z | ⟨p, mp, z⟩
  · have e : tl (Str.ofString " | ") = [32, 124, 32] := by decide +kernel
    rw [e] at z
    have : c = 32 ∨ c = 124 ∨ c = 32 := by simpa using z
    rcases this with r | r | r <;> subst r <;> decide
  · obtain ⟨x, mx, rfl⟩ := List.mem_map.mp mp
    obtain ⟨g, mg, rfl⟩ := List.mem_map.mp mx
    exact (gTxt_mem (h g mg) z).2
theorem split_g {g : List Str} (hne : g ≠ []) (h : ∀ x ∈ g, IsName x) : Txt.split (gTxt g) " " = g :=
  TL.split_join (s := 32) (S := []) (by decide +kernel) (by decide +kernel) hne fun p m z => (name_ne (h p m) z).1 rfl
theorem pre_bar {p : List Nat} (h : 124 ∉ p) (rest : List Nat) : ∀ i, i < p.length → TL.pre [32, 124, 32] ((p ++ ([32, 124, 32] ++ rest)).drop i) = false := by
  intro i hi
  rw [List.drop_append_of_le_length (Nat.le_of_lt hi)]
  cases e : p.drop i with
  | nil =>
    have := List.drop_eq_nil_iff.mp e
    omega
  | cons c r =>
    have mr : ∀ d ∈ r, d ≠ 124 := fun d m z => h (by subst z; exact List.mem_of_mem_drop (i := i) (by rw [e]; exact List.mem_cons_of_mem _ m))
    unfold TL.pre
    cases r with
    | nil => simp
    | cons d r => simp [mr d (by simp)]
theorem pre_bar0 {p : List Nat} (h : 124 ∉ p) : ∀ i, i < p.length → TL.pre [32, 124, 32] (p.drop i) = false := by
  intro i hi
  cases e : p.drop i with
  | nil =>
    have := List.drop_eq_nil_iff.mp e
    omega
  | cons c r =>
    have mr : ∀ d ∈ r, d ≠ 124 := fun d m z => h (by subst z; exact List.mem_of_mem_drop (i := i) (by rw [e]; exact List.mem_cons_of_mem _ m))
    unfold TL.pre
    cases r with
    | nil => simp
    | cons d r => simp [mr d (by simp)]
theorem spl_bar : ∀ {parts : List (List Nat)}, parts ≠ [] → (∀ p ∈ parts, 124 ∉ p) → TL.spl [32, 124, 32] 0 [] (TL.joinL [32, 124, 32] parts) = parts
  | [], h, _ => absurd rfl h
  | [p], _, h => by
    rw [TL.joinL, TL.spl_last (pre_bar0 (h p (by simp)))]
    rfl
  | p :: q :: r, _, h => by
    rw [TL.joinL, TL.spl_part (by simp) (pre_bar (h p (by simp)) _), spl_bar (by simp) (fun x m => h x (List.mem_cons_of_mem _ m))]
    rfl
theorem split_gs {gs : Gs} (hne : gs ≠ []) (h : ∀ g ∈ gs, ∀ x ∈ g, IsName x) : Txt.split (gsTxt gs) " | " = gs.map gTxt := by
  have e : tl (Str.ofString " | ") = [32, 124, 32] := by decide +kernel
  refine TL.map_tl_inj ?_
  rw [TL.split_spl _ _ (by rw [e]; simp) (TL.kind_ok (by decide +kernel)), e]
  unfold gsTxt
  rw [join_tl, e]
  refine spl_bar (by simpa using hne) fun p m => ?_
  obtain ⟨x, mx, rfl⟩ := List.mem_map.mp m
  obtain ⟨g, mg, rfl⟩ := List.mem_map.mp mx
  exact fun z => (gTxt_mem (h g mg) z).1 rfl
theorem part_row {r : Gs × Nat} (h1 : 1 ≤ r.2) (h9 : r.2 ≤ 9) : Txt.partition (rowTxt r) ": " = ((⟨#[48 + r.2]⟩ : Str), (": " : Str), gsTxt r.1) := by
  refine TL.partition_app (s := 58) (S := [32]) (by decide +kernel) ?_
  show 58 ∉ [48 + r.2]
  simp
  omega
theorem row_mem {r : Gs × Nat} (h9 : r.2 ≤ 9) (h : ∀ g ∈ r.1, ∀ x ∈ g, IsName x) {c : Nat} (m : c ∈ tl (rowTxt r)) : c ≠ 59 := by
  unfold rowTxt at m
  rw [TL.tl_append, TL.tl_append] at m
  rcases List.mem_append.mp m with z | z
  · rcases List.mem_append.mp z with z | z
    · have z2 : c ∈ [48 + r.2] := z
      have : c = 48 + r.2 := by simpa using z2
      omega
    · have e : tl (Str.ofString ": ") = [58, 32] := by decide +kernel
      rw [e] at z
      have : c = 58 ∨ c = 32 := by simpa using z
      omega
  · exact (gsTxt_mem h z).2
theorem split_urn {rs : List (Gs × Nat)} (hne : rs ≠ []) (h : ∀ r ∈ rs, r.2 ≤ 9 ∧ ∀ g ∈ r.1, ∀ x ∈ g, IsName x) : Txt.split (urnTxt rs) "; " = rs.map rowTxt :=
  TL.split_join (s := 59) (S := [32]) (by decide +kernel) (by decide +kernel) (by simpa using hne) fun p m z => by
    obtain ⟨r, mr, rfl⟩ := List.mem_map.mp m
    exact row_mem (h r mr).1 (h r mr).2 z rfl
/-! lengths -/
theorem gTxt_len {g : List Str} (h : ∀ x ∈ g, IsName x) : (gTxt g).length ≤ g.length * 9 := by
  have h1 := join_len " " g
  have h2 := sum_le (l := g.map (·.length)) (b := 8) fun n m => by
    obtain ⟨x, mx, rfl⟩ := List.mem_map.mp m
    exact (h x mx).eight
  rw [List.length_map] at h2
  have e : (Str.ofString " ").length = 1 := by decide +kernel
  rw [e] at h1
  unfold gTxt
  omega
theorem GoodGs.nms {gs : Gs} (G : GoodGs gs) : ∀ g ∈ gs, ∀ x ∈ g, IsName x := fun g m => (G.all g m).nms
theorem gsTxt_len {gs : Gs} (G : GoodGs gs) : (gsTxt gs).length ≤ 8 * (72 + 3) := by
  have h1 := join_len " | " (gs.map gTxt)
  have h2 := sum_le (l := (gs.map gTxt).map (·.length)) (b := 72) fun n m => by
    obtain ⟨x, mx, rfl⟩ := List.mem_map.mp m
    obtain ⟨g, mg, rfl⟩ := List.mem_map.mp mx
    have a := gTxt_len (G.nms g mg)
    have b := G.glen mg
    omega
  rw [List.length_map, List.length_map] at h2
  have e : (Str.ofString " | ").length = 3 := by decide +kernel
  rw [e, List.length_map] at h1
  have := G.len
  unfold gsTxt
  omega
end SD
end
section
set_option Elab.async false
set_option linter.all false
set_option maxRecDepth 100000
set_option maxHeartbeats 4000000
/-! ### urns -/
namespace SD
open PySem PySem.Spec PyProof.Rows L2
def sp_deed_with (K : PySem.W.Frag) : Sp := fun vs H Q _ => ∃ gs, vs = [.str (gsTxt gs)] ∧ GoodGs gs ∧ ∀ x H', Same H H' → DeedV K H' (.ref x) gs → Q (.ref x) H'
section
variable {P : Program} {w : World} {K : PySem.W.Frag} {mg : Str → Option Value} {base : Heap}
theorem cl_deed_with (T : Tops K mg) : Cl P w K mg base 6 "deed_with" ["text"] (sp_deed_with K) := by
  refine .of T.f_deed_with sc_deed_with (fun _ _ _ _ _ _ us hl => match us, hl with | [_], _ => rfl) (fun vs H Q E h => ?_) fun f cdv A outer s H vs Q E hr h => ?_
  · obtain ⟨_, rfl, _⟩ := h; rfl
  obtain ⟨gs, rfl, G, q⟩ := h
  refine ⟨_, (pss_cons (ps_if (pt_not (pt_val (pe_callB (call_isiK' (K := K) rfl) (by rfl) (T.nn "isinstance") rfl (pa_cons (pv 0) (pa_cons (pe_bltn (v := .ty "str") (by rfl) (T.nn "str") rfl rfl) pa_nil)))))
       (pss_one (ps_ret pe_non))
       pss_nil)
      (pss_cons (ps_set (i := 1) sc_deed_with.nd rfl (Or.inl rfl) (pe_callTy (call_tuple_ofK (K := K) rfl) (by rfl) (T.nn "tuple") rfl (pa_cons (pe_lc (own := [("piece", 2)]) (by rfl) sc_deed_with.nd (pi_listK (K := K) rfl (pe_split (pv 0) pe_str)) (blkOk_by (own := [("piece", 2)]) (N := N_deed_with) (sc := defScope s_deed_with) (by decide +kernel)) (fun _ _ _ _ _ => (pg_name (i := 2) sc_deed_with.nd rfl (Or.inl rfl))) (fun _ _ _ _ _ => pts_nil) (fun _ _ _ _ _ => (pe_callTy (call_tuple_ofK (K := K) rfl) (by rfl) (T.nn "tuple") rfl (pa_cons (pe_split (pv 2) pe_str) pa_nil)))) pa_nil)))
      (pss_one (ps_ret (pe_ifExp (pt_cmpR op_eq (pe_cl (cl_wrong_group T) hr (by decide) rfl (pa_cons (pv 1) pa_nil)) (pe_un un_neg pe_int) (nomark _)) (pe_ml (ml_Deed T) hr (by decide) rfl (pa_cons (pv 1) pa_nil)) pe_non))))) , ?_⟩
  refine ⟨_, rfl, _, _, _, _, true, rfl, .ty "str", .base (.str _), kit_str, true, rfl, iteF ?_⟩
  have hl := gsTxt_len G
  refine ⟨_, rfl, ⟨_, rfl⟩, _, _, rfl, rfl, by decide +kernel, by rw [sizeLine_eq]; omega, fun p np => ?_⟩
  have e0 : Same H (upd H p (.lst ((Txt.split (gsTxt gs) " | ").map V.str))) := same_new np
  rw [split_gs G.ne G.nms] at e0 ⊢
  refine ⟨p, rfl, ⟨_, .of upd_same⟩, fun D hD => ?_⟩
  refine lcL (fun i acc H' => Paired (TupS H') acc (gs.take i)) (xs := nm (gs.map gTxt)) (.of upd_same) hD .nil (fun i x H1 acc hx e1 hD1 hl1 hacc => ?_) fun H1 acc e1 hD1 hl1 hacc => ?_
  · obtain ⟨z, hz, rfl⟩ := nm_at hx
    rw [List.getElem?_map] at hz
    obtain ⟨g, hg, rfl⟩ := Option.map_eq_some_iff.mp hz
    have mg' := List.mem_of_getElem? hg
    have hn := G.nms g mg'
    have hgl := gTxt_len hn
    have hg8 := G.glen mg'
    have hi : i < gs.length := (List.getElem?_eq_some_iff.mp hg).1
    have hgs := G.len
    refine ⟨rfl, tYesI ⟨_, rfl, ⟨_, rfl⟩, _, _, rfl, rfl, by decide +kernel, by rw [sizeLine_eq]; omega, fun p2 np2 => ?_⟩⟩
    rw [split_g (G.all g mg').ne hn]
    refine ⟨p2, nm g, rfl, .inl ⟨.of upd_same, fun tp htp => ?_⟩⟩
    have e2 : Same H1 (upd (upd H1 p2 (.lst (nm g))) tp (.tup (nm g))) := (same_new np2).trans (same_new htp)
    have hD2 := e2 _ _ hD1
    refine lc_put hD e1 e2 hD1 hl1 (by omega) ?_
    have et : gs.take (i + 1) = gs.take i ++ [g] := by rw [List.take_succ, hg]; rfl
    rw [et]
    refine paired_snoc (tupS_upd hD2 ⟨tp, rfl, upd_same⟩) (paired_mono (fun v g tv => tupS_upd hD2 (tv.same e2)) hacc)
  · refine ⟨D, acc, rfl, .inl ⟨.of hD1, fun tp htp => ?_⟩⟩
    have e2 := e0.trans (e1.trans (same_new (o := .tup acc) htp))
    have en : gs.take (nm (gs.map gTxt)).length = gs := by rw [List.length_map, List.length_map, List.take_length]
    rw [en] at hacc
    have hG : GrpV (upd H1 tp (.tup acc)) (.ref tp) gs := ⟨tp, acc, rfl, upd_same, paired_mono (fun v g tv => tv.same (same_new htp)) hacc⟩
    refine ⟨_, rfl, tp, gs, rfl, hG, G, fun H2 e3 => ⟨_, rfl, rfl, true, blT rfl, iteT ⟨_, rfl, ?_⟩⟩⟩
    exact mkDeed (hG.same e3) G fun x H3 e4 hd => q x H3 (e2.trans (e3.trans e4)) hd
end
end SD
end
section
set_option Elab.async false
set_option linter.all false
set_option maxRecDepth 100000
set_option maxHeartbeats 4000000
/-! ### rows in their order, summed -/
namespace SD
open PySem PySem.Spec PyProof.Rows L2
open PySem.W (dataLe dataLt AllAlike Sortable)
abbrev Row := Gs × Nat
def gle : Gs → Gs → Bool := dataLe false gD
def rD (r : Row) : PyData := .tuple [gD r.1, .int r.2]
def rle : Row → Row → Bool := dataLe false rD
theorem dle_total {β : Type} (k : β → PyData) : PySem.W.TotalLe (dataLe false k) := PySem.W.sortLe_total _ false _
theorem eqv_strs : ∀ a b : List Str, PyData.eqvAll (a.map .str) (b.map .str) = decide (a = b)
  | [], [] => by simp [PyData.eqvAll]
  | [], _ :: _ => by simp [PyData.eqvAll]
  | _ :: _, [] => by simp [PyData.eqvAll]
  | x :: a, y :: b => by
    rw [List.map_cons, List.map_cons, PySem.W.eqv_all_cons, eqv_strs a b]
    simp [PyData.eqv, Bool.decide_and]
    rfl
theorem eqv_tS (a b : List Str) : PyData.eqv (tS a) (tS b) = decide (a = b) := by
  unfold tS
  rw [PyData.eqv]
  exact eqv_strs a b
theorem eqv_tSs : ∀ a b : Gs, PyData.eqvAll (a.map tS) (b.map tS) = decide (a = b)
  | [], [] => by simp [PyData.eqvAll]
  | [], _ :: _ => by simp [PyData.eqvAll]
  | _ :: _, [] => by simp [PyData.eqvAll]
  | x :: a, y :: b => by
    rw [List.map_cons, List.map_cons, PySem.W.eqv_all_cons, eqv_tSs a b, eqv_tS]
    simp [Bool.decide_and]
theorem eqv_gD (a b : Gs) : PyData.eqv (gD a) (gD b) = decide (a = b) := by
  unfold gD
  rw [PyData.eqv]
  exact eqv_tSs a b
theorem name_ok {x : Str} (n : IsName x) : PyData.strOk x = true := by
  have all : ∀ c ∈ cSig.cps.toList, c < 128 := by decide +kernel
  unfold PyData.strOk
  rw [← Array.all_toList, List.all_eq_true]
  intro c m
  have := all c (n.all c m)
  simp
  omega
theorem lay_strs : ∀ a : List Str, (∀ x ∈ a, IsName x) → PyData.canLayAll0 (a.map .str) = true
  | [], _ => by simp [PyData.canLayAll0]
  | x :: a, h => by simp [PyData.canLayAll0, lay_strs a (fun y m => h y (List.mem_cons_of_mem _ m)), PyData.canLay0, name_ok (h x List.mem_cons_self)]
theorem lay_tSs : ∀ a : Gs, (∀ g ∈ a, ∀ x ∈ g, IsName x) → PyData.canLayAll0 (a.map tS) = true
  | [], _ => by simp [PyData.canLayAll0]
  | x :: a, h => by simp [PyData.canLayAll0, lay_tSs a (fun y m => h y (List.mem_cons_of_mem _ m)), tS, PyData.canLay0, lay_strs x (h x List.mem_cons_self)]
theorem shaped_gD {a : Gs} (h : ∀ g ∈ a, ∀ x ∈ g, IsName x) : SeqAt.shaped (gD a) = true := by
  have hd := gD_dep a
  show ((gD a).canLay0 && decide ((gD a).depth ≤ 64)) = true
  rw [Bool.and_eq_true]
  refine ⟨?_, decide_eq_true (by omega)⟩
  unfold gD
  rw [PyData.canLay0]
  exact lay_tSs a h
theorem dataLt_self (x : PyData) : dataLt x x = false := lex_irrefl _
theorem rle_gle {p q : Row} (h : rle p q = true) : gle p.1 q.1 = true := by
  have h1 : (!dataLt (rD q) (rD p)) = true := h
  show (!dataLt (gD q.1) (gD p.1)) = true
  unfold rD at h1
  rw [PySem.W.dataLt_pair (alike_gD _ _) (by simp [PySem.W.alike]), eqv_gD] at h1
  by_cases e : q.1 = p.1
  · rw [e, dataLt_self]; rfl
  · rw [if_neg (by simpa using e)] at h1
    exact h1
/-- the first places of the groups -/
def dd (l : List Gs) : List Gs := l.foldl (fun acc g => if g ∈ acc then acc else acc ++ [g]) []
def ddG (l : List Gs) (acc : List Gs) : List Gs := l.foldl (fun acc g => if g ∈ acc then acc else acc ++ [g]) acc
theorem ddG_nodup : ∀ (l acc : List Gs), acc.Nodup → (ddG l acc).Nodup
  | [], _, h => h
  | g :: l, acc, h => by
    show (ddG l (if g ∈ acc then acc else acc ++ [g])).Nodup
    refine ddG_nodup l _ ?_
    split
    · exact h
    · rename_i n
      rw [List.nodup_append]
      exact ⟨h, by simp, fun x m y my => by have : y = g := by simpa using my
                                            subst this; exact fun z => n (z ▸ m)⟩
theorem ddG_mem : ∀ (l acc : List Gs) (g : Gs), g ∈ ddG l acc ↔ g ∈ acc ∨ g ∈ l
  | [], acc, g => by simp [ddG]
  | a :: l, acc, g => by
    show g ∈ ddG l (if a ∈ acc then acc else acc ++ [a]) ↔ _
    rw [ddG_mem l]
    split
    · rename_i m
      constructor
      · rintro (h | h)
        · exact .inl h
        · exact .inr (List.mem_cons_of_mem _ h)
      · rintro (h | h)
        · exact .inl h
        · rcases List.mem_cons.mp h with z | z
          · subst z; exact .inl m
          · exact .inr z
    · simp [or_assoc]
theorem dd_nodup (l : List Gs) : (dd l).Nodup := ddG_nodup l [] List.nodup_nil
theorem dd_mem (l : List Gs) (g : Gs) : g ∈ dd l ↔ g ∈ l := by
  have := ddG_mem l [] g
  exact (by simpa using this : g ∈ ddG l [] ↔ g ∈ l)
theorem ddG_id : ∀ (l acc : List Gs), (acc ++ l).Nodup → ddG l acc = acc ++ l
  | [], acc, _ => by simp [ddG]
  | g :: l, acc, h => by
    have n : g ∉ acc := fun m => (List.nodup_append.mp h).2.2 g m g (by simp) rfl
    show ddG l (if g ∈ acc then acc else acc ++ [g]) = _
    rw [if_neg n, ddG_id l (acc ++ [g]) (by simpa using h)]
    simp
theorem dd_id {l : List Gs} (h : l.Nodup) : dd l = l := by
  have := ddG_id l [] (by simpa using h)
  exact (by simpa using this : ddG l [] = l)
def tsum (rows : List Row) (g : Gs) : Nat := ((rows.filter fun r => decide (r.1 = g)).map (·.2)).sum
def sumRows (rows : List Row) : List Row := ((dd (rows.map (·.1))).mergeSort gle).map fun g => (g, tsum rows g)
/-- rows in order, their groups apart -/
structure Ord (rows : List Row) : Prop where
  nd : (rows.map (·.1)).Nodup
  le : (rows.map (·.1)).Pairwise fun a b => gle a b = true
theorem tsum_one : ∀ {rows : List Row}, (rows.map (·.1)).Nodup → ∀ r ∈ rows, tsum rows r.1 = r.2
  | [], _, r, m => by cases m
  | a :: rows, h, r, m => by
    rw [List.map_cons, List.nodup_cons] at h
    unfold tsum
    rcases List.mem_cons.mp m with z | z
    · subst z
      rw [List.filter_cons_of_pos (by simp)]
      have : rows.filter (fun q => decide (q.1 = r.1)) = [] := by
        rw [List.filter_eq_nil_iff]
        intro q mq e
        exact h.1 (List.mem_map.mpr ⟨q, mq, by simpa using e⟩)
      rw [this]
      simp
    · rw [List.filter_cons_of_neg (by
        intro e
        exact h.1 (List.mem_map.mpr ⟨r, z, by simpa using (of_decide_eq_true e).symm⟩))]
      exact tsum_one h.2 r z
theorem sumRows_id {rows : List Row} (h : Ord rows) : sumRows rows = rows := by
  unfold sumRows
  rw [dd_id h.nd, List.mergeSort_of_pairwise h.le, List.map_map]
  conv => rhs; rw [← List.map_id rows]
  refine List.map_congr_left fun r m => ?_
  show (r.1, tsum rows r.1) = r
  rw [tsum_one h.nd r m]
theorem sumRows_keys (rows : List Row) : (sumRows rows).map (·.1) = (dd (rows.map (·.1))).mergeSort gle := by
  unfold sumRows
  rw [List.map_map]
  conv => rhs; rw [← List.map_id (List.mergeSort _ _)]
  rfl
theorem sumRows_ord (rows : List Row) : Ord (sumRows rows) := by
  refine ⟨?_, ?_⟩
  · rw [sumRows_keys]
    exact (List.mergeSort_perm _ _).nodup_iff.mpr (dd_nodup _)
  · rw [sumRows_keys]
    exact List.pairwise_mergeSort (fun a b c => (dle_total gD).trans a b c) (fun a b => by
      have := (dle_total gD).total a b
      simpa using this) _
theorem sumRows_mem (rows : List Row) (g : Gs) : g ∈ (sumRows rows).map (·.1) ↔ g ∈ rows.map (·.1) := by
  rw [sumRows_keys, List.mem_mergeSort, dd_mem]
theorem dd_len : ∀ l acc : List Gs, (ddG l acc).length ≤ acc.length + l.length
  | [], acc => Nat.le_refl _
  | g :: l, acc => by
    show (ddG l (if g ∈ acc then acc else acc ++ [g])).length ≤ _
    have := dd_len l (if g ∈ acc then acc else acc ++ [g])
    split at this
    · rw [List.length_cons]; rename_i h; rw [if_pos h]; omega
    · rw [List.length_append, List.length_singleton] at this
      rw [List.length_cons]; rename_i h; rw [if_neg h]; omega
theorem sumRows_len (rows : List Row) : (sumRows rows).length ≤ rows.length := by
  have h : (sumRows rows).length = (dd (rows.map (·.1))).length := by
    unfold sumRows
    rw [List.length_map, List.length_mergeSort]
  have := dd_len (rows.map (·.1)) []
  rw [List.length_map] at this
  rw [h]
  exact (by simpa using this : (ddG (rows.map (·.1)) []).length ≤ rows.length)
/-! the rows on the heap -/
def RowV (H : Hp) (v : V) (r : Row) : Prop := ∃ a g, v = .ref a ∧ H a = some (.tup [g, .int r.2]) ∧ GrpV H g r.1
theorem RowV.same {H G : Hp} {v : V} {r : Row} (e : Same H G) (h : RowV H v r) : RowV G v r := by
  obtain ⟨a, g, h1, h2, h3⟩ := h
  exact ⟨a, g, h1, e _ _ h2, h3.same e⟩
theorem grpV_upd {G : Hp} {f0 : Addr} {o u : HO} {v : V} {gs : Gs} (hf : G f0 = some u) (hu : ∀ xs, u ≠ .tup xs) (h : GrpV G v gs) : GrpV (upd G f0 o) v gs := by
  obtain ⟨a, vs, rfl, ha, hp⟩ := h
  refine ⟨a, vs, rfl, by rw [upd_ne (ne_of ha hf (fun z => hu _ z.symm))]; exact ha, paired_mono (fun v g tv => ?_) hp⟩
  obtain ⟨b, rfl, hb⟩ := tv
  exact ⟨b, rfl, by rw [upd_ne (ne_of hb hf (fun z => hu _ z.symm))]; exact hb⟩
theorem rowV_upd {G : Hp} {f0 : Addr} {o u : HO} {v : V} {r : Row} (hf : G f0 = some u) (hu : ∀ xs, u ≠ .tup xs) (h : RowV G v r) : RowV (upd G f0 o) v r := by
  obtain ⟨a, g, rfl, ha, hg⟩ := h
  exact ⟨a, g, rfl, by rw [upd_ne (ne_of ha hf (fun z => hu _ z.symm))]; exact ha, grpV_upd hf hu hg⟩
theorem hu64 {A : Around} {k : Nat} (hr : Room k A) : A.units + 64 < cLine := hr.units
theorem hu65 {A : Around} {k : Nat} (hr : Room (k + 1) A) : A.units + 65 < cLine := by have := hr.un; omega
theorem puG {X : Cx} {k : Nat} (hr : Room k X.A) : ∀ Y D, Y.prog = X.prog → Y.w = X.w → Y.A = X.A → Y.K = X.K → PDs Y D (tpG X.prog X.w D) := by
  intro Y D e1 e2 e3 e4
  rw [← e1, ← e2]
  exact putsG (by rw [e3]; have := hr.un; omega)
abbrev s_summed : Stmt := top 70
abbrev N_summed : List Str := ["pairs", "found", "one", "groups", "tickets"]
theorem sc_summed : FnScope N_summed ["pairs"] (defScope s_summed) := ⟨rfl, rfl, rfl, by decide +kernel, rfl, by decide +kernel, by decide +kernel⟩
def sp_summed : Sp := fun vs H Q _ => ∃ l us rows, vs = [.ref l] ∧ H l = some (.lst us) ∧ Paired (RowV H) us rows ∧ rows.length ≤ 8 ∧ (∀ r ∈ rows, GoodGs r.1) ∧
  ∀ p us' H', Same H H' → H' p = some (.lst us') → Paired (RowV H') us' (sumRows rows) → Q (.ref p) H'
section
variable {P : Program} {w : World} {K : PySem.W.Frag} {mg : Str → Option Value} {base : Heap}
theorem putG_keys (xs : List (Gs × Addr)) (g : Gs) (a : Addr) : (putG xs g a).map (·.1) = if g ∈ xs.map (·.1) then xs.map (·.1) else xs.map (·.1) ++ [g] := by
  unfold putG
  split
  · rfl
  · rw [List.map_append]; rfl
theorem ddG_snoc (l acc : List Gs) (g : Gs) : ddG (l ++ [g]) acc = if g ∈ ddG l acc then ddG l acc else ddG l acc ++ [g] := by
  unfold ddG
  rw [List.foldl_append]
  rfl
theorem cl_summed (T : Tops K mg) : Cl P w K mg base 1 "summed" ["pairs"] sp_summed := by
  refine .of T.f_summed sc_summed (fun _ _ _ _ _ _ us hl => match us, hl with | [_], _ => rfl) (fun vs H Q E h => ?_) fun f cdv A outer s H vs Q E hr h => ?_
  · obtain ⟨_, _, _, rfl, _⟩ := h; rfl
  obtain ⟨l, us, rows, rfl, hl, hp, h8, hne, q⟩ := h
  refine ⟨_, (pss_cons (ps_set (i := 1) sc_summed.nd rfl (Or.inl rfl) (pe_lst pa_nil))
      (pss_cons (ps_for PassesOwn.never rfl (pi_listK (K := K) rfl (pe_callB (cr_sortG rfl (hu64 hr)) (by rfl) (T.nn "sorted") rfl (pa_cons (pe_dc1 (own := [("groups", 3), ("tickets", 4)]) (h0 := newG) (hp := puG hr) (by rfl) sc_summed.nd (pi_listK (K := K) rfl (pv 0)) (blkOk_by (own := [("groups", 3), ("tickets", 4)]) (N := N_summed) (sc := defScope s_summed) (by decide +kernel)) (fun _ _ _ _ _ => (pg_tupK (K := K) (n := 2) rfl rfl (pgs_cons (pg_name (i := 3) sc_summed.nd rfl (Or.inl rfl)) (pgs_cons (pg_name (i := 4) sc_summed.nd rfl (Or.inl rfl)) pgs_nil)))) (fun _ _ _ _ _ => pts_nil) (fun _ _ _ _ _ => (pv 3)) (fun _ _ _ _ _ => pe_bl)) pa_nil))) (pg_name (i := 2) sc_summed.nd rfl (Or.inr rfl))
       (pss_one (ps_expr (pe_bmK (K := K) rfl PySem.F.plainAttrs_list PySem.F.slot_list_append PySem.F.type_list_append mt_append (pv 1) (pa_cons (pe_tup (pa_cons (pv 2) (pa_cons (pe_callB (cr_sumK (K := K) rfl rfl) (by rfl) (T.nn "sum") rfl (pa_cons (pe_lc (own := [("groups", 3), ("tickets", 4)]) (by rfl) sc_summed.nd (pi_listK (K := K) rfl (pv 0)) (blkOk_by (own := [("groups", 3), ("tickets", 4)]) (N := N_summed) (sc := defScope s_summed) (by decide +kernel)) (fun _ _ _ _ _ => (pg_tupK (K := K) (n := 2) rfl rfl (pgs_cons (pg_name (i := 3) sc_summed.nd rfl (Or.inl rfl)) (pgs_cons (pg_name (i := 4) sc_summed.nd rfl (Or.inl rfl)) pgs_nil)))) (fun _ _ _ _ _ => (pts_one (pt_cmpR (op_eqDK (K := K) rfl (hu64 hr)) (pv 3) (pv 2) (nomark _)))) (fun _ _ _ _ _ => (pv 4))) pa_nil)) pa_nil))) pa_nil)))))
      (pss_one (ps_ret (pv 1))))) , ?_⟩
  have hlen := paired_len hp
  refine ⟨Nat.zero_le _, fun f0 nf0 => ?_⟩
  have e0 : Same H (upd H f0 (.lst [])) := same_new nf0
  refine ⟨_, rfl, l, rfl, ⟨_, .of (e0 _ _ hl)⟩, fun D hD => ?_⟩
  refine loopL (xs := us) (fun n G => Same (upd H f0 (.lst [])) G ∧ ∃ xs, G D = some (DGs P w D xs) ∧ xs.map (·.1) = dd ((rows.take n).map (·.1)) ∧ xs.length ≤ n ∧ ∀ x ∈ xs, GrpV G (.ref x.2) x.1) (fun n G h => .of (h.1 _ _ (e0 _ _ hl))) ⟨same_new hD, [], upd_same, rfl, Nat.le_refl _, fun x m => nomatch m⟩ (fun n x G hx h => ?_) fun G h => ?_
  · obtain ⟨eG, xs, hDG, hk, hxl, hg⟩ := h
    obtain ⟨r, hr', a, gv, rfl, ha, b, us2, rfl, hb, hp2⟩ := paired_at hp hx
    have hn : n < rows.length := (List.getElem?_eq_some_iff.mp hr').1
    have eH : Same H G := e0.trans eG
    refine ⟨a, _, rfl, .of (eH _ _ ha), rfl, _, _, rfl, _, _, rfl, rfl, rfl, tYesI ⟨_, rfl, xs, r.1, b, rfl, rfl, hDG, hg, by rw [hk]; exact dd_nodup _, ⟨b, us2, rfl, eH _ _ hb, paired_mono (fun v g tv => tv.same eH) hp2⟩, by omega, lst_keep eG hD, _, upd_same, ?_, ?_, fun x m => ?_⟩⟩
    · rw [putG_keys, hk, take_succ_map hr']
      exact (ddG_snoc _ [] _).symm
    · unfold putG
      split
      · omega
      · rw [List.length_append]; exact Nat.succ_le_succ hxl
    · refine grpV_upd hDG (fun xs z => by cases z) ?_
      unfold putG at m
      split at m
      · exact hg x m
      · rcases List.mem_append.mp m with z | z
        · exact hg x z
        · have : x = (r.1, b) := by simpa using z
          subst this
          exact ⟨b, us2, rfl, eH _ _ hb, paired_mono (fun v g tv => tv.same eH) hp2⟩
  · obtain ⟨eG, xs, hDG, hk, hxl, hg⟩ := h
    have eH : Same H G := e0.trans eG
    rw [hlen, List.take_length] at hk
    have hmem : ∀ x ∈ xs, x.1 ∈ rows.map (·.1) := fun x m => by
      rw [← dd_mem, ← hk]
      exact List.mem_map.mpr ⟨x, m, rfl⟩
    refine ⟨D, xs, rfl, hDG, hg, by rw [hk]; exact dd_nodup _, fun x m => ?_, by omega, fun L hL => ?_⟩
    · obtain ⟨r, mr, e⟩ := List.mem_map.mp (hmem x m)
      rw [← e]
      have G := hne r mr
      exact ⟨G.ne, by have := G.len; omega⟩
    -- the keys, sorted
    let ys := srt (fun x : Gs × Addr => gD x.1) xs
    have hys : ys.map (·.1) = (dd (rows.map (·.1))).mergeSort gle := by
      rw [← hk]
      exact List.map_mergeSort fun a _ b _ => rfl
    have hyp : ys.Perm xs := List.mergeSort_perm _ _
    have hny : ∀ y ∈ ys, GoodGs y.1 := fun y m => by
      obtain ⟨r, mr, e⟩ := List.mem_map.mp (hmem y (hyp.subset m))
      rw [← e]
      exact hne r mr
    have hyl : ys.length ≤ 8 := by rw [hyp.length_eq]; omega
    have eL : Same H (upd G L (.lst (ys.map fun x => V.ref x.2))) := eH.trans (same_new hL)
    have nf : G f0 = some (.lst []) := eG _ _ upd_same
    have neL : L ≠ f0 := fun z => by rw [z, nf] at hL; cases hL
    refine ⟨L, rfl, ⟨_, .of upd_same⟩, ?_⟩
    refine for_list (xs := ys.map fun x => V.ref x.2) (fun n σ' G' => ∃ u v z acc, σ' = [some (.ref l), some (.ref f0), u, v, z] ∧ Same H G' ∧ (∀ y ∈ ys, GrpV G' (.ref y.2) y.1) ∧ G' L = some (.lst (ys.map fun x => V.ref x.2)) ∧ G' f0 = some (.lst acc) ∧ Paired (RowV G') acc ((ys.take n).map fun y => (y.1, tsum rows y.1)))
      ⟨_, _, _, [], rfl, eL, fun y m => (hg y (hyp.subset m)).same (same_new hL), upd_same, by rw [upd_ne (Ne.symm neL)]; exact nf, .nil⟩ (fun n σ' G' _ hh => ?_) (fun n x σ' G' hx hh => ?_) fun σ' G' hh => ?_
    · obtain ⟨_, _, _, _, _, _, _, h, _⟩ := hh
      exact .of h
    · obtain ⟨u, v, z, acc, rfl, e1, hgy, hL1, hf, pr⟩ := hh
      rw [List.getElem?_map] at hx
      obtain ⟨y, hy, rfl⟩ := Option.map_eq_some_iff.mp hx
      have my := List.mem_of_getElem? hy
      have hn : n < ys.length := (List.getElem?_eq_some_iff.mp hy).1
      refine ⟨_, rfl, .inl ⟨rfl, _, .of hf⟩, ?_⟩
      refine ⟨_, rfl, _, rfl, l, rfl, ⟨_, .of (e1 _ _ hl)⟩, fun D2 hD2 => ?_⟩
      refine lcL (fun i acc2 _ => acc2 = (((rows.take i).filter fun r => decide (r.1 = y.1)).map fun r => V.int r.2)) (xs := us) (.of (e1 _ _ hl)) hD2 rfl (fun i x G2 acc2 hx2 e2 hD3 hl3 hacc => ?_) fun G2 acc2 e2 hD3 hl3 hacc => ?_
      · obtain ⟨r, hr', a, gv, rfl, ha, hgv⟩ := paired_at hp hx2
        have hi : i < rows.length := (List.getElem?_eq_some_iff.mp hr').1
        have eH2 : Same H G2 := e1.trans e2
        refine ⟨a, _, rfl, .of (eH2 _ _ ha), rfl, _, _, rfl, _, _, rfl, rfl, rfl, ?_⟩
        have hfil : ((rows.take (i + 1)).filter fun r => decide (r.1 = y.1)) = ((rows.take i).filter fun r => decide (r.1 = y.1)) ++ if decide (r.1 = y.1) = true then [r] else [] := take_succ_filter hr'
        refine ⟨gv, rfl, _, rfl, gD r.1, gD y.1, (hgv.same eH2).dp, ((hgy y my).same e2).dp, shaped_gD (hne r (List.mem_of_getElem? hr')).nms, shaped_gD (hny y my).nms, ?_⟩
        rw [eqv_gD]
        by_cases hg2 : r.1 = y.1
        · refine ⟨true, blT hg2, iteT ⟨_, rfl, lc_put hD2 e2 (.refl _) hD3 hl3 (by omega) ?_⟩⟩
          rw [hfil, if_pos (by simpa using hg2), List.map_append, hacc]
          rfl
        · refine ⟨false, blF hg2, iteF (lc_skip e2 (.refl _) hD3 hl3 ?_)⟩
          rw [hfil, if_neg (by simpa using hg2), List.append_nil, hacc]
      · rw [hlen, List.take_length] at hacc
        refine ⟨D2, (rows.filter fun r => decide (r.1 = y.1)).map (fun r => (r.2 : Int)), rfl, .of (by rw [hD3, hacc, List.map_map]; rfl), ?_⟩
        have es : ((rows.filter fun r => decide (r.1 = y.1)).map (fun r => (r.2 : Int))).sum = ((tsum rows y.1 : Nat) : Int) := by
          unfold tsum
          generalize rows.filter (fun r => decide (r.1 = y.1)) = rs
          induction rs with
          | nil => rfl
          | cons a rs ih => rw [List.map_cons, List.map_cons, List.sum_cons, List.sum_cons, ih]; omega
        rw [es]
        refine ⟨by show 2 ≤ sizeLine; decide, fun tp htp => ?_⟩
        have e3 : Same G' (upd G2 tp (.tup [.ref y.2, .int (tsum rows y.1 : Nat)])) := e2.trans (same_new htp)
        have hf3 := e3 _ _ hf
        have k1 : RowV (upd (upd G2 tp (.tup [.ref y.2, .int (tsum rows y.1 : Nat)])) f0 (.lst (acc ++ [.ref tp]))) (.ref tp) (y.1, tsum rows y.1) := rowV_upd hf3 (fun xs z => by cases z) ⟨tp, _, rfl, upd_same, (hgy y my).same e3⟩
        refine ⟨f0, acc, .ref tp, rfl, rfl, hf3, ?_, _, _, _, acc ++ [.ref tp], rfl, lst_keep (e1.trans e3) nf0, fun y2 m2 => grpV_upd hf3 (fun xs z => by cases z) ((hgy y2 m2).same e3), ?_, upd_same, ?_⟩
        · have := paired_len pr
          rw [this, sizeLine_eq]
          simp
          omega
        · rw [upd_ne neL]; exact e3 _ _ hL1
        · rw [take_succ_map hy]
          exact paired_snoc k1 (paired_mono (fun v g tv => rowV_upd hf3 (fun xs z => by cases z) (tv.same e3)) pr)
    · obtain ⟨u, v, z, acc, rfl, e1, hgy, hL1, hf, pr⟩ := hh
      refine ⟨_, rfl, q f0 acc _ e1 hf ?_⟩
      have en : (ys.take (ys.map fun x => V.ref x.2).length).map (fun y => (y.1, tsum rows y.1)) = sumRows rows := by
        rw [List.length_map, List.take_length]
        unfold sumRows
        rw [← hys, List.map_map]
        rfl
      rw [en] at pr
      exact pr
end
end SD
end
section
set_option Elab.async false
set_option linter.all false
set_option maxRecDepth 100000
set_option maxHeartbeats 4000000
/-! ### urns, their pairs and rows -/
namespace SD
open PySem PySem.Spec PyProof.Rows L2
/-- tickets weighed by the groups -/
def wsum (f : Gs → Nat) (rows : List Row) : Nat := (rows.map fun r => f r.1 * r.2).sum
theorem tsum_cons (a : Row) (rows : List Row) (g : Gs) : tsum (a :: rows) g = (if a.1 = g then a.2 else 0) + tsum rows g := by
  unfold tsum
  by_cases h : a.1 = g
  · rw [List.filter_cons_of_pos (by simpa using h), if_pos h, List.map_cons, List.sum_cons]
  · rw [List.filter_cons_of_neg (by simpa using h), if_neg h, Nat.zero_add]
theorem sum_add {α : Type} (f g : α → Nat) : ∀ l : List α, (l.map fun x => f x + g x).sum = (l.map f).sum + (l.map g).sum
  | [] => rfl
  | a :: l => by
    have := sum_add f g l
    rw [List.map_cons, List.map_cons, List.map_cons, List.sum_cons, List.sum_cons, List.sum_cons]
    omega
theorem sum_one (f : Gs → Nat) (a : Gs) (n : Nat) : ∀ {D : List Gs}, D.Nodup → a ∈ D → (D.map fun g => f g * (if a = g then n else 0)).sum = f a * n
  | [], _, m => by cases m
  | d :: D, h, m => by
    obtain ⟨h1, h2⟩ := List.nodup_cons.mp h
    rw [List.map_cons, List.sum_cons]
    by_cases e : a = d
    · subst e
      have z : (D.map fun g => f g * (if a = g then n else 0)).sum = 0 := by
        have : ∀ x ∈ D.map (fun g => f g * (if a = g then n else 0)), x ≤ 0 := fun x mx => by
          obtain ⟨g, mg, rfl⟩ := List.mem_map.mp mx
          have ne : ¬ a = g := fun q => h1 (by rw [q]; exact mg)
          rw [if_neg ne, Nat.mul_zero]
          exact Nat.le_refl _
        have := sum_le this
        omega
      rw [if_pos rfl, z, Nat.add_zero]
    · rw [if_neg e, Nat.mul_zero, Nat.zero_add]
      exact sum_one f a n h2 ((List.mem_cons.mp m).resolve_left e)
theorem wsum_dd (f : Gs → Nat) {D : List Gs} (hD : D.Nodup) : ∀ rows : List Row, (∀ r ∈ rows, r.1 ∈ D) → (D.map fun g => f g * tsum rows g).sum = wsum f rows
  | [], _ => by
    have : ∀ x ∈ D.map (fun g => f g * tsum [] g), x ≤ 0 := fun x mx => by
      obtain ⟨g, mg, rfl⟩ := List.mem_map.mp mx
      exact Nat.le_refl _
    have := sum_le this
    show _ = 0
    omega
  | a :: rows, h => by
    have ih := wsum_dd f hD rows fun r m => h r (List.mem_cons_of_mem _ m)
    have e : (fun g => f g * tsum (a :: rows) g) = fun g => f g * (if a.1 = g then a.2 else 0) + f g * tsum rows g := by
      funext g
      rw [tsum_cons, Nat.mul_add]
    rw [e, sum_add, sum_one f a.1 a.2 hD (h a List.mem_cons_self), ih]
    rfl
theorem wsum_sumRows (f : Gs → Nat) (rows : List Row) : wsum f (sumRows rows) = wsum f rows := by
  have hp : ((dd (rows.map (·.1))).mergeSort gle).Perm (dd (rows.map (·.1))) := List.mergeSort_perm _ _
  have e : wsum f (sumRows rows) = (((dd (rows.map (·.1))).mergeSort gle).map fun g => f g * tsum rows g).sum := by
    unfold wsum sumRows
    rw [List.map_map]
    rfl
  rw [e, (hp.map _).sum_nat]
  exact wsum_dd f (dd_nodup _) rows fun r m => (dd_mem _ _).mpr (List.mem_map.mpr ⟨r, m, rfl⟩)
def total (rows : List Row) : Nat := (rows.map (·.2)).sum
theorem total_wsum (rows : List Row) : total rows = wsum (fun _ => 1) rows := by
  unfold total wsum
  congr 1
  exact List.map_congr_left fun r _ => (Nat.one_mul _).symm
theorem total_sumRows (rows : List Row) : total (sumRows rows) = total rows := by rw [total_wsum, total_wsum, wsum_sumRows]
/-- the rows of an urn on the things th -/
structure GoodR (rows : List Row) (th : List Str) : Prop where
  ne : rows ≠ []
  len : rows.length ≤ 8
  all : ∀ r ∈ rows, GoodGs r.1 ∧ 1 ≤ r.2 ∧ th.Perm r.1.flatten
  asc : Asc th
  nd : (rows.map (·.1)).Nodup
  tot : total rows ≤ 60
theorem le_sum_mem : ∀ {l : List Nat} {n : Nat}, n ∈ l → n ≤ l.sum
  | [], _, h => by cases h
  | a :: l, n, h => by
    rw [List.sum_cons]
    rcases List.mem_cons.mp h with z | z
    · omega
    · have := le_sum_mem z
      omega
theorem tsum_pos {rows : List Row} {g : Gs} (h : ∀ r ∈ rows, 1 ≤ r.2) (m : g ∈ rows.map (·.1)) : 1 ≤ tsum rows g := by
  obtain ⟨r, mr, e⟩ := List.mem_map.mp m
  unfold tsum
  have : r.2 ∈ (rows.filter fun q => decide (q.1 = g)).map (·.2) := List.mem_map.mpr ⟨r, List.mem_filter.mpr ⟨mr, by simpa using e⟩, rfl⟩
  have h2 := le_sum_mem this
  have := h r mr
  omega
theorem sumRows_good {rows : List Row} {th : List Str} (ne : rows ≠ []) (len : rows.length ≤ 8) (all : ∀ r ∈ rows, GoodGs r.1 ∧ 1 ≤ r.2 ∧ th.Perm r.1.flatten) (asc : Asc th) (tot : total rows ≤ 60) : GoodR (sumRows rows) th := by
  refine ⟨fun z => ?_, Nat.le_trans (sumRows_len rows) len, fun r m => ?_, asc, (sumRows_ord rows).nd, by rw [total_sumRows]; exact tot⟩
  · obtain ⟨r, rs, e⟩ := List.exists_cons_of_ne_nil ne
    have : r.1 ∈ (sumRows rows).map (·.1) := (sumRows_mem rows r.1).mpr (by rw [e]; simp)
    rw [z] at this
    simp at this
  · have m1 : r.1 ∈ rows.map (·.1) := (sumRows_mem rows r.1).mp (List.mem_map.mpr ⟨r, m, rfl⟩)
    obtain ⟨q, mq, e⟩ := List.mem_map.mp m1
    obtain ⟨a, b, c⟩ := all q mq
    rw [e] at a c
    refine ⟨a, ?_, c⟩
    have hr2 : r.2 = tsum rows r.1 := by
      unfold sumRows at m
      obtain ⟨g, mg, eg⟩ := List.mem_map.mp m
      rw [← eg]
    rw [hr2]
    exact tsum_pos (fun r m => (all r m).2.1) m1
def pairRows (rows : List Row) (p q : Str) : List Row := sumRows (rows.map fun r => (pairGs p q (rk r.1 p) (rk r.1 q), r.2))
theorem pair_flat {p q : Str} {i j : Int} : [p, q].Perm (pairGs p q i j).flatten := by
  unfold pairGs
  split
  · simp
  · split
    · simp
    · simpa using List.Perm.swap q p []
theorem pairRows_good {rows : List Row} {th : List Str} (G : GoodR rows th) {p q : Str} (h : Asc [p, q]) (mp : p ∈ th) (mq : q ∈ th) : GoodR (pairRows rows p q) [p, q] := by
  have nmOf : ∀ y ∈ th, IsName y := fun y hy => by
    obtain ⟨r, rs, e⟩ := List.exists_cons_of_ne_nil G.ne
    obtain ⟨a, _, c⟩ := G.all r (by rw [e]; simp)
    obtain ⟨g, mg, mx⟩ := List.mem_flatten.mp (c.subset hy)
    exact a.nms g mg y mx
  refine sumRows_good (by simpa using G.ne) (by rw [List.length_map]; exact G.len) (fun r m => ?_) h ?_
  · obtain ⟨r', m', e⟩ := List.mem_map.mp m
    subst e
    exact ⟨pair_good (nmOf p mp) (nmOf q mq) h, (G.all r' m').2.1, pair_flat⟩
  · have : total (rows.map fun r => (pairGs p q (rk r.1 p) (rk r.1 q), r.2)) = total rows := by
      unfold total
      rw [List.map_map]
      rfl
    rw [this]
    exact G.tot
/-! the heap -/
def PairV (K : PySem.W.Frag) (H : Hp) (v : V) (r : Row) : Prop := ∃ a x, v = .ref a ∧ H a = some (.tup [.ref x, .int r.2]) ∧ DeedV K H (.ref x) r.1
theorem PairV.same {K : PySem.W.Frag} {H G : Hp} {v : V} {r : Row} (e : Same H G) (h : PairV K H v r) : PairV K G v r := by
  obtain ⟨a, x, h1, h2, h3⟩ := h
  exact ⟨a, x, h1, e _ _ h2, h3.same e⟩
theorem pairs_same {K : PySem.W.Frag} {H G : Hp} {us : List V} {rows : List Row} (e : Same H G) (h : Paired (PairV K H) us rows) : Paired (PairV K G) us rows := paired_mono (fun v r p => p.same e) h
theorem rows_same {H G : Hp} {us : List V} {rows : List Row} (e : Same H G) (h : Paired (RowV H) us rows) : Paired (RowV G) us rows := paired_mono (fun v r p => p.same e) h
def UrnV (K : PySem.W.Frag) (H : Hp) (v : V) (rows : List Row) (th : List Str) : Prop := ∃ x dx r n us, v = .ref x ∧ H x = some (.ins (aU K) dx [("rows", .ref r), ("named", .ref n)]) ∧ H r = some (.lst us) ∧ Paired (RowV H) us rows ∧ H n = some (.tup (nm th))
theorem UrnV.same {K : PySem.W.Frag} {H G : Hp} {v : V} {rows : List Row} {th : List Str} (e : Same H G) (h : UrnV K H v rows th) : UrnV K G v rows th := by
  obtain ⟨x, dx, r, n, us, h1, h2, h3, h4, h5⟩ := h
  exact ⟨x, dx, r, n, us, h1, e _ _ h2, e _ _ h3, rows_same e h4, e _ _ h5⟩
/-- what is laid outside a list that is written stays -/
theorem deedV_upd {K : PySem.W.Frag} {G : Hp} {D : Addr} {xs ys : List V} {v : V} {gs : Gs} (hf : G D = some (.lst xs)) (h : DeedV K G v gs) : DeedV K (upd G D (.lst ys)) v gs := by
  obtain ⟨x, dx, a, r, kvs, h1, h2, h3, h4, h5⟩ := h
  exact ⟨x, dx, a, r, kvs, h1, by rw [upd_ne (ne_of h2 hf (fun z => by cases z))]; exact h2, grpV_upd hf (fun _ z => by cases z) h3, by rw [upd_ne (ne_of h4 hf (fun z => by cases z))]; exact h4, h5⟩
theorem pairV_upd {K : PySem.W.Frag} {G : Hp} {D : Addr} {xs ys : List V} {v : V} {r : Row} (hf : G D = some (.lst xs)) (h : PairV K G v r) : PairV K (upd G D (.lst ys)) v r := by
  obtain ⟨a, x, h1, h2, h3⟩ := h
  exact ⟨a, x, h1, by rw [upd_ne (ne_of h2 hf (fun z => by cases z))]; exact h2, deedV_upd hf h3⟩
theorem tupS_but {x : Addr} {H G : Hp} {u : HO} {v : V} {g : List Str} (e : But x H G) (hx : H x = some u) (hu : ∀ xs, u ≠ .tup xs) (h : TupS H v g) : TupS G v g := by
  obtain ⟨b, rfl, hb⟩ := h
  exact ⟨b, rfl, e _ _ (ne_of hb hx (fun z => hu _ z.symm)) hb⟩
theorem grpV_but {x : Addr} {H G : Hp} {u : HO} {v : V} {gs : Gs} (e : But x H G) (hx : H x = some u) (hu : ∀ xs, u ≠ .tup xs) (h : GrpV H v gs) : GrpV G v gs := by
  obtain ⟨a, vs, rfl, ha, hp⟩ := h
  exact ⟨a, vs, rfl, e _ _ (ne_of ha hx (fun z => hu _ z.symm)) ha, paired_mono (fun v g tv => tupS_but e hx hu tv) hp⟩
theorem rowV_but {x : Addr} {H G : Hp} {u : HO} {v : V} {r : Row} (e : But x H G) (hx : H x = some u) (hu : ∀ xs, u ≠ .tup xs) (h : RowV H v r) : RowV G v r := by
  obtain ⟨a, g, rfl, ha, hg⟩ := h
  exact ⟨a, g, rfl, e _ _ (ne_of ha hx (fun z => hu _ z.symm)) ha, grpV_but e hx hu hg⟩
theorem deedV_but {K : PySem.W.Frag} {x : Addr} {H G : Hp} {u : HO} {v : V} {gs : Gs} (e : But x H G) (hx : H x = some u) (hu : ∀ xs, u ≠ .tup xs) (hd : ∀ kvs, u ≠ .dK kvs) (hi : ∀ C dx a b, u ≠ .ins C dx [a, b]) (h : DeedV K H v gs) : DeedV K G v gs := by
  obtain ⟨y, dx, a, r, kvs, h1, h2, h3, h4, h5⟩ := h
  exact ⟨y, dx, a, r, kvs, h1, e _ _ (ne_of h2 hx (fun z => hi _ _ _ _ z.symm)) h2, grpV_but e hx hu h3, e _ _ (ne_of h4 hx (fun z => hd _ z.symm)) h4, h5⟩
theorem pairV_but {K : PySem.W.Frag} {x : Addr} {H G : Hp} {u : HO} {v : V} {r : Row} (e : But x H G) (hx : H x = some u) (hu : ∀ xs, u ≠ .tup xs) (hd : ∀ kvs, u ≠ .dK kvs) (hi : ∀ C dx a b, u ≠ .ins C dx [a, b]) (h : PairV K H v r) : PairV K G v r := by
  obtain ⟨a, y, h1, h2, h3⟩ := h
  exact ⟨a, y, h1, e _ _ (ne_of h2 hx (fun z => hu _ z.symm)) h2, deedV_but e hx hu hd hi h3⟩
theorem cutV_take {us : List V} {i : Nat} : cutV us none (some (i : Int)) = us.take i := by
  unfold cutV
  rw [HT.sIx_none, HT.sIx_nat]
  simp
theorem not_whole {us : List V} {i : Nat} (h : i < us.length) : ¬ (HT.sIx us.length 0 none = 0 ∧ HT.sIx us.length us.length (some (i : Int)) = us.length) := by
  rw [HT.sIx_none, HT.sIx_nat]
  omega
theorem lay_tS {g : List Str} (h : ∀ x ∈ g, IsName x) : SeqAt.shaped (tS g) = true := by
  have hd : (tS g).depth ≤ 2 := by
    unfold tS
    rw [PyData.depth, strs_dep]
    omega
  show ((tS g).canLay0 && decide ((tS g).depth ≤ 64)) = true
  rw [Bool.and_eq_true]
  refine ⟨?_, decide_eq_true (by omega)⟩
  unfold tS
  rw [PyData.canLay0]
  exact lay_strs g h
theorem tup_dp {K : PySem.W.Frag} {H : Hp} {a : Addr} {g : List Str} (h : H a = some (.tup (nm g))) : Dp K H (.ref a) (tS g) := TupS.dp ⟨a, rfl, h⟩
abbrev s_is_ticketed : Stmt := top 68
abbrev N_is_ticketed : List Str := ["value"]
theorem sc_is_ticketed : FnScope N_is_ticketed ["value"] (defScope s_is_ticketed) := ⟨rfl, rfl, rfl, by decide +kernel, rfl, by decide +kernel, by decide +kernel⟩
abbrev s_wrong_ticket : Stmt := top 69
abbrev N_wrong_ticket : List Str := ["pairs", "k", "pair", "other"]
theorem sc_wrong_ticket : FnScope N_wrong_ticket ["pairs"] (defScope s_wrong_ticket) := ⟨rfl, rfl, rfl, by decide +kernel, rfl, by decide +kernel, by decide +kernel⟩
abbrev s_Urn_init : Stmt := inClass (top 71) 0
abbrev N_Urn_init : List Str := ["self", "pairs", "wrong", "total", "deed", "tickets"]
theorem sc_Urn_init : FnScope N_Urn_init ["self", "pairs"] (defScope s_Urn_init) := ⟨rfl, rfl, rfl, by decide +kernel, rfl, by decide +kernel, by decide +kernel⟩
abbrev s_Urn_read : Stmt := inClass (top 71) 1
abbrev N_Urn_read : List Str := ["cls", "text", "urn"]
theorem sc_Urn_read : FnScope N_Urn_read ["cls", "text"] (defScope s_Urn_read) := ⟨rfl, rfl, rfl, by decide +kernel, rfl, by decide +kernel, by decide +kernel⟩
abbrev s_Urn_pairs : Stmt := inClass (top 71) 2
abbrev N_Urn_pairs : List Str := ["self", "groups", "tickets"]
theorem sc_Urn_pairs : FnScope N_Urn_pairs ["self"] (defScope s_Urn_pairs) := ⟨rfl, rfl, rfl, by decide +kernel, rfl, by decide +kernel, by decide +kernel⟩
abbrev s_Urn_things : Stmt := inClass (top 71) 3
abbrev N_Urn_things : List Str := ["self"]
theorem sc_Urn_things : FnScope N_Urn_things ["self"] (defScope s_Urn_things) := ⟨rfl, rfl, rfl, by decide +kernel, rfl, by decide +kernel, by decide +kernel⟩
abbrev s_Urn_only : Stmt := inClass (top 71) 5
abbrev N_Urn_only : List Str := ["self", "things", "deed", "tickets"]
theorem sc_Urn_only : FnScope N_Urn_only ["self", "things"] (defScope s_Urn_only) := ⟨rfl, rfl, rfl, by decide +kernel, rfl, by decide +kernel, by decide +kernel⟩
abbrev s_urn_of_rows : Stmt := top 72
abbrev N_urn_of_rows : List Str := ["rows", "groups", "tickets"]
theorem sc_urn_of_rows : FnScope N_urn_of_rows ["rows"] (defScope s_urn_of_rows) := ⟨rfl, rfl, rfl, by decide +kernel, rfl, by decide +kernel, by decide +kernel⟩
abbrev s_check_urn : Stmt := top 73
abbrev N_check_urn : List Str := ["urn"]
theorem sc_check_urn : FnScope N_check_urn ["urn"] (defScope s_check_urn) := ⟨rfl, rfl, rfl, by decide +kernel, rfl, by decide +kernel, by decide +kernel⟩
abbrev s_pair_with : Stmt := top 74
abbrev N_pair_with : List Str := ["text", "head", "mark", "rest", "tickets", "deed"]
theorem sc_pair_with : FnScope N_pair_with ["text"] (defScope s_pair_with) := ⟨rfl, rfl, rfl, by decide +kernel, rfl, by decide +kernel, by decide +kernel⟩
abbrev s_urn_with : Stmt := top 75
abbrev N_urn_with : List Str := ["text", "pairs", "groups", "piece", "deed", "tickets"]
theorem sc_urn_with : FnScope N_urn_with ["text"] (defScope s_urn_with) := ⟨rfl, rfl, rfl, by decide +kernel, rfl, by decide +kernel, by decide +kernel⟩
def sp_is_ticketed (K : PySem.W.Frag) : Sp := fun vs H Q _ => ∃ a r, vs = [.ref a] ∧ PairV K H (.ref a) r ∧ 1 ≤ r.2 ∧ Q (.bl true) H
def sp_wrong_ticket (K : PySem.W.Frag) : Sp := fun vs H Q _ => ∃ a us rows th, vs = [.ref a] ∧ H a = some (.tup us) ∧ Paired (PairV K H) us rows ∧ GoodR rows th ∧ ∀ H', Same H H' → Q (.int (-1)) H'
def sp_Urn_init (K : PySem.W.Frag) : Sp := fun vs H Q _ => ∃ x dx a us rows th, vs = [.ref x, .ref a] ∧ H x = some (.ins (aU K) dx []) ∧ H a = some (.tup us) ∧ Paired (PairV K H) us rows ∧ GoodR rows th ∧
  ∀ r n us' H', But x H H' → H' x = some (.ins (aU K) dx [("rows", .ref r), ("named", .ref n)]) → H' r = some (.lst us') → Paired (RowV H') us' (sumRows rows) → H' n = some (.tup (nm th)) → Q .non H'
def sp_Urn_pairs (K : PySem.W.Frag) : Sp := fun vs H Q _ => ∃ x rows th, vs = [.ref x] ∧ UrnV K H (.ref x) rows th ∧ GoodR rows th ∧ ∀ p us H', Same H H' → H' p = some (.tup us) → Paired (PairV K H') us rows → Q (.ref p) H'
def sp_Urn_things (K : PySem.W.Frag) : Sp := fun vs H Q _ => ∃ x rows th, vs = [.ref x] ∧ UrnV K H (.ref x) rows th ∧ ∀ n, H n = some (.tup (nm th)) → Q (.ref n) H
def sp_Urn_only (K : PySem.W.Frag) : Sp := fun vs H Q _ => ∃ x a rows th p q, vs = [.ref x, .ref a] ∧ UrnV K H (.ref x) rows th ∧ GoodR rows th ∧ H a = some (.tup (nm [p, q])) ∧ Asc [p, q] ∧ p ∈ th ∧ q ∈ th ∧
  ∀ y H', Same H H' → UrnV K H' (.ref y) (pairRows rows p q) [p, q] → Q (.ref y) H'
def sp_urn_of_rows (K : PySem.W.Frag) : Sp := fun vs H Q _ => ∃ l us rows th, vs = [.ref l] ∧ H l = some (.lst us) ∧ Paired (RowV H) us rows ∧ GoodR rows th ∧ ∀ y H', Same H H' → UrnV K H' (.ref y) (sumRows rows) th → Q (.ref y) H'
def sp_check_urn (K : PySem.W.Frag) : Sp := fun vs H Q _ => ∃ x rows th, vs = [.ref x] ∧ UrnV K H (.ref x) rows th ∧ Q .non H
def sp_pair_with (K : PySem.W.Frag) : Sp := fun vs H Q _ => ∃ r, vs = [.str (rowTxt r)] ∧ GoodGs r.1 ∧ 1 ≤ r.2 ∧ r.2 ≤ 9 ∧ ∀ a H', Same H H' → PairV K H' (.ref a) r → Q (.ref a) H'
def sp_urn_with (K : PySem.W.Frag) : Sp := fun vs H Q _ => ∃ rows th, vs = [.str (urnTxt rows)] ∧ GoodR rows th ∧ Ord rows ∧ (∀ r ∈ rows, r.2 ≤ 9) ∧ ∀ y H', Same H H' → UrnV K H' (.ref y) rows th → Q (.ref y) H'
def sp_Urn_read (K : PySem.W.Frag) : Sp := fun vs H Q _ => ∃ c rows th, vs = [c, .str (urnTxt rows)] ∧ GoodR rows th ∧ Ord rows ∧ (∀ r ∈ rows, r.2 ≤ 9) ∧ ∀ y H', Same H H' → UrnV K H' (.ref y) rows th → Q (.ref y) H'
section
variable {P : Program} {w : World} {K : PySem.W.Frag} {mg : Str → Option Value} {base : Heap}
theorem ins_ty {C : Addr} (c : C8.InsC K C) {H : Hp} {x dx : Addr} {fs : List (Str × V)} (h : H x = some (.ins C dx fs)) : TyX K H (.ref x) (.ref C) := .base (.ins h c.cl c.ha c.hn c.htk c.hm)
theorem cl_is_ticketed (T : Tops K mg) : Cl P w K mg base 3 "is_ticketed" ["value"] (sp_is_ticketed K) := by
  refine .of T.f_is_ticketed sc_is_ticketed (fun _ _ _ _ _ _ us hl => match us, hl with | [_], _ => rfl) (fun vs H Q E h => ?_) fun f cdv A outer s H vs Q E hr h => ?_
  · obtain ⟨_, _, rfl, _⟩ := h; rfl
  obtain ⟨a, r, rfl, ⟨a', x, ea, ha, x', dx, g, rr, kvs, ex, hx, _⟩, h1, q⟩ := h
  cases ea
  cases ex
  refine ⟨_, (pss_cons (ps_if (PW.pt (pw_or (pt_not (pt_val (pe_callB (call_isiK' (K := K) rfl) (by rfl) (T.nn "isinstance") rfl (pa_cons (pv 0) (pa_cons (pe_bltn (v := .ty "tuple") (by rfl) (T.nn "tuple") rfl rfl) pa_nil))))) (pw_or (pt_cmpR op_ne (pe_callB (call_len_seqK (K := K) rfl) (by rfl) (T.nn "len") rfl (pa_cons (pv 0) pa_nil)) pe_int (nomark _)) (pw_or1 (pt_not (pt_val (pe_callB (call_isiK' (K := K) rfl) (by rfl) (T.nn "isinstance") rfl (pa_cons (pe_ix (ix_tupK (K := K) rfl) (pv 0) pe_int (fun _ _ => rfl)) (pa_cons (pe_glob (by rfl) T.oD.mgc (show RelV (.ref _) (.ref _) from rfl)) pa_nil)))))))))
       (pss_one (ps_ret pe_bl))
       pss_nil)
      (pss_one (ps_ret (pe_and (pe_cl (cl_is_natural T) hr (by decide) rfl (pa_cons (pe_ix (ix_tupK (K := K) rfl) (pv 0) pe_int (fun _ _ => rfl)) pa_nil)) (pe_one (pe_cmpR op_gt (pe_ix (ix_tupK (K := K) rfl) (pv 0) pe_int (fun _ _ => rfl)) pe_int (nomark _))))))) , ?_⟩
  refine ⟨_, rfl, _, _, _, _, true, rfl, .ty "tuple", rd_tuple (.of ha), kit_tup, true, rfl, iteF ?_⟩
  refine ⟨_, rfl, a, _, rfl, .inr (.of ha), rfl, false, blN rfl, iteF ?_⟩
  refine ⟨_, rfl, a, _, _, .ref x, rfl, rfl, .of ha, rfl, _, _, _, _, true, rfl, .own _, ins_ty T.oD.ins hx, T.oD.ins.me, true, rfl, iteF ?_⟩
  refine ⟨_, rfl, a, _, _, .int r.2, rfl, rfl, .of ha, rfl, r.2, rfl, true, blT (by omega), iteT ?_⟩
  refine ⟨_, rfl, a, _, _, .int r.2, rfl, rfl, .of ha, rfl, r.2, 0, rfl, rfl, ?_⟩
  show Q (.bl (decide ((0 : Int) < r.2))) H
  rw [decide_eq_true (show (0 : Int) < r.2 by omega)]
  exact q
theorem GoodR.things {rows : List Row} {th : List Str} (G : GoodR rows th) {r : Row} (m : r ∈ rows) {ys : List Str} (p : ys.Perm r.1.flatten) (a : Asc ys) : ys = th := asc_uniq a G.asc (p.trans (G.all r m).2.2.symm)
theorem GoodR.names {rows : List Row} {th : List Str} (G : GoodR rows th) : ∀ x ∈ th, IsName x := fun y hy => by
  obtain ⟨r, rs, e⟩ := List.exists_cons_of_ne_nil G.ne
  obtain ⟨a, _, c⟩ := G.all r (by rw [e]; simp)
  obtain ⟨g, mg, mx⟩ := List.mem_flatten.mp (c.subset hy)
  exact a.nms g mg y mx
theorem cl_wrong_ticket (T : Tops K mg) : Cl P w K mg base 4 "wrong_ticket" ["pairs"] (sp_wrong_ticket K) := by
  refine .of T.f_wrong_ticket sc_wrong_ticket (fun _ _ _ _ _ _ us hl => match us, hl with | [_], _ => rfl) (fun vs H Q E h => ?_) fun f cdv A outer s H vs Q E hr h => ?_
  · obtain ⟨_, _, _, _, rfl, _⟩ := h; rfl
  obtain ⟨a, us, rows, th, rfl, ha, hp, G, q⟩ := h
  refine ⟨_, (pss_cons (ps_if (PW.pt (pw_or (pt_not (pt_val (pe_callB (call_isiK' (K := K) rfl) (by rfl) (T.nn "isinstance") rfl (pa_cons (pv 0) (pa_cons (pe_bltn (v := .ty "tuple") (by rfl) (T.nn "tuple") rfl rfl) pa_nil))))) (pw_or1 (pt_cmpR op_eq (pe_callB (call_len_seqK (K := K) rfl) (by rfl) (T.nn "len") rfl (pa_cons (pv 0) pa_nil)) pe_int (nomark _)))))
       (pss_one (ps_ret pe_non))
       pss_nil)
      (pss_cons (ps_for PassesOwn.never rfl (pi_enumTK (K := K) rfl (by rfl) (T.nn "enumerate") (pa_cons (pv 0) pa_nil)) (pg_tupK (K := K) (n := 2) rfl rfl (pgs_cons (pg_name (i := 1) sc_wrong_ticket.nd rfl (Or.inl rfl)) (pgs_cons (pg_name (i := 2) sc_wrong_ticket.nd rfl (Or.inr rfl)) pgs_nil)))
       (pss_cons (ps_if (PW.pt (pw_or (pt_not (pt_val (pe_cl (cl_is_ticketed T) hr (by decide) rfl (pa_cons (pv 2) pa_nil)))) (pw_or (pt_cmpR (op_neDK (K := K) rfl (hu64 hr)) (pe_pr (pr_Dt T) hr (by decide) (pe_ix (ix_tupK (K := K) rfl) (pv 2) pe_int (fun _ _ => rfl)) rfl) (pe_pr (pr_Dt T) hr (by decide) (pe_ix (ix_tupK (K := K) rfl) (pe_ix (ix_tupK (K := K) rfl) (pv 0) pe_int (fun _ _ => rfl)) pe_int (fun _ _ => rfl)) rfl) (nomark _)) (pw_or1 (pt_cmpR op_eq (pv 1) (C8.pe_gc rfl T.cMOST_DEEDS) (nomark _))))))
       (pss_one (ps_ret (pv 1)))
       pss_nil)
      (pss_one (ps_if (pt_val (pe_callB (cr_anyK (K := K) rfl rfl) (by rfl) (T.nn "any") rfl (pa_cons (pe_lc (own := [("other", 3)]) (by rfl) sc_wrong_ticket.nd (pi_tupK (K := K) rfl (pe_slice (sl_tupK (K := K) rfl) (pv 0) po_none (po_some (pv 1)))) (blkOk_by (own := [("other", 3)]) (N := N_wrong_ticket) (sc := defScope s_wrong_ticket) (by decide +kernel)) (fun _ _ _ _ _ => (pg_name (i := 3) sc_wrong_ticket.nd rfl (Or.inl rfl))) (fun _ _ _ _ _ => pts_nil) (fun _ _ _ _ _ => (pe_cmpR (op_eqDK (K := K) rfl (hu64 hr)) (pe_pr (pr_Dg T) hr (by decide) (pe_ix (ix_tupK (K := K) rfl) (pv 2) pe_int (fun _ _ => rfl)) rfl) (pe_pr (pr_Dg T) hr (by decide) (pe_ix (ix_tupK (K := K) rfl) (pv 3) pe_int (fun _ _ => rfl)) rfl) (nomark _)))) pa_nil)))
       (pss_one (ps_ret (pv 1)))
       pss_nil))))
      (pss_one (ps_ret (pe_un un_neg pe_int))))) , ?_⟩
  have hlen := paired_len hp
  have hl0 : us.length ≠ 0 := fun z => G.ne (List.length_eq_zero_iff.mp (hlen.symm.trans z))
  refine ⟨_, rfl, _, _, _, _, true, rfl, .ty "tuple", rd_tuple (.of ha), kit_tup, true, rfl, iteF ?_⟩
  refine ⟨_, rfl, a, _, rfl, .inr (.of ha), rfl, false, blF (fun z => hl0 (by injection z with z; omega)), iteF ?_⟩
  refine ⟨_, rfl, a, _, rfl, .of ha, ?_⟩
  have h0 : us[0]? = some us[0] := List.getElem?_eq_getElem (by omega)
  obtain ⟨r0, hr0, b0, x0, eb0, hb0, hd0⟩ := paired_at hp h0
  have m0 := List.mem_of_getElem? hr0
  refine for_enumT (xs := us) (fun i σ' H' => (∃ u v z, σ' = [some (.ref a), u, v, z]) ∧ Same H H') ⟨⟨_, _, _, rfl⟩, .refl _⟩ (fun i σ' H' _ p => .of (p.2 _ _ ha)) (fun i x σ' H' T' hx hh hT => ?_) fun σ' H' hh => ?_
  · obtain ⟨⟨u, v, z, rfl⟩, e⟩ := hh
    obtain ⟨r, hr1, b, y, rfl, hb, hd⟩ := paired_at hp hx
    have mr := List.mem_of_getElem? hr1
    have hi : i < rows.length := (List.getElem?_eq_some_iff.mp hr1).1
    have hi8 := G.len
    have e1 : Same H (upd H' T' (.tup [.int (i : Nat), .ref b])) := e.trans (same_new hT)
    obtain ⟨Gr, h1r, pr⟩ := G.all r mr
    obtain ⟨G0, _, p0⟩ := G.all r0 m0
    refine ⟨T', _, rfl, .of upd_same, rfl, _, _, rfl, _, _, rfl, rfl, ?_⟩
    refine ⟨_, rfl, b, r, rfl, PairV.same e1 ⟨b, y, rfl, hb, hd⟩, h1r, true, rfl, iteF ?_⟩
    obtain ⟨y', dx, ga, rr, kvs, ey, hy, _⟩ := id hd
    cases ey
    obtain ⟨x0', dx0, ga0, rr0, kvs0, ex0, hx0, _⟩ := id hd0
    cases ex0
    refine ⟨_, rfl, b, _, _, .ref y, rfl, rfl, .of (e1 _ _ hb), rfl, y, dx, _, rfl, e1 _ _ hy, y, r.1, rfl, hd.same e1, Gr.nd, Gr.le, fun t1 ys1 H1 e2 ht1 py1 ay1 => ?_⟩
    have e12 := e1.trans e2
    refine ⟨_, rfl, a, _, _, us[0], rfl, rfl, .of (e12 _ _ ha), atI_nat h0, b0, _, _, .ref x0, eb0, rfl, .of (e12 _ _ hb0), rfl, x0, dx0, _, rfl, e12 _ _ hx0, x0, r0.1, rfl, hd0.same e12, G0.nd, G0.le, fun t2 ys2 H2 e3 ht2 py2 ay2 => ?_⟩
    have z1 := G.things mr py1 ay1
    have z2 := G.things m0 py2 ay2
    rw [z1] at ht1
    rw [z2] at ht2
    have e13 := e12.trans e3
    refine ⟨tS th, tS th, tup_dp (e3 _ _ ht1), tup_dp ht2, lay_tS G.names, lay_tS G.names, false, ?_, iteF ?_⟩
    · rw [eqv_tS, decide_eq_true rfl]; rfl
    refine ⟨_, rfl, rfl, false, blF (fun z => by injection z with z; omega), iteF ?_⟩
    refine ⟨_, rfl, _, rfl, (i : Int), rfl, a, us, rfl, .of (e13 _ _ ha), not_whole (by omega), fun p3 np3 => ⟨p3, rfl, ⟨_, .of upd_same⟩, fun D hD => ?_⟩⟩
    have e14 : Same H (upd H2 p3 (.tup (cutV us none (some (i : Int))))) := e13.trans (same_new np3)
    refine lcT (fun i acc _ => acc = List.replicate i (V.bl false)) (xs := us.take i) (.of (by rw [upd_same, cutV_take])) hD rfl (fun j x H3 acc hxj e4 hD1 hl hacc => ?_) fun H3 acc e4 hD1 hl hacc => ?_
    · have hj : j < i := by
        have := (List.getElem?_eq_some_iff.mp hxj).1
        rw [List.length_take] at this
        omega
      rw [List.getElem?_take_of_lt hj] at hxj
      obtain ⟨rj, hrj, bj, yj, rfl, hbj, hdj⟩ := paired_at hp hxj
      have mj := List.mem_of_getElem? hrj
      have e15 := e14.trans e4
      obtain ⟨yj', dxj, gaj, rrj, kvsj, eyj, hyj, _⟩ := id hdj
      cases eyj
      refine ⟨rfl, tYesI ⟨_, rfl, b, _, _, .ref y, rfl, rfl, .of (e15 _ _ hb), rfl, y, dx, _, rfl, e15 _ _ hy, y, r.1, rfl, hd.same e15, fun g1 hg1 => ?_⟩⟩
      refine ⟨_, rfl, bj, _, _, .ref yj, rfl, rfl, .of (e15 _ _ hbj), rfl, yj, dxj, _, rfl, e15 _ _ hyj, yj, rj.1, rfl, hdj.same e15, fun g2 hg2 => ?_⟩
      refine ⟨gD r.1, gD rj.1, hg1.dp, hg2.dp, shaped_gD Gr.nms, shaped_gD (G.all rj mj).1.nms, ?_⟩
      rw [eqv_gD]
      have hne : ¬ r.1 = rj.1 := fun z => by
        have n1 : (rows.map (·.1))[i]? = some r.1 := by rw [List.getElem?_map, hr1]; rfl
        have n2 : (rows.map (·.1))[j]? = some rj.1 := by rw [List.getElem?_map, hrj]; rfl
        have hil : i < (rows.map (·.1)).length := by rw [List.length_map]; exact hi
        have k := List.pairwise_iff_getElem.mp G.nd j i (by omega) hil hj
        rw [List.getElem?_eq_getElem hil] at n1
        rw [List.getElem?_eq_getElem (by omega)] at n2
        exact k (by rw [Option.some.inj n2, Option.some.inj n1, z])
      rw [decide_eq_false hne]
      exact lc_put hD e4 (.refl _) hD1 hl (by omega) (by rw [hacc, rep_snoc])
    · refine ⟨D, List.replicate (us.take i).length false, rfl, .of (by rw [hD1, hacc, rep_map]), false, by simp, iteF ?_⟩
      exact ⟨⟨_, _, _, rfl⟩, e14.trans e4⟩
  · exact ⟨_, rfl, q _ hh.2⟩
theorem cl_check_urn (T : Tops K mg) : Cl P w K mg base 1 "check_urn" ["urn"] (sp_check_urn K) := by
  refine .of T.f_check_urn sc_check_urn (fun _ _ _ _ _ _ us hl => match us, hl with | [_], _ => rfl) (fun vs H Q E h => ?_) fun f cdv A outer s H vs Q E hr h => ?_
  · obtain ⟨_, _, _, rfl, _⟩ := h; rfl
  obtain ⟨x, rows, th, rfl, ⟨x', dx, r, n, us, ex, hx, _⟩, q⟩ := h
  cases ex
  refine ⟨_, (pss_one (ps_if (pt_not (pt_val (pe_callB (call_isiK' (K := K) rfl) (by rfl) (T.nn "isinstance") rfl (pa_cons (pv 0) (pa_cons (pe_glob (by rfl) T.oU.mgc (show RelV (.ref _) (.ref _) from rfl)) pa_nil)))))
       (pss_one ps_never)
       pss_nil)) , ?_⟩
  exact ⟨_, rfl, _, _, _, _, true, rfl, .own _, ins_ty T.oU.ins hx, T.oU.ins.me, true, rfl, iteF q⟩
theorem pr_Ut (T : Tops K mg) : Pr P w K mg base 1 (aU K) "things" (sp_Urn_things K) := by
  refine .of T.oU.ins.cl T.pUt sc_Urn_things (fun _ _ _ _ _ _ us hl => match us, hl with | [_], _ => rfl) (fun vs H Q E h => ?_) fun f cdv A outer s H vs Q E hr h => ?_
  · obtain ⟨_, _, _, rfl, _⟩ := h; rfl
  obtain ⟨x, rows, th, rfl, ⟨x', dx, r, n, us, ex, hx, _, _, hn⟩, q⟩ := h
  cases ex
  refine ⟨_, (pss_one (ps_ret (pe_fldK (K := K) rfl (pv 0) rfl))) , ?_⟩
  exact ⟨_, rfl, x, _, dx, _, .ref n, rfl, hx, T.oU.ins.cl, T.nU2, rfl, q n hn⟩
end
end SD
end
section
set_option Elab.async false
set_option linter.all false
set_option maxRecDepth 100000
set_option maxHeartbeats 4000000
/-! ### urns made and read -/
namespace SD
open PySem PySem.Spec PyProof.Rows L2
theorem sum_ints : ∀ rows : List Row, (rows.map fun r => (r.2 : Int)).sum = ((total rows : Nat) : Int)
  | [] => rfl
  | r :: rows => by
    have ih := sum_ints rows
    unfold total at ih ⊢
    rw [List.map_cons, List.map_cons, List.sum_cons, List.sum_cons, ih]
    omega
section
variable {P : Program} {w : World} {K : PySem.W.Frag} {mg : Str → Option Value} {base : Heap}
theorem mkDeed2 {H1 : Hp} {a x dx : Addr} {gs : Gs} {Z : VK} (hg : GrpV H1 (.ref a) gs) (G : GoodGs gs) (n1 : H1 x = none) (n2 : H1 dx = none) (q : ∀ H', Same H1 H' → DeedV K H' (.ref x) gs → Z .non H') :
    sp_Deed_init K (.ref x :: ([.ref a] ++ [])) (upd (upd H1 dx (.own x)) x (.ins (aD K) dx [])) Z E0 := by
  have s1 : Same H1 (upd (upd H1 dx (.own x)) x (.ins (aD K) dx [])) := fun b o h => by rw [upd_ne (ne_of_none h n1), upd_ne (ne_of_none h n2)]; exact h
  refine ⟨x, dx, a, gs, rfl, upd_same, hg.same s1, G, fun r kvs H' hb hx hr hk => ?_⟩
  have s2 : Same H1 H' := Same.made n1 n2 fun b o h n => hb b o n h
  exact q H' s2 ⟨x, dx, a, r, kvs, rfl, hx, hg.same s2, hr, hk⟩
theorem ml_Urn (T : Tops K mg) : Ml P w K mg base 5 "Urn" (aU K) ["self", "pairs"] (sp_Urn_init K) [] := by
  obtain ⟨f, fd, M, F⟩ := T.iU.ex
  refine ⟨f, fd, [], M, T.oU.mgc, ?_, FunD.bindsN F (fun _ _ _ _ _ _ us hl => match us, hl with | [_, _], _ => rfl), .nil⟩
  refine F.ok sc_Urn_init (fun vs H Q E h => ?_) fun cdv A outer s H vs Q E hr h => ?_
  · obtain ⟨_, _, _, _, _, _, rfl, _⟩ := h; rfl
  obtain ⟨x, dx, a, us, rows, th, rfl, hx, ha, hp, G, q⟩ := h
  refine ⟨_, PSs.nox ((pss_cons (ps_set (i := 2) sc_Urn_init.nd rfl (Or.inl rfl) (pe_cl (cl_wrong_ticket T) hr (by decide) rfl (pa_cons (pv 1) pa_nil)))
      (pss_cons (ps_if (pt_cmpR op_ne (pv 2) (pe_un un_neg pe_int) (nomark _))
       (pss_one ps_never)
       pss_nil)
      (pss_cons (ps_set (i := 3) sc_Urn_init.nd rfl (Or.inl rfl) (pe_callB (cr_sumK (K := K) rfl rfl) (by rfl) (T.nn "sum") rfl (pa_cons (pe_lc (own := [("deed", 4), ("tickets", 5)]) (by rfl) sc_Urn_init.nd (pi_tupK (K := K) rfl (pv 1)) (blkOk_by (own := [("deed", 4), ("tickets", 5)]) (N := N_Urn_init) (sc := defScope s_Urn_init) (by decide +kernel)) (fun _ _ _ _ _ => (pg_tupK (K := K) (n := 2) rfl rfl (pgs_cons (pg_name (i := 4) sc_Urn_init.nd rfl (Or.inl rfl)) (pgs_cons (pg_name (i := 5) sc_Urn_init.nd rfl (Or.inl rfl)) pgs_nil)))) (fun _ _ _ _ _ => pts_nil) (fun _ _ _ _ _ => (pv 5))) pa_nil)))
      (pss_cons (ps_if (pt_cmpR op_gt (pv 3) (C8.pe_gc rfl T.cMOST_TICKETS) (nomark _))
       (pss_one ps_never)
       pss_nil)
      (pss_cons (ps_fld (pv 0) (pe_cl (cl_summed T) hr (by decide) rfl (pa_cons (pe_lc (own := [("deed", 4), ("tickets", 5)]) (by rfl) sc_Urn_init.nd (pi_tupK (K := K) rfl (pv 1)) (blkOk_by (own := [("deed", 4), ("tickets", 5)]) (N := N_Urn_init) (sc := defScope s_Urn_init) (by decide +kernel)) (fun _ _ _ _ _ => (pg_tupK (K := K) (n := 2) rfl rfl (pgs_cons (pg_name (i := 4) sc_Urn_init.nd rfl (Or.inl rfl)) (pgs_cons (pg_name (i := 5) sc_Urn_init.nd rfl (Or.inl rfl)) pgs_nil)))) (fun _ _ _ _ _ => pts_nil) (fun _ _ _ _ _ => (pe_tup (pa_cons (pe_pr (pr_Dg T) hr (by decide) (pv 4) rfl) (pa_cons (pv 5) pa_nil))))) pa_nil)) rfl)
      (pss_one (ps_fld (pv 0) (pe_pr (pr_Dt T) hr (by decide) (pe_ix (ix_tupK (K := K) rfl) (pe_ix (ix_tupK (K := K) rfl) (pv 1) pe_int (fun _ _ => rfl)) pe_int (fun _ _ => rfl)) rfl) rfl))))))) ), ?_⟩
  have hlen := paired_len hp
  have hl8 := G.len
  have hl0 : us.length ≠ 0 := fun z => G.ne (List.length_eq_zero_iff.mp (hlen.symm.trans z))
  refine ⟨_, rfl, a, us, rows, th, rfl, ha, hp, G, fun H1 e1 => ?_⟩
  refine ⟨_, rfl, _, rfl, rfl, false, blN rfl, iteF ?_⟩
  refine ⟨_, rfl, a, rfl, ⟨_, .of (e1 _ _ ha)⟩, fun D hD => ?_⟩
  refine lcT (fun i acc _ => acc = (rows.take i).map fun r => V.int r.2) (xs := us) (.of (e1 _ _ ha)) hD rfl (fun i v H2 acc hv e2 hD1 hl hacc => ?_) fun H2 acc e2 hD1 hl hacc => ?_
  · obtain ⟨r, hr1, b, y, rfl, hb, hd⟩ := paired_at hp hv
    have hi : i < rows.length := (List.getElem?_eq_some_iff.mp hr1).1
    refine ⟨b, _, rfl, .of (e2 _ _ (e1 _ _ hb)), rfl, _, _, rfl, _, _, rfl, rfl, rfl, tYesI ⟨_, rfl, lc_put hD e2 (.refl _) hD1 hl (by omega) ?_⟩⟩
    rw [hacc, take_succ_map hr1]
  rw [hlen, List.take_length] at hacc
  refine ⟨D, rows.map fun r => (r.2 : Int), rfl, .of (by rw [hD1, hacc, List.map_map]; rfl), ?_⟩
  rw [sum_ints]
  have htot := G.tot
  refine ⟨_, rfl, _, 60, rfl, rfl, false, blF (by omega), iteF ?_⟩
  have e12 := e1.trans e2
  refine ⟨_, rfl, a, rfl, ⟨_, .of (e12 _ _ ha)⟩, fun D2 hD2 => ?_⟩
  refine lcT (fun i acc G' => Paired (RowV G') acc (rows.take i)) (xs := us) (.of (e12 _ _ ha)) hD2 .nil (fun i v H3 acc hv e3 hD3 hl hacc => ?_) fun H3 acc e3 hD3 hl hacc => ?_
  · obtain ⟨r, hr1, b, y, rfl, hb, hd⟩ := paired_at hp hv
    have hi : i < rows.length := (List.getElem?_eq_some_iff.mp hr1).1
    have e13 := e12.trans e3
    obtain ⟨y', dy, ga, rr, kvs, ey, hy, _⟩ := id hd
    cases ey
    refine ⟨b, _, rfl, .of (e13 _ _ hb), rfl, _, _, rfl, _, _, rfl, rfl, rfl, tYesI ⟨_, rfl, y, dy, _, rfl, e13 _ _ hy, y, r.1, rfl, hd.same e13, fun g1 hg1 => ?_⟩⟩
    refine ⟨_, rfl, by show 2 ≤ sizeLine; decide, fun tp htp => ?_⟩
    have e4 : Same H3 (upd H3 tp (.tup [.ref g1, .int r.2])) := same_new htp
    have hD4 := e4 _ _ hD3
    refine lc_put hD2 e3 e4 hD3 hl (by omega) ?_
    have et : rows.take (i + 1) = rows.take i ++ [r] := by rw [List.take_succ, hr1]; rfl
    rw [et]
    exact paired_snoc (rowV_upd hD4 (fun _ z => by cases z) ⟨tp, _, rfl, upd_same, hg1.same e4⟩) (paired_mono (fun v g tv => rowV_upd hD4 (fun _ z => by cases z) (tv.same e4)) hacc)
  rw [hlen, List.take_length] at hacc
  refine ⟨D2, acc, rows, rfl, hD3, hacc, hl8, fun r m => (G.all r m).1, fun p us' H4 e4 hp4 pr4 => ?_⟩
  have e14 := e12.trans (e3.trans e4)
  refine ⟨_, rfl, x, _, dx, _, rfl, e14 _ _ hx, T.oU.ins.cl, T.nU1, by decide, ?_⟩
  have h0 : us[0]? = some us[0] := List.getElem?_eq_getElem (by omega)
  obtain ⟨r0, hr0, b0, x0, eb0, hb0, hd0⟩ := paired_at hp h0
  have m0 := List.mem_of_getElem? hr0
  obtain ⟨G0, _, p0⟩ := G.all r0 m0
  have f5 : But x H (upd H4 x (.ins (aU K) dx (putF "rows" (.ref p) []))) := fun b o n h => by rw [upd_ne n]; exact e14 _ _ h
  have hd5 := deedV_but f5 hx (fun _ z => by cases z) (fun _ z => by cases z) (fun _ _ _ _ z => by cases z) hd0
  obtain ⟨x0', dx0, ga0, rr0, kvs0, ex0, hx0, _⟩ := id hd5
  cases ex0
  have nt : ∀ {b : Addr} {xs : List V}, H b = some (.tup xs) → b ≠ x := fun h => ne_of h hx (fun z => by cases z)
  refine ⟨_, rfl, a, _, _, us[0], rfl, rfl, .of (f5 _ _ (nt ha) ha), atI_nat h0, b0, _, _, .ref x0, eb0, rfl, .of (f5 _ _ (nt hb0) hb0), rfl, x0, dx0, _, rfl, hx0, x0, r0.1, rfl, hd5, G0.nd, G0.le, fun t1 ys1 H6 e6 ht1 py1 ay1 => ?_⟩
  have z1 := G.things m0 py1 ay1
  rw [z1] at ht1
  refine ⟨_, rfl, x, _, dx, _, rfl, e6 _ _ upd_same, T.oU.ins.cl, T.nU2, by show 1 < 1000; decide, ?_⟩
  have npx : p ≠ x := fun z => by rw [z, e14 _ _ hx] at hp4; cases hp4
  have f4 : But x H4 (upd H6 x (.ins (aU K) dx (putF "named" (.ref t1) (putF "rows" (.ref p) [])))) := fun b o n h => by rw [upd_ne n]; exact e6 _ _ (by rw [upd_ne n]; exact h)
  refine q p t1 us' _ ?_ upd_same (f4 _ _ npx hp4) (paired_mono (fun v r rv => rowV_but f4 (e14 _ _ hx) (fun _ z => by cases z) rv) pr4) ?_
  · exact But.trans (But.of e14) f4
  · rw [upd_ne (fun z => by rw [z, e6 _ _ upd_same] at ht1; cases ht1)]; exact ht1
/-- Urn(pairs), made -/
theorem mkUrn {H1 : Hp} {a : Addr} {us : List V} {rows : List Row} {th : List Str} {Q : VK} (ha : H1 a = some (.tup us)) (hp : Paired (PairV K H1) us rows) (G : GoodR rows th) (q : ∀ x H', Same H1 H' → UrnV K H' (.ref x) (sumRows rows) th → Q (.ref x) H') :
    ∀ x dx, H1 x = none → H1 dx = none → dx ≠ x → sp_Urn_init K (.ref x :: ([.ref a] ++ [])) (upd (upd H1 dx (.own x)) x (.ins (aU K) dx [])) (fun v H2 => v = .non ∧ Q (.ref x) H2) E0 := by
  intro x dx nx nd hne
  have s1 : Same H1 (upd (upd H1 dx (.own x)) x (.ins (aU K) dx [])) := fun b o h => by rw [upd_ne (ne_of_none h nx), upd_ne (ne_of_none h nd)]; exact h
  refine ⟨x, dx, a, us, rows, th, rfl, upd_same, s1 _ _ ha, pairs_same s1 hp, G, fun r n us' H' hb hx hr pr hn => ⟨rfl, ?_⟩⟩
  exact q x H' (Same.made nx nd fun b o h n => hb b o n h) ⟨x, dx, r, n, us', rfl, hx, hr, pr, hn⟩
theorem pr_Up (T : Tops K mg) : Pr P w K mg base 6 (aU K) "pairs" (sp_Urn_pairs K) := by
  refine .of T.oU.ins.cl T.pUp sc_Urn_pairs (fun _ _ _ _ _ _ us hl => match us, hl with | [_], _ => rfl) (fun vs H Q E h => ?_) fun f cdv A outer s H vs Q E hr h => ?_
  · obtain ⟨_, _, _, rfl, _⟩ := h; rfl
  obtain ⟨x, rows, th, rfl, ⟨x', dx, r, n, us, ex, hx, hrr, hp, hn⟩, G, q⟩ := h
  cases ex
  refine ⟨_, (pss_one (ps_ret (pe_callTy (call_tuple_ofK (K := K) rfl) (by rfl) (T.nn "tuple") rfl (pa_cons (pe_lc (own := [("groups", 1), ("tickets", 2)]) (by rfl) sc_Urn_pairs.nd (pi_listK (K := K) rfl (pe_fldK (K := K) rfl (pv 0) rfl)) (blkOk_by (own := [("groups", 1), ("tickets", 2)]) (N := N_Urn_pairs) (sc := defScope s_Urn_pairs) (by decide +kernel)) (fun _ _ _ _ _ => (pg_tupK (K := K) (n := 2) rfl rfl (pgs_cons (pg_name (i := 1) sc_Urn_pairs.nd rfl (Or.inl rfl)) (pgs_cons (pg_name (i := 2) sc_Urn_pairs.nd rfl (Or.inl rfl)) pgs_nil)))) (fun _ _ _ _ _ => pts_nil) (fun _ _ _ _ _ => (pe_tup (pa_cons (pe_ml (ml_Deed T) hr (by decide) rfl (pa_cons (pv 1) pa_nil)) (pa_cons (pv 2) pa_nil))))) pa_nil)))) , ?_⟩
  have hlen := paired_len hp
  have hl8 := G.len
  refine ⟨_, rfl, x, _, dx, _, .ref r, rfl, hx, T.oU.ins.cl, T.nU1, rfl, r, rfl, ⟨_, .of hrr⟩, fun D hD => ?_⟩
  refine lcL (fun i acc G' => Paired (PairV K G') acc (rows.take i)) (xs := us) (.of hrr) hD .nil (fun i v H1 acc hv e1 hD1 hl hacc => ?_) fun H1 acc e1 hD1 hl hacc => ?_
  · obtain ⟨rw', hr1, b, gv, rfl, hb, hg⟩ := paired_at hp hv
    have hi : i < rows.length := (List.getElem?_eq_some_iff.mp hr1).1
    obtain ⟨ga, vs2, rfl, hga⟩ := id hg
    refine ⟨b, _, rfl, .of (e1 _ _ hb), rfl, _, _, rfl, _, _, rfl, rfl, rfl, tYesI ⟨_, rfl, ?_⟩⟩
    intro y dy0 n1 n2 n3
    refine mkDeed2 (hg.same e1) (G.all _ (List.mem_of_getElem? hr1)).1 n1 n2 fun H2 e2 hd => ⟨rfl, ?_⟩
    refine ⟨_, rfl, by show 2 ≤ sizeLine; decide, fun tp htp => ?_⟩
    have e3 := e2.trans (same_new (o := .tup [.ref y, .int rw'.2]) htp)
    have hD4 := e3 _ _ hD1
    refine lc_put hD e1 e3 hD1 hl (by omega) ?_
    have et : rows.take (i + 1) = rows.take i ++ [rw'] := by rw [List.take_succ, hr1]; rfl
    rw [et]
    exact paired_snoc (pairV_upd hD4 ⟨tp, y, rfl, upd_same, hd.same (same_new htp)⟩) (paired_mono (fun v g tv => pairV_upd hD4 (tv.same e3)) hacc)
  · rw [hlen, List.take_length] at hacc
    refine ⟨D, acc, rfl, .inl ⟨.of hD1, fun tp htp => ?_⟩⟩
    exact q tp acc _ (e1.trans (same_new htp)) upd_same (pairs_same (same_new htp) hacc)
theorem cl_urn_of_rows (T : Tops K mg) : Cl P w K mg base 7 "urn_of_rows" ["rows"] (sp_urn_of_rows K) := by
  refine .of T.f_urn_of_rows sc_urn_of_rows (fun _ _ _ _ _ _ us hl => match us, hl with | [_], _ => rfl) (fun vs H Q E h => ?_) fun f cdv A outer s H vs Q E hr h => ?_
  · obtain ⟨_, _, _, _, rfl, _⟩ := h; rfl
  obtain ⟨l, us, rows, th, rfl, hrr, hp, G, q⟩ := h
  refine ⟨_, (pss_one (ps_ret (pe_ml (ml_Urn T) hr (by decide) rfl (pa_cons (pe_callTy (call_tuple_ofK (K := K) rfl) (by rfl) (T.nn "tuple") rfl (pa_cons (pe_lc (own := [("groups", 1), ("tickets", 2)]) (by rfl) sc_urn_of_rows.nd (pi_listK (K := K) rfl (pv 0)) (blkOk_by (own := [("groups", 1), ("tickets", 2)]) (N := N_urn_of_rows) (sc := defScope s_urn_of_rows) (by decide +kernel)) (fun _ _ _ _ _ => (pg_tupK (K := K) (n := 2) rfl rfl (pgs_cons (pg_name (i := 1) sc_urn_of_rows.nd rfl (Or.inl rfl)) (pgs_cons (pg_name (i := 2) sc_urn_of_rows.nd rfl (Or.inl rfl)) pgs_nil)))) (fun _ _ _ _ _ => pts_nil) (fun _ _ _ _ _ => (pe_tup (pa_cons (pe_ml (ml_Deed T) hr (by decide) rfl (pa_cons (pv 1) pa_nil)) (pa_cons (pv 2) pa_nil))))) pa_nil)) pa_nil)))) , ?_⟩
  have hlen := paired_len hp
  have hl8 := G.len
  refine ⟨_, rfl, l, rfl, ⟨_, .of hrr⟩, fun D hD => ?_⟩
  refine lcL (fun i acc G' => Paired (PairV K G') acc (rows.take i)) (xs := us) (.of hrr) hD .nil (fun i v H1 acc hv e1 hD1 hl hacc => ?_) fun H1 acc e1 hD1 hl hacc => ?_
  · obtain ⟨rw', hr1, b, gv, rfl, hb, hg⟩ := paired_at hp hv
    have hi : i < rows.length := (List.getElem?_eq_some_iff.mp hr1).1
    obtain ⟨ga, vs2, rfl, hga⟩ := id hg
    refine ⟨b, _, rfl, .of (e1 _ _ hb), rfl, _, _, rfl, _, _, rfl, rfl, rfl, tYesI ⟨_, rfl, ?_⟩⟩
    intro y dy0 n1 n2 n3
    refine mkDeed2 (hg.same e1) (G.all _ (List.mem_of_getElem? hr1)).1 n1 n2 fun H2 e2 hd => ⟨rfl, ?_⟩
    refine ⟨_, rfl, by show 2 ≤ sizeLine; decide, fun tp htp => ?_⟩
    have e3 := e2.trans (same_new (o := .tup [.ref y, .int rw'.2]) htp)
    have hD4 := e3 _ _ hD1
    refine lc_put hD e1 e3 hD1 hl (by omega) ?_
    have et : rows.take (i + 1) = rows.take i ++ [rw'] := by rw [List.take_succ, hr1]; rfl
    rw [et]
    exact paired_snoc (pairV_upd hD4 ⟨tp, y, rfl, upd_same, hd.same (same_new htp)⟩) (paired_mono (fun v g tv => pairV_upd hD4 (tv.same e3)) hacc)
  · rw [hlen, List.take_length] at hacc
    refine ⟨D, acc, rfl, .inl ⟨.of hD1, fun tp htp => ?_⟩⟩
    exact mkUrn upd_same (pairs_same (same_new htp) hacc) G fun x H2 e2 hu => q x H2 (e1.trans ((same_new htp).trans e2)) hu
theorem mt_Urn_only (T : Tops K mg) : Mt P w K mg base 8 (aU K) "only" ["self", "things"] (sp_Urn_only K) := by
  refine .of T.oU.ins.cl T.mUo sc_Urn_only (fun _ _ _ _ _ _ us hl => match us, hl with | [_, _], _ => rfl) (fun vs H Q E h => ?_) fun f cdv A outer s H vs Q E hr h => ?_
  · obtain ⟨_, _, _, _, _, _, rfl, _⟩ := h; rfl
  obtain ⟨x, a, rows, th, p, q', rfl, hu, G, ha, hasc, mp, mq, q⟩ := h
  refine ⟨_, (pss_cons (ps_expr (pe_cl (cl_check_things T) hr (by decide) rfl (pa_cons (pv 1) (pa_cons (pe_fldK (K := K) rfl (pv 0) rfl) pa_nil))))
      (pss_one (ps_ret (pe_cl (cl_urn_of_rows T) hr (by decide) rfl (pa_cons (pe_cl (cl_summed T) hr (by decide) rfl (pa_cons (pe_lc (own := [("deed", 2), ("tickets", 3)]) (by rfl) sc_Urn_only.nd (pi_tupK (K := K) rfl (pe_pr (pr_Up T) hr (by decide) (pv 0) rfl)) (blkOk_by (own := [("deed", 2), ("tickets", 3)]) (N := N_Urn_only) (sc := defScope s_Urn_only) (by decide +kernel)) (fun _ _ _ _ _ => (pg_tupK (K := K) (n := 2) rfl rfl (pgs_cons (pg_name (i := 2) sc_Urn_only.nd rfl (Or.inl rfl)) (pgs_cons (pg_name (i := 3) sc_Urn_only.nd rfl (Or.inl rfl)) pgs_nil)))) (fun _ _ _ _ _ => pts_nil) (fun _ _ _ _ _ => (pe_tup (pa_cons (pe_pr (pr_Dg T) hr (by decide) (pe_mt (mt_Deed_only T) hr (by decide) (pv 2) (pa_cons (pv 1) pa_nil)) rfl) (pa_cons (pv 3) pa_nil))))) pa_nil)) pa_nil))))) , ?_⟩
  obtain ⟨x', dx, r, n, us, ex, hx, hrr, hp, hn⟩ := id hu
  cases ex
  have hl8 := G.len
  refine ⟨_, rfl, _, rfl, x, _, dx, _, .ref n, rfl, hx, T.oU.ins.cl, T.nU2, rfl, ?_⟩
  refine ⟨a, n, [p, q'], th, rfl, .of ha, .of hn, by simp, fun z mz => ?_, hasc, fun H1 e1 => ?_⟩
  · have : z = p ∨ z = q' := by simpa using mz
    rcases this with h | h <;> rw [h] <;> assumption
  refine ⟨_, rfl, x, dx, _, rfl, e1 _ _ hx, x, rows, th, rfl, hu.same e1, G, fun tp us2 H2 e2 htp pr2 => ?_⟩
  have hlen := paired_len pr2
  refine ⟨tp, rfl, ⟨_, .of htp⟩, fun D hD => ?_⟩
  have e12 := e1.trans e2
  let F : Row → Row := fun r => (pairGs p q' (rk r.1 p) (rk r.1 q'), r.2)
  refine lcT (fun i acc G' => Paired (RowV G') acc ((rows.take i).map F)) (xs := us2) (.of htp) hD .nil (fun i v H3 acc hv e3 hD1 hl hacc => ?_) fun H3 acc e3 hD1 hl hacc => ?_
  · obtain ⟨rw', hr1, b, y, rfl, hb, hd⟩ := paired_at pr2 hv
    have hi : i < rows.length := (List.getElem?_eq_some_iff.mp hr1).1
    obtain ⟨Gr, _, pth⟩ := G.all _ (List.mem_of_getElem? hr1)
    obtain ⟨y', dy, ga, rr, kvs, ey, hy, _⟩ := id hd
    cases ey
    refine ⟨b, _, rfl, .of (e3 _ _ hb), rfl, _, _, rfl, _, _, rfl, rfl, rfl, tYesI ⟨_, rfl, y, dy, _, rfl, e3 _ _ hy, rfl, _, rfl, ?_⟩⟩
    refine ⟨y, a, rw'.1, p, q', rfl, hd.same e3, Gr, e3 _ _ (e12 _ _ ha), hasc, pth.subset mp, pth.subset mq, fun y2 H4 e4 hd4 => ?_⟩
    obtain ⟨y2', dy2, ga2, rr2, kvs2, ey2, hy2, _⟩ := id hd4
    cases ey2
    refine ⟨y2, dy2, _, rfl, hy2, y2, _, rfl, hd4, fun g1 hg1 => ?_⟩
    refine ⟨_, rfl, by show 2 ≤ sizeLine; decide, fun t2 ht2 => ?_⟩
    have e5 := e4.trans (same_new (o := .tup [.ref g1, .int rw'.2]) ht2)
    have hD4 := e5 _ _ hD1
    refine lc_put hD e3 e5 hD1 hl (by omega) ?_
    rw [take_succ_map hr1]
    have k1 : RowV (upd H4 t2 (.tup [.ref g1, .int rw'.2])) (.ref t2) (F rw') := ⟨t2, _, rfl, upd_same, hg1.same (same_new ht2)⟩
    exact paired_snoc (rowV_upd hD4 (fun _ z => by cases z) k1) (paired_mono (fun v g tv => rowV_upd hD4 (fun _ z => by cases z) (tv.same e5)) hacc)
  · rw [hlen, List.take_length] at hacc
    have Gp := pairRows_good G hasc mp mq
    refine ⟨D, acc, rows.map F, rfl, hD1, hacc, by rw [List.length_map]; exact hl8, fun r m => ?_, fun p2 us3 H4 e4 hp4 pr4 => ?_⟩
    · obtain ⟨r', m', rfl⟩ := List.mem_map.mp m
      exact pair_good (G.names p mp) (G.names q' mq) hasc
    · refine ⟨p2, us3, pairRows rows p q', [p, q'], rfl, hp4, pr4, Gp, fun y H5 e5 hu5 => ?_⟩
      have e : sumRows (pairRows rows p q') = pairRows rows p q' := sumRows_id (sumRows_ord _)
      rw [e] at hu5
      exact q y H5 (e12.trans (e3.trans (e4.trans e5))) hu5
end
end SD
end
section
set_option Elab.async false
set_option linter.all false
set_option maxRecDepth 100000
set_option maxHeartbeats 4000000
/-! ### urns read -/
namespace SD
open PySem PySem.Spec PyProof.Rows L2
abbrev grpF (z : Gs × Addr) : V := .ref z.2
abbrev grpK (z : Gs × Addr) : PyData := gD z.1
theorem eqvAll_gD : ∀ l m : List Gs, PyData.eqvAll (l.map gD) (m.map gD) = decide (l = m)
  | [], [] => by simp [PyData.eqvAll]
  | [], _ :: _ => by simp [PyData.eqvAll]
  | _ :: _, [] => by simp [PyData.eqvAll]
  | x :: a, y :: b => by
    rw [List.map_cons, List.map_cons, PySem.W.eqv_all_cons, eqvAll_gD a b, eqv_gD]
    simp [Bool.decide_and]
theorem layAll_gD : ∀ l : List Gs, (∀ gs ∈ l, ∀ g ∈ gs, ∀ x ∈ g, IsName x) → PyData.canLayAll0 (l.map gD) = true
  | [], _ => by simp [PyData.canLayAll0]
  | x :: a, h => by
    have h1 := layAll_gD a fun y m => h y (List.mem_cons_of_mem _ m)
    have h2 := PySem.SeqAt.canLay_of_shaped (shaped_gD (h x List.mem_cons_self))
    simp [PyData.canLayAll0, h1, h2]
theorem depAll_gD : ∀ l : List Gs, PyData.depthAll (l.map gD) ≤ 2
  | [] => by simp [PyData.depthAll]
  | x :: a => by
    have h1 := depAll_gD a
    have h2 := gD_dep x
    rw [List.map_cons, PyData.depthAll]
    omega
theorem shaped_lgD {l : List Gs} (h : ∀ gs ∈ l, ∀ g ∈ gs, ∀ x ∈ g, IsName x) : SeqAt.shaped (.list (l.map gD)) = true := by
  have h1 := depAll_gD l
  have hd : (PyData.list (l.map gD)).depth ≤ 3 := by rw [PyData.depth]; omega
  show ((PyData.list (l.map gD)).canLay0 && decide ((PyData.list (l.map gD)).depth ≤ 64)) = true
  rw [Bool.and_eq_true]
  refine ⟨?_, decide_eq_true (by omega)⟩
  rw [PyData.canLay0]
  exact layAll_gD l h
theorem dpAll_grp {K : PySem.W.Frag} {H : Hp} : ∀ {zs : List (Gs × Addr)}, (∀ z ∈ zs, GrpV H (.ref z.2) z.1) → DpAll K H (zs.map grpF) ((zs.map (·.1)).map gD)
  | [], _ => .nil
  | z :: zs, h => .cons (h z List.mem_cons_self).dp (dpAll_grp fun y m => h y (List.mem_cons_of_mem _ m))
def sp_dummy : Sp := fun _ _ _ _ => True
section
variable {P : Program} {w : World} {K : PySem.W.Frag} {mg : Str → Option Value} {base : Heap}
theorem cl_pair_with (T : Tops K mg) : Cl P w K mg base 7 "pair_with" ["text"] (sp_pair_with K) := by
  refine .of T.f_pair_with sc_pair_with (fun _ _ _ _ _ _ us hl => match us, hl with | [_], _ => rfl) (fun vs H Q E h => ?_) fun f cdv A outer s H vs Q E hr h => ?_
  · obtain ⟨_, rfl, _⟩ := h; rfl
  obtain ⟨r, rfl, G, h1, h9, q⟩ := h
  refine ⟨_, (pss_cons (ps_asg (pe_partition (pv 0) pe_str) (pg_tupK (K := K) (n := 3) rfl rfl (pgs_cons (pg_name (i := 1) sc_pair_with.nd rfl (Or.inl rfl)) (pgs_cons (pg_name (i := 2) sc_pair_with.nd rfl (Or.inl rfl)) (pgs_cons (pg_name (i := 3) sc_pair_with.nd rfl (Or.inl rfl)) pgs_nil)))))
      (pss_cons (ps_par (i := 4) (j := 5) (by rfl) sc_pair_with.nd rfl rfl (by decide) rfl rfl (pa_cons (pe_cl (cl_number_of T) hr (by decide) rfl (pa_cons (pv 1) pa_nil)) (pa_cons (pe_cl (cl_deed_with T) hr (by decide) rfl (pa_cons (pv 3) pa_nil)) pa_nil)) (by rfl))
      (pss_one (ps_ret (pe_ifExp (PW.pt (pw_or (pt_cmpR op_isN (pv 4) pe_non (nomark _)) (pw_or (pt_cmpR op_isN (pv 5) pe_non (nomark _)) (pw_or1 (pt_cmpR op_eq (pv 4) pe_int (nomark _)))))) pe_non (pe_tup (pa_cons (pv 5) (pa_cons (pv 4) pa_nil)))))))) , ?_⟩
  have hl := gsTxt_len G
  have hz : (rowTxt r).length ≤ sizeLine := by
    have e : (rowTxt r).length = 1 + (Str.ofString ": ").length + (gsTxt r.1).length := by
      show (TL.tl (rowTxt r)).length = _
      unfold rowTxt
      rw [TL.tl_append, TL.tl_append, List.length_append, List.length_append]
      rfl
    have e2 : (Str.ofString ": ").length = 2 := by decide +kernel
    rw [e, e2, sizeLine_eq]
    omega
  refine ⟨_, rfl, ⟨_, rfl⟩, _, _, rfl, rfl, by decide +kernel, hz, fun p np => ?_⟩
  rw [part_row h1 h9] at *
  have e1 : Same H (upd H p (.tup [.str (⟨#[48 + r.2]⟩ : Str), .str ": ", .str (gsTxt r.1)])) := same_new np
  refine ⟨p, _, rfl, .of upd_same, rfl, _, _, rfl, _, _, rfl, _, _, rfl, rfl, ?_⟩
  refine ⟨_, rfl, r.2, rfl, h1, h9, fun H1 e2 => ?_⟩
  refine ⟨_, rfl, r.1, rfl, G, fun x H2 e3 hd => ?_⟩
  refine ⟨_, _, rfl, ?_⟩
  refine ⟨_, rfl, rfl, false, rfl, iteF ?_⟩
  refine ⟨_, rfl, rfl, false, rfl, iteF ?_⟩
  refine ⟨_, rfl, rfl, false, blF (fun z => by injection z with z; omega), iteF ?_⟩
  refine ⟨_, rfl, _, rfl, by show 2 ≤ sizeLine; decide, fun tp htp => ?_⟩
  exact q tp _ (e1.trans (e2.trans (e3.trans (same_new htp)))) ⟨tp, x, rfl, upd_same, hd.same (same_new htp)⟩
theorem cl_urn_with (T : Tops K mg) : Cl P w K mg base 8 "urn_with" ["text"] (sp_urn_with K) := by
  refine .of T.f_urn_with sc_urn_with (fun _ _ _ _ _ _ us hl => match us, hl with | [_], _ => rfl) (fun vs H Q E h => ?_) fun f cdv A outer s H vs Q E hr h => ?_
  · obtain ⟨_, _, rfl, _⟩ := h; rfl
  obtain ⟨rows, th, rfl, G, O, h9, q⟩ := h
  refine ⟨_, (pss_cons (ps_if (pt_not (pt_val (pe_callB (call_isiK' (K := K) rfl) (by rfl) (T.nn "isinstance") rfl (pa_cons (pv 0) (pa_cons (pe_bltn (v := .ty "str") (by rfl) (T.nn "str") rfl rfl) pa_nil)))))
       (pss_one (ps_ret pe_non))
       pss_nil)
      (pss_cons (ps_set (i := 1) sc_urn_with.nd rfl (Or.inl rfl) (pe_callTy (call_tuple_ofK (K := K) rfl) (by rfl) (T.nn "tuple") rfl (pa_cons (pe_lc (own := [("piece", 3)]) (by rfl) sc_urn_with.nd (pi_listK (K := K) rfl (pe_split (pv 0) pe_str)) (blkOk_by (own := [("piece", 3)]) (N := N_urn_with) (sc := defScope s_urn_with) (by decide +kernel)) (fun _ _ _ _ _ => (pg_name (i := 3) sc_urn_with.nd rfl (Or.inl rfl))) (fun _ _ _ _ _ => pts_nil) (fun _ _ _ _ _ => (pe_cl (cl_pair_with T) hr (by decide) rfl (pa_cons (pv 3) pa_nil)))) pa_nil)))
      (pss_cons (ps_if (PW.pt (pw_or (pt_cmpR op_ne (pe_cl (cl_wrong_ticket T) hr (by decide) rfl (pa_cons (pv 1) pa_nil)) (pe_un un_neg pe_int) (nomark _)) (pw_or1 (pt_cmpR op_gt (pe_callB (cr_sumK (K := K) rfl rfl) (by rfl) (T.nn "sum") rfl (pa_cons (pe_lc (own := [("deed", 4), ("tickets", 5)]) (by rfl) sc_urn_with.nd (pi_tupK (K := K) rfl (pv 1)) (blkOk_by (own := [("deed", 4), ("tickets", 5)]) (N := N_urn_with) (sc := defScope s_urn_with) (by decide +kernel)) (fun _ _ _ _ _ => (pg_tupK (K := K) (n := 2) rfl rfl (pgs_cons (pg_name (i := 4) sc_urn_with.nd rfl (Or.inl rfl)) (pgs_cons (pg_name (i := 5) sc_urn_with.nd rfl (Or.inl rfl)) pgs_nil)))) (fun _ _ _ _ _ => pts_nil) (fun _ _ _ _ _ => (pv 5))) pa_nil)) (C8.pe_gc rfl T.cMOST_TICKETS) (nomark _)))))
       (pss_one (ps_ret pe_non))
       pss_nil)
      (pss_cons (ps_setLc (i := 2) (by rfl) sc_urn_with.nd rfl rfl (sw_true rfl rfl rfl (by decide +kernel)) (pi_tupK (K := K) rfl (pv 1)) (blkOk_by (own := [("deed", 4), ("tickets", 5)]) (N := N_urn_with) (sc := defScope s_urn_with) (by decide +kernel)) (fun _ _ _ _ _ => (pg_tupK (K := K) (n := 2) rfl rfl (pgs_cons (pg_name (i := 4) sc_urn_with.nd rfl (Or.inl rfl)) (pgs_cons (pg_name (i := 5) sc_urn_with.nd rfl (Or.inl rfl)) pgs_nil)))) (fun _ _ _ _ _ => pts_nil) (fun _ _ _ _ _ => (pe_pr (pr_Dg T) hr (by decide) (pv 4) rfl)))
      (pss_one (ps_ret (pe_ifExp (pt_cmpR (op_eqDK (K := K) rfl (hu64 hr)) (pv 2) (pe_callB (cr_sortDK grpF grpK rfl (hu64 hr)) (by rfl) (T.nn "sorted") rfl (pa_cons (pv 2) pa_nil)) (nomark _)) (pe_ml (ml_Urn T) hr (by decide) rfl (pa_cons (pv 1) pa_nil)) pe_non))))))) , ?_⟩
  have hl8 := G.len
  have hnm : ∀ r ∈ rows, r.2 ≤ 9 ∧ ∀ g ∈ r.1, ∀ x ∈ g, IsName x := fun r m => ⟨h9 r m, (G.all r m).1.nms⟩
  refine ⟨_, rfl, _, _, _, _, true, rfl, .ty "str", .base (.str _), kit_str, true, rfl, iteF ?_⟩
  have hz : (urnTxt rows).length ≤ 8 * 612 := by
    have h1 := join_len "; " (rows.map rowTxt)
    have h2 := sum_le (l := (rows.map rowTxt).map (·.length)) (b := 610) fun n m => by
      obtain ⟨x, mx, rfl⟩ := List.mem_map.mp m
      obtain ⟨r, mr, rfl⟩ := List.mem_map.mp mx
      have e : (rowTxt r).length = 1 + (Str.ofString ": ").length + (gsTxt r.1).length := by
        show (TL.tl (rowTxt r)).length = _
        unfold rowTxt
        rw [TL.tl_append, TL.tl_append, List.length_append, List.length_append]
        rfl
      have e2 : (Str.ofString ": ").length = 2 := by decide +kernel
      have := gsTxt_len (G.all r mr).1
      omega
    rw [List.length_map, List.length_map] at h2
    have e : (Str.ofString "; ").length = 2 := by decide +kernel
    rw [e, List.length_map] at h1
    unfold urnTxt
    omega
  refine ⟨_, rfl, ⟨_, rfl⟩, _, _, rfl, rfl, by decide +kernel, by rw [sizeLine_eq]; omega, fun p np => ?_⟩
  rw [split_urn G.ne hnm]
  have e0 : Same H (upd H p (.lst ((rows.map rowTxt).map V.str))) := same_new np
  refine ⟨p, rfl, ⟨_, .of upd_same⟩, fun D hD => ?_⟩
  refine lcL (fun i acc G' => Paired (PairV K G') acc (rows.take i)) (xs := nm (rows.map rowTxt)) (.of upd_same) hD .nil (fun i x H1 acc hx e1 hD1 hl hacc => ?_) fun H1 acc e1 hD1 hl hacc => ?_
  · obtain ⟨z, hz2, rfl⟩ := nm_at hx
    rw [List.getElem?_map] at hz2
    obtain ⟨r, hr1, rfl⟩ := Option.map_eq_some_iff.mp hz2
    have hi : i < rows.length := (List.getElem?_eq_some_iff.mp hr1).1
    have mr := List.mem_of_getElem? hr1
    refine ⟨rfl, tYesI ⟨_, rfl, r, rfl, (G.all r mr).1, (G.all r mr).2.1, h9 r mr, fun a H2 e2 hpr => ?_⟩⟩
    have hD2 := e2 _ _ hD1
    refine lc_put hD e1 e2 hD1 hl (by omega) ?_
    have et : rows.take (i + 1) = rows.take i ++ [r] := by rw [List.take_succ, hr1]; rfl
    rw [et]
    exact paired_snoc (pairV_upd hD2 hpr) (paired_mono (fun v g tv => pairV_upd hD2 (tv.same e2)) hacc)
  have en : rows.take (nm (rows.map rowTxt)).length = rows := by rw [List.length_map, List.length_map, List.take_length]
  rw [en] at hacc
  have hlen := paired_len hacc
  refine ⟨D, acc, rfl, .inl ⟨.of hD1, fun tp htp => ?_⟩⟩
  have e2 := e0.trans (e1.trans (same_new (o := .tup acc) htp))
  have hp := pairs_same (same_new (o := .tup acc) htp) hacc
  refine ⟨_, rfl, tp, acc, rows, th, rfl, upd_same, hp, G, fun H2 e3 => ?_⟩
  refine ⟨_, rfl, rfl, false, blN rfl, iteF ?_⟩
  have ht2 : H2 tp = some (.tup acc) := e3 _ _ upd_same
  have hp2 := pairs_same e3 hp
  refine ⟨_, rfl, tp, rfl, ⟨_, .of ht2⟩, fun D2 hD2 => ?_⟩
  refine lcT (fun i a2 _ => a2 = (rows.take i).map fun r => V.int r.2) (xs := acc) (.of ht2) hD2 rfl (fun i v H3 a2 hv e4 hD3 hl2 hacc2 => ?_) fun H3 a2 e4 hD3 hl2 hacc2 => ?_
  · obtain ⟨r, hr1, b, y, rfl, hb, hd⟩ := paired_at hp2 hv
    have hi : i < rows.length := (List.getElem?_eq_some_iff.mp hr1).1
    refine ⟨b, _, rfl, .of (e4 _ _ hb), rfl, _, _, rfl, _, _, rfl, rfl, rfl, tYesI ⟨_, rfl, lc_put hD2 e4 (.refl _) hD3 hl2 (by omega) ?_⟩⟩
    rw [hacc2, take_succ_map hr1]
  rw [hlen, List.take_length] at hacc2
  refine ⟨D2, rows.map fun r => (r.2 : Int), rfl, .of (by rw [hD3, hacc2, List.map_map]; rfl), ?_⟩
  rw [sum_ints]
  have htot := G.tot
  refine ⟨_, 60, rfl, rfl, false, blF (by omega), iteF ?_⟩
  have hp3 := pairs_same e4 hp2
  refine ⟨_, rfl, tp, rfl, ⟨_, .of (e4 _ _ ht2)⟩, fun D3 hD3' => ?_⟩
  refine lcT (fun i a3 G' => ∃ zs : List (Gs × Addr), a3 = zs.map grpF ∧ zs.map (·.1) = (rows.take i).map (·.1) ∧ ∀ z ∈ zs, GrpV G' (.ref z.2) z.1) (xs := acc) (.of (e4 _ _ ht2)) hD3' ⟨[], rfl, rfl, fun z m => nomatch m⟩ (fun i v H4 a3 hv e5 hD4 hl3 hacc3 => ?_) fun H4 a3 e5 hD4 hl3 hacc3 => ?_
  · obtain ⟨r, hr1, b, y, rfl, hb, hd⟩ := paired_at hp3 hv
    have hi : i < rows.length := (List.getElem?_eq_some_iff.mp hr1).1
    obtain ⟨y', dy, ga, rr, kvs, ey, hy, _⟩ := id hd
    cases ey
    obtain ⟨zs, rfl, hk, hg⟩ := hacc3
    refine ⟨b, _, rfl, .of (e5 _ _ hb), rfl, _, _, rfl, _, _, rfl, rfl, rfl, tYesI ⟨_, rfl, y, dy, _, rfl, e5 _ _ hy, y, r.1, rfl, hd.same e5, fun g1 hg1 => lc_put hD3' e5 (.refl _) hD4 hl3 (by omega) ⟨zs ++ [(r.1, g1)], by rw [List.map_append]; rfl, by rw [List.map_append, hk, take_succ_map hr1]; rfl, fun z m => ?_⟩⟩⟩
    refine grpV_upd hD4 (fun _ z => by cases z) ?_
    rcases List.mem_append.mp m with z1 | z1
    · exact hg z z1
    · have : z = (r.1, g1) := by simpa using z1
      subst this
      exact hg1
  obtain ⟨zs, rfl, hk, hg⟩ := hacc3
  rw [hlen, List.take_length] at hk
  have hzl : zs.length = rows.length := by
    have := congrArg List.length hk
    rwa [List.length_map, List.length_map] at this
  have hmem : ∀ z ∈ zs, ∃ r ∈ rows, r.1 = z.1 := fun z m => by
    have : z.1 ∈ rows.map (·.1) := by rw [← hk]; exact List.mem_map.mpr ⟨z, m, rfl⟩
    obtain ⟨r, mr, e⟩ := List.mem_map.mp this
    exact ⟨r, mr, e⟩
  have hsrt : srt grpK zs = zs := by
    refine List.mergeSort_of_pairwise ?_
    have := O.le
    rw [← hk, List.pairwise_map] at this
    exact this
  refine ⟨_, rfl, _, rfl, D3, zs, rfl, .of hD4, fun z m => (hg z m).dp, PySem.W.AllAlike.of fun b b' => alike_gD b.1 b'.1, ?_, by rw [hzl, sizeLine_eq]; omega, fun z m => by have := gD_dep z.1; show (gD z.1).depth ≤ 50; omega, fun L hL => ?_⟩
  · refine Or.inl fun dd m => ?_
    obtain ⟨z, mz, e⟩ := List.mem_map.mp m
    subst e
    obtain ⟨r, mr, e2⟩ := hmem z mz
    refine gD_tup ?_
    rw [← e2]
    exact (G.all r mr).1.ne
  rw [hsrt]
  have eL : Same H4 (upd H4 L (.lst (zs.map grpF))) := same_new hL
  have sh : SeqAt.shaped (.list ((zs.map (·.1)).map gD)) = true := shaped_lgD fun gs m => by
    rw [hk] at m
    obtain ⟨r, mr, e⟩ := List.mem_map.mp m
    rw [← e]
    exact (G.all r mr).1.nms
  refine ⟨.list ((zs.map (·.1)).map gD), .list ((zs.map (·.1)).map gD), .lst (.of (eL _ _ hD4)) (dpAll_grp fun z m => (hg z m).same eL), .lst (.of upd_same) (dpAll_grp fun z m => (hg z m).same eL), sh, sh, true, ?_, iteT ⟨_, rfl, ?_⟩⟩
  · rw [PyData.eqv, eqvAll_gD, decide_eq_true rfl]
  have e6 := e4.trans (e5.trans eL)
  refine mkUrn (e6 _ _ ht2) (pairs_same e6 hp2) G fun x H6 e7 hu => ?_
  rw [sumRows_id O] at hu
  exact q x H6 (e2.trans (e3.trans (e6.trans e7))) hu
structure Cm (P : Program) (w : World) (K : PySem.W.Frag) (mg : Str → Option Value) (base : Heap) (k : Nat) (C : Addr) (m : Str) (sp : Sp) : Prop where
  ex : ∃ p g mc, ClX.CRead K C mc ∧ ClX.CMet K C mc m p g ∧ FnR P w K mg base CX0 k g sp
theorem cm_Urn_read (T : Tops K mg) : Cm P w K mg base 9 (aU K) "read" (sp_Urn_read K) := by
  obtain ⟨p, g, fd, mc, cr, cm, F⟩ := T.rU.ex
  suffices ok : FnOk P w K mg base CX0 9 g fd ["cls", "text"] (sp_Urn_read K) by
    exact ⟨p, g, mc, cr, cm, (ok.raw (F.binds (fun _ _ _ _ _ _ us hl => match us, hl with | [_, _], _ => rfl)) .nil).imp fun vs H Q E h => by rw [List.append_nil]; exact h⟩
  refine F.ok sc_Urn_read (fun vs H Q E h => ?_) fun cdv A outer s H vs Q E hr h => ?_
  · obtain ⟨_, _, _, rfl, _⟩ := h; rfl
  obtain ⟨c, rows, th, rfl, G, O, h9, q⟩ := h
  refine ⟨_, (pss_cons (ps_set (i := 2) sc_Urn_read.nd rfl (Or.inl rfl) (pe_cl (cl_urn_with T) hr (by decide) rfl (pa_cons (pv 1) pa_nil)))
      (pss_cons (ps_if (pt_cmpR op_isN (pv 2) pe_non (nomark _))
       (pss_one ps_never)
       pss_nil)
      (pss_one (ps_ret (pv 2))))) , ?_⟩
  refine ⟨_, rfl, rows, th, rfl, G, O, h9, fun y H1 e1 hu => ?_⟩
  refine ⟨_, rfl, rfl, false, rfl, iteF ?_⟩
  exact ⟨_, rfl, q y H1 e1 hu⟩
end
section
variable {X : Cx} {k j : Nat} {C : Addr} {m : Str} {sp : Sp} {pos apos : Pos} {e o : Expr} {es : List Expr} {ta : TE} {t : TA}
theorem pe_cm {pl : Sem Bool} (c : Cm X.prog X.w X.K X.mg X.base k C m sp) (hr : Room j X.A) (hk : k ≤ j) (he : PE X o ta) (ha : PA X (e :: es) t)
    (hst : starEach (e :: es) X.env = (false, eval e X.env) :: starEach es X.env := by rfl) (hpl : (backTo pos (starEach es X.env)).any (·.1) = false := by rfl)
    (ht : eval (.Call (.Attribute o m apos) (e :: es) [] pos) X.env = (do
      let ov ← eval o X.env
      standAt apos.atName
      let (f, first) ← holding [ov] (getMethod ov m pl)
      callWith pos f first (backTo pos (starEach (e :: es) X.env)) (backToKw pos (keywordEach [] X.env))) := by rfl) :
    PE X (.Call (.Attribute o m apos) (e :: es) [] pos) (ClX.tCMeth C sp E0 ta t) := by
  obtain ⟨p, g, mc, cr, cm, F⟩ := c.ex
  exact ClX.pe_cmeth (pl := pl) he cr cm F (hr.mono hk) pass0 ha hst hpl ht
end
end SD
end
section
set_option Elab.async false
set_option linter.all false
set_option maxRecDepth 100000
set_option maxHeartbeats 4000000
/-! ### forms, plainly -/
namespace SD
abbrev Trm := Int × Int
abbrev Frc := Int × Int × Int
def ev (ts : List Trm) (f : Int → Rat) : Rat := (ts.map fun t => (t.1 : Rat) * f t.2).sum
def fv (fr : List Frc) (f : Int → Rat) : Rat := (fr.map fun x => (x.2.1 : Rat) / (x.2.2 : Rat) * f x.1).sum
theorem ev_cons (t : Trm) (ts : List Trm) (f : Int → Rat) : ev (t :: ts) f = (t.1 : Rat) * f t.2 + ev ts f := by
  unfold ev; rw [List.map_cons, List.sum_cons]
theorem ev_nil (f : Int → Rat) : ev [] f = 0 := rfl
theorem fv_cons (t : Frc) (ts : List Frc) (f : Int → Rat) : fv (t :: ts) f = (t.2.1 : Rat) / (t.2.2 : Rat) * f t.1 + fv ts f := by
  unfold fv; rw [List.map_cons, List.sum_cons]
theorem fv_nil (f : Int → Rat) : fv [] f = 0 := rfl
theorem fv_app (f : Int → Rat) : ∀ a b : List Frc, fv (a ++ b) f = fv a f + fv b f
  | [], b => by rw [List.nil_append, fv_nil, Rat.zero_add]
  | t :: a, b => by rw [List.cons_append, fv_cons, fv_cons, fv_app f a b, Rat.add_assoc]
def gcdF (p : Int) (ts : List Trm) : Int := ts.foldl (fun d t => ((Int.gcd d t.1 : Nat) : Int)) p
theorem gcdF_cons (p : Int) (t : Trm) (ts : List Trm) : gcdF p (t :: ts) = gcdF (Int.gcd p t.1 : Nat) ts := rfl
theorem gcdF_dvd : ∀ (ts : List Trm) (p : Int), gcdF p ts ∣ p ∧ ∀ t ∈ ts, gcdF p ts ∣ t.1
  | [], p => ⟨Int.dvd_refl p, fun t m => nomatch m⟩
  | a :: ts, p => by
    obtain ⟨h1, h2⟩ := gcdF_dvd ts (Int.gcd p a.1 : Nat)
    rw [gcdF_cons]
    refine ⟨Int.dvd_trans h1 (Int.gcd_dvd_left p a.1), fun t m => ?_⟩
    rcases List.mem_cons.mp m with z | z
    · subst z; exact Int.dvd_trans h1 (Int.gcd_dvd_right p t.1)
    · exact h2 t z
theorem gcdF_pos : ∀ (ts : List Trm) {p : Int}, 0 < p → 0 < gcdF p ts
  | [], p, h => h
  | a :: ts, p, h => by
    rw [gcdF_cons]
    exact gcdF_pos ts (by have := Int.gcd_pos_of_ne_zero_left a.1 (show p ≠ 0 by omega); omega)
theorem gcdF_le {ts : List Trm} {p : Int} (h : 0 < p) : gcdF p ts ≤ p := Int.le_of_dvd h (gcdF_dvd ts p).1
theorem gcdF_mul {k : Int} (hk : 0 < k) : ∀ (ts : List Trm) (p : Int), gcdF (k * p) (ts.map fun t => (k * t.1, t.2)) = k * gcdF p ts
  | [], p => rfl
  | a :: ts, p => by
    rw [List.map_cons, gcdF_cons, gcdF_cons]
    have e : ((Int.gcd (k * p) (k * a.1) : Nat) : Int) = k * (Int.gcd p a.1 : Nat) := by
      rw [Int.gcd_mul_left]
      push_cast
      rw [Int.natAbs_of_nonneg (Int.le_of_lt hk)]
    rw [e]
    exact gcdF_mul hk ts _
theorem gcdF_greatest {k : Int} : ∀ (ts : List Trm) (p : Int), k ∣ p → (∀ t ∈ ts, k ∣ t.1) → k ∣ gcdF p ts
  | [], p, h, _ => h
  | a :: ts, p, h, h2 => gcdF_greatest ts _ (Int.dvd_coe_gcd h (h2 a List.mem_cons_self)) fun t m => h2 t (List.mem_cons_of_mem _ m)
structure Desc (ts : List Trm) : Prop where
  desc : ts.Pairwise fun x y => y.2 < x.2
  ok : ∀ t ∈ ts, t.1 ≠ 0 ∧ 0 ≤ t.2 ∧ t.2 ≤ 60
structure Nf (ts : List Trm) (u : Int) : Prop where
  d : Desc ts
  pos : 0 < u
  gcd : gcdF u ts = 1
def nrT (p : Int) (ts : List Trm) : List Trm := ts.map fun t => (t.1 / gcdF p ts, t.2)
def nrP (p : Int) (ts : List Trm) : Int := p / gcdF p ts
theorem nr_back {p : Int} {ts : List Trm} (hp : 0 < p) : p = gcdF p ts * nrP p ts ∧ ts = (nrT p ts).map fun t => (gcdF p ts * t.1, t.2) := by
  have h := gcdF_dvd ts p
  refine ⟨(Int.mul_ediv_cancel' h.1).symm, ?_⟩
  unfold nrT
  rw [List.map_map]
  conv => lhs; rw [← List.map_id ts]
  refine List.map_congr_left fun t m => ?_
  show t = (gcdF p ts * (t.1 / gcdF p ts), t.2)
  rw [Int.mul_ediv_cancel' (h.2 t m)]
theorem nf_norm {p : Int} {ts : List Trm} (hp : 0 < p) (D : Desc ts) : Nf (nrT p ts) (nrP p ts) := by
  have hd := gcdF_pos ts hp
  obtain ⟨e1, e2⟩ := nr_back (ts := ts) hp
  have hpos : 0 < nrP p ts := by
    rcases Int.lt_or_le 0 (nrP p ts) with h | h
    · exact h
    · have := Int.mul_nonpos_of_nonneg_of_nonpos (Int.le_of_lt hd) h
      omega
  refine ⟨⟨?_, fun t m => ?_⟩, hpos, ?_⟩
  · unfold nrT
    rw [List.pairwise_map]
    exact D.desc
  · unfold nrT at m
    obtain ⟨t', m', rfl⟩ := List.mem_map.mp m
    obtain ⟨a, b, c⟩ := D.ok t' m'
    refine ⟨fun z => a ?_, b, c⟩
    have := Int.mul_ediv_cancel' ((gcdF_dvd ts p).2 t' m')
    have z' : t'.1 / gcdF p ts = 0 := z
    rw [z', Int.mul_zero] at this
    exact this.symm
  · have h := gcdF_mul hd (nrT p ts) (nrP p ts)
    rw [← e2, ← e1] at h
    have : gcdF p ts * gcdF (nrP p ts) (nrT p ts) = gcdF p ts * 1 := by rw [← h, Int.mul_one]
    exact Int.eq_of_mul_eq_mul_left (by omega) this
theorem ev_mul (k : Int) (f : Int → Rat) : ∀ ts : List Trm, ev (ts.map fun t => (k * t.1, t.2)) f = (k : Rat) * ev ts f
  | [] => by rw [List.map_nil, ev_nil, Rat.mul_zero]
  | t :: ts => by
    rw [List.map_cons, ev_cons, ev_cons, ev_mul k f ts, Rat.intCast_mul]
    grind
theorem ev_norm {p : Int} {ts : List Trm} (hp : 0 < p) (f : Int → Rat) : ev (nrT p ts) f / (nrP p ts : Rat) = ev ts f / (p : Rat) := by
  have hd := gcdF_pos ts hp
  obtain ⟨e1, e2⟩ := nr_back (ts := ts) hp
  have h := ev_mul (gcdF p ts) f (nrT p ts)
  rw [← e2] at h
  have h2 : (p : Rat) = (gcdF p ts : Rat) * (nrP p ts : Rat) := by rw [← Rat.intCast_mul, ← e1]
  have hk : (gcdF p ts : Rat) ≠ 0 := fun z => by
    have := Rat.intCast_eq_zero_iff.mp z
    omega
  have hn : (nrP p ts : Rat) ≠ 0 := fun z => by
    have := Rat.intCast_eq_zero_iff.mp z
    rw [this, Int.mul_zero] at e1
    omega
  rw [h, h2]
  grind
/-! ### sums of fractions -/
def lcmS (p : Int) (d : Int) : Int := p / (Int.gcd p d : Nat) * (if d < 0 then -d else d)
theorem lcmS_eq {p d : Int} (hp : 0 < p) : lcmS p d = ((Int.lcm p d : Nat) : Int) := by
  unfold lcmS Int.lcm
  obtain ⟨P, rfl⟩ := Int.eq_ofNat_of_zero_le (Int.le_of_lt hp)
  have e : (if d < 0 then -d else d) = ((d.natAbs : Nat) : Int) := by split <;> omega
  rw [e]
  have g : Int.gcd (P : Int) d = Nat.gcd P d.natAbs := rfl
  rw [g, Int.natAbs_natCast, Nat.lcm]
  rw [Nat.mul_comm, Nat.mul_div_assoc _ (Nat.gcd_dvd_left P d.natAbs), Nat.mul_comm]
  push_cast
  rfl
theorem lcmS_pos {p d : Int} (hp : 0 < p) (hd : d ≠ 0) : 0 < lcmS p d := by
  rw [lcmS_eq hp]
  have := Nat.lcm_pos (m := p.natAbs) (n := d.natAbs) (by omega) (by omega)
  exact Int.natCast_pos.mpr this
theorem lcmS_left {p d : Int} (hp : 0 < p) : p ∣ lcmS p d := by
  rw [lcmS_eq hp]
  exact Int.dvd_trans (Int.dvd_natAbs.mpr (Int.dvd_refl p)) (Int.natCast_dvd_natCast.mpr (Nat.dvd_lcm_left _ _))
theorem lcmS_right {p d : Int} (hp : 0 < p) : d ∣ lcmS p d := by
  rw [lcmS_eq hp]
  exact Int.dvd_trans (Int.dvd_natAbs.mpr (Int.dvd_refl d)) (Int.natCast_dvd_natCast.mpr (Nat.dvd_lcm_right _ _))
theorem lcmS_dvd {p d M : Int} (hp : 0 < p) (h1 : p ∣ M) (h2 : d ∣ M) : lcmS p d ∣ M := by
  rw [lcmS_eq hp]
  exact Int.dvd_trans (Int.natCast_dvd_natCast.mpr (Nat.lcm_dvd (Int.natAbs_dvd_natAbs.mpr h1) (Int.natAbs_dvd_natAbs.mpr h2))) (Int.natAbs_dvd.mpr (Int.dvd_refl M))
def lcmL (p : Int) (fr : List Frc) : Int := fr.foldl (fun p x => lcmS p x.2.2) p
theorem lcmL_ok {M : Int} : ∀ (fr : List Frc) {p : Int}, 0 < p → p ∣ M → (∀ x ∈ fr, x.2.2 ≠ 0 ∧ x.2.2 ∣ M) → 0 < lcmL p fr ∧ lcmL p fr ∣ M ∧ p ∣ lcmL p fr ∧ ∀ x ∈ fr, x.2.2 ∣ lcmL p fr
  | [], p, h, hM, _ => ⟨h, hM, Int.dvd_refl p, fun x m => nomatch m⟩
  | a :: fr, p, h, hM, hx => by
    obtain ⟨h1, h2⟩ := hx a List.mem_cons_self
    obtain ⟨k1, k2, k3, k4⟩ := lcmL_ok fr (lcmS_pos h h1) (lcmS_dvd h hM h2) fun x m => hx x (List.mem_cons_of_mem _ m)
    refine ⟨k1, k2, Int.dvd_trans (lcmS_left h) k3, fun x m => ?_⟩
    rcases List.mem_cons.mp m with z | z
    · subst z; exact Int.dvd_trans (lcmS_right h) k3
    · exact k4 x z
def cof (fr : List Frc) (P b : Int) : Int := ((fr.filter fun x => decide (x.1 = b)).map fun x => x.2.1 * P.fdiv x.2.2).sum
theorem cof_cons (a : Frc) (fr : List Frc) (P b : Int) : cof (a :: fr) P b = (if a.1 = b then a.2.1 * P.fdiv a.2.2 else 0) + cof fr P b := by
  unfold cof
  by_cases h : a.1 = b
  · rw [List.filter_cons_of_pos (by simpa using h), if_pos h, List.map_cons, List.sum_cons]
  · rw [List.filter_cons_of_neg (by simpa using h), if_neg h, Int.zero_add]
def trmAt (fr : List Frc) (P : Int) (i : Nat) : Trm := (cof fr P (60 - (i : Int)), 60 - (i : Int))
def trms (fr : List Frc) (P : Int) (n : Nat) : List Trm := ((List.range n).map (trmAt fr P)).filter fun t => decide (t.1 ≠ 0)
theorem trms_succ (fr : List Frc) (P : Int) (n : Nat) : trms fr P (n + 1) = trms fr P n ++ if (trmAt fr P n).1 ≠ 0 then [trmAt fr P n] else [] := by
  unfold trms
  rw [List.range_succ, List.map_append, List.filter_append]
  congr 1
  by_cases h : (trmAt fr P n).1 = 0
  · simp [h]
  · simp [h]
theorem trms_desc (fr : List Frc) (P : Int) : Desc (trms fr P 61) := by
  refine ⟨?_, fun t m => ?_⟩
  · unfold trms
    refine List.Pairwise.filter _ ?_
    rw [List.pairwise_map]
    exact List.pairwise_lt_range.imp fun {a b} h => by show 60 - (b : Int) < 60 - (a : Int); omega
  · unfold trms at m
    obtain ⟨m1, m2⟩ := List.mem_filter.mp m
    obtain ⟨i, hi, rfl⟩ := List.mem_map.mp m1
    have := List.mem_range.mp hi
    refine ⟨by simpa using m2, ?_, ?_⟩
    · show 0 ≤ 60 - (i : Int); omega
    · show 60 - (i : Int) ≤ 60; omega
theorem ev_filter (f : Int → Rat) : ∀ ts : List Trm, ev (ts.filter fun t => decide (t.1 ≠ 0)) f = ev ts f
  | [] => rfl
  | t :: ts => by
    by_cases h : t.1 = 0
    · rw [List.filter_cons_of_neg (by simpa using h), ev_filter f ts, ev_cons, h]
      have : ((0 : Int) : Rat) = 0 := rfl
      rw [this, Rat.zero_mul, Rat.zero_add]
    · rw [List.filter_cons_of_pos (by simpa using h), ev_cons, ev_cons, ev_filter f ts]
theorem ev_add (f : Int → Rat) (g h : Nat → Int) (b : Nat → Int) : ∀ l : List Nat, ev (l.map fun i => (g i + h i, b i)) f = ev (l.map fun i => (g i, b i)) f + ev (l.map fun i => (h i, b i)) f
  | [] => by simp [ev_nil, Rat.add_zero]
  | i :: l => by
    rw [List.map_cons, List.map_cons, List.map_cons, ev_cons, ev_cons, ev_cons, ev_add f g h b l, Rat.intCast_add]
    grind
theorem ev_zero (f : Int → Rat) (b : Nat → Int) : ∀ l : List Nat, ev (l.map fun i => ((0 : Int), b i)) f = 0
  | [] => rfl
  | i :: l => by
    rw [List.map_cons, ev_cons, ev_zero f b l]
    have : ((0 : Int) : Rat) = 0 := rfl
    show ((0 : Int) : Rat) * f (b i) + 0 = 0
    rw [this]
    grind
theorem ev_one (f : Int → Rat) (v : Int) : ∀ (n m : Nat), m < n → ev ((List.range n).map fun i : Nat => ((if (60 - (m : Int)) = 60 - (i : Int) then v else 0), 60 - (i : Int))) f = (v : Rat) * f (60 - (m : Int))
  | n + 1, m, h => by
    rw [List.range_succ, List.map_append]
    have app : ∀ a b : List Trm, ev (a ++ b) f = ev a f + ev b f := fun a b => by
      induction a with
      | nil => rw [List.nil_append, ev_nil, Rat.zero_add]
      | cons t a ih => rw [List.cons_append, ev_cons, ev_cons, ih, Rat.add_assoc]
    rw [app]
    by_cases e : m = n
    · subst e
      have z : ((List.range m).map fun i : Nat => (((if (60 - (m : Int)) = 60 - (i : Int) then v else 0), 60 - (i : Int)) : Trm)) = (List.range m).map fun i : Nat => (((0 : Int), 60 - (i : Int)) : Trm) := by
        refine List.map_congr_left fun i mi => ?_
        have := List.mem_range.mp mi
        rw [if_neg (by omega)]
      rw [z, ev_zero f (fun i : Nat => 60 - (i : Int))]
      rw [List.map_singleton, ev_cons, ev_nil, if_pos rfl]
      grind
    · rw [ev_one f v n m (by omega), List.map_singleton, ev_cons, ev_nil, if_neg (by omega)]
      have : ((0 : Int) : Rat) = 0 := rfl
      show _ + (((0 : Int) : Rat) * _ + 0) = _
      rw [this]
      grind
theorem ev_trms (f : Int → Rat) (P : Int) (hP : 0 < P) : ∀ fr : List Frc, (∀ x ∈ fr, 0 ≤ x.1 ∧ x.1 ≤ 60 ∧ x.2.2 ≠ 0 ∧ x.2.2 ∣ P) → ev ((List.range 61).map (trmAt fr P)) f = (P : Rat) * fv fr f
  | [], _ => by
    have : (List.range 61).map (trmAt [] P) = (List.range 61).map fun i : Nat => (((0 : Int), 60 - (i : Int)) : Trm) := rfl
    rw [this, ev_zero f (fun i : Nat => 60 - (i : Int)), fv_nil, Rat.mul_zero]
  | a :: fr, h => by
    obtain ⟨h1, h2, h3, h4⟩ := h a List.mem_cons_self
    have ih := ev_trms f P hP fr fun x m => h x (List.mem_cons_of_mem _ m)
    have e : (List.range 61).map (trmAt (a :: fr) P) = (List.range 61).map fun i : Nat => (((if a.1 = 60 - (i : Int) then a.2.1 * P.fdiv a.2.2 else 0) + cof fr P (60 - (i : Int)), 60 - (i : Int)) : Trm) :=
      List.map_congr_left fun i _ => by unfold trmAt; rw [cof_cons]
    rw [e, ev_add f _ _ (fun i : Nat => 60 - (i : Int))]
    have e2 : (List.range 61).map (fun i : Nat => ((cof fr P (60 - (i : Int)), 60 - (i : Int)) : Trm)) = (List.range 61).map (trmAt fr P) := rfl
    rw [e2, ih, fv_cons]
    have em : a.1 = 60 - (((60 - a.1).toNat : Nat) : Int) := by omega
    have e3 := ev_one f (a.2.1 * P.fdiv a.2.2) 61 (60 - a.1).toNat (by omega)
    rw [← em] at e3
    rw [e3, Rat.intCast_mul]
    obtain ⟨k, hk⟩ := h4
    have e4 : P.fdiv a.2.2 = k := by rw [hk]; exact Int.mul_fdiv_cancel_left k h3
    have e5 : (P : Rat) = (a.2.2 : Rat) * (k : Rat) := by rw [← Rat.intCast_mul, ← hk]
    have h3' : (a.2.2 : Rat) ≠ 0 := fun z => h3 (Rat.intCast_eq_zero_iff.mp z)
    rw [e4, e5]
    grind
/-! ### one form for one reading -/
def ind (b : Int) : Int → Rat := fun x => if x = b then 1 else 0
theorem ev_ind_out {b : Int} : ∀ {ts : List Trm}, (∀ t ∈ ts, t.2 ≠ b) → ev ts (ind b) = 0
  | [], _ => rfl
  | t :: ts, h => by
    rw [ev_cons, ev_ind_out fun x m => h x (List.mem_cons_of_mem _ m)]
    unfold ind
    rw [if_neg (h t List.mem_cons_self), Rat.mul_zero, Rat.zero_add]
theorem ev_ind_in : ∀ {ts : List Trm}, (ts.Pairwise fun x y => y.2 < x.2) → ∀ t ∈ ts, ev ts (ind t.2) = (t.1 : Rat)
  | [], _, t, m => nomatch m
  | a :: ts, h, t, m => by
    obtain ⟨h1, h2⟩ := List.pairwise_cons.mp h
    rw [ev_cons]
    rcases List.mem_cons.mp m with z | z
    · subst z
      rw [ev_ind_out fun x mx => by have := h1 x mx; omega]
      unfold ind
      rw [if_pos rfl, Rat.mul_one, Rat.add_zero]
    · rw [ev_ind_in h2 t z]
      unfold ind
      rw [if_neg (by have := h1 t z; omega), Rat.mul_zero, Rat.zero_add]
theorem nf_other {ts ts' : List Trm} {u u' : Int} (h : Nf ts u) (h' : Nf ts' u') (e : ∀ f, ev ts f / (u : Rat) = ev ts' f / (u' : Rat)) {t : Trm} (m : t ∈ ts) : ∃ t' ∈ ts', t'.2 = t.2 ∧ t.1 * u' = t'.1 * u := by
  have hu : (u : Rat) ≠ 0 := fun z => by have := Rat.intCast_eq_zero_iff.mp z; have := h.pos; omega
  have hu' : (u' : Rat) ≠ 0 := fun z => by have := Rat.intCast_eq_zero_iff.mp z; have := h'.pos; omega
  have e1 := e (ind t.2)
  rw [ev_ind_in h.d.desc t m] at e1
  by_cases q : ∃ t' ∈ ts', t'.2 = t.2
  · obtain ⟨t', m', hb⟩ := q
    refine ⟨t', m', hb, ?_⟩
    rw [← hb, ev_ind_in h'.d.desc t' m'] at e1
    have e2 : (t.1 : Rat) * (u' : Rat) = (t'.1 : Rat) * (u : Rat) := by grind
    rw [← Rat.intCast_mul, ← Rat.intCast_mul] at e2
    exact Rat.intCast_inj.mp e2
  · rw [ev_ind_out fun x mx z => q ⟨x, mx, z⟩] at e1
    have e2 : (t.1 : Rat) = 0 := by grind
    exact absurd (Rat.intCast_eq_zero_iff.mp e2) (h.d.ok t m).1
theorem nf_dvd {ts ts' : List Trm} {u u' : Int} (h : Nf ts u) (h' : Nf ts' u') (e : ∀ f, ev ts f / (u : Rat) = ev ts' f / (u' : Rat)) : u ∣ u' := by
  have g := gcdF_mul h'.pos ts u
  rw [h.gcd, Int.mul_one] at g
  rw [← g]
  refine gcdF_greatest _ _ (Int.dvd_mul_left u' u) fun t m => ?_
  obtain ⟨t0, m0, rfl⟩ := List.mem_map.mp m
  obtain ⟨t', m', _, e1⟩ := nf_other h h' e m0
  refine ⟨t'.1, ?_⟩
  show u' * t0.1 = u * t'.1
  rw [Int.mul_comm u' t0.1, e1, Int.mul_comm]
theorem desc_eq {ts ts' : List Trm} (h : ts.Pairwise fun x y => y.2 < x.2) (h' : ts'.Pairwise fun x y => y.2 < x.2) (e : ∀ t, t ∈ ts ↔ t ∈ ts') : ts = ts' := by
  have n1 : ts.Nodup := h.imp fun {a b} l z => by subst z; omega
  have n2 : ts'.Nodup := h'.imp fun {a b} l z => by subst z; omega
  have p : ts.Perm ts' := (List.perm_ext_iff_of_nodup n1 n2).mpr e
  exact List.Perm.eq_of_pairwise (fun x y _ _ h1 h2 => by omega) h h' p
theorem nf_uniq {ts ts' : List Trm} {u u' : Int} (h : Nf ts u) (h' : Nf ts' u') (e : ∀ f, ev ts f / (u : Rat) = ev ts' f / (u' : Rat)) : ts = ts' ∧ u = u' := by
  have eu : u = u' := Int.dvd_antisymm (Int.le_of_lt h.pos) (Int.le_of_lt h'.pos) (nf_dvd h h' e) (nf_dvd h' h fun f => (e f).symm)
  subst eu
  refine ⟨desc_eq h.d.desc h'.d.desc fun t => ⟨fun m => ?_, fun m => ?_⟩, rfl⟩
  · obtain ⟨t', m', hb, e1⟩ := nf_other h h' e m
    have : t.1 = t'.1 := Int.eq_of_mul_eq_mul_right (by have := h.pos; omega) e1
    have : t = t' := Prod.ext this hb.symm
    rw [this]; exact m'
  · obtain ⟨t', m', hb, e1⟩ := nf_other h' h (fun f => (e f).symm) m
    have : t.1 = t'.1 := Int.eq_of_mul_eq_mul_right (by have := h.pos; omega) e1
    have : t = t' := Prod.ext this hb.symm
    rw [this]; exact m'
/-- the form at base c alone -/
theorem nf_one {c : Int} (h0 : 0 ≤ c) (h1 : c ≤ 60) : Nf [(1, c)] 1 := ⟨⟨by simp, by simp [h0, h1]⟩, by decide, by show ((Int.gcd 1 1 : Nat) : Int) = 1; decide⟩
theorem nf_zero : Nf [] 1 := ⟨⟨.nil, fun t m => nomatch m⟩, by decide, rfl⟩
theorem desc_len : ∀ {ts : List Trm} {b : Int}, (ts.Pairwise fun x y => y.2 < x.2) → (∀ t ∈ ts, 0 ≤ t.2 ∧ t.2 < b) → (ts.length : Int) ≤ max b 0
  | [], b, _, _ => by simp; omega
  | t :: ts, b, h, h2 => by
    obtain ⟨k1, k2⟩ := List.pairwise_cons.mp h
    have := desc_len (b := t.2) k2 fun x m => ⟨(h2 x (List.mem_cons_of_mem _ m)).1, k1 x m⟩
    have := h2 t List.mem_cons_self
    rw [List.length_cons]
    omega
theorem Desc.len {ts : List Trm} (h : Desc ts) : ts.length ≤ 61 := by
  have := desc_len (b := 61) h.desc fun t m => by have := h.ok t m; omega
  omega
theorem ev_sum (f : Int → Int) : ∀ ts : List Trm, (((ts.map fun t => t.1 * f t.2).sum : Int) : Rat) = ev ts fun b => (f b : Rat)
  | [] => rfl
  | t :: ts => by
    rw [List.map_cons, List.sum_cons, ev_cons, Rat.intCast_add, Rat.intCast_mul, ev_sum f ts]
end SD
end
section
set_option Elab.async false
set_option linter.all false
set_option maxRecDepth 100000
set_option maxHeartbeats 4000000
/-! ### forms -/
namespace SD
open PySem PySem.Spec PyProof.Rows L2
def TermV (H : Hp) (v : V) (t : Trm) : Prop := ∃ a, v = .ref a ∧ H a = some (.tup [.int t.1, .int t.2])
def FracV (H : Hp) (v : V) (x : Frc) : Prop := ∃ a, v = .ref a ∧ H a = some (.tup [.int x.1, .int x.2.1, .int x.2.2])
theorem TermV.same {H G : Hp} {v : V} {t : Trm} (e : Same H G) (h : TermV H v t) : TermV G v t := let ⟨a, h1, h2⟩ := h; ⟨a, h1, e _ _ h2⟩
theorem FracV.same {H G : Hp} {v : V} {t : Frc} (e : Same H G) (h : FracV H v t) : FracV G v t := let ⟨a, h1, h2⟩ := h; ⟨a, h1, e _ _ h2⟩
theorem terms_same {H G : Hp} {us : List V} {ts : List Trm} (e : Same H G) (h : Paired (TermV H) us ts) : Paired (TermV G) us ts := paired_mono (fun v t p => p.same e) h
theorem fracs_same {H G : Hp} {us : List V} {ts : List Frc} (e : Same H G) (h : Paired (FracV H) us ts) : Paired (FracV G) us ts := paired_mono (fun v t p => p.same e) h
theorem termV_upd {G : Hp} {D : Addr} {o u : HO} {v : V} {t : Trm} (hf : G D = some u) (hu : ∀ xs, u ≠ .tup xs) (h : TermV G v t) : TermV (upd G D o) v t := by
  obtain ⟨a, rfl, h2⟩ := h
  exact ⟨a, rfl, by rw [upd_ne (ne_of h2 hf (fun z => hu _ z.symm))]; exact h2⟩
theorem fracV_upd {G : Hp} {D : Addr} {o u : HO} {v : V} {t : Frc} (hf : G D = some u) (hu : ∀ xs, u ≠ .tup xs) (h : FracV G v t) : FracV (upd G D o) v t := by
  obtain ⟨a, rfl, h2⟩ := h
  exact ⟨a, rfl, by rw [upd_ne (ne_of h2 hf (fun z => hu _ z.symm))]; exact h2⟩
theorem termV_but {x : Addr} {H G : Hp} {u : HO} {v : V} {t : Trm} (e : But x H G) (hx : H x = some u) (hu : ∀ xs, u ≠ .tup xs) (h : TermV H v t) : TermV G v t := by
  obtain ⟨a, rfl, h2⟩ := h
  exact ⟨a, rfl, e _ _ (ne_of h2 hx (fun z => hu _ z.symm)) h2⟩
def FormV (K : PySem.W.Frag) (H : Hp) (v : V) (ts : List Trm) (u : Int) : Prop := ∃ x dx a us, v = .ref x ∧ H x = some (.ins (aF K) dx [("sums", .ref a), ("under", .int u)]) ∧ H a = some (.tup us) ∧ Paired (TermV H) us ts
theorem FormV.same {K : PySem.W.Frag} {H G : Hp} {v : V} {ts : List Trm} {u : Int} (e : Same H G) (h : FormV K H v ts u) : FormV K G v ts u := by
  obtain ⟨x, dx, a, us, h1, h2, h3, h4⟩ := h
  exact ⟨x, dx, a, us, h1, e _ _ h2, e _ _ h3, terms_same e h4⟩
abbrev s_is_term : Stmt := top 55
abbrev N_is_term : List Str := ["value"]
theorem sc_is_term : FnScope N_is_term ["value"] (defScope s_is_term) := ⟨rfl, rfl, rfl, by decide +kernel, rfl, by decide +kernel, by decide +kernel⟩
abbrev s_wrong_term : Stmt := top 56
abbrev N_wrong_term : List Str := ["terms", "k", "term"]
theorem sc_wrong_term : FnScope N_wrong_term ["terms"] (defScope s_wrong_term) := ⟨rfl, rfl, rfl, by decide +kernel, rfl, by decide +kernel, by decide +kernel⟩
abbrev s_shared_divisor : Stmt := top 57
abbrev N_shared_divisor : List Str := ["terms", "parts", "divisor", "coefficient", "base"]
theorem sc_shared_divisor : FnScope N_shared_divisor ["terms", "parts"] (defScope s_shared_divisor) := ⟨rfl, rfl, rfl, by decide +kernel, rfl, by decide +kernel, by decide +kernel⟩
abbrev s_Form_init : Stmt := inClass (top 58) 0
abbrev N_Form_init : List Str := ["self", "terms", "parts", "wrong", "divisor", "coefficient", "base"]
theorem sc_Form_init : FnScope N_Form_init ["self", "terms", "parts"] (defScope s_Form_init) := ⟨rfl, rfl, rfl, by decide +kernel, rfl, by decide +kernel, by decide +kernel⟩
abbrev s_Form_terms : Stmt := inClass (top 58) 2
abbrev N_Form_terms : List Str := ["self"]
theorem sc_Form_terms : FnScope N_Form_terms ["self"] (defScope s_Form_terms) := ⟨rfl, rfl, rfl, by decide +kernel, rfl, by decide +kernel, by decide +kernel⟩
abbrev s_Form_parts : Stmt := inClass (top 58) 3
abbrev N_Form_parts : List Str := ["self"]
theorem sc_Form_parts : FnScope N_Form_parts ["self"] (defScope s_Form_parts) := ⟨rfl, rfl, rfl, by decide +kernel, rfl, by decide +kernel, by decide +kernel⟩
abbrev s_Form_add : Stmt := inClass (top 58) 6
abbrev N_Form_add : List Str := ["self", "other", "mine", "coefficient", "base"]
theorem sc_Form_add : FnScope N_Form_add ["self", "other"] (defScope s_Form_add) := ⟨rfl, rfl, rfl, by decide +kernel, rfl, by decide +kernel, by decide +kernel⟩
abbrev s_Form_eq : Stmt := inClass (top 58) 14
abbrev N_Form_eq : List Str := ["self", "other"]
theorem sc_Form_eq : FnScope N_Form_eq ["self", "other"] (defScope s_Form_eq) := ⟨rfl, rfl, rfl, by decide +kernel, rfl, by decide +kernel, by decide +kernel⟩
abbrev s_form_of : Stmt := top 62
abbrev N_form_of : List Str := ["fractions", "parts", "base", "numerator", "denominator", "terms", "coefficient", "one", "over", "under"]
theorem sc_form_of : FnScope N_form_of ["fractions"] (defScope s_form_of) := ⟨rfl, rfl, rfl, by decide +kernel, rfl, by decide +kernel, by decide +kernel⟩
abbrev s_check_form : Stmt := top 63
abbrev N_check_form : List Str := ["form"]
theorem sc_check_form : FnScope N_check_form ["form"] (defScope s_check_form) := ⟨rfl, rfl, rfl, by decide +kernel, rfl, by decide +kernel, by decide +kernel⟩
def sp_is_term : Sp := fun vs H Q _ => ∃ (a : Addr) (t : Trm), vs = [.ref a] ∧ H a = some (.tup [.int t.1, .int t.2]) ∧ t.1 ≠ 0 ∧ 0 ≤ t.2 ∧ t.2 ≤ 60 ∧ Q (.bl true) H
def sp_wrong_term : Sp := fun vs H Q _ => ∃ a us ts, vs = [.ref a] ∧ H a = some (.tup us) ∧ Paired (TermV H) us ts ∧ Desc ts ∧ ∀ H', Same H H' → Q (.int (-1)) H'
def sp_shared_divisor : Sp := fun vs H Q _ => ∃ a us ts p, vs = [.ref a, .int p] ∧ H a = some (.tup us) ∧ Paired (TermV H) us ts ∧ ∀ H', Same H H' → Q (.int (gcdF p ts)) H'
def sp_Form_init (K : PySem.W.Frag) : Sp := fun vs H Q _ => ∃ x dx a us ts p, vs = [.ref x, .ref a, .int p] ∧ H x = some (.ins (aF K) dx []) ∧ H a = some (.tup us) ∧ Paired (TermV H) us ts ∧ Desc ts ∧ 0 < p ∧ p < 1073741824 ∧
  ∀ a' us' H', But x H H' → H' x = some (.ins (aF K) dx [("sums", .ref a'), ("under", .int (nrP p ts))]) → H' a' = some (.tup us') → Paired (TermV H') us' (nrT p ts) → Q .non H'
def sp_Form_terms (K : PySem.W.Frag) : Sp := fun vs H Q _ => ∃ x ts u, vs = [.ref x] ∧ FormV K H (.ref x) ts u ∧ ∀ a us, H a = some (.tup us) → Paired (TermV H) us ts → Q (.ref a) H
def sp_Form_parts (K : PySem.W.Frag) : Sp := fun vs H Q _ => ∃ x ts u, vs = [.ref x] ∧ FormV K H (.ref x) ts u ∧ Q (.int u) H
def sp_form_of (K : PySem.W.Frag) : Sp := fun vs H Q _ => ∃ l us fr M, vs = [.ref l] ∧ H l = some (.lst us) ∧ Paired (FracV H) us fr ∧ fr.length ≤ 1000 ∧ 0 < M ∧ M < 1073741824 ∧ (∀ x ∈ fr, 0 ≤ x.1 ∧ x.1 ≤ 60 ∧ x.2.2 ≠ 0 ∧ x.2.2 ∣ M) ∧
  ∀ x ts u H', Same H H' → FormV K H' (.ref x) ts u → Nf ts u → u ∣ M → (∀ f, ev ts f / (u : Rat) = fv fr f) → Q (.ref x) H'
def sp_check_form (K : PySem.W.Frag) : Sp := fun vs H Q _ => ∃ x ts u, vs = [.ref x] ∧ FormV K H (.ref x) ts u ∧ Q .non H
def sp_Form_add (K : PySem.W.Frag) : Sp := fun vs H Q _ => ∃ x y ts1 u1 ts2 u2 M, vs = [.ref x, .ref y] ∧ FormV K H (.ref x) ts1 u1 ∧ FormV K H (.ref y) ts2 u2 ∧ Nf ts1 u1 ∧ Nf ts2 u2 ∧ 0 < M ∧ M < 1073741824 ∧ u1 ∣ M ∧ u2 ∣ M ∧
  ∀ z ts u H', Same H H' → FormV K H' (.ref z) ts u → Nf ts u → u ∣ M → (∀ f, ev ts f / (u : Rat) = ev ts1 f / (u1 : Rat) + ev ts2 f / (u2 : Rat)) → Q (.ref z) H'
def sp_Form_eq (K : PySem.W.Frag) : Sp := fun vs H Q _ => ∃ x y ts u, vs = [.ref x, .ref y] ∧ FormV K H (.ref x) ts u ∧ FormV K H (.ref y) ts u ∧ Q (.bl true) H
section
variable {P : Program} {w : World} {K : PySem.W.Frag} {mg : Str → Option Value} {base : Heap}
theorem cl_is_term (T : Tops K mg) : Cl P w K mg base 3 "is_term" ["value"] sp_is_term := by
  refine .of T.f_is_term sc_is_term (fun _ _ _ _ _ _ us hl => match us, hl with | [_], _ => rfl) (fun vs H Q E h => ?_) fun f cdv A outer s H vs Q E hr h => ?_
  · obtain ⟨_, _, rfl, _⟩ := h; rfl
  obtain ⟨a, t, rfl, ha, h1, h2, h3, q⟩ := h
  refine ⟨_, (pss_cons (ps_if (PW.pt (pw_or (pt_not (pt_val (pe_callB (call_isiK' (K := K) rfl) (by rfl) (T.nn "isinstance") rfl (pa_cons (pv 0) (pa_cons (pe_bltn (v := .ty "tuple") (by rfl) (T.nn "tuple") rfl rfl) pa_nil))))) (pw_or (pt_cmpR op_ne (pe_callB (call_len_seqK (K := K) rfl) (by rfl) (T.nn "len") rfl (pa_cons (pv 0) pa_nil)) pe_int (nomark _)) (pw_or (pt_not (pt_val (pe_cl (cl_is_integer T) hr (by decide) rfl (pa_cons (pe_ix (ix_tupK (K := K) rfl) (pv 0) pe_int (fun _ _ => rfl)) pa_nil)))) (pw_or1 (pt_cmpR op_eq (pe_ix (ix_tupK (K := K) rfl) (pv 0) pe_int (fun _ _ => rfl)) pe_int (nomark _)))))))
       (pss_one (ps_ret pe_bl))
       pss_nil)
      (pss_one (ps_ret (pe_and (pe_cl (cl_is_natural T) hr (by decide) rfl (pa_cons (pe_ix (ix_tupK (K := K) rfl) (pv 0) pe_int (fun _ _ => rfl)) pa_nil)) (pe_one (pe_cmpR op_le (pe_ix (ix_tupK (K := K) rfl) (pv 0) pe_int (fun _ _ => rfl)) (C8.pe_gc rfl T.cMOST_TICKETS) (nomark _))))))) , ?_⟩
  refine ⟨_, rfl, _, _, _, _, true, rfl, .ty "tuple", rd_tuple (.of ha), kit_tup, true, rfl, iteF ?_⟩
  refine ⟨_, rfl, a, _, rfl, .inr (.of ha), rfl, false, blN rfl, iteF ?_⟩
  refine ⟨_, rfl, a, _, _, .int t.1, rfl, rfl, .of ha, rfl, t.1, rfl, true, rfl, iteF ?_⟩
  refine ⟨_, rfl, a, _, _, .int t.1, rfl, rfl, .of ha, rfl, rfl, false, blF (fun z => h1 (by injection z)), iteF ?_⟩
  refine ⟨_, rfl, a, _, _, .int t.2, rfl, rfl, .of ha, rfl, t.2, rfl, true, blT h2, iteT ?_⟩
  refine ⟨_, rfl, a, _, _, .int t.2, rfl, rfl, .of ha, rfl, t.2, 60, rfl, rfl, ?_⟩
  show Q (.bl (decide (t.2 ≤ 60))) H
  rw [decide_eq_true h3]
  exact q
theorem cl_wrong_term (T : Tops K mg) : Cl P w K mg base 4 "wrong_term" ["terms"] sp_wrong_term := by
  refine .of T.f_wrong_term sc_wrong_term (fun _ _ _ _ _ _ us hl => match us, hl with | [_], _ => rfl) (fun vs H Q E h => ?_) fun f cdv A outer s H vs Q E hr h => ?_
  · obtain ⟨_, _, _, rfl, _⟩ := h; rfl
  obtain ⟨a, us, ts, rfl, ha, hp, D, q⟩ := h
  refine ⟨_, (pss_cons (ps_if (pt_not (pt_val (pe_callB (call_isiK' (K := K) rfl) (by rfl) (T.nn "isinstance") rfl (pa_cons (pv 0) (pa_cons (pe_bltn (v := .ty "tuple") (by rfl) (T.nn "tuple") rfl rfl) pa_nil)))))
       (pss_one (ps_ret pe_non))
       pss_nil)
      (pss_cons (ps_for PassesOwn.never rfl (pi_enumTK (K := K) rfl (by rfl) (T.nn "enumerate") (pa_cons (pv 0) pa_nil)) (pg_tupK (K := K) (n := 2) rfl rfl (pgs_cons (pg_name (i := 1) sc_wrong_term.nd rfl (Or.inl rfl)) (pgs_cons (pg_name (i := 2) sc_wrong_term.nd rfl (Or.inl rfl)) pgs_nil)))
       (pss_one (ps_if (PW.pt (pw_or (pt_not (pt_val (pe_cl (cl_is_term T) hr (by decide) rfl (pa_cons (pv 2) pa_nil)))) (pw_or1 (PW.pt (pw_and (pt_cmpR op_gt (pv 1) pe_int (nomark _)) (pw_and1 (pt_cmpR op_ge (pe_ix (ix_tupK (K := K) rfl) (pv 2) pe_int (fun _ _ => rfl)) (pe_ix (ix_tupK (K := K) rfl) (pe_ix (ix_tupK (K := K) rfl) (pv 0) (pe_op op_sub (pv 1) pe_int) (fun _ _ => rfl)) pe_int (fun _ _ => rfl)) (nomark _))))))))
       (pss_one (ps_ret (pv 1)))
       pss_nil)))
      (pss_one (ps_ret (pe_un un_neg pe_int))))) , ?_⟩
  refine ⟨_, rfl, _, _, _, _, true, rfl, .ty "tuple", rd_tuple (.of ha), kit_tup, true, rfl, iteF ?_⟩
  refine ⟨_, rfl, a, _, rfl, .of ha, ?_⟩
  refine for_enumT (xs := us) (fun i σ' H' => (∃ u v, σ' = [some (.ref a), u, v]) ∧ Same H H') ⟨⟨_, _, rfl⟩, .refl _⟩ (fun i σ' H' _ p => .of (p.2 _ _ ha)) (fun i x σ' H' T' hx hh hT => ?_) fun σ' H' hh => ?_
  · obtain ⟨⟨u, v, rfl⟩, e⟩ := hh
    obtain ⟨t, ht, b, rfl, hb⟩ := paired_at hp hx
    have mt := List.mem_of_getElem? ht
    have hi : i < ts.length := (List.getElem?_eq_some_iff.mp ht).1
    have e1 : Same H (upd H' T' (.tup [.int (i : Nat), .ref b])) := e.trans (same_new hT)
    obtain ⟨k1, k2, k3⟩ := D.ok t mt
    refine ⟨T', _, rfl, .of upd_same, rfl, _, _, rfl, _, _, rfl, rfl, ?_⟩
    refine ⟨_, rfl, b, t, rfl, e1 _ _ hb, k1, k2, k3, true, rfl, iteF ?_⟩
    by_cases h0 : i = 0
    · subst h0
      refine ⟨_, rfl, _, 0, rfl, rfl, false, blF (by decide), iteF (iteF ?_)⟩
      exact ⟨⟨_, _, rfl⟩, e1⟩
    · refine ⟨_, rfl, _, 0, rfl, rfl, true, blT (by omega), iteT ?_⟩
      have hlen := paired_len hp
      have hp1 : us[i - 1]? = some us[i - 1] := List.getElem?_eq_getElem (by omega)
      obtain ⟨t0, ht0, b0, eb0, hb0⟩ := paired_at hp hp1
      refine ⟨_, rfl, b, _, _, .int t.2, rfl, rfl, .of (e1 _ _ hb), rfl, _, rfl, _, rfl, _, 1, rfl, rfl, a, _, _, us[i - 1], rfl, rfl, .of (e1 _ _ ha), ?_, b0, _, _, .int t0.2, eb0, rfl, .of (e1 _ _ hb0), rfl, t.2, t0.2, rfl, rfl, false, blF ?_, iteF ?_⟩
      · have : ((i : Nat) : Int) - 1 = ((i - 1 : Nat) : Int) := by omega
        rw [this]
        exact atI_nat hp1
      · have := List.pairwise_iff_getElem.mp D.desc (i - 1) i (by omega) hi (by omega)
        have z1 : ts[i] = t := by
          have := List.getElem?_eq_getElem hi
          rw [ht] at this
          exact (Option.some.inj this).symm
        have z0 : ts[i - 1] = t0 := by
          have := List.getElem?_eq_getElem (show i - 1 < ts.length by omega)
          rw [ht0] at this
          exact (Option.some.inj this).symm
        rw [z1, z0] at this
        omega
      · exact ⟨⟨_, _, rfl⟩, e1⟩
  · exact ⟨_, rfl, q _ hh.2⟩
theorem cl_shared_divisor (T : Tops K mg) : Cl P w K mg base 2 "shared_divisor" ["terms", "parts"] sp_shared_divisor := by
  refine .of T.f_shared_divisor sc_shared_divisor (fun _ _ _ _ _ _ us hl => match us, hl with | [_, _], _ => rfl) (fun vs H Q E h => ?_) fun f cdv A outer s H vs Q E hr h => ?_
  · obtain ⟨_, _, _, _, rfl, _⟩ := h; rfl
  obtain ⟨a, us, ts, p, rfl, ha, hp, q⟩ := h
  refine ⟨_, (pss_cons (ps_set (i := 2) sc_shared_divisor.nd rfl (Or.inl rfl) (pv 1))
      (pss_cons (ps_for PassesOwn.never rfl (pi_tupK (K := K) rfl (pv 0)) (pg_tupK (K := K) (n := 2) rfl rfl (pgs_cons (pg_name (i := 3) sc_shared_divisor.nd rfl (Or.inl rfl)) (pgs_cons (pg_name (i := 4) sc_shared_divisor.nd rfl (Or.inl rfl)) pgs_nil)))
       (pss_one (ps_set (i := 2) sc_shared_divisor.nd rfl (Or.inl rfl) (pe_cl (cl_greatest_divisor T) hr (by decide) rfl (pa_cons (pv 2) (pa_cons (pv 3) pa_nil))))))
      (pss_one (ps_ret (pv 2))))) , ?_⟩
  refine ⟨_, rfl, _, rfl, a, rfl, ⟨_, .of ha⟩, ?_⟩
  refine for_tup (xs := us) (fun i σ' H' => ∃ u v, σ' = [some (.ref a), some (.int p), some (.int (gcdF p (ts.take i))), u, v] ∧ H' = H) ⟨_, _, rfl, rfl⟩ (fun i σ' H' _ hh => by obtain ⟨_, _, _, rfl⟩ := hh; exact .of ha) (fun i x σ' H' hx hh => ?_) fun σ' H' hh => ?_
  · obtain ⟨u, v, rfl, rfl⟩ := hh
    obtain ⟨t, ht, b, rfl, hb⟩ := paired_at hp hx
    refine ⟨b, _, rfl, .of hb, rfl, _, _, rfl, _, _, rfl, rfl, ?_⟩
    refine ⟨_, rfl, _, rfl, _, _, rfl, some (.int t.1), some (.int t.2), ?_, rfl⟩
    have : gcdF p (ts.take (i + 1)) = (Int.gcd (gcdF p (ts.take i)) t.1 : Nat) := by
      rw [List.take_succ, ht]
      unfold gcdF
      rw [List.foldl_append]
      rfl
    rw [this]
    rfl
  · obtain ⟨u, v, rfl, rfl⟩ := hh
    rw [paired_len hp, List.take_length]
    exact ⟨_, rfl, q _ (.refl _)⟩
theorem fn_Form (T : Tops K mg) {f : Addr} {fd : FuncData} (F : FunD K "__init__" "Form.__init__" (defArgs (inClass (top 58) 0)) (defBody (inClass (top 58) 0)) (defScope (inClass (top 58) 0)) [.int 1] [] f fd) : FnOk P w K mg base CX0 5 f fd ["self", "terms", "parts"] (sp_Form_init K) := by
  refine F.ok sc_Form_init (fun vs H Q E h => ?_) fun cdv A outer s H vs Q E hr h => ?_
  · obtain ⟨_, _, _, _, _, _, rfl, _⟩ := h; rfl
  obtain ⟨x, dx, a, us, ts, p, rfl, hx, ha, hp, D, h0, hb, q⟩ := h
  refine ⟨_, PSs.nox ((pss_cons (ps_set (i := 3) sc_Form_init.nd rfl (Or.inl rfl) (pe_cl (cl_wrong_term T) hr (by decide) rfl (pa_cons (pv 1) pa_nil)))
      (pss_cons (ps_if (pt_cmpR op_ne (pv 3) (pe_un un_neg pe_int) (nomark _))
       (pss_one ps_never)
       pss_nil)
      (pss_cons (ps_if (PW.pt (pw_or (pt_not (pt_val (pe_cl (cl_is_natural T) hr (by decide) rfl (pa_cons (pv 2) pa_nil)))) (pw_or1 (pt_cmpR op_eq (pv 2) pe_int (nomark _)))))
       (pss_one ps_never)
       pss_nil)
      (pss_cons (ps_set (i := 4) sc_Form_init.nd rfl (Or.inr rfl) (pe_cl (cl_shared_divisor T) hr (by decide) rfl (pa_cons (pv 1) (pa_cons (pv 2) pa_nil))))
      (pss_cons (ps_fld (pv 0) (pe_callTy (call_tuple_ofK (K := K) rfl) (by rfl) (T.nn "tuple") rfl (pa_cons (pe_lc (own := [("coefficient", 5), ("base", 6)]) (by rfl) sc_Form_init.nd (pi_tupK (K := K) rfl (pv 1)) (blkOk_by (own := [("coefficient", 5), ("base", 6)]) (N := N_Form_init) (sc := defScope s_Form_init) (by decide +kernel)) (fun _ _ _ _ _ => (pg_tupK (K := K) (n := 2) rfl rfl (pgs_cons (pg_name (i := 5) sc_Form_init.nd rfl (Or.inl rfl)) (pgs_cons (pg_name (i := 6) sc_Form_init.nd rfl (Or.inl rfl)) pgs_nil)))) (fun _ _ _ _ _ => pts_nil) (fun _ _ _ _ _ => (pe_tup (pa_cons (pe_op op_fdiv (pv 5) (pv 4)) (pa_cons (pv 6) pa_nil))))) pa_nil)) rfl)
      (pss_one (ps_fld (pv 0) (pe_op op_fdiv (pv 2) (pv 4)) rfl))))))) ), ?_⟩
  have hlen := paired_len hp
  have hl := D.len
  refine ⟨_, rfl, a, us, ts, rfl, ha, hp, D, fun H1 e1 => ?_⟩
  refine ⟨_, rfl, _, rfl, rfl, false, blN rfl, iteF ?_⟩
  refine ⟨_, rfl, p, rfl, true, blT (by omega), iteF ?_⟩
  refine ⟨_, rfl, rfl, false, blF (fun z => by injection z with z; omega), iteF ?_⟩
  refine ⟨_, rfl, _, rfl, a, us, ts, p, rfl, e1 _ _ ha, terms_same e1 hp, fun H2 e2 => ?_⟩
  have e12 := e1.trans e2
  have hd := gcdF_pos ts h0
  have hdl := gcdF_le (ts := ts) h0
  refine ⟨_, rfl, a, rfl, ⟨_, .of (e12 _ _ ha)⟩, fun Dl hD => ?_⟩
  refine lcT (fun i acc G' => Paired (TermV G') acc ((ts.take i).map fun t => (t.1 / gcdF p ts, t.2))) (xs := us) (.of (e12 _ _ ha)) hD .nil (fun i v H3 acc hv e3 hD1 hl2 hacc => ?_) fun H3 acc e3 hD1 hl2 hacc => ?_
  · obtain ⟨t, ht, b, rfl, hb2⟩ := paired_at hp hv
    have hi : i < ts.length := (List.getElem?_eq_some_iff.mp ht).1
    refine ⟨b, _, rfl, .of (e3 _ _ (e12 _ _ hb2)), rfl, _, _, rfl, _, _, rfl, rfl, rfl, tYesI ⟨_, rfl, _, rfl, t.1, gcdF p ts, rfl, rfl, ⟨hd, by omega⟩, _, rfl, by show 2 ≤ sizeLine; decide, fun tp htp => ?_⟩⟩
    have e4 : Same H3 (upd H3 tp (.tup [.int (t.1 / gcdF p ts), .int t.2])) := same_new htp
    have hD4 := e4 _ _ hD1
    refine lc_put hD e3 e4 hD1 hl2 (by omega) ?_
    rw [take_succ_map ht]
    exact paired_snoc (termV_upd hD4 (fun _ z => by cases z) ⟨tp, rfl, upd_same⟩) (paired_mono (fun v g tv => termV_upd hD4 (fun _ z => by cases z) (tv.same e4)) hacc)
  rw [hlen, List.take_length] at hacc
  refine ⟨Dl, acc, rfl, .inl ⟨.of hD1, fun tp htp => ?_⟩⟩
  have e4 : Same H3 (upd H3 tp (.tup acc)) := same_new htp
  have e14 := e12.trans (e3.trans e4)
  refine ⟨_, rfl, x, _, dx, _, rfl, e14 _ _ hx, T.oF.ins.cl, T.nF1, by decide, ?_⟩
  refine ⟨_, rfl, _, rfl, p, gcdF p ts, rfl, rfl, ⟨hd, by omega⟩, _, rfl, x, _, dx, _, rfl, upd_same, T.oF.ins.cl, T.nF2, by show 1 < 1000; decide, ?_⟩
  have f4 : But x (upd H3 tp (.tup acc)) (upd (upd (upd H3 tp (.tup acc)) x (.ins (aF K) dx (putF "sums" (.ref tp) []))) x (.ins (aF K) dx (putF "under" (.int (p / gcdF p ts)) (putF "sums" (.ref tp) [])))) := fun b o n h => by rw [upd_ne n, upd_ne n]; exact h
  have ntx : tp ≠ x := fun z => by
    have := e14 _ _ hx
    rw [← z, upd_same] at this
    cases this
  exact q tp acc _ (But.trans (But.of e14) f4) upd_same (f4 _ _ ntx upd_same) (paired_mono (fun v t tv => termV_but f4 (e14 _ _ hx) (fun _ z => by cases z) (tv.same e4)) hacc)
theorem ml_Form (T : Tops K mg) : Ml P w K mg base 5 "Form" (aF K) ["self", "terms", "parts"] (sp_Form_init K) [] := by
  obtain ⟨f, fd, M, F⟩ := T.iF.ex
  obtain ⟨ds, hd, hb⟩ := FunD.binds1 (ps := ["self", "terms", "parts"]) F 3 1 (by simp) rfl fun T kV doc pm an cdv ct us its h1 h2 => match us, h1, its, h2 with
    | [_, _, _], _, [_], _ => ⟨_, rfl, rfl⟩
  exact ⟨f, fd, ds, M, T.oF.mgc, fn_Form T F, hb, hd⟩
theorem ml_Form1 (T : Tops K mg) : Ml P w K mg base 5 "Form" (aF K) ["self", "terms", "parts"] (sp_Form_init K) [.int 1] := by
  obtain ⟨f, fd, M, F⟩ := T.iF.ex
  obtain ⟨ds, hd, hb⟩ := FunD.binds1 (ps := ["self", "terms", "parts"]) F 2 0 (by simp) rfl fun T kV doc pm an cdv ct us its h1 h2 => match us, h1, its, h2 with
    | [_, _], _, [_], _ => ⟨_, rfl, rfl⟩
  exact ⟨f, fd, ds, M, T.oF.mgc, fn_Form T F, hb, hd⟩
theorem pr_Ft (T : Tops K mg) : Pr P w K mg base 1 (aF K) "terms" (sp_Form_terms K) := by
  refine .of T.oF.ins.cl T.pFt sc_Form_terms (fun _ _ _ _ _ _ us hl => match us, hl with | [_], _ => rfl) (fun vs H Q E h => ?_) fun f cdv A outer s H vs Q E hr h => ?_
  · obtain ⟨_, _, _, rfl, _⟩ := h; rfl
  obtain ⟨x, ts, u, rfl, ⟨x', dx, a, us, ex, hx, ha, hp⟩, q⟩ := h
  cases ex
  refine ⟨_, (pss_one (ps_ret (pe_fldK (K := K) rfl (pv 0) rfl))) , ?_⟩
  exact ⟨_, rfl, x, _, dx, _, .ref a, rfl, hx, T.oF.ins.cl, T.nF1, rfl, q a us ha hp⟩
theorem pr_Fp (T : Tops K mg) : Pr P w K mg base 1 (aF K) "parts" (sp_Form_parts K) := by
  refine .of T.oF.ins.cl T.pFp sc_Form_parts (fun _ _ _ _ _ _ us hl => match us, hl with | [_], _ => rfl) (fun vs H Q E h => ?_) fun f cdv A outer s H vs Q E hr h => ?_
  · obtain ⟨_, _, _, rfl, _⟩ := h; rfl
  obtain ⟨x, ts, u, rfl, ⟨x', dx, a, us, ex, hx, ha, hp⟩, q⟩ := h
  cases ex
  refine ⟨_, (pss_one (ps_ret (pe_fldK (K := K) rfl (pv 0) rfl))) , ?_⟩
  exact ⟨_, rfl, x, _, dx, _, .int u, rfl, hx, T.oF.ins.cl, T.nF2, rfl, q⟩
theorem cl_check_form (T : Tops K mg) : Cl P w K mg base 1 "check_form" ["form"] (sp_check_form K) := by
  refine .of T.f_check_form sc_check_form (fun _ _ _ _ _ _ us hl => match us, hl with | [_], _ => rfl) (fun vs H Q E h => ?_) fun f cdv A outer s H vs Q E hr h => ?_
  · obtain ⟨_, _, _, rfl, _⟩ := h; rfl
  obtain ⟨x, ts, u, rfl, ⟨x', dx, a, us, ex, hx, _⟩, q⟩ := h
  cases ex
  refine ⟨_, (pss_one (ps_if (pt_not (pt_val (pe_callB (call_isiK' (K := K) rfl) (by rfl) (T.nn "isinstance") rfl (pa_cons (pv 0) (pa_cons (pe_glob (by rfl) T.oF.mgc (show RelV (.ref _) (.ref _) from rfl)) pa_nil)))))
       (pss_one ps_never)
       pss_nil)) , ?_⟩
  exact ⟨_, rfl, _, _, _, _, true, rfl, .own _, ins_ty T.oF.ins hx, T.oF.ins.me, true, rfl, iteF q⟩
end
end SD
end
section
set_option Elab.async false
set_option linter.all false
set_option maxRecDepth 100000
set_option maxHeartbeats 4000000
/-! ### forms made of fractions, added, compared -/
namespace SD
open PySem PySem.Spec PyProof.Rows L2
/-- a for over any source, by an invariant of the turn -/
theorem forJ {J : It} {g : TG} {tb : TS} {D : Ends} {σ : L2.St} {H : Hp} (Pv : Nat → L2.St → Hp → Prop) (n : Nat) (y : Nat → V → Hp → Hp → Prop) (hgo : ∀ i σ H, Pv i σ H → i < n → J.go i H) (hst : ∀ σ H, Pv n σ H → J.stop n H) (hy : ∀ i σ H v H', Pv i σ H → i < n → J.yld i H v H' → y i v H H') (h0 : Pv 0 σ H)
    (hs : ∀ i x σ H H', i < n → y i x H H' → Pv i σ H → g x σ H' fun σ2 H2 => tb { D with nx := Pv (i + 1), ct := Pv (i + 1), bk := D.nx } σ2 H2) (hd : ∀ σ H, Pv n σ H → D.nx σ H) :
    ∃ W : Nat → Nat → L2.St → Hp → Prop, (∃ m, W 0 m σ H) ∧ ∀ i m σ H, W i m σ H →
      (J.stop i H ∧ D.nx σ H) ∨ (J.go i H ∧ ∃ N : L2.St → Hp → Prop, (∀ σ' H', N σ' H' → ∃ m', m' < m ∧ W (i + 1) m' σ' H') ∧ ∀ x H', J.yld i H x H' → g x σ H' fun σ2 H2 => tb { D with nx := N, ct := N, bk := D.nx } σ2 H2) := by
  refine ⟨fun i m σ H => m = n - i ∧ i ≤ n ∧ Pv i σ H, ⟨n, by simp, Nat.zero_le _, h0⟩, ?_⟩
  rintro i m σ H ⟨rfl, hi, p⟩
  by_cases hlt : i < n
  · exact .inr ⟨hgo i σ H p hlt, Pv (i + 1), fun σ' H' p' => ⟨n - (i + 1), by omega, rfl, hlt, p'⟩, fun x H' q => hs i x σ H H' hlt (hy i σ H x H' p hlt q) p⟩
  · have ei : i = n := by omega
    subst ei
    exact .inl ⟨hst σ H p, hd σ H p⟩
theorem forC {lo c : Int} {n : Nat} {g : TG} {tb : TS} {D : Ends} {σ : L2.St} {H : Hp} (Pv : Nat → L2.St → Hp → Prop) (h0 : Pv 0 σ H)
    (hs : ∀ i σ H, i < n → Pv i σ H → g (.int (lo + (i : Nat) * c)) σ H fun σ2 H2 => tb { D with nx := Pv (i + 1), ct := Pv (i + 1), bk := D.nx } σ2 H2) (hd : ∀ σ H, Pv n σ H → D.nx σ H) :
    ∃ W : Nat → Nat → L2.St → Hp → Prop, (∃ m, W 0 m σ H) ∧ ∀ i m σ H, W i m σ H →
      ((Itc lo c n).stop i H ∧ D.nx σ H) ∨ ((Itc lo c n).go i H ∧ ∃ N : L2.St → Hp → Prop, (∀ σ' H', N σ' H' → ∃ m', m' < m ∧ W (i + 1) m' σ' H') ∧ ∀ x H', (Itc lo c n).yld i H x H' → g x σ H' fun σ2 H2 => tb { D with nx := N, ct := N, bk := D.nx } σ2 H2) :=
  forJ Pv n (fun i v H H' => H' = H ∧ v = .int (lo + (i : Nat) * c)) (fun i σ H p h => h) (fun σ H p => Nat.le_refl _) (fun i σ H v H' p h q => q) h0 (fun i x σ H H' hi q p => by obtain ⟨e, q⟩ := q; subst e q; exact hs i σ _ hi p) hd
theorem paired_app {α β : Type} {R : α → β → Prop} {c : List α} {d : List β} (r : Paired R c d) : ∀ {a : List α} {b : List β}, Paired R a b → Paired R (a ++ c) (b ++ d)
  | _, _, .nil => r
  | _, _, .cons h t => .cons h (paired_app r t)
section
variable {P : Program} {w : World} {K : PySem.W.Frag} {mg : Str → Option Value} {base : Heap}
theorem mkForm {H1 : Hp} {a x dx : Addr} {us : List V} {ts : List Trm} {p : Int} {Z : VK} (ha : H1 a = some (.tup us)) (hp : Paired (TermV H1) us ts) (D : Desc ts) (h0 : 0 < p) (hb : p < 1073741824) (n1 : H1 x = none) (n2 : H1 dx = none) (q : ∀ H', Same H1 H' → FormV K H' (.ref x) (nrT p ts) (nrP p ts) → Z .non H') :
    sp_Form_init K [.ref x, .ref a, .int p] (upd (upd H1 dx (.own x)) x (.ins (aF K) dx [])) Z E0 := by
  have s1 : Same H1 (upd (upd H1 dx (.own x)) x (.ins (aF K) dx [])) := fun b o h => by rw [upd_ne (ne_of_none h n1), upd_ne (ne_of_none h n2)]; exact h
  refine ⟨x, dx, a, us, ts, p, rfl, upd_same, s1 _ _ ha, terms_same s1 hp, D, h0, hb, fun a' us' H' hbt hx hr pr => ?_⟩
  exact q H' (Same.made n1 n2 fun b o h n => hbt b o n h) ⟨x, dx, a', us', rfl, hx, hr, pr⟩
theorem fr_at {us : List V} {fr : List Frc} {H : Hp} (hp : Paired (FracV H) us fr) {i : Nat} {x : V} (h : us[i]? = some x) : ∃ y b, fr[i]? = some y ∧ x = .ref b ∧ H b = some (.tup [.int y.1, .int y.2.1, .int y.2.2]) := by
  obtain ⟨y, h1, b, h2, h3⟩ := paired_at hp h
  exact ⟨y, b, h1, h2, h3⟩
theorem cl_form_of (T : Tops K mg) : Cl P w K mg base 7 "form_of" ["fractions"] (sp_form_of K) := by
  refine .of T.f_form_of sc_form_of (fun _ _ _ _ _ _ us hl => match us, hl with | [_], _ => rfl) (fun vs H Q E h => ?_) fun f cdv A outer s H vs Q E hr h => ?_
  · obtain ⟨_, _, _, _, rfl, _⟩ := h; rfl
  obtain ⟨l, us, fr, M, rfl, hl, hp, h1000, hM, hMb, hfr, q⟩ := h
  refine ⟨_, (pss_cons (ps_set (i := 1) sc_form_of.nd rfl (Or.inr rfl) pe_int)
      (pss_cons (ps_for PassesOwn.never rfl (pi_listK (K := K) rfl (pv 0)) (pg_tupK (K := K) (n := 3) rfl rfl (pgs_cons (pg_name (i := 2) sc_form_of.nd rfl (Or.inr rfl)) (pgs_cons (pg_name (i := 3) sc_form_of.nd rfl (Or.inl rfl)) (pgs_cons (pg_name (i := 4) sc_form_of.nd rfl (Or.inl rfl)) pgs_nil))))
       (pss_one (ps_set (i := 1) sc_form_of.nd rfl (Or.inr rfl) (pe_op op_mul (pe_op op_fdiv (pv 1) (pe_cl (cl_greatest_divisor T) hr (by decide) rfl (pa_cons (pv 1) (pa_cons (pv 4) pa_nil)))) (pe_callB call_abs (by rfl) (T.nn "abs") rfl (pa_cons (pv 4) pa_nil))))))
      (pss_cons (ps_set (i := 5) sc_form_of.nd rfl (Or.inl rfl) (pe_lst pa_nil))
      (pss_cons (ps_for PassesOwn.never rfl (pi_range3 (by rfl) (T.nn "range") (pa_cons (C8.pe_gc rfl T.cMOST_TICKETS) (pa_cons (pe_un un_neg pe_int) (pa_cons (pe_un un_neg pe_int) pa_nil)))) (pg_name (i := 2) sc_form_of.nd rfl (Or.inr rfl))
       (pss_cons (ps_set (i := 6) sc_form_of.nd rfl (Or.inl rfl) (pe_callB (cr_sumK (K := K) rfl rfl) (by rfl) (T.nn "sum") rfl (pa_cons (pe_lc (own := [("one", 7), ("over", 8), ("under", 9)]) (by rfl) sc_form_of.nd (pi_listK (K := K) rfl (pv 0)) (blkOk_by (own := [("one", 7), ("over", 8), ("under", 9)]) (N := N_form_of) (sc := defScope s_form_of) (by decide +kernel)) (fun _ _ _ _ _ => (pg_tupK (K := K) (n := 3) rfl rfl (pgs_cons (pg_name (i := 7) sc_form_of.nd rfl (Or.inl rfl)) (pgs_cons (pg_name (i := 8) sc_form_of.nd rfl (Or.inl rfl)) (pgs_cons (pg_name (i := 9) sc_form_of.nd rfl (Or.inl rfl)) pgs_nil))))) (fun _ _ _ _ _ => (pts_one (pt_cmpR op_eq (pv 7) (pv 2) (nomark _)))) (fun _ _ _ _ _ => (pe_op op_mul (pv 8) (pe_op op_fdivN (pv 1) (pv 9))))) pa_nil)))
      (pss_one (ps_if (pt_cmpR op_ne (pv 6) pe_int (nomark _))
       (pss_one (ps_expr (pe_bmK (K := K) rfl PySem.F.plainAttrs_list PySem.F.slot_list_append PySem.F.type_list_append mt_append (pv 5) (pa_cons (pe_tup (pa_cons (pv 6) (pa_cons (pv 2) pa_nil))) pa_nil))))
       pss_nil))))
      (pss_one (ps_ret (pe_ml (ml_Form T) hr (by decide) rfl (pa_cons (pe_callTy (call_tuple_ofK (K := K) rfl) (by rfl) (T.nn "tuple") rfl (pa_cons (pv 5) pa_nil)) (pa_cons (pv 1) pa_nil))))))))) , ?_⟩
  have hlen := paired_len hp
  have hx : ∀ x ∈ fr, x.2.2 ≠ 0 ∧ x.2.2 ∣ M := fun x m => ⟨(hfr x m).2.2.1, (hfr x m).2.2.2⟩
  refine ⟨_, rfl, l, rfl, ⟨_, .of hl⟩, ?_⟩
  refine for_list (xs := us) (fun i σ' H' => ∃ a b c, σ' = [some (.ref l), some (.int (lcmL 1 (fr.take i))), a, b, c, none, none, none, none, none] ∧ H' = H) ⟨_, _, _, rfl, rfl⟩ (fun i σ' H' _ hh => by obtain ⟨_, _, _, _, rfl⟩ := hh; exact .of hl) (fun i x σ' H' hx1 hh => ?_) fun σ' H' hh => ?_
  · obtain ⟨u1, u2, u3, rfl, rfl⟩ := hh
    obtain ⟨y, b, hy, rfl, hb⟩ := fr_at hp hx1
    have my := List.mem_of_getElem? hy
    have hx2 : ∀ x ∈ fr.take i, x.2.2 ≠ 0 ∧ x.2.2 ∣ M := fun x m => hx x (List.mem_of_mem_take m)
    obtain ⟨k1, k2, _, _⟩ := lcmL_ok (fr.take i) (by decide : (0 : Int) < 1) (Int.one_dvd M) hx2
    have kM := Int.le_of_dvd hM k2
    have hg := Int.gcd_pos_of_ne_zero_left y.2.2 (show lcmL 1 (fr.take i) ≠ 0 by omega)
    have hg2 : ((Int.gcd (lcmL 1 (fr.take i)) y.2.2 : Nat) : Int) ≤ lcmL 1 (fr.take i) := Int.le_of_dvd k1 (Int.gcd_dvd_left _ _)
    have hq : lcmL 1 (fr.take i) / ((Int.gcd (lcmL 1 (fr.take i)) y.2.2 : Nat) : Int) ≤ lcmL 1 (fr.take i) := Int.ediv_le_self _ (by omega)
    have hq0 : 0 ≤ lcmL 1 (fr.take i) / ((Int.gcd (lcmL 1 (fr.take i)) y.2.2 : Nat) : Int) := Int.ediv_nonneg (by omega) (by omega)
    refine ⟨b, _, rfl, .of hb, rfl, _, _, rfl, _, _, rfl, _, _, rfl, rfl, ?_⟩
    refine ⟨_, rfl, _, rfl, _, rfl, _, _, rfl, _, _, rfl, rfl, ⟨by omega, by omega⟩, _, rfl, _, rfl, _, _, rfl, rfl, .inl ⟨by omega, by omega⟩, some (.int y.1), some (.int y.2.1), some (.int y.2.2), ?_, rfl⟩
    have : lcmL 1 (fr.take (i + 1)) = lcmS (lcmL 1 (fr.take i)) y.2.2 := by
      rw [List.take_succ, hy]
      unfold lcmL
      rw [List.foldl_append]
      rfl
    rw [this]
    rfl
  · obtain ⟨u1, u2, u3, rfl, rfl⟩ := hh
    rw [hlen, List.take_length]
    obtain ⟨hP, hPM, _, hPd⟩ := lcmL_ok fr (by decide : (0 : Int) < 1) (Int.one_dvd M) hx
    have hPle := Int.le_of_dvd hM hPM
    generalize hPe : lcmL 1 fr = Pp at *
    refine ⟨Nat.zero_le _, fun t nt => ?_⟩
    refine ⟨1, rfl, 1, rfl, 60, -1, -1, 61, rfl, RgC.neg (by decide) (by decide) (by decide) (by decide), ?_⟩
    refine forC (fun i σ' G => ∃ a b c e acc, σ' = [some (.ref l), some (.int Pp), a, b, c, some (.ref t), e, none, none, none] ∧ Same H' G ∧ G t = some (.lst acc) ∧ Paired (TermV G) acc (trms fr Pp i)) ⟨_, _, _, _, [], rfl, same_new nt, upd_same, .nil⟩ (fun i σ' G hi hh => ?_) fun σ' G hh => ?_
    · obtain ⟨a, b, c, e, acc, rfl, eG, ht, pr⟩ := hh
      have eb : (60 : Int) + (i : Nat) * -1 = 60 - (i : Int) := by omega
      have hal := paired_len pr
      have hal2 : (trms fr Pp i).length ≤ i := by
        unfold trms
        have := List.length_filter_le (fun t : Trm => decide (t.1 ≠ 0)) ((List.range i).map (trmAt fr Pp))
        rw [List.length_map, List.length_range] at this
        exact this
      rw [eb]
      refine ⟨_, rfl, l, rfl, ⟨_, .of (eG _ _ hl)⟩, fun D hD => ?_⟩
      refine lcL (fun j acc2 _ => acc2 = (((fr.take j).filter fun x => decide (x.1 = 60 - (i : Int))).map fun x => V.int (x.2.1 * Pp.fdiv x.2.2))) (xs := us) (.of (eG _ _ hl)) hD rfl (fun j x G2 acc2 hx2 e2 hD1 hl2 hacc => ?_) fun G2 acc2 e2 hD1 hl2 hacc => ?_
      · obtain ⟨y, b', hy, rfl, hb⟩ := fr_at hp hx2
        have my := List.mem_of_getElem? hy
        have hj : j < fr.length := (List.getElem?_eq_some_iff.mp hy).1
        obtain ⟨d1, d2, d3, d4⟩ := hfr y my
        have hdle : y.2.2.natAbs ≤ M.natAbs := Nat.le_of_dvd (by omega) (Int.natAbs_dvd_natAbs.mpr d4)
        have hfil : ((fr.take (j + 1)).filter fun x => decide (x.1 = 60 - (i : Int))) = ((fr.take j).filter fun x => decide (x.1 = 60 - (i : Int))) ++ if decide (y.1 = 60 - (i : Int)) = true then [y] else [] := take_succ_filter hy
        refine ⟨b', _, rfl, .of (e2 _ _ (eG _ _ hb)), rfl, _, _, rfl, _, _, rfl, _, _, rfl, rfl, rfl, ?_⟩
        by_cases hbase : y.1 = 60 - (i : Int)
        · refine ⟨_, rfl, _, rfl, rfl, true, blT (by rw [hbase]), iteT ?_⟩
          have hq : (Pp.fdiv y.2.2).natAbs < 2 ^ 64 := by
            obtain ⟨k, hk⟩ := hPd y my
            have e4 : Pp.fdiv y.2.2 = k := by rw [hk]; exact Int.mul_fdiv_cancel_left k d3
            rw [e4]
            have : k.natAbs ≤ Pp.natAbs := Nat.le_of_dvd (by omega) (Int.natAbs_dvd_natAbs.mpr ⟨y.2.2, by rw [hk, Int.mul_comm]⟩)
            omega
          refine ⟨_, rfl, _, rfl, _, rfl, _, _, rfl, rfl, ⟨d3, by omega⟩, _, _, rfl, rfl, .inr ⟨by omega, by omega⟩, lc_put hD e2 (.refl _) hD1 hl2 (by omega) ?_⟩
          rw [hfil, if_pos (by simpa using hbase), List.map_append, hacc]
          rfl
        · refine ⟨_, rfl, _, rfl, rfl, false, blF (fun z => hbase (by injection z)), iteF (lc_skip e2 (.refl _) hD1 hl2 ?_)⟩
          rw [hfil, if_neg (by simpa using hbase), List.append_nil, hacc]
      · rw [hlen, List.take_length] at hacc
        refine ⟨D, (fr.filter fun x => decide (x.1 = 60 - (i : Int))).map (fun x => x.2.1 * Pp.fdiv x.2.2), rfl, .of (by rw [hD1, hacc, List.map_map]; rfl), ?_⟩
        have ec : ((fr.filter fun x => decide (x.1 = 60 - (i : Int))).map (fun x => x.2.1 * Pp.fdiv x.2.2)).sum = (trmAt fr Pp i).1 := rfl
        rw [ec]
        have ht2 := e2 _ _ ht
        by_cases hc : (trmAt fr Pp i).1 = 0
        · refine ⟨_, rfl, rfl, false, blN (by rw [hc]), iteF ?_⟩
          refine ⟨_, _, _, _, acc, rfl, eG.trans e2, ht2, ?_⟩
          rw [trms_succ, if_neg (by simpa using hc), List.append_nil]
          exact terms_same e2 pr
        · refine ⟨_, rfl, rfl, true, blNF (fun z => hc (by injection z)), iteT ?_⟩
          refine ⟨_, rfl, .inl ⟨rfl, _, .of ht2⟩, _, rfl, _, rfl, by show 2 ≤ sizeLine; decide, fun tp htp => ?_⟩
          have e3 : Same G2 (upd G2 tp (.tup [.int (trmAt fr Pp i).1, .int (60 - (i : Int))])) := same_new htp
          have ht3 := e3 _ _ ht2
          refine ⟨t, acc, .ref tp, rfl, rfl, ht3, by rw [sizeLine_eq]; omega, _, _, _, _, acc ++ [.ref tp], rfl, lst_keep (eG.trans (e2.trans e3)) nt, upd_same, ?_⟩
          rw [trms_succ, if_pos hc]
          exact paired_snoc (termV_upd ht3 (fun _ z => by cases z) ⟨tp, rfl, upd_same⟩) (paired_mono (fun v g tv => termV_upd ht3 (fun _ z => by cases z) (tv.same (e2.trans e3))) pr)
    · obtain ⟨a, b, c, e, acc, rfl, eG, ht, pr⟩ := hh
      refine ⟨_, rfl, t, acc, rfl, .inl ⟨.of ht, fun tp htp => ⟨_, rfl, fun x dx n1 n2 n3 => ?_⟩⟩⟩
      have hfd := trms_desc fr Pp
      refine mkForm upd_same (terms_same (same_new htp) pr) hfd hP (by omega) n1 n2 fun G2 e2 hF => ⟨rfl, ?_⟩
      refine q x _ _ G2 (eG.trans ((same_new htp).trans e2)) hF (nf_norm hP hfd) ?_ fun f => ?_
      · obtain ⟨e1, _⟩ := nr_back (ts := trms fr Pp 61) hP
        exact Int.dvd_trans ⟨gcdF Pp (trms fr Pp 61), by rw [Int.mul_comm]; exact e1⟩ hPM
      · rw [ev_norm hP]
        have h1 := ev_trms f Pp hP fr fun x m => ⟨(hfr x m).1, (hfr x m).2.1, (hfr x m).2.2.1, hPd x m⟩
        have h2 : ev (trms fr Pp 61) f = (Pp : Rat) * fv fr f := by
          unfold trms
          rw [ev_filter]
          exact h1
        rw [h2]
        have hn : (Pp : Rat) ≠ 0 := fun z => by have := Rat.intCast_eq_zero_iff.mp z; omega
        grind
theorem fv_of (f : Int → Rat) (u : Int) : ∀ ts : List Trm, fv (ts.map fun t => (t.2, t.1, u)) f = ev ts f / (u : Rat)
  | [] => by rw [List.map_nil, fv_nil, ev_nil]; grind
  | t :: ts => by
    rw [List.map_cons, fv_cons, ev_cons, fv_of f u ts]
    grind
theorem op_Form_add (T : Tops K mg) : ∃ f fd, PySem.W.findIn K (.ref (aF K)) "__add__" = some (some (.ref f)) ∧ PySem.W.isFn K (.ref f) = true ∧ FnOk P w K mg base CX0 8 f fd ["self", "other"] (sp_Form_add K) ∧ Binds K fd ["self", "other"] [] := by
  obtain ⟨f, fd, h1, h2, F⟩ := T.opF.add
  refine ⟨f, fd, h1, h2, F.ok sc_Form_add (fun vs H Q E h => ?_) fun cdv A outer s H vs Q E hr h => ?_, F.binds (fun _ _ _ _ _ _ us hl => match us, hl with | [_, _], _ => rfl)⟩
  · obtain ⟨_, _, _, _, _, _, _, rfl, _⟩ := h; rfl
  obtain ⟨x, y, ts1, u1, ts2, u2, M, rfl, F1, F2, N1, N2, hM, hMb, d1, d2, q⟩ := h
  refine ⟨_, (pss_cons (ps_expr (pe_cl (cl_check_form T) hr (by decide) rfl (pa_cons (pv 1) pa_nil)))
      (pss_cons (ps_setLc (i := 2) (by rfl) sc_Form_add.nd rfl rfl (sw_true rfl rfl rfl (by decide +kernel)) (pi_tupK (K := K) rfl (pe_fldK (K := K) rfl (pv 0) rfl)) (blkOk_by (own := [("coefficient", 3), ("base", 4)]) (N := N_Form_add) (sc := defScope s_Form_add) (by decide +kernel)) (fun _ _ _ _ _ => (pg_tupK (K := K) (n := 2) rfl rfl (pgs_cons (pg_name (i := 3) sc_Form_add.nd rfl (Or.inl rfl)) (pgs_cons (pg_name (i := 4) sc_Form_add.nd rfl (Or.inl rfl)) pgs_nil)))) (fun _ _ _ _ _ => pts_nil) (fun _ _ _ _ _ => (pe_tup (pa_cons (pv 4) (pa_cons (pv 3) (pa_cons (pe_fldK (K := K) rfl (pv 0) rfl) pa_nil))))))
      (pss_one (ps_ret (pe_cl (cl_form_of T) hr (by decide) rfl (pa_cons (pe_lst (pa_starK (K := K) rfl (pv 2) (pa_starK (K := K) rfl (pe_lc (own := [("coefficient", 3), ("base", 4)]) (by rfl) sc_Form_add.nd (pi_tupK (K := K) rfl (pe_fldK (K := K) rfl (pv 1) rfl)) (blkOk_by (own := [("coefficient", 3), ("base", 4)]) (N := N_Form_add) (sc := defScope s_Form_add) (by decide +kernel)) (fun _ _ _ _ _ => (pg_tupK (K := K) (n := 2) rfl rfl (pgs_cons (pg_name (i := 3) sc_Form_add.nd rfl (Or.inl rfl)) (pgs_cons (pg_name (i := 4) sc_Form_add.nd rfl (Or.inl rfl)) pgs_nil)))) (fun _ _ _ _ _ => pts_nil) (fun _ _ _ _ _ => (pe_tup (pa_cons (pv 4) (pa_cons (pv 3) (pa_cons (pe_fldK (K := K) rfl (pv 1) rfl) pa_nil)))))) pa_nil))) pa_nil)))))) , ?_⟩
  refine ⟨_, rfl, y, ts2, u2, rfl, F2, ?_⟩
  obtain ⟨x', dx, a1, us1, ex, hx, ha1, hp1⟩ := F1
  cases ex
  obtain ⟨y', dy, a2, us2, ey, hy, ha2, hp2⟩ := F2
  cases ey
  have l1 := N1.d.len
  have l2 := N2.d.len
  have k1 := paired_len hp1
  have k2 := paired_len hp2
  refine ⟨_, rfl, x, _, dx, _, .ref a1, rfl, hx, T.oF.ins.cl, T.nF1, rfl, a1, rfl, ⟨_, .of ha1⟩, fun D hD => ?_⟩
  refine lcT (fun i acc G => Paired (FracV G) acc ((ts1.take i).map fun t => (t.2, t.1, u1))) (xs := us1) (.of ha1) hD .nil (fun i v H1 acc hv e1 hD1 hl hacc => ?_) fun H1 acc e1 hD1 hl hacc => ?_
  · obtain ⟨t, ht, b, rfl, hb⟩ := paired_at hp1 hv
    have hi : i < ts1.length := (List.getElem?_eq_some_iff.mp ht).1
    refine ⟨b, _, rfl, .of (e1 _ _ hb), rfl, _, _, rfl, _, _, rfl, rfl, rfl, tYesI ⟨_, rfl, _, rfl, _, rfl, x, _, dx, _, .int u1, rfl, e1 _ _ hx, T.oF.ins.cl, T.nF2, rfl, by show 3 ≤ sizeLine; decide, fun tp htp => ?_⟩⟩
    have e4 : Same H1 (upd H1 tp (.tup [.int t.2, .int t.1, .int u1])) := same_new htp
    have hD4 := e4 _ _ hD1
    refine lc_put hD e1 e4 hD1 hl (by omega) ?_
    rw [take_succ_map ht]
    exact paired_snoc (fracV_upd hD4 (fun _ z => by cases z) ⟨tp, rfl, upd_same⟩) (paired_mono (fun v g tv => fracV_upd hD4 (fun _ z => by cases z) (tv.same e4)) hacc)
  rw [k1, List.take_length] at hacc
  refine ⟨_, rfl, D, acc, rfl, .inr (.of hD1), ?_⟩
  refine ⟨_, rfl, y, _, dy, _, .ref a2, rfl, e1 _ _ hy, T.oF.ins.cl, T.nF1, rfl, a2, rfl, ⟨_, .of (e1 _ _ ha2)⟩, fun D2 hD2 => ?_⟩
  refine lcT (fun i acc2 G => Paired (FracV G) acc2 ((ts2.take i).map fun t => (t.2, t.1, u2))) (xs := us2) (.of (e1 _ _ ha2)) hD2 .nil (fun i v H2 acc2 hv e2 hD3 hl2 hacc2 => ?_) fun H2 acc2 e2 hD3 hl2 hacc2 => ?_
  · obtain ⟨t, ht, b, rfl, hb⟩ := paired_at hp2 hv
    have hi : i < ts2.length := (List.getElem?_eq_some_iff.mp ht).1
    refine ⟨b, _, rfl, .of (e2 _ _ (e1 _ _ hb)), rfl, _, _, rfl, _, _, rfl, rfl, rfl, tYesI ⟨_, rfl, _, rfl, _, rfl, y, _, dy, _, .int u2, rfl, e2 _ _ (e1 _ _ hy), T.oF.ins.cl, T.nF2, rfl, by show 3 ≤ sizeLine; decide, fun tp htp => ?_⟩⟩
    have e4 : Same H2 (upd H2 tp (.tup [.int t.2, .int t.1, .int u2])) := same_new htp
    have hD4 := e4 _ _ hD3
    refine lc_put hD2 e2 e4 hD3 hl2 (by omega) ?_
    rw [take_succ_map ht]
    exact paired_snoc (fracV_upd hD4 (fun _ z => by cases z) ⟨tp, rfl, upd_same⟩) (paired_mono (fun v g tv => fracV_upd hD4 (fun _ z => by cases z) (tv.same e4)) hacc2)
  rw [k2, List.take_length] at hacc2
  have z1 := paired_len hacc
  have z2 := paired_len hacc2
  rw [List.length_map] at z1 z2
  refine ⟨D2, acc2, rfl, .inr (.of hD3), by rw [List.length_append, List.length_append, sizeLine_eq]; show acc.length + (acc2.length + 0) ≤ _; omega, fun L hL => ?_⟩
  have e3 : Same H2 (upd H2 L (.lst (acc ++ (acc2 ++ [])))) := same_new hL
  have pr : Paired (FracV (upd H2 L (.lst (acc ++ (acc2 ++ []))))) (acc ++ (acc2 ++ [])) (ts1.map (fun t => (t.2, t.1, u1)) ++ ts2.map (fun t => (t.2, t.1, u2))) := by
    rw [List.append_nil]
    exact paired_app (fracs_same (by rw [List.append_nil] at e3; exact e3) hacc2) (fracs_same (e2.trans (by rw [List.append_nil] at e3; exact e3)) hacc)
  refine ⟨L, _, _, M, rfl, upd_same, pr, by rw [List.length_append, List.length_map, List.length_map]; omega, hM, hMb, fun x m => ?_, fun z ts u H' eH hF hN hu hev => ?_⟩
  · rcases List.mem_append.mp m with m | m
    · obtain ⟨t, mt, rfl⟩ := List.mem_map.mp m
      have := N1.d.ok t mt
      exact ⟨this.2.1, this.2.2, by have := N1.pos; show u1 ≠ 0; omega, d1⟩
    · obtain ⟨t, mt, rfl⟩ := List.mem_map.mp m
      have := N2.d.ok t mt
      exact ⟨this.2.1, this.2.2, by have := N2.pos; show u2 ≠ 0; omega, d2⟩
  · refine q z ts u H' (e1.trans (e2.trans (e3.trans eH))) hF hN hu fun f => ?_
    rw [hev f, fv_app, fv_of, fv_of]
end
end SD
end
section
set_option Elab.async false
set_option linter.all false
set_option maxRecDepth 100000
set_option maxHeartbeats 4000000
/-! ### name = {..} of a comprehension, the name a local -/
namespace SD
open PySem PySem.Spec PyProof.Rows L2
section
variable {X : Cx}
theorem dcl_core {pins : List (Addr × Obj)} {s : Shared} {v : L2.St} {H : Hp} {Q : VK} {use : Option (Value → Sem Unit)} {Qf : Value → Shared → Prop} {pos' : Pos} {kx vx tg iter : Expr} {ifs : List Expr} {rest : List Comprehension} {scope : Scope} {own : List (Str × Nat)} {pos : Pos} {wi : TI} {g : TG} {tt : TT} {tB : Addr → TBd} {o0 : Addr → HO} {BC : Addr → Env → Code → Sem Fin}
    (hc : X.calm = true) (hN : X.N.Nodup) (hi : PI X tg iter wi) (ok : BlkOk X.N X.env.scope scope own) (hg : BlkAll X scope fun Y => PG Y tg g) (ht : BlkAll X scope fun Y => PTs Y ifs tt)
    (hB : BlkAll X scope fun Y => ∀ D c, BodyR Y (BC D Y.env c) c (own.map (·.2)) (tB D))
    (hT : ∀ (it : Value) (D : Addr) (env : Env), compTurn (.DictComp kx vx (⟨tg, iter, ifs, 0⟩ :: rest) scope pos) 0 it (.ref D) env = turnOf tg iter.pos ifs env it (BC D env (.compLoop (.DictComp kx vx (⟨tg, iter, ifs, 0⟩ :: rest) scope pos) 0 it (.ref D) env)) (.compLoop (.DictComp kx vx (⟨tg, iter, ifs, 0⟩ :: rest) scope pos) 0 it (.ref D) env))
    (h0 : NewD X o0) (hs : ∀ x, foldedSetIterable iter X.env x = pure x) (I : Inv X pins v H s) (h : tDcl wi g tt tB o0 (own.map (·.2)) v H Q)
    (hRR : ∀ D C s' m H', Inv X pins v H' s' → Q (.ref D) H' → s'.heap.Ns C m → FpOk X pins H' C → compPost (model X.prog X.w) X.A X.xe use Qf (.ref D) C (.ok .next) s') :
    wpAny (model X.prog X.w) X.A (comprehension (.DictComp kx vx (⟨tg, iter, ifs, 0⟩ :: rest) scope pos) scope X.env pos' newDict false (eval iter X.env) use) Qf X.xe s := by
  have caught : ∀ y ∈ scope.names, y.2 = .free → ∃ c, X.env.cells.lookup y.1 = some c := fun y hy e => (ok.free y hy e).elim (fun k => I.ok.has _ (.inl k)) fun k => I.ok.has _ (.inr k)
  refine wpAny_comprehension_free (use := use) rfl hs (closure_ok caught) ok.kind (fun y hy e => by rw [ok.uniq y hy, e]) (thn (hi.run pins s v H _ I h) fun xv s1 hx => thn hx fun itv s2 h2 => ?_)
  obtain ⟨it, fp, tn, J, Ha, e, Ia, T, ta, fa, q⟩ := h2
  subst e
  refine wpAny_newObj_type (newEnv_comp ?_)
  generalize eD : s2.heap.objs.size = D
  have nD : Ha D = none := Ia.hok.fresh (Nat.le_of_eq eD)
  have qD := q D nD
  generalize e3 : ({ s2 with heap := s2.heap.push { cls := .type "dict", data := .dict #[] } } : Shared) = s3
  have up3 : ∀ b o, s2.heap.get? b = some o → s3.heap.get? b = some o := fun b o eb => by rw [← e3]; exact Heap.get?_push_of_some _ eb
  have sz3 : s3.heap.objs.size = s2.heap.objs.size + 1 := by rw [← e3]; exact Heap.size_push ..
  have I3 : Inv X pins v (upd Ha D (o0 D)) s3 := by
    rw [← e3]
    refine Ia.laid (t' := s2.toks) (fun b o eb => Heap.get?_push_of_some _ eb) (Nat.le_of_eq eD) ?_
    rw [← eD]
    exact h0 _ _ Ia.big
  have lt2 : ∀ b ∈ fp, b < s2.heap.objs.size := fun b hb => let ⟨o, eb, _⟩ := T.obj _ _ ta b hb; Heap.lt_size eb
  have f3 : ∀ b ∈ fp, FpOk X pins (upd Ha D (o0 D)) b ∧ b < s3.heap.objs.size := fun b hb =>
    ⟨⟨by rw [upd_ne (by rw [← eD]; exact Nat.ne_of_lt (lt2 b hb))]; exact (fa b hb).1, (fa b hb).2⟩, by rw [sz3]; exact Nat.lt_succ_of_lt (lt2 b hb)⟩
  have I4 := block_start I3 ok hN f3
  have pg := hg s3 (upd Ha D (o0 D)) s3.heap.objs.size (cellsFrom (s3.heap.objs.size + 1) scope.names (cloFrom X.env.cells scope.names [])) fp
  have pt := ht s3 (upd Ha D (o0 D)) s3.heap.objs.size (cellsFrom (s3.heap.objs.size + 1) scope.names (cloFrom X.env.cells scope.names [])) fp
  have pB := hB s3 (upd Ha D (o0 D)) s3.heap.objs.size (cellsFrom (s3.heap.objs.size + 1) scope.names (cloFrom X.env.cells scope.names [])) fp D
  show codeAny _ _ (.compStart (.DictComp kx vx (⟨tg, iter, ifs, 0⟩ :: rest) scope pos) 0 (.ref it) (.ref D) (compEnvC scope (cellsFrom (s3.heap.objs.size + 1) scope.names (cloFrom X.env.cells scope.names [])) s3.heap.objs.size X.env)) (compPost (model X.prog X.w) X.A X.xe use Qf (.ref D) s3.heap.objs.size) { s3 with heap := pushCells (s3.heap.push { cls := .type "dict", data := .dict #[] }) scope.names }
  generalize ec : compEnvC scope (cellsFrom (s3.heap.objs.size + 1) scope.names (cloFrom X.env.cells scope.names [])) s3.heap.objs.size X.env = ce at I4 pg pt pB ⊢
  have lc : ce.locals = s3.heap.objs.size := by subst ec; rfl
  generalize e4 : ({ s3 with heap := pushCells (s3.heap.push { cls := .type "dict", data := .dict #[] }) scope.names } : Shared) = s4 at I4 ⊢
  have t4 : tn 0 s4.heap := T.keep _ _ _ ta fun b _ o eb => by rw [← e4]; exact pushCells_keeps _ _ _ _ (Heap.get?_push_of_some _ (up3 b o eb))
  have f4 : ∀ b ∈ fp, FpOk (X.blk s3 (upd Ha D (o0 D)) scope ce fp) [] (upd Ha D (o0 D)) b := fun b hb =>
    ⟨(f3 b hb).1.1, (I4.ok.exf b hb).1, I4.ok.exfs b hb, .inl hb, fun x c ex => (I4.ok.exf b hb).2 x c ex, fun p hp => absurd (show p ∈ ([] : List (Addr × Obj)) ++ [] from hp) (by simp)⟩
  have loop : codeAny (model X.prog X.w) X.A (.compLoop (.DictComp kx vx (⟨tg, iter, ifs, 0⟩ :: rest) scope pos) 0 (.ref it) (.ref D) ce) (compPost (model X.prog X.w) X.A X.xe use Qf (.ref D) s3.heap.objs.size) s4 := by
    refine clause_loop (Y := X.blk s3 (upd Ha D (o0 D)) scope ce fp) hc rfl T (hT (.ref it) D ce) pg pt (pB _) I4 f4 t4 qD fun s' H' I' n' q' => ?_
    have Iz : Inv X pins v H' s' := I3.call' (ch := fp) I'.os I'.base I'.hok I'.bare fun b hb => ⟨(f3 b hb).1.2.2.2.1, (f3 b hb).1.2.1, (f3 b hb).1.2.2.2.2.1, (f3 b hb).1.2.2.2.2.2⟩
    have nC : H' s3.heap.objs.size = none := lc ▸ (show H' ce.locals = none from I'.free)
    obtain ⟨m, hm, _⟩ := I'.loc
    have hm : s'.heap.Ns ce.locals m := hm
    rw [lc] at hm
    exact hRR D _ s' m H' Iz q' hm (I3.fpOk (Nat.le_refl _) nC)
  exact codeAny_compStart_dict loop (T.self X.A 0 _ _ _ t4 loop)
theorem ps_setDc2 {i : Nat} {y : Str} {py : Pos} {kx vx tg iter tg1 iter1 : Expr} {ifs ifs1 : List Expr} {scope : Scope} {own : List (Str × Nat)} {vs1 : List Nat} {pos spos : Pos} {wi wi1 : TI} {g g1 : TG} {tt tt1 : TT} {tk tv : TE} {o0 : Addr → HO} {tp : Addr → TDs} (h0 : NewD X o0) (hp : ∀ Y D, Y.prog = X.prog → Y.w = X.w → Y.A = X.A → Y.K = X.K → PDs Y D (tp D)) (hc : X.calm = true) (hN : X.N.Nodup) (hy : X.N[i]? = some y) (hyl : X.env.scope.names.lookup y = some .local)
    (hsw : swapsWith (.DictComp kx vx [⟨tg, iter, ifs, 0⟩, ⟨tg1, iter1, ifs1, 0⟩] scope pos) (some (.Name y py)) spos.line X.env = pure true)
    (hi : PI X tg iter wi) (ok : BlkOk X.N X.env.scope scope own) (hv1 : ∀ i ∈ vs1, i ∈ own.map (·.2)) (hg : BlkAll X scope fun Y => PG Y tg g) (ht : BlkAll X scope fun Y => PTs Y ifs tt) (hk : BlkAll X scope fun Y => PE Y kx tk) (hv : BlkAll X scope fun Y => PE Y vx tv)
    (hi1 : BlkAll X scope fun Y => PI Y tg1 iter1 wi1) (hg1 : BlkAll X scope fun Y => PG Y tg1 g1) (ht1 : BlkAll X scope fun Y => PTs Y ifs1 tt1)
    (hs : ∀ x, foldedSetIterable iter X.env x = pure x := by intro _; rfl) (hs1 : ∀ env x, foldedSetIterable iter1 env x = pure x := by intro _ _; rfl) :
    PS X (.Assign [.Name y py] (.DictComp kx vx [⟨tg, iter, ifs, 0⟩, ⟨tg1, iter1, ifs1, 0⟩] scope pos) spos) (tAsg (tDcl wi g tt (fun D v H N => wi1 v H fun J1 H1 => CL J1 vs1 g1 tt1 (tPut (tp D) tk tv) (wipe v vs1) H1 N) o0 (own.map (·.2))) (gName i)) := by
  refine ⟨fun pins s σ H D I h => ?_⟩
  rw [exec_Assign_Name_used _ _ _ _ hsw]
  refine wpAny_bind (wpAny_standAt (wpAny_bind ?_))
  show wpAny _ X.A (do let _ ← comprehension (.DictComp kx vx [⟨tg, iter, ifs, 0⟩, ⟨tg1, iter1, ifs1, 0⟩] scope pos) scope X.env (firstIterPos [⟨tg, iter, ifs, 0⟩, ⟨tg1, iter1, ifs1, 0⟩] pos) newDict false (eval iter X.env) (some (assign (.Name y py) X.env))) _ _ s
  refine wpAny_bind (thn (dcl_core (BC := fun D env c => innerC (.DictComp kx vx [⟨tg, iter, ifs, 0⟩, ⟨tg1, iter1, ifs1, 0⟩] scope pos) iter1 (.ref D) env c) (Qf := fun _ s' => SP X pins D .next s') (Q := fun x H1 => gName i x σ H1 D.nx) hc hN hi ok hg ht
    (fun s H C cl fp D c => inner_body hc rfl hv1 (hi1 s H C cl fp) (hg1 s H C cl fp) (ht1 s H C cl fp) (hk s H C cl fp) (hv s H C cl fp) (hp _ D rfl rfl rfl rfl) (hs1 _)) (fun it D env => turn_d0 ..) h0 hs I h fun L C s' m H' I' q hn f => ?_) fun _ s' hq => wpAny_pure (wpAny_pure hq))
  show wpAny _ _ (assign (.Name y py) X.env (.ref L)) _ _ _
  refine wpAny_assign_Name (store_ok2 (v := V.ref L) I' hN hy (.inl hyl) rfl (fun s2 I2 ⟨a, sb, ha⟩ => ?_) (.inr hyl))
  obtain ⟨f0, f1, f2, f3, f4, f5⟩ := f
  have haC : C ≠ a := by
    rcases ha with z | z
    · rw [z]; exact f1
    · exact fun e => f4 y a z e.symm
  refine ⟨m, hn.sameBut sb haC, fun h3 sb3 => ?_⟩
  exact ⟨_, H', I2.turned (t' := s2.toks) (fun b o hb e => (sb3.2 b hb).trans e) f0 f1 f3 f4 f5, q⟩
theorem swd_true {kx vx : Expr} {gs : List Comprehension} {scope : Scope} {pos py : Pos} {y : Str} {l : Nat} {env : Env} (hk : env.scope.kind = .function) (hy : env.scope.names.lookup y = some .local) (hl : (py.line == pos.line) = true)
    (ha : (scope.names.any fun (n, k) => n == y && (k == .local || k == .cell)) = false) : swapsWith (.DictComp kx vx gs scope pos) (some (.Name y py)) l env = pure true :=
  (sw_true (elt := kx) (gs := gs) (l := l) hk hy hl ha : _)
end
end SD
end
section
set_option Elab.async false
set_option linter.all false
set_option maxRecDepth 100000
set_option maxHeartbeats 4000000
/-! ### forms compared; the cut of a row -/
namespace SD
open PySem PySem.Spec PyProof.Rows L2
def trmD (t : Trm) : PyData := .tuple [.int t.1, .int t.2]
theorem eqv_trmD (t : Trm) : PyData.eqv (trmD t) (trmD t) = true := by
  unfold trmD
  simp [PyData.eqv, PyData.eqvAll]
theorem eqvAll_trmD : ∀ ts : List Trm, PyData.eqvAll (ts.map trmD) (ts.map trmD) = true
  | [] => by simp [PyData.eqvAll]
  | t :: ts => by
    rw [List.map_cons, PySem.W.eqv_all_cons, eqvAll_trmD ts, eqv_trmD]
    rfl
theorem lay_trmD : ∀ ts : List Trm, PyData.canLayAll0 (ts.map trmD) = true
  | [] => by simp [PyData.canLayAll0]
  | t :: ts => by simp [PyData.canLayAll0, lay_trmD ts, trmD, PyData.canLay0]
theorem dep_trmD : ∀ ts : List Trm, PyData.depthAll (ts.map trmD) ≤ 1
  | [] => by simp [PyData.depthAll]
  | t :: ts => by
    have h := dep_trmD ts
    have e : (trmD t).depth = 1 := by simp [trmD, PyData.depth, PyData.depthAll]
    rw [List.map_cons, PyData.depthAll]
    omega
theorem shaped_trmD (ts : List Trm) : SeqAt.shaped (.tuple (ts.map trmD)) = true := by
  have h := dep_trmD ts
  have hd : (PyData.tuple (ts.map trmD)).depth ≤ 2 := by rw [PyData.depth]; omega
  show ((PyData.tuple (ts.map trmD)).canLay0 && decide ((PyData.tuple (ts.map trmD)).depth ≤ 64)) = true
  rw [Bool.and_eq_true]
  refine ⟨?_, decide_eq_true (by omega)⟩
  rw [PyData.canLay0]
  exact lay_trmD ts
theorem dp_terms {K : PySem.W.Frag} {H : Hp} : ∀ {us : List V} {ts : List Trm}, Paired (TermV H) us ts → DpAll K H us (ts.map trmD)
  | _, _, .nil => .nil
  | _, _, .cons h t => by
    obtain ⟨a, rfl, ha⟩ := h
    exact .cons (.tup (.of ha) (.cons (.int _) (.cons (.int _) .nil))) (dp_terms t)
abbrev s_cut : Stmt := top 77
abbrev N_cut : List Str := ["row", "places", "groups", "state", "ranks", "found", "place", "ahead", "behind", "k", "group", "thing"]
theorem sc_cut : FnScope N_cut ["row", "places", "groups", "state"] (defScope s_cut) := ⟨rfl, rfl, rfl, by decide +kernel, rfl, by decide +kernel, by decide +kernel⟩
/-- a state's tuple of whole numbers -/
def StV (H : Hp) (v : V) (S : List Int) : Prop := ∃ a, v = .ref a ∧ H a = some (.tup (S.map V.int))
theorem StV.same {H G : Hp} {v : V} {S : List Int} (e : Same H G) (h : StV H v S) : StV G v S := let ⟨a, h1, h2⟩ := h; ⟨a, h1, e _ _ h2⟩
def cutR (gs : Gs) (x y : Str) (S : List Int) : Option (List Int) := if S = [1] then some [1] else if rk gs y < rk gs x then none else if rk gs x < rk gs y then some [1] else some []
def sp_cut : Sp := fun vs H Q _ => ∃ r pl g st gs x y S, vs = [.ref r, .ref pl, .ref g, .ref st] ∧ H r = some (.tup (nm [x, y])) ∧ H pl = some (.lst [.int 1]) ∧ GrpV H (.ref g) gs ∧ GoodGs gs ∧ x ∈ gs.flatten ∧ y ∈ gs.flatten ∧ H st = some (.tup (S.map V.int)) ∧ (S = [] ∨ S = [1]) ∧
  (cutR gs x y S = none → ∀ H', Same H H' → Q .non H') ∧ ∀ L, cutR gs x y S = some L → ∀ t H', Same H H' → H' t = some (.tup (L.map V.int)) → Q (.ref t) H'
section
variable {P : Program} {w : World} {K : PySem.W.Frag} {mg : Str → Option Value} {base : Heap}
theorem op_Form_eq (T : Tops K mg) : ∃ f fd, PySem.W.findIn K (.ref (aF K)) "__eq__" = some (some (.ref f)) ∧ PySem.W.isFn K (.ref f) = true ∧ FnOk P w K mg base CX0 1 f fd ["self", "other"] (sp_Form_eq K) ∧ Binds K fd ["self", "other"] [] := by
  obtain ⟨f, fd, h1, h2, F⟩ := T.opF.eq
  refine ⟨f, fd, h1, h2, F.ok sc_Form_eq (fun vs H Q E h => ?_) fun cdv A outer s H vs Q E hr h => ?_, F.binds (fun _ _ _ _ _ _ us hl => match us, hl with | [_, _], _ => rfl)⟩
  · obtain ⟨_, _, _, _, rfl, _⟩ := h; rfl
  obtain ⟨x, y, ts, u, rfl, ⟨x', dx, a1, us1, ex, hx, ha1, hp1⟩, ⟨y', dy, a2, us2, ey, hy, ha2, hp2⟩, q⟩ := h
  cases ex
  cases ey
  refine ⟨_, (pss_one (ps_ret (pe_and (pe_callB (call_isiK' (K := K) rfl) (by rfl) (T.nn "isinstance") rfl (pa_cons (pv 1) (pa_cons (pe_glob (by rfl) T.oF.mgc (show RelV (.ref _) (.ref _) from rfl)) pa_nil))) (pe_and (pe_cmpR (op_eqDK (K := K) rfl (hu64 hr)) (pe_fldK (K := K) rfl (pv 0) rfl) (pe_fldK (K := K) rfl (pv 1) rfl) (nomark _)) (pe_one (pe_cmpR op_eq (pe_fldK (K := K) rfl (pv 0) rfl) (pe_fldK (K := K) rfl (pv 1) rfl) (nomark _))))))) , ?_⟩
  refine ⟨_, rfl, _, _, _, _, true, rfl, .own _, ins_ty T.oF.ins hy, T.oF.ins.me, true, rfl, iteT ?_⟩
  refine ⟨_, rfl, x, _, dx, _, .ref a1, rfl, hx, T.oF.ins.cl, T.nF1, rfl, _, rfl, y, _, dy, _, .ref a2, rfl, hy, T.oF.ins.cl, T.nF1, rfl, .tuple (ts.map trmD), .tuple (ts.map trmD), .tup (.of ha1) (dp_terms hp1), .tup (.of ha2) (dp_terms hp2), shaped_trmD ts, shaped_trmD ts, true, ?_, iteT ?_⟩
  · rw [PyData.eqv, eqvAll_trmD]
  refine ⟨_, rfl, x, _, dx, _, .int u, rfl, hx, T.oF.ins.cl, T.nF2, rfl, _, rfl, y, _, dy, _, .int u, rfl, hy, T.oF.ins.cl, T.nF2, rfl, rfl, ?_⟩
  show Q (.bl (decide (V.int u = V.int u))) H
  rw [decide_eq_true rfl]
  exact q
theorem cl_cut (T : Tops K mg) : Cl P w K mg base 1 "cut" ["row", "places", "groups", "state"] sp_cut := by
  refine .of T.f_cut sc_cut (fun _ _ _ _ _ _ us hl => match us, hl with | [_, _, _, _], _ => rfl) (fun vs H Q E h => ?_) fun f cdv A outer s H vs Q E hr h => ?_
  · obtain ⟨_, _, _, _, _, _, _, _, rfl, _⟩ := h; rfl
  obtain ⟨r, pl, g, st, gs, x, y, S, rfl, hrow, hpl, hg, G, mx, my, hst, hS, qn, qs⟩ := h
  refine ⟨_, (pss_cons (ps_setDc2 (own := [("k", 9), ("group", 10), ("thing", 11)]) (vs1 := [11]) (h0 := newK) (hp := fun _ _ _ _ _ _ => putsK) (by rfl) sc_cut.nd (i := 4) rfl rfl (swd_true rfl rfl rfl (by decide +kernel)) (pi_enumTK (K := K) rfl (by rfl) (T.nn "enumerate") (pa_cons (pv 2) pa_nil)) (blkOk_by (own := [("k", 9), ("group", 10), ("thing", 11)]) (N := N_cut) (sc := defScope s_cut) (by decide +kernel)) (by decide) (fun _ _ _ _ _ => (pg_tupK (K := K) (n := 2) rfl rfl (pgs_cons (pg_name (i := 9) sc_cut.nd rfl (Or.inl rfl)) (pgs_cons (pg_name (i := 10) sc_cut.nd rfl (Or.inl rfl)) pgs_nil)))) (fun _ _ _ _ _ => pts_nil) (fun _ _ _ _ _ => (pv 11)) (fun _ _ _ _ _ => (pv 9)) (fun _ _ _ _ _ => (pi_tupK (K := K) rfl (pv 10))) (fun _ _ _ _ _ => (pg_name (i := 11) sc_cut.nd rfl (Or.inl rfl))) (fun _ _ _ _ _ => pts_nil))
      (pss_cons (ps_set (i := 5) sc_cut.nd rfl (Or.inl rfl) (pe_lst pa_nil))
      (pss_cons (ps_for PassesOwn.never rfl (pi_range2 (by rfl) (T.nn "range") (pa_cons pe_int (pa_cons (pe_callB (call_len_seqK (K := K) rfl) (by rfl) (T.nn "len") rfl (pa_cons (pv 0) pa_nil)) pa_nil))) (pg_name (i := 6) sc_cut.nd rfl (Or.inl rfl))
       (pss_cons (ps_par (i := 7) (j := 8) (by rfl) sc_cut.nd rfl rfl (by decide) rfl rfl (pa_cons (pe_dget (hu_of hr) (pv 4) (pe_ix (ix_tupK (K := K) rfl) (pv 0) (pe_op op_sub (pv 6) pe_int) (fun _ _ => rfl)) (fun _ _ => rfl)) (pa_cons (pe_dget (hu_of hr) (pv 4) (pe_ix (ix_tupK (K := K) rfl) (pv 0) (pv 6) (fun _ _ => rfl)) (fun _ _ => rfl)) pa_nil)) (by rfl))
      (pss_one (ps_if (pt_cmpR (op_in_seqK (K := K) rfl) (pv 6) (pv 3) (by rfl))
       (pss_one (ps_expr (pe_bmK (K := K) rfl PySem.F.plainAttrs_list PySem.F.slot_list_append PySem.F.type_list_append mt_append (pv 5) (pa_cons (pv 6) pa_nil))))
       (pss_one (ps_if (PW.pt (pw_or (pt_cmpR op_gt (pv 7) (pv 8) (nomark _)) (pw_or1 (PW.pt (pw_and (pt_cmpR op_lt (pv 7) (pv 8) (nomark _)) (pw_and1 (pt_cmpR (op_notIn_seqK (K := K) rfl) (pv 6) (pv 1) (by rfl))))))))
       (pss_one (ps_ret pe_non))
       (pss_one (ps_if (pt_cmpR op_lt (pv 7) (pv 8) (nomark _))
       (pss_one (ps_expr (pe_bmK (K := K) rfl PySem.F.plainAttrs_list PySem.F.slot_list_append PySem.F.type_list_append mt_append (pv 5) (pa_cons (pv 6) pa_nil))))
       pss_nil))))))))
      (pss_one (ps_ret (pe_callTy (call_tuple_ofK (K := K) rfl) (by rfl) (T.nn "tuple") rfl (pa_cons (pv 5) pa_nil))))))) , ?_⟩
  obtain ⟨g', us, eg, hga0, hp⟩ := id hg
  cases eg
  have hlen := paired_len hp
  refine ⟨_, rfl, g, us, rfl, .of hga0, fun D hD => ?_⟩
  refine loopE (xs := us) (fun n G' => Same H G' ∧ ∃ kvs, G' D = some (.dK kvs) ∧ kvs.length ≤ (gs.take n).flatten.length ∧ ∀ (i : Nat) (g : List Str) (y : Str), i < n → gs[i]? = some g → y ∈ g → valV kvs (.inr y) = some (.int i))
    (fun n G' h => .of (h.1 _ _ hga0)) ⟨same_new hD, [], upd_same, Nat.zero_le _, fun i g y h => absurd h (Nat.not_lt_zero _)⟩ (fun n v G' T' hv h hT => ?_) fun G' h => ?_
  · obtain ⟨eG, kvs, hDG, hkl, hold⟩ := h
    obtain ⟨g, hg', ga, rfl, hga⟩ := paired_at hp hv
    have hle := flat_le hg'
    have hle8 := G.le
    have eT := eG.trans (same_new (o := .tup [.int (n : Nat), .ref ga]) hT)
    refine ⟨T', _, rfl, .of upd_same, rfl, _, _, rfl, _, _, rfl, rfl, rfl, tYesI ⟨_, rfl, ga, rfl, ⟨_, .of (eT _ _ hga)⟩, ?_⟩⟩
    refine loopT (xs := nm g) (fun m G2 => Same H G2 ∧ ∃ kvs, G2 D = some (.dK kvs) ∧ kvs.length ≤ (gs.take n).flatten.length + m ∧ (∀ (i : Nat) (g : List Str) (y : Str), i < n → gs[i]? = some g → y ∈ g → valV kvs (.inr y) = some (.int i)) ∧ ∀ y ∈ g.take m, valV kvs (.inr y) = some (.int n))
      (fun m G2 h => .of (h.1 _ _ hga)) ⟨eT, kvs, same_new hT _ _ hDG, hkl, hold, fun y h => by simp at h⟩ (fun m y G2 hy h => ?_) fun G2 h => ?_
    · obtain ⟨e2, kvs2, hD2, hk2, ho2, hn2⟩ := h
      obtain ⟨z, hz, rfl⟩ := nm_at hy
      have hm : m < g.length := (List.getElem?_eq_some_iff.mp hz).1
      refine ⟨rfl, tYesI ⟨_, rfl, _, rfl, kvs2, .inr z, rfl, hD2, by rw [sizeLine_eq]; omega, lst_keep e2 hD, _, upd_same, ?_, fun i g' y hi hg2 hy2 => ?_, fun y hy2 => ?_⟩⟩
      · have := length_putK kvs2 (.inr z) (.int n)
        omega
      · rw [valV_put, if_neg]
        · exact ho2 i g' y hi hg2 hy2
        · intro e
          injection e with e
          subst e
          refine flat_new hg' G.nd (List.mem_of_getElem? hz) ?_
          have : g' ∈ gs.take n := List.mem_of_getElem? (i := i) (by rw [List.getElem?_take_of_lt hi]; exact hg2)
          exact List.mem_flatten.mpr ⟨g', this, hy2⟩
      · rw [valV_put]
        by_cases e : y = z
        · subst e; rw [if_pos rfl]
        · rw [if_neg (fun q => e (by injection q))]
          refine hn2 y ?_
          rw [List.take_succ, hz] at hy2
          rcases List.mem_append.mp hy2 with q | q
          · exact q
          · exact absurd (by simpa using q) e
    · obtain ⟨e2, kvs2, hD2, hk2, ho2, hn2⟩ := h
      refine ⟨e2, kvs2, hD2, ?_, fun i g' y hi hg2 hy => ?_⟩
      · rw [flat_take hg', List.length_append]
        rw [List.length_map] at hk2
        exact hk2
      · rcases Nat.lt_or_eq_of_le (Nat.le_of_lt_succ hi) with q | q
        · exact ho2 i g' y q hg2 hy
        · subst q
          rw [hg'] at hg2
          cases hg2
          exact hn2 y (by rw [List.length_map, List.take_length]; exact hy)
  obtain ⟨eG, kvs, hDG, hkl, hold⟩ := h
  have rank : ∀ z, z ∈ gs.flatten → valV kvs (.inr z) = some (.int (rk gs z : Nat)) := fun z mz => by
    obtain ⟨g2, hg2, m2⟩ := rk_at mz
    refine hold _ g2 z ?_ hg2 m2
    rw [hlen]
    exact (List.getElem?_eq_some_iff.mp hg2).1
  refine ⟨Nat.zero_le _, fun f0 nf0 => ?_⟩
  have e1 : Same H (upd G' f0 (.lst [])) := eG.trans (same_new nf0)
  have hD1 : upd G' f0 (.lst []) D = some (.dK kvs) := same_new nf0 _ _ hDG
  refine ⟨_, rfl, r, _, rfl, .inr (.of (e1 _ _ hrow)), 1, 2, rfl, by omega, ?_⟩
  have dgx : ∀ z, z ∈ gs.flatten → DGet (upd G' f0 (.lst [])) D (.str z) (some (.int (rk gs z : Nat))) := fun z mz => by
    rw [← rank z mz]
    exact DGet.k (k := .inr z) hD1
  have hnf : H f0 = none := eG.free nf0
  refine for_range (lo := 1) (n := 1) (fun i σ' G2 => ∃ σr L, σ' = [some (.ref r), some (.ref pl), some (.ref g), some (.ref st), some (.ref D), some (.ref f0)] ++ σr ∧ σr.length = 6 ∧ Same H G2 ∧ G2 f0 = some (.lst (L.map V.int)) ∧ (i = 0 → L = [] ∧ σr = [none, none, none, none, none, none] ∧ G2 = upd G' f0 (.lst [])) ∧ (i = 1 → cutR gs x y S = some L)) ⟨_, [], rfl, rfl, e1, upd_same, fun _ => ⟨rfl, rfl, rfl⟩, fun z => by cases z⟩ (fun i σ' G2 hi hh => ?_) fun σ' G2 hh => ?_
  · have hi0 : i = 0 := by omega
    subst hi0
    obtain ⟨σr, L, rfl, hlr, e2, hf, h0, _⟩ := hh
    obtain ⟨rfl, rfl, rfl⟩ := h0 rfl
    have hrow1 := e1 _ _ hrow
    refine ⟨_, rfl, _, rfl, _, rfl, _, 1, rfl, rfl, r, _, _, .str x, rfl, rfl, .of hrow1, rfl, D, _, rfl, dgx x mx, _, rfl, _, rfl, _, rfl, r, _, _, .str y, rfl, rfl, .of hrow1, rfl, D, _, rfl, dgx y my, _, _, rfl, ?_⟩
    refine ⟨_, rfl, _, rfl, st, _, rfl, .inr (.of (e1 _ _ hst)), rfl, flat_ints S, ?_⟩
    rcases hS with rfl | rfl
    · refine ⟨false, rfl, iteF ?_⟩
      by_cases h1 : rk gs y < rk gs x
      · refine ⟨_, rfl, _, rfl, _, _, rfl, rfl, true, blT (by omega), iteT (iteT ?_)⟩
        refine qn ?_ _ e1
        unfold cutR
        rw [if_neg (by simp), if_pos h1]
      · refine ⟨_, rfl, _, rfl, _, _, rfl, rfl, false, blF (by omega), iteF ?_⟩
        by_cases h2 : rk gs x < rk gs y
        · refine ⟨_, rfl, _, rfl, _, _, rfl, rfl, true, blT (by omega), iteT ?_⟩
          refine ⟨_, rfl, _, rfl, pl, _, rfl, .inl (.of (e1 _ _ hpl)), rfl, rfl, false, rfl, iteF ?_⟩
          refine ⟨_, rfl, _, rfl, _, _, rfl, rfl, true, blT (by omega), iteT ?_⟩
          refine ⟨_, rfl, .inl ⟨rfl, _, .of upd_same⟩, _, rfl, f0, [], _, rfl, rfl, upd_same, by decide, _, [1], rfl, rfl, lst_keep e1 hnf, upd_same, fun z => by omega, fun _ => ?_⟩
          unfold cutR
          rw [if_neg (by simp), if_neg h1, if_pos h2]
        · refine ⟨_, rfl, _, rfl, _, _, rfl, rfl, false, blF (by omega), iteF (iteF ?_)⟩
          refine ⟨_, rfl, _, rfl, _, _, rfl, rfl, false, blF (by omega), iteF ?_⟩
          refine ⟨_, [], rfl, rfl, e1, upd_same, fun z => by omega, fun _ => ?_⟩
          unfold cutR
          rw [if_neg (by simp), if_neg h1, if_neg h2]
    · refine ⟨true, rfl, iteT ?_⟩
      refine ⟨_, rfl, .inl ⟨rfl, _, .of upd_same⟩, _, rfl, f0, [], _, rfl, rfl, upd_same, by decide, _, [1], rfl, rfl, lst_keep e1 hnf, upd_same, fun z => by omega, fun _ => ?_⟩
      unfold cutR
      rw [if_pos rfl]
  · obtain ⟨σr, L, rfl, hlr, e2, hf, _, h1⟩ := hh
    refine ⟨_, rfl, f0, _, rfl, .inl ⟨.of hf, fun tp htp => ?_⟩⟩
    exact qs L (h1 rfl) tp _ (e2.trans (same_new htp)) upd_same
end
end SD
end
section
set_option Elab.async false
set_option linter.all false
set_option maxRecDepth 100000
set_option maxHeartbeats 4000000
/-! ### the step of cut_forms: a lambda that is handed on -/
namespace SD
open PySem PySem.Spec PyProof.Rows L2 LamX NdefX
theorem unlend_same {cs : List (Addr × Obj)} {H : Hp} (hc : ∀ p ∈ cs, ∃ o, H p.1 = some (LentO o)) {b : Addr} {o : HO} (e : H b = some o) (n : ∀ o', o ≠ LentO o') : unlend cs H b = some o := by
  rw [unlend_out (lk_of_not hc e n)]
  exact e
theorem same_lend {cs : List (Addr × Obj)} {H H' : Hp} (hc : ∀ p ∈ cs, H p.1 = some (LentO p.2)) (e : Same (unlend cs H) H') : Same H (lend cs H') := by
  intro b o h
  cases l : cs.lookup b with
  | some o' =>
    rw [lend_in l]
    have := hc _ (lk_mem l)
    rw [h] at this
    exact this.symm
  | none =>
    rw [lend_out l]
    exact e b o (by rw [unlend_out l]; exact h)
theorem lend_at {cs : List (Addr × Obj)} {H : Hp} (hn : ∀ p ∈ cs, H p.1 = none) {b : Addr} {o : HO} (e : H b = some o) : lend cs H b = some o := by
  rw [lend_out (lk_of_un hn e)]
  exact e
theorem same_unlend {cs : List (Addr × Obj)} {H H' : Hp} (hn : ∀ p ∈ cs, H p.1 = none) (e : Same (lend cs H) H') : Same H (unlend cs H') := by
  intro b o h
  have l := lk_of_un hn h
  rw [unlend_out l]
  exact e b o (by rw [lend_out l]; exact h)
theorem unlend_keep {cs : List (Addr × Obj)} {H H' : Hp} (e : Same (lend cs H) H') {b : Addr} {o : HO} (h : H' b = some o) (n : ∀ o', o ≠ LentO o') : unlend cs H' b = some o := by
  cases l : cs.lookup b with
  | some o' =>
    have := e b _ (lend_in l)
    rw [h] at this
    exact absurd (Option.some.inj this) (n o')
  | none => rw [unlend_out l]; exact h
/-! the call -/
def tCallLm2 (i : Nat) (S : Addr → List (Option V) → Hp → Prop) (sp : List (Option V) → Sp) (E : XK) (t : TA) : TE := fun σ H Q => ∃ f, σ[i]? = some (some (.ref f)) ∧ (∃ ws, S f ws H) ∧ t σ H fun vs H1 => ∃ ws, S f ws H1 ∧
  ∀ cs : List (Addr × Obj), (∀ p ∈ cs, H1 p.1 = some (LentO p.2)) → sp ws vs (unlend cs H1) (fun v H' => (∀ p ∈ cs, H' p.1 = none) → Q v (lend cs H')) E
section
variable {P : Program} {w : World} {cs : List (Addr × Obj)} {H : Hp} {outer : List Env} {s s' : Shared}
theorem ce_unlend2 {Q : VK} {u : Value} (hs : HOk P w H s.heap) (hf : ∀ b ∈ frs outer, H b = none) (hc : ∀ p ∈ cs, H p.1 = some (LentO p.2)) (c : CE outer P w (unlend cs H) s (fun v H' => (∀ p ∈ cs, H' p.1 = none) → Q v (lend cs H')) u s') : CE outer P w H s Q u s' := by
  refine ce_unlend hs hf hc ?_
  obtain ⟨v, H', os, bare, un, hok, r, q⟩ := c
  refine ⟨v, H', os, bare, un, hok, r, q fun p hp => ?_⟩
  obtain ⟨o, ho⟩ := lk_some (o := p.2) hp
  exact un.free p.1 p.2 (lent_at hs (hc p hp)) (unlend_in ho) (by simp)
end
section
variable {X : Cx} {CX : CXT} {k i : Nat} {f : Addr} {ps fr : List Str} {E : XK} {x : Str} {p pos : Pos} {e : Expr} {es : List Expr} {t : TA}
theorem pe_callLm2 {S : Addr → List (Option V) → Hp → Prop} {body : Expr} {sp : List (Option V) → Sp}
    (hS : ∀ f ws H, S f ws H → ∃ (F : NF) (cs : List (Addr × Obj)), H f = some (LmO f F body) ∧ H F.c = some (CodeO F.c F.qual) ∧ (∀ p ∈ cs, H p.1 = some (LentO p.2)) ∧ CellsIn F.cl fr ws cs ∧ LmOk X.prog X.w X.K X.mg X.base CX k f F body ps fr sp)
    (len : ∀ ws vs H Q E, sp ws vs H Q E → vs.length = ps.length)
    (hr : Room k X.A) (hx : ∀ a b c d e f, ¬ CX a b c d e f) (hN : X.N[i]? = some x) (hv : Vis X.env.scope x) (ha : PA X (e :: es) t)
    (hd : (x == ("__debug__" : Str)) = false := by decide) (hcd : (x == ("__classdict__" : Str)) = false := by decide)
    (he : starEach (e :: es) X.env = (false, eval e X.env) :: starEach es X.env := by rfl) (hpl : (backTo pos (starEach es X.env)).any (·.1) = false := by rfl) :
    PE X (.Call (.Name x p) (e :: es) [] pos) (tCallLm2 i S sp E t) := by
  refine ⟨fun pins s σ H Q I h => ?_⟩
  obtain ⟨f, hs, ⟨ws, hS0⟩, ht⟩ := h
  obtain ⟨F, cs, hf, hc, hcs, C, L⟩ := hS f ws H hS0
  refine wpAny_Call_Name_kw (thn ((pe_var (pos := p) hN hv hd hcd).run pins s σ H (fun v H1 => v = .ref f ∧ H1 = H) I ⟨.ref f, hs, rfl, rfl⟩) fun u s1 ⟨v, H1, I1, r1, q1⟩ => ?_)
  obtain ⟨ev, eH⟩ := q1
  subst ev
  rw [eH] at I1
  obtain rfl : u = Value.ref f := r1
  refine PySem.W.callWith_F (first := []) (lmFnAt I1.hok hf) (thn (ha.run pos pins s1 σ H _ I1 ht) fun us s2 ⟨vs, H2, I2, r, ws2, hS2, q⟩ => ?_) he hpl
  obtain ⟨F2, cs2, hf2, hc2, hcs2, C2, L2⟩ := hS f ws2 H2 hS2
  refine ⟨lmFnAt I2.hok hf2, ?_⟩
  show wpAny _ _ (call (.ref f) us) _ _ _
  have q2 := q cs2 hcs2
  have hn : ∀ p ∈ cs2, ∃ o, H2 p.1 = some (LentO o) := fun p hp => ⟨_, hcs2 p hp⟩
  refine wpAny_call (codeAny_mono (L2 X.A X.stack s2 (unlend cs2 H2) us vs ws2 _ E hr (env0_unlend I2.env0 hn) ?_ ?_ (cells_back I2.hok hcs2 C2) r (len _ _ _ _ _ q2) q2) fun r s' hq => ?_)
  · rw [unlend_out (lk_of_not hn hf2 (fun o z => by cases z))]; exact hf2
  · rw [unlend_out (lk_of_not hn hc2 (fun o z => by cases z))]; exact hc2
  cases r with
  | error e => exact absurd hq (hx _ _ _ _ _ _)
  | ok fl =>
    cases fl with
    | ret u => exact I2.after (ce_unlend2 I2.hok I2.stkFree hcs2 hq)
    | next => exact False.elim hq
    | brk => exact False.elim hq
    | cont => exact False.elim hq
end
/-! the lambda of cut_forms -/
def lamOf : Stmt → Arguments × Expr × Scope
  | .FunctionDef (body := [.Return (some (.Call _ [_, _, .Lambda a b s _] _ _)) _]) .. => (a, b, s)
  | _ => (⟨[], [], none, [], [], none, []⟩, .Constant .none 0 ⟨0, 0, 0, 0⟩, ⟨.function, [], false, false, []⟩)
abbrev lamA : Arguments := (lamOf (top 81)).1
abbrev lamB : Expr := (lamOf (top 81)).2.1
abbrev lamS : Scope := (lamOf (top 81)).2.2
def lamF (q : Str) (cl : List (Str × Addr)) (c : Addr) : NF := ⟨"<lambda>", q, lamA, [], lamS, cl, c⟩
theorem ns_lam : NScope ["groups", "state", "row", "places"] ["groups", "state"] ["row", "places"] lamS := nscope_by (by decide +kernel)
def sp_lam (ws : List (Option V)) : Sp := fun vs H Q E => ∃ r pl g st, ws = [some (.ref r), some (.ref pl)] ∧ vs = [g, st] ∧ sp_cut [.ref r, .ref pl, g, st] H Q E
section
variable {P : Program} {w : World} {K : PySem.W.Frag} {mg : Str → Option Value} {base : Heap}
theorem ok_lam (T : Tops K mg) (f : Addr) (q : Str) (cl : List (Str × Addr)) (c : Addr) : LmOk P w K mg base CX0 2 f (lamF q cl c) lamB ["groups", "state"] ["row", "places"] sp_lam := by
  refine lmOk_of (N := ["groups", "state", "row", "places"]) ns_lam (fun pm ctv us hl => match us, hl with | [_, _], _ => rfl) fun A outer s H vs ws Q E hr h1 h2 h => ?_
  obtain ⟨r, pl, g, st, rfl, rfl, hsp⟩ := h
  refine ⟨_, pe_cl (cl_cut T) hr (by decide) rfl (pa_cons (pv 2) (pa_cons (pv 3) (pa_cons (pv 0) (pa_cons (pv 1) pa_nil)))), ?_⟩
  exact ⟨_, rfl, _, rfl, _, rfl, _, rfl, hsp⟩
end
/-- the step at f: its captured row and places -/
def StepAt (f : Addr) (ws : List (Option V)) (H : Hp) : Prop := ∃ q cl c cs, H f = some (LmO f (lamF q cl c) lamB) ∧ H c = some (CodeO c q) ∧ (∀ p ∈ cs, H p.1 = some (LentO p.2)) ∧ CellsIn cl ["row", "places"] ws cs
theorem StepAt.same {f : Addr} {ws : List (Option V)} {H G : Hp} (e : Same H G) (h : StepAt f ws H) : StepAt f ws G := by
  obtain ⟨q, cl, c, cs, h1, h2, h3, h4⟩ := h
  exact ⟨q, cl, c, cs, e _ _ h1, e _ _ h2, fun p hp => e _ _ (h3 p hp), h4⟩
theorem stepAt_ok {P : Program} {w : World} {K : PySem.W.Frag} {mg : Str → Option Value} {base : Heap} (T : Tops K mg) : ∀ f ws H, StepAt f ws H → ∃ (F : NF) (cs : List (Addr × Obj)), H f = some (LmO f F lamB) ∧ H F.c = some (CodeO F.c F.qual) ∧ (∀ p ∈ cs, H p.1 = some (LentO p.2)) ∧ CellsIn F.cl ["row", "places"] ws cs ∧ LmOk P w K mg base CX0 2 f F lamB ["groups", "state"] ["row", "places"] sp_lam := by
  intro f ws H h
  obtain ⟨q, cl, c, cs, h1, h2, h3, h4⟩ := h
  exact ⟨lamF q cl c, cs, h1, h2, h3, h4, ok_lam T f q cl c⟩
theorem sp_lam_len : ∀ ws vs H Q E, sp_lam ws vs H Q E → vs.length = (["groups", "state"] : List Str).length := by
  intro ws vs H Q E h
  obtain ⟨_, _, _, _, _, rfl, _⟩ := h
  rfl
end SD
end
section
set_option Elab.async false
set_option linter.all false
set_option maxRecDepth 100000
set_option maxHeartbeats 4000000
/-! ### the states that are reached -/
namespace SD
open PySem PySem.Spec PyProof.Rows L2
def stD (S : List Int) : PyData := .tuple (S.map .int)
theorem lay_ints : ∀ a : List Int, PyData.canLayAll0 (a.map .int) = true
  | [] => by simp [PyData.canLayAll0]
  | x :: a => by simp [PyData.canLayAll0, lay_ints a, PyData.canLay0]
theorem stD_dep (S : List Int) : (stD S).depth ≤ 1 := by
  unfold stD
  rw [PyData.depth, PySem.W.depth_ints]
  omega
theorem shaped_stD (S : List Int) : SeqAt.shaped (stD S) = true := by
  have hd := stD_dep S
  show ((stD S).canLay0 && decide ((stD S).depth ≤ 64)) = true
  rw [Bool.and_eq_true]
  refine ⟨?_, decide_eq_true (by omega)⟩
  unfold stD
  rw [PyData.canLay0]
  exact lay_ints S
theorem lay_sts : ∀ W : List (List Int), PyData.canLayAll0 (W.map stD) = true
  | [] => by simp [PyData.canLayAll0]
  | x :: a => by simp [PyData.canLayAll0, lay_sts a, PySem.SeqAt.canLay_of_shaped (shaped_stD x)]
theorem dep_sts : ∀ W : List (List Int), PyData.depthAll (W.map stD) ≤ 1
  | [] => by simp [PyData.depthAll]
  | x :: a => by
    have h1 := dep_sts a
    have h2 := stD_dep x
    rw [List.map_cons, PyData.depthAll]
    omega
theorem shaped_sts (W : List (List Int)) : SeqAt.shaped (.list (W.map stD)) = true := by
  have h1 := dep_sts W
  have hd : (PyData.list (W.map stD)).depth ≤ 2 := by rw [PyData.depth]; omega
  show ((PyData.list (W.map stD)).canLay0 && decide ((PyData.list (W.map stD)).depth ≤ 64)) = true
  rw [Bool.and_eq_true]
  refine ⟨?_, decide_eq_true (by omega)⟩
  rw [PyData.canLay0]
  exact lay_sts W
theorem dp_ints {K : PySem.W.Frag} {H : Hp} : ∀ S : List Int, DpAll K H (S.map V.int) (S.map .int)
  | [] => .nil
  | x :: S => .cons (.int x) (dp_ints S)
theorem stV_dp {K : PySem.W.Frag} {H : Hp} {v : V} {S : List Int} (h : StV H v S) : Dp K H v (stD S) := by
  obtain ⟨a, rfl, ha⟩ := h
  exact .tup (.of ha) (dp_ints S)
theorem dp_sts {K : PySem.W.Frag} {H : Hp} : ∀ {ws : List V} {W : List (List Int)}, Paired (StV H) ws W → DpAll K H ws (W.map stD)
  | _, _, .nil => .nil
  | _, _, .cons h t => .cons (stV_dp h) (dp_sts t)
def kI (S : List Int) : List Key := S.map .inl
theorem kI_map (S : List Int) : (kI S).map kV = S.map V.int := by
  unfold kI
  rw [List.map_map]
  rfl
theorem kI_inj : ∀ {a b : List Int}, kI a = kI b → a = b
  | [], [], _ => rfl
  | [], _ :: _, e => by simp [kI] at e
  | _ :: _, [], e => by simp [kI] at e
  | x :: xs, y :: ys, e => by
    unfold kI at e
    rw [List.map_cons, List.map_cons] at e
    injection e with e1 e2
    injection e1 with e1
    rw [e1, kI_inj e2]
/-- tickets that lead from S to L -/
def fsum (rows : List Row) (x y : Str) (S L : List Int) : Nat := ((rows.filter fun r => decide (cutR r.1 x y S = some L)).map (·.2)).sum
theorem fsum_snoc {rows : List Row} {x y : Str} {S : List Int} (L : List Int) {n : Nat} {r : Row} (h : rows[n]? = some r) : fsum (rows.take (n + 1)) x y S L = fsum (rows.take n) x y S L + if cutR r.1 x y S = some L then r.2 else 0 := by
  unfold fsum
  rw [take_succ_filter h]
  by_cases c : cutR r.1 x y S = some L
  · rw [if_pos (by simpa using c), if_pos c, List.map_append, List.sum_append]
    simp
  · rw [if_neg (by simpa using c), if_neg c, List.append_nil]
    rfl
theorem cutR_two {gs : Gs} {x y : Str} {S L : List Int} (h : cutR gs x y S = some L) : L = [] ∨ L = [1] := by
  unfold cutR at h
  split at h
  · exact .inr (Option.some.inj h).symm
  · split at h
    · cases h
    · split at h
      · exact .inr (Option.some.inj h).symm
      · exact .inl (Option.some.inj h).symm
structure FoundOk (rows : List Row) (x y : Str) (S : List Int) (kvs : List (List Key × V)) : Prop where
  at_ : ∀ L : List Int, valV kvs (kI L) = if fsum rows x y S L = 0 then none else some (.int (fsum rows x y S L : Nat))
  two : ∀ kv ∈ kvs, kv.1 = kI [] ∨ kv.1 = kI [1]
  len : kvs.length ≤ rows.length
theorem found_put {rows : List Row} {x y : Str} {S : List Int} {kvs : List (List Key × V)} {n : Nat} {r : Row} {L : List Int} (h : FoundOk (rows.take n) x y S kvs) (hr : rows[n]? = some r) (hL : cutR r.1 x y S = some L) (h1 : 1 ≤ r.2) :
    FoundOk (rows.take (n + 1)) x y S (putK kvs (kI L) (.int ((fsum (rows.take n) x y S L : Nat) + (r.2 : Int)))) := by
  have hn : n < rows.length := (List.getElem?_eq_some_iff.mp hr).1
  refine ⟨fun L' => ?_, fun kv m => ?_, ?_⟩
  · by_cases e : L' = L
    · subst e
      rw [valV_put, fsum_snoc L' hr, if_pos rfl, if_pos hL, if_neg (by omega)]
      congr 2
    · have hs : fsum (rows.take (n + 1)) x y S L' = fsum (rows.take n) x y S L' := by
        rw [fsum_snoc L' hr, if_neg (fun z => e (Option.some.inj (z.symm.trans hL))), Nat.add_zero]
      rw [valV_put, hs, if_neg (fun z => e (kI_inj z))]
      exact h.at_ L'
  · unfold putK at m
    split at m
    · obtain ⟨kv', m', rfl⟩ := List.mem_map.mp m
      have := h.two kv' m'
      split <;> exact this
    · rcases List.mem_append.mp m with z | z
      · exact h.two kv z
      · have : kv = (kI L, V.int ((fsum (rows.take n) x y S L : Nat) + (r.2 : Int))) := by simpa using z
        subst this
        rcases cutR_two hL with q | q <;> rw [q] <;> simp
  · have := length_putK kvs (kI L) (V.int ((fsum (rows.take n) x y S L : Nat) + (r.2 : Int)))
    have := h.len
    rw [List.length_take] at this ⊢
    omega
theorem found_skip {rows : List Row} {x y : Str} {S : List Int} {kvs : List (List Key × V)} {n : Nat} {r : Row} (h : FoundOk (rows.take n) x y S kvs) (hr : rows[n]? = some r) (hL : cutR r.1 x y S = none) : FoundOk (rows.take (n + 1)) x y S kvs := by
  have hn : n < rows.length := (List.getElem?_eq_some_iff.mp hr).1
  refine ⟨fun L' => ?_, h.two, ?_⟩
  · have hs : fsum (rows.take (n + 1)) x y S L' = fsum (rows.take n) x y S L' := by
      rw [fsum_snoc L' hr, if_neg (fun z => by rw [hL] at z; cases z), Nat.add_zero]
    rw [hs]
    exact h.at_ L'
  · have := h.len
    rw [List.length_take] at this ⊢
    omega
def WaysOk (H : Hp) (rows : List Row) (x y : Str) (kvs : List (List Key × V)) : Prop := ∃ d0 k0, H d0 = some (.dT k0) ∧ FoundOk rows x y [] k0 ∧
  ((fsum rows x y [] [1] = 0 ∧ kvs = [(kI [], .ref d0)]) ∨ (0 < fsum rows x y [] [1] ∧ ∃ d1 k1, kvs = [(kI [], .ref d0), (kI [1], .ref d1)] ∧ H d1 = some (.dT k1) ∧ FoundOk rows x y [1] k1))
abbrev s_ways_on : Stmt := top 78
abbrev N_ways_on : List Str := ["urn", "begin", "step", "ways", "waiting", "state", "found", "groups", "tickets", "after"]
theorem sc_ways_on : FnScope N_ways_on ["urn", "begin", "step"] (defScope s_ways_on) := ⟨rfl, rfl, rfl, by decide +kernel, rfl, by decide +kernel, by decide +kernel⟩
def sp_ways_on (K : PySem.W.Frag) : Sp := fun vs H Q _ => ∃ u b f rows th x y r pl, vs = [.ref u, .ref b, .ref f] ∧ UrnV K H (.ref u) rows th ∧ GoodR rows th ∧ x ∈ th ∧ y ∈ th ∧ H b = some (.tup []) ∧ StepAt f [some (.ref r), some (.ref pl)] H ∧ H r = some (.tup (nm [x, y])) ∧ H pl = some (.lst [.int 1]) ∧
  ∀ wd kvs H', Same H H' → H' wd = some (.dT kvs) → WaysOk H' rows x y kvs → Q (.ref wd) H'
/-- the phases of the walk: kvs the states done, W those that wait -/
def Phase (H : Hp) (rows : List Row) (x y : Str) (kvs : List (List Key × V)) (W : List (List Int)) : Prop := (kvs = [] ∧ W = [[]]) ∨ ∃ d0 k0, H d0 = some (.dT k0) ∧ FoundOk rows x y [] k0 ∧
  ((kvs = [(kI [], .ref d0)] ∧ (0 < fsum rows x y [] [1] ↔ [1] ∈ W)) ∨ (0 < fsum rows x y [] [1] ∧ ∃ d1 k1, kvs = [(kI [], .ref d0), (kI [1], .ref d1)] ∧ H d1 = some (.dT k1) ∧ FoundOk rows x y [1] k1))
def KeyAt (H : Hp) (v : V) (k : List Key) : Prop := ∃ q, v = .ref q ∧ H q = some (.tup (k.map kV))
theorem found_nil {x y : Str} {S : List Int} : FoundOk [] x y S [] := ⟨fun L => rfl, (fun kv m => nomatch m), Nat.le_refl _⟩
section
variable {P : Program} {w : World} {K : PySem.W.Frag} {mg : Str → Option Value} {base : Heap}
theorem stV_upd {G : Hp} {D : Addr} {o u : HO} {v : V} {S : List Int} (hf : G D = some u) (hu : ∀ xs, u ≠ .tup xs) (h : StV G v S) : StV (upd G D o) v S := by
  obtain ⟨a, rfl, h2⟩ := h
  exact ⟨a, rfl, by rw [upd_ne (ne_of h2 hf (fun z => hu _ z.symm))]; exact h2⟩
theorem keyAt_upd {G : Hp} {D : Addr} {o u : HO} {v : V} {k : List Key} (hf : G D = some u) (hu : ∀ xs, u ≠ .tup xs) (h : KeyAt G v k) : KeyAt (upd G D o) v k := by
  obtain ⟨a, rfl, h2⟩ := h
  exact ⟨a, rfl, by rw [upd_ne (ne_of h2 hf (fun z => hu _ z.symm))]; exact h2⟩
theorem grpV_unlend {cs : List (Addr × Obj)} {G : Hp} (hc : ∀ p ∈ cs, ∃ o, G p.1 = some (LentO o)) {v : V} {gs : Gs} (h : GrpV G v gs) : GrpV (unlend cs G) v gs := by
  obtain ⟨a, vs, rfl, ha, hp⟩ := h
  refine ⟨a, vs, rfl, unlend_same hc ha (fun _ z => by cases z), paired_mono (fun v g tv => ?_) hp⟩
  obtain ⟨b, rfl, hb⟩ := tv
  exact ⟨b, rfl, unlend_same hc hb (fun _ z => by cases z)⟩
theorem found_get {rows : List Row} {x y : Str} {S : List Int} {kvs : List (List Key × V)} (h : FoundOk rows x y S kvs) (L : List Int) : (valV kvs (kI L)).getD (.int 0) = .int (fsum rows x y S L : Nat) := by
  rw [h.at_ L]
  split
  · rename_i z
    rw [z]
    rfl
  · rfl
theorem sts_split {ws : List V} {W : List (List Int)} {H : Hp} (h : Paired (StV H) ws W) (hne : W ≠ []) : ∃ ws' v W' S, ws = ws' ++ [v] ∧ W = W' ++ [S] ∧ Paired (StV H) ws' W' ∧ StV H v S := by
  induction h with
  | nil => exact absurd rfl hne
  | @cons a b as bs h t ih =>
    cases t with
    | nil => exact ⟨[], a, [], b, rfl, rfl, .nil, h⟩
    | @cons a2 b2 as2 bs2 h2 t2 =>
      obtain ⟨ws', v, W', S, e1, e2, p, q⟩ := ih (by simp)
      exact ⟨a :: ws', v, b :: W', S, by rw [e1]; rfl, by rw [e2]; rfl, .cons h p, q⟩
theorem cl_ways_on (T : Tops K mg) : Cl P w K mg base 3 "ways_on" ["urn", "begin", "step"] (sp_ways_on K) := by
  refine .of T.f_ways_on sc_ways_on (fun _ _ _ _ _ _ us hl => match us, hl with | [_, _, _], _ => rfl) (fun vs H Q E h => ?_) fun f cdv A outer s H vs Q E hr h => ?_
  · obtain ⟨_, _, _, _, _, _, _, _, _, rfl, _⟩ := h; rfl
  obtain ⟨u, b, fa, rows, th, x, y, r, pl, rfl, hu, G', mx, my, hb, hS, hrow, hpl, q⟩ := h
  refine ⟨_, (pss_cons (ps_set (i := 3) sc_ways_on.nd rfl (Or.inl rfl) pe_dnewT)
      (pss_cons (ps_set (i := 4) sc_ways_on.nd rfl (Or.inl rfl) (pe_lst (pa_cons (pv 1) pa_nil)))
      (pss_cons (ps_while PassesOwn.never (pt_cmpR (op_neDK (K := K) rfl (hu64 hr)) (pv 4) (pe_lst pa_nil) (nomark _))
       (pss_cons (ps_set (i := 5) sc_ways_on.nd rfl (Or.inl rfl) (pe_bm0 PySem.F.plainAttrs_list PySem.F.slot_list_pop PySem.F.type_list_pop mt_pop (pv 4)))
      (pss_one (ps_if (pt_cmp (pc_dnotin (hu_of hr) (pv 5) (pv 3)))
       (pss_cons (ps_set (i := 6) sc_ways_on.nd rfl (Or.inl rfl) pe_dnewT)
      (pss_cons (ps_for PassesOwn.never rfl (pi_listK (K := K) rfl (pe_fldK (K := K) rfl (pv 0) rfl)) (pg_tupK (K := K) (n := 2) rfl rfl (pgs_cons (pg_name (i := 7) sc_ways_on.nd rfl (Or.inl rfl)) (pgs_cons (pg_name (i := 8) sc_ways_on.nd rfl (Or.inl rfl)) pgs_nil)))
       (pss_cons (ps_set (i := 9) sc_ways_on.nd rfl (Or.inl rfl) (pe_callLm2 (i := 2) (k := 2) (E := E0) (stepAt_ok T) sp_lam_len (hr.mono (by decide)) (fun _ _ _ _ _ _ z => z) rfl (Or.inl rfl) (pa_cons (pv 7) (pa_cons (pv 5) pa_nil))))
      (pss_one (ps_if (pt_cmpR op_notN (pv 9) pe_non (nomark _))
       (pss_one (ps_dput (hu_of hr) (pv 6) (pv 9) (pe_op op_add (pe_dget2 (hu_of hr) (pv 6) (pv 9) pe_int ⟨rfl, rfl, rfl, rfl⟩) (pv 8)) rfl))
       pss_nil))))
      (pss_cons (ps_dput (hu_of hr) (pv 3) (pv 5) (pv 6) rfl)
      (pss_one (ps_expr (pe_bmK (K := K) rfl PySem.F.plainAttrs_list PySem.F.slot_list_extend PySem.F.type_list_extend mt_extend (pv 4) (pa_cons (pe_lock (pe_lc (own := [("after", 9)]) (by rfl) sc_ways_on.nd (pi_keys (pv 6)) (blkOk_by (own := [("after", 9)]) (N := N_ways_on) (sc := defScope s_ways_on) (by decide +kernel)) (fun _ _ _ _ _ => (pg_name (i := 9) sc_ways_on.nd rfl (Or.inl rfl))) (fun _ _ _ _ _ => pts_nil) (fun _ _ _ _ _ => (pv 9)))) pa_nil)))))))
       pss_nil))))
      (pss_one (ps_ret (pv 3)))))) , ?_⟩
  obtain ⟨u', dx, rl, nd, us, eu, hux, hrl, hp, _⟩ := id hu
  cases eu
  have hlen := paired_len hp
  have hl8 := G'.len
  intro wd nwd
  have e1 : Same H (upd H wd (.dT [])) := same_new nwd
  refine ⟨_, rfl, by show 1 ≤ sizeLine; decide, fun wl nwl => ?_⟩
  have e2 : Same H (upd (upd H wd (.dT [])) wl (.lst [.ref b])) := e1.trans (same_new nwl)
  have hwdl : wd ≠ wl := fun z => by rw [← z, upd_same] at nwl; cases nwl
  have nwl0 : H wl = none := e1.free nwl
  refine while_by (fun σ' H' => ∃ o5 o6 o7 o8 o9 kvs ws W, σ' = [some (.ref u), some (.ref b), some (.ref fa), some (.ref wd), some (.ref wl), o5, o6, o7, o8, o9] ∧ Same H H' ∧ H' wd = some (.dT kvs) ∧ H' wl = some (.lst ws) ∧ Paired (StV H') ws W ∧ (∀ S ∈ W, S = [] ∨ S = [1]) ∧ W.length ≤ 1 + 8 * kvs.length ∧ Phase H' rows x y kvs W)
    (fun _ H' => match H' wd, H' wl with | some (.dT kvs), some (.lst ws) => 100 * (2 - kvs.length) + ws.length | _, _ => 0) ⟨_, _, _, _, _, [], [.ref b], [[]], rfl, e2, by rw [upd_ne hwdl]; exact upd_same, upd_same, .cons ⟨b, rfl, e2 _ _ hb⟩ .nil, by simp, by simp, .inl ⟨rfl, rfl⟩⟩ (fun σ' H' hh => ?_) ?_
  · obtain ⟨o5, o6, o7, o8, o9, kvs, ws, W, rfl, e, hwd, hwl, pw, h2, hWl, ph⟩ := hh
    refine ⟨_, rfl, Nat.zero_le _, fun p np => ?_⟩
    have e3 : Same H' (upd H' p (.lst [])) := same_new np
    refine ⟨.list (W.map stD), .list [], .lst (.of (e3 _ _ hwl)) (dp_sts (paired_mono (fun v S h => h.same e3) pw)), .lst (.of upd_same) .nil, shaped_sts W, shaped_sts [], ?_⟩
    by_cases hW : W = []
    · subst hW
      cases pw
      refine ⟨false, by simp [PyData.eqv, PyData.eqvAll], ?_⟩
      refine iteF ⟨_, rfl, q wd kvs _ (e.trans e3) (e3 _ _ hwd) ?_⟩
      rcases ph with ⟨_, z⟩ | ⟨d0, k0, hd0, f0, ph⟩
      · cases z
      · refine ⟨d0, k0, e3 _ _ hd0, f0, ?_⟩
        rcases ph with ⟨z1, z2⟩ | ⟨z1, d1, k1, z2, z3, z4⟩
        · exact .inl ⟨by rcases Nat.eq_zero_or_pos (fsum rows x y [] [1]) with z | z; exact z; exact absurd (z2.mp z) (by simp), z1⟩
        · exact .inr ⟨z1, d1, k1, z2, e3 _ _ z3, z4⟩
    obtain ⟨ws', v, W', S, rfl, rfl, pw', hv⟩ := sts_split pw hW
    refine ⟨true, by
      cases W' with
      | nil => simp [PyData.eqv, PyData.eqvAll]
      | cons a W' => simp [PyData.eqv, PyData.eqvAll], iteT ?_⟩
    obtain ⟨sa, rfl, hsa⟩ := hv
    have hS2 : S = [] ∨ S = [1] := h2 S (by simp)
    have hwl3 := e3 _ _ hwl
    -- the pop
    refine ⟨_, rfl, .inl ⟨rfl, _, .of hwl3⟩, wl, _, .ref sa, rfl, rfl, hwl3, by simp, ?_⟩
    rw [List.dropLast_concat]
    have npl : p ≠ wl := fun z => by rw [z, hwl] at np; cases np
    have nwu : ∀ {a : Addr} {o : HO}, H a = some o → a ≠ wl := fun h => ne_of_none h nwl0
    -- the heap without the state that was taken
    have e4 : Same H (upd (upd H' p (.lst [])) wl (.lst ws')) := lst_keep (e.trans e3) nwl0
    have hwd4 : (upd (upd H' p (.lst [])) wl (.lst ws')) wd = some (.dT kvs) := by rw [upd_ne hwdl]; exact e3 _ _ hwd
    have hsa4 : (upd (upd H' p (.lst [])) wl (.lst ws')) sa = some (.tup (S.map V.int)) := by
      rw [upd_ne (ne_of hsa hwl (fun z => by cases z))]
      exact e3 _ _ hsa
    have hsk : (upd (upd H' p (.lst [])) wl (.lst ws')) sa = some (.tup ((kI S).map kV)) := by rw [kI_map]; exact hsa4
    have pw4 : Paired (StV (upd (upd H' p (.lst [])) wl (.lst ws'))) ws' W' := paired_mono (fun v S h => stV_upd hwl3 (fun _ z => by cases z) (h.same e3)) pw'
    have dT4 : ∀ {d : Addr} {k : List (List Key × V)}, H' d = some (.dT k) → (upd (upd H' p (.lst [])) wl (.lst ws')) d = some (.dT k) := fun h => by
      rw [upd_ne (ne_of h hwl (fun z => by cases z))]
      exact e3 _ _ h
    generalize hH4 : upd (upd H' p (.lst [])) wl (.lst ws') = H4 at *
    have hwl4 : H4 wl = some (.lst ws') := by rw [← hH4]; exact upd_same
    refine ⟨_, rfl, _, rfl, wd, valV kvs (kI S), rfl, DGet.t hwd4 hsk, ?_⟩
    cases hval : valV kvs (kI S) with
    | some vv =>
      refine ⟨false, rfl, iteF ?_⟩
      refine ⟨⟨_, _, _, _, _, kvs, ws', W', rfl, e4, hwd4, hwl4, pw4, fun S m => h2 S (by simp [m]), by rw [List.length_append] at hWl; omega, ?_⟩, ?_⟩
      · rcases ph with ⟨z, _⟩ | ⟨d0, k0, hd0, f0, ph⟩
        · rw [z] at hval; cases hval
        · refine .inr ⟨d0, k0, dT4 hd0, f0, ?_⟩
          rcases ph with ⟨z1, z2⟩ | ⟨z1, d1, k1, z2, z3, z4⟩
          · refine .inl ⟨z1, z2.trans ?_⟩
            have hS0 : S ≠ [1] := fun z => by rw [z1, z] at hval; cases hval
            rw [List.mem_append]
            constructor
            · rintro (h | h)
              · exact h
              · exact absurd (by simpa using h) (Ne.symm hS0)
            · exact .inl
          · exact .inr ⟨z1, d1, k1, z2, dT4 z3, z4⟩
      · show (match H4 wd, H4 wl with | some (.dT kvs), some (.lst ws) => 100 * (2 - kvs.length) + ws.length | _, _ => 0) < (match H' wd, H' wl with | some (.dT kvs), some (.lst ws) => 100 * (2 - kvs.length) + ws.length | _, _ => 0)
        rw [hwd4, hwl4, hwd, hwl]
        simp
    | none =>
      refine ⟨true, rfl, iteT ?_⟩
      intro fd nfd
      have e5 : Same H4 (upd H4 fd (.dT [])) := same_new nfd
      have e5H : Same H (upd H4 fd (.dT [])) := e4.trans e5
      have nfdH : H fd = none := e4.free nfd
      refine ⟨_, rfl, u, _, dx, _, .ref rl, rfl, e5H _ _ hux, T.oU.ins.cl, T.nU1, rfl, rl, rfl, ⟨_, .of (e5H _ _ hrl)⟩, ?_⟩
      refine for_list (xs := us) (fun n σ2 G => ∃ a b' c fk, σ2 = [some (.ref u), some (.ref b), some (.ref fa), some (.ref wd), some (.ref wl), some (.ref sa), some (.ref fd), a, b', c] ∧ Same H4 G ∧ G fd = some (.dT fk) ∧ FoundOk (rows.take n) x y S fk) ⟨_, _, _, [], rfl, e5, upd_same, found_nil⟩ (fun n σ2 G _ hh => ?_) (fun n v σ2 G hx1 hh => ?_) fun σ2 G hh => ?_
      · obtain ⟨_, _, _, _, _, eG, _⟩ := hh
        exact .of (eG _ _ (e4 _ _ hrl))
      · obtain ⟨a, b', c, fk, rfl, eG, hfd, fok⟩ := hh
        obtain ⟨rw', hr1, ba, gv, rfl, hba, hgv⟩ := paired_at hp hx1
        have mr := List.mem_of_getElem? hr1
        have hn : n < rows.length := (List.getElem?_eq_some_iff.mp hr1).1
        have eH := e4.trans eG
        obtain ⟨Gr, h1r, pth⟩ := G'.all rw' mr
        obtain ⟨ga, vs2, rfl, hga⟩ := id hgv
        refine ⟨ba, _, rfl, .of (eH _ _ hba), rfl, _, _, rfl, _, _, rfl, rfl, ?_⟩
        refine ⟨fa, rfl, ⟨_, hS.same eH⟩, _, rfl, _, rfl, _, hS.same eH, fun cs hcs => ?_⟩
        have hl : ∀ p ∈ cs, ∃ o, G p.1 = some (LentO o) := fun p hp => ⟨_, hcs p hp⟩
        refine ⟨r, pl, _, _, rfl, rfl, r, pl, ga, sa, rw'.1, x, y, S, rfl, unlend_same hl (eH _ _ hrow) (fun _ z => by cases z), unlend_same hl (eH _ _ hpl) (fun _ z => by cases z), grpV_unlend hl (hgv.same eH), Gr, pth.subset mx, pth.subset my, unlend_same hl (eG _ _ hsa4) (fun _ z => by cases z), hS2, fun hnone H5 e5' hn5 => ?_, fun L hL t H5 e5' ht hn5 => ?_⟩
        · have eL := same_lend hcs e5'
          refine ⟨_, rfl, rfl, false, rfl, iteF ?_⟩
          exact ⟨_, _, _, fk, rfl, eG.trans eL, eL _ _ hfd, found_skip fok hr1 hnone⟩
        · have eL := same_lend hcs e5'
          have hfd5 := eL _ _ hfd
          have ht5 : lend cs H5 t = some (.tup ((kI L).map kV)) := by rw [kI_map]; exact lend_at hn5 ht
          have fl := fok.len
          rw [List.length_take] at fl
          refine ⟨_, rfl, rfl, true, rfl, iteT ?_⟩
          refine ⟨_, rfl, fd, rfl, .inr ⟨fk, .of hfd5⟩, _, rfl, valV fk (kI L), DGet.t hfd5 ht5, _, rfl, _, _, found_get fok L, rfl, _, rfl, _, rfl, fd, _, rfl, DPut.t hfd5 ht5 (by rw [sizeLine_eq]; omega), ?_⟩
          exact ⟨_, _, _, _, rfl, lst_keep (eG.trans eL) nfd, upd_same, found_put fok hr1 hL h1r⟩
      · obtain ⟨a, b', c, fk, rfl, eG, hfd, fok⟩ := hh
        rw [hlen, List.take_length] at fok
        have fl := fok.len
        have hwdG := eG _ _ hwd4
        have hskG := eG _ _ hsk
        have hwlG := eG _ _ hwl4
        have hkl : kvs.length ≤ 2 := by
          rcases ph with ⟨z, _⟩ | ⟨_, _, _, _, ph⟩
          · rw [z]; simp
          · rcases ph with ⟨z, _⟩ | ⟨_, _, _, z, _⟩ <;> rw [z] <;> simp
        refine ⟨_, rfl, _, rfl, _, rfl, wd, _, rfl, DPut.t hwdG hskG (by rw [sizeLine_eq]; omega), ?_⟩
        rw [putK_new _ hval]
        have nwdH : H wd = none := nwd
        have hfw : fd ≠ wd := fun z => by rw [z, hwd4] at nfd; cases nfd
        have hfl : fd ≠ wl := fun z => by rw [z, hwl4] at nfd; cases nfd
        have e6 : Same H (upd G wd (.dT (kvs ++ [(kI S, .ref fd)]))) := lst_keep (e4.trans eG) nwdH
        have hfd6 : upd G wd (.dT (kvs ++ [(kI S, .ref fd)])) fd = some (.dT fk) := by rw [upd_ne hfw]; exact hfd
        have hwl6 : upd G wd (.dT (kvs ++ [(kI S, .ref fd)])) wl = some (.lst ws') := by rw [upd_ne (Ne.symm hwdl)]; exact hwlG
        have pw6 : Paired (StV (upd G wd (.dT (kvs ++ [(kI S, .ref fd)])))) ws' W' := paired_mono (fun v S h => stV_upd hwdG (fun _ z => by cases z) (h.same eG)) pw4
        have dT6 : ∀ {d : Addr} {k : List (List Key × V)}, H4 d = some (.dT k) → d ≠ wd → (upd G wd (.dT (kvs ++ [(kI S, .ref fd)]))) d = some (.dT k) := fun h n => by
          rw [upd_ne n]
          exact eG _ _ h
        have hwd6 : upd G wd (.dT (kvs ++ [(kI S, .ref fd)])) wd = some (.dT (kvs ++ [(kI S, .ref fd)])) := upd_same
        generalize hH6 : upd G wd (.dT (kvs ++ [(kI S, .ref fd)])) = H6 at *
        refine ⟨_, rfl, .inl ⟨rfl, _, .of hwl6⟩, fd, .dT fk, hfd6, True.intro, fun od => ?_⟩
        refine ⟨_, rfl, fd, od, rfl, .inr ⟨fk, upd_same, fun D hD => ?_⟩⟩
        have nDf : D ≠ fd := fun z => by rw [z, upd_same] at hD; cases hD
        have hD6 : H6 D = none := by rw [upd_ne nDf] at hD; exact hD
        refine loopJ (fun i G2 => But fd H6 G2 ∧ G2 fd = some (.frz od (.dT fk)) ∧ ∃ acc, G2 D = some (.lst acc) ∧ Paired (KeyAt G2) acc ((fk.take i).map (·.1))) fk.length (fun i v H' H'' => H'' = H' ∧ ∃ (k : List Key) (vv : V) (q : Addr), fk[i]? = some (k, vv) ∧ v = .ref q ∧ H' q = some (.tup (k.map kV))) (fun i H' p h => ⟨p.2.1, h⟩) (fun H' p => ⟨p.2.1, Nat.le_refl _⟩) (fun i H' v H'' p h q => q)
          ⟨fun b o n h => by rw [upd_ne (ne_of_none (H := H6) h hD6), upd_ne n]; exact h, by rw [upd_ne (Ne.symm nDf)]; exact upd_same, [], upd_same, .nil⟩ (fun i v G2 G3 hi hy p => ?_) fun G2 p => ?_
        · obtain ⟨rfl, k, vv, qa, hk, rfl, hq⟩ := hy
          obtain ⟨e7, hfz, acc, hDa, pr⟩ := p
          have hal := paired_len pr
          rw [List.length_map, List.length_take] at hal
          refine ⟨rfl, tYesI ⟨_, rfl, acc, hDa, by rw [sizeLine_eq]; omega, ?_, ?_, _, upd_same, ?_⟩⟩
          · exact fun b o n h => by rw [upd_ne (ne_of_none h hD6)]; exact e7 b o n h
          · rw [upd_ne (Ne.symm nDf)]; exact hfz
          · rw [take_succ_map hk]
            exact paired_snoc (keyAt_upd hDa (fun _ z => by cases z) ⟨qa, rfl, hq⟩) (paired_mono (fun v g tv => keyAt_upd hDa (fun _ z => by cases z) tv) pr)
        · obtain ⟨e7, hfz, acc, hDa, pr⟩ := p
          rw [List.take_length] at pr
          refine ⟨hfz, ?_⟩
          have hal := paired_len pr
          rw [List.length_map] at hal
          -- unlocked again
          have e8 : Same H6 (upd G2 fd (.dT fk)) := fun b o h => by
            by_cases z : b = fd
            · rw [z, upd_same]; rw [z, hfd6] at h; exact h
            · rw [upd_ne z]; exact e7 b o z h
          have hD8 : upd G2 fd (.dT fk) D = some (.lst acc) := by rw [upd_ne nDf]; exact hDa
          have pr8 : Paired (KeyAt (upd G2 fd (.dT fk))) acc (fk.map (·.1)) := paired_mono (fun v k h => keyAt_upd hfz (fun _ z => by cases z) h) pr
          have hwl8 := e8 _ _ hwl6
          have hws := paired_len pw'
          rw [List.length_append] at hWl
          refine ⟨wl, D, ws', acc, rfl, rfl, hwl8, hD8, by rw [sizeLine_eq]; omega, ?_⟩
          have hwd9 : upd (upd G2 fd (.dT fk)) wl (.lst (ws' ++ acc)) wd = some (.dT (kvs ++ [(kI S, .ref fd)])) := by rw [upd_ne hwdl]; exact e8 _ _ hwd6
          have kst : ∀ kv ∈ fk, ∃ S', kv.1 = kI S' ∧ (S' = [] ∨ S' = [1]) := fun kv m => by
            rcases fok.two kv m with z | z
            · exact ⟨[], z, .inl rfl⟩
            · exact ⟨[1], z, .inr rfl⟩
          obtain ⟨Sf, hSf⟩ : ∃ Sf : List (List Int), fk.map (·.1) = Sf.map kI := by
            clear pr pr8 hD8 hDa hfz e8 hwl8 hal hfd hfd6 fl
            have : ∀ l : List (List Key × V), (∀ kv ∈ l, ∃ S', kv.1 = kI S' ∧ (S' = [] ∨ S' = [1])) → ∃ Sf : List (List Int), l.map (·.1) = Sf.map kI := by
              intro l
              induction l with
              | nil => intro _; exact ⟨[], rfl⟩
              | cons a l ih =>
                intro h
                obtain ⟨S', h1, _⟩ := h a List.mem_cons_self
                obtain ⟨Sf, h2⟩ := ih fun kv m => h kv (List.mem_cons_of_mem _ m)
                exact ⟨S' :: Sf, by rw [List.map_cons, List.map_cons, h1, h2]⟩
            exact this fk kst
          have hSl : Sf.length = fk.length := by
            have := congrArg List.length hSf
            rw [List.length_map, List.length_map] at this
            exact this.symm
          rw [hSf] at pr8
          have prS : Paired (StV (upd G2 fd (.dT fk))) acc Sf := by
            have : ∀ (l : List (List Int)) (as : List V), Paired (KeyAt (upd G2 fd (.dT fk))) as (l.map kI) → Paired (StV (upd G2 fd (.dT fk))) as l := by
              intro l
              induction l with
              | nil => intro as h; cases h; exact .nil
              | cons a l ih =>
                intro as h
                rw [List.map_cons] at h
                cases h with
                | cons h t =>
                  obtain ⟨q2, e1, e2⟩ := h
                  rw [kI_map] at e2
                  exact .cons ⟨q2, e1, e2⟩ (ih _ t)
            exact this Sf acc pr8
          have memSf : ∀ L : List Int, L ∈ Sf ↔ 0 < fsum rows x y S L := fun L => by
            have h1 : L ∈ Sf ↔ kI L ∈ fk.map (·.1) := by
              rw [hSf]
              constructor
              · exact fun m => List.mem_map.mpr ⟨L, m, rfl⟩
              · intro m
                obtain ⟨L', m', e⟩ := List.mem_map.mp m
                rw [← kI_inj e]
                exact m'
            rw [h1]
            have h2 := fok.at_ L
            have h3 : kI L ∈ fk.map (·.1) ↔ (valV fk (kI L)).isSome = true := by
              rw [← valV_any, List.any_eq_true]
              constructor
              · intro m
                obtain ⟨kv, m', e⟩ := List.mem_map.mp m
                exact ⟨kv, m', by simpa using e⟩
              · rintro ⟨kv, m', e⟩
                exact List.mem_map.mpr ⟨kv, m', by simpa using e⟩
            rw [h3, h2]
            split
            · rename_i z; simp [z]
            · rename_i z; simp; omega
          have pw9 : Paired (StV (upd (upd G2 fd (.dT fk)) wl (.lst (ws' ++ acc)))) (ws' ++ acc) (W' ++ Sf) :=
            paired_app (paired_mono (fun v S h => stV_upd hwl8 (fun _ z => by cases z) h) prS) (paired_mono (fun v S h => stV_upd hwl8 (fun _ z => by cases z) (h.same e8)) pw6)
          have hne : ∀ {d : Addr} {k : List (List Key × V)} {S0 : List Int}, H4 d = some (.dT k) → FoundOk rows x y S0 k → (∃ L a, valV kvs (kI L) = some (.ref a)) → d ≠ wd := fun {d k S0} h1 h2 ⟨L, a, h3⟩ z => by
            rw [z, hwd4] at h1
            cases h1
            rw [h2.at_ L] at h3
            split at h3
            · cases h3
            · cases Option.some.inj h3
          have dT9 : ∀ {d : Addr} {k : List (List Key × V)}, H6 d = some (.dT k) → upd (upd G2 fd (.dT fk)) wl (.lst (ws' ++ acc)) d = some (.dT k) := fun h => by
            rw [upd_ne (ne_of h hwl6 (fun z => by cases z))]
            exact e8 _ _ h
          have hk1 : kvs.length ≤ 1 := by
            rcases ph with ⟨z, _⟩ | ⟨_, _, _, _, ph⟩
            · rw [z]; simp
            · rcases ph with ⟨z, _⟩ | ⟨_, _, _, z, _⟩
              · rw [z]; simp
              · exfalso
                rw [z] at hval
                rcases hS2 with q1 | q1 <;> rw [q1] at hval <;> simp [valV, kI] at hval
          refine ⟨⟨_, _, _, _, _, kvs ++ [(kI S, .ref fd)], ws' ++ acc, W' ++ Sf, rfl, lst_keep (e6.trans e8) nwl0, hwd9, upd_same, pw9, fun S' m => ?_, ?_, ?_⟩, ?_⟩
          · rcases List.mem_append.mp m with m | m
            · exact h2 S' (by simp [m])
            · have : kI S' ∈ fk.map (·.1) := by rw [hSf]; exact List.mem_map.mpr ⟨S', m, rfl⟩
              obtain ⟨kv, m', e⟩ := List.mem_map.mp this
              rcases fok.two kv m' with z | z
              · exact .inl (kI_inj (e.symm.trans z))
              · exact .inr (kI_inj (e.symm.trans z))
          · rw [List.length_append, List.length_append]
            simp at hWl ⊢
            omega
          · rcases ph with ⟨z1, z2⟩ | ⟨d0, k0, hd0, f0, ph⟩
            · have z3 : W' = [] ∧ S = [] := by
                cases W' with
                | nil => exact ⟨rfl, by simpa using z2⟩
                | cons a W' => simp at z2
              obtain ⟨rfl, rfl⟩ := z3
              refine .inr ⟨fd, fk, dT9 hfd6, fok, .inl ⟨by rw [z1]; rfl, ?_⟩⟩
              rw [List.nil_append]
              exact (memSf [1]).symm
            · rcases ph with ⟨z1, z2⟩ | ⟨z1, d1, k1, z2, z3, z4⟩
              · have hS1 : S = [1] := by
                  rcases hS2 with q1 | q1
                  · rw [z1, q1] at hval; simp [valV, kI] at hval
                  · exact q1
                subst hS1
                have nd0 := hne (dT4 hd0) f0 ⟨[], d0, by rw [z1]; simp [valV, kI]⟩
                exact .inr ⟨d0, k0, dT9 (dT6 (dT4 hd0) nd0), f0, .inr ⟨z2.mpr (by simp), fd, fk, by rw [z1]; rfl, dT9 hfd6, fok⟩⟩
              · rw [z2] at hk1; simp at hk1
          · show (match upd (upd G2 fd (.dT fk)) wl (.lst (ws' ++ acc)) wd, upd (upd G2 fd (.dT fk)) wl (.lst (ws' ++ acc)) wl with | some (.dT kvs), some (.lst ws) => 100 * (2 - kvs.length) + ws.length | _, _ => 0) < (match H' wd, H' wl with | some (.dT kvs), some (.lst ws) => 100 * (2 - kvs.length) + ws.length | _, _ => 0)
            rw [hwd9, upd_same, hwd, hwl]
            simp
            omega
  · intro σ H' Q1 Q2 hQ h
    obtain ⟨v, hv, hl, h⟩ := h
    refine ⟨v, hv, hl, fun p hp => ?_⟩
    obtain ⟨d, e, h1, h2, h3, h4, k, hk, h5⟩ := h p hp
    exact ⟨d, e, h1, h2, h3, h4, k, hk, hQ _ _ h5⟩
end
end SD
end
section
set_option Elab.async false
set_option linter.all false
set_option maxRecDepth 100000
set_option maxHeartbeats 4000000
/-! ### the forms of the states -/
namespace SD
open PySem PySem.Spec PyProof.Rows L2
theorem op_addF {K : PySem.W.Frag} {mg : Str → Option Value} (T : Tops K mg) {X : Cx} (hr : Room 8 X.A) (hK : X.K = K) (hm : X.mg = mg) : OpR X (binaryOp .Add) (rAddO (aF K) (sp_Form_add K) E0) := by
  subst hK hm
  obtain ⟨f, fd, h1, h2, F, hb⟩ := op_Form_add (P := X.prog) (w := X.w) (base := X.base) T
  exact op_addO F hr hb pass0 h1 h2 T.opF.self
theorem op_neF {K : PySem.W.Frag} {mg : Str → Option Value} (T : Tops K mg) {X : Cx} (hr : Room 2 X.A) (hK : X.K = K) (hm : X.mg = mg) : OpR X (compareOp .NotEq) (rNeO (aF K) (sp_Form_eq K) E0) := by
  subst hK hm
  obtain ⟨f, fd, h1, h2, F, hb⟩ := op_Form_eq (P := X.prog) (w := X.w) (base := X.base) T
  exact op_neO F hr hb pass0 h1 h2 T.opF.ne T.opF.mro
theorem fsum_one {rows : List Row} {x y : Str} : fsum rows x y [1] [1] = total rows := by
  unfold fsum total
  have : rows.filter (fun r => decide (cutR r.1 x y [1] = some [1])) = rows := by
    rw [List.filter_eq_self]
    intro r _
    simp [cutR]
  rw [this]
theorem fsum_le {rows : List Row} {x y : Str} : fsum rows x y [] [] + fsum rows x y [] [1] ≤ total rows := by
  unfold fsum total
  induction rows with
  | nil => exact Nat.le_refl _
  | cons r rows ih =>
    rw [List.filter_cons, List.filter_cons, List.map_cons, List.sum_cons]
    have hx : ¬ (cutR r.1 x y [] = some [] ∧ cutR r.1 x y [] = some [1]) := fun ⟨a, b⟩ => by rw [a] at b; cases b
    split <;> split <;> simp only [List.map_cons, List.sum_cons, decide_eq_true_eq] at * <;> first | omega | (exfalso; exact hx ⟨by assumption, by assumption⟩)
/-- a pair (tickets that stay, state) -/
def StayV (H : Hp) (v : V) (z : Int × List Int) : Prop := ∃ a q, v = .ref a ∧ H a = some (.tup [.int z.1, .ref q]) ∧ H q = some (.tup (z.2.map V.int))
theorem StayV.same {H G : Hp} {v : V} {z : Int × List Int} (e : Same H G) (h : StayV H v z) : StayV G v z := let ⟨a, q, h1, h2, h3⟩ := h; ⟨a, q, h1, e _ _ h2, e _ _ h3⟩
theorem stayV_upd {G : Hp} {D : Addr} {o u : HO} {v : V} {z : Int × List Int} (hf : G D = some u) (hu : ∀ xs, u ≠ .tup xs) (h : StayV G v z) : StayV (upd G D o) v z := by
  obtain ⟨a, q, rfl, h2, h3⟩ := h
  exact ⟨a, q, rfl, by rw [upd_ne (ne_of h2 hf (fun z => hu _ z.symm))]; exact h2, by rw [upd_ne (ne_of h3 hf (fun z => hu _ z.symm))]; exact h3⟩
abbrev stF (z : (Int × List Int) × Addr) : V := .ref z.2
def stK (z : (Int × List Int) × Addr) : PyData := .tuple [.int z.1.1, stD z.1.2]
theorem alike_ints2 : ∀ a b : List Int, PySem.W.alikeAll (a.map .int) (b.map .int) = true := PySem.W.alike_ints
theorem alike_stD (a b : List Int) : PySem.W.alike (stD a) (stD b) = true := by
  unfold stD
  rw [PySem.W.alike]
  exact PySem.W.alike_ints a b
theorem alike_stK (a b : (Int × List Int) × Addr) : PySem.W.alike (stK a) (stK b) = true := by
  unfold stK
  simp [PySem.W.alike, PySem.W.alikeAll, alike_stD]
theorem stay_zs {H : Hp} : ∀ {acc : List V} {zs : List (Int × List Int)}, Paired (StayV H) acc zs → ∃ ws : List ((Int × List Int) × Addr), acc = ws.map stF ∧ ws.map (·.1) = zs ∧ ∀ z ∈ ws, StayV H (.ref z.2) z.1
  | _, _, .nil => ⟨[], rfl, rfl, (fun z m => nomatch m)⟩
  | _, _, .cons (b := b) h t => by
    obtain ⟨ws, h1, h2, h3⟩ := stay_zs t
    obtain ⟨a, q, rfl, ha, hq⟩ := h
    refine ⟨(b, a) :: ws, by rw [h1]; rfl, by rw [List.map_cons, h2], fun z m => ?_⟩
    rcases List.mem_cons.mp m with e | e
    · subst e; exact ⟨a, q, rfl, ha, hq⟩
    · exact h3 z e
theorem stayV_dp {K : PySem.W.Frag} {H : Hp} {z : (Int × List Int) × Addr} (h : StayV H (.ref z.2) z.1) : Dp K H (stF z) (stK z) := by
  obtain ⟨a, q, e, ha, hq⟩ := h
  cases e
  exact .tup (.of ha) (.cons (.int _) (.cons (stV_dp ⟨q, rfl, hq⟩) .nil))
theorem stK_dep (z : (Int × List Int) × Addr) : (stK z).depth ≤ 3 := by
  have := stD_dep z.1.2
  unfold stK
  simp [PyData.depth, PyData.depthAll]
  omega
/-- the tables of the ways as a list -/
structure WD (H : Hp) (rows : List Row) (x y : Str) (kvs : List (List Key × V)) (ds : List (List Int × Addr)) : Prop where
  kv : kvs = ds.map fun t => (kI t.1, .ref t.2)
  at_ : ∀ t ∈ ds, ∃ k, H t.2 = some (.dT k) ∧ FoundOk rows x y t.1 k
theorem ways_wd {H : Hp} {rows : List Row} {x y : Str} {kvs : List (List Key × V)} (h : WaysOk H rows x y kvs) : ∃ ds, WD H rows x y kvs ds ∧ ((fsum rows x y [] [1] = 0 ∧ ds.map (·.1) = [[]]) ∨ (0 < fsum rows x y [] [1] ∧ ds.map (·.1) = [[], [1]])) := by
  obtain ⟨d0, k0, h0, f0, h⟩ := h
  rcases h with ⟨z, rfl⟩ | ⟨z, d1, k1, rfl, h1, f1⟩
  · exact ⟨[([], d0)], ⟨rfl, by simpa using ⟨k0, h0, f0⟩⟩, .inl ⟨z, rfl⟩⟩
  · exact ⟨[([], d0), ([1], d1)], ⟨rfl, by simp; exact ⟨⟨k0, h0, f0⟩, ⟨k1, h1, f1⟩⟩⟩, .inr ⟨z, rfl⟩⟩
theorem WD.same {H G : Hp} {rows : List Row} {x y : Str} {kvs : List (List Key × V)} {ds : List (List Int × Addr)} (e : Same H G) (h : WD H rows x y kvs ds) : WD G rows x y kvs ds := ⟨h.kv, fun t m => let ⟨k, h1, h2⟩ := h.at_ t m; ⟨k, e _ _ h1, h2⟩⟩
theorem wd_val {ds : List (List Int × Addr)} (hn : (ds.map (·.1)).Nodup) {t : List Int × Addr} (m : t ∈ ds) : valV (ds.map fun t => (kI t.1, V.ref t.2)) (kI t.1) = some (.ref t.2) := by
  induction ds with
  | nil => cases m
  | cons a ds ih =>
    rw [List.map_cons, List.nodup_cons] at hn
    rcases List.mem_cons.mp m with z | z
    · subst z; exact valV_pos rfl
    · rw [List.map_cons, valV_neg]
      · exact ih hn.2 z
      · intro e
        have : a.1 = t.1 := kI_inj e
        exact hn.1 (by rw [this]; exact List.mem_map.mpr ⟨t, z, rfl⟩)
def FormsOk (K : PySem.W.Frag) (H : Hp) (rows : List Row) (x y : Str) (kvs : List (List Key × V)) : Prop := ∃ x0, FormV K H (.ref x0) [(1, (fsum rows x y [] [] : Nat))] 1 ∧
  ((fsum rows x y [] [1] = 0 ∧ kvs = [(kI [], .ref x0)]) ∨ (0 < fsum rows x y [] [1] ∧ ∃ x1 ts u, kvs = [(kI [], .ref x0), (kI [1], .ref x1)] ∧ FormV K H (.ref x1) ts u ∧ Nf ts u ∧ u ∣ ((total rows : Nat) : Int) - (fsum rows x y [] [] : Nat) ∧
    ∀ f : Int → Rat, ev ts f / (u : Rat) = ((fsum rows x y [] [1] : Nat) : Rat) / ((((total rows : Nat) : Int) - (fsum rows x y [] [] : Nat) : Int) : Rat) * (f (total rows : Nat) - f (fsum rows x y [] [] : Nat))))
abbrev s_forms_of : Stmt := top 79
abbrev N_forms_of : List Str := ["urn", "begin", "step", "ways", "forms", "stay", "state", "fractions", "ahead", "tickets", "coefficient", "base", "led", "first"]
theorem sc_forms_of : FnScope N_forms_of ["urn", "begin", "step"] (defScope s_forms_of) := ⟨rfl, rfl, rfl, by decide +kernel, rfl, by decide +kernel, by decide +kernel⟩
def sp_forms_of (K : PySem.W.Frag) : Sp := fun vs H Q _ => ∃ u b f rows th x y r pl, vs = [.ref u, .ref b, .ref f] ∧ UrnV K H (.ref u) rows th ∧ GoodR rows th ∧ x ∈ th ∧ y ∈ th ∧ H b = some (.tup []) ∧ StepAt f [some (.ref r), some (.ref pl)] H ∧ H r = some (.tup (nm [x, y])) ∧ H pl = some (.lst [.int 1]) ∧
  ∀ fd kvs H', Same H H' → H' fd = some (.dT kvs) → FormsOk K H' rows x y kvs → Q (.ref fd) H'
/-- the fractions ahead of the i-th state -/
def FrAt (rows : List Row) (x y : Str) (i : Nat) : List Frc := if i = 0 then [] else [((fsum rows x y [] [] : Nat), (fsum rows x y [] [1] : Nat), (fsum rows x y [] [] : Nat) - (total rows : Nat))]
def FkAt (K : PySem.W.Frag) (G : Hp) (rows : List Row) (x y : Str) (i : Nat) (fk : List (List Key × V)) : Prop := (i = 0 ∧ fk = []) ∨ (i = 1 ∧ ∃ x0, fk = [(kI [], .ref x0)] ∧ FormV K G (.ref x0) [(1, (fsum rows x y [] [] : Nat))] 1) ∨ (i = 2 ∧ 0 < fsum rows x y [] [1] ∧ FormsOk K G rows x y fk)
theorem led_zero {ts : List Trm} {u : Int} (h : Nf ts u) (e : ∀ f, ev ts f / (u : Rat) = fv [] f) : ts = [] ∧ u = 1 := nf_uniq h nf_zero fun f => by rw [e f, fv_nil, ev_nil]; grind
theorem cof_sum (ts : List Trm) : (((ts.map (·.1)).sum : Int) : Rat) = ev ts fun _ => 1 := by
  have := ev_sum (fun _ => 1) ts
  simpa using this
theorem fin_zero {C : Int} (h0 : 0 ≤ C) (h1 : C ≤ 60) {ts : List Trm} {u : Int} (h : Nf ts u) (e : ∀ f, ev ts f / (u : Rat) = ev [] f / ((1 : Int) : Rat) + fv [(C, 1 - 0, 1)] f) : ts = [(1, C)] ∧ u = 1 := nf_uniq h (nf_one h0 h1) fun f => by
  rw [e f, fv_cons, fv_nil, ev_cons, ev_nil]
  grind
theorem fin_one {A C T : Int} (hCT : C < T) {ts1 ts : List Trm} {u1 u : Int} (hu1 : 0 < u1) (e1 : ∀ f, ev ts1 f / (u1 : Rat) = fv [(C, A, C - T)] f) (e : ∀ f, ev ts f / (u : Rat) = ev ts1 f / (u1 : Rat) + fv [(T, 0 - (ts1.map (·.1)).sum, u1)] f) (f : Int → Rat) :
    ev ts f / (u : Rat) = (A : Rat) / ((T - C : Int) : Rat) * (f T - f C) := by
  have h1 := e1 fun _ => 1
  rw [fv_cons, fv_nil, ← cof_sum] at h1
  have h2 := e1 f
  rw [fv_cons, fv_nil] at h2
  rw [e f, h2, fv_cons, fv_nil]
  have hu : (u1 : Rat) ≠ 0 := fun z => by have := Rat.intCast_eq_zero_iff.mp z; omega
  have hn : ((C - T : Int) : Rat) ≠ 0 := fun z => by have := Rat.intCast_eq_zero_iff.mp z; omega
  have hn2 : ((T - C : Int) : Rat) ≠ 0 := fun z => by have := Rat.intCast_eq_zero_iff.mp z; omega
  have en : ((T - C : Int) : Rat) = - ((C - T : Int) : Rat) := by rw [← Rat.intCast_neg]; congr 1; omega
  have e0 : ((0 - (ts1.map (·.1)).sum : Int) : Rat) = - (((ts1.map (·.1)).sum : Int) : Rat) := by rw [← Rat.intCast_neg]; congr 1; omega
  simp only at h1 ⊢
  rw [en, e0]
  grind
theorem formV_upd {K : PySem.W.Frag} {G : Hp} {D : Addr} {o u : HO} {v : V} {ts : List Trm} {n : Int} (hf : G D = some u) (hu : ∀ xs, u ≠ .tup xs) (hu2 : ∀ c d fs, u ≠ .ins c d fs) (h : FormV K G v ts n) : FormV K (upd G D o) v ts n := by
  obtain ⟨x, dx, a, us, h1, h2, h3, h4⟩ := h
  exact ⟨x, dx, a, us, h1, by rw [upd_ne (ne_of h2 hf (fun z => hu2 _ _ _ z.symm))]; exact h2, by rw [upd_ne (ne_of h3 hf (fun z => hu _ z.symm))]; exact h3, paired_mono (fun v t h => termV_upd hf hu h) h4⟩
theorem tIf_pick {tA : TT} {ta tb : TE} {σ : L2.St} {H : Hp} {Q : VK} {c : Bool} {v : V} (hA : ∀ Z : Bool → Hp → Prop, Z c H → tA σ H Z) (ht : c = true → ∀ Z : VK, Z v H → ta σ H Z) (hf : c = false → ∀ Z : VK, Z v H → tb σ H Z) (q : Q v H) : tIf tA ta tb σ H Q := by
  refine hA _ ?_
  cases c with
  | true => exact ht rfl _ q
  | false => exact hf rfl _ q
section
variable {P : Program} {w : World} {K : PySem.W.Frag} {mg : Str → Option Value} {base : Heap}
theorem cl_forms_of (T : Tops K mg) : Cl P w K mg base 9 "forms_of" ["urn", "begin", "step"] (sp_forms_of K) := by
  refine .of T.f_forms_of sc_forms_of (fun _ _ _ _ _ _ us hl => match us, hl with | [_, _, _], _ => rfl) (fun vs H Q E h => ?_) fun f cdv A outer s H vs Q E hr h => ?_
  · obtain ⟨_, _, _, _, _, _, _, _, _, rfl, _⟩ := h; rfl
  obtain ⟨u, b, fa, rows, th, x, y, r, pl, rfl, hu, G', mx, my, hb, hS, hrow, hpl, q⟩ := h
  refine ⟨_, (pss_cons (ps_set (i := 3) sc_forms_of.nd rfl (Or.inr rfl) (pe_cl (cl_ways_on T) hr (by decide) rfl (pa_cons (pv 0) (pa_cons (pv 1) (pa_cons (pv 2) pa_nil)))))
      (pss_cons (ps_set (i := 4) sc_forms_of.nd rfl (Or.inl rfl) pe_dnewT)
      (pss_cons (ps_for PassesOwn.never rfl (pi_listK (K := K) rfl (pe_callB (cr_sortDK stF stK rfl (hu64 hr)) (by rfl) (T.nn "sorted") rfl (pa_cons (pe_lock (pe_lc (own := [("state", 6)]) (by rfl) sc_forms_of.nd (pi_keys (pv 3)) (blkOk_by (own := [("state", 6)]) (N := N_forms_of) (sc := defScope s_forms_of) (by decide +kernel)) (fun _ _ _ _ _ => (pg_name (i := 6) sc_forms_of.nd rfl (Or.inl rfl))) (fun _ _ _ _ _ => pts_nil) (fun _ _ _ _ _ => (pe_tup (pa_cons (pe_dget2 (hu_of hr) (pe_dget (hu_of hr) (pv 3) (pv 6) (fun _ _ => rfl)) (pv 6) pe_int ⟨rfl, rfl, rfl, rfl⟩) (pa_cons (pv 6) pa_nil)))))) pa_nil))) (pg_tupK (K := K) (n := 2) rfl rfl (pgs_cons (pg_name (i := 5) sc_forms_of.nd rfl (Or.inl rfl)) (pgs_cons (pg_name (i := 6) sc_forms_of.nd rfl (Or.inl rfl)) pgs_nil)))
       (pss_cons (ps_set (i := 7) sc_forms_of.nd rfl (Or.inl rfl) (pe_lst pa_nil))
      (pss_cons (ps_lock (ps_for PassesOwn.never rfl (pi_keys (pv 4)) (pg_name (i := 8) sc_forms_of.nd rfl (Or.inl rfl))
       (pss_cons (ps_set (i := 9) sc_forms_of.nd rfl (Or.inl rfl) (pe_dget2 (hu_of hr) (pe_dget (hu_of hr) (pv 3) (pv 8) (fun _ _ => rfl)) (pv 6) pe_int ⟨rfl, rfl, rfl, rfl⟩))
      (pss_one (ps_for PassesOwn.never rfl (pi_tupK (K := K) rfl (pe_pr (pr_Ft T) hr (by decide) (pe_dget (hu_of hr) (pv 4) (pv 8) (fun _ _ => rfl)) rfl)) (pg_tupK (K := K) (n := 2) rfl rfl (pgs_cons (pg_name (i := 10) sc_forms_of.nd rfl (Or.inl rfl)) (pgs_cons (pg_name (i := 11) sc_forms_of.nd rfl (Or.inl rfl)) pgs_nil)))
       (pss_one (ps_if (pt_cmpR op_gt (pv 9) pe_int (nomark _))
       (pss_one (ps_expr (pe_bmK (K := K) rfl PySem.F.plainAttrs_list PySem.F.slot_list_append PySem.F.type_list_append mt_append (pv 7) (pa_cons (pe_tup (pa_cons (pv 11) (pa_cons (pe_op op_mul (pv 9) (pv 10)) (pa_cons (pe_op op_mul (pe_pr (pr_Fp T) hr (by decide) (pe_dget (hu_of hr) (pv 4) (pv 8) (fun _ _ => rfl)) rfl) (pe_op op_sub (pv 11) (pv 5))) pa_nil)))) pa_nil))))
       pss_nil)))))))
      (pss_cons (ps_set (i := 12) sc_forms_of.nd rfl (Or.inl rfl) (pe_cl (cl_form_of T) hr (by decide) rfl (pa_cons (pv 7) pa_nil)))
      (pss_cons (ps_set (i := 13) sc_forms_of.nd rfl (Or.inl rfl) (pe_callB (cr_sumK (K := K) rfl rfl) (by rfl) (T.nn "sum") rfl (pa_cons (pe_lc (own := [("coefficient", 10), ("base", 11)]) (by rfl) sc_forms_of.nd (pi_tupK (K := K) rfl (pe_pr (pr_Ft T) hr (by decide) (pv 12) rfl)) (blkOk_by (own := [("coefficient", 10), ("base", 11)]) (N := N_forms_of) (sc := defScope s_forms_of) (by decide +kernel)) (fun _ _ _ _ _ => (pg_tupK (K := K) (n := 2) rfl rfl (pgs_cons (pg_name (i := 10) sc_forms_of.nd rfl (Or.inl rfl)) (pgs_cons (pg_name (i := 11) sc_forms_of.nd rfl (Or.inl rfl)) pgs_nil)))) (fun _ _ _ _ _ => pts_nil) (fun _ _ _ _ _ => (pv 10))) pa_nil)))
      (pss_one (ps_dput (hu_of hr) (pv 4) (pv 6) (pe_op (op_addF T (hr.mono (by decide)) rfl rfl) (pv 12) (pe_cl (cl_form_of T) hr (by decide) rfl (pa_cons (pe_lst (pa_cons (pe_tup (pa_cons (pv 5) (pa_cons (pe_op op_sub (pe_ifExp (pt_cmpR (op_eqDK (K := K) rfl (hu64 hr)) (pv 6) (pv 1) (nomark _)) (pe_pr (pr_Fp T) hr (by decide) (pv 12) rfl) pe_int) (pv 13)) (pa_cons (pe_pr (pr_Fp T) hr (by decide) (pv 12) rfl) pa_nil)))) pa_nil)) pa_nil))) rfl)))))))
      (pss_one (ps_ret (pv 4)))))) , ?_⟩
  refine ⟨_, rfl, _, rfl, _, rfl, u, b, fa, rows, th, x, y, r, pl, rfl, hu, G', mx, my, hb, hS, hrow, hpl, fun wd kvs H1 e1 hwd hok => ?_⟩
  obtain ⟨ds, hW, hds⟩ := ways_wd hok
  intro fd nfd
  have hnd : (ds.map (·.1)).Nodup := by rcases hds with ⟨_, z⟩ | ⟨_, z⟩ <;> rw [z] <;> simp
  have hdl : ds.length ≤ 2 := by
    have : ds.length = (ds.map (·.1)).length := (List.length_map _).symm
    rw [this]
    rcases hds with ⟨_, z⟩ | ⟨_, z⟩ <;> rw [z] <;> simp
  have e2 : Same H1 (upd H1 fd (.dT [])) := same_new nfd
  have hwd2 := e2 _ _ hwd
  have hfw : fd ≠ wd := fun z => by rw [z, hwd] at nfd; cases nfd
  generalize hH2 : upd H1 fd (.dT []) = H2 at *
  have hfd2 : H2 fd = some (.dT []) := by rw [← hH2]; exact upd_same
  have hW2 := hW.same e2
  refine ⟨wd, .dT kvs, hwd2, True.intro, fun od => ?_⟩
  refine ⟨_, rfl, wd, od, rfl, .inr ⟨kvs, upd_same, fun D hD => ?_⟩⟩
  have nDw : D ≠ wd := fun z => by rw [z, upd_same] at hD; cases hD
  have hD2 : H2 D = none := by rw [upd_ne nDw] at hD; exact hD
  let items : List (Int × List Int) := ds.map fun t => (((fsum rows x y t.1 t.1 : Nat) : Int), t.1)
  refine loopJ (fun i G2 => But wd H2 G2 ∧ G2 wd = some (.frz od (.dT kvs)) ∧ ∃ acc, G2 D = some (.lst acc) ∧ Paired (StayV G2) acc (items.take i)) kvs.length (fun i v H' H'' => H'' = H' ∧ ∃ (k : List Key) (vv : V) (q : Addr), kvs[i]? = some (k, vv) ∧ v = .ref q ∧ H' q = some (.tup (k.map kV))) (fun i H' p h => ⟨p.2.1, h⟩) (fun H' p => ⟨p.2.1, Nat.le_refl _⟩) (fun i H' v H'' p h q => q)
    ⟨fun b o n h => by rw [upd_ne (ne_of_none (H := H2) h hD2), upd_ne n]; exact h, by rw [upd_ne (Ne.symm nDw)]; exact upd_same, [], upd_same, .nil⟩ (fun i v G3 G2 hi hy p => ?_) fun G2 p => ?_
  · obtain ⟨eG, k, vv, qa, hk, rfl, hq⟩ := hy; subst eG
    obtain ⟨e7, hfz, acc, hDa, pr⟩ := p
    rw [hW.kv, List.getElem?_map] at hk
    obtain ⟨t, ht, ek⟩ := Option.map_eq_some_iff.mp hk
    cases ek
    have mt := List.mem_of_getElem? ht
    obtain ⟨kd, hkd, fok⟩ := hW2.at_ t mt
    have hval : valV kvs (kI t.1) = some (.ref t.2) := by rw [hW.kv]; exact wd_val hnd mt
    have htw : t.2 ≠ wd := fun z => by
      rw [z, hwd2] at hkd
      cases hkd
      rw [fok.at_ t.1] at hval
      split at hval
      · cases hval
      · cases Option.some.inj hval
    have hkd7 := e7 _ _ htw hkd
    have hal := paired_len pr
    rw [List.length_take] at hal
    have hki : kvs.length = ds.length := by rw [hW.kv, List.length_map]
    refine ⟨rfl, tYesI ⟨_, rfl, _, rfl, wd, .ref t.2, rfl, .inr ⟨kvs, kI t.1, qa, .inr ⟨od, hfz⟩, rfl, hq, hval.symm⟩, t.2, rfl, .inr ⟨kd, .of hkd7⟩, _, rfl, valV kd (kI t.1), DGet.t hkd7 hq, _, rfl, by show 2 ≤ sizeLine; decide, fun tp htp => ?_⟩⟩
    rw [found_get fok t.1]
    have e8 : Same G2 (upd G2 tp (.tup [.int (fsum rows x y t.1 t.1 : Nat), .ref qa])) := same_new htp
    have hD8 := e8 _ _ hDa
    refine ⟨acc, hD8, by rw [sizeLine_eq]; omega, ?_, ?_, _, upd_same, ?_⟩
    · exact fun b o n h => by rw [upd_ne (ne_of_none h hD2)]; exact e8 _ _ (e7 b o n h)
    · rw [upd_ne (Ne.symm nDw)]; exact e8 _ _ hfz
    · have et : items.take (i + 1) = items.take i ++ [(((fsum rows x y t.1 t.1 : Nat) : Int), t.1)] := by
        rw [List.take_succ]
        have : items[i]? = some (((fsum rows x y t.1 t.1 : Nat) : Int), t.1) := by
          show (ds.map _)[i]? = _
          rw [List.getElem?_map, ht]
          rfl
        rw [this]
        rfl
      rw [et]
      rw [kI_map] at hq
      exact paired_snoc (stayV_upd hD8 (fun _ z => by cases z) ⟨tp, qa, rfl, upd_same, e8 _ _ hq⟩) (paired_mono (fun v g tv => stayV_upd hD8 (fun _ z => by cases z) (tv.same e8)) pr)
  obtain ⟨e7, hfz, acc, hDa, pr⟩ := p
  have hki : kvs.length = ds.length := by rw [hW.kv, List.length_map]
  have hit : items.take kvs.length = items := by rw [hki]; exact List.take_of_length_le (by show (ds.map _).length ≤ _; rw [List.length_map]; exact Nat.le_refl _)
  rw [hit] at pr
  refine ⟨hfz, ?_⟩
  have e8 : Same H2 (upd G2 wd (.dT kvs)) := fun b o h => by
    by_cases z : b = wd
    · rw [z, upd_same]; rw [z, hwd2] at h; exact h
    · rw [upd_ne z]; exact e7 b o z h
  have hD8 : upd G2 wd (.dT kvs) D = some (.lst acc) := by rw [upd_ne nDw]; exact hDa
  have pr8 : Paired (StayV (upd G2 wd (.dT kvs))) acc items := paired_mono (fun v k h => stayV_upd hfz (fun _ z => by cases z) h) pr
  generalize hH8 : upd G2 wd (.dT kvs) = H8 at *
  obtain ⟨zs, rfl, hz1, hz2⟩ := stay_zs pr8
  have hzl : zs.length ≤ 2 := by
    have : zs.length = (zs.map (·.1)).length := (List.length_map _).symm
    rw [this, hz1]
    show (ds.map _).length ≤ 2
    rw [List.length_map]
    exact hdl
  have hlt : 0 < fsum rows x y [] [1] → fsum rows x y [] [] < total rows := fun h => by have := fsum_le (rows := rows) (x := x) (y := y); omega
  have hitems : (fsum rows x y [] [1] = 0 ∧ items = [(((fsum rows x y [] [] : Nat) : Int), [])]) ∨ (0 < fsum rows x y [] [1] ∧ items = [(((fsum rows x y [] [] : Nat) : Int), []), (((total rows : Nat) : Int), [1])]) := by
    have e : items = (ds.map (·.1)).map fun S => (((fsum rows x y S S : Nat) : Int), S) := by
      show ds.map _ = _
      rw [List.map_map]
      rfl
    rcases hds with ⟨z, h⟩ | ⟨z, h⟩
    · exact .inl ⟨z, by rw [e, h]; rfl⟩
    · exact .inr ⟨z, by rw [e, h]; simp [fsum_one]⟩
  have hsrt : srt stK zs = zs := by
    refine List.mergeSort_of_pairwise ?_
    have key : ∀ a b : (Int × List Int) × Addr, a.1.1 < b.1.1 → PySem.W.dataLe false stK a b = true := fun a b h => by
      show (!PySem.W.dataLt (stK b) (stK a)) = true
      unfold stK
      rw [PySem.W.dataLt_pair (by simp [PySem.W.alike]) (alike_stD _ _), PySem.W.dataLt_int]
      have n1 : ¬ b.1.1 = a.1.1 := by omega
      have n2 : ¬ b.1.1 < a.1.1 := by omega
      simp [PyData.eqv, n1, n2]
    have hp : (zs.map (·.1)).Pairwise fun a b => a.1 < b.1 := by
      rw [hz1]
      rcases hitems with ⟨_, z⟩ | ⟨z0, z⟩
      · rw [z]; simp
      · rw [z]
        have := hlt z0
        simp
        omega
    rw [List.pairwise_map] at hp
    exact hp.imp fun {a b} h => key a b h
  refine ⟨D, zs, rfl, .of hD8, fun z m => stayV_dp (hz2 z m), PySem.W.AllAlike.of alike_stK, Or.inl fun dd m => ?_, by rw [sizeLine_eq]; omega, fun z m => by have := stK_dep z; omega, fun L hL => ?_⟩
  · obtain ⟨z, mz, e⟩ := List.mem_map.mp m
    subst e
    exact ⟨_, _, rfl⟩
  rw [hsrt]
  have e9 : Same H8 (upd H8 L (.lst (zs.map stF))) := same_new hL
  have hL9 : upd H8 L (.lst (zs.map stF)) L = some (.lst (zs.map stF)) := upd_same
  generalize upd H8 L (.lst (zs.map stF)) = H9 at *
  have e29 := e8.trans e9
  have hfd9 := e29 _ _ hfd2
  have hwd9 := e29 _ _ hwd2
  have hW9 := hW2.same e29
  have eH9 : But fd H H9 := fun b o n h => e29 _ _ (e2 _ _ (e1 _ _ h))
  have hdne : ∀ t ∈ ds, t.2 ≠ fd := fun t m z => by
    obtain ⟨k, h1, _⟩ := hW.at_ t m
    rw [z, nfd] at h1
    cases h1
  have tupk : ∀ {G : Hp} {a : Addr} {us : List V}, But fd H9 G → H9 a = some (.tup us) → G a = some (.tup us) := fun e h => e _ _ (ne_of h hfd9 (by simp)) h
  refine ⟨L, rfl, ⟨_, .of hL9⟩, ?_⟩
  refine for_list (xs := zs.map stF) (fun i σ' G => ∃ o5 o6 o7 o8 o9 o10 o11 o12 o13 fk, σ' = [some (.ref u), some (.ref b), some (.ref fa), some (.ref wd), some (.ref fd), o5, o6, o7, o8, o9, o10, o11, o12, o13] ∧ But fd H9 G ∧ G fd = some (.dT fk) ∧ FkAt K G rows x y i fk) ⟨_, _, _, _, _, _, _, _, _, _, rfl, But.refl _ _, hfd9, .inl ⟨rfl, rfl⟩⟩ (fun i σ' G _ hh => ?_) (fun i v σ' G hv hh => ?_) fun σ' G hh => ?_
  · obtain ⟨_, _, _, _, _, _, _, _, _, _, rfl, eG, _⟩ := hh
    exact .of (eG _ _ (ne_of hL9 hfd9 (by simp)) hL9)
  · obtain ⟨o5, o6, o7, o8, o9, o10, o11, o12, o13, fk, rfl, eG, hfd, hfk⟩ := hh
    rw [List.getElem?_map] at hv
    obtain ⟨z, hz, rfl⟩ := Option.map_eq_some_iff.mp hv
    have hzi : items[i]? = some z.1 := by rw [← hz1, List.getElem?_map, hz]; rfl
    obtain ⟨za, qa, ez, hza, hqa⟩ := hz2 z (List.mem_of_getElem? hz)
    cases ez
    have hzaG := tupk eG (e9 _ _ hza)
    have hqaG := tupk eG (e9 _ _ hqa)
    have hwdG := eG _ _ (Ne.symm hfw) hwd9
    refine ⟨z.2, _, rfl, .of hzaG, rfl, _, _, rfl, _, _, rfl, rfl, Nat.zero_le _, fun t nt => ?_⟩
    have nfdt : fd ≠ t := fun z => by rw [z, nt] at hfd; cases hfd
    have et := same_new (o := .lst []) nt
    refine ⟨fd, .dT fk, et _ _ hfd, True.intro, fun od1 => ?_⟩
    refine ⟨_, rfl, fd, od1, rfl, .inr ⟨fk, upd_same, ?_⟩⟩
    have hst : (i = 0 ∧ z.1 = (((fsum rows x y [] [] : Nat) : Int), [])) ∨ (i = 1 ∧ 0 < fsum rows x y [] [1] ∧ z.1 = (((total rows : Nat) : Int), [1])) := by
      rcases hitems with ⟨h0, h⟩ | ⟨h0, h⟩
      · rw [h] at hzi
        match i, hzi with
        | 0, e => exact .inl ⟨rfl, by simpa using e.symm⟩
      · rw [h] at hzi
        match i, hzi with
        | 0, e => exact .inl ⟨rfl, by simpa using e.symm⟩
        | 1, e => exact .inr ⟨rfl, h0, by simpa using e.symm⟩
    refine forJ (fun j σ2 G2 => ∃ o8 o9 o10 o11 acc, σ2 = [some (.ref u), some (.ref b), some (.ref fa), some (.ref wd), some (.ref fd), some (.int z.1.1), some (.ref qa), some (.ref t), o8, o9, o10, o11, o12, o13] ∧ (∀ b o, b ≠ fd → b ≠ t → G b = some o → G2 b = some o) ∧ G2 fd = some (.frz od1 (.dT fk)) ∧ G2 t = some (.lst acc) ∧ Paired (FracV G2) acc ((FrAt rows x y i).take j)) fk.length (fun i v H' H'' => H'' = H' ∧ ∃ (k : List Key) (vv : V) (q : Addr), fk[i]? = some (k, vv) ∧ v = .ref q ∧ H' q = some (.tup (k.map kV))) (fun j σ2 G2 p h => ⟨by obtain ⟨_, _, _, _, _, _, _, p, _⟩ := p; exact p, h⟩) (fun σ2 G2 p => ⟨by obtain ⟨_, _, _, _, _, _, _, p, _⟩ := p; exact p, Nat.le_refl _⟩) (fun i σ H' v H'' p h q => q)
      ⟨_, _, _, _, [], rfl, fun b o n1 n2 h => by rw [upd_ne n1, upd_ne n2]; exact h, upd_same, by rw [upd_ne (Ne.symm nfdt)]; exact upd_same, by rw [List.take_zero]; exact .nil⟩ (fun j v σ2 G3 G2 hj hy hh => ?_) fun σ2 G2 hh => ?_
    · obtain ⟨eq, k, vv, q1, hk, rfl, hq1⟩ := hy
      subst eq
      obtain ⟨p8, p9, p10, p11, acc, rfl, e3, hfz3, ht3, pr3⟩ := hh
      rcases hfk with ⟨rfl, rfl⟩ | ⟨rfl, x0, rfl, F0⟩ | ⟨rfl, _⟩
      · cases hj
      · have hj0 : j = 0 := by have : j < 1 := hj; omega
        subst hj0
        cases hk
        have hst1 : 0 < fsum rows x y [] [1] ∧ z.1 = (((total rows : Nat) : Int), [1]) := by
          rcases hst with ⟨q, _⟩ | ⟨_, q⟩
          · cases q
          · exact q
        obtain ⟨hA, ez1⟩ := hst1
        obtain ⟨t0, mt0, et0⟩ : ∃ t0 ∈ ds, t0.1 = [] := by
          rcases hds with ⟨q, _⟩ | ⟨_, q⟩
          · omega
          · have : ([] : List Int) ∈ ds.map (·.1) := by rw [q]; simp
            obtain ⟨t0, m, e⟩ := List.mem_map.mp this
            exact ⟨t0, m, e⟩
        have hval : valV kvs (kI []) = some (.ref t0.2) := by rw [hW.kv, ← et0]; exact wd_val hnd mt0
        obtain ⟨kd, hkd, fok⟩ := hW9.at_ t0 mt0
        rw [et0] at fok
        have keep : ∀ {b : Addr} {o : HO}, b ≠ fd → G b = some o → G2 b = some o := fun n h => e3 _ _ n (ne_of_none h nt) h
        have tupG : ∀ {b : Addr} {us : List V}, G b = some (.tup us) → G2 b = some (.tup us) := fun h => keep (ne_of h hfd (by simp)) h
        have hwd2 := keep (Ne.symm hfw) hwdG
        have hkd2 := keep (hdne t0 mt0) (eG _ _ (hdne t0 mt0) hkd)
        have hqa2 : G2 qa = some (.tup ((kI [1]).map kV)) := by rw [kI_map, tupG hqaG, ez1]
        obtain ⟨x0', dx, a, us, e0, hx0, ha0, hp0⟩ := F0
        cases e0
        have hx02 := keep (ne_of hx0 hfd (by simp)) hx0
        have ha02 := tupG ha0
        have hp02 : Paired (TermV G2) us [(1, ((fsum rows x y [] [] : Nat) : Int))] := paired_mono (fun v tr p => by obtain ⟨a, rfl, h⟩ := p; exact ⟨a, rfl, tupG h⟩) hp0
        have hul := paired_len hp02
        refine ⟨_, rfl, _, rfl, wd, .ref t0.2, rfl, .inr ⟨kvs, kI [], q1, .inl hwd2, rfl, hq1, hval.symm⟩, t0.2, rfl, .inr ⟨kd, .of hkd2⟩, _, rfl, valV kd (kI [1]), DGet.t hkd2 hqa2, ?_⟩
        rw [found_get fok]
        refine ⟨_, rfl, _, rfl, fd, .ref x0, rfl, .inr ⟨_, kI [], q1, .inr ⟨od1, hfz3⟩, rfl, hq1, (valV_pos (p := (kI [], V.ref x0)) rfl).symm⟩, x0, dx, _, rfl, hx02, ⟨x0, _, _, rfl, ⟨x0, dx, a, us, rfl, hx02, ha02, hp02⟩, fun a2 us2 ha2 hp2 => ⟨a2, rfl, ⟨us2, .of ha2⟩, ?_⟩⟩⟩
        have hu2 := paired_len hp2
        have hCA : ((fsum rows x y [] [1] : Nat) : Int) ≤ 60 ∧ ((fsum rows x y [] [] : Nat) : Int) ≤ 60 ∧ ((total rows : Nat) : Int) ≤ 60 := by
          have := fsum_le (rows := rows) (x := x) (y := y)
          have := G'.tot
          omega
        obtain ⟨hA60, hC60, hT60⟩ := hCA
        refine for_tup (xs := us2) (fun j σ3 G3 => ∃ o10 o11 acc, σ3 = [some (.ref u), some (.ref b), some (.ref fa), some (.ref wd), some (.ref fd), some (.int z.1.1), some (.ref qa), some (.ref t), some (.ref q1), some (.int (fsum rows x y [] [1] : Nat)), o10, o11, o12, o13] ∧ But t G2 G3 ∧ G3 t = some (.lst acc) ∧ Paired (FracV G3) acc ((FrAt rows x y 1).take j)) ⟨_, _, acc, rfl, But.refl _ _, ht3, pr3⟩ (fun j σ3 G3 _ hh => ?_) (fun j v σ3 G3 hv2 hh => ?_) fun σ3 G3 hh => ?_
        · obtain ⟨_, _, _, _, eb, _⟩ := hh
          exact .of (eb _ _ (ne_of ha2 ht3 (by simp)) ha2)
        · obtain ⟨o10, o11, acc3, rfl, eb, ht4, pr4⟩ := hh
          obtain ⟨tr, htr, ba, rfl, hba⟩ := paired_at hp2 hv2
          have hj0 : j = 0 := by
            have := (List.getElem?_eq_some_iff.mp hv2).1
            have : us2.length = 1 := hu2
            omega
          subst hj0
          cases htr
          refine ⟨ba, _, rfl, .of (eb _ _ (ne_of hba ht3 (by simp)) hba), rfl, _, _, rfl, _, _, rfl, rfl, ?_⟩
          refine ⟨_, rfl, _, _, rfl, rfl, true, blT (by omega), iteT ?_⟩
          have keep3 : ∀ {b : Addr} {us : List V}, G2 b = some (.tup us) → G3 b = some (.tup us) := fun h => eb _ _ (ne_of h ht3 (by simp)) h
          have hx03 := eb _ _ (ne_of hx02 ht3 (by simp)) hx02
          refine ⟨_, rfl, .inl ⟨rfl, _, .of ht4⟩, _, rfl, _, rfl, _, rfl, _, _, rfl, rfl, .inr ⟨by show -(2:Int)^64 < 1; decide, by show (1:Int) < 2^64; decide⟩, ?_⟩
          refine ⟨_, rfl, _, rfl, fd, .ref x0, rfl, .inr ⟨_, kI [], q1, .inr ⟨od1, eb _ _ nfdt hfz3⟩, rfl, keep3 hq1, (valV_pos (p := (kI [], V.ref x0)) rfl).symm⟩, x0, dx, _, rfl, hx03, ⟨x0, _, _, rfl, ⟨x0, dx, a, us, rfl, hx03, keep3 ha02, paired_mono (fun v tr p => by obtain ⟨a, rfl, h⟩ := p; exact ⟨a, rfl, keep3 h⟩) hp02⟩, ?_⟩⟩
          rw [ez1]
          refine ⟨_, rfl, _, rfl, _, _, rfl, rfl, _, _, rfl, rfl, .inl ⟨by decide, by decide⟩, by show 3 ≤ sizeLine; decide, fun tp htp => ?_⟩
          have e5 : Same G3 (upd G3 tp _) := same_new (o := .tup [.int (fsum rows x y [] [] : Nat), .int ((fsum rows x y [] [1] : Nat) * 1), .int (1 * ((fsum rows x y [] [] : Nat) - (total rows : Nat)))]) htp
          have ht5 := e5 _ _ ht4
          refine ⟨t, acc3, .ref tp, rfl, rfl, ht5, ?_⟩
          have h0 : acc3.length = 0 := paired_len pr4
          have h00 : acc3 = [] := List.eq_nil_of_length_eq_zero h0
          subst h00
          refine ⟨by decide, _, _, [.ref tp], rfl, ?_, upd_same, ?_⟩
          · exact fun b o n h => by rw [upd_ne n]; exact e5 _ _ (eb _ _ n h)
          · refine .cons (fracV_upd ht5 (fun _ z => by cases z) ⟨tp, rfl, ?_⟩) .nil
            rw [upd_same]
            simp
        · obtain ⟨o10, o11, acc3, rfl, eb, ht4, pr4⟩ := hh
          rw [hu2] at pr4
          refine ⟨_, _, _, _, acc3, rfl, fun b o n1 n2 h => eb _ _ n2 (e3 _ _ n1 n2 h), eb _ _ nfdt hfz3, ht4, pr4⟩
      · rcases hst with ⟨z, _⟩ | ⟨z, _⟩ <;> cases z
    · obtain ⟨p8, p9, p10, p11, acc, rfl, e3, hfz3, ht3, pr3⟩ := hh
      have hfl : (FrAt rows x y i).take fk.length = FrAt rows x y i := by
        rcases hfk with ⟨rfl, rfl⟩ | ⟨rfl, x0, rfl, _⟩ | ⟨rfl, _⟩
        · rfl
        · rfl
        · rcases hst with ⟨q, _⟩ | ⟨q, _⟩ <;> cases q
      rw [hfl] at pr3
      refine ⟨hfz3, ?_⟩
      have e4 : But t G (upd G2 fd (.dT fk)) := fun b o n h => by
        by_cases z : b = fd
        · subst z; rw [upd_same]; rw [hfd] at h; exact h
        · rw [upd_ne z]; exact e3 _ _ z n h
      have ht4 : upd G2 fd (.dT fk) t = some (.lst acc) := by rw [upd_ne (Ne.symm nfdt)]; exact ht3
      have pr4 : Paired (FracV (upd G2 fd (.dT fk))) acc (FrAt rows x y i) := paired_mono (fun v g h => fracV_upd hfz3 (fun _ z => by cases z) h) pr3
      have e4s := e4.same nt
      generalize upd G2 fd (.dT fk) = G4 at *
      have hle := fsum_le (rows := rows) (x := x) (y := y)
      have htot := G'.tot
      obtain ⟨M, hM0, hM60, hM1, hM2, hfr⟩ : ∃ M : Int, 0 < M ∧ M ≤ 60 ∧ (i = 0 → M = 1) ∧ (i = 1 → M = ((total rows : Nat) : Int) - (fsum rows x y [] [] : Nat)) ∧ ∀ q ∈ FrAt rows x y i, 0 ≤ q.1 ∧ q.1 ≤ 60 ∧ q.2.2 ≠ 0 ∧ q.2.2 ∣ M := by
        rcases hst with ⟨rfl, _⟩ | ⟨rfl, hA, _⟩
        · exact ⟨1, by decide, by decide, fun _ => rfl, (fun h => by cases h), (fun q m => nomatch m)⟩
        · have := hlt hA
          refine ⟨((total rows : Nat) : Int) - (fsum rows x y [] [] : Nat), by omega, by omega, (fun h => by cases h), fun _ => rfl, fun q m => ?_⟩
          have eq : q = (((fsum rows x y [] [] : Nat) : Int), ((fsum rows x y [] [1] : Nat) : Int), ((fsum rows x y [] [] : Nat) : Int) - ((total rows : Nat) : Int)) := by simpa [FrAt] using m
          subst eq
          refine ⟨by simp only; omega, by simp only; omega, by simp only; omega, ⟨-1, by simp only; omega⟩⟩
      refine ⟨_, rfl, t, acc, FrAt rows x y i, M, rfl, ht4, pr4, ?_, hM0, by omega, hfr, fun x1 ts u1 G5 e5 F1 N1 d1 ev1 => ?_⟩
      · unfold FrAt
        split <;> simp
      obtain ⟨x1', dx1, a1, us1, ex1, hx1, ha1, hp1⟩ := id F1
      cases ex1
      refine ⟨_, rfl, x1, dx1, _, rfl, hx1, ⟨x1, ts, u1, rfl, F1, fun a us ha hp => ⟨a, rfl, ⟨us, .of ha⟩, fun D2 hD2 => ?_⟩⟩⟩
      have hul := paired_len hp
      have htl := N1.d.len
      refine lcT (fun j acc2 _ => acc2 = ((ts.take j).map fun q => V.int q.1)) (xs := us) (.of ha) hD2 rfl (fun j v G6 acc2 hv2 e6 hD6 hl6 hacc => ?_) fun G6 acc2 e6 hD6 hl6 hacc => ?_
      · obtain ⟨tr, htr, ba, rfl, hba⟩ := paired_at hp hv2
        have hj : j < us.length := (List.getElem?_eq_some_iff.mp hv2).1
        refine ⟨ba, _, rfl, .of (e6 _ _ hba), rfl, _, _, rfl, _, _, rfl, rfl, rfl, tYesI ⟨_, rfl, lc_put hD2 e6 (.refl _) hD6 hl6 (by omega) ?_⟩⟩
        rw [take_succ_map htr, hacc]
      · rw [hul, List.take_length] at hacc
        refine ⟨D2, ts.map (·.1), rfl, .of (by rw [hD6, hacc, List.map_map]; rfl), ?_⟩
        have e456 := e4s.trans (e5.trans e6)
        have hb6 : G6 b = some (.tup []) := e456 _ _ (tupk eG (eH9 _ _ (fun z => by have := e1 _ _ hb; rw [z, nfd] at this; cases this) hb))
        have hqa6 := e456 _ _ hqaG
        have F6 := F1.same e6
        obtain ⟨x1', dx1', a1', us1', ex1, hx6, _, _⟩ := id F6
        cases ex1
        refine ⟨_, rfl, _, rfl, ?_⟩
        refine tIf_pick (v := .int (if i = 0 then u1 else 0)) (c := decide (i = 0)) (fun Z hZ => ?_) (fun hc Z hZ => ?_) (fun hc Z hZ => ?_) ?_
        · refine ⟨_, rfl, _, rfl, stD z.1.2, stD [], stV_dp ⟨qa, rfl, hqa6⟩, stV_dp ⟨b, rfl, hb6⟩, shaped_stD _, shaped_stD _, _, rfl, ?_⟩
          rcases hst with ⟨rfl, e⟩ | ⟨rfl, _, e⟩
          · rw [e]; exact hZ
          · rw [e]; exact hZ
        · refine ⟨_, rfl, x1, dx1', _, rfl, hx6, ⟨x1, ts, u1, rfl, F6, ?_⟩⟩
          rw [if_pos (by simpa using hc)] at hZ
          exact hZ
        · rw [if_neg (by simpa using hc)] at hZ
          exact hZ
        refine ⟨_, rfl, _, _, rfl, rfl, _, rfl, x1, dx1', _, rfl, hx6, ⟨x1, ts, u1, rfl, F6, by show 3 ≤ sizeLine; decide, fun tp htp => ⟨by show 1 ≤ sizeLine; decide, fun l2 hl2 => ?_⟩⟩⟩
        have e7 := (same_new (o := .tup [.int z.1.1, .int ((if i = 0 then u1 else 0) - (ts.map (·.1)).sum), .int u1]) htp)
        have e8' := e7.trans (same_new (o := .lst [.ref tp]) hl2)
        have hu1 := N1.pos
        have hz60 : 0 ≤ z.1.1 ∧ z.1.1 ≤ 60 := by
          rcases hst with ⟨_, e⟩ | ⟨_, _, e⟩
          · rw [e]; simp only; omega
          · rw [e]; simp only; omega
        refine ⟨l2, [.ref tp], [(z.1.1, (if i = 0 then u1 else 0) - (ts.map (·.1)).sum, u1)], M, rfl, upd_same, .cons ⟨tp, rfl, same_new hl2 _ _ upd_same⟩ .nil, by simp, hM0, by omega, fun q m => ?_, fun x2 ts2 u2 G8 e8 F2 N2 d2 ev2 => ?_⟩
        · have eq := List.mem_singleton.mp m
          subst eq
          exact ⟨hz60.1, hz60.2, by simp only; omega, d1⟩
        have e68 := e8'.trans e8
        have F18 := F6.same e68
        obtain ⟨x1', dx1'', a1'', us1'', ex1, hx18, _, _⟩ := id F18
        cases ex1
        obtain ⟨x2', dx2, a2, us2, ex2, hx28, _, _⟩ := id F2
        cases ex2
        refine ⟨x1, x2, dx1'', _, dx2, _, rfl, rfl, hx18, hx28, x1, x2, ts, u1, ts2, u2, M, rfl, F18, F2, N1, N2, hM0, by omega, d1, d2, fun x3 ts3 u3 G9 e99 F3 N3 d3 ev3 => ?_⟩
        have eGG := e456.trans (e68.trans e99)
        have hfd9' := eGG _ _ hfd
        have hqa9 : G9 qa = some (.tup ((kI z.1.2).map kV)) := by rw [kI_map]; exact eGG _ _ hqaG
        have hfkl : fk.length ≤ 2 := by
          rcases hfk with ⟨_, rfl⟩ | ⟨_, x0, rfl, _⟩ | ⟨rfl, _⟩
          · exact Nat.zero_le _
          · exact Nat.le_succ _
          · rcases hst with ⟨q, _⟩ | ⟨q, _⟩ <;> cases q
        refine ⟨_, rfl, _, rfl, fd, _, rfl, DPut.t hfd9' hqa9 (by rw [sizeLine_eq]; omega), ?_⟩
        refine ⟨_, _, _, _, _, _, _, _, _, _, rfl, fun b o n h => by rw [upd_ne n]; exact eGG _ _ (eG b o n h), upd_same, ?_⟩
        have F3' : ∀ o, FormV K (upd G9 fd o) (.ref x3) ts3 u3 := fun o => formV_upd hfd9' (fun _ z => by cases z) (fun _ _ _ z => by cases z) F3
        rcases hst with ⟨rfl, ez⟩ | ⟨rfl, hA, ez⟩
        · have hfk0 : fk = [] := by
            rcases hfk with ⟨_, h⟩ | ⟨h, _⟩ | ⟨h, _⟩
            · exact h
            · cases h
            · cases h
          subst hfk0
          rw [hM1 rfl] at *
          obtain ⟨rfl, rfl⟩ := led_zero N1 ev1
          rw [ez] at ev2 ⊢
          obtain ⟨rfl, rfl⟩ := fin_zero (C := ((fsum rows x y [] [] : Nat) : Int)) (by omega) (by omega) N3 fun f => by rw [ev3 f, ev2 f]; rfl
          exact .inr (.inl ⟨rfl, x3, rfl, F3' _⟩)
        · obtain ⟨x0, rfl, F0⟩ : ∃ x0, fk = [(kI [], .ref x0)] ∧ FormV K G (.ref x0) [(1, ((fsum rows x y [] [] : Nat) : Int))] 1 := by
            rcases hfk with ⟨h, _⟩ | ⟨_, h⟩ | ⟨h, _⟩
            · cases h
            · exact h
            · cases h
          rw [ez] at ev2 ⊢
          have hl := hlt hA
          have hev := fin_one (by omega) hu1 ev1 (ts := ts3) (u := u3) fun f => by rw [ev3 f, ev2 f]; rfl
          refine .inr (.inr ⟨rfl, hA, x0, formV_upd hfd9' (fun _ z => by cases z) (fun _ _ _ z => by cases z) (F0.same eGG), .inr ⟨hA, x3, ts3, u3, rfl, F3' _, N3, ?_, hev⟩⟩)
          rw [← hM2 rfl]
          exact d3
  · obtain ⟨o5, o6, o7, o8, o9, o10, o11, o12, o13, fk, rfl, eG, hfd, hfk⟩ := hh
    refine ⟨_, rfl, ?_⟩
    refine q fd fk G (fun b o h => eG _ _ (fun z => by have := e1 _ _ h; rw [z, nfd] at this; cases this) (e29 _ _ (e2 _ _ (e1 _ _ h)))) hfd ?_
    have hzl2 : (zs.map stF).length = items.length := by rw [List.length_map, ← hz1, List.length_map]
    rw [hzl2] at hfk
    rcases hitems with ⟨h0, h⟩ | ⟨h0, h⟩
    · rw [h] at hfk
      rcases hfk with ⟨h, _⟩ | ⟨_, x0, rfl, F⟩ | ⟨h, _⟩
      · cases h
      · exact ⟨x0, F, .inl ⟨h0, rfl⟩⟩
      · cases h
    · rw [h] at hfk
      rcases hfk with ⟨h, _⟩ | ⟨h, _⟩ | ⟨_, _, h⟩
      · cases h
      · cases h
      · exact h
end
end SD
end
section
set_option Elab.async false
set_option linter.all false
set_option maxRecDepth 100000
set_option maxHeartbeats 4000000
/-! ### the ways of an urn -/
namespace SD
open PySem PySem.Spec PyProof.Rows L2 LamX NdefX
theorem Cl.ofC {P : Program} {w : World} {K : PySem.W.Frag} {mg : Str → Option Value} {base : Heap} {x : Str} {st : Stmt} {N ps : List Str} {k : Nat} {sp : Sp} {c : Addr} (D : FnC K mg x st c) (S : FnScope N ps (defScope st)) (hb : BindN x x st ps) (len : ∀ vs H Q E, sp vs H Q E → vs.length = ps.length)
    (hbody : ∀ (f : Addr) (A : Around) (outer : List Env) (s : Shared) (H : Hp) (vs : List V) (Q : VK) (E : XK), Room k (A.deeper (envOfC x (defScope st) s.heap.objs.size f (.ref c))) → sp vs H Q E →
      ∃ t, PSs (cxOf CX0 P w K mg base N x (defScope st) f (.ref c) A outer s H E).nox (defBody st) t ∧ t { nx := fun _ H' => Q .non H', rt := Q } (start N vs) H) : Cl P w K mg base (k + 1) x ps sp := by
  obtain ⟨f, fd, F, hm, hc⟩ := D.ex
  have bi := F.binds hb
  have kp := F.kp
  refine ⟨f, fd, ?_, hm, kp, bi⟩
  obtain ⟨oc, od, kV, doc, pm, an, cdv, ct, osl, e, lk, hcd⟩ := F.ex
  have ec : cdv = .ref c := by rw [e] at hc; exact hc
  subst ec
  rw [e] at lk ⊢
  refine fn_of lk hcd S len fun A outer s H vs Q E hr hsp => ?_
  obtain ⟨t, h, q⟩ := hbody f A outer s H vs Q E hr hsp
  exact ⟨t, h.nox, q⟩
def tCallLend2 (cl : List (Str × Addr)) (fr : List Str) (js : List Nat) (sp : Sp) (E : XK) (t : TA) : TE := fun σ H Q => t σ H fun vs H1 => ∀ cs : List (Addr × Obj), (∀ p ∈ cs, H1 p.1 = none) → (∀ p ∈ cs, cs.lookup p.1 = some p.2) → CellsIn cl fr (js.map (slotAt σ)) cs → sp vs (lend cs H1) (fun v H' => Q v (unlend cs H')) E
section
variable {X : Cx} {CX : CXT} {k i : Nat} {f : Addr} {fd : FuncData} {ps fr : List Str} {js : List Nat} {cl : List (Str × Addr)} {sp : Sp} {E : XK} {x : Str} {p pos : Pos} {e : Expr} {es : List Expr} {t : TA}
theorem pe_callLend2 (F : FnOk X.prog X.w X.K X.mg X.base CX k f fd ps sp) (hr : Room k X.A) (hg : Gl X x) (hm : X.mg x = some (.ref f)) (hk : PySem.W.keepIn X.K (.ref f) = true) (hb : Binds X.K fd ps []) (hx : ∀ a b c d e f, ¬ CX a b c d e f) (cp : X.Ok → Caps X cl fr js) (hfn : ∀ y, X.fn y = true)
    (ha : PA X (e :: es) t) (hdb : (x == ("__debug__" : Str)) = false := by decide) (he : starEach (e :: es) X.env = (false, eval e X.env) :: starEach es X.env := by rfl) (hpl : (backTo pos (starEach es X.env)).any (·.1) = false := by rfl) :
    PE X (.Call (.Name x p) (e :: es) [] pos) (tCallLend2 cl fr js sp E t) := by
  refine ⟨fun pins s σ H Q I h => ?_⟩
  refine wpAny_Call_Name_kw (ld_glob I hg hm ?_ hdb)
  refine PySem.W.callWith_K (h₀ := X.base) I.ok.mod.kin hk (thn (ha.run pos pins s σ H _ I h) fun us s1 ⟨vs, H1, I1, r, q⟩ => ⟨I1.kIn, ?_⟩) he hpl
  obtain ⟨cs, h1, h2, C⟩ := cells_lent (cells_of I1 (cp I1.ok))
  have hfu : ∀ p ∈ cs, cs.lookup p.1 = some p.2 := fun p hp => by
    obtain ⟨u, hu⟩ := lk_some (b := p.1) (o := p.2) hp
    have e1 := (h1 _ (lk_mem hu)).1
    have e2 := (h1 p hp).1
    have e3 : s1.heap.get? p.1 = some u := e1
    rw [e2] at e3
    rw [hu, Option.some.inj e3]
  have q2 := q cs (fun p hp => (h1 p hp).2) hfu C
  have hl : us.length = ps.length := by rw [← r.length]; exact F.len _ _ _ _ q2
  have out := fun p hp => let ⟨y, e⟩ := h2 p hp; cells_out I1 hfn ((cp I1.ok).sub y _ e)
  have eu : us ++ [] = us := List.append_nil us
  have bt := hb s1 us I1.kIn (by rw [eu]; exact hl)
  rw [eu] at bt
  refine wpAny_call (codeAny_mono (F.run X.A X.stack s1 (lend cs H1) ⟨us, []⟩ us vs _ E hr (env0_lend I1.env0 h1 (fun p hp => (out p hp).1) fun p hp => (out p hp).2) bt r q2) fun r s' hq => ?_)
  cases r with
  | error e => exact absurd hq (hx _ _ _ _ _ _)
  | ok fl =>
    cases fl with
    | ret u => exact I1.after (ce_lend h1 hq)
    | next => exact False.elim hq
    | brk => exact False.elim hq
    | cont => exact False.elim hq
end
abbrev lamQ : Str := ("cut_forms" ++ ".<locals>." : Str) ++ "<lambda>"
/-- the table of the code objects that cut_forms makes stands at Pt -/
abbrev TabH (Pt : Addr) (H : Hp) : Prop := Tabs [(Pt, lamQ)] H
structure TopC (K : PySem.W.Frag) (mg : Str → Option Value) (base : Heap) (c Pt : Addr) : Prop where
  f : FnC K mg "cut_forms" (top 81) c
  tb : TabB base mg c Pt
/-- what is kept: all but the table; the table is a table -/
structure Ext (Pt : Addr) (H H' : Hp) : Prop where
  e : ExtN H H'
  t : TabH Pt H'
theorem Ext.refl {Pt : Addr} {H : Hp} (t : TabH Pt H) : Ext Pt H H := ⟨ExtN.refl H, t⟩
theorem Ext.trans {Pt : Addr} {H H1 H2 : Hp} (a : Ext Pt H H1) (b : Ext Pt H1 H2) : Ext Pt H H2 := ⟨a.e.trans b.e, b.t⟩
theorem Ext.of {Pt : Addr} {H H' : Hp} (t : TabH Pt H) (e : Same H H') : Ext Pt H H' := ⟨ExtN.of e, t.ext e⟩
theorem Ext.same {Pt : Addr} {H H1 H2 : Hp} (a : Ext Pt H H1) (e : Same H1 H2) : Ext Pt H H2 := a.trans (.of a.t e)
theorem formsOk_map {K : PySem.W.Frag} {H G : Hp} {rows : List Row} {x y : Str} {kvs : List (List Key × V)} (h : ∀ v ts u, FormV K H v ts u → FormV K G v ts u) (o : FormsOk K H rows x y kvs) : FormsOk K G rows x y kvs := by
  obtain ⟨x0, F0, o⟩ := o
  rcases o with ⟨a, b⟩ | ⟨a, x1, ts, u, b, F1, c⟩
  · exact ⟨x0, h _ _ _ F0, .inl ⟨a, b⟩⟩
  · exact ⟨x0, h _ _ _ F0, .inr ⟨a, x1, ts, u, b, h _ _ _ F1, c⟩⟩
theorem grpV_n {H G : Hp} {v : V} {g : Gs} (e : ExtN H G) (h : GrpV H v g) : GrpV G v g := by
  obtain ⟨a, us, rfl, h1, h2⟩ := h
  exact ⟨a, us, rfl, e _ _ h1 (by simp), paired_mono (fun v g tv => by obtain ⟨b, rfl, h⟩ := tv; exact ⟨b, rfl, e _ _ h (by simp)⟩) h2⟩
theorem rows_n {H G : Hp} {us : List V} {rows : List Row} (e : ExtN H G) (h : Paired (RowV H) us rows) : Paired (RowV G) us rows := paired_mono (fun v g tv => by obtain ⟨b, v, rfl, h1, h2⟩ := tv; exact ⟨b, v, rfl, e _ _ h1 (by simp), grpV_n e h2⟩) h
theorem urnV_n {K : PySem.W.Frag} {H G : Hp} {v : V} {rows : List Row} {th : List Str} (e : ExtN H G) (h : UrnV K H v rows th) : UrnV K G v rows th := by
  obtain ⟨x, dx, r, n, us, h1, h2, h3, h4, h5⟩ := h
  exact ⟨x, dx, r, n, us, h1, e _ _ h2 (by simp), e _ _ h3 (by simp), rows_n e h4, e _ _ h5 (by simp)⟩
theorem termV_n {H G : Hp} {v : V} {t : Trm} (e : ExtN H G) (h : TermV H v t) : TermV G v t := let ⟨a, h1, h2⟩ := h; ⟨a, h1, e _ _ h2 (by simp)⟩
theorem formV_n {K : PySem.W.Frag} {H G : Hp} {v : V} {ts : List Trm} {u : Int} (e : ExtN H G) (h : FormV K H v ts u) : FormV K G v ts u := by
  obtain ⟨x, dx, a, us, h1, h2, h3, h4⟩ := h
  exact ⟨x, dx, a, us, h1, e _ _ h2 (by simp), e _ _ h3 (by simp), paired_mono (fun v t h => termV_n e h) h4⟩
theorem formV_unlend {K : PySem.W.Frag} {H H' : Hp} {cs : List (Addr × Obj)} {v : V} {ts : List Trm} {u : Int} (e : Same (lend cs H) H') (h : FormV K H' v ts u) : FormV K (unlend cs H') v ts u := by
  obtain ⟨x, dx, a, us, h1, h2, h3, h4⟩ := h
  exact ⟨x, dx, a, us, h1, unlend_keep e h2 (fun _ z => by cases z), unlend_keep e h3 (fun _ z => by cases z), paired_mono (fun v t h => by obtain ⟨a, h1, h2⟩ := h; exact ⟨a, h1, unlend_keep e h2 (fun _ z => by cases z)⟩) h4⟩
abbrev s_cut_forms : Stmt := top 81
abbrev N_cut_forms : List Str := ["urn", "row", "places"]
theorem sc_cut_forms : FnScope N_cut_forms ["urn", "row", "places"] (defScope s_cut_forms) := ⟨rfl, rfl, rfl, by decide +kernel, rfl, by decide +kernel, by decide +kernel⟩
def sp_cut_forms (K : PySem.W.Frag) (Pt : Addr) : Sp := fun vs H Q _ => ∃ u r pl rows th x y, vs = [.ref u, .ref r, .ref pl] ∧ TabH Pt H ∧ UrnV K H (.ref u) rows th ∧ GoodR rows th ∧ x ∈ th ∧ y ∈ th ∧ H r = some (.tup (nm [x, y])) ∧ H pl = some (.lst [.int 1]) ∧
  ∀ fd kvs H', Ext Pt H H' → H' fd = some (.dT kvs) → FormsOk K H' rows x y kvs → Q (.ref fd) H'
section
variable {P : Program} {w : World} {K : PySem.W.Frag} {mg : Str → Option Value} {base : Heap} {c Pt : Addr}
theorem lam_ndef : ndefB (defScope s_cut_forms) lamS ["row", "places"] = true := by decide +kernel
theorem cl_cut_forms (T : Tops K mg) (C : TopC K mg base c Pt) : Cl P w K mg base 10 "cut_forms" ["urn", "row", "places"] (sp_cut_forms K Pt) := by
  refine .ofC C.f sc_cut_forms (fun _ _ _ _ _ _ us hl => match us, hl with | [_, _, _], _ => rfl) (fun vs H Q E h => ?_) fun f A outer s H vs Q E hr h => ?_
  · obtain ⟨_, _, _, _, _, _, _, rfl, _⟩ := h; rfl
  obtain ⟨u, r, pl, rows, th, x, y, rfl, hT, hu, G', mx, my, hr1, hpl, q⟩ := h
  obtain ⟨ff, fdd, F, hm, kp, bi⟩ := (cl_forms_of (P := P) (w := w) (base := base) T).ex
  refine ⟨_, pss_one (ps_ret (pe_callLend2 (fr := ["row", "places"]) (js := [1, 2]) (CX := CX0) (E := E0) F hr (by rfl) hm kp bi (fun _ _ _ _ _ _ z => z) (fun ok => Caps.made (scope := lamS) ok (ndef_free lam_ndef) (ndef_fr lam_ndef) rfl) (fun _ => rfl)
    (pa_cons (pv 0) (pa_cons (pe_tup pa_nil) (pa_cons (pe_lam (T := [(Pt, lamQ)]) C.tb rfl (by simp; rfl) (fun p hp _ => by have := List.mem_singleton.mp hp; rw [this]; rfl) rfl (ndef_free lam_ndef)) pa_nil))))), ?_⟩
  refine ⟨_, rfl, Nat.zero_le _, fun b hb => ⟨hT.ext (same_new hb), fun f' c' G eG tG nf hf hc => fun cs hn hfu Cn => ?_⟩⟩
  have eb : Same H (upd H b (.tup [])) := same_new hb
  have e1 : ExtN H G := (ExtN.of eb).trans eG
  have eL : Same G (lend cs G) := fun b o h => lend_at hn h
  have e2 : ExtN H (lend cs G) := e1.trans (ExtN.of eL)
  have hun : ∀ H', Same (lend cs G) H' → Same G (unlend cs H') := fun H' e => same_unlend hn e
  refine ⟨u, b, f', rows, th, x, y, r, pl, rfl, urnV_n e2 hu, G', mx, my, eL _ _ (eG _ _ upd_same (by simp)), ⟨_, _, c', cs, eL _ _ hf, eL _ _ hc, fun p hp => lend_in (hfu p hp), Cn⟩, e2 _ _ hr1 (by simp), e2 _ _ hpl (by simp), fun fd kvs H' e' hfd hok => ?_⟩
  exact q fd kvs _ ⟨e1.trans (ExtN.of (hun H' e')), tG.ext (hun H' e')⟩ (unlend_keep e' hfd (fun _ z => by cases z)) (formsOk_map (fun v ts u h => formV_unlend e' h) hok)
end
end SD
end
section
set_option Elab.async false
set_option linter.all false
set_option maxRecDepth 100000
set_option maxHeartbeats 4000000
/-! ### the head's facts -/
namespace SD
open PySem PySem.W PySem.Calls PyProof.Rows He He5
section
variable {K : Frag} {h : Heap} {mg : Str → Option Value}
theorem Hd.Says.f (c : Hd.Says h K) (i : Nat) {f : Fa} (e : Hd.fa[i]? = some f) : f.ok K = true := c.fa f (List.mem_of_getElem? e)
theorem Hd.Says.d (c : Hd.Says h K) (i : Nat) {d : DefA} (e : Hd.fn[i]? = some d) : ∃ fd, L2.FunD K d.name d.qual d.params d.body d.scope (d.dvs K) (d.kws K) (d.at_ K) fd := c.fn d (List.mem_of_getElem? e)
theorem Hd.Says.x (c : Hd.Says h K) (i : Nat) {f : Frag → Bool} (e : Hd.exs[i]? = some f) : f K = true := List.all_eq_true.mp c.ex f (List.mem_of_getElem? e)
theorem fnF (X : K.In h) (G : h.Ns mainGlobals mg) (c : Hd.Says h K) {x : Str} {n : Nat} (i j : Nat) (e : Hd.fn[i]? = some (Hd.dG x n)) (e2 : Hd.fa[j]? = some (.glo x)) : FnF K mg x (top n) := by
  obtain ⟨fd, F⟩ := c.d i e
  exact ⟨_, fd, fun_of (st := top n) F, glo_ok X G (c.f j e2)⟩
theorem insC {C : Addr} (h1 : L2.Cls K C) (h2 : Hd.insB K C = true) : C8.InsC K C := by
  obtain ⟨a, h2⟩ := ba h2
  obtain ⟨b, h2⟩ := ba h2
  obtain ⟨c, d⟩ := ba h2
  exact ⟨h1, eqO_ok a, eqO_ok b, of_decide_eq_true c, of_decide_eq_true d, by unfold kitOne; simp⟩
theorem wf_ok {C : Addr} {T : String} {m : Str} (h : (match recIn K (ma K C m) T with
    | some (.ref _ :: _) => true
    | _ => false) = true) : ∃ rest, recIn K (ma K C m) T = some (.ref (wf K C T m) :: rest) := by
  unfold wf
  split at h
  · rename_i f r e
    exact ⟨r, by rw [e]⟩
  · cases h
theorem prp_ok {C m : Str} (h : Hd.prpB K C m = true) : L2.PropOf K (ga K C) m (ma K (ga K C) m) (wf K (ga K C) "property" m) := by
  obtain ⟨a, h⟩ := ba h
  obtain ⟨b, h⟩ := ba h
  obtain ⟨c, d⟩ := ba h
  exact ⟨eqO_ok a, eqO_ok b, of_decide_eq_true c, wf_ok d⟩
theorem cm_ok {C m : Str} (h : Hd.cmB K C m = true) : ClX.CRead K (ga K C) (.type "type") ∧ ClX.CMet K (ga K C) (.type "type") m (ma K (ga K C) m) (wf K (ga K C) "classmethod" m) := by
  obtain ⟨a, h⟩ := ba h
  obtain ⟨b, h⟩ := ba h
  obtain ⟨c, d⟩ := ba h
  exact ⟨⟨a, eqO_ok b⟩, cmet_of c d⟩
theorem op_ok {C : Str} (h : Hd.opB K C = true) : selfFirst K (ga K C) = true ∧ findIn K (.ref (ga K C)) "__ne__" = some (some (.builtin "object.__ne__")) ∧ mroIn K (ga K C) (.type "object") = some true := by
  obtain ⟨a, h⟩ := ba h
  obtain ⟨b, c⟩ := ba h
  exact ⟨a, eqO_ok b, of_decide_eq_true c⟩
theorem tops_of (X : K.In h) (G : h.Ns mainGlobals mg) (c : Hd.Says h K) : Tops K mg where
  f_is_integer := fnF X G c 0 0 rfl rfl
  f_is_natural := fnF X G c 1 1 rfl rfl
  f_is_name := fnF X G c 2 2 rfl rfl
  f_is_thing := fnF X G c 3 3 rfl rfl
  f_check_thing := fnF X G c 4 4 rfl rfl
  f_check_pair := fnF X G c 5 5 rfl rfl
  f_wrong_in_order := fnF X G c 6 6 rfl rfl
  f_check_order := fnF X G c 7 7 rfl rfl
  f_check_things := fnF X G c 8 8 rfl rfl
  f_number_of := fnF X G c 9 9 rfl rfl
  f_greatest_divisor := fnF X G c 10 10 rfl rfl
  f_is_group := fnF X G c 11 11 rfl rfl
  f_wrong_group := fnF X G c 12 12 rfl rfl
  f_grouped := fnF X G c 13 13 rfl rfl
  f_deed_with := fnF X G c 14 14 rfl rfl
  f_is_term := fnF X G c 15 15 rfl rfl
  f_wrong_term := fnF X G c 16 16 rfl rfl
  f_shared_divisor := fnF X G c 17 17 rfl rfl
  f_form_of := fnF X G c 18 18 rfl rfl
  f_check_form := fnF X G c 19 19 rfl rfl
  f_is_ticketed := fnF X G c 20 20 rfl rfl
  f_wrong_ticket := fnF X G c 21 21 rfl rfl
  f_summed := fnF X G c 22 22 rfl rfl
  f_urn_of_rows := fnF X G c 23 23 rfl rfl
  f_check_urn := fnF X G c 24 24 rfl rfl
  f_pair_with := fnF X G c 25 25 rfl rfl
  f_urn_with := fnF X G c 26 26 rfl rfl
  f_cut := fnF X G c 27 27 rfl rfl
  f_ways_on := fnF X G c 28 28 rfl rfl
  f_forms_of := fnF X G c 29 29 rfl rfl
  f_turned := fnF X G c 30 30 rfl rfl
  f_ways := fnF X G c 31 31 rfl rfl
  f_ways_ahead := fnF X G c 32 32 rfl rfl
  f_law_purse := fnF X G c 33 33 rfl rfl
  f_law_draw := fnF X G c 34 34 rfl rfl
  f_law_things := fnF X G c 35 35 rfl rfl
  f_law_order := fnF X G c 36 36 rfl rfl
  f_law_ranked := fnF X G c 37 37 rfl rfl
  f_law_groups := fnF X G c 38 38 rfl rfl
  f_law_text := fnF X G c 39 39 rfl rfl
  f_law_done := fnF X G c 40 40 rfl rfl
  f_law_rows := fnF X G c 41 41 rfl rfl
  f_law_urn_text := fnF X G c 42 42 rfl rfl
  f_law_total := fnF X G c 43 43 rfl rfl
  f_law_power := fnF X G c 44 44 rfl rfl
  f_law_sum := fnF X G c 45 45 rfl rfl
  f_law_tells := fnF X G c 46 46 rfl rfl
  f_law_next := fnF X G c 47 47 rfl rfl
  f_law_levels := fnF X G c 48 48 rfl rfl
  f_law_ahead := fnF X G c 49 49 rfl rfl
  f_law_right := fnF X G c 50 50 rfl rfl
  f_law := fnF X G c 51 51 rfl rfl
  nn0 := List.forall_mem_cons.mpr ⟨free_ok X G (c.f 62 rfl), List.forall_mem_cons.mpr ⟨free_ok X G (c.f 63 rfl), List.forall_mem_cons.mpr ⟨free_ok X G (c.f 64 rfl), List.forall_mem_cons.mpr ⟨free_ok X G (c.f 65 rfl), List.forall_mem_cons.mpr ⟨free_ok X G (c.f 66 rfl), List.forall_mem_cons.mpr ⟨free_ok X G (c.f 67 rfl), List.forall_mem_cons.mpr ⟨free_ok X G (c.f 68 rfl), List.forall_mem_cons.mpr ⟨free_ok X G (c.f 69 rfl), List.forall_mem_cons.mpr ⟨free_ok X G (c.f 70 rfl), List.forall_mem_cons.mpr ⟨free_ok X G (c.f 71 rfl), List.forall_mem_cons.mpr ⟨free_ok X G (c.f 72 rfl), List.forall_mem_cons.mpr ⟨free_ok X G (c.f 73 rfl), List.forall_mem_cons.mpr ⟨free_ok X G (c.f 74 rfl), List.forall_mem_cons.mpr ⟨free_ok X G (c.f 75 rfl), List.forall_mem_cons.mpr ⟨free_ok X G (c.f 76 rfl), List.forall_mem_cons.mpr ⟨free_ok X G (c.f 77 rfl), List.forall_mem_cons.mpr ⟨free_ok X G (c.f 78 rfl), fun _ h => nomatch h⟩⟩⟩⟩⟩⟩⟩⟩⟩⟩⟩⟩⟩⟩⟩⟩⟩
  cMOST_THINGS := let ⟨t, h⟩ := int_ok X G (c.f 79 rfl); ⟨_, h, ⟨t, rfl⟩⟩
  cMOST_DEEDS := let ⟨t, h⟩ := int_ok X G (c.f 80 rfl); ⟨_, h, ⟨t, rfl⟩⟩
  cMOST_TICKETS := let ⟨t, h⟩ := int_ok X G (c.f 81 rfl); ⟨_, h, ⟨t, rfl⟩⟩
  cLETTERS := let ⟨t, h⟩ := str_ok X G (c.f 82 rfl); ⟨_, h, ⟨t, rfl⟩⟩
  cSIGNS := let ⟨t, h⟩ := str_ok X G (c.f 83 rfl); ⟨_, h, ⟨t, rfl⟩⟩
  cDIGITS := let ⟨t, h⟩ := str_ok X G (c.f 84 rfl); ⟨_, h, ⟨t, rfl⟩⟩
  oD := ⟨insC (cls_ok (c.f 54 rfl)) (c.x 0 rfl), glo_ok X G (c.f 53 rfl)⟩
  oU := ⟨insC (cls_ok (c.f 57 rfl)) (c.x 1 rfl), glo_ok X G (c.f 56 rfl)⟩
  oF := ⟨insC (cls_ok (c.f 60 rfl)) (c.x 2 rfl), glo_ok X G (c.f 59 rfl)⟩
  iD := let ⟨fd, F⟩ := c.d 53 rfl; ⟨_, fd, mkr_ok (c.f 55 rfl), F⟩
  iU := let ⟨fd, F⟩ := c.d 54 rfl; ⟨_, fd, mkr_ok (c.f 58 rfl), F⟩
  iF := let ⟨fd, F⟩ := c.d 55 rfl; ⟨_, fd, mkr_ok (c.f 61 rfl), F⟩
  nD1 := noat_ok (c.f 85 rfl)
  nD2 := noat_ok (c.f 86 rfl)
  nU1 := noat_ok (c.f 87 rfl)
  nU2 := noat_ok (c.f 88 rfl)
  nF1 := noat_ok (c.f 89 rfl)
  nF2 := noat_ok (c.f 90 rfl)
  pDg := let ⟨fd, F⟩ := c.d 60 rfl; ⟨_, _, fd, prp_ok (c.x 3 rfl), fun_of F⟩
  pDt := let ⟨fd, F⟩ := c.d 61 rfl; ⟨_, _, fd, prp_ok (c.x 4 rfl), fun_of F⟩
  pUp := let ⟨fd, F⟩ := c.d 62 rfl; ⟨_, _, fd, prp_ok (c.x 5 rfl), fun_of F⟩
  pUt := let ⟨fd, F⟩ := c.d 63 rfl; ⟨_, _, fd, prp_ok (c.x 6 rfl), fun_of F⟩
  pFt := let ⟨fd, F⟩ := c.d 64 rfl; ⟨_, _, fd, prp_ok (c.x 7 rfl), fun_of F⟩
  pFp := let ⟨fd, F⟩ := c.d 65 rfl; ⟨_, _, fd, prp_ok (c.x 8 rfl), fun_of F⟩
  mDo := let ⟨fd, F⟩ := c.d 56 rfl; ⟨_, fd, meth_ok (c.f 91 rfl), fun_of F⟩
  mUo := let ⟨fd, F⟩ := c.d 57 rfl; ⟨_, fd, meth_ok (c.f 92 rfl), fun_of F⟩
  rU := let ⟨fd, F⟩ := c.d 66 rfl; let ⟨h1, h2⟩ := cm_ok (c.x 9 rfl); ⟨_, _, fd, _, h1, h2, fun_of F⟩
  opF := by
    obtain ⟨h1, h2, h3⟩ := op_ok (c.x 10 rfl)
    obtain ⟨fa, Fa⟩ := c.d 58 rfl
    obtain ⟨fe, Fe⟩ := c.d 59 rfl
    have ma := meth_ok (c.f 93 rfl)
    have me := meth_ok (c.f 94 rfl)
    exact ⟨⟨_, fa, ma.at_, ma.fn, fun_of Fa⟩, h1, ⟨_, fe, me.at_, me.fn, fun_of Fe⟩, h2, h3⟩
abbrev cutT (K : Frag) : Addr × Addr := cT K ("cut_forms", none)
theorem cut_fnC (X : K.In h) (G : h.Ns mainGlobals mg) (c : Hd.Says h K) : FnC K mg "cut_forms" (top 81) (cutT K).1 := by
  obtain ⟨fd, F⟩ := c.d 52 rfl
  have F2 : L2.Fun K "cut_forms" "cut_forms" (top 81) (ga K "cut_forms") fd := fun_of F
  refine ⟨_, fd, F2, glo_ok X G (c.f 52 rfl), ?_⟩
  obtain ⟨oc, od, kV, doc, pm, an, cdv, ct, osl, e, lk, hcd⟩ := F2.ex
  obtain ⟨z, hz⟩ := codeIn_ref hcd
  have hc : fd.code = .ref z := by rw [e, ← hz]
  have := codeOf_eq (K := K) (p := ("cut_forms", none)) lk hc
  rw [hc]
  show Value.ref z = .ref (codeOf K ("cut_forms", none))
  rw [this]
theorem law_fun (X : K.In h) (G : h.Ns mainGlobals mg) (c : Hd.Says h K) : ∃ fd, L2.Fun K "law" "law" (top 104) (ga K "law") fd ∧ mg "law" = some (.ref (ga K "law")) ∧ ∀ (s : Shared) (v : Value), BindsTo s fd ⟨[v], []⟩ [("_law_script", v)] := by
  obtain ⟨fd, F⟩ := c.d 51 rfl
  refine ⟨fd, fun_of F, glo_ok X G (c.f 51 rfl), fun s v => ?_⟩
  have F3 : L2.FunD K "law" "law" (L2.defArgs (top 104)) (L2.defBody (top 104)) (L2.defScope (top 104)) [] [] (ga K "law") fd := F
  have b := L2.FunD.bindsA (ps := ["_law_script"]) F3 fun _ _ _ _ _ _ us hl => match us, hl with | [_], _ => rfl
  exact b s [v] rfl
end
end SD
end
section
set_option Elab.async false
set_option linter.all false
set_option maxRecDepth 100000
set_option maxHeartbeats 4000000
/-! ### the ways of an urn, of a pair -/
namespace SD
open PySem PySem.Spec PyProof.Rows L2 LamX NdefX
abbrev s_turned : Stmt := top 82
abbrev N_turned : List Str := ["start", "end", "k"]
theorem sc_turned : FnScope N_turned ["start", "end"] (defScope s_turned) := ⟨rfl, rfl, rfl, by decide +kernel, rfl, by decide +kernel, by decide +kernel⟩
abbrev s_ways : Stmt := top 83
abbrev N_ways : List Str := ["urn", "start", "end", "forms", "wanted", "found", "state", "place"]
theorem sc_ways : FnScope N_ways ["urn", "start", "end"] (defScope s_ways) := ⟨rfl, rfl, rfl, by decide +kernel, rfl, by decide +kernel, by decide +kernel⟩

def sp_turned : Sp := fun vs H Q _ => ∃ (sa ea : Addr) (x y : Str) (b : Bool), vs = [.ref sa, .ref ea] ∧ FTup H sa (nm (if b then [x, y] else [y, x])) ∧ H ea = some (.tup (nm [x, y])) ∧ x ≠ y ∧
  ∀ l H', Same H H' → H' l = some (.lst ((if b then [] else [(1 : Int)]).map V.int)) → Q (.ref l) H'
/-- what the form of the ways comes to; b: x is ahead at the start -/
def waysV (rows : List Row) (x y : Str) (b : Bool) (f : Int → Rat) : Rat := (if b then f (fsum rows x y [] [] : Nat) else 0) + ((fsum rows x y [] [1] : Nat) : Rat) / ((((total rows : Nat) : Int) - (fsum rows x y [] [] : Nat) : Int) : Rat) * (f (total rows : Nat) - f (fsum rows x y [] [] : Nat))
def waysP (rows : List Row) (x y : Str) (b : Bool) (i : Nat) (f : Int → Rat) : Rat := (if 1 ≤ i ∧ b = true then f (fsum rows x y [] [] : Nat) else 0) + (if 2 ≤ i then ((fsum rows x y [] [1] : Nat) : Rat) / ((((total rows : Nat) : Int) - (fsum rows x y [] [] : Nat) : Int) : Rat) * (f (total rows : Nat) - f (fsum rows x y [] [] : Nat)) else 0)
theorem formV_but {K : PySem.W.Frag} {H G : Hp} {D : Addr} {kvs : List (List Key × V)} {v : V} {ts : List Trm} {n : Int} (e : But D H G) (hf : H D = some (.dT kvs)) (h : FormV K H v ts n) : FormV K G v ts n := by
  obtain ⟨x, dx, a, us, h1, h2, h3, h4⟩ := h
  exact ⟨x, dx, a, us, h1, e _ _ (ne_of h2 hf (by simp)) h2, e _ _ (ne_of h3 hf (by simp)) h3, paired_mono (fun v t h => termV_but e hf (fun _ z => by cases z) h) h4⟩
/-- the ways' result -/
abbrev WaysQ (K : PySem.W.Frag) (Pt : Addr) (H : Hp) (rows : List Row) (x y : Str) (b : Bool) (Q : VK) : Prop := ∀ z ts v M H', Ext Pt H H' → FormV K H' (.ref z) ts v → Nf ts v → 0 < M → M ≤ 60 → v ∣ M → (∀ f, ev ts f / (v : Rat) = waysV rows x y b f) → Q (.ref z) H'
def sp_ways (K : PySem.W.Frag) (Pt : Addr) : Sp := fun vs H Q _ => ∃ (u sa ea : Addr) (rows : List Row) (th : List Str) (x y : Str) (b : Bool), vs = [.ref u, .ref sa, .ref ea] ∧ TabH Pt H ∧ UrnV K H (.ref u) rows th ∧ GoodR rows th ∧ x ∈ th ∧ y ∈ th ∧ th.length = 2 ∧ x ≠ y ∧
  FTup H sa (nm (if b then [x, y] else [y, x])) ∧ H ea = some (.tup (nm [x, y])) ∧ WaysQ K Pt H rows x y b Q
section
variable {P : Program} {w : World} {K : PySem.W.Frag} {mg : Str → Option Value} {base : Heap} {c Pt : Addr}
theorem cl_turned (T : Tops K mg) : Cl P w K mg base 1 "turned" ["start", "end"] sp_turned := by
  refine .of T.f_turned sc_turned (fun _ _ _ _ _ _ us hl => match us, hl with | [_, _], _ => rfl) (fun vs H Q E h => ?_) fun f cdv A outer s H vs Q E hr h => ?_
  · obtain ⟨_, _, _, _, _, rfl, _⟩ := h; rfl
  obtain ⟨sa, ea, x, y, b, rfl, hs, he, hxy, q⟩ := h
  refine ⟨_, (pss_one (ps_ret (pe_lc (own := [("k", 2)]) (by rfl) sc_turned.nd (pi_range2 (by rfl) (T.nn "range") (pa_cons pe_int (pa_cons (pe_callB (call_len_seqK (K := K) rfl) (by rfl) (T.nn "len") rfl (pa_cons (pv 1) pa_nil)) pa_nil))) (blkOk_by (own := [("k", 2)]) (N := N_turned) (sc := defScope s_turned) (by decide +kernel)) (fun _ _ _ _ _ => (pg_name (i := 2) sc_turned.nd rfl (Or.inl rfl))) (fun _ _ _ _ _ => (pts_one (pt_cmpR op_gt (pe_fm PySem.F.plainAttrs_tuple PySem.F.slot_tuple_index PySem.F.type_tuple_index (mt_tup_indexK (K := K) rfl) (pv 0) (pa_cons (pe_ix (ix_tupK (K := K) rfl) (pv 1) (pe_op op_sub (pv 2) pe_int) (fun _ _ => rfl)) pa_nil)) (pe_fm PySem.F.plainAttrs_tuple PySem.F.slot_tuple_index PySem.F.type_tuple_index (mt_tup_indexK (K := K) rfl) (pv 0) (pa_cons (pe_ix (ix_tupK (K := K) rfl) (pv 1) (pv 2) (fun _ _ => rfl)) pa_nil)) (nomark _)))) (fun _ _ _ _ _ => (pv 2))))) , ?_⟩
  refine ⟨_, rfl, ea, _, rfl, .inr (.of he), 1, 2, rfl, by omega, fun D hD => ?_⟩
  refine lcR (n := 1) (fun i acc _ => acc = if i = 0 then [] else (if b then [] else [(1 : Int)]).map V.int) hD rfl (fun i H2 acc hi e2 hD2 hl2 hacc => ?_) fun H2 acc e2 hD2 hl2 hacc => ?_
  · have hi0 : i = 0 := by omega
    subst hi0
    have he2 := e2 _ _ he
    have hs2 := hs.same e2
    refine ⟨rfl, ?_⟩
    cases b with
    | true =>
      have hs3 : FTup H2 sa ([x, y].map V.str) := hs2
      refine ⟨_, rfl, ⟨sa, _, rfl, hs3⟩, _, rfl, _, rfl, _, 1, rfl, rfl, ea, _, _, .str x, rfl, rfl, .of he2, rfl, sa, [x, y], x, 0, rfl, rfl, hs3.sq, rfl, (fun m hm => by omega), ?_⟩
      refine ⟨_, rfl, ⟨sa, _, rfl, hs3⟩, _, rfl, _, rfl, ea, _, _, .str y, rfl, rfl, .of he2, rfl, sa, [x, y], y, 1, rfl, rfl, hs3.sq, rfl, (fun m hm => ?_), _, _, rfl, rfl, false, rfl, iteF (lc_skip e2 (.refl _) hD2 hl2 hacc)⟩
      have : m = 0 := by omega
      subst this
      simpa using hxy
    | false =>
      have hs3 : FTup H2 sa ([y, x].map V.str) := hs2
      refine ⟨_, rfl, ⟨sa, _, rfl, hs3⟩, _, rfl, _, rfl, _, 1, rfl, rfl, ea, _, _, .str x, rfl, rfl, .of he2, rfl, sa, [y, x], x, 1, rfl, rfl, hs3.sq, rfl, (fun m hm => ?_), ?_⟩
      · have : m = 0 := by omega
        subst this
        simpa using hxy.symm
      refine ⟨_, rfl, ⟨sa, _, rfl, hs3⟩, _, rfl, _, rfl, ea, _, _, .str y, rfl, rfl, .of he2, rfl, sa, [y, x], y, 0, rfl, rfl, hs3.sq, rfl, (fun m hm => by omega), _, _, rfl, rfl, true, rfl, iteT ⟨_, rfl, lc_put hD e2 (.refl _) hD2 hl2 (by decide) ?_⟩⟩
      rw [hacc]
      rfl
  · exact q D H2 e2 (by rw [hD2, hacc]; rfl)
theorem cl_ways (T : Tops K mg) (C : TopC K mg base c Pt) : Cl P w K mg base 11 "ways" ["urn", "start", "end"] (sp_ways K Pt) := by
  refine .of T.f_ways sc_ways (fun _ _ _ _ _ _ us hl => match us, hl with | [_, _, _], _ => rfl) (fun vs H Q E h => ?_) fun f cdv A outer s H vs Q E hr h => ?_
  · obtain ⟨_, _, _, _, _, _, _, _, rfl, _⟩ := h; rfl
  obtain ⟨u, sa, ea, rows, th, x, y, b, rfl, hT, hu, G', mx, my, hth, hxy, hs, he, q⟩ := h
  refine ⟨_, (pss_cons (ps_expr (pe_cl (cl_check_urn T) hr (by decide) rfl (pa_cons (pv 0) pa_nil)))
      (pss_cons (ps_expr (pe_cl (cl_check_order T) hr (by decide) rfl (pa_cons (pv 1) (pa_cons (pe_pr (pr_Ut T) hr (by decide) (pv 0) rfl) pa_nil))))
      (pss_cons (ps_expr (pe_cl (cl_check_order T) hr (by decide) rfl (pa_cons (pv 2) (pa_cons (pe_pr (pr_Ut T) hr (by decide) (pv 0) rfl) pa_nil))))
      (pss_cons (ps_set (i := 3) sc_ways.nd rfl (Or.inl rfl) (pe_cl (cl_cut_forms T C) hr (by decide) rfl (pa_cons (pv 0) (pa_cons (pv 2) (pa_cons (pe_listRg rfl (by rfl) (T.nn "list") (prg_2 (by rfl) (T.nn "range") pe_int (pe_callB (call_len_seqK (K := K) rfl) (by rfl) (T.nn "len") rfl (pa_cons (pv 2) pa_nil)))) pa_nil)))))
      (pss_cons (ps_set (i := 4) sc_ways.nd rfl (Or.inl rfl) (pe_cl (cl_turned T) hr (by decide) rfl (pa_cons (pv 1) (pa_cons (pv 2) pa_nil))))
      (pss_cons (ps_set (i := 5) sc_ways.nd rfl (Or.inl rfl) (pe_ml (ml_Form1 T) hr (by decide) rfl (pa_cons (pe_tup pa_nil) pa_nil)))
      (pss_cons (ps_lock (ps_for PassesOwn.never rfl (pi_keys (pv 3)) (pg_name (i := 6) sc_ways.nd rfl (Or.inr rfl))
       (pss_one (ps_if (pt_val (pe_callB (cr_allK (K := K) rfl rfl) (by rfl) (T.nn "all") rfl (pa_cons (pe_lc (own := [("place", 7)]) (by rfl) sc_ways.nd (pi_listK (K := K) rfl (pv 4)) (blkOk_by (own := [("place", 7)]) (N := N_ways) (sc := defScope s_ways) (by decide +kernel)) (fun _ _ _ _ _ => (pg_name (i := 7) sc_ways.nd rfl (Or.inl rfl))) (fun _ _ _ _ _ => pts_nil) (fun _ _ _ _ _ => (pe_cmpR (op_in_seqK (K := K) rfl) (pv 7) (pv 6) (by rfl)))) pa_nil)))
       (pss_one (ps_set (i := 5) sc_ways.nd rfl (Or.inl rfl) (pe_op (op_addF T (hr.mono (by decide)) rfl rfl) (pv 5) (pe_dget (hu_of hr) (pv 3) (pv 6) (fun _ _ => rfl)))))
       pss_nil))))
      (pss_one (ps_ret (pv 5)))))))))) , ?_⟩
  obtain ⟨u', dx, rl, nd, us, eu, hux, hrl, hp, _⟩ := id hu
  cases eu
  refine ⟨_, rfl, u, rows, th, rfl, hu, ?_⟩
  refine ⟨_, rfl, _, rfl, u, dx, _, rfl, hux, ⟨u, rows, th, rfl, hu, fun n hn => ⟨sa, n, if b then [x, y] else [y, x], th, rfl, ?_, .inl (.of hn), ?_, ?_, ?_, fun H1 e1 => ?_⟩⟩⟩
  · obtain ⟨o, h, _⟩ := hs; exact .inr ⟨o, h⟩
  · cases b <;> simp [hxy, hxy.symm]
  · cases b <;> simp [mx, my]
  · cases b <;> simp [hth]
  refine ⟨_, rfl, _, rfl, u, dx, _, rfl, e1 _ _ hux, ⟨u, rows, th, rfl, hu.same e1, fun n hn => ⟨ea, n, [x, y], th, rfl, .of (e1 _ _ he), .inl (.of hn), by simp [hxy], by simp [mx, my], by simp [hth], fun H2 e2 => ?_⟩⟩⟩
  have e12 := e1.trans e2
  refine ⟨_, rfl, _, rfl, _, rfl, ea, _, rfl, .inr (.of (e12 _ _ he)), 1, 2, rfl, rfl, .of_le (by decide) (by decide) (by decide) (by decide), fun pl npl => ?_⟩
  have e3 := e12.trans (same_new (o := .lst (rgV 1 2)) npl)
  have hT3 : TabH Pt (upd H2 pl (.lst (rgV 1 2))) := hT.ext e3
  refine ⟨u, ea, pl, rows, th, x, y, rfl, hT3, hu.same e3, G', mx, my, e3 _ _ he, upd_same, fun fd kvs H3 e4 hfd hok => ?_⟩
  have E3 : Ext Pt H H3 := (Ext.of hT e3).trans e4
  have hs3 : FTup H3 sa _ := let ⟨o, h1, h2⟩ := hs; ⟨o, E3.e _ _ h1 (by simp), h2⟩
  refine ⟨_, rfl, _, rfl, sa, ea, x, y, b, rfl, hs3, E3.e _ _ he (by simp), hxy, fun l H4 e5 hl => ?_⟩
  refine ⟨Nat.zero_le _, fun tp htp => fun zf dz n1 n2 n3 => ?_⟩
  refine mkForm (ts := []) upd_same .nil nf_zero.d (by decide) (by decide) n1 n2 fun H5 e6 hF => ⟨rfl, ?_⟩
  have e35 : Same H3 H5 := e5.trans ((same_new htp).trans e6)
  have E5 : Ext Pt H H5 := E3.same e35
  have hfd5 := e35 _ _ hfd
  have hok5 := formsOk_map (fun v ts u h => h.same e35) hok
  have hl5 := ((same_new htp).trans e6) _ _ hl
  have hF0 : FormV K H5 (.ref zf) [] 1 := hF
  have hle := fsum_le (rows := rows) (x := x) (y := y)
  have htot := G'.tot
  obtain ⟨M, hM0, hM60, hM1⟩ : ∃ M : Int, 0 < M ∧ M ≤ 60 ∧ (0 < fsum rows x y [] [1] → M = ((total rows : Nat) : Int) - (fsum rows x y [] [] : Nat)) := by
    by_cases h : 0 < fsum rows x y [] [1]
    · exact ⟨((total rows : Nat) : Int) - (fsum rows x y [] [] : Nat), by omega, by omega, fun _ => rfl⟩
    · exact ⟨1, by decide, by decide, fun z => absurd z h⟩
  -- the i-th of the forms
  have item : ∀ (i : Nat) (k : List Key) (vv : V), kvs[i]? = some (k, vv) → ∃ S xk ts v, k = kI S ∧ vv = .ref xk ∧ FormV K H5 (.ref xk) ts v ∧ Nf ts v ∧ v ∣ M ∧ valV kvs (kI S) = some (.ref xk) ∧ (S = [] ∨ S = [1]) ∧ (∀ f, waysP rows x y b (i + 1) f = waysP rows x y b i f + if (b || decide (S = [1])) = true then ev ts f / (v : Rat) else 0) := by
    intro i k vv hi
    obtain ⟨x0, F0, o⟩ := hok5
    have hC60 : ((fsum rows x y [] [] : Nat) : Int) ≤ 60 := by omega
    have p0 : ∀ f, waysP rows x y b (0 + 1) f = waysP rows x y b 0 f + if (b || decide (([] : List Int) = [1])) = true then ev [(1, ((fsum rows x y [] [] : Nat) : Int))] f / ((1 : Int) : Rat) else 0 := fun f => by
      unfold waysP
      rw [ev_cons, ev_nil]
      cases b <;> simp <;> grind
    rcases o with ⟨a0, rfl⟩ | ⟨a0, x1, ts, v, rfl, F1, N1, d1, ev1⟩
    · match i, hi with
      | 0, hi =>
        cases hi
        exact ⟨[], x0, _, _, rfl, rfl, F0, nf_one (by omega) hC60, Int.one_dvd _, valV_pos (p := (kI [], V.ref x0)) rfl, .inl rfl, p0⟩
    · match i, hi with
      | 0, hi =>
        cases hi
        exact ⟨[], x0, _, _, rfl, rfl, F0, nf_one (by omega) hC60, Int.one_dvd _, valV_pos (p := (kI [], V.ref x0)) rfl, .inl rfl, p0⟩
      | 1, hi =>
        cases hi
        refine ⟨[1], x1, ts, v, rfl, rfl, F1, N1, by rw [hM1 a0]; exact d1, ?_, .inr rfl, fun f => ?_⟩
        · rw [valV_neg (fun z => by cases kI_inj z)]
          exact valV_pos (p := (kI [1], V.ref x1)) rfl
        · rw [ev1 f]
          unfold waysP
          cases b <;> simp <;> grind
  have hlenk : kvs.length = 1 ∧ fsum rows x y [] [1] = 0 ∨ kvs.length = 2 := by
    obtain ⟨x0, F0, o⟩ := hok5
    rcases o with ⟨a0, rfl⟩ | ⟨a0, x1, ts, v, rfl, _⟩
    · exact .inl ⟨rfl, a0⟩
    · exact .inr rfl
  refine ⟨fd, .dT kvs, hfd5, True.intro, fun od => ?_⟩
  refine ⟨_, rfl, fd, od, rfl, .inr ⟨kvs, upd_same, ?_⟩⟩
  refine forJ (fun i σ2 G => ∃ zf ts v o6 o7, σ2 = [some (.ref u), some (.ref sa), some (.ref ea), some (.ref fd), some (.ref l), some (.ref zf), o6, o7] ∧ But fd H5 G ∧ G fd = some (.frz od (.dT kvs)) ∧ FormV K G (.ref zf) ts v ∧ Nf ts v ∧ v ∣ M ∧ ∀ f, ev ts f / (v : Rat) = waysP rows x y b i f) kvs.length (fun i v H' H'' => H'' = H' ∧ ∃ (k : List Key) (vv : V) (q : Addr), kvs[i]? = some (k, vv) ∧ v = .ref q ∧ H' q = some (.tup (k.map kV))) (fun j σ2 G2 p h => ⟨by obtain ⟨_, _, _, _, _, _, _, p, _⟩ := p; exact p, h⟩) (fun σ2 G2 p => ⟨by obtain ⟨_, _, _, _, _, _, _, p, _⟩ := p; exact p, Nat.le_refl _⟩) (fun i σ H' v H'' p h q => q)
    ⟨zf, [], 1, _, _, rfl, But.upd _ _ _, upd_same, formV_upd hfd5 (fun _ z => by cases z) (fun _ _ _ z => by cases z) hF0, nf_zero, Int.one_dvd _, fun f => ?_⟩ (fun j v σ2 G3 G2 hj hy hh => ?_) fun σ2 G2 hh => ?_
  · rw [ev_nil]
    unfold waysP
    simp
    grind
  · obtain ⟨eq, k, vv, q1, hk, rfl, hq1⟩ := hy
    subst eq
    obtain ⟨zf, ts, v, o6, o7, rfl, eb, hfz, Fz, Nz, dz', evz⟩ := hh
    obtain ⟨S, xk, ts2, v2, rfl, rfl, F2, N2, d2, hval, hS, hp⟩ := item j k vv hk
    rw [kI_map] at hq1
    have hl2 := eb _ _ (ne_of hl5 hfd5 (by simp)) hl5
    refine ⟨_, rfl, l, rfl, ⟨_, .of hl2⟩, fun D hD => ?_⟩
    refine lcL (fun j acc2 _ => acc2 = (((if b then [] else [(1 : Int)]).take j).map fun p => V.bl (inV (.int p) (S.map V.int)))) (xs := (if b then [] else [(1 : Int)]).map V.int) (.of hl2) hD rfl (fun j v G6 acc2 hv2 e6 hD6 hl6 hacc => ?_) fun G6 acc2 e6 hD6 hl6 hacc => ?_
    · rw [List.getElem?_map] at hv2
      obtain ⟨p, hp2, rfl⟩ := Option.map_eq_some_iff.mp hv2
      refine ⟨rfl, tYesI ⟨_, rfl, _, rfl, q1, _, rfl, .inr (.of (e6 _ _ hq1)), rfl, flat_ints S, lc_put hD e6 (.refl _) hD6 hl6 ?_ ?_⟩⟩
      · have := (List.getElem?_eq_some_iff.mp hp2).1
        cases b <;> simp at this ⊢ <;> omega
      · rw [take_succ_map hp2, hacc]
        rfl
    · rw [List.length_map, List.take_length] at hacc
      refine ⟨D, (if b then [] else [(1 : Int)]).map (fun p => inV (.int p) (S.map V.int)), rfl, .of (by rw [hD6, hacc, List.map_map]; rfl), ?_⟩
      have hall : ((if b then [] else [(1 : Int)]).map (fun p => inV (.int p) (S.map V.int))).all id = (b || decide (S = [1])) := by
        rcases hS with rfl | rfl <;> cases b <;> rfl
      rw [hall]
      have hfz6 := e6 _ _ hfz
      by_cases hc : (b || decide (S = [1])) = true
      · rw [hc]
        refine ⟨true, rfl, iteT ?_⟩
        have F2' := (formV_but eb hfd5 F2).same e6
        obtain ⟨z', dz2, a2, us2, ez, hz6, _, _⟩ := id (Fz.same e6)
        cases ez
        obtain ⟨k', dk2, a3, us3, ez, hk6, _, _⟩ := id F2'
        cases ez
        refine ⟨_, rfl, _, rfl, _, rfl, fd, .ref xk, rfl, .inr ⟨kvs, kI S, q1, .inr ⟨od, hfz6⟩, rfl, by rw [kI_map]; exact e6 _ _ hq1, hval.symm⟩, zf, xk, dz2, _, dk2, _, rfl, rfl, hz6, hk6, ⟨zf, xk, ts, v, ts2, v2, M, rfl, Fz.same e6, F2', Nz, N2, hM0, by omega, dz', d2, fun z3 ts3 u3 G7 e7 F3 N3 d3 ev3 => ?_⟩⟩
        refine ⟨z3, ts3, u3, _, _, rfl, fun b o n h => e7 _ _ (e6 _ _ (eb b o n h)), e7 _ _ hfz6, F3, N3, d3, fun f => ?_⟩
        rw [ev3 f, evz f, hp f, if_pos hc]
      · have hc0 : (b || decide (S = [1])) = false := by simpa using hc
        rw [hc0]
        refine ⟨false, rfl, iteF ?_⟩
        refine ⟨zf, ts, v, _, _, rfl, fun b o n h => e6 _ _ (eb b o n h), hfz6, Fz.same e6, Nz, dz', fun f => ?_⟩
        rw [evz f, hp f, if_neg hc]
        grind
  · obtain ⟨zf, ts, v, o6, o7, rfl, eb, hfz, Fz, Nz, dz', evz⟩ := hh
    refine ⟨hfz, ?_⟩
    have eS : Same H5 (upd G2 fd (.dT kvs)) := fun b o h => by
      by_cases z : b = fd
      · subst z; rw [upd_same]; rw [hfd5] at h; exact h
      · rw [upd_ne z]; exact eb _ _ z h
    refine ⟨_, rfl, ?_⟩
    refine q zf ts v M _ (E5.same eS) (formV_upd hfz (fun _ z => by cases z) (fun _ _ _ z => by cases z) Fz) Nz hM0 hM60 dz' fun f => ?_
    rw [evz f]
    unfold waysP waysV
    rcases hlenk with ⟨h, h0⟩ | h
    · rw [h, h0]
      cases b <;> simp <;> grind
    · rw [h]
      cases b <;> simp
end
end SD
end
section
set_option Elab.async false
set_option linter.all false
set_option maxRecDepth 100000
set_option maxHeartbeats 4000000
namespace SD
open PySem PySem.Spec PyProof.Rows L2 LamX NdefX
/-! ### f(k = v, ..) -/
section
variable {X : Cx} {CX : CXT} {k : Nat} {f : Addr} {fd : FuncData} {ps ks : List Str} {sp : Sp} {E : XK} {x : Str} {p pos : Pos} {kws : List Keyword} {tk : TA} {g : List Value → List Value → List Value} {gV : List V → List V → List V}
theorem pe_callKW0 (F : FnOk X.prog X.w X.K X.mg X.base CX k f fd ps sp) (hr : Room k X.A) (hg : Gl X x) (hm : X.mg x = some (.ref f)) (hk : PySem.W.keepIn X.K (.ref f) = true) (hb : KBn X.K fd ps 0 ks g gV) (hx : Passes CX X E)
    (hkw : PK X kws tk) (hall : (backToKw pos (keywordEach kws X.env)).all (·.1.isSome) = true := by rfl) (hks : (backToKw pos (keywordEach kws X.env)).filterMap (·.1) = ks := by rfl)
    (hdb : (x == ("__debug__" : Str)) = false := by decide)
    (hpl : ((backTo pos (starEach [] X.env)).any (·.1) || (backToKw pos (keywordEach kws X.env)).any (·.1.isNone)) = false := by rfl) :
    PE X (.Call (.Name x p) [] kws pos) (L2.tCallN 0 ks.length sp gV E tNil tk) := by
  refine ⟨fun pins s σ H Q I h => ?_⟩
  refine wpAny_Call_Name_kw (ld_glob I hg hm ?_ hdb)
  refine PySem.W.callWith_KW0 (h₀ := X.base) I.ok.mod.kin hk hall ?_ hpl
  refine thn (hkw.run pos pins s σ H _ I h) fun ws s2 ⟨zs, H2, I2, rz, l1, l2, q2⟩ => ⟨I2.kIn, ?_⟩
  rw [hks]
  exact run_fnN (us := []) (vs := []) F hr hb hx I2 .nil rz rfl l2 q2
end
def kwG {α : Type} (_ zs : List α) : List α := match zs with
  | [o, n, s, u] => [u, s, n, o]
  | _ => []
theorem kb_ways_ahead {K : PySem.W.Frag} {f : Addr} {fd : FuncData} (F : L2.Fun K "ways_ahead" "ways_ahead" (top 84) f fd) : KBn K fd ["urn", "start", "one", "other"] 0 ["other", "one", "start", "urn"] kwG kwG := by
  obtain ⟨oc, od, kV, doc, pm, an, cdv, ct, osl, rfl, lk, hcd⟩ := F.ex
  refine ⟨fun s us ws _ h1 h2 => ?_, fun {vs us zs ws} r1 r2 => ?_⟩
  · match us, ws, h1, h2 with
    | [], [a, b, c, d], _, _ => exact .of_eq rfl
  · match r2 with
    | .nil => exact .nil
    | .cons a .nil => exact .nil
    | .cons a (.cons b .nil) => exact .nil
    | .cons a (.cons b (.cons c .nil)) => exact .nil
    | .cons a (.cons b (.cons c (.cons d .nil))) => exact .cons d (.cons c (.cons b (.cons a .nil)))
    | .cons a (.cons b (.cons c (.cons d (.cons e t)))) => exact .nil
/-! ### ways_ahead -/
theorem ix_get {o : List Str} {x : Str} (h : x ∈ o) : o[o.idxOf x]? = some x := by
  rw [List.getElem?_eq_getElem (List.idxOf_lt_length_iff.mpr h)]
  simp
theorem ix_min {o : List Str} {x : Str} (m : Nat) (h : m < o.idxOf x) : o[m]? ≠ some x := fun z => by
  obtain ⟨h1, h2⟩ := List.getElem?_eq_some_iff.mp z
  have h3 := List.not_of_lt_findIdx (p := (· == x)) h
  simp [h2] at h3
theorem tIf_tupF {tA : TT} {la lb : TA} {σ : L2.St} {H : Hp} {Q : VK} {b : Bool} (xs : List V) (hA : ∀ Z : Bool → Hp → Prop, Z b H → tA σ H Z) (ht : b = true → ∀ Z : List V → Hp → Prop, Z xs H → la σ H Z) (hf : b = false → ∀ Z : List V → Hp → Prop, Z xs H → lb σ H Z) (hl : xs.length ≤ sizeLine)
    (q : ∀ p o, H p = none → o.dict = none → Q (.ref p) (upd H p (.frz o (.tup xs)))) : tIf tA (tTupF la) (tTupF lb) σ H Q := by
  refine hA _ ?_
  cases b with
  | true => exact ht rfl _ ⟨hl, q⟩
  | false => exact hf rfl _ ⟨hl, q⟩
theorem seq_tupF {tA : TT} {la lb : TA} {g : TG} {rest : TS} {D : Ends} {σ : L2.St} {H : Hp} {b : Bool} (xs : List V) (hA : ∀ Z : Bool → Hp → Prop, Z b H → tA σ H Z) (ht : b = true → ∀ Z : List V → Hp → Prop, Z xs H → la σ H Z) (hf : b = false → ∀ Z : List V → Hp → Prop, Z xs H → lb σ H Z) (hl : xs.length ≤ sizeLine)
    (q : ∀ p o, H p = none → o.dict = none → g (.ref p) σ (upd H p (.frz o (.tup xs))) fun σ' H' => rest D σ' H') : tSeq (tAsg (tIf tA (tTupF la) (tTupF lb)) g) rest D σ H :=
  tIf_tupF xs hA ht hf hl q
def sp_ways_ahead (K : PySem.W.Frag) (Pt : Addr) : Sp := fun vs H Q _ => ∃ (u sa : Addr) (rows : List Row) (th o : List Str) (x y : Str), vs = [.ref u, .ref sa, .str x, .str y] ∧ TabH Pt H ∧ UrnV K H (.ref u) rows th ∧ GoodR rows th ∧ x ∈ th ∧ y ∈ th ∧ y ≠ x ∧
  FTup H sa (nm o) ∧ o.Perm th ∧ ∀ p q, Asc [p, q] → [p, q].Perm [x, y] → WaysQ K Pt H (pairRows rows p q) x y (decide (o.idxOf x < o.idxOf y)) Q
abbrev s_ways_ahead : Stmt := top 84
abbrev N_ways_ahead : List Str := ["urn", "start", "one", "other", "pair"]
theorem sc_ways_ahead : FnScope N_ways_ahead ["urn", "start", "one", "other"] (defScope s_ways_ahead) := ⟨rfl, rfl, rfl, by decide +kernel, rfl, by decide +kernel, by decide +kernel⟩
section
variable {P : Program} {w : World} {K : PySem.W.Frag} {mg : Str → Option Value} {base : Heap} {c Pt : Addr}
theorem fn_ways_ahead (T : Tops K mg) (C : TopC K mg base c Pt) {f : Addr} {fd : FuncData} (F : L2.Fun K "ways_ahead" "ways_ahead" (top 84) f fd) : FnOk P w K mg base CX0 12 f fd ["urn", "start", "one", "other"] (sp_ways_ahead K Pt) := by
  refine F.ok sc_ways_ahead (fun vs H Q E h => ?_) fun cdv A outer s H vs Q E hr h => ?_
  · obtain ⟨_, _, _, _, _, _, _, rfl, _⟩ := h; rfl
  obtain ⟨u, sa, rows, th, o, x, y, rfl, hT, hu, G', mx, my, hyx, hs, hperm, q⟩ := h
  refine ⟨_, (pss_cons (ps_expr (pe_cl (cl_check_urn T) hr (by decide) rfl (pa_cons (pv 0) pa_nil)))
      (pss_cons (ps_expr (pe_cl (cl_check_order T) hr (by decide) rfl (pa_cons (pv 1) (pa_cons (pe_pr (pr_Ut T) hr (by decide) (pv 0) rfl) pa_nil))))
      (pss_cons (ps_expr (pe_cl (cl_check_pair T) hr (by decide) rfl (pa_cons (pv 2) (pa_cons (pv 3) (pa_cons (pe_pr (pr_Ut T) hr (by decide) (pv 0) rfl) pa_nil)))))
      (pss_cons (ps_set (i := 4) sc_ways_ahead.nd rfl (Or.inl rfl) (pe_ifExp (pt_cmpR op_lt (pe_fm PySem.F.plainAttrs_tuple PySem.F.slot_tuple_index PySem.F.type_tuple_index (mt_tup_indexK (K := K) rfl) (pv 1) (pa_cons (pv 2) pa_nil)) (pe_fm PySem.F.plainAttrs_tuple PySem.F.slot_tuple_index PySem.F.type_tuple_index (mt_tup_indexK (K := K) rfl) (pv 1) (pa_cons (pv 3) pa_nil)) (nomark _)) (pe_tupF (pa_cons (pv 2) (pa_cons (pv 3) pa_nil))) (pe_tupF (pa_cons (pv 3) (pa_cons (pv 2) pa_nil)))))
      (pss_one (ps_ret (pe_cl (cl_ways T C) hr (by decide) rfl (pa_cons (pe_mt (mt_Urn_only T) hr (by decide) (pv 0) (pa_cons (pe_callTy (call_tuple_ofK (K := K) rfl) (by rfl) (T.nn "tuple") rfl (pa_cons (pe_callB (cr_sortedSK (K := K) rfl) (by rfl) (T.nn "sorted") rfl (pa_cons (pe_lst (pa_cons (pv 2) (pa_cons (pv 3) pa_nil))) pa_nil)) pa_nil)) pa_nil)) (pa_cons (pv 4) (pa_cons (pe_tup (pa_cons (pv 2) (pa_cons (pv 3) pa_nil))) pa_nil)))))))))) , ?_⟩
  obtain ⟨u', dx, rl, nd, us, eu, hux, hrl, hp, _⟩ := id hu
  cases eu
  have hnd : o.Nodup := hperm.nodup_iff.mpr (G'.asc.imp fun h e => by subst e; exact List.lt_irrefl _ h)
  have mxo : x ∈ o := hperm.mem_iff.mpr mx
  have myo : y ∈ o := hperm.mem_iff.mpr my
  refine ⟨_, rfl, u, rows, th, rfl, hu, ?_⟩
  refine ⟨_, rfl, _, rfl, u, dx, _, rfl, hux, ⟨u, rows, th, rfl, hu, fun n hn => ⟨sa, n, o, th, rfl, ?_, .inl (.of hn), hnd, fun z m => hperm.mem_iff.mp m, hperm.length_eq, fun H1 e1 => ?_⟩⟩⟩
  · obtain ⟨o, h, _⟩ := hs; exact .inr ⟨o, h⟩
  refine ⟨_, rfl, _, rfl, _, rfl, u, dx, _, rfl, e1 _ _ hux, ⟨u, rows, th, rfl, hu.same e1, fun n hn => ⟨x, y, n, th, rfl, .inl (.of hn), mx, my, hyx, ?_⟩⟩⟩
  have hs1 := hs.same e1
  dsimp only
  refine seq_tupF (b := decide (o.idxOf x < o.idxOf y)) (nm (if decide (o.idxOf x < o.idxOf y) then [x, y] else [y, x])) (fun Z hZ => ?_) (fun hb Z hZ => ?_) (fun hb Z hZ => ?_) ?_ fun pa po npa hpo => ?_
  · refine ⟨_, rfl, ⟨sa, _, rfl, hs1⟩, _, rfl, sa, o, x, _, rfl, rfl, hs1.sq, ix_get mxo, ix_min, ?_⟩
    refine ⟨_, rfl, ⟨sa, _, rfl, hs1⟩, _, rfl, sa, o, y, _, rfl, rfl, hs1.sq, ix_get myo, ix_min, _, _, rfl, rfl, _, rfl, ?_⟩
    have : decide (((o.idxOf x : Nat) : Int) < ((o.idxOf y : Nat) : Int)) = decide (o.idxOf x < o.idxOf y) := by
      by_cases h : o.idxOf x < o.idxOf y <;> simp [h]
    rw [this]
    exact hZ
  · rw [hb] at hZ
    exact ⟨_, rfl, _, rfl, hZ⟩
  · rw [hb] at hZ
    exact ⟨_, rfl, _, rfl, hZ⟩
  · cases decide (o.idxOf x < o.idxOf y) <;> (show 2 ≤ sizeLine; decide)
  generalize hbb : decide (o.idxOf x < o.idxOf y) = b at *
  have e2 := e1.trans (same_new (o := .frz po (.tup (nm (if b = true then [x, y] else [y, x])))) npa)
  have hpa : FTup (upd H1 pa (.frz po (.tup (nm (if b = true then [x, y] else [y, x]))))) pa (nm (if b = true then [x, y] else [y, x])) := ⟨po, upd_same, hpo⟩
  generalize upd H1 pa (.frz po (.tup (nm (if b = true then [x, y] else [y, x])))) = H2 at *
  refine ⟨_, rfl, u, dx, _, rfl, e2 _ _ hux, ?_⟩
  refine ⟨rfl, _, rfl, _, rfl, by show 2 ≤ sizeLine; decide, fun l1 nl1 => ⟨l1, [x, y], rfl, .of upd_same, by simp, fun ys l2 hpy hsy nl2 => ?_⟩⟩
  have e3 : Same H2 (upd H2 l1 (.lst (nm [x, y]))) := same_new nl1
  have e4 := e3.trans (same_new (o := .lst (ys.map V.str)) nl2)
  have hasc : Asc ys := asc_of hsy (hpy.nodup_iff.mpr (by simp [hyx.symm]))
  obtain ⟨p, q', rfl⟩ : ∃ p q', ys = [p, q'] := by
    have := hpy.length_eq
    match ys, this with
    | [p, q'], _ => exact ⟨p, q', rfl⟩
  have sub : ∀ z ∈ [p, q'], z ∈ th := fun z m => by
    have := hpy.mem_iff.mp m
    simp at this
    rcases this with h | h <;> rw [h] <;> assumption
  have mp := sub p (by simp)
  have mq := sub q' (by simp)
  refine ⟨l2, _, rfl, .inl ⟨.of upd_same, fun tp htp => ?_⟩⟩
  have e5 := e4.trans (same_new (o := .tup ([p, q'].map V.str)) htp)
  refine ⟨u, tp, rows, th, p, q', rfl, hu.same (e2.trans e5), G', upd_same, hasc, mp, mq, fun u2 H3 e6 hu2 => ?_⟩
  have e7 := e2.trans (e5.trans e6)
  refine ⟨_, rfl, _, rfl, _, rfl, by show 2 ≤ sizeLine; decide, fun ea nea => ?_⟩
  have e8 : Same H3 (upd H3 ea (.tup (nm [x, y]))) := same_new nea
  refine ⟨u2, pa, ea, pairRows rows p q', [p, q'], x, y, b, rfl, hT.ext (e7.trans e8), hu2.same e8, pairRows_good G' hasc mp mq, hpy.mem_iff.mpr (by simp), hpy.mem_iff.mpr (by simp), rfl, hyx.symm, hpa.same (e5.trans (e6.trans e8)), upd_same, ?_⟩
  intro z ts v M H' hE
  exact q p q' hasc hpy z ts v M H' ((Ext.of hT (e7.trans e8)).trans hE)
theorem cl_ways_ahead (T : Tops K mg) (C : TopC K mg base c Pt) : Cl P w K mg base 12 "ways_ahead" ["urn", "start", "one", "other"] (sp_ways_ahead K Pt) := by
  obtain ⟨f, fd, F, hm⟩ := T.f_ways_ahead.ex
  exact ⟨f, fd, fn_ways_ahead T C F, hm, F.kp, F.binds (fun _ _ _ _ _ _ us hl => match us, hl with | [_, _, _, _], _ => rfl)⟩
/-- ways_ahead(other=.., one=.., start=.., urn=..) -/
theorem pe_ways_aheadK {X : Cx} {j : Nat} {p pos : Pos} {kws : List Keyword} {tk : TA} (T : Tops X.K X.mg) (C : TopC X.K X.mg X.base c Pt) (hr : Room j X.A) (hk : 12 ≤ j) (hg : Gl X "ways_ahead") (hkw : PK X kws tk)
    (hall : (backToKw pos (keywordEach kws X.env)).all (·.1.isSome) = true := by rfl) (hks : (backToKw pos (keywordEach kws X.env)).filterMap (·.1) = (["other", "one", "start", "urn"] : List Str) := by rfl)
    (hpl : ((backTo pos (starEach [] X.env)).any (·.1) || (backToKw pos (keywordEach kws X.env)).any (·.1.isNone)) = false := by rfl) :
    PE X (.Call (.Name "ways_ahead" p) [] kws pos) (L2.tCallN 0 4 (sp_ways_ahead X.K Pt) kwG E0 tNil tk) := by
  obtain ⟨f, fd, F, hm⟩ := T.f_ways_ahead.ex
  exact pe_callKW0 (fn_ways_ahead T C F) (hr.mono hk) hg hm F.kp (kb_ways_ahead F) pass0 hkw hall hks (by decide) hpl
end
end SD
end
section
set_option Elab.async false
set_option linter.all false
set_option maxRecDepth 100000
set_option maxHeartbeats 4000000
/-! ### the law's helpers: draws -/
namespace SD
open PySem PySem.Spec PyProof.Rows L2 LamX NdefX
abbrev s_law_purse : Stmt := top 86
abbrev N_law_purse : List Str := ["_law_script", "_law_spot", "_law_cell", "_law_seed", "_law_x"]
theorem sc_law_purse : FnScope N_law_purse ["_law_script", "_law_spot"] (defScope s_law_purse) := ⟨rfl, rfl, rfl, by decide +kernel, rfl, by decide +kernel, by decide +kernel⟩
abbrev s_law_draw : Stmt := top 87
abbrev N_law_draw : List Str := ["_law_purse_here", "_law_many", "_law_digit"]
theorem sc_law_draw : FnScope N_law_draw ["_law_purse_here", "_law_many"] (defScope s_law_draw) := ⟨rfl, rfl, rfl, by decide +kernel, rfl, by decide +kernel, by decide +kernel⟩
abbrev s_law_things : Stmt := top 88
abbrev N_law_things : List Str := ["_law_purse_here", "_law_many", "_law_pool", "_law_found", "_law_turn"]
theorem sc_law_things : FnScope N_law_things ["_law_purse_here", "_law_many"] (defScope s_law_things) := ⟨rfl, rfl, rfl, by decide +kernel, rfl, by decide +kernel, by decide +kernel⟩
abbrev s_law_order : Stmt := top 89
abbrev N_law_order : List Str := ["_law_purse_here", "_law_things_here", "_law_left", "_law_found", "_law_turn"]
theorem sc_law_order : FnScope N_law_order ["_law_purse_here", "_law_things_here"] (defScope s_law_order) := ⟨rfl, rfl, rfl, by decide +kernel, rfl, by decide +kernel, by decide +kernel⟩
abbrev s_law_ranked : Stmt := top 90
abbrev N_law_ranked : List Str := ["_law_things_here", "_law_ranks", "_law_found", "_law_rank", "_law_group", "_law_k"]
theorem sc_law_ranked : FnScope N_law_ranked ["_law_things_here", "_law_ranks"] (defScope s_law_ranked) := ⟨rfl, rfl, rfl, by decide +kernel, rfl, by decide +kernel, by decide +kernel⟩
abbrev s_law_groups : Stmt := top 91
abbrev N_law_groups : List Str := ["_law_purse_here", "_law_things_here", "_law_most", "_law_thing"]
theorem sc_law_groups : FnScope N_law_groups ["_law_purse_here", "_law_things_here"] (defScope s_law_groups) := ⟨rfl, rfl, rfl, by decide +kernel, rfl, by decide +kernel, by decide +kernel⟩
abbrev s_law_text : Stmt := top 92
abbrev N_law_text : List Str := ["_law_groups_here", "_law_group"]
theorem sc_law_text : FnScope N_law_text ["_law_groups_here"] (defScope s_law_text) := ⟨rfl, rfl, rfl, by decide +kernel, rfl, by decide +kernel, by decide +kernel⟩
abbrev s_law_done : Stmt := top 93
abbrev N_law_done : List Str := ["_law_groups_here", "_law_order_here", "_law_found", "_law_group", "_law_thing"]
theorem sc_law_done : FnScope N_law_done ["_law_groups_here", "_law_order_here"] (defScope s_law_done) := ⟨rfl, rfl, rfl, by decide +kernel, rfl, by decide +kernel, by decide +kernel⟩
abbrev s_law_rows : Stmt := top 94
abbrev N_law_rows : List Str := ["_law_purse_here", "_law_things_here", "_law_most", "_law_found", "_law_turn", "_law_groups_here", "_law_thing", "_law_row"]
theorem sc_law_rows : FnScope N_law_rows ["_law_purse_here", "_law_things_here", "_law_most"] (defScope s_law_rows) := ⟨rfl, rfl, rfl, by decide +kernel, rfl, by decide +kernel, by decide +kernel⟩
abbrev s_law_urn_text : Stmt := top 95
abbrev N_law_urn_text : List Str := ["_law_rows_here", "_law_groups_here", "_law_tickets"]
theorem sc_law_urn_text : FnScope N_law_urn_text ["_law_rows_here"] (defScope s_law_urn_text) := ⟨rfl, rfl, rfl, by decide +kernel, rfl, by decide +kernel, by decide +kernel⟩
abbrev s_law_total : Stmt := top 96
abbrev N_law_total : List Str := ["_law_rows_here", "_law_groups_here", "_law_tickets"]
theorem sc_law_total : FnScope N_law_total ["_law_rows_here"] (defScope s_law_total) := ⟨rfl, rfl, rfl, by decide +kernel, rfl, by decide +kernel, by decide +kernel⟩
abbrev s_law_power : Stmt := top 97
abbrev N_law_power : List Str := ["_law_base", "_law_n", "_law_found", "_law_turn"]
theorem sc_law_power : FnScope N_law_power ["_law_base", "_law_n"] (defScope s_law_power) := ⟨rfl, rfl, rfl, by decide +kernel, rfl, by decide +kernel, by decide +kernel⟩
abbrev s_law_sum : Stmt := top 98
abbrev N_law_sum : List Str := ["_law_terms", "_law_n", "_law_coefficient", "_law_base"]
theorem sc_law_sum : FnScope N_law_sum ["_law_terms", "_law_n"] (defScope s_law_sum) := ⟨rfl, rfl, rfl, by decide +kernel, rfl, by decide +kernel, by decide +kernel⟩
abbrev s_law_tells : Stmt := top 99
abbrev N_law_tells : List Str := ["_law_form", "_law_n", "_law_whole", "_law_rest"]
theorem sc_law_tells : FnScope N_law_tells ["_law_form", "_law_n"] (defScope s_law_tells) := ⟨rfl, rfl, rfl, by decide +kernel, rfl, by decide +kernel, by decide +kernel⟩
theorem pow_bd {b : Int} {n : Nat} (h0 : 0 ≤ b) (h1 : b ≤ 60) (hn : n ≤ 6) : 0 ≤ b ^ n ∧ b ^ n ≤ 46656000000 := by
  obtain ⟨k, rfl⟩ := Int.eq_ofNat_of_zero_le h0
  have h2 : k ^ n ≤ 60 ^ n := Nat.pow_le_pow_left (by omega) n
  have h3 : 60 ^ n ≤ 60 ^ 6 := Nat.pow_le_pow_right (by decide) hn
  have h4 : k ^ n ≤ 46656000000 := Nat.le_trans h2 (Nat.le_trans h3 (by decide))
  have h5 : ((k ^ n : Nat) : Int) = (k : Int) ^ n := Int.natCast_pow k n
  rw [← h5]
  omega
theorem pe_joinK {X : Cx} {K : PySem.W.Frag} {o e : Expr} {to te : TE} {apos pos : Pos} (h : X.K = K) (ho : PE X o to) (he : PE X e te) (hs : starEach [e] X.env = [(false, eval e X.env)] := by rfl) (hbase : attributeBase o "join" X.env (eval o X.env) = eval o X.env := by rfl) (hline : (apos.endLine == pos.line) = true := by rfl) :
    PE X (.Call (.Attribute o "join" apos) [e] [] pos) (tM1 (fun x xs H Q => ∃ a p, ∃ ys : List Str, x = .str a ∧ xs = [.ref p] ∧ (SqL K H p (ys.map V.str) ∨ SqT K H p (ys.map V.str)) ∧ (ys.map (·.length)).sum + ys.length * a.length ≤ 16777216 ∧ Q (.str (Txt.join a ys)) H) to te) := by subst h; exact pe_join ho he hs hbase hline
theorem seq_tIf {tA : TT} {ta tb : TE} {g : TG} {rest : TS} {D : Ends} {σ : L2.St} {H : Hp} {c : Bool} {v : V} (hA : ∀ Z : Bool → Hp → Prop, Z c H → tA σ H Z) (ht : c = true → ∀ Z : VK, Z v H → ta σ H Z) (hf : c = false → ∀ Z : VK, Z v H → tb σ H Z)
    (q : g v σ H fun σ' H' => rest D σ' H') : tSeq (tAsg (tIf tA ta tb) g) rest D σ H := tIf_pick hA ht hf q
theorem lst_tIf {tA : TT} {ta tb : TE} {t : TA} {D : Ends} {σ : L2.St} {H : Hp} {c : Bool} {v : V} (hA : ∀ Z : Bool → Hp → Prop, Z c H → tA σ H Z) (ht : c = true → ∀ Z : VK, Z v H → ta σ H Z) (hf : c = false → ∀ Z : VK, Z v H → tb σ H Z)
    (q : t σ H fun xs H1 => (v :: xs).length ≤ sizeLine ∧ ∀ p, H1 p = none → D.rt (.ref p) (upd H1 p (.lst (v :: xs)))) : tRet (tLst (tCons (tIf tA ta tb) t)) D σ H := tIf_pick hA ht hf q
def PurseAt (H : Hp) (p : Addr) : Prop := ∃ c d : Int, H p = some (.lst [.int c, .int d]) ∧ 0 ≤ c ∧ 0 ≤ d ∧ d < 2147483647
def psum (ts : List Trm) (n : Nat) : Int := (ts.map fun t => t.1 * t.2 ^ n).sum
def sp_law_purse (K : PySem.W.Frag) : Sp := fun vs H Q _ => ∃ (a : Addr) (ns : List Int) (k : Nat), vs = [.ref a, .int k] ∧ SqL K H a (ns.map V.int) ∧ k ≤ 3 ∧ ns.length ≤ sizeLine ∧ ∀ p H', Same H H' → H p = none → PurseAt H' p → Q (.ref p) H'
def sp_law_draw : Sp := fun vs H Q _ => ∃ (p : Addr) (m : Nat), vs = [.ref p, .int m] ∧ PurseAt H p ∧ 0 < m ∧ m < 1000 ∧ ∀ (j : Nat) H', But p H H' → PurseAt H' p → j < m → Q (.int j) H'
def sp_law_power : Sp := fun vs H Q _ => ∃ (b : Int) (n : Nat), vs = [.int b, .int n] ∧ 0 ≤ b ∧ b ≤ 60 ∧ n ≤ 6 ∧ Q (.int (b ^ n)) H
def sp_law_sum : Sp := fun vs H Q _ => ∃ (a : Addr) (us : List V) (ts : List Trm) (n : Nat), vs = [.ref a, .int n] ∧ H a = some (.tup us) ∧ Paired (TermV H) us ts ∧ Desc ts ∧ n ≤ 6 ∧ ∀ H', Same H H' → Q (.int (psum ts n)) H'
def sp_law_tells (K : PySem.W.Frag) : Sp := fun vs H Q _ => ∃ (x : Addr) (ts : List Trm) (u : Int) (n : Nat) (k : Int), vs = [.ref x, .int n] ∧ FormV K H (.ref x) ts u ∧ Desc ts ∧ 0 < u ∧ u < 1073741824 ∧ n ≤ 6 ∧ psum ts n = k * u ∧ ∀ H', Same H H' → Q (.int k) H'
def sp_law_total : Sp := fun vs H Q _ => ∃ (l : Addr) (us : List V) (rows : List Row), vs = [.ref l] ∧ H l = some (.lst us) ∧ Paired (RowV H) us rows ∧ rows.length ≤ 8 ∧ ∀ H', Same H H' → Q (.int (total rows : Nat)) H'
def sp_law_text : Sp := fun vs H Q _ => ∃ (a : Addr) (gs : Gs), vs = [.ref a] ∧ GrpV H (.ref a) gs ∧ GoodGs gs ∧ ∀ H', Same H H' → Q (.str (gsTxt gs)) H'
def sp_law_urn_text : Sp := fun vs H Q _ => ∃ (l : Addr) (us : List V) (rows : List Row), vs = [.ref l] ∧ H l = some (.lst us) ∧ Paired (RowV H) us rows ∧ rows.length ≤ 8 ∧ (∀ r ∈ rows, GoodGs r.1 ∧ 1 ≤ r.2 ∧ r.2 ≤ 9) ∧ ∀ H', Same H H' → Q (.str (urnTxt rows)) H'
section
variable {P : Program} {w : World} {K : PySem.W.Frag} {mg : Str → Option Value} {base : Heap}
theorem cl_law_power (T : Tops K mg) : Cl P w K mg base 1 "_law_power" ["_law_base", "_law_n"] sp_law_power := by
  refine .of T.f_law_power sc_law_power (fun _ _ _ _ _ _ us hl => match us, hl with | [_, _], _ => rfl) (fun vs H Q E h => ?_) fun f cdv A outer s H vs Q E hr h => ?_
  · obtain ⟨_, _, rfl, _⟩ := h; rfl
  obtain ⟨b, n, rfl, h0, h60, hn, q⟩ := h
  refine ⟨_, (pss_cons (ps_set (i := 2) sc_law_power.nd rfl (Or.inl rfl) pe_int)
      (pss_cons (ps_for PassesOwn.never rfl (pi_range1 (by rfl) (T.nn "range") (pa_cons (pv 1) pa_nil)) (pg_name (i := 3) sc_law_power.nd rfl (Or.inl rfl))
       (pss_one (ps_set (i := 2) sc_law_power.nd rfl (Or.inl rfl) (pe_op op_mul (pv 2) (pv 0)))))
      (pss_one (ps_ret (pv 2))))) , ?_⟩
  refine ⟨_, rfl, _, rfl, by omega, by omega, ?_⟩
  refine for_range (lo := 0) (n := n) (fun i σ' G => ∃ o, σ' = [some (.int b), some (.int n), some (.int (b ^ i)), o] ∧ G = H) ⟨none, by rw [Int.pow_zero]; rfl, rfl⟩ (fun i σ' G hi hh => ?_) fun σ' G hh => ?_
  · obtain ⟨o, rfl, rfl⟩ := hh
    refine ⟨_, rfl, _, rfl, _, _, rfl, rfl, .inr ⟨by omega, by omega⟩, some (.int (0 + (i : Nat))), ?_, rfl⟩
    rw [Int.pow_succ]
    rfl
  · obtain ⟨o, rfl, rfl⟩ := hh
    exact ⟨_, rfl, q⟩
theorem cl_law_draw (T : Tops K mg) : Cl P w K mg base 1 "_law_draw" ["_law_purse_here", "_law_many"] sp_law_draw := by
  refine .of T.f_law_draw sc_law_draw (fun _ _ _ _ _ _ us hl => match us, hl with | [_, _], _ => rfl) (fun vs H Q E h => ?_) fun f cdv A outer s H vs Q E hr h => ?_
  · obtain ⟨_, _, rfl, _⟩ := h; rfl
  obtain ⟨p, m, rfl, ⟨c, d, hp, c0, d0, d1⟩, hm0, hm1, q⟩ := h
  refine ⟨_, (pss_cons (ps_if (pt_cmpR op_gt (pe_ix (ix_listK (K := K) rfl) (pv 0) pe_int (fun _ _ => rfl)) pe_int (nomark _))
       (pss_cons (ps_asg (pe_callB call_divmodW (by rfl) (T.nn "divmod") rfl (pa_cons (pe_ix (ix_listK (K := K) rfl) (pv 0) pe_int (fun _ _ => rfl)) (pa_cons (pv 1) pa_nil))) (pg_tupK (K := K) (n := 2) rfl rfl (pgs_cons (pg_sub (pv 0) pe_int set_list) (pgs_cons (pg_name (i := 2) sc_law_draw.nd rfl (Or.inl rfl)) pgs_nil))))
      (pss_one (ps_ret (pv 2))))
       pss_nil)
      (pss_cons (ps_asg (pe_op op_mod (pe_callTy call_int1 (by rfl) (T.nn "int") rfl (pa_cons (pe_op op_add (pe_op op_mul (pe_ix (ix_listK (K := K) rfl) (pv 0) pe_int (fun _ _ => rfl)) pe_int) pe_int) pa_nil)) pe_int) (pg_sub (pv 0) pe_int set_list))
      (pss_one (ps_ret (pe_op op_mod (pe_callTy call_int1 (by rfl) (T.nn "int") rfl (pa_cons (pe_op op_fdiv (pe_ix (ix_listK (K := K) rfl) (pv 0) pe_int (fun _ _ => rfl)) pe_int) pa_nil)) (pv 1)))))) , ?_⟩
  refine ⟨_, rfl, p, _, _, .int c, rfl, rfl, .of hp, rfl, _, _, rfl, rfl, decide (0 < c), rfl, ?_⟩
  by_cases hc : 0 < c
  · rw [decide_eq_true hc]
    refine iteT ?_
    refine ⟨_, rfl, p, _, _, .int c, rfl, rfl, .of hp, rfl, _, rfl, c, m, rfl, ⟨by omega, PyProof.noPylong_small (by omega)⟩, fun l nl => ?_⟩
    have e1 : Same H (upd H l (.tup [.int (c / m), .int (c % m)])) := same_new nl
    have hpl : p ≠ l := fun z => by rw [z, nl] at hp; cases hp
    refine ⟨l, _, rfl, .of upd_same, rfl, _, _, rfl, _, rfl, p, _, _, 0, rfl, rfl, e1 _ _ hp, rfl, _, _, rfl, rfl, _, rfl, ?_⟩
    have h0 := Int.emod_nonneg c (show (m : Int) ≠ 0 by omega)
    have h1 := Int.emod_lt_of_pos c (show (0 : Int) < m by omega)
    obtain ⟨j, hj⟩ := Int.eq_ofNat_of_zero_le h0
    rw [hj] at h1 ⊢
    refine q j _ (fun b o n h => ?_) ⟨c / m, d, upd_same, Int.ediv_nonneg c0 (by omega), d0, d1⟩ (by omega)
    rw [upd_ne n]
    rw [← hj]
    exact e1 _ _ h
  · rw [decide_eq_false hc]
    refine iteF ?_
    refine ⟨_, rfl, p, _, _, .int d, rfl, rfl, .of hp, rfl, _, _, rfl, rfl, .inr ⟨by decide, by decide⟩, _, _, rfl, rfl, .inl ⟨_, rfl, _, _, rfl, rfl, by show (0 : Int) < 2147483647; decide, _, rfl, p, _, _, 1, rfl, rfl, hp, rfl, ?_⟩⟩
    dsimp only
    show tRet _ _ _ (upd H p (.lst [.int c, .int ((d * 69621 + 40503) % 2147483647)]))
    have k0 := Int.emod_nonneg (d * 69621 + 40503) (show (2147483647 : Int) ≠ 0 by decide)
    have k1 := Int.emod_lt_of_pos (d * 69621 + 40503) (show (0 : Int) < 2147483647 by decide)
    generalize he : (d * 69621 + 40503) % 2147483647 = e at *
    refine ⟨_, rfl, p, _, _, .int e, rfl, rfl, .of upd_same, rfl, _, _, rfl, rfl, ⟨by decide, by decide⟩, .inl ⟨_, rfl, _, rfl, _, _, rfl, rfl, by omega, ?_⟩⟩
    have h0 := Int.emod_nonneg (e / 1024) (show (m : Int) ≠ 0 by omega)
    have h1 := Int.emod_lt_of_pos (e / 1024) (show (0 : Int) < m by omega)
    obtain ⟨j, hj⟩ := Int.eq_ofNat_of_zero_le h0
    show Q (.int (e / 1024 % m)) _
    rw [hj] at h1 ⊢
    exact q j _ (fun b o n h => by rw [upd_ne n]; exact h) ⟨c, e, upd_same, c0, k0, k1⟩ (by omega)
theorem cl_law_purse (T : Tops K mg) : Cl P w K mg base 1 "_law_purse" ["_law_script", "_law_spot"] (sp_law_purse K) := by
  refine .of T.f_law_purse sc_law_purse (fun _ _ _ _ _ _ us hl => match us, hl with | [_, _], _ => rfl) (fun vs H Q E h => ?_) fun f cdv A outer s H vs Q E hr h => ?_
  · obtain ⟨_, _, _, rfl, _⟩ := h; rfl
  obtain ⟨a, ns, k, rfl, ha, hk, hl, q⟩ := h
  refine ⟨_, (pss_cons (ps_set (i := 2) sc_law_purse.nd rfl (Or.inl rfl) (pe_ifExp (pt_cmpR op_lt (pv 1) (pe_callB (call_len_seqK (K := K) rfl) (by rfl) (T.nn "len") rfl (pa_cons (pv 0) pa_nil)) (nomark _)) (pe_ix (ix_listK (K := K) rfl) (pv 0) (pv 1) (fun _ _ => rfl)) (pe_op op_mul pe_int (pe_op op_add (pv 1) pe_int))))
      (pss_cons (ps_set (i := 3) sc_law_purse.nd rfl (Or.inl rfl) (pe_op op_add pe_int (pv 1)))
      (pss_cons (ps_for PassesOwn.never rfl (pi_listK (K := K) rfl (pe_op op_cat (pe_slice (sl_listK (K := K) rfl) (pv 0) po_none (po_some pe_int)) (pe_lst (pa_cons (pv 2) pa_nil)))) (pg_name (i := 4) sc_law_purse.nd rfl (Or.inl rfl))
       (pss_one (ps_set (i := 3) sc_law_purse.nd rfl (Or.inl rfl) (pe_op op_mod (pe_callTy call_int1 (by rfl) (T.nn "int") rfl (pa_cons (pe_op op_add (pe_op op_add (pe_op op_mul (pv 3) pe_int) (pe_op op_mod (pe_callTy call_int1 (by rfl) (T.nn "int") rfl (pa_cons (pv 4) pa_nil)) pe_int)) pe_int) pa_nil)) pe_int))))
      (pss_one (ps_ret (pe_lst (pa_cons (pe_ifExp (pt_cmpR op_ge (pe_callB call_abs (by rfl) (T.nn "abs") rfl (pa_cons (pv 2) pa_nil)) (pe_op op_pow pe_int pe_int) (nomark _)) (pe_callB call_abs (by rfl) (T.nn "abs") rfl (pa_cons (pv 2) pa_nil)) pe_int) (pa_cons (pv 3) pa_nil)))))))) , ?_⟩
  refine seq_tIf (c := decide ((k : Int) < (ns.length : Nat))) (v := .int (ns[k]?.getD (7919 * ((k : Int) + 5)))) (fun Z hZ => ?_) (fun hc Z hZ => ?_) (fun hc Z hZ => ?_) ?_
  · refine ⟨_, rfl, _, rfl, a, _, rfl, .inl ha, _, _, rfl, rfl, _, rfl, ?_⟩
    rw [List.length_map]
    exact hZ
  · refine ⟨_, rfl, _, rfl, a, _, _, .int (ns[k]?.getD (7919 * ((k : Int) + 5))), rfl, rfl, ha, ?_, hZ⟩
    have hk2 : k < ns.length := by simpa using hc
    refine atI_nat ?_
    rw [List.getElem?_map, List.getElem?_eq_getElem hk2]
    rfl
  · have hk2 : ns[k]? = none := by
      have : ¬ (k : Int) < (ns.length : Nat) := by simpa using hc
      exact List.getElem?_eq_none (by omega)
    rw [hk2] at hZ
    exact ⟨_, rfl, _, _, rfl, rfl, _, _, rfl, rfl, .inl ⟨by decide, by decide⟩, hZ⟩
  generalize ns[k]?.getD (7919 * ((k : Int) + 5)) = cell
  refine ⟨_, rfl, _, _, rfl, rfl, ?_⟩
  refine ⟨_, rfl, 5, rfl, a, _, rfl, ha, fun p1 np1 => ⟨_, rfl, by show 1 ≤ sizeLine; decide, fun p2 np2 => ?_⟩⟩
  have e1 : Same H _ := same_new (o := .lst (cutV (ns.map V.int) none (some 5))) np1
  have e2 := e1.trans (same_new (o := .lst [.int cell]) np2)
  refine ⟨p1, p2, _, _, rfl, rfl, same_new np2 _ _ upd_same, upd_same, ?_, fun p3 np3 => ?_⟩
  · have := cutV_length (ns.map V.int) none (some 5)
    have h5 : (cutV (ns.map V.int) none (some 5)).length ≤ 5 := by
      unfold cutV
      rw [List.length_take]
      rw [HT.sIx_none]
      have : HT.sIx (ns.map V.int).length (ns.map V.int).length (some (5 : Int)) ≤ 5 := by
        unfold HT.sIx
        simp
        omega
      omega
    rw [sizeLine_eq]
    show _ + 1 ≤ _
    omega
  have e3 := e2.trans (same_new (o := .lst (cutV (ns.map V.int) none (some 5) ++ [.int cell])) np3)
  refine ⟨p3, rfl, ⟨_, .of upd_same⟩, ?_⟩
  generalize hG : upd _ p3 (HO.lst (cutV (ns.map V.int) none (some 5) ++ [V.int cell])) = G0 at *
  have hp3 : G0 p3 = some (.lst (cutV (ns.map V.int) none (some 5) ++ [.int cell])) := by rw [← hG]; exact upd_same
  refine for_list (xs := cutV (ns.map V.int) none (some 5) ++ [.int cell]) (fun i σ' G => ∃ d o, σ' = [some (.ref a), some (.int k), some (.int cell), some (.int d), o] ∧ G = G0 ∧ 0 ≤ d ∧ d < 2147483647) ⟨211 + (k : Int), _, rfl, rfl, by omega, by omega⟩ (fun i σ' G _ hh => ?_) (fun i v σ' G hv hh => ?_) fun σ' G hh => ?_
  · obtain ⟨_, _, _, rfl, _⟩ := hh
    exact .of hp3
  · obtain ⟨d, o, rfl, rfl, d0, d1⟩ := hh
    obtain ⟨z, rfl⟩ : ∃ z : Int, v = .int z := by
      rcases List.mem_append.mp (List.mem_of_getElem? hv) with m | m
      · obtain ⟨z, _, e⟩ := List.mem_map.mp (List.mem_of_mem_drop (List.mem_of_mem_take m))
        exact ⟨z, e.symm⟩
      · exact ⟨cell, List.mem_singleton.mp m⟩
    refine ⟨_, rfl, _, _, rfl, rfl, .inr ⟨by decide, by decide⟩, _, rfl, .inl ⟨_, rfl, _, _, rfl, rfl, by show (0 : Int) < 2147483647; decide, _, _, rfl, rfl, _, _, rfl, rfl, .inl ⟨_, rfl, _, _, rfl, rfl, by show (0 : Int) < 2147483647; decide, ?_⟩⟩⟩
    exact ⟨_, _, rfl, rfl, Int.emod_nonneg _ (by decide), Int.emod_lt_of_pos _ (by decide)⟩
  · obtain ⟨d, o, rfl, rfl, d0, d1⟩ := hh
    dsimp only
    refine lst_tIf (c := decide ((10 : Int) ^ 18 ≤ if cell < 0 then -cell else cell)) (v := .int (if (10 : Int) ^ 18 ≤ (if cell < 0 then -cell else cell) then (if cell < 0 then -cell else cell) else 0)) (fun Z hZ => ?_) (fun hc Z hZ => ?_) (fun hc Z hZ => ?_) ?_
    · exact ⟨_, rfl, cell, rfl, 10, 18, rfl, rfl, ⟨by decide, by decide, by decide⟩, _, _, rfl, rfl, _, rfl, hZ⟩
    · rw [if_pos (by simpa using hc)] at hZ
      exact ⟨_, rfl, cell, rfl, hZ⟩
    · rw [if_neg (by simpa using hc)] at hZ
      exact hZ
    refine ⟨_, rfl, by show 2 ≤ sizeLine; decide, fun p np => ?_⟩
    refine q p _ (e3.trans (same_new np)) (e3.free np) ⟨_, _, upd_same, ?_, d0, d1⟩
    have h0 : (0 : Int) ≤ 10 ^ 18 := by decide
    split <;> omega
theorem cl_law_sum (T : Tops K mg) : Cl P w K mg base 2 "_law_sum" ["_law_terms", "_law_n"] sp_law_sum := by
  refine .of T.f_law_sum sc_law_sum (fun _ _ _ _ _ _ us hl => match us, hl with | [_, _], _ => rfl) (fun vs H Q E h => ?_) fun f cdv A outer s H vs Q E hr h => ?_
  · obtain ⟨_, _, _, _, rfl, _⟩ := h; rfl
  obtain ⟨a, us, ts, n, rfl, ha, hp, hd, hn, q⟩ := h
  refine ⟨_, (pss_one (ps_ret (pe_callB (cr_sumK (K := K) rfl rfl) (by rfl) (T.nn "sum") rfl (pa_cons (pe_lc (own := [("_law_coefficient", 2), ("_law_base", 3)]) (by rfl) sc_law_sum.nd (pi_tupK (K := K) rfl (pv 0)) (blkOk_by (own := [("_law_coefficient", 2), ("_law_base", 3)]) (N := N_law_sum) (sc := defScope s_law_sum) (by decide +kernel)) (fun _ _ _ _ _ => (pg_tupK (K := K) (n := 2) rfl rfl (pgs_cons (pg_name (i := 2) sc_law_sum.nd rfl (Or.inl rfl)) (pgs_cons (pg_name (i := 3) sc_law_sum.nd rfl (Or.inl rfl)) pgs_nil)))) (fun _ _ _ _ _ => pts_nil) (fun _ _ _ _ _ => (pe_op op_mul (pv 2) (pe_cl (cl_law_power T) hr (by decide) rfl (pa_cons (pv 3) (pa_cons (pv 1) pa_nil)))))) pa_nil)))) , ?_⟩
  have hul := paired_len hp
  have htl := hd.len
  refine ⟨_, rfl, a, rfl, ⟨_, .of ha⟩, fun D hD => ?_⟩
  refine lcT (fun j acc2 _ => acc2 = ((ts.take j).map fun t => V.int (t.1 * t.2 ^ n))) (xs := us) (.of ha) hD rfl (fun j v G6 acc2 hv2 e6 hD6 hl6 hacc => ?_) fun G6 acc2 e6 hD6 hl6 hacc => ?_
  · obtain ⟨tr, htr, ba, rfl, hba⟩ := paired_at hp hv2
    have hj : j < us.length := (List.getElem?_eq_some_iff.mp hv2).1
    have ho := hd.ok tr (List.mem_of_getElem? htr)
    refine ⟨ba, _, rfl, .of (e6 _ _ hba), rfl, _, _, rfl, _, _, rfl, rfl, rfl, tYesI ⟨_, rfl, _, rfl, _, rfl, tr.2, n, rfl, ho.2.1, ho.2.2, hn, _, _, rfl, rfl, .inr ?_, lc_put hD e6 (.refl _) hD6 hl6 (by omega) ?_⟩⟩
    · have := pow_bd ho.2.1 ho.2.2 hn
      omega
    · rw [take_succ_map htr, hacc]
  · rw [hul, List.take_length] at hacc
    refine ⟨D, ts.map (fun t => t.1 * t.2 ^ n), rfl, .of (by rw [hD6, hacc, List.map_map]; rfl), ?_⟩
    exact q _ e6
theorem cl_law_tells (T : Tops K mg) : Cl P w K mg base 3 "_law_tells" ["_law_form", "_law_n"] (sp_law_tells K) := by
  refine .of T.f_law_tells sc_law_tells (fun _ _ _ _ _ _ us hl => match us, hl with | [_, _], _ => rfl) (fun vs H Q E h => ?_) fun f cdv A outer s H vs Q E hr h => ?_
  · obtain ⟨_, _, _, _, _, rfl, _⟩ := h; rfl
  obtain ⟨x, ts, u, n, k, rfl, hF, hd, u0, u1, hn, hk, q⟩ := h
  refine ⟨_, (pss_cons (ps_asg (pe_callB call_divmodW (by rfl) (T.nn "divmod") rfl (pa_cons (pe_cl (cl_law_sum T) hr (by decide) rfl (pa_cons (pe_pr (pr_Ft T) hr (by decide) (pv 0) rfl) (pa_cons (pv 1) pa_nil))) (pa_cons (pe_pr (pr_Fp T) hr (by decide) (pv 0) rfl) pa_nil))) (pg_tupK (K := K) (n := 2) rfl rfl (pgs_cons (pg_name (i := 2) sc_law_tells.nd rfl (Or.inl rfl)) (pgs_cons (pg_name (i := 3) sc_law_tells.nd rfl (Or.inl rfl)) pgs_nil))))
      (pss_one (ps_ret (pe_ifExp (pt_cmpR op_eq (pv 3) pe_int (nomark _)) (pv 2) pe_non)))) , ?_⟩
  obtain ⟨x', dx, a, us, ex, hx, ha, hp⟩ := id hF
  cases ex
  refine ⟨_, rfl, x, dx, _, rfl, hx, ⟨x, ts, u, rfl, hF, fun a2 us2 ha2 hp2 => ?_⟩⟩
  refine ⟨_, rfl, a2, us2, ts, n, rfl, ha2, hp2, hd, hn, fun H1 e1 => ?_⟩
  refine ⟨_, rfl, x, dx, _, rfl, e1 _ _ hx, ⟨x, ts, u, rfl, hF.same e1, ?_⟩⟩
  refine ⟨_, u, rfl, ⟨u0, PyProof.noPylong_small (by omega)⟩, fun l nl => ?_⟩
  refine ⟨l, _, rfl, .of upd_same, rfl, _, _, rfl, _, _, rfl, rfl, ?_⟩
  have h1 : psum ts n % u = 0 := by rw [hk]; exact Int.mul_emod_left k u
  have h2 : psum ts n / u = k := by rw [hk]; exact Int.mul_ediv_cancel k (by omega)
  rw [h1, h2]
  refine ⟨_, rfl, rfl, true, rfl, iteT ?_⟩
  exact ⟨_, rfl, q _ (e1.trans (same_new nl))⟩
theorem cl_law_total (T : Tops K mg) : Cl P w K mg base 1 "_law_total" ["_law_rows_here"] sp_law_total := by
  refine .of T.f_law_total sc_law_total (fun _ _ _ _ _ _ us hl => match us, hl with | [_], _ => rfl) (fun vs H Q E h => ?_) fun f cdv A outer s H vs Q E hr h => ?_
  · obtain ⟨_, _, _, rfl, _⟩ := h; rfl
  obtain ⟨a, us, ts, rfl, ha, hp, h8, q⟩ := h
  refine ⟨_, (pss_one (ps_ret (pe_callB (cr_sumK (K := K) rfl rfl) (by rfl) (T.nn "sum") rfl (pa_cons (pe_lc (own := [("_law_groups_here", 1), ("_law_tickets", 2)]) (by rfl) sc_law_total.nd (pi_listK (K := K) rfl (pv 0)) (blkOk_by (own := [("_law_groups_here", 1), ("_law_tickets", 2)]) (N := N_law_total) (sc := defScope s_law_total) (by decide +kernel)) (fun _ _ _ _ _ => (pg_tupK (K := K) (n := 2) rfl rfl (pgs_cons (pg_name (i := 1) sc_law_total.nd rfl (Or.inl rfl)) (pgs_cons (pg_name (i := 2) sc_law_total.nd rfl (Or.inl rfl)) pgs_nil)))) (fun _ _ _ _ _ => pts_nil) (fun _ _ _ _ _ => (pv 2))) pa_nil)))) , ?_⟩
  have hul := paired_len hp
  refine ⟨_, rfl, a, rfl, ⟨_, .of ha⟩, fun D hD => ?_⟩
  refine lcL (fun j acc2 _ => acc2 = ((ts.take j).map fun t => V.int (t.2 : Nat))) (xs := us) (.of ha) hD rfl (fun j v G6 acc2 hv2 e6 hD6 hl6 hacc => ?_) fun G6 acc2 e6 hD6 hl6 hacc => ?_
  · obtain ⟨tr, htr, ba, gv, rfl, hba, _⟩ := paired_at hp hv2
    have hj : j < us.length := (List.getElem?_eq_some_iff.mp hv2).1
    refine ⟨ba, _, rfl, .of (e6 _ _ hba), rfl, _, _, rfl, _, _, rfl, rfl, rfl, tYesI ⟨_, rfl, lc_put hD e6 (.refl _) hD6 hl6 (by omega) ?_⟩⟩
    rw [take_succ_map htr, hacc]
  · rw [hul, List.take_length] at hacc
    refine ⟨D, ts.map (fun t => ((t.2 : Nat) : Int)), rfl, .of (by rw [hD6, hacc, List.map_map]; rfl), ?_⟩
    have e : (ts.map (fun t => ((t.2 : Nat) : Int))).sum = ((total ts : Nat) : Int) := by
      unfold total
      clear hacc hp hul h8 q
      induction ts with
      | nil => rfl
      | cons t ts ih => rw [List.map_cons, List.sum_cons, ih, List.map_cons, List.sum_cons]; omega
    rw [e]
    exact q _ e6
theorem cl_law_text (T : Tops K mg) : Cl P w K mg base 1 "_law_text" ["_law_groups_here"] sp_law_text := by
  refine .of T.f_law_text sc_law_text (fun _ _ _ _ _ _ us hl => match us, hl with | [_], _ => rfl) (fun vs H Q E h => ?_) fun f cdv A outer s H vs Q E hr h => ?_
  · obtain ⟨_, _, rfl, _⟩ := h; rfl
  obtain ⟨a, gs, rfl, ⟨a', us, ea, ha, hp⟩, G', q⟩ := h
  cases ea
  refine ⟨_, (pss_one (ps_ret (pe_joinK (K := K) rfl pe_str (pe_lc (own := [("_law_group", 1)]) (by rfl) sc_law_text.nd (pi_tupK (K := K) rfl (pv 0)) (blkOk_by (own := [("_law_group", 1)]) (N := N_law_text) (sc := defScope s_law_text) (by decide +kernel)) (fun _ _ _ _ _ => (pg_name (i := 1) sc_law_text.nd rfl (Or.inl rfl))) (fun _ _ _ _ _ => pts_nil) (fun _ _ _ _ _ => (pe_joinK (K := K) rfl pe_str (pv 1))))))) , ?_⟩
  have hul := paired_len hp
  have hgl := G'.len
  refine ⟨⟨_, rfl⟩, _, rfl, a, rfl, ⟨_, .of ha⟩, fun D hD => ?_⟩
  refine lcT (fun j acc2 _ => acc2 = ((gs.take j).map fun g => V.str (gTxt g))) (xs := us) (.of ha) hD rfl (fun j v G6 acc2 hv2 e6 hD6 hl6 hacc => ?_) fun G6 acc2 e6 hD6 hl6 hacc => ?_
  · obtain ⟨g, hg, ba, rfl, hba⟩ := paired_at hp hv2
    have hj : j < us.length := (List.getElem?_eq_some_iff.mp hv2).1
    have mg' := List.mem_of_getElem? hg
    refine ⟨rfl, tYesI ⟨⟨_, rfl⟩, _, rfl, " ", ba, g, rfl, rfl, .inr (.of (e6 _ _ hba)), ?_, lc_put hD e6 (.refl _) hD6 hl6 (by omega) ?_⟩⟩
    · have h2 := sum_le (l := g.map (·.length)) (b := 8) fun n m => by
        obtain ⟨x, mx, rfl⟩ := List.mem_map.mp m
        exact (G'.nms g mg' x mx).eight
      rw [List.length_map] at h2
      have := G'.glen mg'
      have e : (Str.ofString " ").length = 1 := by decide +kernel
      rw [e]
      omega
    · rw [take_succ_map hg, hacc]
      rfl
  · rw [hul, List.take_length] at hacc
    refine ⟨" | ", D, gs.map gTxt, rfl, rfl, .inl (.of (by rw [hD6, hacc, List.map_map]; rfl)), ?_, q _ e6⟩
    have h2 := sum_le (l := (gs.map gTxt).map (·.length)) (b := 72) fun n m => by
      obtain ⟨x, mx, rfl⟩ := List.mem_map.mp m
      obtain ⟨g, mg, rfl⟩ := List.mem_map.mp mx
      have a := gTxt_len (G'.nms g mg)
      have b := G'.glen mg
      omega
    rw [List.length_map, List.length_map] at h2
    have e : (Str.ofString " | ").length = 3 := by decide +kernel
    rw [e, List.length_map]
    omega
theorem str_digit {n : Nat} (h : n ≤ 9) : Str.ofString (toString (n : Int)) = ⟨#[48 + n]⟩ := by
  match n, h with
  | 0, _ => decide +kernel
  | 1, _ => decide +kernel
  | 2, _ => decide +kernel
  | 3, _ => decide +kernel
  | 4, _ => decide +kernel
  | 5, _ => decide +kernel
  | 6, _ => decide +kernel
  | 7, _ => decide +kernel
  | 8, _ => decide +kernel
  | 9, _ => decide +kernel
theorem cl_law_urn_text (T : Tops K mg) : Cl P w K mg base 2 "_law_urn_text" ["_law_rows_here"] sp_law_urn_text := by
  refine .of T.f_law_urn_text sc_law_urn_text (fun _ _ _ _ _ _ us hl => match us, hl with | [_], _ => rfl) (fun vs H Q E h => ?_) fun f cdv A outer s H vs Q E hr h => ?_
  · obtain ⟨_, _, _, rfl, _⟩ := h; rfl
  obtain ⟨a, us, rows, rfl, ha, hp, h8, hall, q⟩ := h
  refine ⟨_, (pss_one (ps_ret (pe_joinK (K := K) rfl pe_str (pe_lc (own := [("_law_groups_here", 1), ("_law_tickets", 2)]) (by rfl) sc_law_urn_text.nd (pi_listK (K := K) rfl (pv 0)) (blkOk_by (own := [("_law_groups_here", 1), ("_law_tickets", 2)]) (N := N_law_urn_text) (sc := defScope s_law_urn_text) (by decide +kernel)) (fun _ _ _ _ _ => (pg_tupK (K := K) (n := 2) rfl rfl (pgs_cons (pg_name (i := 1) sc_law_urn_text.nd rfl (Or.inl rfl)) (pgs_cons (pg_name (i := 2) sc_law_urn_text.nd rfl (Or.inl rfl)) pgs_nil)))) (fun _ _ _ _ _ => pts_nil) (fun _ _ _ _ _ => (pe_op op_add_str (pe_op op_add_str (pe_callTy call_str_int (by rfl) (T.nn "str") rfl (pa_cons (pv 2) pa_nil)) pe_str) (pe_cl (cl_law_text T) hr (by decide) rfl (pa_cons (pv 1) pa_nil)))))))) , ?_⟩
  have hul := paired_len hp
  refine ⟨⟨_, rfl⟩, _, rfl, a, rfl, ⟨_, .of ha⟩, fun D hD => ?_⟩
  refine lcL (fun j acc2 _ => acc2 = ((rows.take j).map fun r => V.str (rowTxt r))) (xs := us) (.of ha) hD rfl (fun j v G6 acc2 hv2 e6 hD6 hl6 hacc => ?_) fun G6 acc2 e6 hD6 hl6 hacc => ?_
  · obtain ⟨r, hr1, ba, gv, rfl, hba, hgv⟩ := paired_at hp hv2
    have hj : j < us.length := (List.getElem?_eq_some_iff.mp hv2).1
    have mr := List.mem_of_getElem? hr1
    obtain ⟨g1, g2, g3⟩ := hall r mr
    obtain ⟨ga, vs2, rfl, hga⟩ := id hgv
    refine ⟨ba, _, rfl, .of (e6 _ _ hba), rfl, _, _, rfl, _, _, rfl, rfl, rfl, tYesI ⟨_, rfl, (r.2 : Nat), rfl, ?_, ?_⟩⟩
    · have e : (((r.2 : Nat) : Int).natAbs) = r.2 := Int.natAbs_natCast _
      rw [e]
      have := Nat.log2_le_self r.2
      omega
    rw [str_digit g3]
    have eS : (Str.ofString ": ").length = 2 := by decide +kernel
    have eD : (⟨#[48 + r.2]⟩ : Str).length = 1 := rfl
    have eA : ∀ a b : Str, (a ++ b).length = a.length + b.length := fun a b => by
      show (a.cps ++ b.cps).size = _
      exact Array.size_append
    have hgt := gsTxt_len g1
    refine ⟨_, _, rfl, rfl, ?_, _, rfl, ga, r.1, rfl, hgv.same e6, g1, fun G7 e7 => ⟨_, _, rfl, rfl, ?_, lc_put hD e6 e7 hD6 hl6 (by omega) ?_⟩⟩
    · rw [eS, eD, sizeLine_eq]; omega
    · rw [eA, eS, eD, sizeLine_eq]; omega
    · rw [take_succ_map hr1, hacc]
      rfl
  · rw [hul, List.take_length] at hacc
    refine ⟨"; ", D, rows.map rowTxt, rfl, rfl, .inl (.of (by rw [hD6, hacc, List.map_map]; rfl)), ?_, q _ e6⟩
    have eS : (Str.ofString ": ").length = 2 := by decide +kernel
    have eA : ∀ a b : Str, (a ++ b).length = a.length + b.length := fun a b => by
      show (a.cps ++ b.cps).size = _
      exact Array.size_append
    have h2 := sum_le (l := (rows.map rowTxt).map (·.length)) (b := 603) fun n m => by
      obtain ⟨x, mx, rfl⟩ := List.mem_map.mp m
      obtain ⟨r, mr, rfl⟩ := List.mem_map.mp mx
      have a := gsTxt_len (hall r mr).1
      show (rowTxt r).length ≤ _
      unfold rowTxt
      rw [eA, eA, eS]
      have eD : (⟨#[48 + r.2]⟩ : Str).length = 1 := rfl
      rw [eD]
      omega
    rw [List.length_map, List.length_map] at h2
    have e : (Str.ofString "; ").length = 2 := by decide +kernel
    rw [e, List.length_map]
    omega
end
end SD
end
section
set_option Elab.async false
set_option linter.all false
set_option maxRecDepth 100000
set_option maxHeartbeats 4000000
/-! ### the law's helpers: things, orders, groups, rows -/
namespace SD
open PySem PySem.Spec PyProof.Rows L2 LamX NdefX
theorem er_nm : ∀ (l : List Str) (k : Nat), (nm l).eraseIdx k = nm (l.eraseIdx k)
  | [], _ => rfl
  | _ :: _, 0 => rfl
  | a :: l, k + 1 => congrArg (V.str a :: ·) (er_nm l k)
theorem er_perm : ∀ {l : List Str} {k : Nat} {y : Str}, l[k]? = some y → (y :: l.eraseIdx k).Perm l
  | [], _, _, h => by simp at h
  | a :: l, 0, y, h => by
    have : a = y := by simpa using h
    subst this
    exact .refl _
  | a :: l, k + 1, y, h => ((List.Perm.swap a y (l.eraseIdx k)).trans ((er_perm (l := l) (k := k) (by simpa using h)).cons a))
def nameB (x : Str) : Bool := decide (1 ≤ x.length) && decide (x.length ≤ 8) && (match x.cps.toList with | c :: _ => decide (c ∈ cLet.cps.toList) | [] => false) && x.cps.toList.all fun c => decide (c ∈ cSig.cps.toList)
theorem name_of {x : Str} (h : nameB x = true) : IsName x := by
  unfold nameB at h
  simp only [Bool.and_eq_true, decide_eq_true_eq] at h
  obtain ⟨⟨⟨h1, h2⟩, h3⟩, h4⟩ := h
  refine ⟨h1, h2, ?_, fun c m => by simpa using List.all_eq_true.mp h4 c m⟩
  cases hx : x.cps.toList with
  | nil => rw [hx] at h3; cases h3
  | cons c l => rw [hx] at h3; exact ⟨c, rfl, by simpa using h3⟩
def POOL : List Str := ["a", "a0", "aa", "ab", "b", "b9", "ba", "c", "d", "k1", "q", "zz", "zzzzzzzz"]
theorem pool_names : ∀ x ∈ POOL, IsName x := fun x m => name_of (by
  have : POOL.all nameB = true := by decide +kernel
  exact List.all_eq_true.mp this x m)
theorem pool_nd : POOL.Nodup := by decide +kernel
structure Things (th : List Str) : Prop where
  asc : Asc th
  nms : ∀ x ∈ th, IsName x
def sp_law_things : Sp := fun vs H Q _ => ∃ (p : Addr) (m : Nat), vs = [.ref p, .int m] ∧ PurseAt H p ∧ m ≤ 6 ∧ ∀ a th H', But p H H' → PurseAt H' p → H' a = some (.tup (nm th)) → Things th → th.length = m → Q (.ref a) H'
def sp_law_order (K : PySem.W.Frag) : Sp := fun vs H Q _ => ∃ (p a : Addr) (th : List Str), vs = [.ref p, .ref a] ∧ PurseAt H p ∧ H a = some (.tup (nm th)) ∧ th.length ≤ 6 ∧ ∀ l o H', But p H H' → PurseAt H' p → FTup H' l (nm o) → o.Perm th → Q (.ref l) H'
section
variable {P : Program} {w : World} {K : PySem.W.Frag} {mg : Str → Option Value} {base : Heap}
theorem seq_ix {j n : Nat} (h : j < n) : seqIndex? (j : Int) n = some j := by
  unfold seqIndex?
  simp
  omega
theorem cl_law_things (T : Tops K mg) : Cl P w K mg base 2 "_law_things" ["_law_purse_here", "_law_many"] sp_law_things := by
  refine .of T.f_law_things sc_law_things (fun _ _ _ _ _ _ us hl => match us, hl with | [_, _], _ => rfl) (fun vs H Q E h => ?_) fun f cdv A outer s H vs Q E hr h => ?_
  · obtain ⟨_, _, rfl, _⟩ := h; rfl
  obtain ⟨p, m, rfl, hP, hm, q⟩ := h
  refine ⟨_, (pss_cons (ps_set (i := 2) sc_law_things.nd rfl (Or.inl rfl) (pe_lst (pa_cons pe_str (pa_cons pe_str (pa_cons pe_str (pa_cons pe_str (pa_cons pe_str (pa_cons pe_str (pa_cons pe_str (pa_cons pe_str (pa_cons pe_str (pa_cons pe_str (pa_cons pe_str (pa_cons pe_str (pa_cons pe_str pa_nil)))))))))))))))
      (pss_cons (ps_set (i := 3) sc_law_things.nd rfl (Or.inl rfl) (pe_lst pa_nil))
      (pss_cons (ps_for PassesOwn.never rfl (pi_range1 (by rfl) (T.nn "range") (pa_cons (pv 1) pa_nil)) (pg_name (i := 4) sc_law_things.nd rfl (Or.inl rfl))
       (pss_one (ps_expr (pe_bmK (K := K) rfl PySem.F.plainAttrs_list PySem.F.slot_list_append PySem.F.type_list_append mt_append (pv 3) (pa_cons (pe_bmK (K := K) rfl PySem.F.plainAttrs_list PySem.F.slot_list_pop PySem.F.type_list_pop mt_popAt (pv 2) (pa_cons (pe_cl (cl_law_draw T) hr (by decide) rfl (pa_cons (pv 0) (pa_cons (pe_callB (call_len_seqK (K := K) rfl) (by rfl) (T.nn "len") rfl (pa_cons (pv 2) pa_nil)) pa_nil))) pa_nil)) pa_nil)))))
      (pss_one (ps_ret (pe_callTy (call_tuple_ofK (K := K) rfl) (by rfl) (T.nn "tuple") rfl (pa_cons (pe_callB (cr_sortedSK (K := K) rfl) (by rfl) (T.nn "sorted") rfl (pa_cons (pv 3) pa_nil)) pa_nil))))))) , ?_⟩
  refine ⟨by show 13 ≤ sizeLine; decide, fun l1 n1 => ⟨Nat.zero_le _, fun l2 n2 => ?_⟩⟩
  have n2 : upd H l1 (.lst (nm POOL)) l2 = none := n2
  have e1 : Same H (upd H l1 (.lst (nm POOL))) := same_new n1
  have e2 : Same H (upd (upd H l1 (.lst (nm POOL))) l2 (.lst [])) := e1.trans (same_new n2)
  have hl12 : l1 ≠ l2 := fun z => by rw [← z, upd_same] at n2; cases n2
  obtain ⟨c, d, hp, hcd⟩ := hP
  have hl1 : l1 ≠ p := fun z => by rw [z, hp] at n1; cases n1
  have hl2 : l2 ≠ p := fun z => by rw [z, e1 _ _ hp] at n2; cases n2
  have h1 : upd (upd H l1 (.lst (nm POOL))) l2 (.lst []) l1 = some (.lst (nm POOL)) := by rw [upd_ne hl12]; exact upd_same
  have n1' : H l1 = none := n1
  have n2' : H l2 = none := e1.free n2
  refine ⟨_, rfl, m, rfl, by omega, by omega, ?_⟩
  refine for_range (lo := 0) (n := m) (fun i σ' G => ∃ o pool found, σ' = [some (.ref p), some (.int m), some (.ref l1), some (.ref l2), o] ∧ But p H G ∧ PurseAt G p ∧ G l1 = some (.lst (nm pool)) ∧ G l2 = some (.lst (nm found)) ∧ (found ++ pool).Perm POOL ∧ found.length = i) ⟨_, POOL, [], rfl, .of e2, ⟨c, d, e2 _ _ hp, hcd⟩, h1, upd_same, .refl _, rfl⟩ (fun i σ' G hi hh => ?_) fun σ' G hh => ?_
  · obtain ⟨o, pool, found, rfl, eG, hPG, hg1, hg2, hpm, hfl⟩ := hh
    have hlen : found.length + pool.length = 13 := by rw [← List.length_append, hpm.length_eq]; rfl
    refine ⟨_, rfl, .inl ⟨rfl, _, .of hg2⟩, _, rfl, .inl ⟨rfl, _, .of hg1⟩, _, rfl, _, rfl, l1, _, rfl, .inl (.of hg1), ?_⟩
    rw [List.length_map]
    refine ⟨p, pool.length, rfl, hPG, by omega, by omega, fun j G2 e3 hP2 hj => ?_⟩
    have hg1' := e3 _ _ hl1 hg1
    have hg2' := e3 _ _ hl2 hg2
    have hy : pool[j]? = some pool[j] := List.getElem?_eq_getElem hj
    refine ⟨l1, _, j, j, .str pool[j], rfl, rfl, hg1', by omega, by omega, seq_ix (by rw [List.length_map]; exact hj), ?_, ?_⟩
    · rw [List.getElem?_map, hy]; rfl
    rw [er_nm]
    refine ⟨l2, nm found, .str pool[j], rfl, rfl, by rw [upd_ne (Ne.symm hl12)]; exact hg2', by rw [List.length_map, sizeLine_eq]; omega, ?_⟩
    refine ⟨_, pool.eraseIdx j, found ++ [pool[j]], rfl, fun b o n h => ?_, ?_, by rw [upd_ne hl12]; exact upd_same, ?_, ?_, by rw [List.length_append, hfl]; rfl⟩
    · rw [upd_ne (ne_of_none h n2'), upd_ne (ne_of_none h n1')]
      exact e3 _ _ n (eG _ _ n h)
    · obtain ⟨c, d, hp, hcd⟩ := hP2
      exact ⟨c, d, by rw [upd_ne (Ne.symm hl2), upd_ne (Ne.symm hl1)]; exact hp, hcd⟩
    · rw [upd_same]
      show _ = some (HO.lst ((found ++ [pool[j]]).map V.str))
      rw [List.map_append]
      rfl
    · rw [List.append_assoc]
      exact ((er_perm hy).append_left found).trans hpm
  · obtain ⟨o, pool, found, rfl, eG, hPG, hg1, hg2, hpm, hfl⟩ := hh
    refine ⟨_, rfl, l2, found, rfl, .of hg2, by omega, fun ys l3 hpy hsy n3 => ?_⟩
    have e3 : Same G (upd G l3 (.lst (ys.map V.str))) := same_new n3
    have hnf : found.Nodup := (List.nodup_append.mp (hpm.nodup_iff.mpr pool_nd)).1
    refine ⟨l3, _, rfl, .inl ⟨.of upd_same, fun l4 n4 => ?_⟩⟩
    have e4 := e3.trans (same_new (o := .tup (ys.map V.str)) n4)
    obtain ⟨c, d, hp, hcd⟩ := hPG
    exact q l4 ys _ (fun b o n h => e4 _ _ (eG _ _ n h)) ⟨c, d, e4 _ _ hp, hcd⟩ upd_same ⟨asc_of hsy (hpy.nodup_iff.mpr hnf), fun x mx => pool_names x (hpm.subset (List.mem_append_left _ (hpy.subset mx)))⟩ (by rw [hpy.length_eq, hfl])
theorem cl_law_order (T : Tops K mg) : Cl P w K mg base 2 "_law_order" ["_law_purse_here", "_law_things_here"] (sp_law_order K) := by
  refine .of T.f_law_order sc_law_order (fun _ _ _ _ _ _ us hl => match us, hl with | [_, _], _ => rfl) (fun vs H Q E h => ?_) fun f cdv A outer s H vs Q E hr h => ?_
  · obtain ⟨_, _, _, rfl, _⟩ := h; rfl
  obtain ⟨p, a, th, rfl, hP, ha, hm, q⟩ := h
  refine ⟨_, (pss_cons (ps_par (i := 2) (j := 3) (by rfl) sc_law_order.nd rfl rfl (by decide) rfl rfl (pa_cons (pe_callTy (call_list_ofK (K := K) rfl) (by rfl) (T.nn "list") rfl (pa_cons (pv 1) pa_nil)) (pa_cons (pe_lst pa_nil) pa_nil)) (by rfl))
      (pss_cons (ps_for PassesOwn.never rfl (pi_range1 (by rfl) (T.nn "range") (pa_cons (pe_callB (call_len_seqK (K := K) rfl) (by rfl) (T.nn "len") rfl (pa_cons (pv 1) pa_nil)) pa_nil)) (pg_name (i := 4) sc_law_order.nd rfl (Or.inl rfl))
       (pss_one (ps_expr (pe_bmK (K := K) rfl PySem.F.plainAttrs_list PySem.F.slot_list_append PySem.F.type_list_append mt_append (pv 3) (pa_cons (pe_bmK (K := K) rfl PySem.F.plainAttrs_list PySem.F.slot_list_pop PySem.F.type_list_pop mt_popAt (pv 2) (pa_cons (pe_cl (cl_law_draw T) hr (by decide) rfl (pa_cons (pv 0) (pa_cons (pe_callB (call_len_seqK (K := K) rfl) (by rfl) (T.nn "len") rfl (pa_cons (pv 2) pa_nil)) pa_nil))) pa_nil)) pa_nil)))))
      (pss_one (ps_ret (pe_callTy (call_tuple_FK (K := K) rfl) (by rfl) (T.nn "tuple") rfl (pa_cons (pv 3) pa_nil)))))) , ?_⟩
  refine ⟨_, rfl, a, _, rfl, .inr (.inl (.of ha)), fun l1 n1 => ⟨Nat.zero_le _, fun l2 n2 => ?_⟩⟩
  have e1 : Same H (upd H l1 (.lst (nm th))) := same_new n1
  have e2 : Same H (upd (upd H l1 (.lst (nm th))) l2 (.lst [])) := e1.trans (same_new n2)
  have hl12 : l1 ≠ l2 := fun z => by rw [← z, upd_same] at n2; cases n2
  obtain ⟨c, d, hp, hcd⟩ := hP
  have hl1 : l1 ≠ p := fun z => by rw [z, hp] at n1; cases n1
  have hl2 : l2 ≠ p := fun z => by rw [z, e1 _ _ hp] at n2; cases n2
  have h1 : upd (upd H l1 (.lst (nm th))) l2 (.lst []) l1 = some (.lst (nm th)) := by rw [upd_ne hl12]; exact upd_same
  have n1' : H l1 = none := n1
  have n2' : H l2 = none := e1.free n2
  refine ⟨_, _, rfl, ?_⟩
  refine ⟨_, rfl, a, _, rfl, .inr (.of (e2 _ _ ha)), (nm th).length, rfl, by rw [List.length_map]; omega, by rw [List.length_map]; omega, ?_⟩
  rw [List.length_map]
  refine for_range (lo := 0) (n := th.length) (fun i σ' G => ∃ o pool found, σ' = [some (.ref p), some (.ref a), some (.ref l1), some (.ref l2), o] ∧ But p H G ∧ PurseAt G p ∧ G l1 = some (.lst (nm pool)) ∧ G l2 = some (.lst (nm found)) ∧ (found ++ pool).Perm th ∧ found.length = i) ⟨_, th, [], rfl, .of e2, ⟨c, d, e2 _ _ hp, hcd⟩, h1, upd_same, .refl _, rfl⟩ (fun i σ' G hi hh => ?_) fun σ' G hh => ?_
  · obtain ⟨o, pool, found, rfl, eG, hPG, hg1, hg2, hpm, hfl⟩ := hh
    have hlen : found.length + pool.length = th.length := by rw [← List.length_append, hpm.length_eq]
    refine ⟨_, rfl, .inl ⟨rfl, _, .of hg2⟩, _, rfl, .inl ⟨rfl, _, .of hg1⟩, _, rfl, _, rfl, l1, _, rfl, .inl (.of hg1), ?_⟩
    rw [List.length_map]
    refine ⟨p, pool.length, rfl, hPG, by omega, by omega, fun j G2 e3 hP2 hj => ?_⟩
    have hg1' := e3 _ _ hl1 hg1
    have hg2' := e3 _ _ hl2 hg2
    have hy : pool[j]? = some pool[j] := List.getElem?_eq_getElem hj
    refine ⟨l1, _, j, j, .str pool[j], rfl, rfl, hg1', by omega, by omega, seq_ix (by rw [List.length_map]; exact hj), ?_, ?_⟩
    · rw [List.getElem?_map, hy]; rfl
    rw [er_nm]
    refine ⟨l2, nm found, .str pool[j], rfl, rfl, by rw [upd_ne (Ne.symm hl12)]; exact hg2', by rw [List.length_map, sizeLine_eq]; omega, ?_⟩
    refine ⟨_, pool.eraseIdx j, found ++ [pool[j]], rfl, fun b o n h => ?_, ?_, by rw [upd_ne hl12]; exact upd_same, ?_, ?_, by rw [List.length_append, hfl]; rfl⟩
    · rw [upd_ne (ne_of_none h n2'), upd_ne (ne_of_none h n1')]
      exact e3 _ _ n (eG _ _ n h)
    · obtain ⟨c, d, hp, hcd⟩ := hP2
      exact ⟨c, d, by rw [upd_ne (Ne.symm hl2), upd_ne (Ne.symm hl1)]; exact hp, hcd⟩
    · rw [upd_same]
      show _ = some (HO.lst ((found ++ [pool[j]]).map V.str))
      rw [List.map_append]
      rfl
    · rw [List.append_assoc]
      exact ((er_perm hy).append_left found).trans hpm
  · obtain ⟨o, pool, found, rfl, eG, hPG, hg1, hg2, hpm, hfl⟩ := hh
    have hlen : found.length + pool.length = th.length := by rw [← List.length_append, hpm.length_eq]
    have hp0 : pool = [] := List.eq_nil_of_length_eq_zero (by omega)
    subst hp0
    rw [List.append_nil] at hpm
    refine ⟨_, rfl, l2, nm found, rfl, .of hg2, fun l3 o3 n3 ho3 => ?_⟩
    have e3 : Same G (upd G l3 (.frz o3 (.tup (nm found)))) := same_new n3
    obtain ⟨c, d, hp, hcd⟩ := hPG
    exact q l3 found _ (fun b o n h => e3 _ _ (eG _ _ n h)) ⟨c, d, e3 _ _ hp, hcd⟩ ⟨o3, upd_same, ho3⟩ hpm
end
end SD
end
section
set_option Elab.async false
set_option linter.all false
set_option maxRecDepth 100000
set_option maxHeartbeats 4000000
/-! ### the law's helpers: groups, rows -/
namespace SD
open PySem PySem.Spec PyProof.Rows L2 LamX NdefX
open PySem.W (dataLe dataLt AllAlike Sortable)
/-- the things of the rank r -/
def gr (th : List Str) (rs : List Int) (r : Int) : List Str := ((th.zip rs).filter fun q => decide (q.2 = r)).map (·.1)
theorem gr_sub {th : List Str} {rs : List Int} (h : th.length = rs.length) (r : Int) : (gr th rs r).Sublist th := by
  have e := List.map_fst_zip (l₁ := th) (l₂ := rs) (by omega)
  have s := (List.filter_sublist (p := fun q : Str × Int => decide (q.2 = r)) (l := th.zip rs)).map Prod.fst
  rw [e] at s
  exact s
theorem gr_mem {th : List Str} {rs : List Int} (h : th.length = rs.length) {r : Int} {x : Str} : x ∈ gr th rs r ↔ ∃ i : Nat, th[i]? = some x ∧ rs[i]? = some r := by
  unfold gr
  constructor
  · intro m
    obtain ⟨q, mq, rfl⟩ := List.mem_map.mp m
    obtain ⟨m1, m2⟩ := List.mem_filter.mp mq
    obtain ⟨i, hi⟩ := List.mem_iff_getElem?.mp m1
    rw [List.getElem?_zip_eq_some] at hi
    exact ⟨i, hi.1, by rw [hi.2]; simpa using m2⟩
  · rintro ⟨i, h1, h2⟩
    refine List.mem_map.mpr ⟨(x, r), List.mem_filter.mpr ⟨List.mem_iff_getElem?.mpr ⟨i, ?_⟩, by simp⟩, rfl⟩
    rw [List.getElem?_zip_eq_some]
    exact ⟨h1, h2⟩
theorem nd_ix {th : List Str} (h : th.Nodup) {i j : Nat} {x : Str} (hi : th[i]? = some x) (hj : th[j]? = some x) : i = j := by
  obtain ⟨h1, e1⟩ := List.getElem?_eq_some_iff.mp hi
  obtain ⟨h2, e2⟩ := List.getElem?_eq_some_iff.mp hj
  exact (List.getElem_inj h).mp (e1.trans e2.symm)
theorem gr_one {th : List Str} {rs : List Int} (h : th.length = rs.length) (hn : th.Nodup) {r r' : Int} {x : Str} (h1 : x ∈ gr th rs r) (h2 : x ∈ gr th rs r') : r = r' := by
  obtain ⟨i, a, b⟩ := (gr_mem h).mp h1
  obtain ⟨j, a', b'⟩ := (gr_mem h).mp h2
  have := nd_ix hn a a'
  subst this
  rw [b] at b'
  exact Option.some.inj b'
theorem gr_ne {th : List Str} {rs : List Int} (h : th.length = rs.length) {r : Int} (m : r ∈ rs) : gr th rs r ≠ [] := by
  obtain ⟨i, hi⟩ := List.mem_iff_getElem?.mp m
  have hl := (List.getElem?_eq_some_iff.mp hi).1
  have : th[i] ∈ gr th rs r := (gr_mem h).mpr ⟨i, List.getElem?_eq_getElem (by omega), hi⟩
  intro z
  rw [z] at this
  cases this
theorem gr_inj {th : List Str} {rs : List Int} (h : th.length = rs.length) (hn : th.Nodup) {r r' : Int} (m : r ∈ rs) (e : gr th rs r = gr th rs r') : r = r' := by
  cases g : gr th rs r with
  | nil => exact absurd g (gr_ne h m)
  | cons x l =>
    have h1 : x ∈ gr th rs r := by rw [g]; simp
    exact gr_one h hn h1 (e ▸ h1)
theorem ranked_good {th : List Str} {rs ds : List Int} (h : th.length = rs.length) (T : Things th) (h8 : th.length ≤ 8) (h0 : th ≠ []) (hd : ds.Nodup) (hm : ∀ r, r ∈ ds ↔ r ∈ rs) : GoodGs (ds.map (gr th rs)) ∧ th.Perm (ds.map (gr th rs)).flatten := by
  have hn := asc_nodup T.asc
  have fl : (ds.map (gr th rs)).flatten.Nodup := by
    refine List.pairwise_flatten.mpr ⟨fun l m => ?_, ?_⟩
    · obtain ⟨r, _, rfl⟩ := List.mem_map.mp m
      exact hn.sublist (gr_sub h r)
    · rw [List.pairwise_map]
      exact hd.imp fun {a b} hab x hx y hy e => hab (by subst e; exact gr_one h hn hx hy)
  have pm : th.Perm (ds.map (gr th rs)).flatten := by
    refine (List.perm_ext_iff_of_nodup hn fl).mpr fun x => ?_
    constructor
    · intro mx
      obtain ⟨i, hi⟩ := List.mem_iff_getElem?.mp mx
      have hl := (List.getElem?_eq_some_iff.mp hi).1
      have hr : rs[i]? = some rs[i] := List.getElem?_eq_getElem (by omega)
      exact List.mem_flatten.mpr ⟨_, List.mem_map.mpr ⟨rs[i], (hm _).mpr (List.mem_of_getElem? hr), rfl⟩, (gr_mem h).mpr ⟨i, hi, hr⟩⟩
    · intro mx
      obtain ⟨l, ml, mx⟩ := List.mem_flatten.mp mx
      obtain ⟨r, _, rfl⟩ := List.mem_map.mp ml
      exact (gr_sub h r).subset mx
  refine ⟨⟨?_, fun g m => ?_, fl, by rw [← pm.length_eq]; exact h8⟩, pm⟩
  · intro z
    rw [z] at pm
    exact h0 (List.perm_nil.mp pm)
  · obtain ⟨r, mr, rfl⟩ := List.mem_map.mp m
    exact ⟨gr_ne h ((hm r).mp mr), fun x mx => T.nms x ((gr_sub h r).subset mx), T.asc.sublist (gr_sub h r)⟩
theorem dep_strs : ∀ g : List Str, PyData.depthAll (g.map .str) = 0
  | [] => by simp [PyData.depthAll]
  | x :: a => by simp [PyData.depthAll, PyData.depth, dep_strs a]
theorem dep_tS (g : List Str) : (tS g).depth ≤ 1 := by
  unfold tS
  rw [PyData.depth, dep_strs]
  omega
theorem dep_tSs : ∀ l : Gs, PyData.depthAll (l.map tS) ≤ 1
  | [] => by simp [PyData.depthAll]
  | x :: a => by
    have h1 := dep_tSs a
    have h2 := dep_tS x
    rw [List.map_cons, PyData.depthAll]
    omega
theorem shaped_tS {g : List Str} (h : ∀ x ∈ g, IsName x) : SeqAt.shaped (tS g) = true := by
  have hd := dep_tS g
  show ((tS g).canLay0 && decide ((tS g).depth ≤ 64)) = true
  rw [Bool.and_eq_true]
  refine ⟨?_, decide_eq_true (by omega)⟩
  unfold tS
  rw [PyData.canLay0]
  exact lay_strs g h
theorem shaped_ltS {l : Gs} (h : ∀ g ∈ l, ∀ x ∈ g, IsName x) : SeqAt.shaped (.list (l.map tS)) = true := by
  have h1 := dep_tSs l
  have hd : (PyData.list (l.map tS)).depth ≤ 2 := by rw [PyData.depth]; omega
  show ((PyData.list (l.map tS)).canLay0 && decide ((PyData.list (l.map tS)).depth ≤ 64)) = true
  rw [Bool.and_eq_true]
  refine ⟨?_, decide_eq_true (by omega)⟩
  rw [PyData.canLay0]
  exact lay_tSs l h
theorem any_tS (g : List Str) : ∀ l : Gs, ((l.map tS).any fun z => PyData.eqv z (tS g)) = decide (g ∈ l)
  | [] => rfl
  | x :: l => by
    rw [List.map_cons, List.any_cons, any_tS g l, eqv_tS]
    by_cases e : x = g <;> simp [e]
    intro z
    exact absurd z.symm e
theorem any_gD (g : Gs) : ∀ l : List Gs, ((l.map gD).any fun z => PyData.eqv z (gD g)) = decide (g ∈ l)
  | [] => rfl
  | x :: l => by
    rw [List.map_cons, List.any_cons, any_gD g l, eqv_gD]
    by_cases e : x = g <;> simp [e]
    intro z
    exact absurd z.symm e
theorem dps_tS {K : PySem.W.Frag} {H : Hp} : ∀ {vs : List V} {l : Gs}, Paired (TupS H) vs l → DpAll K H vs (l.map tS)
  | _, _, .nil => .nil
  | _, _, .cons h t => .cons h.dp (dps_tS t)
def sp_law_ranked (K : PySem.W.Frag) : Sp := fun vs H Q _ => ∃ (a l : Addr) (th : List Str) (rs : List Int), vs = [.ref a, .ref l] ∧ H a = some (.tup (nm th)) ∧ H l = some (.lst (rs.map V.int)) ∧ th.length = rs.length ∧ Things th ∧ th.length ≤ 6 ∧ th ≠ [] ∧
  ∀ b gs H', Same H H' → GrpV H' (.ref b) gs → GoodGs gs → th.Perm gs.flatten → Q (.ref b) H'
section
variable {P : Program} {w : World} {K : PySem.W.Frag} {mg : Str → Option Value} {base : Heap}
theorem cl_law_ranked (T : Tops K mg) : Cl P w K mg base 2 "_law_ranked" ["_law_things_here", "_law_ranks"] (sp_law_ranked K) := by
  refine .of T.f_law_ranked sc_law_ranked (fun _ _ _ _ _ _ us hl => match us, hl with | [_, _], _ => rfl) (fun vs H Q E h => ?_) fun f cdv A outer s H vs Q E hr h => ?_
  · obtain ⟨_, _, _, _, rfl, _⟩ := h; rfl
  obtain ⟨a, l, th, rs, rfl, ha, hl, hlen, hT, h6, h0, q⟩ := h
  refine ⟨_, (pss_cons (ps_set (i := 2) sc_law_ranked.nd rfl (Or.inl rfl) (pe_lst pa_nil))
      (pss_cons (ps_for PassesOwn.never rfl (pi_listK (K := K) rfl (pe_callB (cr_sortedIK (K := K) rfl) (by rfl) (T.nn "sorted") rfl (pa_cons (pv 1) pa_nil))) (pg_name (i := 3) sc_law_ranked.nd rfl (Or.inr rfl))
       (pss_cons (ps_set (i := 4) sc_law_ranked.nd rfl (Or.inl rfl) (pe_callTy (call_tuple_ofK (K := K) rfl) (by rfl) (T.nn "tuple") rfl (pa_cons (pe_callB (cr_sortedSK (K := K) rfl) (by rfl) (T.nn "sorted") rfl (pa_cons (pe_lc (own := [("_law_k", 5)]) (by rfl) sc_law_ranked.nd (pi_range1 (by rfl) (T.nn "range") (pa_cons (pe_callB (call_len_seqK (K := K) rfl) (by rfl) (T.nn "len") rfl (pa_cons (pv 0) pa_nil)) pa_nil)) (blkOk_by (own := [("_law_k", 5)]) (N := N_law_ranked) (sc := defScope s_law_ranked) (by decide +kernel)) (fun _ _ _ _ _ => (pg_name (i := 5) sc_law_ranked.nd rfl (Or.inl rfl))) (fun _ _ _ _ _ => (pts_one (pt_cmpR op_eq (pe_ix (ix_listK (K := K) rfl) (pv 1) (pv 5) (fun _ _ => rfl)) (pv 3) (nomark _)))) (fun _ _ _ _ _ => (pe_ix (ix_tupK (K := K) rfl) (pv 0) (pv 5) (fun _ _ => rfl)))) pa_nil)) pa_nil)))
      (pss_one (ps_if (pt_cmpR (op_notInDK (K := K) rfl (hu65 hr)) (pv 4) (pv 2) (by rfl))
       (pss_one (ps_expr (pe_bmK (K := K) rfl PySem.F.plainAttrs_list PySem.F.slot_list_append PySem.F.type_list_append mt_append (pv 2) (pa_cons (pv 4) pa_nil))))
       pss_nil))))
      (pss_one (ps_ret (pe_callTy (call_tuple_ofK (K := K) rfl) (by rfl) (T.nn "tuple") rfl (pa_cons (pv 2) pa_nil)))))) , ?_⟩
  refine ⟨Nat.zero_le _, fun f0 nf0 => ?_⟩
  have e0 : Same H (upd H f0 (.lst [])) := same_new nf0
  refine ⟨_, rfl, l, rs, rfl, .of (e0 _ _ hl), by omega, fun ss l2 hps hss n2 => ?_⟩
  have e1 := e0.trans (same_new (o := .lst (ss.map V.int)) n2)
  have n02 : f0 ≠ l2 := fun z => by rw [← z, upd_same] at n2; cases n2
  refine ⟨l2, rfl, ⟨_, .of upd_same⟩, ?_⟩
  refine for_list (xs := ss.map V.int) (fun i σ' G => ∃ o3 o4 ds acc, σ' = [some (.ref a), some (.ref l), some (.ref f0), o3, o4, none] ∧ Same H G ∧ G l2 = some (.lst (ss.map V.int)) ∧ G f0 = some (.lst acc) ∧ Paired (TupS G) acc (ds.map (gr th rs)) ∧ ds.Nodup ∧ (∀ r, r ∈ ds ↔ r ∈ ss.take i) ∧ ds.length ≤ i) ⟨_, _, [], [], rfl, e1, upd_same, by rw [upd_ne n02]; exact upd_same, .nil, .nil, by simp, Nat.le_refl _⟩ (fun i σ' G _ hh => ?_) (fun i v σ' G hv hh => ?_) fun σ' G hh => ?_
  · obtain ⟨_, _, _, _, rfl, _, h, _⟩ := hh
    exact .of h
  · obtain ⟨o3, o4, ds, acc, rfl, eG, hl2, hf, pr, hdn, hdm, hdi⟩ := hh
    rw [List.getElem?_map] at hv
    obtain ⟨r, hr1, rfl⟩ := Option.map_eq_some_iff.mp hv
    have mrs : r ∈ rs := hps.subset (List.mem_of_getElem? hr1)
    refine ⟨_, rfl, a, _, rfl, .inr (.of (eG _ _ ha)), (nm th).length, rfl, by rw [List.length_map]; omega, by rw [List.length_map]; omega, fun D hD => ?_⟩
    have hzl : (th.zip rs).length = th.length := by rw [List.length_zip]; omega
    refine lcR (n := (nm th).length) (fun j acc2 _ => acc2 = nm ((((th.zip rs).take j).filter fun q => decide (q.2 = r)).map (·.1))) hD rfl (fun j G2 acc2 hj e2 hD2 hl3 hacc => ?_) fun G2 acc2 e2 hD2 hl3 hacc => ?_
    · rw [List.length_map] at hj
      have hz : (th.zip rs)[j]? = some (th[j], rs[j]) := by
        rw [List.getElem?_zip_eq_some]
        exact ⟨List.getElem?_eq_getElem hj, List.getElem?_eq_getElem (by omega)⟩
      have hl4 := e2 _ _ (eG _ _ hl)
      have ha4 := e2 _ _ (eG _ _ ha)
      have at1 : atI (rs.map V.int) (0 + (j : Int)) = some (.int rs[j]) := by
        rw [Int.zero_add]
        refine atI_nat ?_
        rw [List.getElem?_map, List.getElem?_eq_getElem (by omega)]
        rfl
      have at2 : atI (nm th) (0 + (j : Int)) = some (.str th[j]) := by
        rw [Int.zero_add]
        refine atI_nat ?_
        rw [List.getElem?_map, List.getElem?_eq_getElem hj]
        rfl
      refine ⟨rfl, _, rfl, _, rfl, l, _, _, .int rs[j], rfl, rfl, .of hl4, at1, _, rfl, rfl, ?_⟩
      have hfil := take_succ_filter (p := fun q : Str × Int => decide (q.2 = r)) hz
      by_cases hc : rs[j] = r
      · refine ⟨true, blT (by rw [hc]), iteT ⟨_, rfl, _, rfl, a, _, _, .str th[j], rfl, rfl, .of ha4, at2, lc_put hD e2 (.refl _) hD2 hl3 (by omega) ?_⟩⟩
        rw [hacc, hfil, if_pos (by simpa using hc), List.map_append]
        show _ = nm (_ ++ _)
        rw [nm_app]
        rfl
      · refine ⟨false, blF (fun z => hc (by injection z)), iteF (lc_skip e2 (.refl _) hD2 hl3 ?_)⟩
        rw [hacc, hfil, if_neg (by simpa using hc), List.append_nil]
    · have hacc2 : acc2 = nm (gr th rs r) := by
        rw [hacc, List.length_map, List.take_of_length_le (by omega)]
        rfl
      have hga := hT.asc.sublist (gr_sub hlen r)
      have hgl := (gr_sub hlen r).length_le
      refine ⟨D, gr th rs r, rfl, .of (by rw [hD2, hacc2]), by omega, fun ys l3 hpy hsy n3 => ?_⟩
      have ey : ys = gr th rs r := asc_uniq (asc_of hsy (hpy.nodup_iff.mpr (asc_nodup hga))) hga hpy
      subst ey
      refine ⟨l3, _, rfl, .inl ⟨.of upd_same, fun l4 n4 => ?_⟩⟩
      have e3 : Same G2 _ := same_new (o := .lst (nm (gr th rs r))) n3
      have e4 := e2.trans (e3.trans (same_new (o := .tup (nm (gr th rs r))) n4))
      have hg4 : upd (upd G2 l3 (.lst (nm (gr th rs r)))) l4 (.tup (nm (gr th rs r))) l4 = some (.tup (nm (gr th rs r))) := upd_same
      generalize upd (upd G2 l3 (.lst (nm (gr th rs r)))) l4 (.tup (nm (gr th rs r))) = G4 at *
      have hf4 := e4 _ _ hf
      have pr4 : Paired (TupS G4) acc (ds.map (gr th rs)) := paired_mono (fun v g h => by obtain ⟨b, rfl, h⟩ := h; exact ⟨b, rfl, e4 _ _ h⟩) pr
      have hal := paired_len pr4
      rw [List.length_map] at hal
      have hil := (List.getElem?_eq_some_iff.mp hr1).1
      have hssl := hps.length_eq
      have hin : ∀ r, r ∈ ds → r ∈ rs := fun r m => hps.subset (List.mem_of_mem_take ((hdm r).mp m))
      have hmem : gr th rs r ∈ ds.map (gr th rs) ↔ r ∈ ds := by
        constructor
        · intro m
          obtain ⟨r', mr', e⟩ := List.mem_map.mp m
          have := gr_inj hlen (asc_nodup hT.asc) (hin r' mr') e
          subst this
          exact mr'
        · exact fun m => List.mem_map.mpr ⟨r, m, rfl⟩
      refine ⟨_, rfl, _, rfl, tS (gr th rs r), (ds.map (gr th rs)).map tS, TupS.dp ⟨l4, rfl, hg4⟩, .lst (.of hf4) (dps_tS pr4), shaped_tS (fun x m => hT.nms x ((gr_sub hlen r).subset m)), shaped_ltS (fun g m x mx => ?_), ?_⟩
      · obtain ⟨r', _, rfl⟩ := List.mem_map.mp m
        exact hT.nms x ((gr_sub hlen r').subset mx)
      rw [any_tS]
      have htk : ∀ z, z ∈ ss.take (i + 1) ↔ z ∈ ss.take i ∨ z = r := fun z => by
        rw [List.take_succ, hr1, List.mem_append]
        simp
      by_cases hc : r ∈ ds
      · refine ⟨false, blN (hmem.mpr hc), iteF ?_⟩
        refine ⟨_, _, ds, acc, rfl, eG.trans e4, e4 _ _ hl2, hf4, pr4, hdn, fun z => ?_, by omega⟩
        rw [htk z, hdm z]
        constructor
        · exact .inl
        · rintro (h | h)
          · exact h
          · rw [h]; exact (hdm r).mp hc
      · refine ⟨true, blNF (fun z => hc (hmem.mp z)), iteT ?_⟩
        refine ⟨_, rfl, .inl ⟨rfl, _, .of hf4⟩, _, rfl, f0, acc, .ref l4, rfl, rfl, hf4, by rw [sizeLine_eq]; omega, ?_⟩
        refine ⟨_, _, ds ++ [r], acc ++ [.ref l4], rfl, lst_keep (eG.trans e4) nf0, ?_, upd_same, ?_, ?_, fun z => ?_, by rw [List.length_append]; show _ + 1 ≤ _; omega⟩
        · rw [upd_ne (Ne.symm n02)]; exact e4 _ _ hl2
        · rw [List.map_append]
          exact paired_snoc (tupS_upd hf4 ⟨l4, rfl, hg4⟩) (paired_mono (fun v g h => tupS_upd hf4 h) pr4)
        · exact List.nodup_append.mpr ⟨hdn, by simp, fun x mx y my e => hc (by have := List.mem_singleton.mp my; rw [← this, ← e]; exact mx)⟩
        · rw [htk z, List.mem_append, hdm z, List.mem_singleton]
  · obtain ⟨o3, o4, ds, acc, rfl, eG, hl2, hf, pr, hdn, hdm, hdi⟩ := hh
    rw [List.length_map, List.take_length] at hdm
    obtain ⟨gg, gp⟩ := ranked_good hlen hT (by omega) h0 hdn (fun r => (hdm r).trans hps.mem_iff)
    refine ⟨_, rfl, f0, acc, rfl, .inl ⟨.of hf, fun l5 n5 => ?_⟩⟩
    have e5 : Same G _ := same_new (o := .tup acc) n5
    exact q l5 _ _ (eG.trans e5) ⟨l5, acc, rfl, upd_same, paired_mono (fun v g h => by obtain ⟨b, rfl, h⟩ := h; exact ⟨b, rfl, e5 _ _ h⟩) pr⟩ gg gp
end
end SD
end
section
set_option Elab.async false
set_option linter.all false
set_option maxRecDepth 100000
set_option maxHeartbeats 4000000
/-! ### the law's helpers: groups, rows -/
namespace SD
open PySem PySem.Spec PyProof.Rows L2 LamX NdefX
open PySem.W (dataLe dataLt AllAlike Sortable)
abbrev rwF (z : Row × Addr) : V := .ref z.2
abbrev rwK (z : Row × Addr) : PyData := rD z.1
theorem alike_rD (a b : Row) : PySem.W.alike (rD a) (rD b) = true := by
  unfold rD
  simp [PySem.W.alike, PySem.W.alikeAll, alike_gD]
theorem rD_dep (r : Row) : (rD r).depth ≤ 3 := by
  have := gD_dep r.1
  unfold rD
  simp [PyData.depth, PyData.depthAll]
  omega
/-- what stands behind the groups of a row, in the order os -/
def doneL (gs : Gs) (os : List Str) : List Str := (gs.map fun g => os.filter fun x => decide (x ∈ g)).flatten
theorem ifS_asg {t : TT} {te : TE} {g : TG} {rest : TS} {D : Ends} {σ : L2.St} {H : Hp} (R : Bool → Hp → Prop) (Pv : L2.St → Hp → Prop) (hA : ∀ Z : Bool → Hp → Prop, (∀ b H', R b H' → Z b H') → t σ H Z) (hT : ∀ H', R true H' → ∀ Z : L2.St → Hp → Prop, (∀ σ' H'', Pv σ' H'' → Z σ' H'') → te σ H' fun v H2 => g v σ H2 Z)
    (hF : ∀ H', R false H' → Pv σ H') (q : ∀ σ' H', Pv σ' H' → rest D σ' H') : tSeq (tIfS t (tAsg te g) tNext) rest D σ H := by
  refine hA _ fun b H' r => ?_
  cases b with
  | true => exact hT H' r _ q
  | false => exact q _ _ (hF H' r)
theorem dps_gD {K : PySem.W.Frag} {H : Hp} : ∀ {vs : List V} {l : List Gs}, Paired (GrpV H) vs l → DpAll K H vs (l.map gD)
  | _, _, .nil => .nil
  | _, _, .cons h t => .cons h.dp (dps_gD t)
theorem row_dp {K : PySem.W.Frag} {H : Hp} {v : V} {r : Row} (h : RowV H v r) : Dp K H v (rD r) := by
  obtain ⟨a, g, rfl, ha, hg⟩ := h
  exact .tup (.of ha) (.cons hg.dp (.cons (.int _) .nil))
theorem row_zs {H : Hp} : ∀ {acc : List V} {rows : List Row}, Paired (RowV H) acc rows → ∃ zs : List (Row × Addr), acc = zs.map rwF ∧ zs.map (·.1) = rows ∧ ∀ z ∈ zs, RowV H (.ref z.2) z.1
  | _, _, .nil => ⟨[], rfl, rfl, (fun z m => nomatch m)⟩
  | _, _, .cons (b := b) h t => by
    obtain ⟨zs, h1, h2, h3⟩ := row_zs t
    obtain ⟨a, g, rfl, ha, hg⟩ := h
    refine ⟨(b, a) :: zs, by rw [h1]; rfl, by rw [List.map_cons, h2], fun z m => ?_⟩
    rcases List.mem_cons.mp m with e | e
    · subst e; exact ⟨a, g, rfl, ha, hg⟩
    · exact h3 z e
theorem paired_zs {H : Hp} : ∀ {zs : List (Row × Addr)}, (∀ z ∈ zs, RowV H (.ref z.2) z.1) → Paired (RowV H) (zs.map rwF) (zs.map (·.1))
  | [], _ => .nil
  | z :: zs, h => .cons (h z List.mem_cons_self) (paired_zs fun y m => h y (List.mem_cons_of_mem _ m))
theorem purse_same {H G : Hp} {p : Addr} (e : Same H G) (h : PurseAt H p) : PurseAt G p := let ⟨c, d, h1, h2⟩ := h; ⟨c, d, e _ _ h1, h2⟩
theorem rowV_pu {x : Addr} {H G : Hp} {c d : V} {v : V} {r : Row} (e : But x H G) (hx : H x = some (.lst [c, d])) (h : RowV H v r) : RowV G v r := by
  obtain ⟨a, g, rfl, ha, b, us, rfl, hb, hp⟩ := h
  refine ⟨a, _, rfl, e _ _ (ne_of ha hx (by simp)) ha, b, us, rfl, e _ _ (ne_of hb hx (by simp)) hb, paired_mono (fun v g h => ?_) hp⟩
  obtain ⟨b, rfl, h⟩ := h
  exact ⟨b, rfl, e _ _ (ne_of h hx (by simp)) h⟩
theorem grpV_pu {x : Addr} {H G : Hp} {c d : V} {v : V} {r : Gs} (e : But x H G) (hx : H x = some (.lst [c, d])) (h : GrpV H v r) : GrpV G v r := by
  obtain ⟨b, us, rfl, hb, hp⟩ := h
  refine ⟨b, us, rfl, e _ _ (ne_of hb hx (by simp)) hb, paired_mono (fun v g h => ?_) hp⟩
  obtain ⟨b, rfl, h⟩ := h
  exact ⟨b, rfl, e _ _ (ne_of h hx (by simp)) h⟩
theorem total_le {rows : List Row} {n k : Nat} (h : ∀ r ∈ rows, r.2 ≤ k) (hl : rows.length ≤ n) : total rows ≤ n * k := by
  unfold total
  have := sum_le (l := rows.map (·.2)) (b := k) fun x m => by obtain ⟨r, mr, rfl⟩ := List.mem_map.mp m; exact h r mr
  rw [List.length_map] at this
  exact Nat.le_trans this (Nat.mul_le_mul_right k hl)
def sp_law_groups : Sp := fun vs H Q _ => ∃ (p a : Addr) (th : List Str), vs = [.ref p, .ref a] ∧ PurseAt H p ∧ H a = some (.tup (nm th)) ∧ Things th ∧ th.length ≤ 6 ∧ th ≠ [] ∧
  ∀ b gs H', But p H H' → PurseAt H' p → GrpV H' (.ref b) gs → GoodGs gs → th.Perm gs.flatten → Q (.ref b) H'
def sp_law_done (K : PySem.W.Frag) : Sp := fun vs H Q _ => ∃ (g o : Addr) (gs : Gs) (os : List Str), vs = [.ref g, .ref o] ∧ GrpV H (.ref g) gs ∧ SqT K H o (nm os) ∧ gs.length ≤ 8 ∧ os.length ≤ 8 ∧ ∀ l H', Same H H' → FTup H' l (nm (doneL gs os)) → Q (.ref l) H'
def sp_law_rows : Sp := fun vs H Q _ => ∃ (p a : Addr) (m : Nat) (th : List Str), vs = [.ref p, .ref a, .int m] ∧ PurseAt H p ∧ 0 < m ∧ m ≤ 6 ∧ H a = some (.tup (nm th)) ∧ Things th ∧ th.length ≤ 6 ∧ th ≠ [] ∧
  ∀ l us rows H', But p H H' → PurseAt H' p → H' l = some (.lst us) → Paired (RowV H') us rows → GoodR rows th → Ord rows → (∀ r ∈ rows, r.2 ≤ 9) → rows.length ≤ 6 → Q (.ref l) H'
section
variable {P : Program} {w : World} {K : PySem.W.Frag} {mg : Str → Option Value} {base : Heap}
theorem cl_law_groups (T : Tops K mg) : Cl P w K mg base 3 "_law_groups" ["_law_purse_here", "_law_things_here"] sp_law_groups := by
  refine .of T.f_law_groups sc_law_groups (fun _ _ _ _ _ _ us hl => match us, hl with | [_, _], _ => rfl) (fun vs H Q E h => ?_) fun f cdv A outer s H vs Q E hr h => ?_
  · obtain ⟨_, _, _, rfl, _⟩ := h; rfl
  obtain ⟨p, a, th, rfl, hP, ha, hT, h6, h0, q⟩ := h
  refine ⟨_, (pss_cons (ps_set (i := 2) sc_law_groups.nd rfl (Or.inr rfl) (pe_op op_add pe_int (pe_cl (cl_law_draw T) hr (by decide) rfl (pa_cons (pv 0) (pa_cons (pe_callB (call_len_seqK (K := K) rfl) (by rfl) (T.nn "len") rfl (pa_cons (pv 1) pa_nil)) pa_nil)))))
      (pss_one (ps_ret (pe_cl (cl_law_ranked T) hr (by decide) rfl (pa_cons (pv 1) (pa_cons (pe_lc (own := [("_law_thing", 3)]) (by rfl) sc_law_groups.nd (pi_tupK (K := K) rfl (pv 1)) (blkOk_by (own := [("_law_thing", 3)]) (N := N_law_groups) (sc := defScope s_law_groups) (by decide +kernel)) (fun _ _ _ _ _ => (pg_name (i := 3) sc_law_groups.nd rfl (Or.inl rfl))) (fun _ _ _ _ _ => pts_nil) (fun _ _ _ _ _ => (pe_cl (cl_law_draw T) hr (by decide) rfl (pa_cons (pv 0) (pa_cons (pv 2) pa_nil))))) pa_nil)))))) , ?_⟩
  have hl0 : 0 < th.length := List.length_pos_iff.mpr h0
  refine ⟨_, rfl, _, rfl, a, _, rfl, .inr (.of ha), ?_⟩
  rw [List.length_map]
  refine ⟨p, th.length, rfl, hP, hl0, by omega, fun j H1 e1 hP1 hj => ⟨_, _, rfl, rfl, ?_⟩⟩
  have hap : a ≠ p := fun z => by obtain ⟨c, d, hp, _⟩ := hP; rw [z, hp] at ha; cases ha
  have ha1 := e1 _ _ hap ha
  refine ⟨_, rfl, _, rfl, a, rfl, ⟨_, .of ha1⟩, fun D hD => ?_⟩
  have hDp : D ≠ p := fun z => by obtain ⟨c, d, hp, _⟩ := hP1; rw [z, hp] at hD; cases hD
  refine loopT (xs := nm th) (fun i G => ∃ rs : List Int, (∀ b o, b ≠ p → H1 b = some o → G b = some o) ∧ PurseAt G p ∧ G D = some (.lst (rs.map V.int)) ∧ rs.length = i) (fun i G h => by obtain ⟨_, h, _⟩ := h; exact .inl (.inl (h _ _ hap ha1))) ⟨[], fun b o _ h => same_new hD _ _ h, by obtain ⟨c, d, hp, hc⟩ := hP1; exact ⟨c, d, same_new hD _ _ hp, hc⟩, upd_same, rfl⟩ (fun i x G hx hh => ?_) fun G hh => ?_
  · obtain ⟨rs, eG, hPG, hDG, hrl⟩ := hh
    have hi := (List.getElem?_eq_some_iff.mp hx).1
    rw [List.length_map] at hi
    refine ⟨rfl, tYesI ⟨_, rfl, _, rfl, p, j + 1, ?_, hPG, by omega, by omega, fun k G2 e2 hP2 hk => ⟨rs.map V.int, e2 _ _ hDp hDG, by rw [List.length_map, sizeLine_eq]; omega, rs ++ [(k : Int)], fun b o n h => ?_, ?_, ?_, by rw [List.length_append, hrl]; rfl⟩⟩⟩
    · have e : (1 : Int) + (j : Nat) = ((j + 1 : Nat) : Int) := by omega
      show [V.ref p, V.int (1 + (j : Int))] = _
      rw [e]
    · rw [upd_ne (ne_of_none h hD)]; exact e2 _ _ n (eG _ _ n h)
    · obtain ⟨c, d, hp, hc⟩ := hP2; exact ⟨c, d, by rw [upd_ne (Ne.symm hDp)]; exact hp, hc⟩
    · rw [upd_same, List.map_append]; rfl
  · obtain ⟨rs, eG, hPG, hDG, hrl⟩ := hh
    rw [List.length_map] at hrl
    refine ⟨a, D, th, rs, rfl, eG _ _ hap ha1, hDG, hrl.symm, hT, h6, h0, fun b gs G2 e2 hg hgg hgp => ?_⟩
    exact q b gs G2 (fun b o n h => e2 _ _ (eG _ _ n (e1 _ _ n h))) (by obtain ⟨c, d, hp, hc⟩ := hPG; exact ⟨c, d, e2 _ _ hp, hc⟩) hg hgg hgp
theorem cl_law_done (T : Tops K mg) : Cl P w K mg base 1 "_law_done" ["_law_groups_here", "_law_order_here"] (sp_law_done K) := by
  refine .of T.f_law_done sc_law_done (fun _ _ _ _ _ _ us hl => match us, hl with | [_, _], _ => rfl) (fun vs H Q E h => ?_) fun f cdv A outer s H vs Q E hr h => ?_
  · obtain ⟨_, _, _, _, rfl, _⟩ := h; rfl
  obtain ⟨g, o, gs, os, rfl, ⟨g', us, eg, hg, hp⟩, ho, hg8, ho8, q⟩ := h
  cases eg
  refine ⟨_, (pss_cons (ps_set (i := 2) sc_law_done.nd rfl (Or.inl rfl) (pe_lst pa_nil))
      (pss_cons (ps_for PassesOwn.never rfl (pi_tupK (K := K) rfl (pv 0)) (pg_name (i := 3) sc_law_done.nd rfl (Or.inr rfl))
       (pss_one (ps_set (i := 2) sc_law_done.nd rfl (Or.inl rfl) (pe_op op_cat (pv 2) (pe_lc (own := [("_law_thing", 4)]) (by rfl) sc_law_done.nd (pi_tupK (K := K) rfl (pv 1)) (blkOk_by (own := [("_law_thing", 4)]) (N := N_law_done) (sc := defScope s_law_done) (by decide +kernel)) (fun _ _ _ _ _ => (pg_name (i := 4) sc_law_done.nd rfl (Or.inl rfl))) (fun _ _ _ _ _ => (pts_one (pt_cmpR (op_in_seqK (K := K) rfl) (pv 4) (pv 3) (by rfl)))) (fun _ _ _ _ _ => (pv 4)))))))
      (pss_one (ps_ret (pe_callTy (call_tuple_FK (K := K) rfl) (by rfl) (T.nn "tuple") rfl (pa_cons (pv 2) pa_nil)))))) , ?_⟩
  have hul := paired_len hp
  have hle : ∀ k, (doneL (gs.take k) os).length ≤ k * 8 := fun k => by
    unfold doneL
    rw [List.length_flatten]
    have := sum_le (l := (List.map (fun g => os.filter fun x => decide (x ∈ g)) (gs.take k)).map List.length) (b := 8) fun n m => by
      obtain ⟨x, mx, rfl⟩ := List.mem_map.mp m
      obtain ⟨y, _, rfl⟩ := List.mem_map.mp mx
      have := List.length_filter_le (fun x => decide (x ∈ y)) os
      omega
    rw [List.length_map, List.length_map, List.length_take] at this
    have h2 : min k gs.length * 8 ≤ k * 8 := Nat.mul_le_mul_right 8 (Nat.min_le_left _ _)
    omega
  refine ⟨Nat.zero_le _, fun f0 nf0 => ?_⟩
  have e0 : Same H (upd H f0 (.lst [])) := same_new nf0
  refine ⟨_, rfl, g, rfl, ⟨_, .of (e0 _ _ hg)⟩, ?_⟩
  refine for_tup (xs := us) (fun i σ' G => ∃ l3 o3, σ' = [some (.ref g), some (.ref o), some (.ref l3), o3, none] ∧ Same H G ∧ G l3 = some (.lst (nm (doneL (gs.take i) os)))) ⟨_, _, rfl, e0, upd_same⟩ (fun i σ' G _ hh => ?_) (fun i v σ' G hv hh => ?_) fun σ' G hh => ?_
  · obtain ⟨_, _, _, eG, _⟩ := hh
    exact .of (eG _ _ hg)
  · obtain ⟨l3, o3, rfl, eG, h3⟩ := hh
    obtain ⟨gg, hgg, ba, rfl, hba⟩ := paired_at hp hv
    have hi := (List.getElem?_eq_some_iff.mp hv).1
    refine ⟨_, rfl, _, rfl, o, rfl, ⟨_, eG.sqT ho⟩, fun D hD => ?_⟩
    refine lcT (fun j acc2 _ => acc2 = nm ((os.take j).filter fun x => decide (x ∈ gg))) (xs := nm os) (eG.sqT ho) hD rfl (fun j x G2 acc2 hx e2 hD2 hl3 hacc => ?_) fun G2 acc2 e2 hD2 hl3 hacc => ?_
    · obtain ⟨z, hz, rfl⟩ := nm_at hx
      have hj := (List.getElem?_eq_some_iff.mp hz).1
      have hba2 := e2 _ _ (eG _ _ hba)
      have hfil := take_succ_filter (p := fun x => decide (x ∈ gg)) hz
      refine ⟨rfl, _, rfl, _, rfl, ba, _, rfl, .inr (.of hba2), rfl, flat_strs _, decide (z ∈ gg), ?_, ?_⟩
      · show V.bl (inV (.str z) (nm gg)) = _
        rw [inV_strs]
      by_cases hc : z ∈ gg
      · rw [decide_eq_true hc]
        refine iteT ⟨_, rfl, lc_put hD e2 (.refl _) hD2 hl3 (by omega) ?_⟩
        rw [hacc, hfil, if_pos (by simpa using hc), nm_app]
        rfl
      · rw [decide_eq_false hc]
        refine iteF (lc_skip e2 (.refl _) hD2 hl3 ?_)
        rw [hacc, hfil, if_neg (by simpa using hc), List.append_nil]
    · rw [List.length_map, List.take_length] at hacc
      have h32 := e2 _ _ h3
      refine ⟨l3, D, _, _, rfl, rfl, h32, hD2, ?_, fun l4 n4 => ?_⟩
      · have h1 := hle i
        have h2 := List.length_filter_le (fun x => decide (x ∈ gg)) os
        rw [hacc, List.length_map, List.length_map, sizeLine_eq]
        omega
      · refine ⟨l4, _, rfl, eG.trans (e2.trans (same_new n4)), ?_⟩
        rw [upd_same, hacc, ← nm_app]
        congr 3
        unfold doneL
        rw [List.take_succ, hgg, List.map_append, List.flatten_append]
        simp
  · obtain ⟨l3, o3, rfl, eG, h3⟩ := hh
    rw [hul, List.take_length] at h3
    refine ⟨_, rfl, l3, _, rfl, .of h3, fun l4 o4 n4 ho4 => ?_⟩
    exact q l4 _ (eG.trans (same_new n4)) ⟨o4, upd_same, ho4⟩
structure RowsIn (th : List Str) (rows : List Row) : Prop where
  nd : (rows.map (·.1)).Nodup
  all : ∀ r ∈ rows, GoodGs r.1 ∧ 1 ≤ r.2 ∧ th.Perm r.1.flatten
  le : ∀ r ∈ rows, r.2 ≤ 7
theorem cl_law_rows (T : Tops K mg) : Cl P w K mg base 4 "_law_rows" ["_law_purse_here", "_law_things_here", "_law_most"] sp_law_rows := by
  refine .of T.f_law_rows sc_law_rows (fun _ _ _ _ _ _ us hl => match us, hl with | [_, _, _], _ => rfl) (fun vs H Q E h => ?_) fun f cdv A outer s H vs Q E hr h => ?_
  · obtain ⟨_, _, _, _, rfl, _⟩ := h; rfl
  obtain ⟨p, a, m, th, rfl, hP, hm0, hm6, ha, hT, h6, h0, q⟩ := h
  refine ⟨_, (pss_cons (ps_set (i := 3) sc_law_rows.nd rfl (Or.inl rfl) (pe_lst pa_nil))
      (pss_cons (ps_for PassesOwn.never rfl (pi_range1 (by rfl) (T.nn "range") (pa_cons (pe_op op_add pe_int (pe_cl (cl_law_draw T) hr (by decide) rfl (pa_cons (pv 0) (pa_cons (pv 2) pa_nil)))) pa_nil)) (pg_name (i := 4) sc_law_rows.nd rfl (Or.inl rfl))
       (pss_cons (ps_set (i := 5) sc_law_rows.nd rfl (Or.inl rfl) (pe_cl (cl_law_groups T) hr (by decide) rfl (pa_cons (pv 0) (pa_cons (pv 1) pa_nil))))
      (pss_cons (ps_if (pt_cmpR op_eq (pe_cl (cl_law_draw T) hr (by decide) rfl (pa_cons (pv 0) (pa_cons pe_int pa_nil))) pe_int (nomark _))
       (pss_one (ps_set (i := 5) sc_law_rows.nd rfl (Or.inl rfl) (pe_cl (cl_law_ranked T) hr (by decide) rfl (pa_cons (pv 1) (pa_cons (pe_lc (own := [("_law_thing", 6)]) (by rfl) sc_law_rows.nd (pi_tupK (K := K) rfl (pv 1)) (blkOk_by (own := [("_law_thing", 6)]) (N := N_law_rows) (sc := defScope s_law_rows) (by decide +kernel)) (fun _ _ _ _ _ => (pg_name (i := 6) sc_law_rows.nd rfl (Or.inl rfl))) (fun _ _ _ _ _ => pts_nil) (fun _ _ _ _ _ => (pe_cl (cl_law_draw T) hr (by decide) rfl (pa_cons (pv 0) (pa_cons pe_int pa_nil))))) pa_nil)))))
       pss_nil)
      (pss_one (ps_if (pt_cmpR (op_notInDK (K := K) rfl (hu65 hr)) (pv 5) (pe_lc (own := [("_law_row", 7)]) (by rfl) sc_law_rows.nd (pi_listK (K := K) rfl (pv 3)) (blkOk_by (own := [("_law_row", 7)]) (N := N_law_rows) (sc := defScope s_law_rows) (by decide +kernel)) (fun _ _ _ _ _ => (pg_name (i := 7) sc_law_rows.nd rfl (Or.inl rfl))) (fun _ _ _ _ _ => pts_nil) (fun _ _ _ _ _ => (pe_ix (ix_tupK (K := K) rfl) (pv 7) pe_int (fun _ _ => rfl)))) (by rfl))
       (pss_one (ps_expr (pe_bmK (K := K) rfl PySem.F.plainAttrs_list PySem.F.slot_list_append PySem.F.type_list_append mt_append (pv 3) (pa_cons (pe_tup (pa_cons (pv 5) (pa_cons (pe_op op_add pe_int (pe_cl (cl_law_draw T) hr (by decide) rfl (pa_cons (pv 0) (pa_cons (pe_ix (ix_listK (K := K) rfl) (pe_lst (pa_cons pe_int (pa_cons pe_int (pa_cons pe_int pa_nil)))) (pe_cl (cl_law_draw T) hr (by decide) rfl (pa_cons (pv 0) (pa_cons pe_int pa_nil))) (fun _ _ => rfl)) pa_nil)))) pa_nil))) pa_nil))))
       pss_nil)))))
      (pss_one (ps_ret (pe_callB (cr_sortDK rwF rwK rfl (hu64 hr)) (by rfl) (T.nn "sorted") rfl (pa_cons (pv 3) pa_nil)))))) , ?_⟩
  refine ⟨Nat.zero_le _, fun f0 nf0 => ?_⟩
  have e0 : Same H (upd H f0 (.lst [])) := same_new nf0
  have hap : a ≠ p := fun z => by obtain ⟨c, d, hp, _⟩ := hP; rw [z, hp] at ha; cases ha
  have hfp : f0 ≠ p := fun z => by obtain ⟨c, d, hp, _⟩ := hP; rw [z, hp] at nf0; cases nf0
  refine ⟨_, rfl, _, rfl, p, m, rfl, purse_same e0 hP, hm0, by omega, fun j0 H1 e1 hP1 hj0 => ?_⟩
  refine ⟨_, _, rfl, rfl, (1 : Int) + (j0 : Nat), rfl, by omega, by omega, ?_⟩
  have en : ((1 : Int) + (j0 : Nat)).toNat = j0 + 1 := by omega
  rw [en]
  refine for_range (lo := 0) (n := j0 + 1) (fun i σ' G => ∃ o4 o5 acc rows, σ' = [some (.ref p), some (.ref a), some (.int m), some (.ref f0), o4, o5, none, none] ∧ But p H G ∧ PurseAt G p ∧ G f0 = some (.lst acc) ∧ Paired (RowV G) acc rows ∧ RowsIn th rows ∧ rows.length ≤ i ∧ (1 ≤ i → rows ≠ [])) ⟨_, _, [], [], rfl, fun b o n h => e1 _ _ n (e0 _ _ h), hP1, e1 _ _ hfp upd_same, .nil, ⟨.nil, (fun r m => nomatch m), (fun r m => nomatch m)⟩, Nat.le_refl _, fun h => by omega⟩ (fun i σ' G hi hh => ?_) fun σ' G hh => ?_
  · obtain ⟨o4, o5, acc, rows, rfl, eG, hPG, hfG, pr, ri, hri, hne⟩ := hh
    have haG := eG _ _ hap ha
    refine ⟨_, rfl, _, rfl, p, a, th, rfl, hPG, haG, hT, h6, h0, fun b gs G1 e2 hP2 hg hgg hgp => ?_⟩
    dsimp only
    refine ifS_asg (fun _ G2 => But p G1 G2 ∧ PurseAt G2 p) (fun σ' G2 => ∃ b gs, σ' = [some (.ref p), some (.ref a), some (.int m), some (.ref f0), some (.int (0 + (i : Nat))), some (.ref b), none, none] ∧ But p G G2 ∧ PurseAt G2 p ∧ GrpV G2 (.ref b) gs ∧ GoodGs gs ∧ th.Perm gs.flatten) (fun Z hZ => ?_) (fun G2 hR Z hZ => ?_) (fun G2 hR => ?_) fun σ' G2 hh => ?_
    · refine ⟨_, rfl, p, 3, rfl, hP2, by omega, by omega, fun k G2 e3 hP3 hk => ⟨rfl, _, rfl, hZ _ _ ⟨e3, hP3⟩⟩⟩
    · obtain ⟨e3, hP3⟩ := hR
      have ha1 := e3 _ _ hap (e2 _ _ hap haG)
      refine ⟨_, rfl, _, rfl, a, rfl, ⟨_, .of ha1⟩, fun D hD => ?_⟩
      have hDp : D ≠ p := fun z => by obtain ⟨c, d, hp, _⟩ := hP3; rw [z, hp] at hD; cases hD
      refine loopT (xs := nm th) (fun i G => ∃ rs : List Int, (∀ b o, b ≠ p → G2 b = some o → G b = some o) ∧ PurseAt G p ∧ G D = some (.lst (rs.map V.int)) ∧ rs.length = i) (fun i G h => by obtain ⟨_, h, _⟩ := h; exact .inl (.inl (h _ _ hap ha1))) ⟨[], fun b o _ h => same_new hD _ _ h, by obtain ⟨c, d, hp, hc⟩ := hP3; exact ⟨c, d, same_new hD _ _ hp, hc⟩, upd_same, rfl⟩ (fun i x G hx hh => ?_) fun G hh => ?_
      · obtain ⟨rs, eG, hPG, hDG, hrl⟩ := hh
        have hi := (List.getElem?_eq_some_iff.mp hx).1
        rw [List.length_map] at hi
        refine ⟨rfl, tYesI ⟨_, rfl, p, 2, rfl, hPG, by omega, by omega, fun k G2 e2 hP2 hk => ⟨rs.map V.int, e2 _ _ hDp hDG, by rw [List.length_map, sizeLine_eq]; omega, rs ++ [(k : Int)], fun b o n h => ?_, ?_, ?_, by rw [List.length_append, hrl]; rfl⟩⟩⟩
        · rw [upd_ne (ne_of_none h hD)]; exact e2 _ _ n (eG _ _ n h)
        · obtain ⟨c, d, hp, hc⟩ := hP2; exact ⟨c, d, by rw [upd_ne (Ne.symm hDp)]; exact hp, hc⟩
        · rw [upd_same, List.map_append]; rfl
      · obtain ⟨rs, eG4, hPG4, hDG, hrl⟩ := hh
        rw [List.length_map] at hrl
        refine ⟨a, D, th, rs, rfl, eG4 _ _ hap ha1, hDG, hrl.symm, hT, h6, h0, fun b gs G5 e5 hg hgg hgp => ?_⟩
        exact hZ _ _ ⟨b, gs, rfl, fun b o n h => e5 _ _ (eG4 _ _ n (e3 _ _ n (e2 _ _ n h))), purse_same e5 hPG4, hg, hgg, hgp⟩
    · obtain ⟨e3, hP3⟩ := hR
      obtain ⟨c, d, hp, _⟩ := hP2
      exact ⟨b, gs, rfl, fun b o n h => e3 _ _ n (e2 _ _ n h), hP3, grpV_pu e3 hp hg, hgg, hgp⟩
    · clear hg hgg hgp e2 hP2
      obtain ⟨b, gs, rfl, e2, hP2, hg, hgg, hgp⟩ := hh
      obtain ⟨c, d, hp, _⟩ := id hPG
      have hf2 := e2 _ _ hfp hfG
      have pr2 : Paired (RowV G2) acc rows := paired_mono (fun v r h => rowV_pu e2 hp h) pr
      have hal := paired_len pr2
      refine ⟨_, rfl, _, rfl, f0, rfl, ⟨_, .of hf2⟩, fun D hD => ?_⟩
      refine lcL (fun j acc2 G3 => Paired (GrpV G3) acc2 ((rows.take j).map (·.1))) (xs := acc) (.of hf2) hD .nil (fun j v G3 acc2 hv e3 hD3 hl3 hacc => ?_) fun G3 acc2 e3 hD3 hl3 hacc => ?_
      · obtain ⟨r, hr1, ba, gv, rfl, hba, hgv⟩ := paired_at pr2 hv
        have hj := (List.getElem?_eq_some_iff.mp hr1).1
        refine ⟨rfl, tYesI ⟨_, rfl, ba, _, _, gv, rfl, rfl, .of (e3 _ _ hba), rfl, lc_put hD e3 (.refl _) hD3 hl3 (by omega) ?_⟩⟩
        rw [take_succ_map hr1]
        exact paired_snoc (grpV_upd hD3 (fun _ z => by cases z) (hgv.same e3)) (paired_mono (fun v g h => grpV_upd hD3 (fun _ z => by cases z) h) hacc)
      · rw [hal, List.take_length] at hacc
        have hg3 := hg.same e3
        have hnms : ∀ gs ∈ rows.map (·.1), ∀ g ∈ gs, ∀ x ∈ g, IsName x := fun gs m => by
          obtain ⟨r, mr, rfl⟩ := List.mem_map.mp m
          exact (ri.all r mr).1.nms
        refine ⟨gD gs, (rows.map (·.1)).map gD, hg3.dp, .lst (.of hD3) (dps_gD hacc), shaped_gD hgg.nms, shaped_lgD hnms, ?_⟩
        rw [any_gD]
        have hf3 := e3 _ _ hf2
        have pr3 : Paired (RowV G3) acc rows := rows_same e3 pr2
        by_cases hc : gs ∈ rows.map (·.1)
        · refine ⟨false, blN hc, iteF ?_⟩
          exact ⟨_, _, acc, rows, rfl, fun b o n h => e3 _ _ (e2 _ _ n (eG _ _ n h)), purse_same e3 hP2, hf3, pr3, ri, by omega, fun _ z => by rw [z] at hc; cases hc⟩
        · refine ⟨true, blNF hc, iteT ?_⟩
          have hP3 := purse_same e3 hP2
          refine ⟨_, rfl, .inl ⟨rfl, _, .of hf3⟩, _, rfl, _, rfl, by show 3 ≤ sizeLine; decide, fun l4 n4 => ?_⟩
          have e4 : Same G3 (upd G3 l4 (.lst [.int 1, .int 3, .int 7])) := same_new n4
          have hl4p : l4 ≠ p := fun z => by obtain ⟨c, d, hp, _⟩ := hP3; rw [z, hp] at n4; cases n4
          refine ⟨_, rfl, p, 3, rfl, purse_same e4 hP3, by omega, by omega, fun k G5 e5 hP5 hk => ?_⟩
          have hl5 := e5 _ _ hl4p (show upd G3 l4 (.lst [.int 1, .int 3, .int 7]) l4 = _ from upd_same)
          obtain ⟨mm, hm1, hm7, hmx⟩ : ∃ mm : Nat, 0 < mm ∧ mm ≤ 7 ∧ atI [V.int 1, .int 3, .int 7] (k : Int) = some (.int (mm : Nat)) := by
            match k, hk with
            | 0, _ => exact ⟨1, by decide, by decide, rfl⟩
            | 1, _ => exact ⟨3, by decide, by decide, rfl⟩
            | 2, _ => exact ⟨7, by decide, by decide, rfl⟩
          refine ⟨l4, _, _, .int (mm : Nat), rfl, rfl, .of hl5, hmx, p, mm, rfl, hP5, hm1, by omega, fun t G6 e6 hP6 ht => ⟨_, _, rfl, rfl, by show 2 ≤ sizeLine; decide, fun tp htp => ?_⟩⟩
          have eb : But p G3 G6 := fun b o n h => e6 _ _ n (e5 _ _ n (e4 _ _ h))
          obtain ⟨c3, d3, hp3, _⟩ := id hP3
          have hf6 := eb _ _ hfp hf3
          have e7 : Same G6 (upd G6 tp (.tup [.ref b, .int (1 + (t : Int))])) := same_new htp
          have hf7 := e7 _ _ hf6
          refine ⟨f0, acc, .ref tp, rfl, rfl, hf7, by rw [sizeLine_eq]; omega, ?_⟩
          have hrow : RowV (upd G6 tp (.tup [.ref b, .int (1 + (t : Int))])) (.ref tp) (gs, t + 1) := by
            refine ⟨tp, .ref b, rfl, ?_, (grpV_pu eb hp3 hg3).same e7⟩
            rw [upd_same]
            have : (1 : Int) + (t : Nat) = ((t + 1 : Nat) : Int) := by omega
            rw [this]
          have pr7 : Paired (RowV (upd G6 tp (.tup [.ref b, .int (1 + (t : Int))]))) acc rows := rows_same e7 (paired_mono (fun v r h => rowV_pu eb hp3 h) pr3)
          refine ⟨_, _, acc ++ [.ref tp], rows ++ [(gs, t + 1)], rfl, fun b o n h => ?_, ?_, upd_same, ?_, ⟨?_, fun r mr => ?_, fun r mr => ?_⟩, by rw [List.length_append]; show _ + 1 ≤ _; omega, fun _ z => by simp at z⟩
          · rw [upd_ne (ne_of_none h nf0)]
            exact e7 _ _ (eb _ _ n (e3 _ _ (e2 _ _ n (eG _ _ n h))))
          · obtain ⟨c, d, hp, hc⟩ := hP6
            exact ⟨c, d, by rw [upd_ne (Ne.symm hfp)]; exact e7 _ _ hp, hc⟩
          · exact paired_snoc (rowV_upd hf7 (fun _ z => by cases z) hrow) (paired_mono (fun v g h => rowV_upd hf7 (fun _ z => by cases z) h) pr7)
          · rw [List.map_append]
            exact List.nodup_append.mpr ⟨ri.nd, by simp, fun x mx y my e => hc (by have : y = gs := by simpa using my
                                                                                   rw [← this, ← e]; exact mx)⟩
          · rcases List.mem_append.mp mr with m | m
            · exact ri.all r m
            · have : r = (gs, t + 1) := List.mem_singleton.mp m
              subst this
              exact ⟨hgg, by simp only; omega, hgp⟩
          · rcases List.mem_append.mp mr with m | m
            · exact ri.le r m
            · have : r = (gs, t + 1) := List.mem_singleton.mp m
              subst this
              simp only; omega
  · obtain ⟨o4, o5, acc, rows, rfl, eG, hPG, hfG, pr, ri, hri, hne⟩ := hh
    obtain ⟨zs, rfl, hz1, hz2⟩ := row_zs pr
    have hzl : zs.length = rows.length := by rw [← hz1, List.length_map]
    refine ⟨_, rfl, f0, zs, rfl, .of hfG, fun z m => row_dp (hz2 z m), PySem.W.AllAlike.of (fun a b => alike_rD a.1 b.1), Or.inl fun dd m => ?_, by rw [sizeLine_eq]; omega, fun z m => by have := rD_dep z.1; show (rD z.1).depth ≤ 50; omega, fun l2 n2 => ?_⟩
    · obtain ⟨z, mz, e⟩ := List.mem_map.mp m
      subst e
      exact ⟨_, _, rfl⟩
    have e3 : Same G (upd G l2 (.lst ((srt rwK zs).map rwF))) := same_new n2
    have hperm : (srt rwK zs).Perm zs := List.mergeSort_perm _ _
    have hrows : (srt rwK zs).map (·.1) = rows.mergeSort rle := by
      rw [← hz1]
      exact List.map_mergeSort fun a _ b _ => rfl
    have hp2 : (rows.mergeSort rle).Perm rows := List.mergeSort_perm _ _
    have hor : (rows.mergeSort rle).Pairwise fun a b => rle a b = true := List.pairwise_mergeSort (fun a b c => (dle_total rD).trans a b c) (fun a b => by
      have := (dle_total rD).total a b
      simpa using this) _
    refine q l2 _ (rows.mergeSort rle) _ (fun b o n h => e3 _ _ (eG _ _ n h)) (purse_same e3 hPG) upd_same ?_ ⟨?_, ?_, fun r m => ri.all r (hp2.subset m), hT.asc, (hp2.map _).nodup_iff.mpr ri.nd, ?_⟩ ⟨(hp2.map _).nodup_iff.mpr ri.nd, ?_⟩ (fun r m => by have := ri.le r (hp2.subset m); omega) (by rw [hp2.length_eq]; omega)
    · rw [← hrows]
      exact paired_zs fun z m => by
        obtain ⟨a, g, e, h1, h2⟩ := hz2 z (hperm.subset m)
        exact ⟨a, g, e, e3 _ _ h1, h2.same e3⟩
    · intro z
      have := hp2.length_eq
      rw [z] at this
      exact hne (by omega) (List.eq_nil_of_length_eq_zero this.symm)
    · rw [hp2.length_eq]; omega
    · have := total_le (n := 6) (k := 7) (rows := rows.mergeSort rle) (fun r m => ri.le r (hp2.subset m)) (by rw [hp2.length_eq]; omega)
      omega
    · rw [List.pairwise_map]
      exact hor.imp fun h => rle_gle h
end
end SD
end
section
set_option Elab.async false
set_option linter.all false
set_option maxRecDepth 100000
set_option maxHeartbeats 4000000
/-! ### the law's levels -/
namespace SD
open PySem PySem.Spec PyProof.Rows L2 LamX NdefX
abbrev s_law_next : Stmt := top 100
abbrev N_law_next : List Str := ["_law_rows_here", "_law_counts", "_law_found", "_law_order_here", "_law_groups_here", "_law_tickets", "_law_end"]
theorem sc_law_next : FnScope N_law_next ["_law_rows_here", "_law_counts"] (defScope s_law_next) := ⟨rfl, rfl, rfl, by decide +kernel, rfl, by decide +kernel, by decide +kernel⟩
abbrev s_law_levels : Stmt := top 101
abbrev N_law_levels : List Str := ["_law_rows_here", "_law_begin", "_law_most", "_law_found", "_law_turn"]
theorem sc_law_levels : FnScope N_law_levels ["_law_rows_here", "_law_begin", "_law_most"] (defScope s_law_levels) := ⟨rfl, rfl, rfl, by decide +kernel, rfl, by decide +kernel, by decide +kernel⟩
abbrev s_law_ahead : Stmt := top 102
abbrev N_law_ahead : List Str := ["_law_level", "_law_x", "_law_y", "_law_goal"]
theorem sc_law_ahead : FnScope N_law_ahead ["_law_level", "_law_x", "_law_y"] (defScope s_law_ahead) := ⟨rfl, rfl, rfl, by decide +kernel, rfl, by decide +kernel, by decide +kernel⟩
def wt (φ : List Str → Int) (xs : Lv) : Int := (xs.map fun e => φ e.1 * e.2.2).sum
theorem wt_cons (φ : List Str → Int) (e : List Str × Addr × Int) (xs : Lv) : wt φ (e :: xs) = φ e.1 * e.2.2 + wt φ xs := by unfold wt; rw [List.map_cons, List.sum_cons]
theorem wt_snoc (φ : List Str → Int) (e : List Str × Addr × Int) : ∀ xs : Lv, wt φ (xs ++ [e]) = wt φ xs + φ e.1 * e.2.2
  | [] => by show wt φ [e] = _; rw [wt_cons]; show _ + 0 = 0 + _; omega
  | a :: xs => by rw [List.cons_append, wt_cons, wt_cons, wt_snoc φ e xs]; omega
theorem wt_map (φ : List Str → Int) (g : List Str) (n v : Int) : ∀ xs : Lv, (xs.map (·.1)).Nodup → lget xs g = some v → wt φ (xs.map fun x => if x.1 = g then (x.1, x.2.1, n) else x) = wt φ xs + φ g * (n - v)
  | [], _, h => by simp [lget] at h
  | e :: xs, nd, h => by
    rw [List.map_cons, List.nodup_cons] at nd
    rw [List.map_cons, wt_cons, wt_cons]
    by_cases c : e.1 = g
    · have hv : e.2.2 = v := by
        unfold lget at h
        rw [List.find?_cons_of_pos (by simpa using c)] at h
        exact Option.some.inj h
      have hid : xs.map (fun x => if x.1 = g then (x.1, x.2.1, n) else x) = xs := by
        conv => rhs; rw [← List.map_id xs]
        refine List.map_congr_left fun x m => ?_
        rw [if_neg (fun z => nd.1 (by rw [c, ← z]; exact List.mem_map.mpr ⟨x, m, rfl⟩))]
        rfl
      rw [if_pos c, hid, ← hv, c]
      show φ g * n + _ = _
      rw [Int.mul_sub]
      omega
    · have h2 : lget xs g = some v := by
        unfold lget at h ⊢
        rw [List.find?_cons_of_neg (by simpa using c)] at h
        exact h
      rw [if_neg c, wt_map φ g n v xs nd.2 h2]
      omega
theorem wt_put (φ : List Str → Int) {xs : Lv} (nd : (xs.map (·.1)).Nodup) (g : List Str) (a : Addr) (δ : Int) : wt φ (lput xs g a ((lget xs g).getD 0 + δ)) = wt φ xs + φ g * δ := by
  unfold lput
  cases h : lget xs g with
  | none =>
    rw [if_neg (by simp), wt_snoc]
    show _ + φ g * (0 + δ) = _
    rw [Int.zero_add]
  | some v =>
    rw [if_pos (by simp), wt_map φ g _ v xs nd h]
    show _ + φ g * (v + δ - v) = _
    congr 2
    omega
def stepW (rows : List Row) (φ : List Str → Int) (os : List Str) (n : Int) : Int := (rows.map fun r => φ (doneL r.1 os) * (n * (r.2 : Nat))).sum
def nextW (rows : List Row) (φ : List Str → Int) (xs : Lv) : Int := (xs.map fun e => stepW rows φ e.1 e.2.2).sum
theorem sumI_snoc (l : List Int) (a : Int) : (l ++ [a]).sum = l.sum + a := by
  induction l with
  | nil => simp
  | cons b l ih => rw [List.cons_append, List.sum_cons, List.sum_cons, ih]; omega
theorem done_perm {gs : Gs} {th os : List Str} (G : GoodGs gs) (hp : th.Perm gs.flatten) (hn : th.Nodup) (ho : os.Perm th) : (doneL gs os).Perm th := by
  have hos := ho.nodup_iff.mpr hn
  have hd := (List.pairwise_flatten.mp G.nd).2
  refine (List.perm_ext_iff_of_nodup ?_ hn).mpr fun x => ?_
  · refine List.pairwise_flatten.mpr ⟨fun l m => ?_, ?_⟩
    · obtain ⟨g, _, rfl⟩ := List.mem_map.mp m
      exact hos.sublist List.filter_sublist
    · rw [List.pairwise_map]
      exact hd.imp fun {a b} hab x hx y hy => hab x (by simpa using (List.mem_filter.mp hx).2) y (by simpa using (List.mem_filter.mp hy).2)
  · unfold doneL
    rw [List.mem_flatten]
    constructor
    · rintro ⟨l, ml, mx⟩
      obtain ⟨g, _, rfl⟩ := List.mem_map.mp ml
      exact ho.subset (List.mem_filter.mp mx).1
    · intro mx
      obtain ⟨g, mg, mxg⟩ := List.mem_flatten.mp (hp.subset mx)
      exact ⟨_, List.mem_map.mpr ⟨g, mg, rfl⟩, List.mem_filter.mpr ⟨ho.symm.subset mx, by simpa using mxg⟩⟩
theorem lget_at : ∀ {xs : Lv} {i : Nat} {g : List Str} {a : Addr} {n : Int}, (xs.map (·.1)).Nodup → xs[i]? = some (g, a, n) → lget xs g = some n
  | [], _, _, _, _, _, h => by simp at h
  | e :: xs, 0, g, a, n, _, h => by
    have : e = (g, a, n) := by simpa using h
    subst this
    unfold lget
    rw [List.find?_cons_of_pos (by simp)]
    rfl
  | e :: xs, i + 1, g, a, n, nd, h => by
    rw [List.map_cons, List.nodup_cons] at nd
    have h2 : xs[i]? = some (g, a, n) := by simpa using h
    have c : e.1 ≠ g := fun z => nd.1 (by rw [z]; exact List.mem_map.mpr ⟨_, List.mem_of_getElem? h2, rfl⟩)
    have := lget_at nd.2 h2
    unfold lget at this ⊢
    rw [List.find?_cons_of_neg (by simpa using c)]
    exact this
theorem doneL_len (gs : Gs) (os : List Str) : (doneL gs os).length ≤ gs.length * os.length := by
  unfold doneL
  rw [List.length_flatten]
  have := sum_le (l := (gs.map fun g => os.filter fun x => decide (x ∈ g)).map List.length) (b := os.length) fun n m => by
    obtain ⟨x, mx, rfl⟩ := List.mem_map.mp m
    obtain ⟨y, _, rfl⟩ := List.mem_map.mp mx
    exact List.length_filter_le _ _
  rw [List.length_map, List.length_map] at this
  exact this
def LvP (th : List Str) (xs : Lv) : Prop := ∀ e ∈ xs, e.1.Perm th
def LvAt (P : Program) (w : World) (H : Hp) (d : Addr) (xs : Lv) : Prop := H d = some (DLv P w d xs) ∧ LvOk H xs
def sp_law_next (P : Program) (w : World) : Sp := fun vs H Q _ => ∃ (l d : Addr) (us : List V) (rows : List Row) (th : List Str) (xs : Lv), vs = [.ref l, .ref d] ∧ H l = some (.lst us) ∧ Paired (RowV H) us rows ∧ (∀ r ∈ rows, GoodGs r.1 ∧ r.2 ≤ 9 ∧ th.Perm r.1.flatten) ∧ rows.length ≤ 6 ∧ th.Nodup ∧ th.length ≤ 8 ∧
  LvAt P w H d xs ∧ LvP th xs ∧ xs.length * rows.length ≤ 50000 ∧
  ∀ d' ys H', Same H H' → LvAt P w H' d' ys → LvP th ys → ys.length ≤ xs.length * rows.length → (∀ φ, wt φ ys = nextW rows φ xs) → Q (.ref d') H'
theorem LvOk.but {d : Addr} {H G : Hp} {xs ys : Lv} {P : Program} {w : World} (e : But d H G) (hd : H d = some (DLv P w d ys)) (h : LvOk H xs) : LvOk G xs := ⟨fun x m => let ⟨o, e1, e2⟩ := h.keys x m; ⟨o, e _ _ (ne_of e1 hd (by unfold DLv; simp)) e1, e2⟩, h.nd, h.len⟩
section
variable {P : Program} {w : World} {K : PySem.W.Frag} {mg : Str → Option Value} {base : Heap}
theorem cl_law_next (T : Tops K mg) : Cl P w K mg base 2 "_law_next" ["_law_rows_here", "_law_counts"] (sp_law_next P w) := by
  refine .of T.f_law_next sc_law_next (fun _ _ _ _ _ _ us hl => match us, hl with | [_, _], _ => rfl) (fun vs H Q E h => ?_) fun f cdv A outer s H vs Q E hr h => ?_
  · obtain ⟨_, _, _, _, _, _, rfl, _⟩ := h; rfl
  obtain ⟨l, d, us, rows, th, xs, rfl, hl, hp, hall, h6, hn, h8, ⟨hd, hok⟩, hxp, hbig, q⟩ := h
  refine ⟨_, (pss_cons (ps_set (i := 2) sc_law_next.nd rfl (Or.inl rfl) (pe_lnew))
      (pss_cons (ps_lock (ps_for PassesOwn.never rfl (pi_lkeysK (P := P) (w := w) rfl rfl (pv 1)) (pg_name (i := 3) sc_law_next.nd rfl (Or.inl rfl))
       (pss_one (ps_for PassesOwn.never rfl (pi_listK (K := K) rfl (pv 0)) (pg_tupK (K := K) (n := 2) rfl rfl (pgs_cons (pg_name (i := 4) sc_law_next.nd rfl (Or.inl rfl)) (pgs_cons (pg_name (i := 5) sc_law_next.nd rfl (Or.inl rfl)) pgs_nil)))
       (pss_cons (ps_set (i := 6) sc_law_next.nd rfl (Or.inl rfl) (pe_cl (cl_law_done T) hr (by decide) rfl (pa_cons (pv 4) (pa_cons (pv 3) pa_nil))))
      (pss_one (ps_lput (hu_of hr) (pv 2) (pv 6) (pe_op op_add (pe_lget2 (hu_of hr) (pv 2) (pv 6) pe_int ⟨rfl, rfl, rfl, rfl⟩) (pe_op op_mul (pe_lget (hu_of hr) (pv 1) (pv 3) (fun _ _ => rfl)) (pv 5))) rfl)))))))
      (pss_one (ps_ret (pv 2))))) , ?_⟩
  intro d2 nd2
  have e0 : Same H (upd H d2 (DLv P w d2 [])) := same_new nd2
  have hdd : d2 ≠ d := fun z => by rw [z, hd] at nd2; cases nd2
  have hal := paired_len hp
  have h0 : LvAt P w (upd H d2 (DLv P w d2 [])) d2 [] := ⟨upd_same, (fun x m => nomatch m), List.nodup_nil, by decide⟩
  have hd1 := e0 _ _ hd
  refine ⟨d, DLv P w d xs, hd1, dlv_mut, fun od => ⟨_, rfl, d, od, xs, rfl, upd_same, ?_⟩⟩
  refine forJ (fun i σ' G => ∃ o3 o4 o5 o6 ys, σ' = [some (.ref l), some (.ref d), some (.ref d2), o3, o4, o5, o6] ∧ But d H G ∧ G d = some (.frz od (DLv P w d xs)) ∧ LvAt P w G d2 ys ∧ LvP th ys ∧ ys.length ≤ i * rows.length ∧ ∀ φ, wt φ ys = nextW rows φ (xs.take i)) xs.length (fun i v G G' => G' = G ∧ ∃ g a n, xs[i]? = some (g, a, n) ∧ v = .ref a) (fun i σ' G p h => ⟨by obtain ⟨_, _, _, _, _, _, _, p, _⟩ := p; exact p, h⟩) (fun σ' G p => ⟨by obtain ⟨_, _, _, _, _, _, _, p, _⟩ := p; exact p, Nat.le_refl _⟩) (fun i σ' G v G' p h q => q)
    ⟨_, _, _, _, [], rfl, fun b o n h => by rw [upd_ne n]; exact e0 _ _ h, upd_same, ⟨by rw [upd_ne hdd]; exact upd_same, (fun x m => nomatch m), List.nodup_nil, by decide⟩, (fun e m => nomatch m), Nat.zero_le _, fun φ => rfl⟩ (fun i v σ' G' G hi hy hh => ?_) fun σ' G hh => ?_
  · obtain ⟨eG, g, a, n, hxi, rfl⟩ := hy
    subst eG
    obtain ⟨o3, o4, o5, o6, ys, rfl, eB, hfz, ⟨hy1, hy2⟩, hyp, hyl, hyw⟩ := hh
    have nl : l ≠ d := ne_of hl hd (by unfold DLv; simp)
    have hos : g.Perm th := hxp _ (List.mem_of_getElem? hxi)
    have hgk : FTup G a (nm g) := by
      obtain ⟨o, e1, e2⟩ := hok.keys _ (List.mem_of_getElem? hxi)
      exact ⟨o, eB _ _ (ne_of e1 hd (by unfold DLv; simp)) e1, e2⟩
    have hokG : LvOk G xs := hok.but eB hd
    have hlG := eB _ _ nl hl
    refine ⟨_, rfl, l, rfl, ⟨_, .of hlG⟩, ?_⟩
    refine for_list (xs := us) (fun j σ2 G2 => ∃ o4 o5 o6 ys, σ2 = [some (.ref l), some (.ref d), some (.ref d2), some (.ref a), o4, o5, o6] ∧ But d2 G G2 ∧ But d H G2 ∧ LvAt P w G2 d2 ys ∧ LvP th ys ∧ ys.length ≤ i * rows.length + j ∧ ∀ φ, wt φ ys = nextW rows φ (xs.take i) + ((rows.take j).map fun r => φ (doneL r.1 g) * (n * (r.2 : Nat))).sum) ⟨_, _, _, ys, rfl, .refl _ _, eB, ⟨hy1, hy2⟩, hyp, hyl, fun φ => by rw [hyw φ, List.take_zero]; show _ = _ + 0; omega⟩ (fun j σ2 G2 _ hh => ?_) (fun j v σ2 G2 hv hh => ?_) fun σ2 G2 hh => ?_
    · obtain ⟨_, _, _, _, _, _, eB2, _⟩ := hh
      exact .of (eB2 _ _ nl hl)
    · obtain ⟨o4, o5, o6, ys, rfl, eG2, eB2, ⟨hy1, hy2⟩, hyp, hyl, hyw⟩ := hh
      obtain ⟨r, hr1, ba, gv, rfl, hba, hgv⟩ := paired_at hp hv
      have hj := (List.getElem?_eq_some_iff.mp hr1).1
      obtain ⟨g1, g2, g3⟩ := hall r (List.mem_of_getElem? hr1)
      have hba2 := eB2 _ _ (ne_of hba hd (by unfold DLv; simp)) hba
      obtain ⟨ga, vs2, rfl, hga, hpa⟩ := id hgv
      have hgv2 : GrpV G2 (.ref ga) r.1 := ⟨ga, vs2, rfl, eB2 _ _ (ne_of hga hd (by unfold DLv; simp)) hga, paired_mono (fun v g h => by obtain ⟨b, rfl, h⟩ := h; exact ⟨b, rfl, eB2 _ _ (ne_of h hd (by unfold DLv; simp)) h⟩) hpa⟩
      have hgk2 : FTup G2 a (nm g) := by
        obtain ⟨o, e1, e2⟩ := hok.keys _ (List.mem_of_getElem? hxi)
        exact ⟨o, eB2 _ _ (ne_of e1 hd (by unfold DLv; simp)) e1, e2⟩
      have hfz2 : G2 d = some (.frz od (DLv P w d xs)) := eG2 _ _ (Ne.symm hdd) hfz
      refine ⟨ba, _, rfl, .of hba2, rfl, _, _, rfl, _, _, rfl, rfl, ?_⟩
      refine ⟨_, rfl, _, rfl, ga, a, r.1, g, rfl, hgv2, hgk2.sq, g1.len, by rw [hos.length_eq]; exact h8, fun l4 G3 e3 hl4 => ?_⟩
      have hy1' := e3 _ _ hy1
      have hy2' := hy2.same e3
      have hok3 : LvOk G3 xs := (hok.but eB2 hd).same e3
      have hgk3 := hgk2.same e3
      have hdl : (doneL r.1 g).Perm th := done_perm g1 g3 hn hos
      have hil : (i + 1) * rows.length ≤ xs.length * rows.length := Nat.mul_le_mul_right _ hi
      rw [Nat.succ_mul] at hil
      refine ⟨_, rfl, d2, rfl, ⟨ys, .of hy1'⟩, _, rfl, l4, ys, doneL r.1 g, 0, rfl, rfl, .of hy1', hy2', hl4, ?_⟩
      refine ⟨_, rfl, _, rfl, d, a, xs, g, n, rfl, rfl, .inr ⟨od, e3 _ _ hfz2⟩, hok3, hgk3, lget_at hok.nd hxi, _, rfl, _, _, rfl, rfl, .inr ⟨by omega, by omega⟩, _, _, rfl, rfl, _, rfl, _, rfl, d2, l4, ys, doneL r.1 g, _, rfl, rfl, rfl, hy1', hy2', by omega, hl4, ?_⟩
      have hup : ∀ b o u, G3 b = some (.frz o u) → upd G3 d2 (DLv P w d2 (lput ys (doneL r.1 g) l4 ((lget ys (doneL r.1 g)).getD 0 + n * (r.2 : Nat)))) b = some (.frz o u) := fun b o u h => by
        rw [upd_ne (ne_of h hy1' (by unfold DLv; simp))]
        exact h
      refine ⟨_, _, _, lput ys (doneL r.1 g) l4 ((lget ys (doneL r.1 g)).getD 0 + n * (r.2 : Nat)), rfl, fun b o nb h => ?_, fun b o nb h => ?_, ⟨upd_same, lput_ok (H := G3) hup hy2' (by omega) hl4⟩, fun e me => ?_, ?_, fun φ => ?_⟩
      · rw [upd_ne nb]; exact e3 _ _ (eG2 _ _ nb h)
      · rw [upd_ne (ne_of_none h nd2)]; exact e3 _ _ (eB2 _ _ nb h)
      · rcases lput_mem me with z | ⟨z, _⟩
        · obtain ⟨y, my, ey⟩ := List.mem_map.mp z
          have : y.1 = e.1 := congrArg (·.1) ey
          rw [← this]
          exact hyp y my
        · rw [z]; exact hdl
      · have := lput_len ys (doneL r.1 g) l4 ((lget ys (doneL r.1 g)).getD 0 + n * (r.2 : Nat))
        omega
      · rw [wt_put φ hy2.nd, hyw φ, take_succ_map hr1, sumI_snoc]
        omega
    · obtain ⟨o4, o5, o6, ys, rfl, eG2, eB2, hy, hyp, hyl, hyw⟩ := hh
      rw [hal] at hyl hyw
      refine ⟨_, _, _, _, ys, rfl, eB2, eG2 _ _ (Ne.symm hdd) hfz, hy, hyp, by rw [Nat.succ_mul]; exact hyl, fun φ => ?_⟩
      rw [hyw φ, List.take_length]
      unfold nextW
      rw [take_succ_map hxi, sumI_snoc]
      rfl
  · obtain ⟨o3, o4, o5, o6, ys, rfl, eB, hfz, ⟨hy1, hy2⟩, hyp, hyl, hyw⟩ := hh
    refine ⟨hfz, ?_⟩
    have eS : Same H (upd G d (DLv P w d xs)) := fun b o h => by
      by_cases z : b = d
      · subst z; rw [upd_same]; rw [hd] at h; exact h
      · rw [upd_ne z]; exact eB _ _ z h
    refine ⟨_, rfl, q d2 ys _ eS ⟨by rw [upd_ne hdd]; exact hy1, fun x m => ?_, hy2.nd, hy2.len⟩ hyp hyl fun φ => by rw [hyw φ, List.take_length]⟩
    obtain ⟨o, e1, e2⟩ := hy2.keys x m
    by_cases z : x.2.1 = d
    · rw [z, hfz] at e1
      cases e1
    · exact ⟨o, by rw [upd_ne z]; exact e1, e2⟩
def sp_law_ahead (P : Program) (w : World) : Sp := fun vs H Q _ => ∃ (d : Addr) (x y : Str) (xs : Lv) (th : List Str), vs = [.ref d, .str x, .str y] ∧ LvAt P w H d xs ∧ LvP th xs ∧ xs.length ≤ 50000 ∧ x ∈ th ∧ y ∈ th ∧ ∀ H', Same H H' → Q (.int (wt (fun os => if os.idxOf x < os.idxOf y then 1 else 0) xs)) H'
theorem cl_law_ahead (T : Tops K mg) : Cl P w K mg base 1 "_law_ahead" ["_law_level", "_law_x", "_law_y"] (sp_law_ahead P w) := by
  refine .of T.f_law_ahead sc_law_ahead (fun _ _ _ _ _ _ us hl => match us, hl with | [_, _, _], _ => rfl) (fun vs H Q E h => ?_) fun f cdv A outer s H vs Q E hr h => ?_
  · obtain ⟨_, _, _, _, _, rfl, _⟩ := h; rfl
  obtain ⟨d, x, y, xs, th, rfl, ⟨hd, hok⟩, hxp, hxl, mx, my, q⟩ := h
  refine ⟨_, (pss_one (ps_ret (pe_callB (cr_sumK (K := K) rfl rfl) (by rfl) (T.nn "sum") rfl (pa_cons (pe_lock (pe_lc (own := [("_law_goal", 3)]) (by rfl) sc_law_ahead.nd (pi_lkeysK (P := P) (w := w) rfl rfl (pv 0)) (blkOk_by (own := [("_law_goal", 3)]) (N := N_law_ahead) (sc := defScope s_law_ahead) (by decide +kernel)) (fun _ _ _ _ _ => (pg_name (i := 3) sc_law_ahead.nd rfl (Or.inl rfl))) (fun _ _ _ _ _ => (pts_one (pt_cmpR op_lt (pe_fm PySem.F.plainAttrs_tuple PySem.F.slot_tuple_index PySem.F.type_tuple_index (mt_tup_indexK (K := K) rfl) (pv 3) (pa_cons (pv 1) pa_nil)) (pe_fm PySem.F.plainAttrs_tuple PySem.F.slot_tuple_index PySem.F.type_tuple_index (mt_tup_indexK (K := K) rfl) (pv 3) (pa_cons (pv 2) pa_nil)) (nomark _)))) (fun _ _ _ _ _ => (pe_lgetK (P := P) (w := w) rfl rfl (hu_of hr) (pv 0) (pv 3) (fun _ _ => rfl))))) pa_nil)))) , ?_⟩
  refine ⟨d, DLv P w d xs, hd, dlv_mut, fun od => ?_⟩
  refine ⟨_, rfl, d, od, xs, rfl, upd_same, fun D hD => ?_⟩
  have hd1 : upd H d (.frz od (DLv P w d xs)) d = some (.frz od (DLv P w d xs)) := upd_same
  have nDd : D ≠ d := fun z => by rw [z, upd_same] at hD; cases hD
  have hk : ∀ e ∈ xs, FTup (upd H d (.frz od (DLv P w d xs))) e.2.1 (nm e.1) := fun e m => by
    obtain ⟨o, e1, e2⟩ := hok.keys e m
    exact ⟨o, by rw [upd_ne (ne_of e1 hd (by unfold DLv; simp))]; exact e1, e2⟩
  have hokF : LvOk (upd H d (.frz od (DLv P w d xs))) xs := ⟨hk, hok.nd, hok.len⟩
  refine lcJ (fun j acc2 _ => acc2 = ((xs.take j).filter fun e => decide (e.1.idxOf x < e.1.idxOf y)).map fun e => V.int e.2.2) xs.length (fun i v => ∃ g a n, xs[i]? = some (g, a, n) ∧ v = .ref a) (fun i G e h => ⟨e _ _ hd1, h⟩) (fun G e => ⟨e _ _ hd1, Nat.le_refl _⟩) (fun i G v G' e h q => q) hD rfl (fun j v G acc2 hj hy e2 hD2 hl2 hacc => ?_) fun G acc2 e2 hD2 hl2 hacc => ?_
  · obtain ⟨g, a, n, hxi, rfl⟩ := hy
    have hpg := hxp _ (List.mem_of_getElem? hxi)
    have hs := (hk _ (List.mem_of_getElem? hxi)).same e2
    have hfil := take_succ_filter (p := fun e : List Str × Addr × Int => decide (e.1.idxOf x < e.1.idxOf y)) hxi
    refine ⟨rfl, ?_⟩
    refine ⟨_, rfl, ⟨a, _, rfl, hs⟩, _, rfl, a, g, x, _, rfl, rfl, hs.sq, ix_get (hpg.mem_iff.mpr mx), ix_min, ?_⟩
    refine ⟨_, rfl, ⟨a, _, rfl, hs⟩, _, rfl, a, g, y, _, rfl, rfl, hs.sq, ix_get (hpg.mem_iff.mpr my), ix_min, _, _, rfl, rfl, ?_⟩
    by_cases hc : g.idxOf x < g.idxOf y
    · refine ⟨true, blT (by omega), iteT ⟨_, rfl, _, rfl, d, a, xs, g, n, rfl, rfl, .inr ⟨od, e2 _ _ hd1⟩, hokF.same e2, hs, lget_at hok.nd hxi, lc_put hD e2 (.refl _) hD2 hl2 (by omega) ?_⟩⟩
      rw [hacc, hfil, if_pos (by simpa using hc), List.map_append]
      rfl
    · refine ⟨false, blF (by omega), iteF (lc_skip e2 (.refl _) hD2 hl2 ?_)⟩
      rw [hacc, hfil, if_neg (by simpa using hc), List.append_nil]
  · rw [List.take_length] at hacc
    refine ⟨e2 _ _ hd1, ?_⟩
    have eS : Same H (upd G d (DLv P w d xs)) := fun b o h => by
      by_cases z : b = d
      · subst z; rw [upd_same]; rw [hd] at h; exact h
      · rw [upd_ne z]; exact e2 _ _ (by rw [upd_ne z]; exact h)
    refine ⟨D, (xs.filter fun e => decide (e.1.idxOf x < e.1.idxOf y)).map (·.2.2), rfl, .of (by rw [upd_ne nDd, hD2, hacc, List.map_map]; rfl), ?_⟩
    have e : ((xs.filter fun e => decide (e.1.idxOf x < e.1.idxOf y)).map (·.2.2)).sum = wt (fun os => if os.idxOf x < os.idxOf y then 1 else 0) xs := by
      clear hacc hl2 hD2 e2 eS hokF hk hd1 hD hd hok hxp hxl q hr
      induction xs with
      | nil => rfl
      | cons e xs ih =>
        rw [wt_cons]
        by_cases c : e.1.idxOf x < e.1.idxOf y
        · rw [List.filter_cons_of_pos (by simpa using c), List.map_cons, List.sum_cons, ih, if_pos c]; omega
        · rw [List.filter_cons_of_neg (by simpa using c), ih, if_neg c]; omega
    rw [e]
    exact q _ eS
structure LvChain (rows : List Row) (begin : List Str) (th : List Str) (lvs : List Lv) : Prop where
  p : ∀ xs ∈ lvs, LvP th xs
  len : ∀ (i : Nat) xs, lvs[i]? = some xs → xs.length ≤ 6 ^ i
  zero : ∀ xs, lvs[0]? = some xs → ∀ φ, wt φ xs = φ begin
  step : ∀ i xs ys, lvs[i]? = some xs → lvs[i + 1]? = some ys → ∀ φ, wt φ ys = nextW rows φ xs
def LvV (P : Program) (w : World) (H : Hp) (v : V) (xs : Lv) : Prop := ∃ d, v = .ref d ∧ LvAt P w H d xs
def sp_law_levels (P : Program) (w : World) : Sp := fun vs H Q _ => ∃ (l b : Addr) (us : List V) (rows : List Row) (th bs : List Str), vs = [.ref l, .ref b, .int 6] ∧ H l = some (.lst us) ∧ Paired (RowV H) us rows ∧ (∀ r ∈ rows, GoodGs r.1 ∧ r.2 ≤ 9 ∧ th.Perm r.1.flatten) ∧ rows.length ≤ 6 ∧ th.Nodup ∧ th.length ≤ 8 ∧
  FTup H b (nm bs) ∧ bs.Perm th ∧ ∀ L ds lvs H', Same H H' → H' L = some (.lst ds) → Paired (LvV P w H') ds lvs → lvs.length = 7 → LvChain rows bs th lvs → Q (.ref L) H'
theorem cl_law_levels (T : Tops K mg) : Cl P w K mg base 3 "_law_levels" ["_law_rows_here", "_law_begin", "_law_most"] (sp_law_levels P w) := by
  refine .of T.f_law_levels sc_law_levels (fun _ _ _ _ _ _ us hl => match us, hl with | [_, _, _], _ => rfl) (fun vs H Q E h => ?_) fun f cdv A outer s H vs Q E hr h => ?_
  · obtain ⟨_, _, _, _, _, _, rfl, _⟩ := h; rfl
  obtain ⟨l, b, us, rows, th, bs, rfl, hl, hp, hall, h6, hn, h8, hb, hbp, q⟩ := h
  refine ⟨_, (pss_cons (ps_set (i := 3) sc_law_levels.nd rfl (Or.inl rfl) (pe_lst (pa_cons (pe_ldisp (hlen := by show 1 ≤ 15; decide) (hu_of hr) (pv 1) pe_int (pps_cons (pv 1) pe_int pps_nil)) pa_nil)))
      (pss_cons (ps_for PassesOwn.never rfl (pi_range1 (by rfl) (T.nn "range") (pa_cons (pv 2) pa_nil)) (pg_name (i := 4) sc_law_levels.nd rfl (Or.inl rfl))
       (pss_one (ps_expr (pe_bmK (K := K) rfl PySem.F.plainAttrs_list PySem.F.slot_list_append PySem.F.type_list_append mt_append (pv 3) (pa_cons (pe_cl (cl_law_next T) hr (by decide) rfl (pa_cons (pv 0) (pa_cons (pe_ix (ix_listK (K := K) rfl) (pv 3) (pe_un un_neg pe_int) (fun _ _ => rfl)) pa_nil))) pa_nil)))))
      (pss_one (ps_ret (pv 3))))) , ?_⟩
  refine fun d0 nd0 => ?_
  have e0 : Same H (upd H d0 (DLv P w d0 [])) := same_new nd0
  refine ⟨_, rfl, b, bs, 1, rfl, upd_same, hb.same e0, by show 1 ≤ sizeLine; decide, fun L nL => ?_⟩
  have nd0L : d0 ≠ L := fun z => by rw [← z, upd_same] at nL; cases nL
  have nL0 : upd H d0 (DLv P w d0 []) L = none := by rw [upd_ne (Ne.symm nd0L)] at nL ⊢; rw [upd_ne (Ne.symm nd0L)] at nL; exact nL
  have nHL : H L = none := e0.free nL0
  have e1 : Same H (upd (upd (upd H d0 (DLv P w d0 [])) d0 (DLv P w d0 [(bs, b, 1)])) L (.lst [.ref d0])) := lst_keep (lst_keep e0 nd0) nHL
  refine ⟨_, rfl, 6, rfl, by decide, by decide, ?_⟩
  refine for_range (lo := 0) (n := 6) (fun i σ' G => ∃ o4 ds lvs, σ' = [some (.ref l), some (.ref b), some (.int 6), some (.ref L), o4] ∧ Same H G ∧ G L = some (.lst ds) ∧ Paired (LvV P w G) ds lvs ∧ lvs.length = i + 1 ∧ LvChain rows bs th lvs) ⟨_, [.ref d0], [[(bs, b, 1)]], rfl, e1, upd_same, .cons ⟨d0, rfl, by rw [upd_ne nd0L]; exact upd_same, fun x m => ?_, by simp, by show 1 < 100000; decide⟩ .nil, rfl, ?_⟩ (fun i σ' G hi hh => ?_) fun σ' G hh => ?_
  · have : x = (bs, b, 1) := List.mem_singleton.mp m
    subst this
    exact hb.same e1
  · refine ⟨fun xs m => ?_, fun i xs h => ?_, fun xs h φ => ?_, fun i xs ys h h2 => ?_⟩
    · have : xs = [(bs, b, 1)] := List.mem_singleton.mp m
      subst this
      intro e me
      have : e = (bs, b, 1) := List.mem_singleton.mp me
      subst this
      exact hbp
    · match i, h with
      | 0, h => cases h; exact Nat.le_refl 1
    · cases h
      show φ bs * 1 + 0 = φ bs
      omega
    · match i, h2 with
      | 0, h2 => cases h2
  · obtain ⟨o4, ds, lvs, rfl, eG, hLG, pr, hll, ch⟩ := hh
    have hdl := paired_len pr
    obtain ⟨ds0, v, rfl⟩ : ∃ ds0 v, ds = ds0 ++ [v] := by
      rcases List.eq_nil_or_concat ds with z | z
      · rw [z] at hdl; simp at hdl; omega
      · obtain ⟨a, b, z⟩ := z; exact ⟨a, b, by rw [z, List.concat_eq_append]⟩
    have hvi : (ds0 ++ [v])[ds0.length]? = some v := by simp
    obtain ⟨xs, hxi, d, rfl, hld, hlo⟩ := paired_at pr hvi
    have hd0 : ds0.length = i := by rw [List.length_append] at hdl; simp at hdl; omega
    rw [hd0] at hxi
    have hxl := ch.len i xs hxi
    have hpow : 6 ^ i * 6 ≤ 50000 := by
      have : 6 ^ i ≤ 6 ^ 5 := Nat.pow_le_pow_right (by decide) (by omega)
      have : 6 ^ i ≤ 7776 := this
      omega
    have hmul : xs.length * rows.length ≤ 6 ^ i * 6 := Nat.mul_le_mul hxl h6
    have hp2 : Paired (RowV G) us rows := rows_same eG hp
    refine ⟨_, rfl, .inl ⟨rfl, _, .of hLG⟩, _, rfl, _, rfl, 1, rfl, L, _, -1, .ref d, rfl, rfl, .of hLG, atI_last _ _, ?_⟩
    refine ⟨l, d, us, rows, th, xs, rfl, eG _ _ hl, hp2, hall, h6, hn, h8, ⟨hld, hlo⟩, ch.p xs (List.mem_of_getElem? hxi), by omega, fun d' ys G2 e2 hy hyp hyl hyw => ?_⟩
    have hL2 := e2 _ _ hLG
    have keepV : ∀ v zs, LvV P w G v zs → LvV P w (upd G2 L (.lst ((ds0 ++ [.ref d]) ++ [.ref d']))) v zs := fun v zs h => by
      obtain ⟨d, rfl, h1, h2⟩ := h
      refine ⟨d, rfl, by rw [upd_ne (ne_of h1 hLG (by unfold DLv; simp))]; exact e2 _ _ h1, fun x m => ?_, h2.nd, h2.len⟩
      obtain ⟨o, k1, k2⟩ := h2.keys x m
      exact ⟨o, by rw [upd_ne (ne_of k1 hLG (by simp))]; exact e2 _ _ k1, k2⟩
    have newV : LvV P w (upd G2 L (.lst ((ds0 ++ [.ref d]) ++ [.ref d']))) (.ref d') ys := by
      obtain ⟨h1, h2⟩ := hy
      refine ⟨d', rfl, by rw [upd_ne (ne_of h1 hL2 (by unfold DLv; simp))]; exact h1, fun x m => ?_, h2.nd, h2.len⟩
      obtain ⟨o, k1, k2⟩ := h2.keys x m
      exact ⟨o, by rw [upd_ne (ne_of k1 hL2 (by simp))]; exact k1, k2⟩
    refine ⟨L, _, .ref d', rfl, rfl, hL2, by rw [sizeLine_eq]; omega, ?_⟩
    refine ⟨_, (ds0 ++ [.ref d]) ++ [.ref d'], lvs ++ [ys], rfl, lst_keep (eG.trans e2) nHL, upd_same, paired_snoc newV (paired_mono keepV pr), by rw [List.length_append, hll]; rfl, ?_⟩
    refine ⟨fun zs m => ?_, fun k zs h => ?_, fun zs h => ?_, fun k zs ws h h2 => ?_⟩
    · rcases List.mem_append.mp m with m | m
      · exact ch.p zs m
      · have : zs = ys := List.mem_singleton.mp m
        subst this
        exact hyp
    · by_cases hk : k < lvs.length
      · rw [List.getElem?_append_left hk] at h
        exact ch.len k zs h
      · rw [List.getElem?_append_right (by omega)] at h
        have hk2 : k = i + 1 := by
          have := (List.getElem?_eq_some_iff.mp h).1
          simp at this
          omega
        subst hk2
        have : zs = ys := by rw [hll] at h; simpa using h.symm
        subst this
        rw [Nat.pow_succ]
        omega
    · rw [List.getElem?_append_left (by omega)] at h
      exact ch.zero zs h
    · have hk1 := (List.getElem?_eq_some_iff.mp h2).1
      rw [List.length_append] at hk1
      have hk1 : k + 1 < lvs.length + 1 := hk1
      rw [List.getElem?_append_left (by omega)] at h
      by_cases hk : k + 1 < lvs.length
      · rw [List.getElem?_append_left hk] at h2
        exact ch.step k zs ws h h2
      · have hki : k = i := by omega
        subst hki
        rw [List.getElem?_append_right (by omega)] at h2
        have : ws = ys := by rw [hll] at h2; simpa using h2.symm
        subst this
        rw [hxi] at h
        cases h
        exact hyw
  · obtain ⟨o4, ds, lvs, rfl, eG, hLG, pr, hll, ch⟩ := hh
    exact ⟨_, rfl, q L ds lvs G eG hLG pr hll ch⟩
end
end SD
end
section
set_option Elab.async false
set_option linter.all false
set_option maxRecDepth 100000
set_option maxHeartbeats 4000000
/-! ### the plain law: how the counts grow -/
namespace SD
open PySem PySem.Spec PyProof.Rows L2
def aN (rows : List Row) (x y : Str) : Nat := wsum (fun gs => if rk gs x < rk gs y then 1 else 0) rows
def cN (rows : List Row) (x y : Str) : Nat := wsum (fun gs => if rk gs x = rk gs y then 1 else 0) rows
theorem fsum_wsum (x y : Str) (S L : List Int) : ∀ rows : List Row, fsum rows x y S L = wsum (fun gs => if cutR gs x y S = some L then 1 else 0) rows
  | [] => rfl
  | r :: rows => by
    have ih := fsum_wsum x y S L rows
    unfold fsum wsum at ih ⊢
    by_cases c : cutR r.1 x y S = some L
    · rw [List.filter_cons_of_pos (by simpa using c), List.map_cons, List.map_cons, List.sum_cons, List.sum_cons, ih]; simp only [if_pos c, Nat.one_mul]
    · rw [List.filter_cons_of_neg (by simpa using c), List.map_cons, List.sum_cons, ih]; simp only [if_neg c, Nat.zero_mul, Nat.zero_add]
theorem wsum_map (f : Gs → Nat) (k : Gs → Gs) (rows : List Row) : wsum f (rows.map fun r => (k r.1, r.2)) = wsum (fun gs => f (k gs)) rows := by
  unfold wsum
  rw [List.map_map]
  rfl
theorem wsum_congr {f g : Gs → Nat} (h : ∀ gs, f gs = g gs) (rows : List Row) : wsum f rows = wsum g rows := by
  have : f = g := funext h
  rw [this]
theorem rk_pair {p q : Str} (h : p ≠ q) (i j : Int) : rk (pairGs p q i j) p = (if j < i then 1 else 0) ∧ rk (pairGs p q i j) q = (if i < j then 1 else 0) := by
  unfold pairGs
  by_cases e : i = j
  · subst e
    simp [rk, List.findIdx_cons]
  · by_cases l : i < j
    · have h1 : ¬ j < i := by omega
      simp [rk, List.findIdx_cons, e, l, h1, h, Ne.symm h]
    · have h1 : j < i := by omega
      simp [rk, List.findIdx_cons, e, l, h1, h, Ne.symm h]
theorem cut_pair {p q : Str} (h : p ≠ q) (i j : Int) : (cutR (pairGs p q i j) p q [] = some [1] ↔ i < j) ∧ (cutR (pairGs p q i j) p q [] = some [] ↔ i = j) ∧ (cutR (pairGs p q i j) q p [] = some [1] ↔ j < i) ∧ (cutR (pairGs p q i j) q p [] = some [] ↔ i = j) := by
  obtain ⟨h1, h2⟩ := rk_pair h i j
  unfold cutR
  rw [h1, h2]
  by_cases e : i = j
  · subst e
    simp
  · by_cases l : i < j
    · have h3 : ¬ j < i := by omega
      simp [l, h3, e]
    · have h3 : j < i := by omega
      simp [l, h3, e]
theorem pair_sums {rows : List Row} {x y p q : Str} (hpq : p ≠ q) (h : [p, q].Perm [x, y]) : fsum (pairRows rows p q) x y [] [1] = aN rows x y ∧ fsum (pairRows rows p q) x y [] [] = cN rows x y ∧ total (pairRows rows p q) = total rows := by
  have hc : (x = p ∧ y = q) ∨ (x = q ∧ y = p) := by
    have mp := h.mem_iff (a := p)
    have mq := h.mem_iff (a := q)
    have mx := h.symm.mem_iff (a := x)
    have my := h.symm.mem_iff (a := y)
    simp at mp mq mx my
    have hxy : x ≠ y := fun z => by
      subst z
      have := h.nodup_iff.mp (by simp [hpq])
      simp at this
    rcases mx with a | a
    · rcases my with b | b
      · exact absurd (a.trans b.symm) hxy
      · exact .inl ⟨a, b⟩
    · rcases my with b | b
      · exact .inr ⟨a, b⟩
      · exact absurd (a.trans b.symm) hxy
  rw [fsum_wsum, fsum_wsum]
  unfold pairRows aN cN
  rw [wsum_sumRows, wsum_sumRows, total_sumRows, wsum_map _ (fun gs => pairGs p q (rk gs p) (rk gs q)), wsum_map _ (fun gs => pairGs p q (rk gs p) (rk gs q))]
  refine ⟨wsum_congr (fun gs => ?_) rows, wsum_congr (fun gs => ?_) rows, ?_⟩
  · obtain ⟨c1, c2, c3, c4⟩ := cut_pair hpq (rk gs p : Nat) (rk gs q : Nat)
    rcases hc with ⟨rfl, rfl⟩ | ⟨rfl, rfl⟩
    · have : cutR (pairGs x y (rk gs x : Nat) (rk gs y : Nat)) x y [] = some [1] ↔ rk gs x < rk gs y := c1.trans (by omega)
      simp only [this]
    · have : cutR (pairGs y x (rk gs y : Nat) (rk gs x : Nat)) x y [] = some [1] ↔ rk gs x < rk gs y := c3.trans (by omega)
      simp only [this]
  · obtain ⟨c1, c2, c3, c4⟩ := cut_pair hpq (rk gs p : Nat) (rk gs q : Nat)
    rcases hc with ⟨rfl, rfl⟩ | ⟨rfl, rfl⟩
    · have : cutR (pairGs x y (rk gs x : Nat) (rk gs y : Nat)) x y [] = some [] ↔ rk gs x = rk gs y := c2.trans (by omega)
      simp only [this]
    · have : cutR (pairGs y x (rk gs y : Nat) (rk gs x : Nat)) x y [] = some [] ↔ rk gs x = rk gs y := c4.trans (by omega)
      simp only [this]
  · unfold total
    rw [List.map_map]
    rfl
/-! who is ahead behind a row -/
theorem ix_ne {a x : Str} (os : List Str) (h : ¬ a = x) : (a :: os).idxOf x = os.idxOf x + 1 := by
  have hb : (a == x) = false := by simpa using h
  rw [List.idxOf_cons, hb]
  rfl
theorem filter_idx (p : Str → Bool) {x y : Str} (px : p x = true) (py : p y = true) : ∀ os : List Str, x ∈ os → y ∈ os → ((os.filter p).idxOf x < (os.filter p).idxOf y ↔ os.idxOf x < os.idxOf y)
  | [], h, _ => by cases h
  | a :: os, hx, hy => by
    by_cases ax : a = x
    · subst ax
      rw [List.filter_cons_of_pos px, List.idxOf_cons_self, List.idxOf_cons_self]
      by_cases ay : a = y
      · subst ay; simp
      · rw [ix_ne _ ay, ix_ne _ ay]; omega
    · by_cases ay : a = y
      · subst ay
        rw [List.filter_cons_of_pos py, List.idxOf_cons_self, List.idxOf_cons_self]
        omega
      · have hx2 : x ∈ os := (List.mem_cons.mp hx).resolve_left (Ne.symm ax)
        have hy2 : y ∈ os := (List.mem_cons.mp hy).resolve_left (Ne.symm ay)
        have ih := filter_idx p px py os hx2 hy2
        rw [ix_ne _ ax, ix_ne _ ay]
        by_cases pa : p a = true
        · rw [List.filter_cons_of_pos pa, ix_ne _ ax, ix_ne _ ay]; omega
        · rw [List.filter_cons_of_neg pa]; omega
theorem rk_cons (g : List Str) (gs : Gs) (x : Str) : rk (g :: gs) x = if x ∈ g then 0 else rk gs x + 1 := by
  unfold rk
  rw [List.findIdx_cons]
  by_cases c : x ∈ g <;> simp [c]
theorem done_ahead (os : List Str) {x y : Str} (hx : x ∈ os) (hy : y ∈ os) : ∀ gs : Gs, x ∈ gs.flatten → y ∈ gs.flatten → ((doneL gs os).idxOf x < (doneL gs os).idxOf y ↔ rk gs x < rk gs y ∨ (rk gs x = rk gs y ∧ os.idxOf x < os.idxOf y))
  | [], h, _ => by cases h
  | g :: gs, mx, my => by
    have e : doneL (g :: gs) os = (os.filter fun z => decide (z ∈ g)) ++ doneL gs os := rfl
    rw [e, List.idxOf_append, List.idxOf_append, rk_cons, rk_cons]
    have fx : x ∈ (os.filter fun z => decide (z ∈ g)) ↔ x ∈ g := by simp [hx]
    have fy : y ∈ (os.filter fun z => decide (z ∈ g)) ↔ y ∈ g := by simp [hy]
    by_cases cx : x ∈ g
    · by_cases cy : y ∈ g
      · rw [if_pos (fx.mpr cx), if_pos (fy.mpr cy), if_pos cx, if_pos cy, filter_idx (fun z => decide (z ∈ g)) (by simpa using cx) (by simpa using cy) os hx hy]
        omega
      · rw [if_pos (fx.mpr cx), if_neg (fun z => cy (fy.mp z)), if_pos cx, if_neg cy]
        have := List.idxOf_lt_length_iff.mpr (fx.mpr cx)
        omega
    · by_cases cy : y ∈ g
      · rw [if_neg (fun z => cx (fx.mp z)), if_pos (fy.mpr cy), if_neg cx, if_pos cy]
        have := List.idxOf_lt_length_iff.mpr (fy.mpr cy)
        omega
      · rw [if_neg (fun z => cx (fx.mp z)), if_neg (fun z => cy (fy.mp z)), if_neg cx, if_neg cy]
        have mx2 : x ∈ gs.flatten := (List.mem_append.mp mx).resolve_left cx
        have my2 : y ∈ gs.flatten := (List.mem_append.mp my).resolve_left cy
        have ih := done_ahead os hx hy gs mx2 my2
        omega
/-! the counts -/
def ahφ (x y : Str) : List Str → Int := fun os => if os.idxOf x < os.idxOf y then 1 else 0
theorem step_ahead {x y : Str} {os th : List Str} (ho : os.Perm th) (mx : x ∈ th) (my : y ∈ th) (n : Int) : ∀ rows : List Row, (∀ r ∈ rows, th.Perm r.1.flatten) → stepW rows (ahφ x y) os n = n * ((aN rows x y : Nat) + (cN rows x y : Nat) * ahφ x y os)
  | [], _ => by show (0 : Int) = n * (0 + 0 * _); rw [Int.zero_mul, Int.add_zero, Int.mul_zero]
  | r :: rows, h => by
    have ih := step_ahead ho mx my n rows fun r m => h r (List.mem_cons_of_mem _ m)
    have hp := h r List.mem_cons_self
    have key := done_ahead os (ho.symm.subset mx) (ho.symm.subset my) r.1 (hp.subset mx) (hp.subset my)
    have ea : aN (r :: rows) x y = (if rk r.1 x < rk r.1 y then 1 else 0) * r.2 + aN rows x y := rfl
    have ec : cN (r :: rows) x y = (if rk r.1 x = rk r.1 y then 1 else 0) * r.2 + cN rows x y := rfl
    have es : stepW (r :: rows) (ahφ x y) os n = ahφ x y (doneL r.1 os) * (n * (r.2 : Nat)) + stepW rows (ahφ x y) os n := rfl
    have e1 : ahφ x y (doneL r.1 os) = if rk r.1 x < rk r.1 y then 1 else if rk r.1 x = rk r.1 y then ahφ x y os else 0 := by
      unfold ahφ
      by_cases c1 : rk r.1 x < rk r.1 y
      · rw [if_pos (key.mpr (.inl c1)), if_pos c1]
      · rw [if_neg c1]
        by_cases c2 : rk r.1 x = rk r.1 y
        · rw [if_pos c2]
          by_cases c3 : os.idxOf x < os.idxOf y
          · rw [if_pos (key.mpr (.inr ⟨c2, c3⟩)), if_pos c3]
          · rw [if_neg (fun z => by rcases key.mp z with a | a; exact c1 a; exact c3 a.2), if_neg c3]
        · rw [if_neg c2, if_neg (fun z => by rcases key.mp z with a | a; exact c1 a; exact c2 a.1)]
    rw [es, ih, e1, ea, ec]
    by_cases c1 : rk r.1 x < rk r.1 y
    · have c2 : ¬ rk r.1 x = rk r.1 y := by omega
      rw [if_pos c1, if_pos c1, if_neg c2]
      push_cast
      grind
    · rw [if_neg c1, if_neg c1]
      by_cases c2 : rk r.1 x = rk r.1 y
      · rw [if_pos c2, if_pos c2]
        push_cast
        grind
      · rw [if_neg c2, if_neg c2]
        push_cast
        grind
theorem step_one (os : List Str) (n : Int) : ∀ rows : List Row, stepW rows (fun _ => 1) os n = n * ((total rows : Nat) : Int)
  | [] => by show (0 : Int) = n * 0; rw [Int.mul_zero]
  | r :: rows => by
    have ih := step_one os n rows
    have es : stepW (r :: rows) (fun _ => 1) os n = 1 * (n * (r.2 : Nat)) + stepW rows (fun _ => 1) os n := rfl
    have et : total (r :: rows) = r.2 + total rows := rfl
    rw [es, ih, et]
    push_cast
    grind
theorem next_ahead {rows : List Row} {x y : Str} {th : List Str} (mx : x ∈ th) (my : y ∈ th) (h : ∀ r ∈ rows, th.Perm r.1.flatten) : ∀ xs : Lv, LvP th xs → nextW rows (ahφ x y) xs = (aN rows x y : Nat) * wt (fun _ => 1) xs + (cN rows x y : Nat) * wt (ahφ x y) xs
  | [], _ => by show (0 : Int) = _ * 0 + _ * 0; omega
  | e :: xs, hp => by
    have ih := next_ahead mx my h xs fun z m => hp z (List.mem_cons_of_mem _ m)
    have es : nextW rows (ahφ x y) (e :: xs) = stepW rows (ahφ x y) e.1 e.2.2 + nextW rows (ahφ x y) xs := rfl
    rw [es, ih, wt_cons, wt_cons, step_ahead (hp e List.mem_cons_self) mx my e.2.2 rows h]
    grind
theorem next_one {rows : List Row} : ∀ xs : Lv, nextW rows (fun _ => 1) xs = (total rows : Nat) * wt (fun _ => 1) xs
  | [] => by show (0 : Int) = _ * 0; omega
  | e :: xs => by
    have ih := next_one (rows := rows) xs
    have es : nextW rows (fun _ => 1) (e :: xs) = stepW rows (fun _ => 1) e.1 e.2.2 + nextW rows (fun _ => 1) xs := rfl
    rw [es, ih, wt_cons, step_one]
    grind
def cnt (A C T b : Int) : Nat → Int
  | 0 => b
  | m + 1 => A * T ^ m + C * cnt A C T b m
theorem chain_one {rows : List Row} {bs th : List Str} {lvs : List Lv} (ch : LvChain rows bs th lvs) : ∀ (i : Nat) (xs : Lv), lvs[i]? = some xs → wt (fun _ => 1) xs = ((total rows : Nat) : Int) ^ i
  | 0, xs, h => by rw [ch.zero xs h]; rfl
  | i + 1, ys, h => by
    have hl := (List.getElem?_eq_some_iff.mp h).1
    have hx : lvs[i]? = some lvs[i] := List.getElem?_eq_getElem (by omega)
    rw [ch.step i _ _ hx h, next_one, chain_one ch i _ hx, Int.pow_succ, Int.mul_comm]
theorem chain_ahead {rows : List Row} {bs th : List Str} {lvs : List Lv} (ch : LvChain rows bs th lvs) {x y : Str} (mx : x ∈ th) (my : y ∈ th) (h : ∀ r ∈ rows, th.Perm r.1.flatten) : ∀ (i : Nat) (xs : Lv), lvs[i]? = some xs → wt (ahφ x y) xs = cnt (aN rows x y : Nat) (cN rows x y : Nat) (total rows : Nat) (ahφ x y bs) i
  | 0, xs, hx => ch.zero xs hx _
  | i + 1, ys, hy => by
    have hl := (List.getElem?_eq_some_iff.mp hy).1
    have hx : lvs[i]? = some lvs[i] := List.getElem?_eq_getElem (by omega)
    rw [ch.step i _ _ hx hy, next_ahead mx my h _ (ch.p _ (List.mem_of_getElem? hx)), chain_one ch i _ hx, chain_ahead ch mx my h i _ hx]
    rfl
theorem cnt_closed {A C T : Nat} (h : A + C ≤ T) (b : Int) : ∀ m : Nat, ((cnt A C T b m : Int) : Rat) = (b : Rat) * (C : Rat) ^ m + (A : Rat) / (((T : Int) - (C : Nat) : Int) : Rat) * ((T : Rat) ^ m - (C : Rat) ^ m)
  | 0 => by
    show (b : Rat) = _
    rw [Rat.pow_zero, Rat.pow_zero]
    grind
  | m + 1 => by
    have ih := cnt_closed h b m
    have e : cnt (A : Nat) (C : Nat) (T : Nat) b (m + 1) = (A : Nat) * ((T : Nat) : Int) ^ m + (C : Nat) * cnt A C T b m := rfl
    rw [e, Rat.intCast_add, Rat.intCast_mul, Rat.intCast_mul, ih, Rat.pow_succ, Rat.pow_succ, Rat.intCast_pow]
    by_cases hc : C = T
    · have hA : A = 0 := by omega
      subst hA
      have hz : ((C : Int) : Rat) = (C : Rat) := Rat.intCast_natCast C
      rw [hz]
      simp
      grind
    · have hn : (((T : Int) - (C : Nat) : Int) : Rat) ≠ 0 := fun z => by have := Rat.intCast_eq_zero_iff.mp z; omega
      have hd : (((T : Int) - (C : Nat) : Int) : Rat) = (T : Rat) - (C : Rat) := by rw [Rat.intCast_sub]; rfl
      rw [hd] at hn ⊢
      simp only [Rat.intCast_natCast]
      grind
end SD
end
section
set_option Elab.async false
set_option linter.all false
set_option maxRecDepth 100000
set_option maxHeartbeats 4000000
/-! ### the law, plain -/
namespace SD
open PySem PySem.Spec PyProof.Rows L2 LamX NdefX
theorem three_sum (x y : Str) : ∀ rows : List Row, aN rows x y + aN rows y x + cN rows x y = total rows
  | [] => rfl
  | r :: rows => by
    have ih := three_sum x y rows
    have e1 : aN (r :: rows) x y = (if rk r.1 x < rk r.1 y then 1 else 0) * r.2 + aN rows x y := rfl
    have e2 : aN (r :: rows) y x = (if rk r.1 y < rk r.1 x then 1 else 0) * r.2 + aN rows y x := rfl
    have e3 : cN (r :: rows) x y = (if rk r.1 x = rk r.1 y then 1 else 0) * r.2 + cN rows x y := rfl
    have e4 : total (r :: rows) = r.2 + total rows := rfl
    rw [e1, e2, e3, e4]
    by_cases c1 : rk r.1 x < rk r.1 y
    · rw [if_pos c1, if_neg (by omega), if_neg (by omega)]; omega
    · by_cases c2 : rk r.1 y < rk r.1 x
      · rw [if_neg c1, if_pos c2, if_neg (by omega)]; omega
      · rw [if_neg c1, if_neg c2, if_pos (by omega)]; omega
theorem cN_comm (x y : Str) (rows : List Row) : cN rows x y = cN rows y x := wsum_congr (fun gs => by
  by_cases c : rk gs x = rk gs y
  · rw [if_pos c, if_pos c.symm]
  · rw [if_neg c, if_neg (Ne.symm c)]) rows
/-- what the form of a pair comes to, in the rows of the whole urn -/
theorem waysV_pair {rows : List Row} {x y p q : Str} (hpq : p ≠ q) (h : [p, q].Perm [x, y]) (b : Bool) (f : Int → Rat) : waysV (pairRows rows p q) x y b f = (if b then f (cN rows x y : Nat) else 0) + ((aN rows x y : Nat) : Rat) / ((((total rows : Nat) : Int) - (cN rows x y : Nat) : Int) : Rat) * (f (total rows : Nat) - f (cN rows x y : Nat)) := by
  obtain ⟨h1, h2, h3⟩ := pair_sums (rows := rows) hpq h
  unfold waysV
  rw [h1, h2, h3]
theorem ways_both {rows : List Row} {x y p q : Str} (hpq : p ≠ q) (h : [p, q].Perm [x, y]) (b : Bool) (f : Int → Rat) : waysV (pairRows rows p q) x y b f + waysV (pairRows rows p q) y x (!b) f = f (total rows : Nat) := by
  have h2 : [p, q].Perm [y, x] := h.trans (List.Perm.swap y x [])
  rw [waysV_pair hpq h, waysV_pair hpq h2, cN_comm y x rows]
  have hs := three_sum x y rows
  have hb : (if b = true then f (cN rows x y : Nat) else 0) + (if (!b) = true then f (cN rows x y : Nat) else 0) = f (cN rows x y : Nat) := by
    cases b <;> simp <;> grind
  have hsr : ((aN rows x y : Nat) : Rat) + ((aN rows y x : Nat) : Rat) + ((cN rows x y : Nat) : Rat) = ((total rows : Nat) : Rat) := by
    rw [← hs]
    push_cast
    rfl
  by_cases hc : cN rows x y = total rows
  · rw [hc] at hb ⊢
    grind
  · have hn : ((((total rows : Nat) : Int) - (cN rows x y : Nat) : Int) : Rat) ≠ 0 := fun z => by have := Rat.intCast_eq_zero_iff.mp z; omega
    have hd : ((((total rows : Nat) : Int) - (cN rows x y : Nat) : Int) : Rat) = ((total rows : Nat) : Rat) - ((cN rows x y : Nat) : Rat) := by rw [Rat.intCast_sub]; rfl
    rw [hd] at hn ⊢
    generalize (if b = true then f (cN rows x y : Nat) else 0) = u1 at *
    generalize (if (!b) = true then f (cN rows x y : Nat) else 0) = u2 at *
    generalize f (total rows : Nat) = ft at *
    generalize f (cN rows x y : Nat) = fc at *
    grind
theorem tells_of {rows : List Row} {x y p q : Str} (hpq : p ≠ q) (h : [p, q].Perm [x, y]) {b : Bool} {ts : List Trm} {v : Int} (hv : 0 < v) (hev : ∀ f, ev ts f / (v : Rat) = waysV (pairRows rows p q) x y b f) (m : Nat) : psum ts m = cnt (aN rows x y : Nat) (cN rows x y : Nat) (total rows : Nat) (if b then 1 else 0) m * v := by
  have hs := three_sum x y rows
  have h1 := ev_sum (fun z => z ^ m) ts
  have h2 := hev (fun z => ((z ^ m : Int) : Rat))
  rw [← h1, waysV_pair hpq h] at h2
  have h3 := cnt_closed (A := aN rows x y) (C := cN rows x y) (T := total rows) (by omega) (if b then 1 else 0) m
  have hvn : (v : Rat) ≠ 0 := fun z => by have := Rat.intCast_eq_zero_iff.mp z; omega
  have h4 : ((psum ts m : Int) : Rat) = ((cnt (aN rows x y : Nat) (cN rows x y : Nat) (total rows : Nat) (if b then 1 else 0) m * v : Int) : Rat) := by
    rw [Rat.intCast_mul, h3]
    have e1 : ((((cN rows x y : Nat) : Int) ^ m : Int) : Rat) = ((cN rows x y : Nat) : Rat) ^ m := by rw [Rat.intCast_pow]; rfl
    have e2 : ((((total rows : Nat) : Int) ^ m : Int) : Rat) = ((total rows : Nat) : Rat) ^ m := by rw [Rat.intCast_pow]; rfl
    simp only [e1, e2] at h2
    have e3 : (((if b = true then 1 else 0 : Int)) : Rat) * ((cN rows x y : Nat) : Rat) ^ m = if b = true then ((cN rows x y : Nat) : Rat) ^ m else 0 := by
      cases b <;> simp <;> grind
    rw [e3, ← h2]
    unfold psum
    grind
  exact Rat.intCast_inj.mp h4
end SD
end
section
set_option Elab.async false
set_option linter.all false
set_option maxRecDepth 100000
set_option maxHeartbeats 4000000
/-! ### the law -/
namespace SD
open PySem PySem.Spec PyProof.Rows L2 LamX NdefX
theorem fTup_n {H G : Hp} {a : Addr} {xs : List V} (e : ExtN H G) (h : FTup H a xs) : FTup G a xs := let ⟨o, h, d⟩ := h; ⟨o, e _ _ h (by simp), d⟩
theorem lvV_n {P : Program} {w : World} {H G : Hp} {v : V} {xs : Lv} (e : ExtN H G) (h : LvV P w H v xs) : LvV P w G v xs := by
  obtain ⟨d, rfl, h1, h2⟩ := h
  exact ⟨d, rfl, e _ _ h1 (by unfold DLv; simp), fun x m => by obtain ⟨o, k1, k2⟩ := h2.keys x m; exact ⟨o, e _ _ k1 (by simp), k2⟩, h2.nd, h2.len⟩
theorem eqv_ints : ∀ l : List Int, PyData.eqvAll (l.map .int) (l.map .int) = true
  | [] => by simp [PyData.eqvAll]
  | x :: a => by
    rw [List.map_cons, PySem.W.eqv_all_cons, eqv_ints a]
    simp [PyData.eqv]
theorem eqv_lints (l : List Int) : PyData.eqv (.list (l.map .int)) (.list (l.map .int)) = true := by
  rw [PyData.eqv]
  exact eqv_ints l
theorem dep_ints : ∀ a : List Int, PyData.depthAll (a.map .int) ≤ 1
  | [] => by simp [PyData.depthAll]
  | x :: a => by
    have := dep_ints a
    rw [List.map_cons]
    simp only [PyData.depthAll, PyData.depth]
    omega
theorem shaped_ints (l : List Int) : SeqAt.shaped (.list (l.map .int)) = true := by
  show ((PyData.list (l.map .int)).canLay0 && decide ((PyData.list (l.map .int)).depth ≤ 64)) = true
  rw [Bool.and_eq_true]
  have := dep_ints l
  refine ⟨?_, decide_eq_true ?_⟩
  · rw [PyData.canLay0]
    exact lay_ints l
  · simp only [PyData.depth]
    omega
theorem dps_ints {K : PySem.W.Frag} {H : Hp} : ∀ l : List Int, DpAll K H (l.map V.int) (l.map .int)
  | [] => .nil
  | x :: l => .cons (.int _) (dps_ints l)
theorem dps_intsF {α : Type} {K : PySem.W.Frag} {H : Hp} (g : α → Int) : ∀ l : List α, DpAll K H (l.map fun a => V.int (g a)) ((l.map g).map .int)
  | [] => .nil
  | x :: l => .cons (.int _) (dps_intsF g l)
def sp_law_right (Pt : Addr) : Sp := fun vs H Q _ => ∃ p, vs = [.ref p] ∧ TabH Pt H ∧ PurseAt H p ∧ ∀ H', (∀ b o, b ≠ p → H b = some o → (∀ ps, o ≠ .tbl ps) → H' b = some o) → TabH Pt H' → Q (.bl true) H'
abbrev s_law_right : Stmt := top 103
abbrev N_law_right : List Str := ["_law_purse_here", "_law_stock", "_law_rows_here", "_law_begin", "_law_box", "_law_levels_here", "_law_x", "_law_y", "_law_tale", "_law_name", "_law_m", "_law_level"]
theorem sc_law_right : FnScope N_law_right ["_law_purse_here"] (defScope s_law_right) := ⟨rfl, rfl, rfl, by decide +kernel, rfl, by decide +kernel, by decide +kernel⟩
section
variable {P : Program} {w : World} {K : PySem.W.Frag} {mg : Str → Option Value} {base : Heap} {c Pt : Addr}
theorem tabH_but {p : Addr} {H G : Hp} {c d : V} (e : But p H G) (hp : H p = some (.lst [c, d])) (h : TabH Pt H) : TabH Pt G := fun z hz => by
  obtain ⟨ps, h1, h2, h3⟩ := h z hz
  refine ⟨ps, e _ _ (ne_of h1 hp (by simp)) h1, h2, fun pos cv hc => ?_⟩
  obtain ⟨c', e1, e2⟩ := h3 pos cv hc
  exact ⟨c', e1, e _ _ (ne_of e2 hp (by unfold CodeO; simp)) e2⟩
theorem nr_one {T : Int} (h0 : 0 ≤ T) (h1 : T ≤ 60) : nrT 1 [(1, T)] = [(1, T)] ∧ nrP 1 [(1, T)] = 1 := by
  have g := (nf_one h0 h1).gcd
  unfold nrT nrP
  rw [g]
  exact ⟨rfl, rfl⟩
theorem ev_single (T : Int) (f : Int → Rat) : ev [(1, T)] f / ((1 : Int) : Rat) = f T := by
  unfold ev
  simp
  grind
theorem cl_law_right (T : Tops K mg) (C : TopC K mg base c Pt) : Cl P w K mg base 13 "_law_right" ["_law_purse_here"] (sp_law_right Pt) := by
  refine .of T.f_law_right sc_law_right (fun _ _ _ _ _ _ us hl => match us, hl with | [_], _ => rfl) (fun vs H Q E h => ?_) fun f cdv A outer s H vs Q E hr h => ?_
  · obtain ⟨_, rfl, _⟩ := h; rfl
  obtain ⟨p, rfl, hT, hP, q⟩ := h
  refine ⟨_, (pss_cons (ps_set (i := 1) sc_law_right.nd rfl (Or.inl rfl) (pe_cl (cl_law_things T) hr (by decide) rfl (pa_cons (pv 0) (pa_cons (pe_op op_add pe_int (pe_cl (cl_law_draw T) hr (by decide) rfl (pa_cons (pv 0) (pa_cons pe_int pa_nil)))) pa_nil))))
      (pss_cons (ps_par (i := 2) (j := 3) (by rfl) sc_law_right.nd rfl rfl (by decide) rfl rfl (pa_cons (pe_cl (cl_law_rows T) hr (by decide) rfl (pa_cons (pv 0) (pa_cons (pv 1) (pa_cons pe_int pa_nil)))) (pa_cons (pe_cl (cl_law_order T) hr (by decide) rfl (pa_cons (pv 0) (pa_cons (pv 1) pa_nil))) pa_nil)) (by rfl))
      (pss_cons (ps_par (i := 4) (j := 5) (by rfl) sc_law_right.nd rfl rfl (by decide) rfl rfl (pa_cons (pe_cm (cm_Urn_read T) hr (by decide) (pe_glob (by rfl) T.oU.mgc (show RelV (.ref _) (.ref _) from rfl)) (pa_cons (pe_cl (cl_law_urn_text T) hr (by decide) rfl (pa_cons (pv 2) pa_nil)) pa_nil)) (pa_cons (pe_cl (cl_law_levels T) hr (by decide) rfl (pa_cons (pv 2) (pa_cons (pv 3) (pa_cons pe_int pa_nil)))) pa_nil)) (by rfl))
      (pss_cons (ps_for PassesOwn.never rfl (pi_tupK (K := K) rfl (pv 1)) (pg_name (i := 6) sc_law_right.nd rfl (Or.inr rfl))
       (pss_one (ps_for PassesOwn.never rfl (pi_listK (K := K) rfl (pe_lc (own := [("_law_name", 9)]) (by rfl) sc_law_right.nd (pi_tupK (K := K) rfl (pv 1)) (blkOk_by (own := [("_law_name", 9)]) (N := N_law_right) (sc := defScope s_law_right) (by decide +kernel)) (fun _ _ _ _ _ => (pg_name (i := 9) sc_law_right.nd rfl (Or.inl rfl))) (fun _ _ _ _ _ => (pts_one (pt_cmpR op_ne (pv 9) (pv 6) (nomark _)))) (fun _ _ _ _ _ => (pv 9)))) (pg_name (i := 7) sc_law_right.nd rfl (Or.inr rfl))
       (pss_cons (ps_set (i := 8) sc_law_right.nd rfl (Or.inr rfl) (pe_cl (cl_ways_ahead T C) hr (by decide) rfl (pa_cons (pv 4) (pa_cons (pv 3) (pa_cons (pv 6) (pa_cons (pv 7) pa_nil))))))
      (pss_cons (ps_if (pt_cmpR (op_neDK (K := K) rfl (hu64 hr)) (pe_lc (own := [("_law_m", 10)]) (by rfl) sc_law_right.nd (pi_range1 (by rfl) (T.nn "range") (pa_cons pe_int pa_nil)) (blkOk_by (own := [("_law_m", 10)]) (N := N_law_right) (sc := defScope s_law_right) (by decide +kernel)) (fun _ _ _ _ _ => (pg_name (i := 10) sc_law_right.nd rfl (Or.inl rfl))) (fun _ _ _ _ _ => pts_nil) (fun _ _ _ _ _ => (pe_cl (cl_law_tells T) hr (by decide) rfl (pa_cons (pv 8) (pa_cons (pv 10) pa_nil))))) (pe_lc (own := [("_law_level", 11)]) (by rfl) sc_law_right.nd (pi_listK (K := K) rfl (pv 5)) (blkOk_by (own := [("_law_level", 11)]) (N := N_law_right) (sc := defScope s_law_right) (by decide +kernel)) (fun _ _ _ _ _ => (pg_name (i := 11) sc_law_right.nd rfl (Or.inl rfl))) (fun _ _ _ _ _ => pts_nil) (fun _ _ _ _ _ => (pe_cl (cl_law_ahead (P := P) (w := w) T) hr (by decide) rfl (pa_cons (pv 11) (pa_cons (pv 6) (pa_cons (pv 7) pa_nil)))))) (nomark _))
       (pss_one (ps_ret pe_bl))
       pss_nil)
      (pss_one (ps_if (pt_cmpR (op_neF T (hr.mono (by decide)) rfl rfl) (pe_op (op_addF T (hr.mono (by decide)) rfl rfl) (pv 8) (pe_ways_aheadK T C hr (by decide) rfl (pk_cons (pv 6) (pk_cons (pv 7) (pk_cons (pv 3) (pk_cons (pv 4) pk_nil)))))) (pe_ml (ml_Form1 T) hr (by decide) rfl (pa_cons (pe_tup (pa_cons (pe_tup (pa_cons pe_int (pa_cons (pe_cl (cl_law_total T) hr (by decide) rfl (pa_cons (pv 2) pa_nil)) pa_nil))) pa_nil)) pa_nil)) (nomark _))
       (pss_one (ps_ret pe_bl))
       pss_nil)))))))
      (pss_one (ps_ret pe_bl)))))) , ?_⟩
  refine ⟨_, rfl, _, rfl, p, 4, rfl, hP, by omega, by omega, fun j H1 e1 hP1 hj => ⟨_, _, rfl, rfl, ?_⟩⟩
  have ej : (2 : Int) + (j : Nat) = ((2 + j : Nat) : Int) := by omega
  refine ⟨p, 2 + j, congrArg (fun z => [V.ref p, V.int z]) ej, hP1, by omega, fun a th H2 e2 hP2 ha hTh hl => ?_⟩
  have hap : a ≠ p := fun z => by obtain ⟨c, d, hp, _⟩ := hP2; rw [z, hp] at ha; cases ha
  have hth0 : th ≠ [] := fun z => by rw [z] at hl; simp at hl; omega
  refine ⟨_, rfl, _, rfl, p, a, 6, th, rfl, hP2, by decide, by decide, ha, hTh, by omega, hth0, fun l us rows H3 e3 hP3 hl3 hpr hG hO h9 h6 => ?_⟩
  have hlp : l ≠ p := fun z => by
    obtain ⟨c, d, hp, _⟩ := hP3
    rw [z, hp] at hl3
    cases hl3
    cases hpr with
    | cons h t => obtain ⟨_, _, z, _⟩ := h; cases z
  refine ⟨_, rfl, _, rfl, p, a, th, rfl, hP3, e3 _ _ hap ha, by omega, fun b o H4 e4 hP4 hb ho => ?_⟩
  obtain ⟨c0, d0, hp0, _⟩ := id hP
  obtain ⟨c1, d1, hp1, _⟩ := id hP1
  obtain ⟨c2, d2, hp2, _⟩ := id hP2
  obtain ⟨c3, d3, hp3, _⟩ := id hP3
  have hT4 : TabH Pt H4 := tabH_but e4 hp3 (tabH_but e3 hp2 (tabH_but e2 hp1 (tabH_but e1 hp0 hT)))
  have hl4 := e4 _ _ hlp hl3
  have hpr4 : Paired (RowV H4) us rows := paired_mono (fun v r h => rowV_pu e4 hp3 h) hpr
  have ha4 := e4 _ _ hap (e3 _ _ hap ha)
  have B : But p H H4 := fun b o n h => e4 _ _ n (e3 _ _ n (e2 _ _ n (e1 _ _ n h)))
  clear hp0 hp1 hp2 hp3 hpr hl3 ha e1 e2 e3 e4 hP hP1 hP2 hP3 hP4 hT
  refine ⟨_, _, rfl, ?_⟩
  have hrw : ∀ r ∈ rows, GoodGs r.1 ∧ 1 ≤ r.2 ∧ r.2 ≤ 9 := fun r m => ⟨(hG.all r m).1, (hG.all r m).2.1, h9 r m⟩
  refine ⟨rfl, _, rfl, l, us, rows, rfl, hl4, hpr4, by omega, hrw, fun H5 e5 => ?_⟩
  refine ⟨_, rows, th, rfl, hG, hO, h9, fun u H6 e6 hu => ?_⟩
  have e56 := e5.trans e6
  refine ⟨_, rfl, _, rfl, l, b, us, rows, th, o, rfl, e56 _ _ hl4, rows_same e56 hpr4, fun r m => ⟨(hG.all r m).1, h9 r m, (hG.all r m).2.2⟩, h6, asc_nodup hG.asc, by omega, hb.same e56, ho, fun L ds lvs H7 e7 hL hpd hll hch => ?_⟩
  refine ⟨_, _, rfl, ?_⟩
  have e47 : Same H4 H7 := e56.trans e7
  have hT7 : TabH Pt H7 := hT4.ext e47
  have hl7 := e47 _ _ hl4
  have hpr7 := rows_same e47 hpr4
  have ha7 := e47 _ _ ha4
  have hu7 := hu.same e7
  have hb7 := hb.same e47
  have hperm : ∀ r ∈ rows, th.Perm r.1.flatten := fun r m => (hG.all r m).2.2
  have htot := hG.tot
  have hdl := paired_len hpd
  refine ⟨_, rfl, a, rfl, ⟨_, .of ha7⟩, ?_⟩
  refine for_tup (xs := nm th) (fun i σ' G => ∃ o6 o7 o8, σ' = [some (.ref p), some (.ref a), some (.ref l), some (.ref b), some (.ref u), some (.ref L), o6, o7, o8, none, none, none] ∧ Ext Pt H7 G) ⟨_, _, _, rfl, .refl hT7⟩ (fun i σ' G _ hh => ?_) (fun i v σ' G hv hh => ?_) fun σ' G hh => ?_
  · obtain ⟨_, _, _, _, hE⟩ := hh
    exact .of (hE.e _ _ ha7 (by simp))
  · obtain ⟨o6, o7, o8, rfl, hE⟩ := hh
    obtain ⟨x, hx, rfl⟩ := nm_at hv
    have mx := List.mem_of_getElem? hx
    have ha8 := hE.e _ _ ha7 (by simp)
    refine ⟨_, rfl, a, rfl, ⟨_, .of ha8⟩, fun D hD => ?_⟩
    refine lcT (fun j acc _ => acc = nm ((th.take j).filter fun z => decide (z ≠ x))) (xs := nm th) (.of ha8) hD rfl (fun j v G2 acc hx2 e8 hD2 hl2 hacc => ?_) fun G2 acc e8 hD2 hl2 hacc => ?_
    · obtain ⟨y, hy, rfl⟩ := nm_at hx2
      have hj := (List.getElem?_eq_some_iff.mp hy).1
      have hfil := take_succ_filter (p := fun z => decide (z ≠ x)) hy
      refine ⟨rfl, _, rfl, _, rfl, rfl, ?_⟩
      by_cases hc : y = x
      · refine ⟨false, blN (by rw [hc]), iteF (lc_skip e8 (.refl _) hD2 hl2 ?_)⟩
        rw [hacc, hfil, if_neg (by simp [hc]), List.append_nil]
      · refine ⟨true, blNF (fun z => hc (by injection z)), iteT ⟨_, rfl, lc_put hD e8 (.refl _) hD2 hl2 (by omega) ?_⟩⟩
        rw [hacc, hfil, if_pos (by simpa using hc), nm_app]
        rfl
    · rw [List.length_map, List.take_length] at hacc
      subst hacc
      have hT2 : TabH Pt G2 := hE.t.ext e8
      refine ⟨D, rfl, ⟨_, .of hD2⟩, ?_⟩
      refine for_list (xs := nm (th.filter fun z => decide (z ≠ x))) (fun i σ' G3 => ∃ o7 o8, σ' = [some (.ref p), some (.ref a), some (.ref l), some (.ref b), some (.ref u), some (.ref L), some (.str x), o7, o8, none, none, none] ∧ Ext Pt G2 G3) ⟨_, _, rfl, .refl hT2⟩ (fun i σ' G3 _ hh => ?_) (fun i v σ' G3 hv hh => ?_) fun σ' G3 hh => ?_
      · obtain ⟨_, _, _, hE3⟩ := hh
        exact .of (hE3.e _ _ hD2 (by simp))
      · obtain ⟨o7, o8, rfl, hE3⟩ := hh
        obtain ⟨y, hy, rfl⟩ := nm_at hv
        have my0 := List.mem_of_getElem? hy
        have my : y ∈ th := (List.mem_filter.mp my0).1
        have hyx : y ≠ x := by simpa using (List.mem_filter.mp my0).2
        have hF : ExtN H7 G3 := (hE.e.trans (.of e8)).trans hE3.e
        refine ⟨_, rfl, _, rfl, _, rfl, _, rfl, u, b, rows, th, o, x, y, rfl, hE3.t, urnV_n hF hu7, hG, mx, my, hyx, fTup_n hF hb7, ho, fun p1 q1 asc1 perm1 z1 ts1 v1 M1 G4 hE4 hF1 hN1 hM1 hM60 hd1 hev1 => ?_⟩
        have hF4 := hF.trans hE4.e
        have hpq : p1 ≠ q1 := by
          have := asc_nodup asc1
          simpa using this
        have hv1 := Int.le_of_dvd hM1 hd1
        have hks : ∀ m, psum ts1 m = cnt (aN rows x y : Nat) (cN rows x y : Nat) (total rows : Nat) (if decide (o.idxOf x < o.idxOf y) then 1 else 0) m * v1 := tells_of hpq perm1 hN1.pos hev1
        dsimp only
        refine ⟨7, rfl, by decide, by decide, fun D1 nD1 => ?_⟩
        refine lcR (fun j acc _ => acc = (List.range j).map fun m => V.int (cnt (aN rows x y : Nat) (cN rows x y : Nat) (total rows : Nat) (if decide (o.idxOf x < o.idxOf y) then 1 else 0) m)) (lo := 0) (n := 7) nD1 rfl (fun j G5 acc hj e5 hD5 hl5 hacc => ?_) fun G5 acc e5 hD5 hl5 hacc => ?_
        · have ez : (0 : Int) + (j : Nat) = ((j : Nat) : Int) := Int.zero_add _
          rw [ez]
          refine ⟨rfl, tYesI ⟨_, rfl, _, rfl, z1, ts1, v1, j, _, rfl, hF1.same e5, hN1.d, hN1.pos, by omega, by omega, hks j, fun G6 e6 => lc_put nD1 e5 e6 hD5 hl5 (by omega) ?_⟩⟩
          rw [hacc, List.range_succ, List.map_append]
          rfl
        subst hacc
        have hL5 := e5 _ _ (hF4 _ _ hL (by simp))
        refine ⟨_, rfl, L, rfl, ⟨_, .of hL5⟩, fun D2 nD2 => ?_⟩
        refine lcL (fun j acc _ => acc = (lvs.take j).map fun xs => V.int (wt (ahφ x y) xs)) (xs := ds) (.of hL5) nD2 rfl (fun j v G6 acc hv e6 hD6 hl6 hacc => ?_) fun G6 acc e6 hD6 hl6 hacc => ?_
        · obtain ⟨xs, hxs, hlv⟩ := paired_at hpd hv
          have hj := (List.getElem?_eq_some_iff.mp hv).1
          obtain ⟨d, rfl, hda⟩ := lvV_n (hF4.trans (.of (e5.trans e6))) hlv
          have hlen := hch.len j xs hxs
          have h6j : 6 ^ j ≤ 6 ^ 6 := Nat.pow_le_pow_right (by decide) (by omega)
          have h66 : (6 : Nat) ^ 6 = 46656 := by decide
          refine ⟨rfl, tYesI ⟨_, rfl, _, rfl, _, rfl, d, x, y, xs, th, rfl, hda, hch.p xs (List.mem_of_getElem? hxs), by omega, mx, my, fun G7 e7 => lc_put nD2 e6 e7 hD6 hl6 (by omega) ?_⟩⟩
          rw [hacc, take_succ_map hxs]
          rfl
        rw [hdl, List.take_length] at hacc
        have hD6' := e6 _ _ hD5
        refine ⟨.list (((List.range 7).map fun m => cnt (aN rows x y : Nat) (cN rows x y : Nat) (total rows : Nat) (if decide (o.idxOf x < o.idxOf y) then 1 else 0) m).map .int), .list ((lvs.map fun xs => wt (ahφ x y) xs).map .int), .lst (.of hD6') (dps_intsF _ _), .lst (.of (by rw [hD6, hacc])) (dps_intsF _ _), shaped_ints _, shaped_ints _, ?_⟩
        have ekk : ((List.range 7).map fun m => cnt (aN rows x y : Nat) (cN rows x y : Nat) (total rows : Nat) (if decide (o.idxOf x < o.idxOf y) then 1 else 0) m) = lvs.map fun xs => wt (ahφ x y) xs := by
          refine List.ext_getElem? fun i => ?_
          rw [List.getElem?_map, List.getElem?_map]
          by_cases hi : i < 7
          · rw [List.getElem?_range hi, List.getElem?_eq_getElem (by omega)]
            have := chain_ahead hch mx my hperm i lvs[i] (List.getElem?_eq_getElem (by omega))
            simp only [Option.map_some, this]
            unfold ahφ
            simp
          · rw [List.getElem?_eq_none (by simp; omega), List.getElem?_eq_none (by omega)]
            rfl
        rw [ekk, eqv_lints]
        refine ⟨false, rfl, iteF ?_⟩
        have hG6 : ExtN G4 G6 := .of (e5.trans e6)
        have hT6 : TabH Pt G6 := hE4.t.ext (e5.trans e6)
        have hF6 := hF4.trans hG6
        obtain ⟨z1', dx1, a1, us1, ez1, hz1, _⟩ := formV_n hG6 hF1
        cases ez1
        refine ⟨_, rfl, _, rfl, _, rfl, _, rfl, _, rfl, ?_⟩
        refine ⟨rfl, rfl, u, b, rows, th, o, y, x, rfl, hT6, urnV_n hF6 hu7, hG, my, mx, hyx.symm, fTup_n hF6 hb7, ho, fun p2 q2 asc2 perm2 z2 ts2 v2 M2 G7 hE7 hF2 hN2 hM2 hM260 hd2 hev2 => ?_⟩
        have epq : [p2, q2] = [p1, q1] := asc_uniq asc2 asc1 (perm2.trans ((List.Perm.swap x y []).trans perm1.symm))
        have e1 : p2 = p1 := by injection epq
        have e2 : q2 = q1 := by injection epq with _ h; injection h
        subst e1 e2
        have hF1' := formV_n (hG6.trans hE7.e) hF1
        obtain ⟨z2', dx2, a2, us2, ez2, hz2, _⟩ := id hF2
        cases ez2
        have mxo : x ∈ o := ho.mem_iff.mpr mx
        have myo : y ∈ o := ho.mem_iff.mpr my
        have hidx : o.idxOf x ≠ o.idxOf y := fun z => hyx (by
          have h1 := ix_get mxo
          have h2 := ix_get myo
          rw [z, h2] at h1
          exact Option.some.inj h1)
        have hb2 : decide (o.idxOf y < o.idxOf x) = !decide (o.idxOf x < o.idxOf y) := by
          by_cases h : o.idxOf x < o.idxOf y
          · rw [decide_eq_true h, decide_eq_false (by omega)]; rfl
          · rw [decide_eq_false h, decide_eq_true (by omega)]; rfl
        have hMM : M1 * M2 ≤ 60 * 60 := Int.mul_le_mul hM60 hM260 (by omega) (by decide)
        refine ⟨z1, z2, dx1, _, dx2, _, rfl, rfl, hE7.e _ _ hz1 (by simp), hz2, z1, z2, ts1, v1, ts2, v2, M1 * M2, rfl, hF1', hF2, hN1, hN2, Int.mul_pos hM1 hM2, by omega, Int.dvd_trans hd1 (Int.dvd_mul_right _ _), Int.dvd_trans hd2 (Int.dvd_mul_left _ _), fun z3 ts3 v3 G8 e8' hF3 hN3 hd3 hev3 => ?_⟩
        have hT0 : (0 : Int) ≤ ((total rows : Nat) : Int) := by omega
        have hT60 : ((total rows : Nat) : Int) ≤ 60 := by omega
        obtain ⟨ets, ev⟩ := nf_uniq hN3 (nf_one hT0 hT60) fun f => by
          rw [hev3 f, hev1 f, hev2 f, hb2, ways_both hpq perm1, ev_single]
        subst ets ev
        have hF8 := hF6.trans (hE7.e.trans (.of e8'))
        refine ⟨_, rfl, l, us, rows, rfl, hF8 _ _ hl7 (by simp), rows_n hF8 hpr7, by omega, fun G9 e9 => ⟨by show 2 ≤ sizeLine; decide, fun t1 nt1 => ⟨by show 1 ≤ sizeLine; decide, fun t2 nt2 => ?_⟩⟩⟩
        intro xx dxx n1 n2 hne
        have e10 := (same_new (o := .tup [.int 1, .int (total rows : Nat)]) nt1).trans (same_new (o := .tup [.ref t1]) nt2)
        refine mkForm (ts := [(1, ((total rows : Nat) : Int))]) upd_same (.cons ⟨t1, rfl, same_new nt2 _ _ upd_same⟩ .nil) (nf_one hT0 hT60).d (by decide) (by decide) n1 n2 fun G10 e11 hF10 => ⟨rfl, ?_⟩
        rw [(nr_one hT0 hT60).1, (nr_one hT0 hT60).2] at hF10
        have e12 : Same G8 G10 := e9.trans (e10.trans e11)
        have hF3' := hF3.same e12
        obtain ⟨z3', dx3, a3, us3, ez3, hz3, _⟩ := id hF3'
        cases ez3
        obtain ⟨z4', dx4, a4, us4, ez4, hz4, _⟩ := id hF10
        cases ez4
        refine ⟨z3, xx, dx3, _, dx4, _, rfl, rfl, hz3, hz4, z3, xx, _, _, rfl, hF3', hF10, true, rfl, ?_⟩
        refine ⟨false, rfl, iteF ?_⟩
        exact ⟨_, _, rfl, (hE3.trans (hE4.same (e5.trans e6))).trans (hE7.same (e8'.trans e12))⟩
      · obtain ⟨_, _, rfl, hE3⟩ := hh
        exact ⟨_, _, _, rfl, (hE.same e8).trans hE3⟩
  · obtain ⟨o6, o7, o8, rfl, hE⟩ := hh
    exact q G (fun b o n h t => hE.e _ _ (e47 _ _ (B _ _ n h)) t) hE.t
end
end SD
end
section
set_option Elab.async false
set_option linter.all false
set_option maxRecDepth 100000
set_option maxHeartbeats 4000000
/-! ### the law's own def -/
namespace SD
open PySem PySem.Spec PyProof.Rows L2 LamX NdefX
theorem sqL_but {K : PySem.W.Frag} {G G' : Hp} {p a : Addr} {xs : List V} (e : ∀ b o, b ≠ p → G b = some o → (∀ ps, o ≠ .tbl ps) → G' b = some o) (n : G p = none) (h : SqL K G a xs) : SqL K G' a xs := by
  rcases h with (h | ⟨o, h⟩) | h
  · exact .inl (.inl (e _ _ (fun z => by rw [z, n] at h; cases h) h (by simp)))
  · exact .inl (.inr ⟨o, e _ _ (fun z => by rw [z, n] at h; cases h) h (by simp)⟩)
  · exact .inr h
def sp_law (K : PySem.W.Frag) (Pt : Addr) : Sp := fun vs H Q _ => ∃ (a : Addr) (ns : List Int), vs = [.ref a] ∧ TabH Pt H ∧ SqL K H a (ns.map V.int) ∧ ns.length ≤ sizeLine ∧ ∀ H', Q (.bl true) H'
abbrev s_law : Stmt := top 104
abbrev N_law : List Str := ["_law_script", "_law_spot"]
theorem sc_law : FnScope N_law ["_law_script"] (defScope s_law) := ⟨rfl, rfl, rfl, by decide +kernel, rfl, by decide +kernel, by decide +kernel⟩
section
variable {P : Program} {w : World} {K : PySem.W.Frag} {mg : Str → Option Value} {base : Heap} {c Pt : Addr}
theorem fn_law (T : Tops K mg) (C : TopC K mg base c Pt) {f : Addr} {fd : FuncData} (F : L2.Fun K "law" "law" (top 104) f fd) : FnOk P w K mg base CX0 14 f fd ["_law_script"] (sp_law K Pt) := by
  refine F.ok sc_law (fun vs H Q E h => ?_) fun cdv A outer s H vs Q E hr h => ?_
  · obtain ⟨_, _, rfl, _⟩ := h; rfl
  obtain ⟨a, ns, rfl, hT, ha, hl, q⟩ := h
  refine ⟨_, (pss_one (ps_ret (pe_callB (cr_allK (K := K) rfl rfl) (by rfl) (T.nn "all") rfl (pa_cons (pe_lc (own := [("_law_spot", 1)]) (by rfl) sc_law.nd (pi_range1 (by rfl) (T.nn "range") (pa_cons (pe_callB (call_max2 rfl) (by rfl) (T.nn "max") rfl (pa_cons pe_int (pa_cons (pe_callB (call_min2 rfl) (by rfl) (T.nn "min") rfl (pa_cons (pe_callB (call_len_seqK (K := K) rfl) (by rfl) (T.nn "len") rfl (pa_cons (pv 0) pa_nil)) (pa_cons pe_int pa_nil))) pa_nil))) pa_nil)) (blkOk_by (own := [("_law_spot", 1)]) (N := N_law) (sc := defScope s_law) (by decide +kernel)) (fun _ _ _ _ _ => (pg_name (i := 1) sc_law.nd rfl (Or.inl rfl))) (fun _ _ _ _ _ => pts_nil) (fun _ _ _ _ _ => (pe_cl (cl_law_right T C) hr (by decide) rfl (pa_cons (pe_cl (cl_law_purse T) hr (by decide) rfl (pa_cons (pv 0) (pa_cons (pv 1) pa_nil))) pa_nil)))) pa_nil)))) , ?_⟩
  refine ⟨_, rfl, a, _, rfl, .inl ha, _, _, rfl, _, _, rfl, ?_⟩
  generalize hm : (if (if (3 : Int) < ((ns.map V.int).length : Nat) then (3 : Int) else ((ns.map V.int).length : Nat)) > 2 then (if (3 : Int) < ((ns.map V.int).length : Nat) then (3 : Int) else ((ns.map V.int).length : Nat)) else 2) = m
  obtain ⟨k, rfl, hk⟩ : ∃ k : Nat, m = (k : Int) ∧ k ≤ 3 := by
    by_cases h3 : (3 : Int) < ((ns.map V.int).length : Nat)
    · exact ⟨3, by rw [← hm, if_pos h3, if_pos (by decide)]; rfl, Nat.le_refl 3⟩
    · by_cases h2 : (((ns.map V.int).length : Nat) : Int) > 2
      · exact ⟨(ns.map V.int).length, by rw [← hm, if_neg h3, if_pos h2], by omega⟩
      · exact ⟨2, by rw [← hm, if_neg h3, if_neg h2]; rfl, by decide⟩
  clear hm
  refine ⟨_, rfl, by omega, by omega, fun D hD => ?_⟩
  have e0 : Same H (upd H D (.lst [])) := same_new hD
  refine loopR (fun i G => TabH Pt G ∧ ExtN H G ∧ G D = some (.lst ((List.replicate i true).map V.bl))) (lo := 0) (n := k) ⟨hT.ext e0, .of e0, upd_same⟩ (fun i G hi hh => ?_) fun G hh => ?_
  · obtain ⟨tG, xG, dG⟩ := hh
    have sG : SqL K G a (ns.map V.int) := sqL_but (p := D) (fun b o _ h t => xG b o h t) hD ha
    have ez : (0 : Int) + (i : Nat) = ((i : Nat) : Int) := Int.zero_add _
    rw [ez]
    refine ⟨rfl, tYesI ⟨_, rfl, _, rfl, a, ns, i, rfl, sG, by omega, hl, fun p G1 e1 np hP => ?_⟩⟩
    refine ⟨p, rfl, tG.ext e1, hP, fun G2 e2 t2 => ?_⟩
    have e12 : ∀ b o, b ≠ p → G b = some o → (∀ ps, o ≠ .tbl ps) → G2 b = some o := fun b o n h t => e2 b o n (e1 _ _ h) t
    have hDp : D ≠ p := fun z => by rw [z, np] at dG; cases dG
    have d2 := e12 _ _ hDp dG (by simp)
    refine ⟨_, d2, by rw [List.length_map, List.length_replicate, sizeLine_eq]; omega, ?_⟩
    refine ⟨fun z hz => ?_, ?_, ?_⟩
    · obtain ⟨ps, h1, h2, h3⟩ := t2 z hz
      refine ⟨ps, by rw [upd_ne (ne_of h1 d2 (by simp))]; exact h1, h2, fun pos cv hc => ?_⟩
      obtain ⟨c', k1, k2⟩ := h3 pos cv hc
      exact ⟨c', k1, by rw [upd_ne (ne_of k2 d2 (by unfold CodeO; simp))]; exact k2⟩
    · intro b o h t
      have h1 := xG b o h t
      rw [upd_ne (ne_of_none h hD)]
      exact e12 b o (fun z => by rw [z, np] at h1; cases h1) h1 t
    · rw [upd_same]
      congr 2
      rw [← rep_snoc, List.map_append]
      rfl
  · obtain ⟨tG, sG, dG⟩ := hh
    refine ⟨D, _, rfl, .of dG, ?_⟩
    have : (List.replicate k true).all id = true := by simp
    show Q (.bl ((List.replicate k true).all id)) G
    rw [this]
    exact q G
end
end SD
end
section
set_option Elab.async false
set_option linter.all false
set_option maxRecDepth 100000
set_option maxHeartbeats 4000000
open PySem PySem.W PySem.Calls PyProof.Rows
theorem PySem.Challenge.cw_sortdraws_k25_whole_things_ahead_holds : PySem.Challenge.rw_sortdraws_k25_whole_things_ahead.Holds := by
  refine SD.Hd.fin ?_
  refine LamX.walk_ofTsE (l := PySem.Challenge.rw_sortdraws_k25_whole_things_ahead) (n := 63) (k := 14) (x := "_law_script") (CX := fun _ => L2.CX0) rfl (by decide) SD.Hd.fin_dfl ⟨rfl, by decide, by decide⟩ ?F (fun _ _ _ _ _ z => z)
  intro w mg fa h Y G hmg0
  obtain ⟨K, KX, c⟩ := Y
  have hmg : mg ("law" : PySem.Str) = some (.ref fa) := by
    rw [← SD.Hd.fin_name]
    exact hmg0
  obtain ⟨fd, F, hm2, hb⟩ := SD.law_fun KX G c
  have e := hmg.symm.trans hm2
  cases e
  refine ⟨K, KX, fd, [SD.cutT K], SD.sp_law K (SD.cutT K).2, fun p hp => ?_, fun p hp => ?_, fun p hp => ?_, hb, fun H a ns hl _ hT hS => ?_, fun base hK hN hTB => ?_⟩
  · rw [List.mem_singleton.mp hp]; exact c.empty _ (List.mem_singleton.mpr rfl)
  · rw [List.mem_singleton.mp hp]; exact c.out _ (List.mem_singleton.mpr rfl)
  · rw [List.mem_singleton.mp hp]; exact codeHd_of_K KX (c.hd _ (List.mem_singleton.mpr rfl))
  · refine ⟨a, ns, rfl, fun z hz => ?_, hS, Nat.le_trans hl (by decide), fun _ => rfl⟩
    rw [List.mem_singleton.mp hz]
    exact LamX.TabS.nil (hT _ (List.mem_singleton.mpr rfl))
  · exact SD.fn_law (SD.tops_of KX G c) ⟨SD.cut_fnC KX G c, hTB _ (List.mem_singleton.mpr rfl)⟩ F
end
