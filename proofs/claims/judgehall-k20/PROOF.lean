import PyProof.Rows.All
import Wide.All
import OpenK.AllK
import Wide.FinOn
import HandS.ForMost
import HandS.Exc
import HandS.Defaults
import HandS.HeadHook1
import HandS.HeadHook2
import HandS.HeadHook3
import HandS.HeadHook4
import KE.KStateDown
import HandS.Head0
import HandS.Head1
import HandS.Head2
import HandS.TryOnly
import HandS.Evl
import HandS.IsInst
import HandS.Deep
import HandS.NoneIn
import HandS.Walk
import HandS.TupAny
import HandS.Style
import HandS.Lambda
import KE.GoesEnum
import KE.GoesMore
import KE.KDictPairs
import KE.SortKeyHeap
import KE.SortData
import KE.KSortKey
import KE.KDictSum
import KE.KDictCopyH
import HandS.DictTup
import HandS.HeadEnd
import HandS.HeadWalk
import PySem.Challenge.RW_judgehall_k20_whole_many_tries_judged
set_option Elab.async false
set_option linter.all false
set_option maxRecDepth 100000
set_option maxHeartbeats 8000000
/-! the text by its places, the facts that the head is to show -/
namespace JH
open PySem PySem.Spec PyProof.Rows L2
def topS (i : Nat) : Stmt := PySem.Challenge.pw_judgehall_k20_whole_many_tries_judged.main.body.getD i (.Pass ⟨0, 0, 0, 0⟩)
def dG (x : Str) (i : Nat) : He.DefD := ⟨(x, none), x, x, defArgs (topS i), defBody (topS i), defScope (topS i), [], []⟩
def dH (m q : Str) (j : Nat) : He.DefD := ⟨("Hall", some m), m, q, defArgs (inClass (topS 70) j), defBody (inClass (topS 70) j), defScope (inClass (topS 70) j), [], []⟩
def fn0 : List He.DefD := [dG "is_between" 28, dG "is_group" 29, dG "need_tasks" 30, dG "need_contest" 31, dG "trials_of" 32, dG "is_try" 33, dG "need_tries" 34, dG "is_verdict" 35, dG "need_verdicts" 36, dG "need_all" 37, dG "table_of" 38, dG "state_of" 45, dG "group_states" 46, dG "try_state" 47, dG "numbers_of" 48, dG "solved_at" 49, dG "worth_of" 50, dG "points_at" 51, dG "score_of" 52, dG "rank_of" 53]
def fn1 : List He.DefD := [dG "placed" 54, dG "whole_untils" 55, dG "all_placed" 56, dG "standings" 57, dG "is_over" 59, dG "open_trials" 60, dG "all_open" 61, dG "matter" 62, dG "hidden_of" 64, dG "rows_of" 65, dG "frozen_untils" 66, dG "board" 67, dG "is_entry" 75, dG "need_log" 76, dG "may_be" 77, dG "judged" 78, dG "_law_dice" 80, dG "_law_off" 81, dG "_law_alike" 82, dG "_law_size" 83]
def fn2 : List He.DefD := [dG "_law_matter" 84, dG "_law_is_whole" 85, dG "_law_hall" 86, dG "_law_known" 87, dG "_law_offer" 88, dG "_law_take" 89, dG "_law_tell" 90, dG "_law_fall" 91, dG "_law_mend" 92, dG "_law_small" 93, dG "_law_stands" 94, dG "_law_goes_on" 95, dG "law" 96, dH "__init__" "Hall.__init__" 0, dH "need_judge" "Hall.need_judge" 1, dH "offer" "Hall.offer" 2, dH "free" "Hall.free" 3, dH "take" "Hall.take" 4, dH "tell" "Hall.tell" 5, dH "fall" "Hall.fall" 6]
def fn3 : List He.DefD := [dH "mend" "Hall.mend" 7, dH "tries" "Hall.tries" 8, dH "verdicts" "Hall.verdicts" 9, dH "had" "Hall.had" 10, dH "standings" "Hall.standings" 11, dH "board" "Hall.board" 12, dH "log" "Hall.log" 14]
def fn : List He.DefD := fn0 ++ fn1 ++ fn2 ++ fn3
def fa0 : List He.Fa := [.glo "is_between", .glo "is_group", .glo "need_tasks", .glo "need_contest", .glo "trials_of", .glo "is_try", .glo "need_tries", .glo "is_verdict", .glo "need_verdicts", .glo "need_all", .glo "table_of", .glo "state_of", .glo "group_states", .glo "try_state", .glo "numbers_of", .glo "solved_at", .glo "worth_of", .glo "points_at", .glo "score_of", .glo "rank_of", .glo "placed", .glo "whole_untils", .glo "all_placed", .glo "standings"]
def fa1 : List He.Fa := [.glo "is_over", .glo "open_trials", .glo "all_open", .glo "matter", .glo "hidden_of", .glo "rows_of", .glo "frozen_untils", .glo "board", .glo "is_entry", .glo "need_log", .glo "may_be", .glo "judged", .glo "_law_dice", .glo "_law_off", .glo "_law_alike", .glo "_law_size", .glo "_law_matter", .glo "_law_is_whole", .glo "_law_hall", .glo "_law_known", .glo "_law_offer", .glo "_law_take", .glo "_law_tell", .glo "_law_fall"]
def fa2 : List He.Fa := [.glo "_law_mend", .glo "_law_small", .glo "_law_stands", .glo "_law_goes_on", .glo "law", .glo "Hall", .glo "HallError", .glo "RULES", .glo "SIZES", .free "isinstance", .free "len", .free "sum", .free "enumerate", .free "dict", .free "range", .free "max", .free "int", .free "sorted", .free "tuple", .free "list", .free "abs", .free "all", .free "min", .free "bool"]
def fa3 : List He.Fa := [.free "str", .str "FIRST" "first", .str "BEST" "best", .str "GROUPS" "groups", .int "MOST_TEAMS" 12, .int "MOST_TASKS" 6, .int "MOST_GROUPS" 4, .int "MOST_TRIALS" 5, .int "MOST_POINTS" 100, .int "MOST_END" 300, .int "MOST_TRIES" 200, .int "MOST_TIME" 999, .str "PASSED" "passed", .str "FAILED" "failed", .str "OPEN" "open", .int "WRONG" 20, .int "LATE" 60, .int "MOST_JUDGES" 5, .int "MOST_ENTRIES" 1000, .int "MOST_NUMBER" 999, .cls "Hall", .mkr "Hall", .noat "Hall" "contest", .noat "Hall" "offered"]
def fa4 : List He.Fa := [.noat "Hall" "table", .noat "Hall" "works", .noat "Hall" "events", .meth "Hall" "need_judge", .meth "Hall" "offer", .meth "Hall" "free", .meth "Hall" "take", .meth "Hall" "tell", .meth "Hall" "fall", .meth "Hall" "mend", .meth "Hall" "tries", .meth "Hall" "verdicts", .meth "Hall" "had", .meth "Hall" "standings", .meth "Hall" "board", .meth "Hall" "log"]
def fa : List He.Fa := fa0 ++ fa1 ++ fa2 ++ fa3 ++ fa4
def ts : List He.Tab := [(fun K => He.ga K "SIZES", ["offer", "take", "tell", "fall", "mend"])]
def tf : List He.Defn := [("placed", none)]
def sizes : List (Str × He.Dv) := [("offer", .int 4), ("take", .int 4), ("tell", .int 3), ("fall", .int 2), ("mend", .int 3)]
def exB (K : PySem.W.Frag) : Bool := He.tupB K "RULES" [.str "first", .str "best", .str "groups"] && He.valsB K (He.ga K "SIZES") sizes
def ls0 : List PySem.Str := ["_wall", "HallError", "BadContest", "BadTries", "BadVerdicts", "BadLog", "BadTeam", "BadTask", "BadTrial", "BadTime", "BadJudge", "Busy", "Idle", "Full", "FIRST", "BEST", "GROUPS", "RULES", "MOST_TEAMS", "MOST_TASKS", "MOST_GROUPS", "MOST_TRIALS", "MOST_POINTS", "MOST_END", "MOST_TRIES", "MOST_TIME", "is_between", "is_group", "need_tasks", "need_contest"]
def ls1 : List PySem.Str := ["trials_of", "is_try", "need_tries", "is_verdict", "need_verdicts", "need_all", "table_of", "PASSED", "FAILED", "OPEN", "WRONG", "LATE", "state_of", "group_states", "try_state", "numbers_of", "solved_at", "worth_of", "points_at", "score_of", "rank_of", "placed", "whole_untils", "all_placed", "standings", "is_over", "open_trials", "all_open", "matter", "hidden_of"]
def ls2 : List PySem.Str := ["rows_of", "frozen_untils", "board", "MOST_JUDGES", "Hall", "MOST_ENTRIES", "SIZES", "MOST_NUMBER", "is_entry", "need_log", "may_be", "judged", "_law_dice", "_law_off", "_law_alike", "_law_size", "_law_matter", "_law_is_whole", "_law_hall", "_law_known", "_law_offer", "_law_take", "_law_tell", "_law_fall", "_law_mend", "_law_small", "_law_stands", "_law_goes_on"]
def loose : List PySem.Str := ls0 ++ ls1 ++ ls2
end JH
set_option Elab.async false
set_option linter.all false
set_option maxRecDepth 100000
set_option maxHeartbeats 0
namespace JH
open PySem PySem.Spec PyProof.Rows L2
abbrev R : PySem.W.OpenRow := PySem.W.OpenLaw.row PySem.Challenge.rw_judgehall_k20_whole_many_tries_judged
abbrev hk : PySem.W.Hook := He.hookX 4 fa fn ts tf exB
def ob (s : PySem.W.SharedT) : He.AlX := He.obsX 4 fa fn ts tf exB (HandSHeadRun.getT s)
theorem ob_eq (s : PySem.W.SharedT) : ob s = hk.obs s.abs := He.obsX_eq (HandSHeadRun.getT_eq s)
theorem runF (w : PySem.World) : HandSHeadRun.RunEq R (PySem.W.view R.prog [96]) hk ob 8000 loose (w.withFollow "special-get-raises" false) := by
  intro os
  kernel_rfl
theorem runT (w : PySem.World) : HandSHeadRun.RunEq R (PySem.W.view R.prog [96]) hk ob 8000 loose (w.withFollow "special-get-raises" true) := by
  intro os
  kernel_rfl
theorem run (w : PySem.World) : HandSHeadRun.RunEq R (PySem.W.view R.prog [96]) hk ob 8000 loose w :=
  PySem.W.byRow2 "special-get-raises" (P := fun w => HandSHeadRun.RunEq R (PySem.W.view R.prog [96]) hk ob 8000 loose w) runF runT w
end JH
set_option Elab.async false
set_option linter.all false
set_option maxRecDepth 100000
set_option maxHeartbeats 4000000
/-! data in the heap, the judgements over data -/
namespace JH
open PySem PySem.Spec L2
open Evl (Ex Ex.refl Ex.trans Ex.new Ex.mut)

/-! ### data -/
abbrev Tbl := List ((Nat × Nat) × Bool)
def kvT (t : Tbl) : List (List Key × V) := t.map fun p => ([Sum.inl (p.1.1 : Int), Sum.inl (p.1.2 : Int)], V.bl p.2)
def encKV (p : (Nat × Nat) × Bool) : PyData × PyData := (.tuple [.int (p.1.1 : Int), .int (p.1.2 : Int)], .bool p.2)
def encTab (t : Tbl) : PyData := .dict (t.map encKV)
/-- an instance of the class at C, its fields; a dict with text keys -/
def encF (p : Str × PyData) : PyData × PyData := (.list [.str p.1], p.2)
def encI (C : Addr) (ds : List (Str × PyData)) : PyData := .dict ((.list [.int (C : Int)], .none) :: ds.map encF)
def encS1 (p : Str × PyData) : PyData × PyData := (.str p.1, p.2)
def encS (ds : List (Str × PyData)) : PyData := .dict (ds.map encS1)
mutual
inductive Dz (H : Hp) : V → PyData → Prop
  | non : Dz H .non .none
  | bl (b : Bool) : Dz H (.bl b) (.bool b)
  | int (i : Int) : Dz H (.int i) (.int i)
  | str (x : Str) : Dz H (.str x) (.str x)
  | lst {a : Addr} {xs : List V} {ds : List PyData} : H a = some (.lst xs) → DzAll H xs ds → Dz H (.ref a) (.list ds)
  | tup {a : Addr} {xs : List V} {ds : List PyData} : H a = some (.tup xs) → DzAll H xs ds → Dz H (.ref a) (.tuple ds)
  | tab {a : Addr} {t : Tbl} : H a = some (.dT (kvT t)) → Dz H (.ref a) (.dict (t.map encKV))
  | ins {a C dx : Addr} {fs : List (Str × V)} {ds : List (Str × PyData)} : H a = some (.ins C dx fs) → DzAll H (fs.map (·.2)) (ds.map (·.2)) → fs.map (·.1) = ds.map (·.1) → Dz H (.ref a) (.dict ((.list [.int (C : Int)], .none) :: ds.map encF))
  | dk {a : Addr} {kvs : List (Key × V)} {d : Str × PyData} {ds : List (Str × PyData)} : H a = some (.dK kvs) → DzAll H (kvs.map (·.2)) ((d :: ds).map (·.2)) → kvs.map (·.1) = (d :: ds).map (fun p => Sum.inr p.1) → Dz H (.ref a) (.dict ((d :: ds).map encS1))
inductive DzAll (H : Hp) : List V → List PyData → Prop
  | nil : DzAll H [] []
  | cons {v : V} {vs : List V} {d : PyData} {ds : List PyData} : Dz H v d → DzAll H vs ds → DzAll H (v :: vs) (d :: ds)
end
section
variable {H H' : Hp} {v : V} {d : PyData} {vs ws : List V} {ds es : List PyData}
mutual
theorem Dz.ex (e : Ex H H') : ∀ {v : V} {d : PyData}, Dz H v d → Dz H' v d
  | _, _, .non => .non
  | _, _, .bl b => .bl b
  | _, _, .int i => .int i
  | _, _, .str x => .str x
  | _, _, .lst h a => .lst (e _ _ h) (DzAll.ex e a)
  | _, _, .tup h a => .tup (e _ _ h) (DzAll.ex e a)
  | _, _, .tab h => .tab (e _ _ h)
  | _, _, .ins h a k => .ins (e _ _ h) (DzAll.ex e a) k
  | _, _, .dk h a k => .dk (e _ _ h) (DzAll.ex e a) k
theorem DzAll.ex (e : Ex H H') : ∀ {vs : List V} {ds : List PyData}, DzAll H vs ds → DzAll H' vs ds
  | _, _, .nil => .nil
  | _, _, .cons h t => .cons (Dz.ex e h) (DzAll.ex e t)
end
theorem Dz.int_inv {i : Int} (h : Dz H v (.int i)) : v = .int i := by cases h; rfl
theorem Dz.bl_inv {b : Bool} (h : Dz H v (.bool b)) : v = .bl b := by cases h; rfl
theorem Dz.str_inv {x : Str} (h : Dz H v (.str x)) : v = .str x := by cases h; rfl
theorem Dz.non_inv (h : Dz H v .none) : v = .non := by cases h; rfl
theorem Dz.tup_inv (h : Dz H v (.tuple ds)) : ∃ a xs, v = .ref a ∧ H a = some (.tup xs) ∧ DzAll H xs ds := by cases h with | tup h a => exact ⟨_, _, rfl, h, a⟩
theorem Dz.lst_inv (h : Dz H v (.list ds)) : ∃ a xs, v = .ref a ∧ H a = some (.lst xs) ∧ DzAll H xs ds := by cases h with | lst h a => exact ⟨_, _, rfl, h, a⟩
theorem encKV_inj {p q : (Nat × Nat) × Bool} (e : encKV p = encKV q) : p = q := by
  obtain ⟨⟨a, b⟩, c⟩ := p
  obtain ⟨⟨a', b'⟩, c'⟩ := q
  simp only [encKV, Prod.mk.injEq, PyData.tuple.injEq, List.cons.injEq, PyData.int.injEq, PyData.bool.injEq, and_true] at e
  obtain ⟨⟨e1, e2⟩, e3⟩ := e
  have h1 : a = a' := by omega
  have h2 : b = b' := by omega
  rw [h1, h2, e3]
theorem map_encKV_inj : ∀ {t u : Tbl}, t.map encKV = u.map encKV → t = u
  | [], [], _ => rfl
  | [], _ :: _, e => by simp at e
  | _ :: _, [], e => by simp at e
  | p :: t, q :: u, e => by
    rw [List.map_cons, List.map_cons] at e
    injection e with e1 e2
    rw [encKV_inj e1, map_encKV_inj e2]
theorem Dz.tab_inv {t : Tbl} (h : Dz H v (encTab t)) : ∃ a, v = .ref a ∧ H a = some (.dT (kvT t)) := by
  generalize e : encTab t = d at h
  cases h with
  | tab h =>
    unfold encTab at e
    injection e with e
    rw [map_encKV_inj e]
    exact ⟨_, rfl, h⟩
  | ins _ _ _ =>
    unfold encTab at e
    injection e with e
    cases t with
    | nil => cases e
    | cons p t =>
      injection e with e _
      injection e with e _
      cases e
  | dk _ _ _ =>
    unfold encTab at e
    injection e with e
    cases t with
    | nil => cases e
    | cons p t =>
      injection e with e _
      injection e with e _
      cases e
  | _ => cases e
theorem map_encF_inj : ∀ {t u : List (Str × PyData)}, t.map encF = u.map encF → t = u
  | [], [], _ => rfl
  | [], _ :: _, e => by simp at e
  | _ :: _, [], e => by simp at e
  | (a, b) :: t, (c, d) :: u, e => by
    rw [List.map_cons, List.map_cons] at e
    injection e with e1 e2
    injection e1 with e3 e4
    injection e3 with e3
    injection e3 with e3
    injection e3 with e3
    rw [show a = c from e3, show b = d from e4, map_encF_inj e2]
theorem map_encS1_inj : ∀ {t u : List (Str × PyData)}, t.map encS1 = u.map encS1 → t = u
  | [], [], _ => rfl
  | [], _ :: _, e => by simp at e
  | _ :: _, [], e => by simp at e
  | (a, b) :: t, (c, d) :: u, e => by
    rw [List.map_cons, List.map_cons] at e
    injection e with e1 e2
    injection e1 with e3 e4
    injection e3 with e3
    rw [show a = c from e3, show b = d from e4, map_encS1_inj e2]
theorem Dz.ins_inv {C : Addr} {fd : List (Str × PyData)} (h : Dz H v (encI C fd)) : ∃ a dx fs, v = .ref a ∧ H a = some (.ins C dx fs) ∧ DzAll H (fs.map (·.2)) (fd.map (·.2)) ∧ fs.map (·.1) = fd.map (·.1) := by
  generalize e : encI C fd = d at h
  unfold encI at e
  cases h with
  | @tab a t h =>
    injection e with e
    cases t with
    | nil => cases e
    | cons p t =>
      injection e with e _
      injection e with e _
      cases e
  | ins h a k =>
    injection e with e
    injection e with e1 e2
    injection e1 with e1
    injection e1 with e1
    injection e1 with e1
    injection e1 with e1
    have e1 := Int.ofNat.inj e1
    subst e1
    rw [map_encF_inj e2]
    exact ⟨_, _, _, rfl, h, a, k⟩
  | dk h a k =>
    injection e with e
    injection e with e _
    injection e with e _
    cases e
  | _ => cases e
theorem Dz.dk_inv {p : Str × PyData} {fd : List (Str × PyData)} (h : Dz H v (encS (p :: fd))) : ∃ a kvs, v = .ref a ∧ H a = some (.dK kvs) ∧ DzAll H (kvs.map (·.2)) ((p :: fd).map (·.2)) ∧ kvs.map (·.1) = (p :: fd).map fun p => Sum.inr p.1 := by
  generalize e : encS (p :: fd) = d at h
  unfold encS at e
  cases h with
  | @tab a t h =>
    injection e with e
    cases t with
    | nil => cases e
    | cons p t =>
      injection e with e _
      injection e with e _
      cases e
  | ins h a k =>
    injection e with e
    injection e with e _
    injection e with e _
    cases e
  | dk h a k =>
    injection e with e
    have e2 := map_encS1_inj e
    injection e2 with e3 e4
    subst e3
    subst e4
    exact ⟨_, _, rfl, h, a, k⟩
  | _ => cases e
theorem DzAll.length : ∀ {vs : List V} {ds : List PyData}, DzAll H vs ds → vs.length = ds.length
  | _, _, .nil => rfl
  | _, _, .cons _ t => by rw [List.length_cons, List.length_cons, DzAll.length t]
theorem DzAll.get : ∀ {vs : List V} {ds : List PyData} {i : Nat} {d : PyData}, DzAll H vs ds → ds[i]? = some d → ∃ v, vs[i]? = some v ∧ Dz H v d
  | _, _, _, _, .nil, e => by simp at e
  | _, _, 0, _, .cons h _, e => by simp at e; subst e; exact ⟨_, rfl, h⟩
  | _, _, i + 1, d, .cons _ t, e => by
    obtain ⟨v, h1, h2⟩ := DzAll.get (i := i) (d := d) t (by simpa using e)
    exact ⟨v, by simpa using h1, h2⟩
theorem DzAll.getV : ∀ {vs : List V} {ds : List PyData} {i : Nat} {v : V}, DzAll H vs ds → vs[i]? = some v → ∃ d, ds[i]? = some d ∧ Dz H v d
  | _, _, _, _, .nil, e => by simp at e
  | _, _, 0, _, .cons h _, e => by simp at e; subst e; exact ⟨_, rfl, h⟩
  | _, _, i + 1, v, .cons _ t, e => by
    obtain ⟨d, h1, h2⟩ := DzAll.getV (i := i) (v := v) t (by simpa using e)
    exact ⟨d, by simpa using h1, h2⟩
theorem DzAll.append : ∀ {vs ws : List V} {ds es : List PyData}, DzAll H vs ds → DzAll H ws es → DzAll H (vs ++ ws) (ds ++ es)
  | _, _, _, _, .nil, s => s
  | _, _, _, _, .cons r t, s => .cons r (DzAll.append t s)
theorem DzAll.set (h : Dz H v d) : ∀ {vs : List V} {ds : List PyData} (i : Nat), DzAll H vs ds → DzAll H (vs.set i v) (ds.set i d)
  | _, _, _, .nil => .nil
  | _, _, 0, .cons _ t => .cons h t
  | _, _, i + 1, .cons r t => .cons r (DzAll.set h i t)
theorem DzAll.take : ∀ {vs : List V} {ds : List PyData} (n : Nat), DzAll H vs ds → DzAll H (vs.take n) (ds.take n)
  | _, _, 0, _ => .nil
  | _, _, _ + 1, .nil => .nil
  | _, _, n + 1, .cons r t => .cons r (DzAll.take n t)
theorem DzAll.drop : ∀ {vs : List V} {ds : List PyData} (n : Nat), DzAll H vs ds → DzAll H (vs.drop n) (ds.drop n)
  | _, _, 0, r => r
  | _, _, _ + 1, .nil => .nil
  | _, _, n + 1, .cons _ t => DzAll.drop n t
theorem DzAll.ints : ∀ {vs : List V} {ns : List Int}, DzAll H vs (ns.map .int) → vs = ns.map V.int
  | _, [], h => by cases h; rfl
  | _, n :: ns, h => by
    rw [List.map_cons] at h
    cases h with
    | cons h t => rw [h.int_inv, DzAll.ints t]; rfl
theorem DzAll.of_ints (H : Hp) : ∀ ns : List Int, DzAll H (ns.map V.int) (ns.map PyData.int)
  | [] => .nil
  | n :: ns => .cons (.int n) (DzAll.of_ints H ns)
theorem DzAll.bls : ∀ {vs : List V} {bs : List Bool}, DzAll H vs (bs.map .bool) → vs = bs.map V.bl
  | _, [], h => by cases h; rfl
  | _, n :: ns, h => by
    rw [List.map_cons] at h
    cases h with
    | cons h t => rw [h.bl_inv, DzAll.bls t]; rfl
end
/-! data without tables: it may be compared -/
mutual
def nt : PyData → Bool
  | .dict _ => false
  | .list ds => ntA ds
  | .tuple ds => ntA ds
  | _ => true
def ntA : List PyData → Bool
  | [] => true
  | d :: ds => nt d && ntA ds
end
/-! data of tuples alone: it stands while the tuples stand -/
mutual
def fz : PyData → Bool
  | .dict _ => false
  | .list _ => false
  | .tuple ds => fzA ds
  | _ => true
def fzA : List PyData → Bool
  | [] => true
  | d :: ds => fz d && fzA ds
end
theorem ntA_map {α : Type} {f : α → PyData} (h : ∀ a, nt (f a) = true) : ∀ l : List α, ntA (l.map f) = true
  | [] => by simp [ntA]
  | a :: l => by simp [ntA, h a, ntA_map h l]
theorem fzA_map {α : Type} {f : α → PyData} (h : ∀ a, fz (f a) = true) : ∀ l : List α, fzA (l.map f) = true
  | [] => by simp [fzA]
  | a :: l => by simp [fzA, h a, fzA_map h l]
section
variable {K : PySem.W.Frag} {H H' : Hp}
mutual
theorem Dz.dp : ∀ (d : PyData) {v : V}, nt d = true → Dz H v d → Dp K H v d
  | .none, _, _, h => by cases h; exact .non
  | .bool b, _, _, h => by cases h; exact .bl b
  | .int i, _, _, h => by cases h; exact .int i
  | .str x, _, _, h => by cases h; exact .str x
  | .list ds, _, n, h => by
    obtain ⟨a, xs, rfl, h1, h2⟩ := h.lst_inv
    exact .lst (SqL.of h1) (DzAll.dp ds (by simpa only [nt] using n) h2)
  | .tuple ds, _, n, h => by
    obtain ⟨a, xs, rfl, h1, h2⟩ := h.tup_inv
    exact .tup (SqT.of h1) (DzAll.dp ds (by simpa only [nt] using n) h2)
  | .dict _, _, n, _ => by simp [nt] at n
theorem DzAll.dp : ∀ (ds : List PyData) {vs : List V}, ntA ds = true → DzAll H vs ds → DpAll K H vs ds
  | [], _, _, h => by cases h; exact .nil
  | d :: ds, _, n, h => by
    cases h with
    | cons h t =>
      have n' : (nt d && ntA ds) = true := by simpa only [ntA] using n
      obtain ⟨n1, n2⟩ := Bool.and_eq_true_iff.mp n'
      exact .cons (Dz.dp d n1 h) (DzAll.dp ds n2 t)
end
/-- the tuples stand -/
def TEx (H H' : Hp) : Prop := ∀ a xs, H a = some (.tup xs) → H' a = some (.tup xs)
theorem TEx.of (e : Ex H H') : TEx H H' := fun a xs h => e a _ h
theorem TEx.trans {H1 H2 H3 : Hp} (a : TEx H1 H2) (b : TEx H2 H3) : TEx H1 H3 := fun x xs h => b x xs (a x xs h)
mutual
theorem Dz.tex (e : TEx H H') : ∀ (d : PyData) {v : V}, fz d = true → Dz H v d → Dz H' v d
  | .none, _, _, h => by cases h; exact .non
  | .bool b, _, _, h => by cases h; exact .bl b
  | .int i, _, _, h => by cases h; exact .int i
  | .str x, _, _, h => by cases h; exact .str x
  | .list ds, _, n, h => by simp [fz] at n
  | .tuple ds, _, n, h => by
    obtain ⟨a, xs, rfl, h1, h2⟩ := h.tup_inv
    exact .tup (e _ _ h1) (DzAll.tex e ds (by simpa only [fz] using n) h2)
  | .dict _, _, n, _ => by simp [fz] at n
theorem DzAll.tex (e : TEx H H') : ∀ (ds : List PyData) {vs : List V}, fzA ds = true → DzAll H vs ds → DzAll H' vs ds
  | [], _, _, h => by cases h; exact .nil
  | d :: ds, _, n, h => by
    cases h with
    | cons h t =>
      have n' : (fz d && fzA ds) = true := by simpa only [fzA] using n
      obtain ⟨n1, n2⟩ := Bool.and_eq_true_iff.mp n'
      exact .cons (Dz.tex e d n1 h) (DzAll.tex e ds n2 t)
end
end

/-! ### steps that change nothing: B what is known for good, H all that stands -/
/-- the one lambda's name -/
def qL : Str := "placed.<locals>.<lambda>"
/-- all stays, but for the tables of code objects: those grow -/
structure ExN (H H1 : Hp) : Prop where
  ext : ∀ b o, H b = some o → (∀ ps, o ≠ .tbl ps) → H1 b = some o
  dom : ∀ b, H1 b = none → H b = none
  tab : ∀ P, LamX.TabS H P qL → LamX.TabS H1 P qL
  tbk : ∀ P ps, H P = some (.tbl ps) → ∃ ps', H1 P = some (.tbl ps')
/-- there, and no tuple -/
def Av (H : Hp) (a : Addr) : Prop := ∃ o, H a = some o ∧ ∀ xs, o ≠ .tup xs
theorem Av.ne {H : Hp} {a : Addr} (h : Av H a) : H a ≠ none := fun z => by
  obtain ⟨o, e, _⟩ := h
  rw [e] at z
  cases z
theorem ExN.av {H H1 : Hp} (s : ExN H H1) {a : Addr} (h : Av H a) : Av H1 a := by
  obtain ⟨o, e, n⟩ := h
  cases o with
  | tbl ps =>
    obtain ⟨ps', e'⟩ := s.tbk a ps e
    exact ⟨_, e', fun _ z => nomatch z⟩
  | _ => exact ⟨_, s.ext a _ e (fun _ z => nomatch z), n⟩
theorem ExN.of {H H1 : Hp} (e : Ex H H1) : ExN H H1 where
  ext := fun b o h _ => e b o h
  dom := fun b h => by
    cases q : H b with
    | none => rfl
    | some o => rw [e b o q] at h; cases h
  tab := fun P t => LamX.TabS.ext t e
  tbk := fun P ps h => ⟨ps, e P _ h⟩
theorem ExN.trans {H H1 H2 : Hp} (a : ExN H H1) (b : ExN H1 H2) : ExN H H2 := ⟨fun x o h n => b.ext x o (a.ext x o h n) n, fun x h => a.dom x (b.dom x h), fun P t => b.tab P (a.tab P t), fun P ps h => let ⟨ps', h'⟩ := a.tbk P ps h; b.tbk P ps' h'⟩
theorem ExN.mut {H0 H : Hp} {l : Addr} {u u0 : HO} (s : ExN H0 H) (n : H0 l = none) (hl : H l = some u0) (nt : ∀ ps, u0 ≠ .tbl ps) (ne : ∀ φ, u0 ≠ .ext φ) : ExN H0 (upd H l u) where
  ext := fun b o h k => by
    rw [upd_ne (fun e => by rw [e, n] at h; cases h)]
    exact s.ext b o h k
  dom := fun b h => by
    by_cases e : b = l
    · rw [e]; exact n
    · rw [upd_ne e] at h
      exact s.dom b h
  tab := fun P t => by
    obtain ⟨ps, h1, h2, h3⟩ := s.tab P t
    have hP : P ≠ l := fun e => by
      rw [e, hl] at h1
      exact nt ps (Option.some.inj h1)
    refine ⟨ps, by rw [upd_ne hP]; exact h1, h2, fun pos cv hc => ?_⟩
    obtain ⟨c, e1, e2⟩ := h3 pos cv hc
    refine ⟨c, e1, ?_⟩
    have hc : c ≠ l := fun e => by
      rw [e, hl] at e2
      exact ne _ (Option.some.inj e2)
    rw [upd_ne hc]
    exact e2
  tbk := fun P ps h => by
    obtain ⟨ps', h'⟩ := s.tbk P ps h
    exact ⟨ps', by rw [upd_ne (fun e => by rw [e, hl] at h'; exact nt ps' (Option.some.inj h'))]; exact h'⟩
structure Stp (B H B1 H1 : Hp) : Prop where
  bb : Ex B B1
  bh : Ex B1 H1
  hh : ExN H H1
  av : ∀ a, Av H a → B a = none → B1 a = none
section
variable {B H B1 H1 B2 H2 : Hp}
theorem Stp.refl (e : Ex B H) : Stp B H B H := ⟨Ex.refl _, e, .of (Ex.refl _), fun _ _ h => h⟩
theorem Stp.at_ (s : Stp B H B1 H1) {p : Addr} {o : HO} (h : H p = some o) (nt : ∀ ps, o ≠ .tbl ps := by intro _ z; exact nomatch z) : H1 p = some o := s.hh.ext p o h nt
theorem Stp.trans (a : Stp B H B1 H1) (b : Stp B1 H1 B2 H2) : Stp B H B2 H2 := ⟨a.bb.trans b.bb, b.bh, a.hh.trans b.hh, fun x h n => b.av x (a.hh.av h) (a.av x h n)⟩
theorem ex_none {p : Addr} (e : Ex B H) (n : H p = none) : B p = none := by
  cases q : B p with
  | none => rfl
  | some o => rw [e p o q] at n; cases n
theorem ex_upd {p : Addr} {o : HO} (e : Ex B H) : Ex (upd B p o) (upd H p o) := fun a u h => by
  by_cases hp : a = p
  · rw [hp, upd_same] at h
    rw [hp, upd_same]
    exact h
  · rw [upd_ne hp] at h
    rw [upd_ne hp]
    exact e a u h
theorem Stp.new {p : Addr} {o : HO} (e : Ex B H) (n : H p = none) : Stp B H (upd B p o) (upd H p o) :=
  ⟨Ex.new (ex_none e n), ex_upd e, .of (Ex.new n), fun a h hb => by
    have hp : a ≠ p := fun z => h.ne (by rw [z]; exact n)
    rw [upd_ne hp]
    exact hb⟩
/-- a new object that is not known for good -/
theorem Stp.own {p : Addr} {o : HO} (e : Ex B H) (n : H p = none) : Stp B H B (upd H p o) := ⟨Ex.refl _, e.trans (Ex.new n), .of (Ex.new n), fun _ _ h => h⟩
end

/-! ### by meaning -/
section
variable (X : Cx)
def WE (e : Expr) (σ : St) (H : Hp) (Q : VK) : Prop := ∀ (pins : List (Addr × Obj)) (s : Shared), Inv X pins σ H s → wpAny (model X.prog X.w) X.A (eval e X.env) (EP X pins σ Q) X.xe s
def WT (e : Expr) (σ : St) (H : Hp) (Q : Bool → Hp → Prop) : Prop := ∀ (pins : List (Addr × Obj)) (s : Shared), Inv X pins σ H s → wpAny (model X.prog X.w) X.A (isTrue e X.env (eval e X.env)) (TP X pins σ Q) X.xe s
def WW (e : Expr) (σ : St) (H : Hp) (Q : Bool → Hp → Prop) : Prop := ∀ (whole : Sem Value) (pins : List (Addr × Obj)) (s : Shared), Inv X pins σ H s → wpAny (model X.prog X.w) X.A (isTrue e X.env whole) (TP X pins σ Q) X.xe s
def WA (es : List Expr) (σ : St) (H : Hp) (Q : List V → Hp → Prop) : Prop := ∀ (pos : Pos) (pins : List (Addr × Obj)) (s : Shared), Inv X pins σ H s → wpAny (model X.prog X.w) X.A (spliced (backTo pos (starEach es X.env))) (AP X pins σ Q) X.xe s
def WS (st : Stmt) (D : Ends) (σ : St) (H : Hp) : Prop := ∀ (pins : List (Addr × Obj)) (s : Shared), Inv X pins σ H s → wpAny (model X.prog X.w) X.A (exec st X.env) (SP X pins D) X.xe s
def WSs (st : List Stmt) (D : Ends) (σ : St) (H : Hp) : Prop := ∀ (pins : List (Addr × Obj)) (s : Shared), Inv X pins σ H s → wpAny (model X.prog X.w) X.A (execs st X.env) (SP X pins D) X.xe s
def WG (tg : Expr) (v : V) (σ : St) (H : Hp) (Q : St → Hp → Prop) : Prop := ∀ (pins : List (Addr × Obj)) (s : Shared) (u : Value), Inv X pins σ H s → RelV v u →
  wpAny (model X.prog X.w) X.A (assign tg X.env u) (fun _ s' => ∃ σ' H', Inv X pins σ' H' s' ∧ Q σ' H') X.xe s
def WI (tg iter : Expr) (σ : St) (H : Hp) (R : It → Hp → Prop) : Prop := ∀ (pins : List (Addr × Obj)) (s : Shared), Inv X pins σ H s →
  wpAny (model X.prog X.w) X.A (eval iter X.env) (fun v s1 => wpAny (model X.prog X.w) X.A (pyIter v) (PIE X pins σ tg R) X.xe s1) X.xe s
end
section
variable {X : Cx}
theorem smE {e : Expr} : PE X e (WE X e) := ⟨fun pins s σ H Q I h => h pins s I⟩
theorem smT {e : Expr} : PT X e (WT X e) := ⟨fun pins s σ H Q I h => h pins s I⟩
theorem smW {e : Expr} : PW X e (WW X e) := ⟨fun wh pins s σ H Q I h => h wh pins s I⟩
theorem smA {es : List Expr} : PA X es (WA X es) := ⟨fun pos pins s σ H Q I h => h pos pins s I⟩
theorem smS {st : Stmt} : PS X st (WS X st) := ⟨fun pins s σ H D I h => h pins s I⟩
theorem smSs {st : List Stmt} : PSs X st (WSs X st) := ⟨fun pins s σ H D I h => h pins s I⟩
theorem smG {tg : Expr} : PG X tg (WG X tg) := ⟨fun pins s σ H v u Q I r h => h pins s u I r⟩
theorem smI {tg iter : Expr} : PI X tg iter (WI X tg iter) := ⟨fun pins s σ H R I h => h pins s I⟩
theorem we {e : Expr} {t : TE} {σ : St} {H : Hp} {Q : VK} (p : PE X e t) (h : t σ H Q) : WE X e σ H Q := fun pins s I => p.run pins s σ H Q I h
theorem wt {e : Expr} {t : TT} {σ : St} {H : Hp} {Q : Bool → Hp → Prop} (p : PT X e t) (h : t σ H Q) : WT X e σ H Q := fun pins s I => p.run pins s σ H Q I h
theorem ww {e : Expr} {t : TT} {σ : St} {H : Hp} {Q : Bool → Hp → Prop} (p : PW X e t) (h : t σ H Q) : WW X e σ H Q := fun wh pins s I => p.run wh pins s σ H Q I h
theorem wa {es : List Expr} {t : TA} {σ : St} {H : Hp} {Q : List V → Hp → Prop} (p : PA X es t) (h : t σ H Q) : WA X es σ H Q := fun pos pins s I => p.run pos pins s σ H Q I h
theorem ws {st : Stmt} {t : TS} {σ : St} {H : Hp} {D : Ends} (p : PS X st t) (h : t D σ H) : WS X st D σ H := fun pins s I => p.run pins s σ H D I h
theorem wss {st : List Stmt} {t : TS} {σ : St} {H : Hp} {D : Ends} (p : PSs X st t) (h : t D σ H) : WSs X st D σ H := fun pins s I => p.run pins s σ H D I h
theorem wg {tg : Expr} {t : TG} {v : V} {σ : St} {H : Hp} {Q : St → Hp → Prop} (p : PG X tg t) (h : t v σ H Q) : WG X tg v σ H Q := fun pins s u I r => p.run pins s σ H v u Q I r h
theorem wi {tg iter : Expr} {t : TI} {σ : St} {H : Hp} {R : It → Hp → Prop} (p : PI X tg iter t) (h : t σ H R) : WI X tg iter σ H R := fun pins s I => p.run pins s σ H R I h
theorem smPTs0 : PTs X [] (fun _ H Q => Q true H) := pts_nil
end

/-! ### the slots' data -/
abbrev Ev := List (Option PyData)
structure En (σ : St) (B : Hp) (env : Ev) : Prop where
  len : σ.length = env.length
  at_ : ∀ (i : Nat) (d : PyData), env[i]? = some (some d) → ∃ v, σ[i]? = some (some v) ∧ Dz B v d
section
variable {σ : St} {B B' : Hp} {env env' : Ev}
theorem En.ex (h : En σ B env) (e : Ex B B') : En σ B' env := ⟨h.len, fun i d q => let ⟨v, a, b⟩ := h.at_ i d q; ⟨v, a, b.ex e⟩⟩
theorem En.set (h : En σ B env) {v : V} {d : PyData} (i : Nat) (r : Dz B v d) : En (σ.set i (some v)) B (env.set i (some d)) := by
  refine ⟨by rw [List.length_set, List.length_set, h.len], fun j e q => ?_⟩
  by_cases hj : i = j
  · subst hj
    by_cases hi : i < env.length
    · rw [List.getElem?_set_self hi] at q
      cases q
      exact ⟨v, by rw [List.getElem?_set_self (by rw [h.len]; exact hi)], r⟩
    · rw [List.getElem?_eq_none (by rw [List.length_set]; omega)] at q
      cases q
  · rw [List.getElem?_set_ne hj] at q ⊢
    exact h.at_ j e q
/-- a slot whose data is not told -/
theorem En.set0 (h : En σ B env) {o : Option V} (i : Nat) : En (σ.set i o) B (env.set i none) := by
  refine ⟨by rw [List.length_set, List.length_set, h.len], fun j e q => ?_⟩
  by_cases hj : i = j
  · subst hj
    by_cases hi : i < env.length
    · rw [List.getElem?_set_self hi] at q
      cases q
    · rw [List.getElem?_eq_none (by rw [List.length_set]; omega)] at q
      cases q
  · rw [List.getElem?_set_ne hj] at q ⊢
    exact h.at_ j e q
theorem En.weak (h : En σ B env) (hl : env'.length = env.length) (w : ∀ (i : Nat) (d : PyData), env'[i]? = some (some d) → env[i]? = some (some d)) : En σ B env' := ⟨h.len.trans hl.symm, fun i d q => h.at_ i d (w i d q)⟩
def wipeE (env : Ev) : List Nat → Ev
  | [] => env
  | v :: vs => (wipeE env vs).set v none
theorem En.wipe (h : En σ B env) : ∀ vs : List Nat, En (L2.wipe σ vs) B (wipeE env vs)
  | [] => h
  | v :: vs => (En.wipe h vs).set0 v
end
theorem en_start {N : List Str} {B : Hp} {vs : List V} {ds : List PyData} (h : DzAll B vs ds) (hl : vs.length ≤ N.length) : En (L2.start N vs) B (ds.map some ++ List.replicate (N.length - ds.length) none) := by
  have e := h.length
  refine ⟨by simp [L2.start, e], fun i d q => ?_⟩
  have hi : i < ds.length := by
    by_cases hi : i < ds.length
    · exact hi
    · rw [List.getElem?_append_right (by simpa using hi)] at q
      rw [List.getElem?_replicate] at q
      split at q <;> cases q
  rw [List.getElem?_append_left (by simpa using hi), List.getElem?_map] at q
  obtain ⟨d', h1, h2⟩ := Option.map_eq_some_iff.mp q
  cases h2
  obtain ⟨v, h3, h4⟩ := h.get h1
  refine ⟨v, ?_, h4⟩
  unfold L2.start
  rw [List.getElem?_append_left (by simp; omega), List.getElem?_map, h3]
  rfl

/-! ### the judgements over data -/
section
variable (X : Cx)
def PD (e : Expr) (env : Ev) (d : PyData) : Prop := ∀ (σ : St) (B H : Hp), En σ B env → Ex B H → ∀ Q : VK, (∀ v B1 H1, Stp B H B1 H1 → Dz B1 v d → Q v H1) → WE X e σ H Q
def PQ (e : Expr) (env : Ev) (b : Bool) : Prop := ∀ (σ : St) (B H : Hp), En σ B env → Ex B H → ∀ Q : Bool → Hp → Prop, (∀ B1 H1, Stp B H B1 H1 → Q b H1) → WT X e σ H Q
def PQw (e : Expr) (env : Ev) (b : Bool) : Prop := ∀ (σ : St) (B H : Hp), En σ B env → Ex B H → ∀ Q : Bool → Hp → Prop, (∀ B1 H1, Stp B H B1 H1 → Q b H1) → WW X e σ H Q
def PDs (es : List Expr) (env : Ev) (ds : List PyData) : Prop := ∀ (σ : St) (B H : Hp), En σ B env → Ex B H → ∀ Q : List V → Hp → Prop, (∀ vs B1 H1, Stp B H B1 H1 → DzAll B1 vs ds → Q vs H1) → WA X es σ H Q
/-- a new list -/
def PF (e : Expr) (env : Ev) (ds : List PyData) : Prop := ∀ (σ : St) (B H : Hp), En σ B env → Ex B H → ∀ Q : VK, (∀ p xs B1 H1, H p = none → Stp B H B1 H1 → B1 p = some (.lst xs) → DzAll B1 xs ds → Q (.ref p) H1) → WE X e σ H Q
/-- an operation on two values -/
def RD (f : Value → Value → Sem Value) (d1 d2 d : PyData) : Prop := ∃ r, OpR X f r ∧ ∀ (x y : V) (B H : Hp) (Q : VK), Ex B H → Dz B x d1 → Dz B y d2 → (∀ v B1 H1, Stp B H B1 H1 → Dz B1 v d → Q v H1) → r x y H Q
/-- a built-in's call -/
def CD (f : Value) (ds : List PyData) (d : PyData) : Prop := ∃ r, CallR X f r ∧ ∀ (vs : List V) (B H : Hp) (Q : VK), Ex B H → DzAll B vs ds → (∀ v B1 H1, Stp B H B1 H1 → Dz B1 v d → Q v H1) → r vs H Q
def CF (f : Value) (ds es : List PyData) : Prop := ∃ r, CallR X f r ∧ ∀ (vs : List V) (B H : Hp) (Q : VK), Ex B H → DzAll B vs ds → (∀ p xs B1 H1, H p = none → Stp B H B1 H1 → B1 p = some (.lst xs) → DzAll B1 xs es → Q (.ref p) H1) → r vs H Q
end
/-- promises over data -/
def spF (R : List PyData → PyData → Prop) : Sp := fun vs H Q _ => ∃ B ds d, Ex B H ∧ DzAll B vs ds ∧ R ds d ∧ ∀ v B1 H1, Stp B H B1 H1 → Dz B1 v d → Q v H1
def spL (R : List PyData → List PyData → Prop) : Sp := fun vs H Q _ => ∃ B ds es, Ex B H ∧ DzAll B vs ds ∧ R ds es ∧ ∀ p xs B1 H1, H p = none → Stp B H B1 H1 → B1 p = some (.lst xs) → DzAll B1 xs es → Q (.ref p) H1
end JH
set_option Elab.async false
set_option linter.all false
set_option maxRecDepth 100000
set_option maxHeartbeats 4000000
/-! the rules over data -/
namespace JH
open PySem PySem.Spec L2
open Evl (Ex Ex.refl Ex.trans Ex.new Ex.mut)
theorem sz {n : Nat} (h : n ≤ 100000) : n ≤ sizeLine := Nat.le_trans h (by decide)
theorem szl {n : Nat} (h : n < 100000) : n < sizeLine := Nat.lt_of_lt_of_le h (by decide)
section
variable {X : Cx} {env : Ev} {d d1 d2 : PyData} {ds es : List PyData} {a b c : Expr} {pos : Pos}
/-! ### names, constants -/
theorem pd_var (i : Nat) {x : Str} {pos : Pos} (h : env[i]? = some (some d)) (hN : X.N[i]? = some x := by rfl) (hv : Vis X.env.scope x := by first | exact Or.inl rfl | exact Or.inr (Or.inl rfl) | exact Or.inr (Or.inr rfl))
    (hd : (x == ("__debug__" : Str)) = false := by decide) (hcd : (x == ("__classdict__" : Str)) = false := by decide) : PD X (.Name x pos) env d := fun σ B H E eb Q q => by
  obtain ⟨v, h1, h2⟩ := E.at_ i d h
  exact we (pe_var hN hv hd hcd) ⟨v, h1, q v B H (.refl eb) h2⟩
theorem pd_int {i : Int} {j pos} : PD X (.Constant (.int i) j pos) env (.int i) := fun σ B H E eb Q q => we pe_int (q _ B H (.refl eb) (.int i))
theorem pd_bl {b : Bool} {j pos} : PD X (.Constant (.bool b) j pos) env (.bool b) := fun σ B H E eb Q q => we pe_bl (q _ B H (.refl eb) (.bl b))
theorem pd_non {j pos} : PD X (.Constant .none j pos) env .none := fun σ B H E eb Q q => we pe_non (q _ B H (.refl eb) .non)
theorem pd_str {x : Str} {j pos} : PD X (.Constant (.str x) j pos) env (.str x) := fun σ B H E eb Q q => we pe_str (q _ B H (.refl eb) (.str x))
theorem pd_gi {x : Str} {i : Int} {pos : Pos} (hm : ∃ t, X.mg x = some (.int i t)) (hg : Gl X x := by rfl) (hd : (x == ("__debug__" : Str)) = false := by decide) : PD X (.Name x pos) env (.int i) := fun σ B H E eb Q q => by
  obtain ⟨t, hm⟩ := hm
  exact we (pe_glob (v := .int i) hg hm ⟨t, rfl⟩ hd) (q _ B H (.refl eb) (.int i))
theorem pd_gs {x z : Str} {pos : Pos} (hm : ∃ t, X.mg x = some (.str z t)) (hg : Gl X x := by rfl) (hd : (x == ("__debug__" : Str)) = false := by decide) : PD X (.Name x pos) env (.str z) := fun σ B H E eb Q q => by
  obtain ⟨t, hm⟩ := hm
  exact we (pe_glob (v := .str z) hg hm ⟨t, rfl⟩ hd) (q _ B H (.refl eb) (.str z))
theorem PD.to {e : Expr} (h : PD X e env d) (q : d = d1) : PD X e env d1 := q ▸ h
theorem PQ.to {e : Expr} {b b' : Bool} (h : PQ X e env b) (q : b = b') : PQ X e env b' := q ▸ h
theorem PF.pd {e : Expr} (h : PF X e env ds) : PD X e env (.list ds) := fun σ B H E eb Q q => h σ B H E eb Q fun p xs B1 H1 _ st hp ha => q _ B1 H1 st (.lst hp ha)
/-! ### operations -/
theorem pd_bin {op : Operator} (R : RD X (binaryOp op) d1 d2 d) (ha : PD X a env d1) (hb : PD X b env d2) : PD X (.BinOp a op b pos) env d := fun σ B H E eb Q q => by
  obtain ⟨r, ho, hr⟩ := R
  refine we (pe_op ho smE smE) ?_
  refine ha σ B H E eb _ fun x B1 H1 s1 z1 => hb σ B1 H1 (E.ex s1.bb) s1.bh _ fun y B2 H2 s2 z2 => ?_
  exact hr x y B2 H2 Q s2.bh (z1.ex s2.bb) z2 fun v B3 H3 s3 z3 => q v B3 H3 ((s1.trans s2).trans s3) z3
theorem pd_cmp {op : CmpOp} (R : RD X (compareOp op) d1 d2 d) (ha : PD X a env d1) (hb : PD X b env d2) (hm : behindInMarks op b = false := by rfl) : PD X (.Compare a [op] [b] pos) env d := fun σ B H E eb Q q => by
  obtain ⟨r, ho, hr⟩ := R
  refine we (pe_cmpR ho smE smE hm) ?_
  refine ha σ B H E eb _ fun x B1 H1 s1 z1 => hb σ B1 H1 (E.ex s1.bb) s1.bh _ fun y B2 H2 s2 z2 => ?_
  exact hr x y B2 H2 Q s2.bh (z1.ex s2.bb) z2 fun v B3 H3 s3 z3 => q v B3 H3 ((s1.trans s2).trans s3) z3
theorem pq_cmp {op : CmpOp} {k : Bool} (R : RD X (compareOp op) d1 d2 (.bool k)) (ha : PD X a env d1) (hb : PD X b env d2) (hm : behindInMarks op b = false := by rfl) : PQ X (.Compare a [op] [b] pos) env k := fun σ B H E eb Q q => by
  obtain ⟨r, ho, hr⟩ := R
  refine wt (pt_cmpR ho smE smE hm) ?_
  refine ha σ B H E eb _ fun x B1 H1 s1 z1 => hb σ B1 H1 (E.ex s1.bb) s1.bh _ fun y B2 H2 s2 z2 => ?_
  exact hr x y B2 H2 _ s2.bh (z1.ex s2.bb) z2 fun v B3 H3 s3 z3 => ⟨k, z3.bl_inv, q B3 H3 ((s1.trans s2).trans s3)⟩
theorem pd_chain {op op' : CmpOp} {d3 : PyData} {k k' : Bool} (R : RD X (compareOp op) d1 d2 (.bool k)) (R' : RD X (compareOp op') d2 d3 (.bool k')) (ha : PD X a env d1) (hb : PD X b env d2) (hc : PD X c env d3)
    (hm : lastMarks [op, op'] [b, c] = false := by with_unfolding_all rfl) : PD X (.Compare a [op, op'] [b, c] pos) env (.bool (k && k')) := fun σ B H E eb Q q => by
  obtain ⟨r, ho, hr⟩ := R
  obtain ⟨r', ho', hr'⟩ := R'
  refine we (pe_chain ho ho' smE smE smE hm) ?_
  refine ha σ B H E eb _ fun x B1 H1 s1 z1 => hb σ B1 H1 (E.ex s1.bb) s1.bh _ fun y B2 H2 s2 z2 => ?_
  refine hr x y B2 H2 _ s2.bh (z1.ex s2.bb) z2 fun v B3 H3 s3 z3 => ⟨k, z3.bl_inv, ?_⟩
  cases k with
  | true =>
    rw [if_pos rfl]
    refine hc σ B3 H3 (E.ex ((s1.trans s2).trans s3).bb) s3.bh _ fun w B4 H4 s4 z4 => ?_
    exact hr' y w B4 H4 Q s4.bh (z2.ex (s3.trans s4).bb) z4 fun v B5 H5 s5 z5 => q v B5 H5 (((s1.trans s2).trans (s3.trans s4)).trans s5) z5
  | false =>
    rw [if_neg Bool.false_ne_true]
    exact q _ B3 H3 ((s1.trans s2).trans s3) (.bl false)
theorem pq_chain {op op' : CmpOp} {d3 : PyData} {k k' : Bool} (R : RD X (compareOp op) d1 d2 (.bool k)) (R' : RD X (compareOp op') d2 d3 (.bool k')) (ha : PD X a env d1) (hb : PD X b env d2) (hc : PD X c env d3)
    (hm : lastMarks [op, op'] [b, c] = false := by with_unfolding_all rfl) : PQ X (.Compare a [op, op'] [b, c] pos) env (k && k') := fun σ B H E eb Q q => by
  obtain ⟨r, ho, hr⟩ := R
  obtain ⟨r', ho', hr'⟩ := R'
  refine wt (pt_chain ho ho' smE smE smE hm) ?_
  refine ha σ B H E eb _ fun x B1 H1 s1 z1 => hb σ B1 H1 (E.ex s1.bb) s1.bh _ fun y B2 H2 s2 z2 => ?_
  refine hr x y B2 H2 _ s2.bh (z1.ex s2.bb) z2 fun v B3 H3 s3 z3 => ⟨k, z3.bl_inv, ?_⟩
  cases k with
  | true =>
    rw [if_pos rfl]
    refine hc σ B3 H3 (E.ex ((s1.trans s2).trans s3).bb) s3.bh _ fun w B4 H4 s4 z4 => ?_
    exact hr' y w B4 H4 _ s4.bh (z2.ex (s3.trans s4).bb) z4 fun v B5 H5 s5 z5 => ⟨k', z5.bl_inv, q B5 H5 (((s1.trans s2).trans (s3.trans s4)).trans s5)⟩
  | false =>
    rw [if_neg Bool.false_ne_true]
    exact ⟨false, rfl, q B3 H3 ((s1.trans s2).trans s3)⟩
theorem rd_I {f : Value → Value → Sem Value} {i j : Int} {g : Int → Int → Int} (h : OpR X f (rI0 fun i j => .int (g i j))) : RD X f (.int i) (.int j) (.int (g i j)) := ⟨_, h, fun x y B H Q eb z1 z2 q => by
  rw [z1.int_inv, z2.int_inv]
  exact ⟨i, j, rfl, rfl, q _ B H (.refl eb) (.int _)⟩⟩
theorem rd_IC {f : Value → Value → Sem Value} {i j : Int} {C : Int → Int → Prop} {g : Int → Int → Int} (h : OpR X f (rI C fun i j => .int (g i j))) (hc : C i j) : RD X f (.int i) (.int j) (.int (g i j)) := ⟨_, h, fun x y B H Q eb z1 z2 q => by
  rw [z1.int_inv, z2.int_inv]
  exact ⟨i, j, rfl, rfl, hc, q _ B H (.refl eb) (.int _)⟩⟩
theorem rd_B {f : Value → Value → Sem Value} {i j : Int} {g : Int → Int → Bool} (h : OpR X f (rI0 fun i j => .bl (g i j))) : RD X f (.int i) (.int j) (.bool (g i j)) := ⟨_, h, fun x y B H Q eb z1 z2 q => by
  rw [z1.int_inv, z2.int_inv]
  exact ⟨i, j, rfl, rfl, q _ B H (.refl eb) (.bl _)⟩⟩
theorem rd_add {i j : Int} : RD X (binaryOp .Add) (.int i) (.int j) (.int (i + j)) := rd_I op_add
theorem rd_sub {i j : Int} : RD X (binaryOp .Sub) (.int i) (.int j) (.int (i - j)) := rd_I op_sub
theorem rd_mul {i j : Int} (h : CMul i j) : RD X (binaryOp .Mult) (.int i) (.int j) (.int (i * j)) := rd_IC op_mul h
theorem rd_div {i j : Int} (h : CDiv i j) : RD X (binaryOp .FloorDiv) (.int i) (.int j) (.int (i / j)) := rd_IC op_fdiv h
theorem rd_mod {i j : Int} (h : 0 < j) : RD X (binaryOp .Mod) (.int i) (.int j) (.int (i % j)) := rd_IC op_mod h
theorem rd_pow {i j : Int} (h : CPow i j) : RD X (binaryOp .Pow) (.int i) (.int j) (.int (i ^ j.toNat)) := rd_IC op_pow h
theorem rd_lt {i j : Int} : RD X (compareOp .Lt) (.int i) (.int j) (.bool (decide (i < j))) := rd_B op_lt
theorem rd_le {i j : Int} : RD X (compareOp .LtE) (.int i) (.int j) (.bool (decide (i ≤ j))) := rd_B op_le
theorem rd_gt {i j : Int} : RD X (compareOp .Gt) (.int i) (.int j) (.bool (decide (j < i))) := rd_B op_gt
theorem rd_ge {i j : Int} : RD X (compareOp .GtE) (.int i) (.int j) (.bool (decide (j ≤ i))) := rd_B op_ge
theorem rd_eqI {i j : Int} : RD X (compareOp .Eq) (.int i) (.int j) (.bool (decide (i = j))) := ⟨_, op_eq, fun x y B H Q eb z1 z2 q => by
  rw [z1.int_inv, z2.int_inv]
  refine ⟨rfl, ?_⟩
  have e : decide (V.int i = V.int j) = decide (i = j) := decide_eq_decide.mpr ⟨V.int.inj, congrArg V.int⟩
  rw [e]
  exact q _ B H (.refl eb) (.bl _)⟩
theorem rd_neI {i j : Int} : RD X (compareOp .NotEq) (.int i) (.int j) (.bool (!decide (i = j))) := ⟨_, op_ne, fun x y B H Q eb z1 z2 q => by
  rw [z1.int_inv, z2.int_inv]
  refine ⟨rfl, ?_⟩
  have e : decide (V.int i = V.int j) = decide (i = j) := decide_eq_decide.mpr ⟨V.int.inj, congrArg V.int⟩
  rw [e]
  exact q _ B H (.refl eb) (.bl _)⟩
theorem rd_eqS {i j : Str} : RD X (compareOp .Eq) (.str i) (.str j) (.bool (decide (i = j))) := ⟨_, op_eq, fun x y B H Q eb z1 z2 q => by
  rw [z1.str_inv, z2.str_inv]
  refine ⟨rfl, ?_⟩
  have e : decide (V.str i = V.str j) = decide (i = j) := decide_eq_decide.mpr ⟨V.str.inj, congrArg V.str⟩
  rw [e]
  exact q _ B H (.refl eb) (.bl _)⟩
theorem rd_neS {i j : Str} : RD X (compareOp .NotEq) (.str i) (.str j) (.bool (!decide (i = j))) := ⟨_, op_ne, fun x y B H Q eb z1 z2 q => by
  rw [z1.str_inv, z2.str_inv]
  refine ⟨rfl, ?_⟩
  have e : decide (V.str i = V.str j) = decide (i = j) := decide_eq_decide.mpr ⟨V.str.inj, congrArg V.str⟩
  rw [e]
  exact q _ B H (.refl eb) (.bl _)⟩
theorem rd_eqB {i j : Bool} : RD X (compareOp .Eq) (.bool i) (.bool j) (.bool (decide (i = j))) := ⟨_, op_eq, fun x y B H Q eb z1 z2 q => by
  rw [z1.bl_inv, z2.bl_inv]
  refine ⟨rfl, ?_⟩
  have e : decide (V.bl i = V.bl j) = decide (i = j) := decide_eq_decide.mpr ⟨V.bl.inj, congrArg V.bl⟩
  rw [e]
  exact q _ B H (.refl eb) (.bl _)⟩
theorem rd_neB {i j : Bool} : RD X (compareOp .NotEq) (.bool i) (.bool j) (.bool (!decide (i = j))) := ⟨_, op_ne, fun x y B H Q eb z1 z2 q => by
  rw [z1.bl_inv, z2.bl_inv]
  refine ⟨rfl, ?_⟩
  have e : decide (V.bl i = V.bl j) = decide (i = j) := decide_eq_decide.mpr ⟨V.bl.inj, congrArg V.bl⟩
  rw [e]
  exact q _ B H (.refl eb) (.bl _)⟩
/-- data against data -/
theorem rd_eqD (hu : X.A.units + 64 < cLine) (n1 : nt d1 = true) (n2 : nt d2 = true) (s1 : SeqAt.shaped d1 = true) (s2 : SeqAt.shaped d2 = true) : RD X (compareOp .Eq) d1 d2 (.bool (PyData.eqv d1 d2)) :=
  ⟨_, op_eqD hu, fun x y B H Q eb z1 z2 q => ⟨d1, d2, Dz.dp d1 n1 (z1.ex eb), Dz.dp d2 n2 (z2.ex eb), s1, s2, q _ B H (.refl eb) (.bl _)⟩⟩
theorem rd_neD (hu : X.A.units + 64 < cLine) (n1 : nt d1 = true) (n2 : nt d2 = true) (s1 : SeqAt.shaped d1 = true) (s2 : SeqAt.shaped d2 = true) : RD X (compareOp .NotEq) d1 d2 (.bool (!PyData.eqv d1 d2)) :=
  ⟨_, op_neD hu, fun x y B H Q eb z1 z2 q => ⟨d1, d2, Dz.dp d1 n1 (z1.ex eb), Dz.dp d2 n2 (z2.ex eb), s1, s2, q _ B H (.refl eb) (.bl _)⟩⟩
theorem rd_inD (hu : X.A.units + 65 < cLine) (n1 : nt d1 = true) (n2 : ntA ds = true) (s1 : SeqAt.shaped d1 = true) (s2 : SeqAt.shaped (.list ds) = true) : RD X (compareOp .In) d1 (.list ds) (.bool (ds.any fun z => PyData.eqv z d1)) :=
  ⟨_, op_inD hu, fun x y B H Q eb z1 z2 q => ⟨d1, ds, Dz.dp d1 n1 (z1.ex eb), Dz.dp _ (by simpa only [nt] using n2) (z2.ex eb), s1, s2, q _ B H (.refl eb) (.bl _)⟩⟩
theorem rd_notInD (hu : X.A.units + 65 < cLine) (n1 : nt d1 = true) (n2 : ntA ds = true) (s1 : SeqAt.shaped d1 = true) (s2 : SeqAt.shaped (.list ds) = true) : RD X (compareOp .NotIn) d1 (.list ds) (.bool (!ds.any fun z => PyData.eqv z d1)) :=
  ⟨_, op_notInD hu, fun x y B H Q eb z1 z2 q => ⟨d1, ds, Dz.dp d1 n1 (z1.ex eb), Dz.dp _ (by simpa only [nt] using n2) (z2.ex eb), s1, s2, q _ B H (.refl eb) (.bl _)⟩⟩
theorem pd_neg (i : Int) (ha : PD X a env (.int i)) : PD X (.UnaryOp .USub a pos) env (.int (-i)) := fun σ B H E eb Q q => by
  refine we (pe_un un_neg smE) ?_
  refine ha σ B H E eb _ fun x B1 H1 s1 z1 => ?_
  rw [z1.int_inv]
  exact ⟨i, rfl, q _ B1 H1 s1 (.int _)⟩
/-! ### is None -/
def isN : PyData → Bool
  | .none => true
  | _ => false
theorem isN_eq {H : Hp} {x : V} (h : Dz H x d) : decide (x = V.non) = isN d := by
  cases h <;> first | rfl | exact decide_eq_false (fun z => nomatch z)
theorem rd_isN : RD X (compareOp .Is) d .none (.bool (isN d)) := ⟨_, op_isN, fun x y B H Q eb z1 z2 q => by
  rw [z2.non_inv]
  refine ⟨rfl, ?_⟩
  rw [isN_eq z1]
  exact q _ B H (.refl eb) (.bl _)⟩
theorem rd_notN : RD X (compareOp .IsNot) d .none (.bool (!isN d)) := ⟨_, op_notN, fun x y B H Q eb z1 z2 q => by
  rw [z2.non_inv]
  refine ⟨rfl, ?_⟩
  rw [isN_eq z1]
  exact q _ B H (.refl eb) (.bl _)⟩
/-! ### and, or, not; if -/
theorem pd_one {op} (h : PD X a env d) : PD X (.BoolOp op [a] pos) env d := fun σ B H E eb Q q => we (pe_one smE) (h σ B H E eb Q q)
theorem pd_and {rest : List Expr} {k : Bool} (ha : PD X a env (.bool k)) (hb : k = true → PD X (.BoolOp .And (b :: rest) pos) env d) (hf : k = false → d = .bool false) : PD X (.BoolOp .And (a :: b :: rest) pos) env d := fun σ B H E eb Q q => by
  refine we (pe_and smE smE) ?_
  refine ha σ B H E eb _ fun x B1 H1 s1 z1 => ⟨k, z1.bl_inv, ?_⟩
  cases k with
  | true =>
    rw [if_pos rfl]
    exact hb rfl σ B1 H1 (E.ex s1.bb) s1.bh Q fun v B2 H2 s2 z2 => q v B2 H2 (s1.trans s2) z2
  | false =>
    rw [if_neg Bool.false_ne_true]
    exact q _ B1 H1 s1 (by rw [hf rfl]; exact .bl false)
theorem pd_or {rest : List Expr} {k : Bool} (ha : PD X a env (.bool k)) (hb : k = false → PD X (.BoolOp .Or (b :: rest) pos) env d) (hf : k = true → d = .bool true) : PD X (.BoolOp .Or (a :: b :: rest) pos) env d := fun σ B H E eb Q q => by
  refine we (pe_or smE smE) ?_
  refine ha σ B H E eb _ fun x B1 H1 s1 z1 => ⟨k, z1.bl_inv, ?_⟩
  cases k with
  | false =>
    rw [if_neg Bool.false_ne_true]
    exact hb rfl σ B1 H1 (E.ex s1.bb) s1.bh Q fun v B2 H2 s2 z2 => q v B2 H2 (s1.trans s2) z2
  | true =>
    rw [if_pos rfl]
    exact q _ B1 H1 s1 (by rw [hf rfl]; exact .bl true)
theorem pd_not {k : Bool} (ha : PD X a env (.bool k)) : PD X (.UnaryOp .Not a pos) env (.bool (!k)) := fun σ B H E eb Q q => by
  refine we (pe_not smE) ?_
  exact ha σ B H E eb _ fun x B1 H1 s1 z1 => ⟨k, z1.bl_inv, q _ B1 H1 s1 (.bl _)⟩
theorem pd_if {k : Bool} (hc : PQ X c env k) (ha : k = true → PD X a env d) (hb : k = false → PD X b env d) : PD X (.IfExp c a b pos) env d := fun σ B H E eb Q q => by
  refine we (pe_ifExp smT smE smE) ?_
  refine hc σ B H E eb _ fun B1 H1 s1 => ?_
  cases k with
  | true =>
    rw [if_pos rfl]
    exact ha rfl σ B1 H1 (E.ex s1.bb) s1.bh Q fun v B2 H2 s2 z2 => q v B2 H2 (s1.trans s2) z2
  | false =>
    rw [if_neg Bool.false_ne_true]
    exact hb rfl σ B1 H1 (E.ex s1.bb) s1.bh Q fun v B2 H2 s2 z2 => q v B2 H2 (s1.trans s2) z2
theorem pq_val {k : Bool} (h : PD X a env (.bool k)) (he : ∀ whole, isTrue a X.env whole = (do let v ← whole; standAt a.pos; holding [v] (truthy v)) := by intro _; rfl) : PQ X a env k := fun σ B H E eb Q q => by
  refine wt (pt_val smE he) ?_
  exact h σ B H E eb _ fun x B1 H1 s1 z1 => ⟨k, z1.bl_inv, q B1 H1 s1⟩
theorem PQw.pq {k : Bool} (h : PQw X a env k) : PQ X a env k := fun σ B H E eb Q q pins s I => h σ B H E eb Q q _ pins s I
theorem pq_and1 {k : Bool} (ha : PQ X a env k) : PQw X (.BoolOp .And [a] pos) env k := fun σ B H E eb Q q => ww (pw_and1 smT) (ha σ B H E eb Q q)
theorem pq_or1 {k : Bool} (ha : PQ X a env k) : PQw X (.BoolOp .Or [a] pos) env k := fun σ B H E eb Q q => ww (pw_or1 smT) (ha σ B H E eb Q q)
theorem pq_and {rest : List Expr} {k k' : Bool} (ha : PQ X a env k) (hb : k = true → PQw X (.BoolOp .And (b :: rest) pos) env k') : PQw X (.BoolOp .And (a :: b :: rest) pos) env (k && k') := fun σ B H E eb Q q => by
  refine ww (pw_and smT smW) ?_
  refine ha σ B H E eb _ fun B1 H1 s1 => ?_
  cases k with
  | true =>
    rw [if_pos rfl]
    exact hb rfl σ B1 H1 (E.ex s1.bb) s1.bh Q fun B2 H2 s2 => q B2 H2 (s1.trans s2)
  | false =>
    rw [if_neg Bool.false_ne_true]
    exact q B1 H1 s1
theorem pq_or {rest : List Expr} {k k' : Bool} (ha : PQ X a env k) (hb : k = false → PQw X (.BoolOp .Or (b :: rest) pos) env k') : PQw X (.BoolOp .Or (a :: b :: rest) pos) env (k || k') := fun σ B H E eb Q q => by
  refine ww (pw_or smT smW) ?_
  refine ha σ B H E eb _ fun B1 H1 s1 => ?_
  cases k with
  | false =>
    rw [if_neg Bool.false_ne_true]
    exact hb rfl σ B1 H1 (E.ex s1.bb) s1.bh Q fun B2 H2 s2 => q B2 H2 (s1.trans s2)
  | true =>
    rw [if_pos rfl]
    exact q B1 H1 s1
theorem pq_not {k : Bool} (ha : PQ X a env k) : PQ X (.UnaryOp .Not a pos) env (!k) := fun σ B H E eb Q q => wt (pt_not smT) (ha σ B H E eb _ fun B1 H1 s1 => q B1 H1 s1)
/-! ### tuples, lists, arguments -/
theorem pds_nil : PDs X [] env [] := fun σ B H E eb Q q => wa pa_nil (q [] B H (.refl eb) .nil)
theorem pds_cons {es : List Expr} (ha : PD X a env d) (hb : PDs X es env ds) (hs : starEach (a :: es) X.env = (false, eval a X.env) :: starEach es X.env := by rfl) : PDs X (a :: es) env (d :: ds) := fun σ B H E eb Q q => by
  refine wa (pa_cons smE smA hs) ?_
  exact ha σ B H E eb _ fun x B1 H1 s1 z1 => hb σ B1 H1 (E.ex s1.bb) s1.bh _ fun ys B2 H2 s2 z2 => q _ B2 H2 (s1.trans s2) (.cons (z1.ex s2.bb) z2)
theorem pd_tup {es : List Expr} {x1} (h : PDs X es env ds) (hl : ds.length ≤ 100000 := by simp) : PD X (.Tuple es x1 pos) env (.tuple ds) := fun σ B H E eb Q q => by
  refine we (pe_tup smA) ?_
  exact h σ B H E eb _ fun xs B1 H1 s1 z1 => ⟨sz (by rw [z1.length]; exact hl), fun p hp => q _ (upd B1 p (.tup xs)) _ (s1.trans (.new s1.bh hp)) (.tup upd_same (z1.ex (Ex.new (ex_none s1.bh hp))))⟩
theorem ex_h0 {B H B1 H1 : Hp} (s : Stp B H B1 H1) {p : Addr} (n : H1 p = none) : H p = none := s.hh.dom p n
theorem pf_lst {es : List Expr} (h : PDs X es env ds) (hl : ds.length ≤ 100000 := by simp) : PF X (.List es pos) env ds := fun σ B H E eb Q q => by
  refine we (pe_lst smA) ?_
  exact h σ B H E eb _ fun xs B1 H1 s1 z1 => ⟨sz (by rw [z1.length]; exact hl), fun p hp => q p xs (upd B1 p (.lst xs)) _ (ex_h0 s1 hp) (s1.trans (.new s1.bh hp)) upd_same (z1.ex (Ex.new (ex_none s1.bh hp)))⟩
theorem rep_flat {α : Type} (v : α) : ∀ n : Nat, (List.replicate n [v]).flatten = List.replicate n v
  | 0 => rfl
  | n + 1 => by rw [List.replicate_succ, List.flatten_cons, rep_flat v n, List.replicate_succ]; rfl
/-- [e] * n -/
theorem pf_rep {n : Nat} {d : PyData} (ha : PF X a env [d]) (hb : PD X b env (.int (n : Int))) (hn : n ≤ 100000) : PF X (.BinOp a .Mult b pos) env (List.replicate n d) := fun σ B H E eb Q q => by
  refine we (pe_op op_rep smE smE) ?_
  refine ha σ B H E eb _ fun p xs B1 H1 n1 s1 z1 a1 => hb σ B1 H1 (E.ex s1.bb) s1.bh _ fun y B2 H2 s2 z2 => ?_
  rw [z2.int_inv]
  cases a1 with
  | cons r t =>
    cases t
    rename_i v
    refine ⟨p, (n : Int), [v], rfl, rfl, s2.at_ (s1.bh _ _ z1), by omega, by omega, sz (by simp; omega), fun l hl => ?_⟩
    have e : (List.replicate (n : Int).toNat [v]).flatten = List.replicate n v := by rw [Int.toNat_natCast, rep_flat]
    have st := (s1.trans s2).trans (Stp.new (o := .lst (List.replicate n v)) s2.bh hl)
    have all : ∀ m, DzAll (upd B2 l (.lst (List.replicate n v))) (List.replicate m v) (List.replicate m d) := fun m => by
      induction m with
      | zero => exact .nil
      | succ m ih => exact .cons (r.ex (s2.bb.trans (Ex.new (ex_none s2.bh hl)))) ih
    rw [e]
    exact q l _ _ _ (ex_h0 (s1.trans s2) hl) st upd_same (all n)
/-! ### subscripts -/
theorem atD {B : Hp} {xs : List V} {n : Nat} (h : DzAll B xs ds) (hd : ds[n]? = some d) : ∃ v, atI xs (n : Int) = some v ∧ Dz B v d := by
  obtain ⟨v, h1, h2⟩ := h.get hd
  exact ⟨v, atI_nat h1, h2⟩
theorem pd_ixT {n : Nat} (ha : PD X a env (.tuple ds)) (hb : PD X b env (.int (n : Int))) (hd : ds[n]? = some d) (hs : PlainIx b := by exact fun _ _ => rfl) : PD X (.Subscript a b pos) env d := fun σ B H E eb Q q => by
  refine we (pe_ix ix_tup smE smE hs) ?_
  refine ha σ B H E eb _ fun x B1 H1 s1 z1 => hb σ B1 H1 (E.ex s1.bb) s1.bh _ fun y B2 H2 s2 z2 => ?_
  rw [z2.int_inv]
  obtain ⟨p, xs, rfl, hp, ha⟩ := z1.tup_inv
  obtain ⟨v, h1, h2⟩ := atD ha hd
  exact ⟨p, xs, _, v, rfl, rfl, SqT.of (s2.at_ (s1.bh _ _ hp)), h1, q v B2 H2 (s1.trans s2) (h2.ex s2.bb)⟩
theorem pd_ixL {n : Nat} (ha : PD X a env (.list ds)) (hb : PD X b env (.int (n : Int))) (hd : ds[n]? = some d) (hs : PlainIx b := by exact fun _ _ => rfl) : PD X (.Subscript a b pos) env d := fun σ B H E eb Q q => by
  refine we (pe_ix ix_list smE smE hs) ?_
  refine ha σ B H E eb _ fun x B1 H1 s1 z1 => hb σ B1 H1 (E.ex s1.bb) s1.bh _ fun y B2 H2 s2 z2 => ?_
  rw [z2.int_inv]
  obtain ⟨p, xs, rfl, hp, ha⟩ := z1.lst_inv
  obtain ⟨v, h1, h2⟩ := atD ha hd
  exact ⟨p, xs, _, v, rfl, rfl, SqL.of (s2.at_ (s1.bh _ _ hp)), h1, q v B2 H2 (s1.trans s2) (h2.ex s2.bb)⟩
/-- xs[-1] -/
theorem pd_last {ds' : List PyData} (ha : PD X a env (.list ds)) (hb : PD X b env (.int (-1))) (hd : ds = ds' ++ [d]) (hs : PlainIx b := by exact fun _ _ => rfl) : PD X (.Subscript a b pos) env d := fun σ B H E eb Q q => by
  refine we (pe_ix ix_list smE smE hs) ?_
  refine ha σ B H E eb _ fun x B1 H1 s1 z1 => hb σ B1 H1 (E.ex s1.bb) s1.bh _ fun y B2 H2 s2 z2 => ?_
  rw [z2.int_inv]
  obtain ⟨p, xs, rfl, hp, ha⟩ := z1.lst_inv
  subst hd
  have hl := ha.length
  rw [List.length_append] at hl
  obtain ⟨v, h1, h2⟩ := ha.get (i := ds'.length) (d := d) (by simp)
  have hx : xs = xs.dropLast ++ [v] := by
    have h3 : xs.getLast? = some v := by
      rw [List.getLast?_eq_getElem?, hl]
      exact h1
    have h4 : xs ≠ [] := fun z => by subst z; cases h3
    rw [List.getLast?_eq_some_getLast h4] at h3
    have h5 := List.dropLast_concat_getLast h4
    rw [Option.some.inj h3] at h5
    exact h5.symm
  refine ⟨p, xs, _, v, rfl, rfl, SqL.of (s2.at_ (s1.bh _ _ hp)), ?_, q v B2 H2 (s1.trans s2) (h2.ex s2.bb)⟩
  rw [hx]
  exact atI_last _ _
end
end JH
set_option Elab.async false
set_option linter.all false
set_option maxRecDepth 100000
set_option maxHeartbeats 4000000
/-! slices, calls, what is walked, comprehensions, statements -/
namespace JH
open PySem PySem.Spec L2
open Evl (Ex Ex.refl Ex.trans Ex.new Ex.mut)
section
variable {X : Cx} {env : Ev} {d d1 d2 : PyData} {ds es : List PyData} {a b c : Expr} {pos : Pos}
/-! ### slices -/
def PDo (X : Cx) (o : Option Expr) (env : Ev) (i : Option Int) : Prop := ∀ (σ : L2.St) (B H : Hp), En σ B env → Ex B H → ∀ (pins : List (Addr × Obj)) (s : Shared) (Q : Option Int → Hp → Prop), Inv X pins σ H s → (∀ B1 H1, Stp B H B1 H1 → Q i H1) →
  wpAny (model X.prog X.w) X.A (evalPart o X.env) (fun u s' => ∃ o H', Inv X pins σ H' s' ∧ IsPart u o ∧ Q o H') X.xe s
theorem pdo_none : PDo X none env none := fun σ B H E eb pins s Q I q => po_none.run pins s σ H Q I (q B H (.refl eb))
theorem pdo_some {i : Int} (h : PD X a env (.int i)) : PDo X (some a) env (some i) := fun σ B H E eb pins s Q I q =>
  (po_some smE).run pins s σ H Q I (h σ B H E eb _ fun v B1 H1 s1 z1 => ⟨i, z1.int_inv, q B1 H1 s1⟩)
def tO (X : Cx) (o : Option Expr) : TO := fun σ H Q => ∀ (pins : List (Addr × Obj)) (s : Shared), Inv X pins σ H s → wpAny (model X.prog X.w) X.A (evalPart o X.env) (fun u s' => ∃ o H', Inv X pins σ H' s' ∧ IsPart u o ∧ Q o H') X.xe s
theorem smO {o : Option Expr} : PO X o (tO X o) := ⟨fun pins s σ H Q I h => h pins s I⟩
def cutD (ds : List PyData) (lo hi : Option Int) : List PyData := (ds.drop (HT.sIx ds.length 0 lo)).take (HT.sIx ds.length ds.length hi - HT.sIx ds.length 0 lo)
theorem cutD_all {B : Hp} {xs : List V} (h : DzAll B xs ds) (lo hi : Option Int) : DzAll B (cutV xs lo hi) (cutD ds lo hi) := by
  unfold cutV cutD
  rw [h.length]
  exact (h.drop _).take _
theorem pd_slT {lo hi : Option Expr} {p2 : Pos} {l u : Option Int} (ha : PD X a env (.tuple ds)) (hl : PDo X lo env l) (hu : PDo X hi env u) (hz : ds.length ≤ 100000 := by simp) : PD X (.Subscript a (.Slice lo hi none p2) pos) env (.tuple (cutD ds l u)) := fun σ B H E eb Q q => by
  refine we (pe_slice sl_tupA smE smO smO) ?_
  refine ha σ B H E eb _ fun x B1 H1 s1 z1 pins s I => hl σ B1 H1 (E.ex s1.bb) s1.bh pins s _ I fun B2 H2 s2 pins s I => hu σ B2 H2 (E.ex (s1.trans s2).bb) s2.bh pins s _ I fun B3 H3 s3 => ?_
  obtain ⟨p, xs, rfl, hp, hx⟩ := (z1.ex (s2.trans s3).bb).tup_inv
  have hx2 : H3 p = some (.tup xs) := s3.bh _ _ hp
  refine ⟨p, xs, rfl, SqT.of hx2, fun hw => ?_, fun _ t ht => ?_⟩
  · have e : cutD ds l u = ds := by
      unfold cutD
      rw [hx.length] at hw
      rw [hw.1, hw.2, List.drop_zero, Nat.sub_zero, List.take_length]
    rw [e] at q
    exact q _ B3 H3 ((s1.trans s2).trans s3) (.tup hp hx)
  · exact q _ _ _ (((s1.trans s2).trans s3).trans (.new s3.bh ht)) (.tup upd_same ((cutD_all hx l u).ex (Ex.new (ex_none s3.bh ht))))
theorem pf_slL {lo hi : Option Expr} {p2 : Pos} {l u : Option Int} (ha : PD X a env (.list ds)) (hl : PDo X lo env l) (hu : PDo X hi env u) : PF X (.Subscript a (.Slice lo hi none p2) pos) env (cutD ds l u) := fun σ B H E eb Q q => by
  refine we (pe_slice sl_list smE smO smO) ?_
  refine ha σ B H E eb _ fun x B1 H1 s1 z1 pins s I => hl σ B1 H1 (E.ex s1.bb) s1.bh pins s _ I fun B2 H2 s2 pins s I => hu σ B2 H2 (E.ex (s1.trans s2).bb) s2.bh pins s _ I fun B3 H3 s3 => ?_
  obtain ⟨p, xs, rfl, hp, hx⟩ := (z1.ex (s2.trans s3).bb).lst_inv
  refine ⟨p, xs, rfl, SqL.of (s3.bh _ _ hp), fun t ht => ?_⟩
  exact q t _ _ _ (ex_h0 ((s1.trans s2).trans s3) ht) (((s1.trans s2).trans s3).trans (.new s3.bh ht)) upd_same ((cutD_all hx l u).ex (Ex.new (ex_none s3.bh ht)))
theorem cut_to (ds : List PyData) (k : Nat) : cutD ds none (some (k : Int)) = ds.take k := by
  unfold cutD
  rw [HT.sIx_nat, HT.sIx_none, List.drop_zero, Nat.sub_zero]
  by_cases h : k ≤ ds.length
  · rw [Nat.min_eq_left h]
  · rw [Nat.min_eq_right (by omega), List.take_length, List.take_of_length_le (by omega)]
theorem cut_from (ds : List PyData) (k : Nat) : cutD ds (some (k : Int)) none = ds.drop k := by
  unfold cutD
  rw [HT.sIx_nat, HT.sIx_none]
  by_cases h : k ≤ ds.length
  · rw [Nat.min_eq_left h, List.take_of_length_le (by simp)]
  · rw [Nat.min_eq_right (by omega), List.drop_of_length_le (Nat.le_refl _), List.drop_of_length_le (by omega)]
    simp
theorem cut_mid (ds : List PyData) (k m : Nat) (h : k + m ≤ ds.length) : cutD ds (some (k : Int)) (some ((k : Int) + (m : Int))) = (ds.drop k).take m := by
  unfold cutD
  rw [show ((k : Int) + (m : Int)) = ((k + m : Nat) : Int) by omega, HT.sIx_nat, HT.sIx_nat, Nat.min_eq_left (by omega), Nat.min_eq_left (by omega), show k + m - k = m by omega]
/-! ### tuples: + and < -/
theorem rd_catT (hz : ds.length + es.length ≤ 100000) : RD X (binaryOp .Add) (.tuple ds) (.tuple es) (.tuple (ds ++ es)) := ⟨_, op_catA, fun x y B H Q eb z1 z2 q => by
  obtain ⟨p, xs, rfl, hp, hx⟩ := z1.tup_inv
  obtain ⟨r, ys, rfl, hr, hy⟩ := z2.tup_inv
  refine ⟨p, r, xs, ys, rfl, rfl, SqT.of (eb _ _ hp), SqT.of (eb _ _ hr), sz (by rw [hx.length, hy.length]; exact hz), fun e => ?_, fun _ e => ?_, fun _ _ t ht => ?_⟩
  · subst e
    cases hx
    exact q _ B H (.refl eb) (.tup hr hy)
  · subst e
    cases hy
    rw [List.append_nil] at q
    exact q _ B H (.refl eb) (.tup hp hx)
  · exact q _ _ _ (.new eb ht) (.tup upd_same ((hx.append hy).ex (Ex.new (ex_none eb ht))))⟩
theorem rd_ltT (hu : X.A.units < cLine) {ns ms : List Int} : RD X (compareOp .Lt) (.tuple (ns.map .int)) (.tuple (ms.map .int)) (.bool (HT.lexLt ns ms)) := ⟨_, op_ltT hu, fun x y B H Q eb z1 z2 q => by
  obtain ⟨p, xs, rfl, hp, hx⟩ := z1.tup_inv
  obtain ⟨r, ys, rfl, hr, hy⟩ := z2.tup_inv
  rw [hx.ints] at hp
  rw [hy.ints] at hr
  exact ⟨p, r, ns, ms, rfl, rfl, SqT.of (eb _ _ hp), SqT.of (eb _ _ hr), q _ B H (.refl eb) (.bl _)⟩⟩
/-! ### in, flat -/
def flD : PyData → Option V
  | .none => some .non
  | .bool b => some (.bl b)
  | .int i => some (.int i)
  | .str x => some (.str x)
  | _ => none
theorem flD_eq {B : Hp} {v u : V} (h : Dz B v d) (e : flD d = some u) : v = u := by
  cases h <;> first | exact Option.some.inj e | cases e
theorem flD_flat {u : V} (e : flD d = some u) : flatV u = true := by
  cases d <;> first | (cases e; rfl) | cases e
theorem flDs_eq {B : Hp} : ∀ {ds : List PyData} {vs us : List V}, DzAll B vs ds → ds.map flD = us.map some → vs = us ∧ us.all flatV = true
  | [], _, us, h, e => by
    cases h
    cases us with
    | nil => exact ⟨rfl, rfl⟩
    | cons _ _ => cases e
  | d :: ds, _, us, h, e => by
    cases h with
    | cons h t =>
      cases us with
      | nil => cases e
      | cons u us =>
        rw [List.map_cons, List.map_cons] at e
        injection e with e1 e2
        obtain ⟨h1, h2⟩ := flDs_eq t e2
        rw [flD_eq h e1, h1]
        exact ⟨rfl, by rw [List.all_cons, flD_flat e1, h2]; rfl⟩
theorem rd_in {u : V} {us : List V} (e1 : flD d = some u) (e2 : ds.map flD = us.map some) : RD X (compareOp .In) d (.list ds) (.bool (inV u us)) := ⟨_, op_in_seq, fun x y B H Q eb z1 z2 q => by
  obtain ⟨p, xs, rfl, hp, hx⟩ := z2.lst_inv
  obtain ⟨e3, e4⟩ := flDs_eq hx e2
  rw [e3] at hp
  rw [flD_eq z1 e1]
  exact ⟨p, us, rfl, .inl (SqL.of (eb _ _ hp)), flD_flat e1, e4, q _ B H (.refl eb) (.bl _)⟩⟩
/-! ### calls -/
/-- a def of the module, with its promise -/
def Kn (P : Program) (w : World) (K : PySem.W.Frag) (mg : Str → Option Value) (base : Heap) (x : Str) (k : Nat) (ps : List Str) (sp : Sp) : Prop :=
  ∃ f fd, FnOk P w K mg base CX0 k f fd ps sp ∧ mg x = some (.ref f) ∧ PySem.W.keepIn K (.ref f) = true ∧ Binds K fd ps []
variable {x : Str} {k : Nat} {ps : List Str} {p : Pos}
theorem pd_fn {R : List PyData → PyData → Prop} {e : Expr} {es : List Expr} (F : Kn X.prog X.w X.K X.mg X.base x k ps (spF R)) (hr : Room k X.A) (ha : PDs X (e :: es) env ds) (h : R ds d) (hg : Gl X x := by rfl)
    (he : starEach (e :: es) X.env = (false, eval e X.env) :: starEach es X.env := by rfl) (hpl : (backTo pos (starEach es X.env)).any (·.1) = false := by rfl) (hd : (x == ("__debug__" : Str)) = false := by decide) : PD X (.Call (.Name x p) (e :: es) [] pos) env d := fun σ B H E eb Q q => by
  obtain ⟨f, fd, F, hm, hk, hb⟩ := F
  refine we (pe_call F hr hg hm hk hb .nil pass0 smA hd he hpl) ?_
  refine ha σ B H E eb _ fun vs B1 H1 s1 z1 => ?_
  rw [List.append_nil]
  exact ⟨B1, ds, d, s1.bh, z1, h, fun v B2 H2 s2 z2 => q v B2 H2 (s1.trans s2) z2⟩
theorem pf_fn {R : List PyData → List PyData → Prop} {e : Expr} {args : List Expr} (F : Kn X.prog X.w X.K X.mg X.base x k ps (spL R)) (hr : Room k X.A) (ha : PDs X (e :: args) env ds) (h : R ds es) (hg : Gl X x := by rfl)
    (he : starEach (e :: args) X.env = (false, eval e X.env) :: starEach args X.env := by rfl) (hpl : (backTo pos (starEach args X.env)).any (·.1) = false := by rfl) (hd : (x == ("__debug__" : Str)) = false := by decide) : PF X (.Call (.Name x p) (e :: args) [] pos) env es := fun σ B H E eb Q q => by
  obtain ⟨f, fd, F, hm, hk, hb⟩ := F
  refine we (pe_call F hr hg hm hk hb .nil pass0 smA hd he hpl) ?_
  refine ha σ B H E eb _ fun vs B1 H1 s1 z1 => ?_
  rw [List.append_nil]
  exact ⟨B1, ds, es, s1.bh, z1, h, fun p xs B2 H2 n2 s2 h2 z2 => q p xs B2 H2 (ex_h0 s1 n2) (s1.trans s2) h2 z2⟩
theorem pd_blt {e : Expr} {es : List Expr} {id : String} (C : CD X (.builtin id) ds d) (hm : X.mg x = none) (hv : bootBuiltins x = some (.builtin id)) (ha : PDs X (e :: es) env ds) (hg : Gl X x := by rfl) (hn : x ≠ "__name__" := by decide) (hdb : (x == ("__debug__" : Str)) = false := by decide)
    (he : starEach (e :: es) X.env = (false, eval e X.env) :: starEach es X.env := by rfl) (hpl : (backTo pos (starEach es X.env)).any (·.1) = false := by rfl) : PD X (.Call (.Name x p) (e :: es) [] pos) env d := fun σ B H E eb Q q => by
  obtain ⟨r, hc, hr⟩ := C
  refine we (pe_callB hc hg hm hv smA hn hdb he hpl) ?_
  exact ha σ B H E eb _ fun vs B1 H1 s1 z1 => hr vs B1 H1 Q s1.bh z1 fun v B2 H2 s2 z2 => q v B2 H2 (s1.trans s2) z2
theorem pd_ty {e : Expr} {es : List Expr} {T : String} (C : CD X (.type T) ds d) (hm : X.mg x = none) (hv : bootBuiltins x = some (.type T)) (ha : PDs X (e :: es) env ds) (hg : Gl X x := by rfl) (hn : x ≠ "__name__" := by decide) (hdb : (x == ("__debug__" : Str)) = false := by decide)
    (he : starEach (e :: es) X.env = (false, eval e X.env) :: starEach es X.env := by rfl) (hpl : (backTo pos (starEach es X.env)).any (·.1) = false := by rfl) : PD X (.Call (.Name x p) (e :: es) [] pos) env d := fun σ B H E eb Q q => by
  obtain ⟨r, hc, hr⟩ := C
  refine we (pe_callTy hc hg hm hv smA hn hdb he hpl) ?_
  exact ha σ B H E eb _ fun vs B1 H1 s1 z1 => hr vs B1 H1 Q s1.bh z1 fun v B2 H2 s2 z2 => q v B2 H2 (s1.trans s2) z2
theorem pf_ty {e : Expr} {args : List Expr} {T : String} (C : CF X (.type T) ds es) (hm : X.mg x = none) (hv : bootBuiltins x = some (.type T)) (ha : PDs X (e :: args) env ds) (hg : Gl X x := by rfl) (hn : x ≠ "__name__" := by decide) (hdb : (x == ("__debug__" : Str)) = false := by decide)
    (he : starEach (e :: args) X.env = (false, eval e X.env) :: starEach args X.env := by rfl) (hpl : (backTo pos (starEach args X.env)).any (·.1) = false := by rfl) : PF X (.Call (.Name x p) (e :: args) [] pos) env es := fun σ B H E eb Q q => by
  obtain ⟨r, hc, hr⟩ := C
  refine we (pe_callTy hc hg hm hv smA hn hdb he hpl) ?_
  exact ha σ B H E eb _ fun vs B1 H1 s1 z1 => hr vs B1 H1 Q s1.bh z1 fun p xs B2 H2 n2 s2 h2 z2 => q p xs B2 H2 (ex_h0 s1 n2) (s1.trans s2) h2 z2
theorem DzAll.one {B : Hp} {vs : List V} (h : DzAll B vs [d]) : ∃ v, vs = [v] ∧ Dz B v d := by
  cases h with
  | cons h t => cases t; exact ⟨_, rfl, h⟩
theorem DzAll.two {B : Hp} {vs : List V} (h : DzAll B vs [d1, d2]) : ∃ v u, vs = [v, u] ∧ Dz B v d1 ∧ Dz B u d2 := by
  cases h with
  | cons h t =>
    obtain ⟨u, rfl, h2⟩ := t.one
    exact ⟨_, u, rfl, h, h2⟩
theorem cd_lenL : CD X (.builtin "len") [.list ds] (.int (ds.length : Int)) := ⟨_, call_len_seq, fun vs B H Q eb z q => by
  obtain ⟨v, rfl, z1⟩ := z.one
  obtain ⟨a, xs, rfl, h1, h2⟩ := z1.lst_inv
  refine ⟨a, xs, rfl, .inl (SqL.of (eb _ _ h1)), ?_⟩
  rw [h2.length]
  exact q _ B H (.refl eb) (.int _)⟩
theorem cd_lenT : CD X (.builtin "len") [.tuple ds] (.int (ds.length : Int)) := ⟨_, call_len_seq, fun vs B H Q eb z q => by
  obtain ⟨v, rfl, z1⟩ := z.one
  obtain ⟨a, xs, rfl, h1, h2⟩ := z1.tup_inv
  refine ⟨a, xs, rfl, .inr (SqT.of (eb _ _ h1)), ?_⟩
  rw [h2.length]
  exact q _ B H (.refl eb) (.int _)⟩
theorem cd_sum (hc : X.calm = true) {ns : List Int} : CD X (.builtin "sum") [.list (ns.map .int)] (.int ns.sum) := ⟨_, cr_sum hc, fun vs B H Q eb z q => by
  obtain ⟨v, rfl, z1⟩ := z.one
  obtain ⟨a, xs, rfl, h1, h2⟩ := z1.lst_inv
  rw [h2.ints] at h1
  exact ⟨a, ns, rfl, SqL.of (eb _ _ h1), q _ B H (.refl eb) (.int _)⟩⟩
theorem cd_all (hc : X.calm = true) {bs : List Bool} : CD X (.builtin "all") [.list (bs.map .bool)] (.bool (bs.all id)) := ⟨_, cr_all hc, fun vs B H Q eb z q => by
  obtain ⟨v, rfl, z1⟩ := z.one
  obtain ⟨a, xs, rfl, h1, h2⟩ := z1.lst_inv
  rw [h2.bls] at h1
  exact ⟨a, bs, rfl, SqL.of (eb _ _ h1), q _ B H (.refl eb) (.bl _)⟩⟩
theorem cd_max (hc : X.calm = true) {i j : Int} : CD X (.builtin "max") [.int i, .int j] (.int (if j > i then j else i)) := ⟨_, call_max2 hc, fun vs B H Q eb z q => by
  obtain ⟨v, u, rfl, z1, z2⟩ := z.two
  rw [z1.int_inv, z2.int_inv]
  exact ⟨i, j, rfl, q _ B H (.refl eb) (.int _)⟩⟩
theorem cd_min (hc : X.calm = true) {i j : Int} : CD X (.builtin "min") [.int i, .int j] (.int (if j < i then j else i)) := ⟨_, call_min2 hc, fun vs B H Q eb z q => by
  obtain ⟨v, u, rfl, z1, z2⟩ := z.two
  rw [z1.int_inv, z2.int_inv]
  exact ⟨i, j, rfl, q _ B H (.refl eb) (.int _)⟩⟩
theorem cd_abs {i : Int} : CD X (.builtin "abs") [.int i] (.int (if i < 0 then -i else i)) := ⟨_, call_abs, fun vs B H Q eb z q => by
  obtain ⟨v, rfl, z1⟩ := z.one
  rw [z1.int_inv]
  exact ⟨i, rfl, q _ B H (.refl eb) (.int _)⟩⟩
theorem cd_intB {k : Bool} : CD X (.type "int") [.bool k] (.int (if k then 1 else 0)) := ⟨_, call_int1, fun vs B H Q eb z q => by
  obtain ⟨v, rfl, z1⟩ := z.one
  rw [z1.bl_inv]
  exact .inr ⟨k, rfl, q _ B H (.refl eb) (.int _)⟩⟩
theorem cd_tupL : CD X (.type "tuple") [.list ds] (.tuple ds) := ⟨_, call_tuple_of, fun vs B H Q eb z q => by
  obtain ⟨v, rfl, z1⟩ := z.one
  obtain ⟨a, xs, rfl, h1, h2⟩ := z1.lst_inv
  exact ⟨a, xs, rfl, .inl ⟨SqL.of (eb _ _ h1), fun l hl => q _ _ _ (.new eb hl) (.tup upd_same (h2.ex (Ex.new (ex_none eb hl))))⟩⟩⟩
theorem cf_lstL : CF X (.type "list") [.list ds] ds := ⟨_, call_list_of, fun vs B H Q eb z q => by
  obtain ⟨v, rfl, z1⟩ := z.one
  obtain ⟨a, xs, rfl, h1, h2⟩ := z1.lst_inv
  exact ⟨a, xs, rfl, .inl (SqL.of (eb _ _ h1)), fun l hl => q _ _ _ _ hl (.new eb hl) upd_same (h2.ex (Ex.new (ex_none eb hl)))⟩⟩
/-! isinstance -/
def tyD : PyData → String
  | .none => "NoneType"
  | .bool _ => "bool"
  | .int _ => "int"
  | .str _ => "str"
  | .list _ => "list"
  | .tuple _ => "tuple"
  | .dict _ => "dict"
def isDict : PyData → Bool
  | .dict _ => true
  | _ => false
theorem tyD_ok {K : PySem.W.Frag} {B H : Hp} {v : V} (eb : Ex B H) (h : Dz B v d) (nd : isDict d = false) : TyX K H v (.type (tyD d)) := by
  cases h with
  | non => exact .base .non
  | bl b => exact .base (.bl b)
  | int i => exact .base (.int i)
  | str x => exact .base (.str x)
  | lst h _ => exact .base (.lst (eb _ _ h))
  | tup h _ => exact .base (.tup (eb _ _ h))
  | tab h => cases nd
  | ins h _ _ => cases nd
  | dk h _ _ => cases nd
/-- isinstance(e, T), T one of the built-in types -/
theorem pd_isi {e : Expr} {q1 q2 : Pos} {T : String} {t : Str} {k : Bool} (ha : PD X e env d) (hm : X.mg "isinstance" = none) (hmT : X.mg t = none) (hv : bootBuiltins t = some (.type T)) (hk : kitB (tyD d) T = some k) (nd : isDict d = false := by rfl)
    (hg : Gl X "isinstance" := by rfl) (hgT : Gl X t := by rfl) (hn : t ≠ "__name__" := by decide) (hdb : (t == ("__debug__" : Str)) = false := by decide) (hs1 : starEach [e, .Name t q2] X.env = (false, eval e X.env) :: starEach [.Name t q2] X.env := by rfl)
    (hs2 : starEach [.Name t q2] X.env = (false, eval (.Name t q2) X.env) :: starEach [] X.env := by rfl) (hpl : (backTo pos (starEach [.Name t q2] X.env)).any (·.1) = false := by rfl) : PD X (.Call (.Name "isinstance" q1) [e, .Name t q2] [] pos) env (.bool k) := fun σ B H E eb Q q => by
  refine we (pe_callB call_isi hg hm (by decide +kernel) (pa_cons smE (pa_cons (pe_bltn (v := .ty T) hgT hmT hv rfl hn hdb) pa_nil hs2) hs1) (by decide) (by decide) hs1 hpl) ?_
  refine ha σ B H E eb _ fun v B1 H1 s1 z1 => ?_
  exact ⟨v, .ty T, .type (tyD d), .type T, k, rfl, .ty T, tyD_ok s1.bh z1 nd, kit_ty hk, q _ B1 H1 s1 (.bl k)⟩
end
end JH
set_option Elab.async false
set_option linter.all false
set_option maxRecDepth 100000
set_option maxHeartbeats 4000000
/-! what is walked, targets, comprehensions, statements -/
namespace JH
open PySem PySem.Spec L2
open Evl (Ex Ex.refl Ex.trans Ex.new Ex.mut)
/-! ### what is walked -/
structure Wk (J : It) (ds : List PyData) (G : Hp) : Prop where
  go : ∀ i H, i < ds.length → Ex G H → J.go i H
  stop : ∀ H, Ex G H → J.stop ds.length H
  yld : ∀ i B H x H', i < ds.length → Ex G B → Ex B H → J.yld i H x H' → ∃ d B', ds[i]? = some d ∧ Stp B H B' H' ∧ Dz B' x d
def WIt (X : Cx) (tg iter : Expr) (env : Ev) (ds : List PyData) : Prop := ∀ (σ : L2.St) (B H : Hp), En σ B env → Ex B H → ∀ R : It → Hp → Prop, (∀ J B1 H1, Stp B H B1 H1 → Wk J ds B1 → R J H1) → WI X tg iter σ H R
theorem wk_list {K : PySem.W.Frag} {a : Addr} {xs : List V} {ds : List PyData} {G : Hp} (h : G a = some (.lst xs)) (hd : DzAll G xs ds) : Wk (Itl K a) ds G where
  go := fun i H hi e => ⟨xs, xs[i]'(by rw [hd.length]; exact hi), SqL.of (e _ _ h), by simp [hd.length, hi]⟩
  stop := fun H e => ⟨xs, SqL.of (e _ _ h), by rw [hd.length]; exact Nat.le_refl _⟩
  yld := fun i B H x H' hi e eb y => by
    obtain ⟨rfl, y⟩ := y
    obtain ⟨d, h1, h2⟩ := hd.getV (y xs (SqL.of (eb _ _ (e _ _ h))))
    exact ⟨d, B, h1, .refl eb, h2.ex e⟩
theorem wk_tup {K : PySem.W.Frag} {a : Addr} {xs : List V} {ds : List PyData} {G : Hp} (h : G a = some (.tup xs)) (hd : DzAll G xs ds) : Wk (Itt K a) ds G where
  go := fun i H hi e => ⟨xs, xs[i]'(by rw [hd.length]; exact hi), SqT.of (e _ _ h), by simp [hd.length, hi]⟩
  stop := fun H e => ⟨xs, SqT.of (e _ _ h), by rw [hd.length]; exact Nat.le_refl _⟩
  yld := fun i B H x H' hi e eb y => by
    obtain ⟨rfl, y⟩ := y
    obtain ⟨d, h1, h2⟩ := hd.getV (y xs (SqT.of (eb _ _ (e _ _ h))))
    exact ⟨d, B, h1, .refl eb, h2.ex e⟩
/-- lo, lo + 1, .. -/
def rngD (lo n : Nat) : List PyData := (List.range n).map fun i => .int ((lo + i : Nat) : Int)
theorem rngD_len (lo n : Nat) : (rngD lo n).length = n := by simp [rngD]
theorem rngD_get {lo n i : Nat} (h : i < n) : (rngD lo n)[i]? = some (.int ((lo + i : Nat) : Int)) := by simp [rngD, h]
theorem wk_rng {lo n : Nat} {G : Hp} : Wk (Itr (lo : Int) n) (rngD lo n) G where
  go := fun i H hi _ => by rw [rngD_len] at hi; exact hi
  stop := fun H _ => by rw [rngD_len]; exact Nat.le_refl _
  yld := fun i B H x H' hi e eb y => by
    rw [rngD_len] at hi
    obtain ⟨rfl, rfl⟩ := y
    refine ⟨_, B, rngD_get hi, .refl eb, ?_⟩
    rw [show ((lo + i : Nat) : Int) = (lo : Int) + (i : Nat) by omega]
    exact .int _
def enumD (ds : List PyData) : List PyData := ds.zipIdx.map fun p => .tuple [.int (p.2 : Int), p.1]
theorem enumD_len (ds : List PyData) : (enumD ds).length = ds.length := by simp [enumD]
theorem enumD_get {ds : List PyData} {i : Nat} {d : PyData} (h : ds[i]? = some d) : (enumD ds)[i]? = some (.tuple [.int (i : Int), d]) := by
  simp [enumD, h]
theorem wk_enum {K : PySem.W.Frag} {a : Addr} {xs : List V} {ds : List PyData} {G : Hp} (h : G a = some (.lst xs)) (hd : DzAll G xs ds) : Wk (Ite K a) (enumD ds) G where
  go := fun i H hi e => by
    rw [enumD_len] at hi
    exact ⟨xs, xs[i]'(by rw [hd.length]; exact hi), SqL.of (e _ _ h), by simp [hd.length, hi]⟩
  stop := fun H e => ⟨xs, SqL.of (e _ _ h), by rw [hd.length, enumD_len]; exact Nat.le_refl _⟩
  yld := fun i B H x H' hi e eb y => by
    obtain ⟨T, v, rfl, nT, rfl, y⟩ := y
    obtain ⟨d, h1, h2⟩ := hd.getV (y xs (SqL.of (eb _ _ (e _ _ h))))
    refine ⟨_, _, enumD_get h1, .new eb nT, .tup upd_same (.cons (.int _) (.cons ((h2.ex e).ex (Ex.new (ex_none eb nT))) .nil))⟩
section
variable {X : Cx} {env : Ev} {d d1 d2 : PyData} {ds es : List PyData} {a b c tg : Expr} {pos : Pos}
theorem wi_list (h : PD X a env (.list ds)) : WIt X tg a env ds := fun σ B H E eb R q => by
  refine wi (pi_list smE) ?_
  refine h σ B H E eb _ fun v B1 H1 s1 z1 => ?_
  obtain ⟨p, xs, rfl, h1, h2⟩ := z1.lst_inv
  exact ⟨p, rfl, ⟨xs, SqL.of (s1.bh _ _ h1)⟩, q _ B1 H1 s1 (wk_list h1 h2)⟩
theorem wi_tup (h : PD X a env (.tuple ds)) : WIt X tg a env ds := fun σ B H E eb R q => by
  refine wi (pi_tup smE) ?_
  refine h σ B H E eb _ fun v B1 H1 s1 z1 => ?_
  obtain ⟨p, xs, rfl, h1, h2⟩ := z1.tup_inv
  exact ⟨p, rfl, ⟨xs, SqT.of (s1.bh _ _ h1)⟩, q _ B1 H1 s1 (wk_tup h1 h2)⟩
theorem wi_rng {p : Pos} {n : Nat} (h : PD X a env (.int (n : Int))) (hn : n ≤ 100000) (hm : X.mg "range" = none) (hg : Gl X "range" := by rfl) (hs : starEach [a] X.env = [(false, eval a X.env)] := by rfl) : WIt X tg (.Call (.Name "range" p) [a] [] pos) env (rngD 0 n) := fun σ B H E eb R q => by
  refine wi (pi_range1 hg hm (pa_cons smE pa_nil hs) hs) ?_
  refine h σ B H E eb _ fun v B1 H1 s1 z1 => ?_
  refine ⟨n, by rw [z1.int_inv], by omega, by omega, ?_⟩
  rw [Int.toNat_natCast]
  exact q _ B1 H1 s1 (wk_rng (lo := 0))
theorem wi_rng2 {p : Pos} {lo n : Nat} (ha : PD X a env (.int (lo : Int))) (hb : PD X b env (.int ((lo : Int) + (n : Int)))) (hl : lo ≤ 100000) (hn : n ≤ 100000) (hm : X.mg "range" = none) (hg : Gl X "range" := by rfl)
    (hs : starEach [a, b] X.env = [(false, eval a X.env), (false, eval b X.env)] := by rfl) (hs2 : starEach [b] X.env = [(false, eval b X.env)] := by rfl) : WIt X tg (.Call (.Name "range" p) [a, b] [] pos) env (rngD lo n) := fun σ B H E eb R q => by
  refine wi (pi_range2 hg hm (pa_cons smE (pa_cons smE pa_nil hs2) (by rw [hs, hs2])) hs hs2) ?_
  refine ha σ B H E eb _ fun v B1 H1 s1 z1 => hb σ B1 H1 (E.ex s1.bb) s1.bh _ fun u B2 H2 s2 z2 => ?_
  refine ⟨lo, (lo : Int) + n, by rw [z1.int_inv, z2.int_inv], ⟨by omega, by omega, by omega, by omega⟩, ?_⟩
  rw [show ((lo : Int) + (n : Int) - (lo : Int)).toNat = n by omega]
  exact q _ B2 H2 (s1.trans s2) wk_rng
theorem wi_enum {p tpos : Pos} {elts : List Expr} {kk : Nat} (h : PD X a env (.list ds)) (hm : X.mg "enumerate" = none) (hg : Gl X "enumerate" := by rfl) (hs : starEach [a] X.env = [(false, eval a X.env)] := by rfl) :
    WIt X (.Tuple elts kk tpos) (.Call (.Name "enumerate" p) [a] [] pos) env (enumD ds) := fun σ B H E eb R q => by
  refine wi (pi_enum hg hm (pa_cons smE pa_nil hs) hs) ?_
  refine h σ B H E eb _ fun v B1 H1 s1 z1 => ?_
  obtain ⟨p, xs, rfl, h1, h2⟩ := z1.lst_inv
  exact ⟨p, xs, rfl, SqL.of (s1.bh _ _ h1), q _ B1 H1 s1 (wk_enum h1 h2)⟩
/-! ### targets: js the slots that are written -/
def PGt (X : Cx) (tg : Expr) (env : Ev) (d : PyData) (env' : Ev) (js : List Nat) : Prop := ∀ (σ : L2.St) (B H : Hp) (v : V), En σ B env → Ex B H → Dz B v d → ∀ Q : L2.St → Hp → Prop,
  (∀ σ', En σ' B env' → σ'.length = σ.length → (∀ j, j ∉ js → σ'[j]? = σ[j]?) → Q σ' H) → WG X tg v σ H Q
def PGts (X : Cx) (tgs : List Expr) (env : Ev) (ds : List PyData) (env' : Ev) (js : List Nat) : Prop := ∀ (σ : L2.St) (B H : Hp) (vs : List V), En σ B env → Ex B H → DzAll B vs ds → ∀ Q : L2.St → Hp → Prop,
  (∀ σ', En σ' B env' → σ'.length = σ.length → (∀ j, j ∉ js → σ'[j]? = σ[j]?) → Q σ' H) → ∀ (pins : List (Addr × Obj)) (s : Shared) (us : List Value), L2.Inv X pins σ H s → Vals vs us →
  wpAny (model X.prog X.w) X.A (assignInOrder ((assignEach tgs X.env).map (·.2)) us) (fun _ s' => ∃ σ' H', L2.Inv X pins σ' H' s' ∧ Q σ' H') X.xe s
theorem pg_nm (i : Nat) {x : Str} (hN : X.N.Nodup) (hi : X.N[i]? = some x := by rfl) (hx : Loc X.env.scope x := by first | exact Or.inl rfl | exact Or.inr rfl) (hf : X.fn x = true ∨ X.env.scope.names.lookup x = some .local := by first | exact .inl rfl | exact .inr rfl) :
    PGt X (.Name x pos) env d (env.set i (some d)) [i] := fun σ B H v E eb z Q q => by
  refine wg (pg_name hN hi hx hf) ?_
  exact q _ (E.set i z) (by rw [List.length_set]) fun j hj => List.getElem?_set_ne fun e => hj (by rw [e]; simp)
theorem pgs_0 : PGts X [] env [] env [] := fun σ B H vs E eb z Q q pins s us I r => by
  cases z
  exact pgs_nil.run pins s σ H [] us Q I r ⟨rfl, q σ E rfl fun _ _ => rfl⟩
theorem pgs_1 {e : Expr} {rest : List Expr} {env' env2 : Ev} {js js2 : List Nat} (h1 : PGt X e env d env' js) (h2 : PGts X rest env' ds env2 js2) (hs : (assignEach (e :: rest) X.env).map (·.2) = assign e X.env :: (assignEach rest X.env).map (·.2) := by rfl) :
    PGts X (e :: rest) env (d :: ds) env2 (js ++ js2) := fun σ B H vs E eb z Q q pins s us I r => by
  cases z with
  | cons z zs =>
    cases r with
    | cons r rs =>
      rw [hs]
      refine PyProof.Rows.assignInOrder_cons (thn (h1 σ B H _ E eb z (fun σ' H' => H' = H ∧ En σ' B env' ∧ σ'.length = σ.length ∧ ∀ j, j ∉ js → σ'[j]? = σ[j]?) (fun σ' a1 a2 a3 => ⟨rfl, a1, a2, a3⟩) pins s _ I r) fun _ s1 ⟨σ1, H1, I1, e1, E1, l1, k1⟩ => ?_)
      subst e1
      exact h2 σ1 B _ _ E1 eb zs Q (fun σ' a1 a2 a3 => q σ' a1 (a2.trans l1) fun j hj => (a3 j fun z => hj (List.mem_append_right _ z)).trans (k1 j fun z => hj (List.mem_append_left _ z))) pins s1 _ I1 rs
theorem pg_tp {tgs : List Expr} {kk : Nat} {env' : Ev} {js : List Nat} (hc : X.calm = true) (h : PGts X tgs env ds env' js) (hn : (assignEach tgs X.env).length = ds.length := by rfl) (hst : (assignEach tgs X.env).findIdx? (·.1) = none := by rfl) :
    PGt X (.Tuple tgs kk pos) env (.tuple ds) env' js := fun σ B H v E eb z Q q pins s u I r => by
  obtain ⟨p, xs, rfl, h1, h2⟩ := z.tup_inv
  refine (pg_tup (X := X) (es := tgs) (t := fun vs σ H Q => ∀ (pins : List (Addr × Obj)) (s : Shared) (us : List Value), L2.Inv X pins σ H s → Vals vs us →
    wpAny (model X.prog X.w) X.A (assignInOrder ((assignEach tgs X.env).map (·.2)) us) (fun _ s' => ∃ σ' H', L2.Inv X pins σ' H' s' ∧ Q σ' H') X.xe s) hc ⟨fun pins s σ H vs us Q I r h => h pins s us I r⟩ hn hst).run pins s σ H _ u Q I r ⟨p, xs, rfl, SqT.of (eb _ _ h1), h2.length, ?_⟩
  exact h σ B H xs E eb h2 Q q
/-! ### comprehensions -/
def PQs (X : Cx) (ifs : List Expr) (env : Ev) (b : Bool) : Prop := (ifs = [] ∧ b = true) ∨ ∃ c, ifs = [c] ∧ PQ X c env b
theorem pqs_0 : PQs X [] env true := .inl ⟨rfl, rfl⟩
theorem pqs_1 {k : Bool} (h : PQ X c env k) : PQs X [c] env k := .inr ⟨c, rfl, h⟩
theorem wipe_at (σ : L2.St) : ∀ (vs : List Nat) (j : Nat), (wipe σ vs)[j]? = if j ∈ vs then (if j < σ.length then some none else none) else σ[j]?
  | [], j => by simp [wipe]
  | v :: vs, j => by
    unfold wipe
    by_cases h : v = j
    · subst h
      simp only [List.mem_cons, true_or, if_true]
      by_cases hl : v < σ.length
      · rw [if_pos hl, List.getElem?_set_self (by rw [wipe_length]; exact hl)]
      · rw [if_neg hl, List.getElem?_eq_none (by rw [List.length_set, wipe_length]; omega)]
    · rw [List.getElem?_set_ne h, wipe_at σ vs j]
      by_cases h2 : j ∈ vs
      · rw [if_pos h2, if_pos (List.mem_cons_of_mem _ h2)]
      · rw [if_neg h2, if_neg (by simp only [List.mem_cons, not_or]; exact ⟨fun e => h e.symm, h2⟩)]
theorem wipe_same {σ σ2 : L2.St} {vs js : List Nat} (hl : σ2.length = (wipe σ vs).length) (hk : ∀ j, j ∉ js → σ2[j]? = (wipe σ vs)[j]?) (hj : ∀ j ∈ js, j ∈ vs) : wipe σ2 vs = wipe σ vs := by
  apply List.ext_getElem?
  intro j
  rw [wipe_length] at hl
  rw [wipe_at]
  by_cases h : j ∈ vs
  · rw [if_pos h, wipe_at, if_pos h, hl]
  · rw [if_neg h, hk j fun z => h (hj j z)]
def gB (X : Cx) (scope : Scope) (tg : Expr) : TG := fun v σ H' Q => ∀ (s : Shared) (H : Hp) (C : Addr) (cl : List (Str × Addr)) (fp : List Addr), WG (X.blk s H scope (compEnvC scope cl C X.env) fp) tg v σ H' Q
def tB (X : Cx) (scope : Scope) (ifs : List Expr) : TT := fun σ H' Q => (ifs = [] ∧ Q true H') ∨ ∃ c, ifs = [c] ∧ ∀ (s : Shared) (H : Hp) (C : Addr) (cl : List (Str × Addr)) (fp : List Addr), WT (X.blk s H scope (compEnvC scope cl C X.env) fp) c σ H' Q
def eB (X : Cx) (scope : Scope) (elt : Expr) : TE := fun σ H' Q => ∀ (s : Shared) (H : Hp) (C : Addr) (cl : List (Str × Addr)) (fp : List Addr), WE (X.blk s H scope (compEnvC scope cl C X.env) fp) elt σ H' Q
theorem smgB {scope : Scope} (s : Shared) (H : Hp) (C : Addr) (cl : List (Str × Addr)) (fp : List Addr) : PG (X.blk s H scope (compEnvC scope cl C X.env) fp) tg (gB X scope tg) := ⟨fun pins s1 σ1 H1 v u Q I r h => h s H C cl fp pins s1 u I r⟩
theorem smtB {scope : Scope} {ifs : List Expr} (s : Shared) (H : Hp) (C : Addr) (cl : List (Str × Addr)) (fp : List Addr) : PTs (X.blk s H scope (compEnvC scope cl C X.env) fp) ifs (tB X scope ifs) := ⟨fun pins s1 σ1 H1 Q I h => by
  rcases h with ⟨e, h⟩ | ⟨c, e, h⟩
  · subst e
    exact pts_nil.run pins s1 σ1 H1 Q I h
  · subst e
    exact (pts_one smT).run pins s1 σ1 H1 Q I (h s H C cl fp)⟩
theorem smeB {scope : Scope} {elt : Expr} (s : Shared) (H : Hp) (C : Addr) (cl : List (Str × Addr)) (fp : List Addr) : PE (X.blk s H scope (compEnvC scope cl C X.env) fp) elt (eB X scope elt) := ⟨fun pins s1 σ1 H1 Q I h => h s H C cl fp pins s1 I⟩
/-- what a comprehension's parts are to do, item by item -/
def Lc {α : Type} (X : Cx) (elt tg iter : Expr) (ifs : List Expr) (scope : Scope) (own : List (Str × Nat)) (env : Ev) (items : List α) (enc : α → PyData) (cond : α → Bool) (f : α → PyData) : Prop := ∃ (nv : α → Ev) (js : List Nat),
  WIt X tg iter env (items.map enc) ∧ (∀ j ∈ js, j ∈ own.map (·.2)) ∧ items.length ≤ 100000 ∧
  ∀ a ∈ items, ∀ (s : Shared) (H : Hp) (C : Addr) (cl : List (Str × Addr)) (fp : List Addr), PGt (X.blk s H scope (compEnvC scope cl C X.env) fp) tg (wipeE env (own.map (·.2))) (enc a) (nv a) js ∧
      PQs (X.blk s H scope (compEnvC scope cl C X.env) fp) ifs (nv a) (cond a) ∧ (cond a = true → PD (X.blk s H scope (compEnvC scope cl C X.env) fp) elt (nv a) (f a))
theorem lc_readG {α : Type} {elt tg iter : Expr} {ifs : List Expr} {scope : Scope} {own : List (Str × Nat)} {items : List α} {enc : α → PyData} {cond : α → Bool} {f : α → PyData} (nv : α → Ev) (js : List Nat) (hj : ∀ j ∈ js, j ∈ own.map (·.2)) (hz : items.length ≤ 100000)
    (hb : ∀ a ∈ items, ∀ (s : Shared) (H : Hp) (C : Addr) (cl : List (Str × Addr)) (fp : List Addr), PGt (X.blk s H scope (compEnvC scope cl C X.env) fp) tg (wipeE env (own.map (·.2))) (enc a) (nv a) js ∧
      PQs (X.blk s H scope (compEnvC scope cl C X.env) fp) ifs (nv a) (cond a) ∧ (cond a = true → PD (X.blk s H scope (compEnvC scope cl C X.env) fp) elt (nv a) (f a)))
    {σ : L2.St} {B H : Hp} (E : En σ B env) (eb : Ex B H) (hi : ∀ R : It → Hp → Prop, (∀ J B1 H1, Stp B H B1 H1 → Wk J (items.map enc) B1 → R J H1) → WI X tg iter σ H R) {Q : VK} (q : ∀ p xs B1 H1, H p = none → Stp B H B1 H1 → B1 p = some (.lst xs) → DzAll B1 xs ((items.filter cond).map f) → Q (.ref p) H1) :
    tLc (WI X tg iter) (gB X scope tg) (tB X scope ifs) (eB X scope elt) (own.map (·.2)) σ H Q := by
  refine hi _ fun J B1 H1 s1 w D hD => ?_
  have hlen : (items.map enc).length = items.length := by rw [List.length_map]
  refine ⟨fun i m H' => m = items.length - i ∧ i ≤ items.length ∧ ∃ B' xs, Stp B1 H1 B' H' ∧ B' D = none ∧ H' D = some (.lst xs) ∧ DzAll B' xs (((items.take i).filter cond).map f), ⟨items.length, by simp, Nat.zero_le _, B1, [], ?_, ex_none s1.bh hD, upd_same, ?_⟩, ?_⟩
  · exact .own s1.bh hD
  · rw [List.take_zero]
    exact .nil
  · rintro i m H' ⟨rfl, him, B', xs, st, nD, hl, hx⟩
    by_cases hlt : i < items.length
    · refine .inr ⟨w.go i H' (by rw [hlen]; exact hlt) (st.bb.trans st.bh), fun H' => i + 1 ≤ items.length ∧ ∃ B' xs, Stp B1 H1 B' H' ∧ B' D = none ∧ H' D = some (.lst xs) ∧ DzAll B' xs (((items.take (i + 1)).filter cond).map f), fun H2 h2 => ⟨items.length - (i + 1), by omega, rfl, h2⟩, fun x H2 y => ?_⟩
      obtain ⟨dd, B2, e1, st2, z2⟩ := w.yld i B' H' x H2 (by rw [hlen]; exact hlt) st.bb st.bh y
      have hg : items[i]? = some items[i] := List.getElem?_eq_getElem hlt
      rw [List.getElem?_map, hg] at e1
      have e2 : enc items[i] = dd := Option.some.inj e1
      subst e2
      have hmem : items[i] ∈ items := List.getElem_mem hlt
      have nD2 : B2 D = none := st2.av D ⟨_, hl, fun _ z => nomatch z⟩ nD
      have hl2 : H2 D = some (.lst xs) := st2.at_ hl
      have E2 : En (wipe σ (own.map (·.2))) B2 (wipeE env (own.map (·.2))) := ((E.ex s1.bb).ex (st.bb.trans st2.bb)).wipe _
      have tk : items.take (i + 1) = items.take i ++ [items[i]] := by rw [List.take_add_one, hg]; rfl
      intro s0 H0 C0 cl0 fp0
      obtain ⟨g1, _, _⟩ := hb _ hmem s0 H0 C0 cl0 fp0
      refine g1 _ B2 H2 x E2 st2.bh z2 _ fun σ2 E3 l3 k3 => ⟨wipe_same l3 k3 hj, ?_⟩
      -- the test's answer, then the element
      have fin : ∀ B3 H3, Stp B2 H2 B3 H3 → (if cond items[i] = true then (∀ (s : Shared) (H : Hp) (C : Addr) (cl : List (Str × Addr)) (fp : List Addr), WE (X.blk s H scope (compEnvC scope cl C X.env) fp) elt σ2 H3 fun y H4 => ∃ acc, H4 D = some (.lst acc) ∧ acc.length < sizeLine ∧
          (i + 1 ≤ items.length ∧ ∃ B' xs, Stp B1 H1 B' (upd H4 D (.lst (acc ++ [y]))) ∧ B' D = none ∧ (upd H4 D (.lst (acc ++ [y]))) D = some (.lst xs) ∧ DzAll B' xs (((items.take (i + 1)).filter cond).map f)))
          else (i + 1 ≤ items.length ∧ ∃ B' xs, Stp B1 H1 B' H3 ∧ B' D = none ∧ H3 D = some (.lst xs) ∧ DzAll B' xs (((items.take (i + 1)).filter cond).map f))) := by
        intro B3 H3 s3
        have nD3 : B3 D = none := s3.av D ⟨_, hl2, fun _ z => nomatch z⟩ nD2
        have hl3 : H3 D = some (.lst xs) := s3.at_ hl2
        cases hcd : cond items[i] with
        | true =>
          rw [if_pos rfl]
          intro s4 H4' C4 cl4 fp4
          obtain ⟨_, _, g3⟩ := hb _ hmem s4 H4' C4 cl4 fp4
          refine g3 hcd σ2 B3 H3 (E3.ex s3.bb) s3.bh _ fun y B4 H4 s4 z4 => ?_
          have nD4 : B4 D = none := s4.av D ⟨_, hl3, fun _ z => nomatch z⟩ nD3
          have hl4 : H4 D = some (.lst xs) := s4.at_ hl3
          have sa := st.trans ((st2.trans s3).trans s4)
          refine ⟨xs, hl4, szl ?_, hlt, B4, xs ++ [y], ⟨sa.bb, Ex.mut sa.bh nD4, ExN.mut sa.hh hD hl4 (fun _ z => nomatch z) (fun _ z => nomatch z), sa.av⟩, nD4, upd_same, ?_⟩
          · have h1 := hx.length
            rw [List.length_map] at h1
            have h2 := List.length_filter_le cond (items.take i)
            rw [List.length_take] at h2
            omega
          · rw [tk, List.filter_append, List.map_append, List.filter_cons, if_pos hcd]
            exact (hx.ex ((st2.trans s3).trans s4).bb).append (.cons z4 .nil)
        | false =>
          rw [if_neg Bool.false_ne_true]
          refine ⟨hlt, B3, xs, st.trans (st2.trans s3), nD3, hl3, ?_⟩
          rw [tk, List.filter_append, List.filter_cons, if_neg (by rw [hcd]; decide), List.filter_nil, List.append_nil]
          exact hx.ex (st2.trans s3).bb
      obtain ⟨_, g2, _⟩ := hb _ hmem s0 H0 C0 cl0 fp0
      rcases g2 with ⟨e, eb⟩ | ⟨c, e, _⟩
      · refine .inl ⟨e, ?_⟩
        have q1 := fin B2 H2 (.refl st2.bh)
        rw [eb] at q1
        exact q1
      · refine .inr ⟨c, e, fun s5 H5 C5 cl5 fp5 => ?_⟩
        obtain ⟨_, g5, _⟩ := hb _ hmem s5 H5 C5 cl5 fp5
        rcases g5 with ⟨e', _⟩ | ⟨c', e', g5⟩
        · rw [e] at e'
          cases e'
        · rw [e] at e'
          obtain rfl : c = c' := (List.cons.inj e').1
          exact g5 σ2 B2 H2 E3 st2.bh _ fun B3 H3 s3 => fin B3 H3 s3
    · have e : i = items.length := by omega
      subst e
      refine .inl ⟨?_, ?_⟩
      · have h := w.stop H' (st.bb.trans st.bh)
        rw [hlen] at h
        exact h
      · rw [List.take_length] at hx
        have st3 : Stp B1 H1 (upd B' D (.lst xs)) H' := by
          refine ⟨fun a o h => ?_, fun a o h => ?_, st.hh, fun a h hb => ?_⟩
          · rw [upd_ne (ne_of_none h (ex_none s1.bh hD))]
            exact st.bb _ _ h
          · by_cases ha : a = D
            · rw [ha, upd_same] at h
              rw [ha, hl]
              exact h
            · rw [upd_ne ha] at h
              exact st.bh _ _ h
          · rw [upd_ne (fun z => h.ne (by rw [z]; exact hD))]
            exact st.av a h hb
        exact q D xs _ H' (ex_h0 s1 hD) (s1.trans st3) upd_same (hx.ex (Ex.new nD))
theorem lc_read {α : Type} {elt tg iter : Expr} {ifs : List Expr} {scope : Scope} {own : List (Str × Nat)} {items : List α} {enc : α → PyData} {cond : α → Bool} {f : α → PyData} (L : Lc X elt tg iter ifs scope own env items enc cond f)
    {σ : L2.St} {B H : Hp} (E : En σ B env) (eb : Ex B H) {Q : VK} (q : ∀ p xs B1 H1, H p = none → Stp B H B1 H1 → B1 p = some (.lst xs) → DzAll B1 xs ((items.filter cond).map f) → Q (.ref p) H1) :
    tLc (WI X tg iter) (gB X scope tg) (tB X scope ifs) (eB X scope elt) (own.map (·.2)) σ H Q := by
  obtain ⟨nv, js, hi, hj, hz, hb⟩ := L
  exact lc_readG nv js hj hz hb E eb (hi σ B H E eb) q
theorem pf_lc {α : Type} {elt tg iter : Expr} {ifs : List Expr} {scope : Scope} {own : List (Str × Nat)} {items : List α} {enc : α → PyData} {cond : α → Bool} {f : α → PyData} (ok : BlkOk X.N X.env.scope scope own) (L : Lc X elt tg iter ifs scope own env items enc cond f) (hc : X.calm = true) (hN : X.N.Nodup)
    (hs : ∀ x, foldedSetIterable iter X.env x = pure x := by intro _; rfl) : PF X (.ListComp elt [⟨tg, iter, ifs, 0⟩] scope pos) env ((items.filter cond).map f) := fun σ B H E eb Q q =>
  we (pe_lc hc hN smI ok smgB smtB smeB hs) (lc_read L E eb q)
end
end JH
set_option Elab.async false
set_option linter.all false
set_option maxRecDepth 100000
set_option maxHeartbeats 4000000
/-! tables; statements over data and over objects of one's own -/
namespace JH
open PySem PySem.Spec L2
open Evl (Ex Ex.refl Ex.trans Ex.new Ex.mut)
/-! ### tables -/
def look (t : Tbl) (n k : Nat) : Option Bool := (t.find? fun p => decide (p.1 = (n, k))).map (·.2)
def oB : Option Bool → PyData
  | some b => .bool b
  | none => .none
def kyT (n k : Nat) : List Key := [Sum.inl (n : Int), Sum.inl (k : Int)]
theorem kyT_inj {n k n' k' : Nat} : kyT n k = kyT n' k' ↔ (n, k) = (n', k') := by
  constructor
  · intro h
    simp only [kyT, List.cons.injEq, Sum.inl.injEq, and_true] at h
    obtain ⟨h1, h2⟩ := h
    have e1 : n = n' := by omega
    have e2 : k = k' := by omega
    rw [e1, e2]
  · intro h
    cases h
    rfl
theorem val_kvT (n k : Nat) : ∀ t : Tbl, valV (kvT t) (kyT n k) = (look t n k).map V.bl
  | [] => rfl
  | p :: t => by
    have ih := val_kvT n k t
    have e0 : kvT (p :: t) = (kyT p.1.1 p.1.2, V.bl p.2) :: kvT t := rfl
    by_cases e : p.1 = (n, k)
    · rw [e0, valV_pos (kyT_inj.mpr e)]
      simp [look, e]
    · rw [e0, valV_neg (fun z => e (kyT_inj.mp z)), ih]
      simp [look, e]
def putT (t : Tbl) (n k : Nat) (b : Bool) : Tbl := if (look t n k).isSome then t.map fun p => if p.1 = (n, k) then (p.1, b) else p else t ++ [((n, k), b)]
def dropT (t : Tbl) (n k : Nat) : Tbl := t.filter fun p => decide (p.1 ≠ (n, k))
theorem put_kvT (t : Tbl) (n k : Nat) (b : Bool) : putK (kvT t) (kyT n k) (V.bl b) = kvT (putT t n k b) := by
  unfold putK putT
  rw [valV_any, val_kvT, Option.isSome_map]
  by_cases h : (look t n k).isSome = true
  · rw [if_pos h, if_pos h]
    unfold kvT
    rw [List.map_map, List.map_map]
    refine List.map_congr_left fun p hp => ?_
    show (if kyT p.1.1 p.1.2 = kyT n k then (kyT p.1.1 p.1.2, V.bl b) else (kyT p.1.1 p.1.2, V.bl p.2)) = _
    by_cases e : p.1 = (n, k)
    · rw [if_pos (kyT_inj.mpr e), Function.comp, if_pos e]
      rfl
    · rw [if_neg (fun z => e (kyT_inj.mp z)), Function.comp, if_neg e]
      rfl
  · rw [if_neg h, if_neg h]
    unfold kvT
    rw [List.map_append]
    rfl
theorem drop_kvT (t : Tbl) (n k : Nat) : dropK (kvT t) (kyT n k) = kvT (dropT t n k) := by
  unfold dropK dropT kvT
  rw [List.filter_map]
  congr 1
  refine List.filter_congr fun p hp => ?_
  show decide (kyT p.1.1 p.1.2 ≠ kyT n k) = decide (p.1 ≠ (n, k))
  exact decide_eq_decide.mpr (not_congr kyT_inj)
theorem look_put (t : Tbl) (n k : Nat) (b : Bool) (n' k' : Nat) : look (putT t n k b) n' k' = if (n', k') = (n, k) then some b else look t n' k' := by
  have h := valV_put (kvT t) (kyT n k) (kyT n' k') (V.bl b)
  rw [put_kvT, val_kvT, val_kvT] at h
  by_cases e : (n', k') = (n, k)
  · rw [if_pos (kyT_inj.mpr e)] at h
    rw [if_pos e]
    cases q : look (putT t n k b) n' k' with
    | none => rw [q] at h; cases h
    | some x => rw [q] at h; cases h; rfl
  · rw [if_neg (fun z => e (kyT_inj.mp z))] at h
    rw [if_neg e]
    cases q : look (putT t n k b) n' k' with
    | none => cases q2 : look t n' k' with
      | none => rfl
      | some y => rw [q, q2] at h; cases h
    | some x => cases q2 : look t n' k' with
      | none => rw [q, q2] at h; cases h
      | some y => rw [q, q2] at h; cases h; rfl
section
variable {X : Cx} {env : Ev} {d d1 d2 : PyData} {ds es : List PyData} {a b c tg : Expr} {pos : Pos}
theorem key_of_dz {B : Hp} {v : V} {n k : Nat} (h : Dz B v (.tuple [.int (n : Int), .int (k : Int)])) : ∃ q, v = .ref q ∧ B q = some (.tup ((kyT n k).map kV)) := by
  obtain ⟨q, xs, rfl, h1, h2⟩ := h.tup_inv
  cases h2 with
  | cons z1 t =>
    cases t with
    | cons z2 t =>
      cases t
      rw [z1.int_inv, z2.int_inv] at h1
      exact ⟨q, rfl, h1⟩
theorem dget_of {B H : Hp} {v w : V} {n k : Nat} {t : Tbl} (eb : Ex B H) (h : Dz B v (.tuple [.int (n : Int), .int (k : Int)])) (ht : Dz B w (encTab t)) : ∃ q, w = .ref q ∧ DGet H q v ((look t n k).map V.bl) := by
  obtain ⟨q, rfl, h1⟩ := key_of_dz h
  obtain ⟨p, rfl, h2⟩ := ht.tab_inv
  refine ⟨p, rfl, ?_⟩
  rw [← val_kvT]
  exact DGet.t (eb _ _ h2) (eb _ _ h1)
theorem pd_inT {n k : Nat} {t : Tbl} (hu : X.A.units + 1 < cLine) (ha : PD X a env (.tuple [.int (n : Int), .int (k : Int)])) (hb : PD X b env (encTab t)) (hm : behindInMarks .In b = false := by rfl) : PD X (.Compare a [.In] [b] pos) env (.bool (look t n k).isSome) := fun σ B H E eb Q q => by
  refine we (pe_cmp (pc_din hu smE smE) hm) ?_
  refine ha σ B H E eb _ fun x B1 H1 s1 z1 => hb σ B1 H1 (E.ex s1.bb) s1.bh _ fun y B2 H2 s2 z2 => ?_
  obtain ⟨p, rfl, g⟩ := dget_of s2.bh (z1.ex s2.bb) z2
  refine ⟨p, _, rfl, g, ?_⟩
  rw [Option.isSome_map]
  exact q _ B2 H2 (s1.trans s2) (.bl _)
theorem pq_inT {n k : Nat} {t : Tbl} (hu : X.A.units + 1 < cLine) (ha : PD X a env (.tuple [.int (n : Int), .int (k : Int)])) (hb : PD X b env (encTab t)) (hm : behindInMarks .In b = false := by rfl) : PQ X (.Compare a [.In] [b] pos) env (look t n k).isSome := fun σ B H E eb Q q => by
  refine wt (pt_cmp (pc_din hu smE smE) hm) ?_
  refine ha σ B H E eb _ fun x B1 H1 s1 z1 => hb σ B1 H1 (E.ex s1.bb) s1.bh _ fun y B2 H2 s2 z2 => ?_
  obtain ⟨p, rfl, g⟩ := dget_of s2.bh (z1.ex s2.bb) z2
  refine ⟨p, _, rfl, g, _, rfl, ?_⟩
  rw [Option.isSome_map]
  exact q B2 H2 (s1.trans s2)
theorem pq_notInT {n k : Nat} {t : Tbl} (hu : X.A.units + 1 < cLine) (ha : PD X a env (.tuple [.int (n : Int), .int (k : Int)])) (hb : PD X b env (encTab t)) (hm : behindInMarks .NotIn b = false := by rfl) : PQ X (.Compare a [.NotIn] [b] pos) env (!(look t n k).isSome) := fun σ B H E eb Q q => by
  refine wt (pt_cmp (pc_dnotin hu smE smE) hm) ?_
  refine ha σ B H E eb _ fun x B1 H1 s1 z1 => hb σ B1 H1 (E.ex s1.bb) s1.bh _ fun y B2 H2 s2 z2 => ?_
  obtain ⟨p, rfl, g⟩ := dget_of s2.bh (z1.ex s2.bb) z2
  refine ⟨p, _, rfl, g, _, rfl, ?_⟩
  rw [Option.isSome_map]
  exact q B2 H2 (s1.trans s2)
theorem oB_dz {B : Hp} (o : Option Bool) : Dz B ((o.map V.bl).getD .non) (oB o) := by
  cases o with
  | none => exact .non
  | some b => exact .bl b
/-- t.get(k, None) -/
theorem pd_getT {apos : Pos} {n k : Nat} {t : Tbl} (hu : X.A.units + 1 < cLine) (hb : PD X b env (encTab t)) (ha : PD X a env (.tuple [.int (n : Int), .int (k : Int)])) (hc : PD X c env .none) (m : M2 X b "get" apos a c pos) : PD X (.Call (.Attribute b "get" apos) [a, c] [] pos) env (oB (look t n k)) := fun σ B H E eb Q q => by
  refine we (pe_dget2 hu smE smE smE m) ?_
  refine hb σ B H E eb _ fun y B1 H1 s1 z1 => ?_
  obtain ⟨p, rfl, h1⟩ := z1.tab_inv
  refine ⟨p, rfl, .inr ⟨_, .inl (s1.bh _ _ h1)⟩, ?_⟩
  refine ha σ B1 H1 (E.ex s1.bb) s1.bh _ fun x B2 H2 s2 z2 => hc σ B2 H2 (E.ex (s1.trans s2).bb) s2.bh _ fun u B3 H3 s3 z3 => ?_
  rw [z3.non_inv]
  obtain ⟨p', e, g⟩ := dget_of s3.bh (z2.ex s3.bb) (z1.ex (s2.trans s3).bb)
  obtain rfl : p = p' := V.ref.inj e
  exact ⟨_, g, q _ B3 H3 ((s1.trans s2).trans s3) (oB_dz _)⟩
/-- t[k], there -/
theorem pd_itemT {n k : Nat} {t : Tbl} {v : Bool} (hu : X.A.units + 1 < cLine) (hb : PD X b env (encTab t)) (ha : PD X a env (.tuple [.int (n : Int), .int (k : Int)])) (hv : look t n k = some v) (hs : NoSl a := by exact fun _ _ => rfl) : PD X (.Subscript b a pos) env (.bool v) := fun σ B H E eb Q q => by
  refine we (pe_dget hu smE smE hs) ?_
  refine hb σ B H E eb _ fun y B1 H1 s1 z1 => ha σ B1 H1 (E.ex s1.bb) s1.bh _ fun x B2 H2 s2 z2 => ?_
  obtain ⟨p, rfl, g⟩ := dget_of s2.bh z2 (z1.ex s2.bb)
  rw [hv] at g
  exact ⟨p, _, rfl, g, q _ B2 H2 (s1.trans s2) (.bl v)⟩
end
/-! ### what a frame holds of its own -/
/-- a value: told by itself, or by its data -/
inductive Arg where
  | ref (v : V) | dat (d : PyData)
def Arg.at_ (B : Hp) (v : V) : Arg → Prop
  | .ref u => v = u
  | .dat d => Dz B v d
inductive OC where
  | lst (ds : List PyData) | dct (t : Tbl)
  | ins (C dx : Addr) (fs : List (Str × Arg)) | own (x : Addr) | dk (kvs : List (Str × Arg))
def FsAt (B : Hp) : List (Str × V) → List (Str × Arg) → Prop := Paired fun p q => p.1 = q.1 ∧ q.2.at_ B p.2
def KsAt (B : Hp) : List (Key × V) → List (Str × Arg) → Prop := Paired fun p q => p.1 = Sum.inr q.1 ∧ q.2.at_ B p.2
def OC.at_ (B H : Hp) (l : Addr) : OC → Prop
  | .lst ds => ∃ xs, H l = some (.lst xs) ∧ DzAll B xs ds
  | .dct t => H l = some (.dT (kvT t))
  | .ins C dx fs => ∃ vs, H l = some (.ins C dx vs) ∧ FsAt B vs fs
  | .own x => H l = some (.own x)
  | .dk kvs => ∃ vs, H l = some (.dK vs) ∧ KsAt B vs kvs
def OC.d : OC → PyData
  | .lst ds => .list ds
  | .dct t => encTab t
  | _ => .none
/-- it may be read as data by itself -/
def OC.isD : OC → Bool
  | .lst _ => true
  | .dct _ => true
  | _ => false
/-- slot (1000 and more: in none), place, content -/
abbrev Own := List (Nat × Addr × OC)
structure OwnOk (B0 H0 B H : Hp) (own : Own) (σ : L2.St) : Prop where
  all : ∀ p ∈ own, (p.1 < 1000 → σ[p.1]? = some (some (.ref p.2.1))) ∧ B p.2.1 = none ∧ H0 p.2.1 = none ∧ OC.at_ B H p.2.1 p.2.2
  nd : (own.map (·.2.1)).Nodup
def Sta (B0 H0 : Hp) (env : Ev) (own : Own) (σ : L2.St) (H : Hp) : Prop := ∃ B, Stp B0 H0 B H ∧ En σ B env ∧ OwnOk B0 H0 B H own σ
def StaV (B0 H0 : Hp) (env : Ev) (own : Own) (σ : L2.St) (H : Hp) (v : V) (d : PyData) : Prop := ∃ B, Stp B0 H0 B H ∧ En σ B env ∧ OwnOk B0 H0 B H own σ ∧ Dz B v d
theorem Arg.at_.imp {B B' : Hp} {v : V} {a : Arg} (h : a.at_ B v) (k : ∀ v d, Dz B v d → Dz B' v d) : a.at_ B' v := by
  cases a with
  | ref u => exact h
  | dat d => exact k _ _ h
theorem OC.raw {B H : Hp} {l : Addr} {o : OC} (h : o.at_ B H l) : ∃ u, H l = some u ∧ (∀ ps, u ≠ .tbl ps) ∧ (∀ φ, u ≠ .ext φ) ∧ (∀ xs, u ≠ .tup xs) ∧ ∀ B' H', (∀ v d, Dz B v d → Dz B' v d) → H' l = some u → o.at_ B' H' l := by
  cases o with
  | lst ds =>
    obtain ⟨xs, h, a⟩ := h
    refine ⟨_, h, (fun _ z => nomatch z), (fun _ z => nomatch z), (fun _ z => nomatch z), fun B' H' k q => ⟨xs, q, ?_⟩⟩
    clear h q
    induction ds generalizing xs with
    | nil => cases a; exact .nil
    | cons d ds ih =>
      cases a with
      | cons z t => exact .cons (k _ _ z) (ih _ t)
  | dct t => exact ⟨_, show H l = some (.dT (kvT t)) from h, (fun _ z => nomatch z), (fun _ z => nomatch z), (fun _ z => nomatch z), fun B' H' k q => q⟩
  | ins C dx fs =>
    obtain ⟨vs, h, a⟩ := h
    exact ⟨_, h, (fun _ z => nomatch z), (fun _ z => nomatch z), (fun _ z => nomatch z), fun B' H' k q => ⟨vs, q, Paired.mapP a fun p q z => ⟨z.1, z.2.imp k⟩⟩⟩
  | own x => exact ⟨_, show H l = some (.own x) from h, (fun _ z => nomatch z), (fun _ z => nomatch z), (fun _ z => nomatch z), fun B' H' k q => q⟩
  | dk kvs =>
    obtain ⟨vs, h, a⟩ := h
    exact ⟨_, h, (fun _ z => nomatch z), (fun _ z => nomatch z), (fun _ z => nomatch z), fun B' H' k q => ⟨vs, q, Paired.mapP a fun p q z => ⟨z.1, z.2.imp k⟩⟩⟩
theorem OC.there {B H : Hp} {l : Addr} {o : OC} (h : o.at_ B H l) : H l ≠ none := by
  obtain ⟨u, h, _⟩ := OC.raw h
  rw [h]
  simp
theorem OC.av {B H : Hp} {l : Addr} {o : OC} (h : o.at_ B H l) : Av H l := by
  obtain ⟨u, h1, _, _, h2, _⟩ := OC.raw h
  exact ⟨u, h1, h2⟩
theorem OC.kind {B H : Hp} {l : Addr} {o : OC} (h : o.at_ B H l) : ∃ u, H l = some u ∧ (∀ ps, u ≠ .tbl ps) ∧ ∀ φ, u ≠ .ext φ := by
  obtain ⟨u, h1, h2, h3, _⟩ := OC.raw h
  exact ⟨u, h1, h2, h3⟩
theorem OC.ex {B H B1 H1 : Hp} {l : Addr} {o : OC} (h : o.at_ B H l) (eb : Ex B B1) (eh : ExN H H1) : o.at_ B1 H1 l := by
  obtain ⟨u, h1, h2, _, _, h3⟩ := OC.raw h
  exact h3 B1 H1 (fun v d z => z.ex eb) (eh.ext _ _ h1 h2)
theorem OwnOk.stp {B0 H0 B H B1 H1 : Hp} {own : Own} {σ : L2.St} (o : OwnOk B0 H0 B H own σ) (s : Stp B H B1 H1) : OwnOk B0 H0 B1 H1 own σ :=
  ⟨fun p hp => let ⟨a, b, c, e⟩ := o.all p hp; ⟨a, s.av _ (OC.av e) b, c, OC.ex e s.bb s.hh⟩, o.nd⟩
section
variable {X : Cx} {B0 H0 H : Hp} {env : Ev} {own : Own} {σ : L2.St} {d : PyData} {e : Expr}
def EV (X : Cx) (B0 H0 : Hp) (env : Ev) (own : Own) (e : Expr) (d : PyData) : Prop := ∀ σ H, Sta B0 H0 env own σ H → ∀ Q : VK, (∀ v H1, StaV B0 H0 env own σ H1 v d → Q v H1) → WE X e σ H Q
def TV (X : Cx) (B0 H0 : Hp) (env : Ev) (own : Own) (e : Expr) (b : Bool) : Prop := ∀ σ H, Sta B0 H0 env own σ H → ∀ Q : Bool → Hp → Prop, (∀ H1, Sta B0 H0 env own σ H1 → Q b H1) → WT X e σ H Q
theorem PD.ev (h : PD X e env d) : EV X B0 H0 env own e d := fun σ H ⟨B, s, E, o⟩ Q q => h σ B H E s.bh Q fun v B1 H1 s1 z1 => q v H1 ⟨B1, s.trans s1, E.ex s1.bb, o.stp s1, z1⟩
theorem PQ.tv {b : Bool} (h : PQ X e env b) : TV X B0 H0 env own e b := fun σ H ⟨B, s, E, o⟩ Q q => h σ B H E s.bh Q fun B1 H1 s1 => q H1 ⟨B1, s.trans s1, E.ex s1.bb, o.stp s1⟩
/-- one of one's own, read as data -/
theorem exposed {B : Hp} {i : Nat} {l : Addr} {c : OC} (s : Stp B0 H0 B H) (E : En σ B env) (o : OwnOk B0 H0 B H own σ) (hm : (i, l, c) ∈ own) (hD : c.isD = true) (hi : i < 1000) : ∃ B', Ex B B' ∧ Ex B' H ∧ En σ B' (env.set i (some c.d)) ∧ (∀ a, a ≠ l → B' a = B a) ∧ ∃ u, B' l = some u ∧ ∀ xs, u ≠ .tup xs := by
  obtain ⟨h1, h2, h3, h4⟩ := o.all _ hm
  have key : ∀ (u : HO), H l = some u → Dz (upd B l u) (.ref l) c.d → (∀ xs, u ≠ .tup xs) → ∃ B', Ex B B' ∧ Ex B' H ∧ En σ B' (env.set i (some c.d)) ∧ (∀ a, a ≠ l → B' a = B a) ∧ ∃ u, B' l = some u ∧ ∀ xs, u ≠ .tup xs := fun u hu z nt => by
    refine ⟨upd B l u, Ex.new h2, fun a o q => ?_, ?_, fun a ha => upd_ne ha, u, upd_same, nt⟩
    · by_cases ha : a = l
      · rw [ha, upd_same] at q
        rw [ha, hu]
        exact q
      · rw [upd_ne ha] at q
        exact s.bh _ _ q
    · have q := (E.ex (Ex.new (o := u) h2)).set i z
      have es : σ.set i (some (V.ref l)) = σ := by
        apply List.ext_getElem?
        intro j
        by_cases hj : i = j
        · subst hj
          have hl : i < σ.length := (List.getElem?_eq_some_iff.mp (h1 hi)).1
          rw [List.getElem?_set_self hl, h1 hi]
        · rw [List.getElem?_set_ne hj]
      rw [es] at q
      exact q
  cases c with
  | lst ds =>
    obtain ⟨xs, h5, h6⟩ := h4
    exact key _ h5 (.lst upd_same (h6.ex (Ex.new h2))) fun xs z => nomatch z
  | dct t => exact key _ h4 (.tab upd_same) fun xs z => nomatch z
  | ins C dx fs => cases hD
  | own x => cases hD
  | dk kvs => cases hD
def rm (B : Hp) (l : Addr) : Hp := fun a => if a = l then none else B a
theorem rm_ne {B : Hp} {l a : Addr} (h : a ≠ l) : rm B l a = B a := if_neg h
theorem rm_self {B : Hp} {l : Addr} : rm B l l = none := if_pos rfl
theorem rm_ex {B B1 : Hp} {l : Addr} (h : B l = none) (e : Ex B B1) : Ex B (rm B1 l) := fun a o q => by
  rw [rm_ne (ne_of_none q h)]
  exact e _ _ q
theorem rm_le {B1 H1 : Hp} {l : Addr} (e : Ex B1 H1) : Ex (rm B1 l) H1 := fun a o q => by
  by_cases ha : a = l
  · rw [ha, rm_self] at q
    cases q
  · rw [rm_ne ha] at q
    exact e _ _ q
theorem OwnOk.low {B B' H' : Hp} (o : OwnOk B0 H0 B H own σ) (eb : Ex B B') (eh : ExN H H') (av : ∀ a, Av H a → B a = none → B' a = none) : OwnOk B0 H0 B' H' own σ :=
  ⟨fun p hp => let ⟨a, b, c, e⟩ := o.all p hp; ⟨a, av _ (OC.av e) b, c, OC.ex e eb eh⟩, o.nd⟩
theorem back {B B' B1 H1 : Hp} {l : Addr} (s : Stp B0 H0 B H) (nl : B l = none) (e : Ex B B') (sm : ∀ a, a ≠ l → B' a = B a) (s1 : Stp B' H B1 H1) : Stp B H (rm B1 l) H1 :=
  ⟨rm_ex nl (e.trans s1.bb), rm_le s1.bh, s1.hh, fun a h hb => by
    by_cases ha : a = l
    · rw [ha]; exact rm_self
    · rw [rm_ne ha]
      exact s1.av a h (by rw [sm a ha]; exact hb)⟩
theorem ev_x (i : Nat) {l : Addr} {c : OC} (hm : (i, l, c) ∈ own) (h : PD X e (env.set i (some c.d)) d) (f : fz d = true) (hD : c.isD = true := by rfl) (hi : i < 1000 := by decide) : EV X B0 H0 env own e d := fun σ H ⟨B, s, E, o⟩ Q q => by
  obtain ⟨B', e1, e2, E', sm, u, hu, nt⟩ := exposed s E o hm hD hi
  have nl : B l = none := (o.all _ hm).2.1
  refine h σ B' H E' e2 Q fun v B1 H1 s1 z1 => ?_
  have s2 := back s nl e1 sm s1
  refine q v H1 ⟨_, s.trans s2, E.ex s2.bb, o.stp s2, Dz.tex (fun a xs h => ?_) d f z1⟩
  have ha : a ≠ l := fun ha => by
    rw [ha, s1.bb _ _ hu] at h
    exact nt xs (Option.some.inj h)
  rw [rm_ne ha]
  exact h
theorem tv_x (i : Nat) {l : Addr} {c : OC} {b : Bool} (hm : (i, l, c) ∈ own) (h : PQ X e (env.set i (some c.d)) b) (hD : c.isD = true := by rfl) (hi : i < 1000 := by decide) : TV X B0 H0 env own e b := fun σ H ⟨B, s, E, o⟩ Q q => by
  obtain ⟨B', e1, e2, E', sm, _⟩ := exposed s E o hm hD hi
  have nl : B l = none := (o.all _ hm).2.1
  refine h σ B' H E' e2 Q fun B1 H1 s1 => ?_
  have s2 := back s nl e1 sm s1
  exact q H1 ⟨_, s.trans s2, E.ex s2.bb, o.stp s2⟩
end
end JH
set_option Elab.async false
set_option linter.all false
set_option maxRecDepth 100000
set_option maxHeartbeats 4000000
/-! statements -/
namespace JH
open PySem PySem.Spec L2
open Evl (Ex Ex.refl Ex.trans Ex.new Ex.mut)
theorem set_other {σ : L2.St} {i j : Nat} {o : Option V} (h : j ≠ i) : (σ.set i o)[j]? = σ[j]? := List.getElem?_set_ne (Ne.symm h)
section
variable {X : Cx} {B0 H0 B H H1 B1 : Hp} {env env' : Ev} {own own' : Own} {σ σ' : L2.St} {d : PyData} {ds es : List PyData} {e : Expr} {rest : List Stmt} {D : Ends} {pos pos' : Pos} {x : Str} {v : V}
theorem OwnOk.slots (o : OwnOk B0 H0 B H own σ) (k : ∀ p ∈ own, σ'[p.1]? = σ[p.1]?) : OwnOk B0 H0 B H own σ' := ⟨fun p hp => let ⟨a, b, c, e⟩ := o.all p hp; ⟨fun z => (k p hp).trans (a z), b, c, e⟩, o.nd⟩
theorem StaV.set (i : Nat) (S : StaV B0 H0 env own σ H v d) (hi : ∀ p ∈ own, p.1 ≠ i) : Sta B0 H0 (env.set i (some d)) own (σ.set i (some v)) H := by
  obtain ⟨B, s, E, o, z⟩ := S
  exact ⟨B, s, E.set i z, o.slots fun p hp => set_other (hi p hp)⟩
theorem Sta.weak (S : Sta B0 H0 env own σ H) (hl : env'.length = env.length) (w : ∀ (i : Nat) (d : PyData), env'[i]? = some (some d) → env[i]? = some (some d)) (ho : ∀ p ∈ own', p ∈ own) (hn : (own'.map (·.2.1)).Nodup) : Sta B0 H0 env' own' σ H := by
  obtain ⟨B, s, E, o⟩ := S
  exact ⟨B, s, E.weak hl w, fun p hp => o.all p (ho p hp), hn⟩
theorem Sta.nd (S : Sta B0 H0 env own σ H) : (own.map (·.2.1)).Nodup := let ⟨_, _, _, o⟩ := S; o.nd
/-- slots forgotten -/
theorem Sta.fit (S : Sta B0 H0 env own σ H) (hl : env'.length = env.length) (w : ∀ (i : Nat) (d : PyData), env'[i]? = some (some d) → env[i]? = some (some d)) : Sta B0 H0 env' own σ H := S.weak hl w (fun _ h => h) S.nd
theorem s_nil (h : D.nx σ H) : WSs X [] D σ H := wss pss_nil h
theorem s_set (i : Nat) (S : Sta B0 H0 env own σ H) (h : EV X B0 H0 env own e d) (k : ∀ σ' H', Sta B0 H0 (env.set i (some d)) own σ' H' → WSs X rest D σ' H') (hN : X.N.Nodup) (ho : ∀ p ∈ own, p.1 ≠ i := by simp) (hi : X.N[i]? = some x := by rfl)
    (hx : Loc X.env.scope x := by first | exact Or.inl rfl | exact Or.inr rfl) (hs : swapsWith e (some (.Name x pos')) pos.line X.env = pure false := by rfl) (hf : X.fn x = true ∨ X.env.scope.names.lookup x = some .local := by first | exact .inl rfl | exact .inr rfl) : WSs X (.Assign [.Name x pos'] e pos :: rest) D σ H := by
  refine wss (pss_cons (ps_set hN hi hx smE hs hf) smSs) ?_
  exact h σ H S _ fun v H1 s1 => k _ _ (s1.set i ho)
theorem s_ret (S : Sta B0 H0 env own σ H) (h : EV X B0 H0 env own e d) (k : ∀ v B1 H1, Stp B0 H0 B1 H1 → Dz B1 v d → D.rt v H1) : WSs X (.Return (some e) pos :: rest) D σ H := by
  refine wss (pss_cons (ps_ret smE) (pss_never)) ?_
  exact h σ H S _ fun v H1 ⟨B, s, _, _, z⟩ => k v B H1 s z
/-- a new list is handed back -/
theorem s_retF (S : Sta B0 H0 env own σ H) (h : PF X e env ds) (k : ∀ p xs B1 H1, H0 p = none → Stp B0 H0 B1 H1 → B1 p = some (.lst xs) → DzAll B1 xs ds → D.rt (.ref p) H1) : WSs X (.Return (some e) pos :: rest) D σ H := by
  obtain ⟨B, s, E, o⟩ := S
  refine wss (pss_cons (ps_ret smE) (pss_never)) ?_
  exact h σ B H E s.bh _ fun p xs B1 H1 n1 s1 z1 a1 => k p xs B1 H1 (ex_h0 s n1) (s.trans s1) z1 a1
/-- a list of one's own is handed back -/
theorem s_retO (i : Nat) {l : Addr} (S : Sta B0 H0 env own σ H) (hm : (i, l, OC.lst ds) ∈ own) (k : ∀ p xs B1 H1, H0 p = none → Stp B0 H0 B1 H1 → B1 p = some (.lst xs) → DzAll B1 xs ds → D.rt (.ref p) H1) (hN : X.N[i]? = some x := by rfl) (hi0 : i < 1000 := by decide)
    (hv : Vis X.env.scope x := by first | exact Or.inl rfl | exact Or.inr (Or.inl rfl) | exact Or.inr (Or.inr rfl)) (hd : (x == ("__debug__" : Str)) = false := by decide) (hcd : (x == ("__classdict__" : Str)) = false := by decide) : WSs X (.Return (some (.Name x pos')) pos :: rest) D σ H := by
  obtain ⟨B, s, E, o⟩ := S
  obtain ⟨h1, h2, h3, xs, h4, h5⟩ := o.all _ hm
  refine wss (pss_cons (ps_ret (pe_var hN hv hd hcd)) (pss_never)) ?_
  refine ⟨_, h1 hi0, k l xs (upd B l (.lst xs)) H h3 ⟨s.bb.trans (Ex.new h2), fun a o q => ?_, s.hh, fun a ha hb => ?_⟩ upd_same (h5.ex (Ex.new h2))⟩
  · by_cases ha : a = l
    · rw [ha, upd_same] at q
      rw [ha]
      exact h4.trans q
    · rw [upd_ne ha] at q
      exact s.bh _ _ q
  · rw [upd_ne (fun z => ha.ne (by rw [z]; exact h3))]
    exact s.av a ha hb
theorem s_if {c : Expr} {body orelse : List Stmt} {b : Bool} (S : Sta B0 H0 env own σ H) (hc : TV X B0 H0 env own c b) (h1 : b = true → ∀ H', Sta B0 H0 env own σ H' → WSs X body { D with nx := WSs X rest D } σ H')
    (h2 : b = false → ∀ H', Sta B0 H0 env own σ H' → WSs X orelse { D with nx := WSs X rest D } σ H') : WSs X (.If c body orelse pos :: rest) D σ H := by
  refine wss (pss_cons (ps_if smT smSs smSs) smSs) ?_
  refine hc σ H S _ fun H1 S1 => ?_
  cases b with
  | true => exact h1 rfl H1 S1
  | false => exact h2 rfl H1 S1
/-- an if whose test is false, without else -/
theorem s_if0 {c : Expr} {body : List Stmt} (S : Sta B0 H0 env own σ H) (hc : TV X B0 H0 env own c false) (h2 : ∀ H', Sta B0 H0 env own σ H' → WSs X rest D σ H') : WSs X (.If c body [] pos :: rest) D σ H :=
  s_if S hc (fun z => nomatch z) fun _ H' S' => s_nil (h2 H' S')
theorem s_drop (S : Sta B0 H0 env own σ H) (h : EV X B0 H0 env own e d) (k : ∀ H', Sta B0 H0 env own σ H' → WSs X rest D σ H') (hs : swapsWith e none pos.line X.env = pure false := by rfl) : WSs X (.Expr e pos :: rest) D σ H := by
  refine wss (pss_cons (ps_expr smE hs) smSs) ?_
  exact h σ H S _ fun v H1 ⟨B, s, E, o, _⟩ => k H1 ⟨B, s, E, o⟩
/-- a name gets a new object of its own -/
theorem sta_own (i : Nat) {l : Addr} {u : HO} {c : OC} (s : Stp B0 H0 B H) (E : En σ B env) (o : OwnOk B0 H0 B H own σ) (hl : H l = none) (hc : OC.at_ B (upd H l u) l c) (ho : ∀ p ∈ own, p.1 ≠ i) (hi : i < env.length) :
    Sta B0 H0 (env.set i none) ((i, l, c) :: own) (σ.set i (some (.ref l))) (upd H l u) := by
  have st : Stp B H B (upd H l u) := .own s.bh hl
  refine ⟨B, s.trans st, E.set0 i, fun p hp => ?_, ?_⟩
  · rcases List.mem_cons.mp hp with rfl | hp
    · exact ⟨fun _ => List.getElem?_set_self (by rw [E.len]; exact hi), ex_none s.bh hl, ex_h0 s hl, hc⟩
    · obtain ⟨a, b, c, f⟩ := (o.stp st).all p hp
      exact ⟨fun z => (set_other (ho p hp)).trans (a z), b, c, f⟩
  · refine List.nodup_cons.mpr ⟨fun hm => ?_, o.nd⟩
    obtain ⟨p, hp, e⟩ := List.mem_map.mp hm
    exact OC.there (o.all p hp).2.2.2 (by rw [e]; exact hl)
/-- name = [..], to be changed later -/
theorem s_new (i : Nat) (S : Sta B0 H0 env own σ H) (h : PF X e env ds) (k : ∀ l σ' H', Sta B0 H0 (env.set i none) ((i, l, .lst ds) :: own) σ' H' → WSs X rest D σ' H') (hN : X.N.Nodup) (f : fzA ds = true := by rfl) (hie : i < env.length := by decide) (ho : ∀ p ∈ own, p.1 ≠ i := by simp) (hi : X.N[i]? = some x := by rfl)
    (hx : Loc X.env.scope x := by first | exact Or.inl rfl | exact Or.inr rfl) (hs : swapsWith e (some (.Name x pos')) pos.line X.env = pure false := by rfl) (hf : X.fn x = true ∨ X.env.scope.names.lookup x = some .local := by first | exact .inl rfl | exact .inr rfl) : WSs X (.Assign [.Name x pos'] e pos :: rest) D σ H := by
  obtain ⟨B, s, E, o⟩ := S
  refine wss (pss_cons (ps_set hN hi hx smE hs hf) smSs) ?_
  refine h σ B H E s.bh _ fun p xs B1 H1 n1 s1 z1 a1 => k p _ _ ?_
  have nB : B p = none := ex_none s.bh n1
  have s2 : Stp B H (rm B1 p) H1 := ⟨rm_ex nB s1.bb, rm_le s1.bh, s1.hh, fun a h hb => by
    by_cases ha : a = p
    · rw [ha]; exact rm_self
    · rw [rm_ne ha]; exact s1.av a h hb⟩
  have a2 : DzAll (rm B1 p) xs ds := DzAll.tex (fun a ys h => by
    have ha : a ≠ p := fun ha => by
      rw [ha, z1] at h
      cases h
    rw [rm_ne ha]
    exact h) ds f a1
  have o2 := o.stp s2
  refine ⟨rm B1 p, s.trans s2, (E.ex s2.bb).set0 i, fun q hq => ?_, ?_⟩
  · rcases List.mem_cons.mp hq with rfl | hq
    · exact ⟨fun _ => List.getElem?_set_self (by rw [E.len]; exact hie), rm_self, ex_h0 s n1, xs, s1.bh _ _ z1, a2⟩
    · obtain ⟨a, b, c, f⟩ := o2.all q hq
      exact ⟨fun z => (set_other (ho q hq)).trans (a z), b, c, f⟩
  · refine List.nodup_cons.mpr ⟨fun hm => ?_, o.nd⟩
    obtain ⟨q, hq, e⟩ := List.mem_map.mp hm
    exact OC.there (o.all q hq).2.2.2 (by rw [e]; exact n1)
/-- name = {}, keys that are tuples -/
theorem s_newT (i : Nat) (S : Sta B0 H0 env own σ H) (k : ∀ l σ' H', Sta B0 H0 (env.set i none) ((i, l, .dct []) :: own) σ' H' → WSs X rest D σ' H') (hN : X.N.Nodup) (hie : i < env.length := by decide) (ho : ∀ p ∈ own, p.1 ≠ i := by simp) (hi : X.N[i]? = some x := by rfl) {p2 : Pos}
    (hx : Loc X.env.scope x := by first | exact Or.inl rfl | exact Or.inr rfl) (hs : swapsWith (.Dict [] [] p2) (some (.Name x pos')) pos.line X.env = pure false := by rfl) (hf : X.fn x = true ∨ X.env.scope.names.lookup x = some .local := by first | exact .inl rfl | exact .inr rfl) : WSs X (.Assign [.Name x pos'] (.Dict [] [] p2) pos :: rest) D σ H := by
  obtain ⟨B, s, E, o⟩ := S
  refine wss (pss_cons (ps_set hN hi hx pe_dnewT hs hf) smSs) ?_
  exact fun p hp => k p _ _ (sta_own i s E o hp upd_same ho hie)
/-- an object of one's own is changed -/
theorem sta_upd {l : Addr} {u : HO} {i : Nat} {c c' : OC} {own1 own2 : Own} (s : Stp B0 H0 B H) (E : En σ B env) (o : OwnOk B0 H0 B H (own1 ++ (i, l, c) :: own2) σ) (hc : OC.at_ B (upd H l u) l c') : Sta B0 H0 env (own1 ++ (i, l, c') :: own2) σ (upd H l u) := by
  obtain ⟨h1, h2, h3, h4⟩ := o.all (i, l, c) (by simp)
  have nd := o.nd
  have hne : ∀ p ∈ own1 ++ own2, p.2.1 ≠ l := fun p hp e => by
    rw [List.map_append, List.map_cons] at nd
    have nd2 := (List.perm_middle (a := l) (l₁ := own1.map (·.2.1)) (l₂ := own2.map (·.2.1))).nodup_iff.mp nd
    obtain ⟨n1, _⟩ := List.nodup_cons.mp nd2
    refine n1 ?_
    rw [← List.map_append]
    exact List.mem_map.mpr ⟨p, hp, e⟩
  obtain ⟨u0, k1, k2, k3⟩ := OC.kind h4
  refine ⟨B, ⟨s.bb, Ex.mut s.bh h2, ExN.mut s.hh h3 k1 k2 k3, s.av⟩, E, fun p hp => ?_, ?_⟩
  · have hp' : p = (i, l, c') ∨ p ∈ own1 ++ own2 := by
      simp only [List.mem_append, List.mem_cons] at hp ⊢
      rcases hp with h | h | h
      · exact .inr (.inl h)
      · exact .inl h
      · exact .inr (.inr h)
    rcases hp' with rfl | hp'
    · exact ⟨h1, h2, h3, hc⟩
    · obtain ⟨a, b, c0, f⟩ := o.all p (by
        simp only [List.mem_append, List.mem_cons] at hp' ⊢
        rcases hp' with h | h
        · exact .inl h
        · exact .inr (.inr h))
      refine ⟨a, b, c0, ?_⟩
      have hn := hne p hp'
      obtain ⟨u1, f1, _, _, _, f2⟩ := OC.raw f
      exact f2 B _ (fun _ _ z => z) (by rw [upd_ne hn]; exact f1)
  · rw [List.map_append, List.map_cons] at nd ⊢
    exact nd
theorem tyL {K : PySem.W.Frag} {l : Addr} {xs : List V} (h : H l = some (.lst xs)) : tyV K "list" (.ref l) H := Or.inl ⟨rfl, _, SqL.of h⟩
/-- x.append(e) -/
theorem s_app {own1 own2 : Own} {i : Nat} {l : Addr} {apos : Pos} (hown : own = own1 ++ (i, l, .lst ds) :: own2) (S : Sta B0 H0 env own σ H) (h : EV X B0 H0 env own e d) (k : ∀ H', Sta B0 H0 env (own1 ++ (i, l, .lst (ds ++ [d])) :: own2) σ H' → WSs X rest D σ H') (hz : ds.length < 100000) (hN : X.N[i]? = some x := by rfl) (hi0 : i < 1000 := by decide)
    (hv : Vis X.env.scope x := by first | exact Or.inl rfl | exact Or.inr (Or.inl rfl) | exact Or.inr (Or.inr rfl)) (hd : (x == ("__debug__" : Str)) = false := by decide) (hcd : (x == ("__classdict__" : Str)) = false := by decide)
    (hbase : attributeBase (.Name x pos') "append" X.env (eval (.Name x pos') X.env) = eval (.Name x pos') X.env := by rfl) {cpos : Pos}
    (hfew : ((backTo cpos (starEach [e] X.env)).all (fun x => !x.1) && (backToKw cpos (keywordEach [] X.env)).all (fun x => x.1.isSome)
      && decide ([e].length + ([] : List Keyword).length + (if ([] : List Keyword).isEmpty then 0 else 1) < 30)) = true := by rfl)
    (hline : (apos.endLine == cpos.line) = true := by rfl) (hs : starEach [e] X.env = (false, eval e X.env) :: starEach [] X.env := by rfl)
    (hsw : swapsWith (.Call (.Attribute (.Name x pos') "append" apos) [e] [] cpos) none pos.line X.env = pure false := by rfl) : WSs X (.Expr (.Call (.Attribute (.Name x pos') "append" apos) [e] [] cpos) pos :: rest) D σ H := by
  subst hown
  obtain ⟨B, s, E, o⟩ := id S
  obtain ⟨h1, h2, h3, xs, h4, h5⟩ := o.all (i, l, .lst ds) (by simp)
  refine wss (pss_cons (ps_expr (pe_bm PySem.F.plainAttrs_list PySem.F.slot_list_append PySem.F.type_list_append mt_append (pe_var hN hv hd hcd) (pa_cons smE pa_nil hs) hbase hfew hline hs) hsw) smSs) ?_
  refine ⟨_, h1 hi0, tyL h4, ?_⟩
  refine h σ H S _ fun v H1 ⟨B1, s1, E1, o1, z1⟩ => ?_
  obtain ⟨g1, g2, g3, ys, g4, g5⟩ := o1.all (i, l, .lst ds) (by simp)
  refine ⟨l, ys, v, rfl, rfl, g4, szl (by rw [g5.length]; exact hz), k _ (sta_upd s1 E1 o1 ⟨ys ++ [v], upd_same, g5.append (.cons z1 .nil)⟩)⟩
/-- x.extend(a new list) -/
theorem s_ext {own1 own2 : Own} {i : Nat} {l : Addr} {apos : Pos} (hown : own = own1 ++ (i, l, .lst ds) :: own2) (S : Sta B0 H0 env own σ H) (h : PF X e env es) (k : ∀ H', Sta B0 H0 env (own1 ++ (i, l, .lst (ds ++ es)) :: own2) σ H' → WSs X rest D σ H') (hz : ds.length + es.length ≤ 100000) (hN : X.N[i]? = some x := by rfl) (hi0 : i < 1000 := by decide)
    (hv : Vis X.env.scope x := by first | exact Or.inl rfl | exact Or.inr (Or.inl rfl) | exact Or.inr (Or.inr rfl)) (hd : (x == ("__debug__" : Str)) = false := by decide) (hcd : (x == ("__classdict__" : Str)) = false := by decide)
    (hbase : attributeBase (.Name x pos') "extend" X.env (eval (.Name x pos') X.env) = eval (.Name x pos') X.env := by rfl) {cpos : Pos}
    (hfew : ((backTo cpos (starEach [e] X.env)).all (fun x => !x.1) && (backToKw cpos (keywordEach [] X.env)).all (fun x => x.1.isSome)
      && decide ([e].length + ([] : List Keyword).length + (if ([] : List Keyword).isEmpty then 0 else 1) < 30)) = true := by rfl)
    (hline : (apos.endLine == cpos.line) = true := by rfl) (hs : starEach [e] X.env = (false, eval e X.env) :: starEach [] X.env := by rfl)
    (hsw : swapsWith (.Call (.Attribute (.Name x pos') "extend" apos) [e] [] cpos) none pos.line X.env = pure false := by rfl) : WSs X (.Expr (.Call (.Attribute (.Name x pos') "extend" apos) [e] [] cpos) pos :: rest) D σ H := by
  subst hown
  obtain ⟨B, s, E, o⟩ := id S
  obtain ⟨h1, h2, h3, xs, h4, h5⟩ := o.all (i, l, .lst ds) (by simp)
  refine wss (pss_cons (ps_expr (pe_bm PySem.F.plainAttrs_list PySem.F.slot_list_extend PySem.F.type_list_extend mt_extend (pe_var hN hv hd hcd) (pa_cons smE pa_nil hs) hbase hfew hline hs) hsw) smSs) ?_
  refine ⟨_, h1 hi0, tyL h4, ?_⟩
  refine h σ B H E s.bh _ fun p zs B1 H1 n1 s1 z1 a1 => ?_
  have o1 := o.stp s1
  obtain ⟨g1, g2, g3, ys, g4, g5⟩ := o1.all (i, l, .lst ds) (by simp)
  exact ⟨l, p, ys, zs, rfl, rfl, g4, s1.bh _ _ z1, sz (by rw [g5.length, a1.length]; exact hz), k _ (sta_upd (s.trans s1) (E.ex s1.bb) o1 ⟨ys ++ zs, upd_same, g5.append a1⟩)⟩
/-- x[j] = e, x a list of one's own -/
theorem s_seti {own1 own2 : Own} {i j : Nat} {l : Addr} {b : Expr} {p1 : Pos} (hown : own = own1 ++ (i, l, .lst ds) :: own2) (S : Sta B0 H0 env own σ H) (h : EV X B0 H0 env own e d) (hj : PD X b env (.int (j : Int))) (hl : j < ds.length)
    (k : ∀ H', Sta B0 H0 env (own1 ++ (i, l, .lst (ds.set j d)) :: own2) σ H' → WSs X rest D σ H') (hN : X.N[i]? = some x := by rfl) (hi0 : i < 1000 := by decide)
    (hv : Vis X.env.scope x := by first | exact Or.inl rfl | exact Or.inr (Or.inl rfl) | exact Or.inr (Or.inr rfl)) (hd : (x == ("__debug__" : Str)) = false := by decide) (hcd : (x == ("__classdict__" : Str)) = false := by decide)
    (ha : ∀ v, assign (.Subscript (.Name x pos') b p1) X.env v = (do
      let ov ← holding [v] (eval (.Name x pos') X.env)
      let iv ← holding [v, ov] (eval b X.env)
      standAt p1
      holding [v, ov, iv] (setItem ov iv v)
      release [v, ov, iv] []) := by intro _; rfl)
    (hs : swapsWithSole [.Subscript (.Name x pos') b p1] e pos.line X.env = pure false := by rfl) (hw : swappedStores [.Subscript (.Name x pos') b p1] e X.env = pure none := by rfl)
    (ht : (assignEach [.Subscript (.Name x pos') b p1] X.env).map (·.2) = [assign (.Subscript (.Name x pos') b p1) X.env] := by rfl) : WSs X (.Assign [.Subscript (.Name x pos') b p1] e pos :: rest) D σ H := by
  subst hown
  refine wss (pss_cons (ps_asg smE (pg_sub (pe_var hN hv hd hcd) smE set_list ha) hs hw ht) smSs) ?_
  refine h σ H S _ fun v H1 ⟨B1, s1, E1, o1, z1⟩ => ?_
  obtain ⟨h1, _⟩ := o1.all (i, l, .lst ds) (by simp)
  refine ⟨_, h1 hi0, ?_⟩
  refine hj σ B1 H1 E1 s1.bh _ fun w B2 H2 s2 z2 => ?_
  have o2 := o1.stp s2
  obtain ⟨g1, g2, g3, ys, g4, g5⟩ := o2.all (i, l, .lst ds) (by simp)
  refine ⟨l, ys, (j : Int), j, rfl, z2.int_inv, g4, ?_, k _ (sta_upd (s1.trans s2) (E1.ex s2.bb) o2 ⟨ys.set j v, upd_same, g5.set (z1.ex s2.bb) j⟩)⟩
  unfold ixN
  rw [g5.length, if_pos (by omega), if_pos (by omega), Int.toNat_natCast]
/-- t[k] = True, t a table of one's own -/
theorem s_putT {own1 own2 : Own} {i n m : Nat} {l : Addr} {b : Expr} {p1 : Pos} {t : Tbl} {w : Bool} (hown : own = own1 ++ (i, l, .dct t) :: own2) (S : Sta B0 H0 env own σ H) (hu : X.A.units + 1 < cLine) (h : PD X e env (.bool w)) (hj : PD X b env (.tuple [.int (n : Int), .int (m : Int)])) (hz : t.length < 100000)
    (k : ∀ H', Sta B0 H0 env (own1 ++ (i, l, .dct (putT t n m w)) :: own2) σ H' → WSs X rest D σ H') (hN : X.N[i]? = some x := by rfl) (hi0 : i < 1000 := by decide)
    (hv : Vis X.env.scope x := by first | exact Or.inl rfl | exact Or.inr (Or.inl rfl) | exact Or.inr (Or.inr rfl)) (hd : (x == ("__debug__" : Str)) = false := by decide) (hcd : (x == ("__classdict__" : Str)) = false := by decide)
    (hs : swapsWith e (some (.Subscript (.Name x pos') b p1)) pos.line X.env = pure false := by rfl) : WSs X (.Assign [.Subscript (.Name x pos') b p1] e pos :: rest) D σ H := by
  subst hown
  obtain ⟨B, s, E, o⟩ := S
  refine wss (pss_cons (ps_dput hu (pe_var hN hv hd hcd) smE smE hs) smSs) ?_
  refine h σ B H E s.bh _ fun v B1 H1 s1 z1 => ?_
  obtain ⟨h1, _⟩ := o.all (i, l, .dct t) (by simp)
  refine ⟨_, h1 hi0, ?_⟩
  refine hj σ B1 H1 (E.ex s1.bb) s1.bh _ fun y B2 H2 s2 z2 => ?_
  have o2 := (o.stp s1).stp s2
  obtain ⟨_, _, _, g4⟩ := o2.all (i, l, .dct t) (by simp)
  have g4 : H2 l = some (.dT (kvT t)) := g4
  obtain ⟨q, rfl, g5⟩ := key_of_dz z2
  refine ⟨l, _, rfl, DPut.t (k := kyT n m) g4 (s2.bh _ _ g5) (szl (by simp only [kvT, List.length_map]; exact hz)), ?_⟩
  rw [z1.bl_inv, put_kvT]
  exact k _ (sta_upd ((s.trans s1).trans s2) ((E.ex s1.bb).ex s2.bb) o2 upd_same)
/-- name = [e for ..] -/
theorem s_setC {α : Type} (i : Nat) {elt tg iter : Expr} {ifs : List Expr} {scope : Scope} {cown : List (Str × Nat)} {items : List α} {enc : α → PyData} {cond : α → Bool} {f : α → PyData} {cpos : Pos} (S : Sta B0 H0 env own σ H) (ok : BlkOk X.N X.env.scope scope cown)
    (L : Lc X elt tg iter ifs scope cown env items enc cond f) (k : ∀ σ' H', Sta B0 H0 (env.set i (some (.list ((items.filter cond).map f)))) own σ' H' → WSs X rest D σ' H') (hc : X.calm = true) (hN : X.N.Nodup)
    (hsw : swapsWith (.ListComp elt [⟨tg, iter, ifs, 0⟩] scope cpos) (some (.Name x pos')) pos.line X.env = pure true) (ho : ∀ p ∈ own, p.1 ≠ i := by simp) (hi : X.N[i]? = some x := by rfl) (hx : X.env.scope.names.lookup x = some .local := by rfl)
    (hs : ∀ x, foldedSetIterable iter X.env x = pure x := by intro _; rfl) : WSs X (.Assign [.Name x pos'] (.ListComp elt [⟨tg, iter, ifs, 0⟩] scope cpos) pos :: rest) D σ H := by
  obtain ⟨B, s, E, o⟩ := S
  refine wss (pss_cons (ps_setLc hc hN hi hx hsw smI ok smgB smtB smeB hs) smSs) ?_
  exact lc_read (Q := fun v H1 => WSs X rest D (σ.set i (some v)) H1) L E s.bh fun p xs B1 H1 n1 s1 z1 a1 => k _ _ (StaV.set i ⟨B1, s.trans s1, E.ex s1.bb, o.stp s1, .lst z1 a1⟩ ho)
/-- in a loop what is walked is known for good -/
theorem stp_base {H1 : Hp} (s : Stp B0 H0 B1 H1) {B' H' : Hp} (t : Stp B1 H0 B' H') : Stp B0 H0 B' H' := ⟨s.bb.trans t.bb, t.bh, t.hh, fun a h n => t.av a h (s.av a h n)⟩
theorem stp_to (s : Stp B0 H0 B H) (e : Ex B0 B1) (b : Ex B1 B) : Stp B1 H0 B H := ⟨b, s.bh, s.hh, fun a h n => s.av a h (ex_none e n)⟩
/-- for: the slots' data and what is one's own by the turn -/
theorem s_forG {α : Type} {tg iter : Expr} {body : List Stmt} (items : List α) (enc : α → PyData) (ev : Nat → Ev) (ow : Nat → Own) (nv : Nat → α → Ev) (js : List Nat) (Pf : Nat → Prop) (S : Sta B0 H0 env own σ H) (hi : ∀ B, Stp B0 H0 B H → En σ B env → ∀ R : It → Hp → Prop, (∀ J B1 H1, Stp B H B1 H1 → Wk J (items.map enc) B1 → R J H1) → WI X tg iter σ H R) (p0 : Pf 0)
    (h0 : ∀ B1 H', Sta B1 H0 env own σ H' → Sta B1 H0 (ev 0) (ow 0) σ H') (hg : ∀ k a, items[k]? = some a → PGt X tg (ev k) (enc a) (nv k a) js) (hj : ∀ k, ∀ p ∈ ow k, p.1 ∉ js)
    (hb : ∀ B1, (∀ B' H', Stp B1 H0 B' H' → Stp B0 H0 B' H') → ∀ k a σ H, items[k]? = some a → Pf k → Sta B1 H0 (nv k a) (ow k) σ H →
      WSs X body { D with nx := fun σ' H' => Sta B1 H0 (ev (k + 1)) (ow (k + 1)) σ' H' ∧ Pf (k + 1), ct := fun σ' H' => Sta B1 H0 (ev (k + 1)) (ow (k + 1)) σ' H' ∧ Pf (k + 1), bk := WSs X rest D } σ H)
    (hd : ∀ σ H, Sta B0 H0 (ev items.length) (ow items.length) σ H → Pf items.length → WSs X rest D σ H) (hp : PassesOwn (model X.prog X.w) X.A X.env X.xe) (hc : X.calm = true) (hs : ∀ x, foldedSetIterable iter X.env x = pure x := by intro _; rfl) : WSs X (.For tg iter body [] pos :: rest) D σ H := by
  obtain ⟨B, s, E, o⟩ := S
  refine wss (pss_cons (ps_for hp hc smI smG smSs hs) smSs) ?_
  refine hi B s E _ fun J B1 H1 s1 w => ?_
  have hlen : (items.map enc).length = items.length := by rw [List.length_map]
  have st := s.trans s1
  have S0 : Sta B1 H0 (ev 0) (ow 0) σ H1 := h0 B1 H1 ⟨B1, stp_to st st.bb (Ex.refl _), E.ex s1.bb, (o.stp s1).all, o.nd⟩
  refine ⟨fun i m σ' H' => m = items.length - i ∧ i ≤ items.length ∧ Pf i ∧ Sta B1 H0 (ev i) (ow i) σ' H', ⟨items.length, by simp, Nat.zero_le _, p0, S0⟩, ?_⟩
  rintro i m σ' H' ⟨rfl, him, pf, B', s', E', o'⟩
  by_cases hlt : i < items.length
  · refine .inr ⟨w.go i H' (by rw [hlen]; exact hlt) (s'.bb.trans s'.bh), fun σ2 H2 => Sta B1 H0 (ev (i + 1)) (ow (i + 1)) σ2 H2 ∧ Pf (i + 1), fun σ2 H2 h2 => ⟨items.length - (i + 1), by omega, rfl, hlt, h2.2, h2.1⟩, fun x H2 y => ?_⟩
    obtain ⟨dd, B2, e1, st2, z2⟩ := w.yld i B' H' x H2 (by rw [hlen]; exact hlt) s'.bb s'.bh y
    have hgt : items[i]? = some items[i] := List.getElem?_eq_getElem hlt
    rw [List.getElem?_map, hgt] at e1
    have e2 : enc items[i] = dd := Option.some.inj e1
    subst e2
    refine hg i _ hgt σ' B2 H2 x (E'.ex st2.bb) st2.bh z2 _ fun σ2 E2 l2 k2 => ?_
    have o2 : OwnOk B1 H0 B2 H2 (ow i) σ2 := (o'.stp st2).slots fun p hp => k2 p.1 (hj i p hp)
    exact hb B1 (fun B' H' t => stp_base st t) i _ σ2 H2 hgt pf ⟨B2, s'.trans st2, E2, o2⟩
  · have e : i = items.length := by omega
    subst e
    refine .inl ⟨?_, hd σ' H' ⟨B', stp_base st s', E', o'.all, o'.nd⟩ pf⟩
    have h := w.stop H' (s'.bb.trans s'.bh)
    rw [hlen] at h
    exact h
theorem s_for {α : Type} {tg iter : Expr} {body : List Stmt} (items : List α) (enc : α → PyData) (ev : Nat → Ev) (ow : Nat → Own) (nv : Nat → α → Ev) (js : List Nat) (Pf : Nat → Prop) (S : Sta B0 H0 env own σ H) (hi : WIt X tg iter env (items.map enc)) (p0 : Pf 0)
    (h0 : ∀ B1 H', Sta B1 H0 env own σ H' → Sta B1 H0 (ev 0) (ow 0) σ H') (hg : ∀ k a, items[k]? = some a → PGt X tg (ev k) (enc a) (nv k a) js) (hj : ∀ k, ∀ p ∈ ow k, p.1 ∉ js)
    (hb : ∀ B1, (∀ B' H', Stp B1 H0 B' H' → Stp B0 H0 B' H') → ∀ k a σ H, items[k]? = some a → Pf k → Sta B1 H0 (nv k a) (ow k) σ H →
      WSs X body { D with nx := fun σ' H' => Sta B1 H0 (ev (k + 1)) (ow (k + 1)) σ' H' ∧ Pf (k + 1), ct := fun σ' H' => Sta B1 H0 (ev (k + 1)) (ow (k + 1)) σ' H' ∧ Pf (k + 1), bk := WSs X rest D } σ H)
    (hd : ∀ σ H, Sta B0 H0 (ev items.length) (ow items.length) σ H → Pf items.length → WSs X rest D σ H) (hp : PassesOwn (model X.prog X.w) X.A X.env X.xe) (hc : X.calm = true) (hs : ∀ x, foldedSetIterable iter X.env x = pure x := by intro _; rfl) : WSs X (.For tg iter body [] pos :: rest) D σ H :=
  s_forG items enc ev ow nv js Pf S (fun B s E R q => hi σ B H E s.bh R q) p0 h0 hg hj hb hd hp hc hs
end
/-! ### a def by its body -/
section
variable {P : Program} {w : World} {K : PySem.W.Frag} {mg : Str → Option Value} {base : Heap}
/-- what a def's context is like -/
structure CxF (P : Program) (w : World) (K : PySem.W.Frag) (mg : Str → Option Value) (base : Heap) (N : List Str) (qual : Str) (scope : Scope) (k : Nat) (X : Cx) : Prop where
  at_ : ∃ f cdv A outer s H E, X = (cxOf CX0 P w K mg base N qual scope f cdv A outer s H E).nox ∧ Room k X.A
def env0 (N : List Str) (ds : List PyData) : Ev := ds.map some ++ List.replicate (N.length - ds.length) none
theorem fn_F {x : Str} {params : Arguments} {body : List Stmt} {scope : Scope} {N ps : List Str} {k : Nat} {R : List PyData → PyData → Prop} {f : Addr} {fd : FuncData} (F : FunD K x x params body scope [] [] f fd) (S : FnScope N ps scope) (hmg : mg x = some (.ref f))
    (hb : ∀ (kV doc pm : Value) (an : Option Addr) (cdv ct : Value) (us : List Value), us.length = ps.length → bindArgs (PySem.W.fnOf x x params body scope .none kV doc pm an cdv ct) ⟨us, []⟩ = pure (ps.zip us))
    (hl : ∀ ds d, R ds d → ds.length = ps.length) (hN : ps.length ≤ N.length)
    (h : ∀ (cdv : Value) (A : Around) (outer : List Env) (s : Shared) (H0 : Hp) (E : XK) (B0 : Hp) (ds : List PyData) (d : PyData) (vs : List V) (Q : VK), Room k (A.deeper (PyProof.Rows.envOfC x scope s.heap.objs.size f cdv)) → R ds d → Sta B0 H0 (env0 N ds) [] (L2.start N vs) H0 → (∀ v B1 H1, Stp B0 H0 B1 H1 → Dz B1 v d → Q v H1) →
      WSs (cxOf CX0 P w K mg base N x scope f cdv A outer s H0 E).nox body { nx := fun _ H' => Q .non H', rt := Q } (L2.start N vs) H0) : Kn P w K mg base x (k + 1) ps (spF R) := by
  refine ⟨f, fd, F.ok S (fun vs H Q E h => ?_) (fun cdv A outer s H vs Q E hr h' => ?_), hmg, F.kp, F.bindsN hb⟩
  · obtain ⟨B, ds, d, eb, ha, r, _⟩ := h
    rw [ha.length, hl ds d r]
  · obtain ⟨B, ds, d, eb, ha, r, q⟩ := h'
    refine ⟨_, PSs.nox smSs, h cdv A outer s H E B ds d vs Q hr r ⟨B, .refl eb, en_start ha ?_, ⟨fun p hp => (nomatch hp), List.nodup_nil⟩⟩ q⟩
    rw [ha.length, hl ds d r]
    exact hN
theorem fn_L {x : Str} {params : Arguments} {body : List Stmt} {scope : Scope} {N ps : List Str} {k : Nat} {R : List PyData → List PyData → Prop} {f : Addr} {fd : FuncData} (F : FunD K x x params body scope [] [] f fd) (S : FnScope N ps scope) (hmg : mg x = some (.ref f))
    (hb : ∀ (kV doc pm : Value) (an : Option Addr) (cdv ct : Value) (us : List Value), us.length = ps.length → bindArgs (PySem.W.fnOf x x params body scope .none kV doc pm an cdv ct) ⟨us, []⟩ = pure (ps.zip us))
    (hl : ∀ ds d, R ds d → ds.length = ps.length) (hN : ps.length ≤ N.length)
    (h : ∀ (cdv : Value) (A : Around) (outer : List Env) (s : Shared) (H0 : Hp) (E : XK) (B0 : Hp) (ds es : List PyData) (vs : List V) (Q : VK), Room k (A.deeper (PyProof.Rows.envOfC x scope s.heap.objs.size f cdv)) → R ds es → Sta B0 H0 (env0 N ds) [] (L2.start N vs) H0 → (∀ p xs B1 H1, H0 p = none → Stp B0 H0 B1 H1 → B1 p = some (.lst xs) → DzAll B1 xs es → Q (.ref p) H1) →
      WSs (cxOf CX0 P w K mg base N x scope f cdv A outer s H0 E).nox body { nx := fun _ H' => Q .non H', rt := Q } (L2.start N vs) H0) : Kn P w K mg base x (k + 1) ps (spL R) := by
  refine ⟨f, fd, F.ok S (fun vs H Q E h => ?_) (fun cdv A outer s H vs Q E hr h' => ?_), hmg, F.kp, F.bindsN hb⟩
  · obtain ⟨B, ds, d, eb, ha, r, _⟩ := h
    rw [ha.length, hl ds d r]
  · obtain ⟨B, ds, d, eb, ha, r, q⟩ := h'
    refine ⟨_, PSs.nox smSs, h cdv A outer s H E B ds d vs Q hr r ⟨B, .refl eb, en_start ha ?_, ⟨fun p hp => (nomatch hp), List.nodup_nil⟩⟩ q⟩
    rw [ha.length, hl ds d r]
    exact hN
end
end JH
set_option Elab.async false
set_option linter.all false
set_option maxRecDepth 100000
set_option maxHeartbeats 4000000
/-! enumerate over a tuple -/
namespace JH
open PySem PySem.Spec L2 PyProof.Rows
open Evl (Ex)
theorem enumT_new (p : Addr) (its : Array Value) : Meets (Builtin.«enumerate.__new__» ⟨[.type "enumerate", .ref p], []⟩) (fun _ R s => s.heap.IsTuple p its ∧
    R (.ok (.ret (.ref (s.heap.push { cls := .type "tuple_iterator", data := .fields #[.ref p, .int 0 0] }).objs.size)))
      { s with heap := (s.heap.push { cls := .type "tuple_iterator", data := .fields #[.ref p, .int 0 0] }).push { cls := .type "enumerate", data := .fields #[.none, .bool false, .ref s.heap.objs.size, rawInt 0, .none, .none] } }) :=
  .of_wp fun prog w A R st hyp => by
    obtain ⟨hp, gn, dr, tk, os⟩ := st
    obtain ⟨h1, hyp⟩ := hyp
    have hsub := sub_enumerate
    have q1 : ∀ {A2 : Around} {E2 : Value → Shared → Prop} {Q2 : Value → Shared → Prop}, Q2 (.ref hp.objs.size) ⟨hp.push { cls := .type "tuple_iterator", data := .fields #[.ref p, .int 0 0] }, gn, dr, tk, os⟩ →
        wpAny (model prog w) A2 (pyIter (.ref p)) Q2 E2 ⟨hp, gn, dr, tk, os⟩ := fun z => (begins_tuple p its).iter prog w _ _ ⟨hp, gn, dr, tk, os⟩ _ h1 z
    wp_walk using q1
    refine wpAny_stack_any fun sk => wpAny_pure ?_
    split
    · rename_i c _ _ _ _ _
      cases (c == Value.type "enumerate") <;> (wp_walk using q1; exact ⟨_, rfl, hyp⟩)
    · (wp_walk using q1; exact ⟨_, rfl, hyp⟩)
theorem call_enumT {prog : Program} {w : World} {A : Around} {E : Value → Shared → Prop} {s : Shared} {p : Addr} {its : Array Value} {Q : Value → Shared → Prop} (hL : s.heap.IsTuple p its)
    (h : ∀ h', IsEnum h' (s.heap.objs.size + 1) s.heap.objs.size 0 .none → h'.IsTupleIter s.heap.objs.size p 0 → (∀ b o, s.heap.get? b = some o → h'.get? b = some o) → Q (.ref (s.heap.objs.size + 1)) { s with heap := h' }) :
    wpAny (model prog w) A (call (.type "enumerate") [.ref p]) Q E s := by
  refine callType_new F.called_enumerate (by decide) (F.typeCall_enumerate_1 _) (F.newCall_enumerate_1 _) (fun obj => F.args_object_init_2 obj _) F.entry_enumerate_new (enumT_new p its) ⟨hL, ?_⟩
  have hz : (s.heap.push { cls := .type "tuple_iterator", data := .fields #[.ref p, .int 0 0] }).objs.size = s.heap.objs.size + 1 := Heap.size_push ..
  show _ ∧ _
  rw [hz]
  have he : IsEnum ((s.heap.push { cls := .type "tuple_iterator", data := .fields #[.ref p, .int 0 0] }).push { cls := .type "enumerate", data := .fields #[.none, .bool false, .ref s.heap.objs.size, rawInt 0, .none, .none] }) (s.heap.objs.size + 1) s.heap.objs.size 0 .none := by
    have z := Heap.get?_push_size (s.heap.push { cls := .type "tuple_iterator", data := .fields #[.ref p, .int 0 0] }) (o := { cls := .type "enumerate", data := .fields #[.none, .bool false, .ref s.heap.objs.size, rawInt 0, .none, .none] }) rfl
    rw [hz] at z
    exact z
  exact ⟨⟨_, he, rfl⟩, h _ he ⟨_, Heap.get?_push_of_some _ (Heap.get?_push_size _ rfl), rfl, rfl⟩ fun b o x => Heap.get?_push_of_some _ (Heap.get?_push_of_some _ x)⟩
/-- the tuple at a, each item in a new pair -/
def ItT (K : PySem.W.Frag) (a : Addr) : It :=
  ⟨fun i H => ∃ (xs : List V) (x : V), SqT K H a xs ∧ xs[i]? = some x, fun i H v H' => ∃ T x, v = .ref T ∧ H T = none ∧ H' = upd H T (.tup [.int (i : Nat), x]) ∧ ∀ xs, SqT K H a xs → xs[i]? = some x, fun i H => ∃ xs : List V, SqT K H a xs ∧ xs.length = i⟩
theorem turn_enT {P : Program} {w : World} {K : PySem.W.Frag} {elts : List Expr} {kk : Nat} {tpos : Pos} (a e it : Addr) :
    Turn P w K (.Tuple elts kk tpos) (ItT K a) [e, it] e (fun i h => (∃ old, IsEnum h e it ((i : Nat) : Int) old) ∧ h.IsTupleIter it a i ∧ e ≠ it) where
  mem := List.mem_cons_self
  obj := by
    rintro i h ⟨⟨old, he⟩, ⟨o, ho, hc, hd⟩, _⟩ b hb
    rcases (by simpa using hb : b = e ∨ b = it) with rfl | rfl
    · exact ⟨_, he, fun v q => nomatch q⟩
    · exact ⟨o, ho, fun v q => by rw [hd] at q; cases q⟩
  keep := by
    rintro i h h' ⟨⟨old, he⟩, hi, hne⟩ k
    exact ⟨⟨old, k e (by simp) _ he⟩, hi.at fun o q => k it (by simp) o q, hne⟩
  item := by
    intro X hP hw hK hc i pins s σ H E I hf st hg
    subst hP hw hK
    obtain ⟨⟨old, he⟩, hit, hne⟩ := st
    obtain ⟨xs, x, hq, hx⟩ := hg
    obtain ⟨its, rv, tp, hz⟩ := I.tuple hq
    obtain ⟨u, hu, ru⟩ := rv.get hx
    have ht : s.heap.IsTuple a its.toArray := tp
    have hel : e < s.heap.objs.size := Heap.lt_size he
    have hil : it < s.heap.objs.size := by obtain ⟨_, q, _⟩ := hit; exact Heap.lt_size q
    have hal : a ≠ it := fun z => by
      obtain ⟨o1, e1, c1, d1⟩ := hit
      obtain ⟨o2, e2, c2, n2, d2⟩ := tp
      rw [z, e1] at e2
      cases e2
      rw [c1] at c2
      exact absurd (Value.type.inj c2) (by decide)
    have hi : i < its.toArray.size := by
      have h1 := (List.getElem?_eq_some_iff.mp hu).1
      simpa using h1
    refine wpAny_pyNext_enum_itemD (St := fun i h => h.IsTupleIter it a i ∧ h.IsTuple a its.toArray) (Draws.tuple (A := X.A.in1) (I.ok.hd hc) it a hal its.toArray) he ⟨hit, ht⟩ hi hne (by
      intro hm
      rcases (by simpa using hm : e = it ∨ e = a) with z | z
      · exact hne z
      · obtain ⟨o2, e2, c2, n2, d2⟩ := tp
        rw [← z, show s.heap.get? e = _ from he] at e2
        cases e2
        exact absurd (Value.type.inj c2) (by decide)) fun y h' tk hy ho hst' hT hsz hk => ?_
    have ey : y = u := by
      have h1 : its.toArray[i]? = some u := by simpa using hu
      rw [h1] at hy
      exact (Option.some.inj hy).symm
    subst ey
    refine ⟨_, rfl, wpAny_letOwnedTupleGo_enum (s := { s with heap := h', toks := tk + 1 }) ho fun h'' he' sb => ?_⟩
    have hT2 : h''.get? s.heap.objs.size = some { cls := .type "tuple", data := .seq #[.int i tk, y] } := (sb.2 _ (Nat.ne_of_gt hel)).trans hT
    have nw : ObjOk X.prog X.w (upd H s.heap.objs.size (.tup [.int (i : Nat), x])) h'' s.heap.objs.size (.tup [.int (i : Nat), x]) := ⟨by show 2 ≤ sizeLine; decide, [.int i tk, y], .cons ⟨_, rfl⟩ (.cons ru .nil), ⟨_, hT2, rfl, _, rfl⟩⟩
    have I1 : L2.Inv X pins σ (upd H s.heap.objs.size (.tup [.int (i : Nat), x])) { s with heap := h'', toks := tk + 1 } :=
      I.turnedNew (ch := [e, it]) (fun b ob hb q => (sb.2 b (fun z => hb (by simp [z]))).trans (hk b ob (fun z => hb (by simp [z])) (fun z => hb (by simp [z])) q)) hf (Nat.le_refl _) nw
    refine ⟨.ref s.heap.objs.size, _, I1, rfl, ⟨_, x, rfl, I.hok.fresh (Nat.le_refl _), rfl, fun ys hy => by rw [I.tuple_inj hy hq]; exact hx⟩, ⟨⟨y, ?_⟩, hst'.1.at fun o q => (sb.2 it (Ne.symm hne)).trans q, hne⟩, fun b hb => ?_⟩
    · rw [show ((i + 1 : Nat) : Int) = (i : Int) + 1 by omega]
      exact he'
    · have hb' : b < s.heap.objs.size := by
        rcases (by simpa using hb : b = e ∨ b = it) with z | z
        · rw [z]; exact hel
        · rw [z]; exact hil
      rw [upd_ne (Nat.ne_of_lt hb')]
      exact (hf b hb).1
  done := by
    intro X hP hw hK hc i pins s σ H E I hf st hg
    subst hP hw hK
    obtain ⟨⟨old, he⟩, hit, hne⟩ := st
    obtain ⟨xs, hq, hx⟩ := hg
    obtain ⟨its, rv, tp, hz⟩ := I.tuple hq
    obtain ⟨f0, f1, f2, f3, f4, f5⟩ := hf it (by simp)
    have hal : a ≠ it := fun z => by
      obtain ⟨o1, e1, c1, d1⟩ := hit
      obtain ⟨o2, e2, c2, n2, d2⟩ := tp
      rw [z, e1] at e2
      cases e2
      rw [c1] at c2
      exact absurd (Value.type.inj c2) (by decide)
    have hn : its.toArray.size = i := by
      have h1 := rv.length
      simp
      omega
    exact wpAny_pyNext_enum_endD (St := fun i h => h.IsTupleIter it a i ∧ h.IsTuple a its.toArray) (Draws.tuple (A := X.A.in1) (I.ok.hd hc) it a hal its.toArray) he (by rw [hn]; exact ⟨hit, tp⟩) fun h' eb => ⟨rfl, I.turned (t' := s.toks) (fun b o hb q => eb b o hb q) f0 f1 f3 f4 f5⟩
  self := by
    rintro A i s Q E ⟨⟨_, he⟩, _⟩ h
    exact wpAny_pyIter_enum he h
def iEnT (K : PySem.W.Frag) (ta : TA) : TI := fun σ H R => ta σ H fun vs H1 => ∃ a xs, vs = [.ref a] ∧ SqT K H1 a xs ∧ R (ItT K a) H1
theorem pi_enT {X : Cx} {e : Expr} {ta : TA} {p pos tpos : Pos} {elts : List Expr} {kk : Nat} (hg : Gl X "enumerate") (hm : X.mg "enumerate" = none) (ha : PA X [e] ta) (hs : starEach [e] X.env = [(false, eval e X.env)] := by rfl) :
    PI X (.Tuple elts kk tpos) (.Call (.Name "enumerate" p) [e] [] pos) (iEnT X.K ta) := by
  constructor
  intro pins s σ H R I h
  refine Call_ (ld_blt I hg hm boot_enumerate (PyProof.Rows.callWith_type1 (thn (ha.run pos pins s σ H _ I h) fun us s1 z => ?_) hs rfl))
  obtain ⟨vs, H1, I1, r1, a, xs, rfl, hq, q⟩ := z
  cases r1 with
  | cons r rr =>
    cases rr
    cases r
    obtain ⟨its, rv, tp, hz⟩ := I1.tuple hq
    refine call_enumT (its := its.toArray) tp fun h' he hit hk => wpAny_pyIter_enum he ?_
    have I2 : L2.Inv X pins σ H1 { s1 with heap := h' } := I1.kept (t' := s1.toks) hk
    refine ⟨s1.heap.objs.size + 1, [s1.heap.objs.size + 1, s1.heap.objs.size], _, _, H1, rfl, I2, turn_enT a (s1.heap.objs.size + 1) s1.heap.objs.size, ⟨⟨.none, he⟩, hit, Nat.succ_ne_self _⟩, fun b hb => ?_, q⟩
    have hle : s1.heap.objs.size ≤ b := by
      rcases (by simpa using hb : b = s1.heap.objs.size + 1 ∨ b = s1.heap.objs.size) with z | z
      · rw [z]; exact Nat.le_add_right _ _
      · rw [z]; exact Nat.le_refl _
    exact I1.fpOk hle (I1.hok.fresh hle)
theorem wk_enT {K : PySem.W.Frag} {a : Addr} {xs : List V} {ds : List PyData} {G : Hp} (h : G a = some (.tup xs)) (hd : DzAll G xs ds) : Wk (ItT K a) (enumD ds) G where
  go := fun i H hi e => by
    rw [enumD_len] at hi
    exact ⟨xs, xs[i]'(by rw [hd.length]; exact hi), SqT.of (e _ _ h), by simp [hd.length, hi]⟩
  stop := fun H e => ⟨xs, SqT.of (e _ _ h), by rw [hd.length, enumD_len]⟩
  yld := fun i B H x H' hi e eb y => by
    obtain ⟨T, v, rfl, nT, rfl, y⟩ := y
    obtain ⟨d, h1, h2⟩ := hd.getV (y xs (SqT.of (eb _ _ (e _ _ h))))
    exact ⟨_, _, enumD_get h1, .new eb nT, .tup upd_same (.cons (.int _) (.cons ((h2.ex e).ex (Evl.Ex.new (ex_none eb nT))) .nil))⟩
theorem wi_enT {X : Cx} {env : Ev} {a : Expr} {ds : List PyData} {pos p tpos : Pos} {elts : List Expr} {kk : Nat} (h : PD X a env (.tuple ds)) (hm : X.mg "enumerate" = none) (hg : Gl X "enumerate" := by rfl) (hs : starEach [a] X.env = [(false, eval a X.env)] := by rfl) :
    WIt X (.Tuple elts kk tpos) (.Call (.Name "enumerate" p) [a] [] pos) env (enumD ds) := fun σ B H E eb R q => by
  refine wi (pi_enT hg hm (pa_cons smE pa_nil hs) hs) ?_
  refine h σ B H E eb _ fun v B1 H1 s1 z1 => ?_
  obtain ⟨p, xs, rfl, h1, h2⟩ := z1.tup_inv
  exact ⟨p, xs, rfl, SqT.of (s1.bh _ _ h1), q _ B1 H1 s1 (wk_enT h1 h2)⟩
end JH
set_option Elab.async false
set_option linter.all false
set_option maxRecDepth 100000
set_option maxHeartbeats 4000000
/-! more statements, short words -/
namespace JH
open PySem PySem.Spec L2
section
variable {X : Cx} {B0 H0 B H H1 B1 : Hp} {env env' : Ev} {own own' : Own} {σ σ' : L2.St} {d d1 d2 d3 d4 : PyData} {ds es : List PyData} {e tg iter : Expr} {rest : List Stmt} {D : Ends} {pos pos' : Pos} {x : Str} {v : V}
theorem WIt.to (h : WIt X tg iter env ds) (q : ds = es) : WIt X tg iter env es := q ▸ h
theorem PF.to {e : Expr} (h : PF X e env ds) (q : ds = es) : PF X e env es := q ▸ h
theorem enumD_map {α : Type} (f : α → PyData) (l : List α) : enumD (l.map f) = l.zipIdx.map fun p => .tuple [.int (p.2 : Int), f p.1] := by
  apply List.ext_getElem?
  intro i
  simp [enumD]
  cases l[i]? <;> rfl
theorem s_end {Q : VK} (S : Sta B0 H0 env own σ H) (hQ : ∀ v B1 H1, Stp B0 H0 B1 H1 → Dz B1 v .none → Q v H1) {bk ct : L2.St → Hp → Prop} : WSs X [] { nx := fun _ H' => Q .non H', rt := Q, bk := bk, ct := ct } σ H := by
  obtain ⟨B, s, _, _⟩ := S
  exact s_nil (hQ .non B H s .non)
/-- a target of several names, any value -/
theorem s_asg {js : List Nat} (S : Sta B0 H0 env own σ H) (h : EV X B0 H0 env own e d) (hg : PGt X tg env d env' js) (k : ∀ σ' H', Sta B0 H0 env' own σ' H' → WSs X rest D σ' H') (hj : ∀ p ∈ own, p.1 ∉ js := by simp)
    (hs : swapsWithSole [tg] e pos.line X.env = pure false := by rfl) (hw : swappedStores [tg] e X.env = pure none := by rfl) (h1 : (assignEach [tg] X.env).map (·.2) = [assign tg X.env] := by rfl) : WSs X (.Assign [tg] e pos :: rest) D σ H := by
  refine wss (pss_cons (ps_asg smE smG hs hw h1) smSs) ?_
  refine h σ H S _ fun v H1 ⟨B, s, E, o, z⟩ => ?_
  exact hg σ B H1 v E s.bh z _ fun σ' E' l k' => k σ' H1 ⟨B, s, E', o.slots fun p hp => k' p.1 (hj p hp)⟩
end
/-! short words for places -/
theorem Stp.of_sta {B0 H0 H : Hp} {env : Ev} {own : Own} {σ : L2.St} (S : Sta B0 H0 env own σ H) : ∃ B, Stp B0 H0 B H := let ⟨B, s, _⟩ := S; ⟨B, s⟩
end JH
set_option Elab.async false
set_option linter.all false
set_option maxRecDepth 100000
set_option maxHeartbeats 4000000
/-! each def of the text: its names by slot, its scope, how it binds, where it stands; the constants -/
namespace JH
open PySem PySem.Spec L2
structure Tx (w : World) (K : PySem.W.Frag) (mg : Str → Option Value) : Prop where
  c : He.SaysT fa fn ts w K
  ex : exB K = true
  inn : ∃ h : Heap, K.In h ∧ h.Ns mainGlobals mg
section
variable {w : World} {K : PySem.W.Frag} {mg : Str → Option Value}
theorem Tx.glo (T : Tx w K mg) (i : Nat) {x : Str} (h : fa[i]? = some (.glo x) := by rfl) : mg x = some (.ref (He.ga K x)) := let ⟨_, X, G⟩ := T.inn; He.glo_ok X G (T.c.d.fact i h)
theorem Tx.fre (T : Tx w K mg) (i : Nat) {x : Str} (h : fa[i]? = some (.free x) := by rfl) : mg x = none := let ⟨_, X, G⟩ := T.inn; He.free_ok X G (T.c.d.fact i h)
theorem Tx.nt (T : Tx w K mg) (i : Nat) {x : Str} {n : Int} (h : fa[i]? = some (.int x n) := by rfl) : ∃ t, mg x = some (.int n t) := let ⟨_, X, G⟩ := T.inn; He.int_ok X G (T.c.d.fact i h)
theorem Tx.st (T : Tx w K mg) (i : Nat) {x z : Str} (h : fa[i]? = some (.str x z) := by rfl) : ∃ t, mg x = some (.str z t) := let ⟨_, X, G⟩ := T.inn; He.str_ok X G (T.c.d.fact i h)

abbrev s_is_between : Stmt := topS 28
abbrev N_is_between : List Str := ["part", "low", "high"]
theorem sc_is_between : FnScope N_is_between ["part", "low", "high"] (defScope s_is_between) := ⟨rfl, rfl, rfl, by decide +kernel, rfl, by decide +kernel, by decide +kernel⟩
theorem b_is_between (kV doc pm : Value) (an : Option Addr) (cdv ct : Value) (us : List Value) (h : us.length = 3) : bindArgs (PySem.W.fnOf "is_between" "is_between" (defArgs s_is_between) (defBody s_is_between) (defScope s_is_between) .none kV doc pm an cdv ct) ⟨us, []⟩ = pure ((["part", "low", "high"] : List Str).zip us) := match us, h with | [_, _, _], _ => rfl
theorem Tx.d_is_between (T : Tx w K mg) : ∃ fd, FunD K "is_between" "is_between" (defArgs s_is_between) (defBody s_is_between) (defScope s_is_between) [] [] (He.ga K "is_between") fd := T.c.d.def_ 0 (d := dG "is_between" 28) rfl
theorem Tx.g_is_between (T : Tx w K mg) : mg "is_between" = some (.ref (He.ga K "is_between")) := T.glo 0
abbrev s_is_group : Stmt := topS 29
abbrev N_is_group : List Str := ["group"]
theorem sc_is_group : FnScope N_is_group ["group"] (defScope s_is_group) := ⟨rfl, rfl, rfl, by decide +kernel, rfl, by decide +kernel, by decide +kernel⟩
theorem b_is_group (kV doc pm : Value) (an : Option Addr) (cdv ct : Value) (us : List Value) (h : us.length = 1) : bindArgs (PySem.W.fnOf "is_group" "is_group" (defArgs s_is_group) (defBody s_is_group) (defScope s_is_group) .none kV doc pm an cdv ct) ⟨us, []⟩ = pure ((["group"] : List Str).zip us) := match us, h with | [_], _ => rfl
theorem Tx.d_is_group (T : Tx w K mg) : ∃ fd, FunD K "is_group" "is_group" (defArgs s_is_group) (defBody s_is_group) (defScope s_is_group) [] [] (He.ga K "is_group") fd := T.c.d.def_ 1 (d := dG "is_group" 29) rfl
theorem Tx.g_is_group (T : Tx w K mg) : mg "is_group" = some (.ref (He.ga K "is_group")) := T.glo 1
abbrev s_need_tasks : Stmt := topS 30
abbrev N_need_tasks : List Str := ["tasks", "end", "k", "task", "g", "group"]
theorem sc_need_tasks : FnScope N_need_tasks ["tasks", "end"] (defScope s_need_tasks) := ⟨rfl, rfl, rfl, by decide +kernel, rfl, by decide +kernel, by decide +kernel⟩
theorem b_need_tasks (kV doc pm : Value) (an : Option Addr) (cdv ct : Value) (us : List Value) (h : us.length = 2) : bindArgs (PySem.W.fnOf "need_tasks" "need_tasks" (defArgs s_need_tasks) (defBody s_need_tasks) (defScope s_need_tasks) .none kV doc pm an cdv ct) ⟨us, []⟩ = pure ((["tasks", "end"] : List Str).zip us) := match us, h with | [_, _], _ => rfl
theorem Tx.d_need_tasks (T : Tx w K mg) : ∃ fd, FunD K "need_tasks" "need_tasks" (defArgs s_need_tasks) (defBody s_need_tasks) (defScope s_need_tasks) [] [] (He.ga K "need_tasks") fd := T.c.d.def_ 2 (d := dG "need_tasks" 30) rfl
theorem Tx.g_need_tasks (T : Tx w K mg) : mg "need_tasks" = some (.ref (He.ga K "need_tasks")) := T.glo 2
abbrev s_need_contest : Stmt := topS 31
abbrev N_need_contest : List Str := ["contest", "rule", "teams", "end", "frozen", "tasks"]
theorem sc_need_contest : FnScope N_need_contest ["contest"] (defScope s_need_contest) := ⟨rfl, rfl, rfl, by decide +kernel, rfl, by decide +kernel, by decide +kernel⟩
theorem b_need_contest (kV doc pm : Value) (an : Option Addr) (cdv ct : Value) (us : List Value) (h : us.length = 1) : bindArgs (PySem.W.fnOf "need_contest" "need_contest" (defArgs s_need_contest) (defBody s_need_contest) (defScope s_need_contest) .none kV doc pm an cdv ct) ⟨us, []⟩ = pure ((["contest"] : List Str).zip us) := match us, h with | [_], _ => rfl
theorem Tx.d_need_contest (T : Tx w K mg) : ∃ fd, FunD K "need_contest" "need_contest" (defArgs s_need_contest) (defBody s_need_contest) (defScope s_need_contest) [] [] (He.ga K "need_contest") fd := T.c.d.def_ 3 (d := dG "need_contest" 31) rfl
theorem Tx.g_need_contest (T : Tx w K mg) : mg "need_contest" = some (.ref (He.ga K "need_contest")) := T.glo 3
abbrev s_trials_of : Stmt := topS 32
abbrev N_trials_of : List Str := ["contest", "task", "many", "points"]
theorem sc_trials_of : FnScope N_trials_of ["contest", "task"] (defScope s_trials_of) := ⟨rfl, rfl, rfl, by decide +kernel, rfl, by decide +kernel, by decide +kernel⟩
theorem b_trials_of (kV doc pm : Value) (an : Option Addr) (cdv ct : Value) (us : List Value) (h : us.length = 2) : bindArgs (PySem.W.fnOf "trials_of" "trials_of" (defArgs s_trials_of) (defBody s_trials_of) (defScope s_trials_of) .none kV doc pm an cdv ct) ⟨us, []⟩ = pure ((["contest", "task"] : List Str).zip us) := match us, h with | [_, _], _ => rfl
theorem Tx.d_trials_of (T : Tx w K mg) : ∃ fd, FunD K "trials_of" "trials_of" (defArgs s_trials_of) (defBody s_trials_of) (defScope s_trials_of) [] [] (He.ga K "trials_of") fd := T.c.d.def_ 4 (d := dG "trials_of" 32) rfl
theorem Tx.g_trials_of (T : Tx w K mg) : mg "trials_of" = some (.ref (He.ga K "trials_of")) := T.glo 4
abbrev s_is_try : Stmt := topS 33
abbrev N_is_try : List Str := ["one", "contest"]
theorem sc_is_try : FnScope N_is_try ["one", "contest"] (defScope s_is_try) := ⟨rfl, rfl, rfl, by decide +kernel, rfl, by decide +kernel, by decide +kernel⟩
theorem b_is_try (kV doc pm : Value) (an : Option Addr) (cdv ct : Value) (us : List Value) (h : us.length = 2) : bindArgs (PySem.W.fnOf "is_try" "is_try" (defArgs s_is_try) (defBody s_is_try) (defScope s_is_try) .none kV doc pm an cdv ct) ⟨us, []⟩ = pure ((["one", "contest"] : List Str).zip us) := match us, h with | [_, _], _ => rfl
theorem Tx.d_is_try (T : Tx w K mg) : ∃ fd, FunD K "is_try" "is_try" (defArgs s_is_try) (defBody s_is_try) (defScope s_is_try) [] [] (He.ga K "is_try") fd := T.c.d.def_ 5 (d := dG "is_try" 33) rfl
theorem Tx.g_is_try (T : Tx w K mg) : mg "is_try" = some (.ref (He.ga K "is_try")) := T.glo 5
abbrev s_need_tries : Stmt := topS 34
abbrev N_need_tries : List Str := ["contest", "tries", "at", "one"]
theorem sc_need_tries : FnScope N_need_tries ["contest", "tries"] (defScope s_need_tries) := ⟨rfl, rfl, rfl, by decide +kernel, rfl, by decide +kernel, by decide +kernel⟩
theorem b_need_tries (kV doc pm : Value) (an : Option Addr) (cdv ct : Value) (us : List Value) (h : us.length = 2) : bindArgs (PySem.W.fnOf "need_tries" "need_tries" (defArgs s_need_tries) (defBody s_need_tries) (defScope s_need_tries) .none kV doc pm an cdv ct) ⟨us, []⟩ = pure ((["contest", "tries"] : List Str).zip us) := match us, h with | [_, _], _ => rfl
theorem Tx.d_need_tries (T : Tx w K mg) : ∃ fd, FunD K "need_tries" "need_tries" (defArgs s_need_tries) (defBody s_need_tries) (defScope s_need_tries) [] [] (He.ga K "need_tries") fd := T.c.d.def_ 6 (d := dG "need_tries" 34) rfl
theorem Tx.g_need_tries (T : Tx w K mg) : mg "need_tries" = some (.ref (He.ga K "need_tries")) := T.glo 6
abbrev s_is_verdict : Stmt := topS 35
abbrev N_is_verdict : List Str := ["verdict", "contest", "tries"]
theorem sc_is_verdict : FnScope N_is_verdict ["verdict", "contest", "tries"] (defScope s_is_verdict) := ⟨rfl, rfl, rfl, by decide +kernel, rfl, by decide +kernel, by decide +kernel⟩
theorem b_is_verdict (kV doc pm : Value) (an : Option Addr) (cdv ct : Value) (us : List Value) (h : us.length = 3) : bindArgs (PySem.W.fnOf "is_verdict" "is_verdict" (defArgs s_is_verdict) (defBody s_is_verdict) (defScope s_is_verdict) .none kV doc pm an cdv ct) ⟨us, []⟩ = pure ((["verdict", "contest", "tries"] : List Str).zip us) := match us, h with | [_, _, _], _ => rfl
theorem Tx.d_is_verdict (T : Tx w K mg) : ∃ fd, FunD K "is_verdict" "is_verdict" (defArgs s_is_verdict) (defBody s_is_verdict) (defScope s_is_verdict) [] [] (He.ga K "is_verdict") fd := T.c.d.def_ 7 (d := dG "is_verdict" 35) rfl
theorem Tx.g_is_verdict (T : Tx w K mg) : mg "is_verdict" = some (.ref (He.ga K "is_verdict")) := T.glo 7
abbrev s_need_verdicts : Stmt := topS 36
abbrev N_need_verdicts : List Str := ["contest", "tries", "verdicts", "met", "at", "verdict"]
theorem sc_need_verdicts : FnScope N_need_verdicts ["contest", "tries", "verdicts"] (defScope s_need_verdicts) := ⟨rfl, rfl, rfl, by decide +kernel, rfl, by decide +kernel, by decide +kernel⟩
theorem b_need_verdicts (kV doc pm : Value) (an : Option Addr) (cdv ct : Value) (us : List Value) (h : us.length = 3) : bindArgs (PySem.W.fnOf "need_verdicts" "need_verdicts" (defArgs s_need_verdicts) (defBody s_need_verdicts) (defScope s_need_verdicts) .none kV doc pm an cdv ct) ⟨us, []⟩ = pure ((["contest", "tries", "verdicts"] : List Str).zip us) := match us, h with | [_, _, _], _ => rfl
theorem Tx.d_need_verdicts (T : Tx w K mg) : ∃ fd, FunD K "need_verdicts" "need_verdicts" (defArgs s_need_verdicts) (defBody s_need_verdicts) (defScope s_need_verdicts) [] [] (He.ga K "need_verdicts") fd := T.c.d.def_ 8 (d := dG "need_verdicts" 36) rfl
theorem Tx.g_need_verdicts (T : Tx w K mg) : mg "need_verdicts" = some (.ref (He.ga K "need_verdicts")) := T.glo 8
abbrev s_need_all : Stmt := topS 37
abbrev N_need_all : List Str := ["contest", "tries", "verdicts"]
theorem sc_need_all : FnScope N_need_all ["contest", "tries", "verdicts"] (defScope s_need_all) := ⟨rfl, rfl, rfl, by decide +kernel, rfl, by decide +kernel, by decide +kernel⟩
theorem b_need_all (kV doc pm : Value) (an : Option Addr) (cdv ct : Value) (us : List Value) (h : us.length = 3) : bindArgs (PySem.W.fnOf "need_all" "need_all" (defArgs s_need_all) (defBody s_need_all) (defScope s_need_all) .none kV doc pm an cdv ct) ⟨us, []⟩ = pure ((["contest", "tries", "verdicts"] : List Str).zip us) := match us, h with | [_, _, _], _ => rfl
theorem Tx.d_need_all (T : Tx w K mg) : ∃ fd, FunD K "need_all" "need_all" (defArgs s_need_all) (defBody s_need_all) (defScope s_need_all) [] [] (He.ga K "need_all") fd := T.c.d.def_ 9 (d := dG "need_all" 37) rfl
theorem Tx.g_need_all (T : Tx w K mg) : mg "need_all" = some (.ref (He.ga K "need_all")) := T.glo 9
abbrev s_table_of : Stmt := topS 38
abbrev N_table_of : List Str := ["verdicts", "number", "trial", "passed"]
theorem sc_table_of : FnScope N_table_of ["verdicts"] (defScope s_table_of) := ⟨rfl, rfl, rfl, by decide +kernel, rfl, by decide +kernel, by decide +kernel⟩
theorem b_table_of (kV doc pm : Value) (an : Option Addr) (cdv ct : Value) (us : List Value) (h : us.length = 1) : bindArgs (PySem.W.fnOf "table_of" "table_of" (defArgs s_table_of) (defBody s_table_of) (defScope s_table_of) .none kV doc pm an cdv ct) ⟨us, []⟩ = pure ((["verdicts"] : List Str).zip us) := match us, h with | [_], _ => rfl
theorem Tx.d_table_of (T : Tx w K mg) : ∃ fd, FunD K "table_of" "table_of" (defArgs s_table_of) (defBody s_table_of) (defScope s_table_of) [] [] (He.ga K "table_of") fd := T.c.d.def_ 10 (d := dG "table_of" 38) rfl
theorem Tx.g_table_of (T : Tx w K mg) : mg "table_of" = some (.ref (He.ga K "table_of")) := T.glo 10
abbrev s_state_of : Stmt := topS 45
abbrev N_state_of : List Str := ["some"]
theorem sc_state_of : FnScope N_state_of ["some"] (defScope s_state_of) := ⟨rfl, rfl, rfl, by decide +kernel, rfl, by decide +kernel, by decide +kernel⟩
theorem b_state_of (kV doc pm : Value) (an : Option Addr) (cdv ct : Value) (us : List Value) (h : us.length = 1) : bindArgs (PySem.W.fnOf "state_of" "state_of" (defArgs s_state_of) (defBody s_state_of) (defScope s_state_of) .none kV doc pm an cdv ct) ⟨us, []⟩ = pure ((["some"] : List Str).zip us) := match us, h with | [_], _ => rfl
theorem Tx.d_state_of (T : Tx w K mg) : ∃ fd, FunD K "state_of" "state_of" (defArgs s_state_of) (defBody s_state_of) (defScope s_state_of) [] [] (He.ga K "state_of") fd := T.c.d.def_ 11 (d := dG "state_of" 45) rfl
theorem Tx.g_state_of (T : Tx w K mg) : mg "state_of" = some (.ref (He.ga K "state_of")) := T.glo 11
abbrev s_group_states : Stmt := topS 46
abbrev N_group_states : List Str := ["contest", "tries", "table", "number", "found", "begin", "many", "points", "trial"]
theorem sc_group_states : FnScope N_group_states ["contest", "tries", "table", "number"] (defScope s_group_states) := ⟨rfl, rfl, rfl, by decide +kernel, rfl, by decide +kernel, by decide +kernel⟩
theorem b_group_states (kV doc pm : Value) (an : Option Addr) (cdv ct : Value) (us : List Value) (h : us.length = 4) : bindArgs (PySem.W.fnOf "group_states" "group_states" (defArgs s_group_states) (defBody s_group_states) (defScope s_group_states) .none kV doc pm an cdv ct) ⟨us, []⟩ = pure ((["contest", "tries", "table", "number"] : List Str).zip us) := match us, h with | [_, _, _, _], _ => rfl
theorem Tx.d_group_states (T : Tx w K mg) : ∃ fd, FunD K "group_states" "group_states" (defArgs s_group_states) (defBody s_group_states) (defScope s_group_states) [] [] (He.ga K "group_states") fd := T.c.d.def_ 12 (d := dG "group_states" 46) rfl
theorem Tx.g_group_states (T : Tx w K mg) : mg "group_states" = some (.ref (He.ga K "group_states")) := T.glo 12
abbrev s_try_state : Stmt := topS 47
abbrev N_try_state : List Str := ["contest", "tries", "table", "number", "states"]
theorem sc_try_state : FnScope N_try_state ["contest", "tries", "table", "number"] (defScope s_try_state) := ⟨rfl, rfl, rfl, by decide +kernel, rfl, by decide +kernel, by decide +kernel⟩
theorem b_try_state (kV doc pm : Value) (an : Option Addr) (cdv ct : Value) (us : List Value) (h : us.length = 4) : bindArgs (PySem.W.fnOf "try_state" "try_state" (defArgs s_try_state) (defBody s_try_state) (defScope s_try_state) .none kV doc pm an cdv ct) ⟨us, []⟩ = pure ((["contest", "tries", "table", "number"] : List Str).zip us) := match us, h with | [_, _, _, _], _ => rfl
theorem Tx.d_try_state (T : Tx w K mg) : ∃ fd, FunD K "try_state" "try_state" (defArgs s_try_state) (defBody s_try_state) (defScope s_try_state) [] [] (He.ga K "try_state") fd := T.c.d.def_ 13 (d := dG "try_state" 47) rfl
theorem Tx.g_try_state (T : Tx w K mg) : mg "try_state" = some (.ref (He.ga K "try_state")) := T.glo 13
abbrev s_numbers_of : Stmt := topS 48
abbrev N_numbers_of : List Str := ["contest", "tries", "team", "task", "until", "k", "one"]
theorem sc_numbers_of : FnScope N_numbers_of ["contest", "tries", "team", "task", "until"] (defScope s_numbers_of) := ⟨rfl, rfl, rfl, by decide +kernel, rfl, by decide +kernel, by decide +kernel⟩
theorem b_numbers_of (kV doc pm : Value) (an : Option Addr) (cdv ct : Value) (us : List Value) (h : us.length = 5) : bindArgs (PySem.W.fnOf "numbers_of" "numbers_of" (defArgs s_numbers_of) (defBody s_numbers_of) (defScope s_numbers_of) .none kV doc pm an cdv ct) ⟨us, []⟩ = pure ((["contest", "tries", "team", "task", "until"] : List Str).zip us) := match us, h with | [_, _, _, _, _], _ => rfl
theorem Tx.d_numbers_of (T : Tx w K mg) : ∃ fd, FunD K "numbers_of" "numbers_of" (defArgs s_numbers_of) (defBody s_numbers_of) (defScope s_numbers_of) [] [] (He.ga K "numbers_of") fd := T.c.d.def_ 14 (d := dG "numbers_of" 48) rfl
theorem Tx.g_numbers_of (T : Tx w K mg) : mg "numbers_of" = some (.ref (He.ga K "numbers_of")) := T.glo 14
abbrev s_solved_at : Stmt := topS 49
abbrev N_solved_at : List Str := ["contest", "tries", "table", "numbers", "wrong", "number", "state", "team", "task", "time"]
theorem sc_solved_at : FnScope N_solved_at ["contest", "tries", "table", "numbers"] (defScope s_solved_at) := ⟨rfl, rfl, rfl, by decide +kernel, rfl, by decide +kernel, by decide +kernel⟩
theorem b_solved_at (kV doc pm : Value) (an : Option Addr) (cdv ct : Value) (us : List Value) (h : us.length = 4) : bindArgs (PySem.W.fnOf "solved_at" "solved_at" (defArgs s_solved_at) (defBody s_solved_at) (defScope s_solved_at) .none kV doc pm an cdv ct) ⟨us, []⟩ = pure ((["contest", "tries", "table", "numbers"] : List Str).zip us) := match us, h with | [_, _, _, _], _ => rfl
theorem Tx.d_solved_at (T : Tx w K mg) : ∃ fd, FunD K "solved_at" "solved_at" (defArgs s_solved_at) (defBody s_solved_at) (defScope s_solved_at) [] [] (He.ga K "solved_at") fd := T.c.d.def_ 15 (d := dG "solved_at" 49) rfl
theorem Tx.g_solved_at (T : Tx w K mg) : mg "solved_at" = some (.ref (He.ga K "solved_at")) := T.glo 15
abbrev s_worth_of : Stmt := topS 50
abbrev N_worth_of : List Str := ["contest", "tries", "number", "points", "team", "task", "time"]
theorem sc_worth_of : FnScope N_worth_of ["contest", "tries", "number", "points"] (defScope s_worth_of) := ⟨rfl, rfl, rfl, by decide +kernel, rfl, by decide +kernel, by decide +kernel⟩
theorem b_worth_of (kV doc pm : Value) (an : Option Addr) (cdv ct : Value) (us : List Value) (h : us.length = 4) : bindArgs (PySem.W.fnOf "worth_of" "worth_of" (defArgs s_worth_of) (defBody s_worth_of) (defScope s_worth_of) .none kV doc pm an cdv ct) ⟨us, []⟩ = pure ((["contest", "tries", "number", "points"] : List Str).zip us) := match us, h with | [_, _, _, _], _ => rfl
theorem Tx.d_worth_of (T : Tx w K mg) : ∃ fd, FunD K "worth_of" "worth_of" (defArgs s_worth_of) (defBody s_worth_of) (defScope s_worth_of) [] [] (He.ga K "worth_of") fd := T.c.d.def_ 16 (d := dG "worth_of" 50) rfl
theorem Tx.g_worth_of (T : Tx w K mg) : mg "worth_of" = some (.ref (He.ga K "worth_of")) := T.glo 16
abbrev s_points_at : Stmt := topS 51
abbrev N_points_at : List Str := ["contest", "tries", "table", "numbers", "task", "groups", "best", "single", "number", "states", "g", "passed"]
theorem sc_points_at : FnScope N_points_at ["contest", "tries", "table", "numbers", "task"] (defScope s_points_at) := ⟨rfl, rfl, rfl, by decide +kernel, rfl, by decide +kernel, by decide +kernel⟩
theorem b_points_at (kV doc pm : Value) (an : Option Addr) (cdv ct : Value) (us : List Value) (h : us.length = 5) : bindArgs (PySem.W.fnOf "points_at" "points_at" (defArgs s_points_at) (defBody s_points_at) (defScope s_points_at) .none kV doc pm an cdv ct) ⟨us, []⟩ = pure ((["contest", "tries", "table", "numbers", "task"] : List Str).zip us) := match us, h with | [_, _, _, _, _], _ => rfl
theorem Tx.d_points_at (T : Tx w K mg) : ∃ fd, FunD K "points_at" "points_at" (defArgs s_points_at) (defBody s_points_at) (defScope s_points_at) [] [] (He.ga K "points_at") fd := T.c.d.def_ 17 (d := dG "points_at" 51) rfl
theorem Tx.g_points_at (T : Tx w K mg) : mg "points_at" = some (.ref (He.ga K "points_at")) := T.glo 17
abbrev s_score_of : Stmt := topS 52
abbrev N_score_of : List Str := ["contest", "tries", "table", "team", "untils", "solved", "cost", "last", "points", "task", "numbers", "found"]
theorem sc_score_of : FnScope N_score_of ["contest", "tries", "table", "team", "untils"] (defScope s_score_of) := ⟨rfl, rfl, rfl, by decide +kernel, rfl, by decide +kernel, by decide +kernel⟩
theorem b_score_of (kV doc pm : Value) (an : Option Addr) (cdv ct : Value) (us : List Value) (h : us.length = 5) : bindArgs (PySem.W.fnOf "score_of" "score_of" (defArgs s_score_of) (defBody s_score_of) (defScope s_score_of) .none kV doc pm an cdv ct) ⟨us, []⟩ = pure ((["contest", "tries", "table", "team", "untils"] : List Str).zip us) := match us, h with | [_, _, _, _, _], _ => rfl
theorem Tx.d_score_of (T : Tx w K mg) : ∃ fd, FunD K "score_of" "score_of" (defArgs s_score_of) (defBody s_score_of) (defScope s_score_of) [] [] (He.ga K "score_of") fd := T.c.d.def_ 18 (d := dG "score_of" 52) rfl
theorem Tx.g_score_of (T : Tx w K mg) : mg "score_of" = some (.ref (He.ga K "score_of")) := T.glo 18
abbrev s_rank_of : Stmt := topS 53
abbrev N_rank_of : List Str := ["score"]
theorem sc_rank_of : FnScope N_rank_of ["score"] (defScope s_rank_of) := ⟨rfl, rfl, rfl, by decide +kernel, rfl, by decide +kernel, by decide +kernel⟩
theorem b_rank_of (kV doc pm : Value) (an : Option Addr) (cdv ct : Value) (us : List Value) (h : us.length = 1) : bindArgs (PySem.W.fnOf "rank_of" "rank_of" (defArgs s_rank_of) (defBody s_rank_of) (defScope s_rank_of) .none kV doc pm an cdv ct) ⟨us, []⟩ = pure ((["score"] : List Str).zip us) := match us, h with | [_], _ => rfl
theorem Tx.d_rank_of (T : Tx w K mg) : ∃ fd, FunD K "rank_of" "rank_of" (defArgs s_rank_of) (defBody s_rank_of) (defScope s_rank_of) [] [] (He.ga K "rank_of") fd := T.c.d.def_ 19 (d := dG "rank_of" 53) rfl
theorem Tx.g_rank_of (T : Tx w K mg) : mg "rank_of" = some (.ref (He.ga K "rank_of")) := T.glo 19
abbrev s_placed : Stmt := topS 54
abbrev N_placed : List Str := ["scores", "score", "ranks", "found", "team", "rank"]
theorem sc_placed : FnScope N_placed ["scores"] (defScope s_placed) := ⟨rfl, rfl, rfl, by decide +kernel, rfl, by decide +kernel, by decide +kernel⟩
theorem b_placed (kV doc pm : Value) (an : Option Addr) (cdv ct : Value) (us : List Value) (h : us.length = 1) : bindArgs (PySem.W.fnOf "placed" "placed" (defArgs s_placed) (defBody s_placed) (defScope s_placed) .none kV doc pm an cdv ct) ⟨us, []⟩ = pure ((["scores"] : List Str).zip us) := match us, h with | [_], _ => rfl
theorem Tx.d_placed (T : Tx w K mg) : ∃ fd, FunD K "placed" "placed" (defArgs s_placed) (defBody s_placed) (defScope s_placed) [] [] (He.ga K "placed") fd := T.c.d.def_ 20 (d := dG "placed" 54) rfl
theorem Tx.g_placed (T : Tx w K mg) : mg "placed" = some (.ref (He.ga K "placed")) := T.glo 20
abbrev s_whole_untils : Stmt := topS 55
abbrev N_whole_untils : List Str := ["contest"]
theorem sc_whole_untils : FnScope N_whole_untils ["contest"] (defScope s_whole_untils) := ⟨rfl, rfl, rfl, by decide +kernel, rfl, by decide +kernel, by decide +kernel⟩
theorem b_whole_untils (kV doc pm : Value) (an : Option Addr) (cdv ct : Value) (us : List Value) (h : us.length = 1) : bindArgs (PySem.W.fnOf "whole_untils" "whole_untils" (defArgs s_whole_untils) (defBody s_whole_untils) (defScope s_whole_untils) .none kV doc pm an cdv ct) ⟨us, []⟩ = pure ((["contest"] : List Str).zip us) := match us, h with | [_], _ => rfl
theorem Tx.d_whole_untils (T : Tx w K mg) : ∃ fd, FunD K "whole_untils" "whole_untils" (defArgs s_whole_untils) (defBody s_whole_untils) (defScope s_whole_untils) [] [] (He.ga K "whole_untils") fd := T.c.d.def_ 21 (d := dG "whole_untils" 55) rfl
theorem Tx.g_whole_untils (T : Tx w K mg) : mg "whole_untils" = some (.ref (He.ga K "whole_untils")) := T.glo 21
abbrev s_all_placed : Stmt := topS 56
abbrev N_all_placed : List Str := ["contest", "tries", "table", "untils", "team"]
theorem sc_all_placed : FnScope N_all_placed ["contest", "tries", "table"] (defScope s_all_placed) := ⟨rfl, rfl, rfl, by decide +kernel, rfl, by decide +kernel, by decide +kernel⟩
theorem b_all_placed (kV doc pm : Value) (an : Option Addr) (cdv ct : Value) (us : List Value) (h : us.length = 3) : bindArgs (PySem.W.fnOf "all_placed" "all_placed" (defArgs s_all_placed) (defBody s_all_placed) (defScope s_all_placed) .none kV doc pm an cdv ct) ⟨us, []⟩ = pure ((["contest", "tries", "table"] : List Str).zip us) := match us, h with | [_, _, _], _ => rfl
theorem Tx.d_all_placed (T : Tx w K mg) : ∃ fd, FunD K "all_placed" "all_placed" (defArgs s_all_placed) (defBody s_all_placed) (defScope s_all_placed) [] [] (He.ga K "all_placed") fd := T.c.d.def_ 22 (d := dG "all_placed" 56) rfl
theorem Tx.g_all_placed (T : Tx w K mg) : mg "all_placed" = some (.ref (He.ga K "all_placed")) := T.glo 22
abbrev s_standings : Stmt := topS 57
abbrev N_standings : List Str := ["contest", "tries", "verdicts"]
theorem sc_standings : FnScope N_standings ["contest", "tries", "verdicts"] (defScope s_standings) := ⟨rfl, rfl, rfl, by decide +kernel, rfl, by decide +kernel, by decide +kernel⟩
theorem b_standings (kV doc pm : Value) (an : Option Addr) (cdv ct : Value) (us : List Value) (h : us.length = 3) : bindArgs (PySem.W.fnOf "standings" "standings" (defArgs s_standings) (defBody s_standings) (defScope s_standings) .none kV doc pm an cdv ct) ⟨us, []⟩ = pure ((["contest", "tries", "verdicts"] : List Str).zip us) := match us, h with | [_, _, _], _ => rfl
theorem Tx.d_standings (T : Tx w K mg) : ∃ fd, FunD K "standings" "standings" (defArgs s_standings) (defBody s_standings) (defScope s_standings) [] [] (He.ga K "standings") fd := T.c.d.def_ 23 (d := dG "standings" 57) rfl
theorem Tx.g_standings (T : Tx w K mg) : mg "standings" = some (.ref (He.ga K "standings")) := T.glo 23
abbrev s_is_over : Stmt := topS 59
abbrev N_is_over : List Str := ["contest", "tries", "table", "number", "team", "task", "time", "ahead", "one"]
theorem sc_is_over : FnScope N_is_over ["contest", "tries", "table", "number"] (defScope s_is_over) := ⟨rfl, rfl, rfl, by decide +kernel, rfl, by decide +kernel, by decide +kernel⟩
theorem b_is_over (kV doc pm : Value) (an : Option Addr) (cdv ct : Value) (us : List Value) (h : us.length = 4) : bindArgs (PySem.W.fnOf "is_over" "is_over" (defArgs s_is_over) (defBody s_is_over) (defScope s_is_over) .none kV doc pm an cdv ct) ⟨us, []⟩ = pure ((["contest", "tries", "table", "number"] : List Str).zip us) := match us, h with | [_, _, _, _], _ => rfl
theorem Tx.d_is_over (T : Tx w K mg) : ∃ fd, FunD K "is_over" "is_over" (defArgs s_is_over) (defBody s_is_over) (defScope s_is_over) [] [] (He.ga K "is_over") fd := T.c.d.def_ 24 (d := dG "is_over" 59) rfl
theorem Tx.g_is_over (T : Tx w K mg) : mg "is_over" = some (.ref (He.ga K "is_over")) := T.glo 24
abbrev s_open_trials : Stmt := topS 60
abbrev N_open_trials : List Str := ["contest", "tries", "table", "number", "states", "found", "begin", "g", "many", "points", "trial"]
theorem sc_open_trials : FnScope N_open_trials ["contest", "tries", "table", "number"] (defScope s_open_trials) := ⟨rfl, rfl, rfl, by decide +kernel, rfl, by decide +kernel, by decide +kernel⟩
theorem b_open_trials (kV doc pm : Value) (an : Option Addr) (cdv ct : Value) (us : List Value) (h : us.length = 4) : bindArgs (PySem.W.fnOf "open_trials" "open_trials" (defArgs s_open_trials) (defBody s_open_trials) (defScope s_open_trials) .none kV doc pm an cdv ct) ⟨us, []⟩ = pure ((["contest", "tries", "table", "number"] : List Str).zip us) := match us, h with | [_, _, _, _], _ => rfl
theorem Tx.d_open_trials (T : Tx w K mg) : ∃ fd, FunD K "open_trials" "open_trials" (defArgs s_open_trials) (defBody s_open_trials) (defScope s_open_trials) [] [] (He.ga K "open_trials") fd := T.c.d.def_ 25 (d := dG "open_trials" 60) rfl
theorem Tx.g_open_trials (T : Tx w K mg) : mg "open_trials" = some (.ref (He.ga K "open_trials")) := T.glo 25
abbrev s_all_open : Stmt := topS 61
abbrev N_all_open : List Str := ["contest", "tries", "table", "found", "number", "trial"]
theorem sc_all_open : FnScope N_all_open ["contest", "tries", "table"] (defScope s_all_open) := ⟨rfl, rfl, rfl, by decide +kernel, rfl, by decide +kernel, by decide +kernel⟩
theorem b_all_open (kV doc pm : Value) (an : Option Addr) (cdv ct : Value) (us : List Value) (h : us.length = 3) : bindArgs (PySem.W.fnOf "all_open" "all_open" (defArgs s_all_open) (defBody s_all_open) (defScope s_all_open) .none kV doc pm an cdv ct) ⟨us, []⟩ = pure ((["contest", "tries", "table"] : List Str).zip us) := match us, h with | [_, _, _], _ => rfl
theorem Tx.d_all_open (T : Tx w K mg) : ∃ fd, FunD K "all_open" "all_open" (defArgs s_all_open) (defBody s_all_open) (defScope s_all_open) [] [] (He.ga K "all_open") fd := T.c.d.def_ 26 (d := dG "all_open" 61) rfl
theorem Tx.g_all_open (T : Tx w K mg) : mg "all_open" = some (.ref (He.ga K "all_open")) := T.glo 26
abbrev s_matter : Stmt := topS 62
abbrev N_matter : List Str := ["contest", "tries", "verdicts"]
theorem sc_matter : FnScope N_matter ["contest", "tries", "verdicts"] (defScope s_matter) := ⟨rfl, rfl, rfl, by decide +kernel, rfl, by decide +kernel, by decide +kernel⟩
theorem b_matter (kV doc pm : Value) (an : Option Addr) (cdv ct : Value) (us : List Value) (h : us.length = 3) : bindArgs (PySem.W.fnOf "matter" "matter" (defArgs s_matter) (defBody s_matter) (defScope s_matter) .none kV doc pm an cdv ct) ⟨us, []⟩ = pure ((["contest", "tries", "verdicts"] : List Str).zip us) := match us, h with | [_, _, _], _ => rfl
theorem Tx.d_matter (T : Tx w K mg) : ∃ fd, FunD K "matter" "matter" (defArgs s_matter) (defBody s_matter) (defScope s_matter) [] [] (He.ga K "matter") fd := T.c.d.def_ 27 (d := dG "matter" 62) rfl
theorem Tx.g_matter (T : Tx w K mg) : mg "matter" = some (.ref (He.ga K "matter")) := T.glo 27
abbrev s_hidden_of : Stmt := topS 64
abbrev N_hidden_of : List Str := ["contest", "tries", "table", "team", "untils", "found", "task", "shown", "every", "is_solved"]
theorem sc_hidden_of : FnScope N_hidden_of ["contest", "tries", "table", "team", "untils"] (defScope s_hidden_of) := ⟨rfl, rfl, rfl, by decide +kernel, rfl, by decide +kernel, by decide +kernel⟩
theorem b_hidden_of (kV doc pm : Value) (an : Option Addr) (cdv ct : Value) (us : List Value) (h : us.length = 5) : bindArgs (PySem.W.fnOf "hidden_of" "hidden_of" (defArgs s_hidden_of) (defBody s_hidden_of) (defScope s_hidden_of) .none kV doc pm an cdv ct) ⟨us, []⟩ = pure ((["contest", "tries", "table", "team", "untils"] : List Str).zip us) := match us, h with | [_, _, _, _, _], _ => rfl
theorem Tx.d_hidden_of (T : Tx w K mg) : ∃ fd, FunD K "hidden_of" "hidden_of" (defArgs s_hidden_of) (defBody s_hidden_of) (defScope s_hidden_of) [] [] (He.ga K "hidden_of") fd := T.c.d.def_ 28 (d := dG "hidden_of" 64) rfl
theorem Tx.g_hidden_of (T : Tx w K mg) : mg "hidden_of" = some (.ref (He.ga K "hidden_of")) := T.glo 28
abbrev s_rows_of : Stmt := topS 65
abbrev N_rows_of : List Str := ["contest", "tries", "table", "untils", "team", "scores", "found", "place", "score"]
theorem sc_rows_of : FnScope N_rows_of ["contest", "tries", "table", "untils"] (defScope s_rows_of) := ⟨rfl, rfl, rfl, by decide +kernel, rfl, by decide +kernel, by decide +kernel⟩
theorem b_rows_of (kV doc pm : Value) (an : Option Addr) (cdv ct : Value) (us : List Value) (h : us.length = 4) : bindArgs (PySem.W.fnOf "rows_of" "rows_of" (defArgs s_rows_of) (defBody s_rows_of) (defScope s_rows_of) .none kV doc pm an cdv ct) ⟨us, []⟩ = pure ((["contest", "tries", "table", "untils"] : List Str).zip us) := match us, h with | [_, _, _, _], _ => rfl
theorem Tx.d_rows_of (T : Tx w K mg) : ∃ fd, FunD K "rows_of" "rows_of" (defArgs s_rows_of) (defBody s_rows_of) (defScope s_rows_of) [] [] (He.ga K "rows_of") fd := T.c.d.def_ 29 (d := dG "rows_of" 65) rfl
theorem Tx.g_rows_of (T : Tx w K mg) : mg "rows_of" = some (.ref (He.ga K "rows_of")) := T.glo 29
abbrev s_frozen_untils : Stmt := topS 66
abbrev N_frozen_untils : List Str := ["contest", "team"]
theorem sc_frozen_untils : FnScope N_frozen_untils ["contest"] (defScope s_frozen_untils) := ⟨rfl, rfl, rfl, by decide +kernel, rfl, by decide +kernel, by decide +kernel⟩
theorem b_frozen_untils (kV doc pm : Value) (an : Option Addr) (cdv ct : Value) (us : List Value) (h : us.length = 1) : bindArgs (PySem.W.fnOf "frozen_untils" "frozen_untils" (defArgs s_frozen_untils) (defBody s_frozen_untils) (defScope s_frozen_untils) .none kV doc pm an cdv ct) ⟨us, []⟩ = pure ((["contest"] : List Str).zip us) := match us, h with | [_], _ => rfl
theorem Tx.d_frozen_untils (T : Tx w K mg) : ∃ fd, FunD K "frozen_untils" "frozen_untils" (defArgs s_frozen_untils) (defBody s_frozen_untils) (defScope s_frozen_untils) [] [] (He.ga K "frozen_untils") fd := T.c.d.def_ 30 (d := dG "frozen_untils" 66) rfl
theorem Tx.g_frozen_untils (T : Tx w K mg) : mg "frozen_untils" = some (.ref (He.ga K "frozen_untils")) := T.glo 30
abbrev s_board : Stmt := topS 67
abbrev N_board : List Str := ["contest", "tries", "verdicts"]
theorem sc_board : FnScope N_board ["contest", "tries", "verdicts"] (defScope s_board) := ⟨rfl, rfl, rfl, by decide +kernel, rfl, by decide +kernel, by decide +kernel⟩
theorem b_board (kV doc pm : Value) (an : Option Addr) (cdv ct : Value) (us : List Value) (h : us.length = 3) : bindArgs (PySem.W.fnOf "board" "board" (defArgs s_board) (defBody s_board) (defScope s_board) .none kV doc pm an cdv ct) ⟨us, []⟩ = pure ((["contest", "tries", "verdicts"] : List Str).zip us) := match us, h with | [_, _, _], _ => rfl
theorem Tx.d_board (T : Tx w K mg) : ∃ fd, FunD K "board" "board" (defArgs s_board) (defBody s_board) (defScope s_board) [] [] (He.ga K "board") fd := T.c.d.def_ 31 (d := dG "board" 67) rfl
theorem Tx.g_board (T : Tx w K mg) : mg "board" = some (.ref (He.ga K "board")) := T.glo 31
abbrev s_h_init__ : Stmt := (inClass (topS 70) 0)
abbrev N_h_init__ : List Str := ["self", "contest", "judges"]
theorem sc_h_init__ : FnScope N_h_init__ ["self", "contest", "judges"] (defScope s_h_init__) := ⟨rfl, rfl, rfl, by decide +kernel, rfl, by decide +kernel, by decide +kernel⟩
theorem b_h_init__ (kV doc pm : Value) (an : Option Addr) (cdv ct : Value) (us : List Value) (h : us.length = 3) : bindArgs (PySem.W.fnOf "__init__" "Hall.__init__" (defArgs s_h_init__) (defBody s_h_init__) (defScope s_h_init__) .none kV doc pm an cdv ct) ⟨us, []⟩ = pure ((["self", "contest", "judges"] : List Str).zip us) := match us, h with | [_, _, _], _ => rfl
theorem Tx.d_h_init__ (T : Tx w K mg) : ∃ fd, FunD K "__init__" "Hall.__init__" (defArgs s_h_init__) (defBody s_h_init__) (defScope s_h_init__) [] [] (He.ma K (He.ga K "Hall") "__init__") fd := T.c.d.def_ 53 (d := dH "__init__" "Hall.__init__" 0) rfl
abbrev s_h_need_judge : Stmt := (inClass (topS 70) 1)
abbrev N_h_need_judge : List Str := ["self", "judge"]
theorem sc_h_need_judge : FnScope N_h_need_judge ["self", "judge"] (defScope s_h_need_judge) := ⟨rfl, rfl, rfl, by decide +kernel, rfl, by decide +kernel, by decide +kernel⟩
theorem b_h_need_judge (kV doc pm : Value) (an : Option Addr) (cdv ct : Value) (us : List Value) (h : us.length = 2) : bindArgs (PySem.W.fnOf "need_judge" "Hall.need_judge" (defArgs s_h_need_judge) (defBody s_h_need_judge) (defScope s_h_need_judge) .none kV doc pm an cdv ct) ⟨us, []⟩ = pure ((["self", "judge"] : List Str).zip us) := match us, h with | [_, _], _ => rfl
theorem Tx.d_h_need_judge (T : Tx w K mg) : ∃ fd, FunD K "need_judge" "Hall.need_judge" (defArgs s_h_need_judge) (defBody s_h_need_judge) (defScope s_h_need_judge) [] [] (He.ma K (He.ga K "Hall") "need_judge") fd := T.c.d.def_ 54 (d := dH "need_judge" "Hall.need_judge" 1) rfl
theorem Tx.m_h_need_judge (T : Tx w K mg) : Meth K (He.ga K "Hall") "need_judge" (He.ma K (He.ga K "Hall") "need_judge") := He.meth_ok (T.c.d.fact 99 (f := .meth "Hall" "need_judge") rfl)
abbrev s_h_offer : Stmt := (inClass (topS 70) 2)
abbrev N_h_offer : List Str := ["self", "team", "task", "time"]
theorem sc_h_offer : FnScope N_h_offer ["self", "team", "task", "time"] (defScope s_h_offer) := ⟨rfl, rfl, rfl, by decide +kernel, rfl, by decide +kernel, by decide +kernel⟩
theorem b_h_offer (kV doc pm : Value) (an : Option Addr) (cdv ct : Value) (us : List Value) (h : us.length = 4) : bindArgs (PySem.W.fnOf "offer" "Hall.offer" (defArgs s_h_offer) (defBody s_h_offer) (defScope s_h_offer) .none kV doc pm an cdv ct) ⟨us, []⟩ = pure ((["self", "team", "task", "time"] : List Str).zip us) := match us, h with | [_, _, _, _], _ => rfl
theorem Tx.d_h_offer (T : Tx w K mg) : ∃ fd, FunD K "offer" "Hall.offer" (defArgs s_h_offer) (defBody s_h_offer) (defScope s_h_offer) [] [] (He.ma K (He.ga K "Hall") "offer") fd := T.c.d.def_ 55 (d := dH "offer" "Hall.offer" 2) rfl
theorem Tx.m_h_offer (T : Tx w K mg) : Meth K (He.ga K "Hall") "offer" (He.ma K (He.ga K "Hall") "offer") := He.meth_ok (T.c.d.fact 100 (f := .meth "Hall" "offer") rfl)
abbrev s_h_free : Stmt := (inClass (topS 70) 3)
abbrev N_h_free : List Str := ["self", "work"]
theorem sc_h_free : FnScope N_h_free ["self"] (defScope s_h_free) := ⟨rfl, rfl, rfl, by decide +kernel, rfl, by decide +kernel, by decide +kernel⟩
theorem b_h_free (kV doc pm : Value) (an : Option Addr) (cdv ct : Value) (us : List Value) (h : us.length = 1) : bindArgs (PySem.W.fnOf "free" "Hall.free" (defArgs s_h_free) (defBody s_h_free) (defScope s_h_free) .none kV doc pm an cdv ct) ⟨us, []⟩ = pure ((["self"] : List Str).zip us) := match us, h with | [_], _ => rfl
theorem Tx.d_h_free (T : Tx w K mg) : ∃ fd, FunD K "free" "Hall.free" (defArgs s_h_free) (defBody s_h_free) (defScope s_h_free) [] [] (He.ma K (He.ga K "Hall") "free") fd := T.c.d.def_ 56 (d := dH "free" "Hall.free" 3) rfl
theorem Tx.m_h_free (T : Tx w K mg) : Meth K (He.ga K "Hall") "free" (He.ma K (He.ga K "Hall") "free") := He.meth_ok (T.c.d.fact 101 (f := .meth "Hall" "free") rfl)
abbrev s_h_take : Stmt := (inClass (topS 70) 4)
abbrev N_h_take : List Str := ["self", "judge", "some"]
theorem sc_h_take : FnScope N_h_take ["self", "judge"] (defScope s_h_take) := ⟨rfl, rfl, rfl, by decide +kernel, rfl, by decide +kernel, by decide +kernel⟩
theorem b_h_take (kV doc pm : Value) (an : Option Addr) (cdv ct : Value) (us : List Value) (h : us.length = 2) : bindArgs (PySem.W.fnOf "take" "Hall.take" (defArgs s_h_take) (defBody s_h_take) (defScope s_h_take) .none kV doc pm an cdv ct) ⟨us, []⟩ = pure ((["self", "judge"] : List Str).zip us) := match us, h with | [_, _], _ => rfl
theorem Tx.d_h_take (T : Tx w K mg) : ∃ fd, FunD K "take" "Hall.take" (defArgs s_h_take) (defBody s_h_take) (defScope s_h_take) [] [] (He.ma K (He.ga K "Hall") "take") fd := T.c.d.def_ 57 (d := dH "take" "Hall.take" 4) rfl
theorem Tx.m_h_take (T : Tx w K mg) : Meth K (He.ga K "Hall") "take" (He.ma K (He.ga K "Hall") "take") := He.meth_ok (T.c.d.fact 102 (f := .meth "Hall" "take") rfl)
abbrev s_h_tell : Stmt := (inClass (topS 70) 5)
abbrev N_h_tell : List Str := ["self", "judge", "passed"]
theorem sc_h_tell : FnScope N_h_tell ["self", "judge", "passed"] (defScope s_h_tell) := ⟨rfl, rfl, rfl, by decide +kernel, rfl, by decide +kernel, by decide +kernel⟩
theorem b_h_tell (kV doc pm : Value) (an : Option Addr) (cdv ct : Value) (us : List Value) (h : us.length = 3) : bindArgs (PySem.W.fnOf "tell" "Hall.tell" (defArgs s_h_tell) (defBody s_h_tell) (defScope s_h_tell) .none kV doc pm an cdv ct) ⟨us, []⟩ = pure ((["self", "judge", "passed"] : List Str).zip us) := match us, h with | [_, _, _], _ => rfl
theorem Tx.d_h_tell (T : Tx w K mg) : ∃ fd, FunD K "tell" "Hall.tell" (defArgs s_h_tell) (defBody s_h_tell) (defScope s_h_tell) [] [] (He.ma K (He.ga K "Hall") "tell") fd := T.c.d.def_ 58 (d := dH "tell" "Hall.tell" 5) rfl
theorem Tx.m_h_tell (T : Tx w K mg) : Meth K (He.ga K "Hall") "tell" (He.ma K (He.ga K "Hall") "tell") := He.meth_ok (T.c.d.fact 103 (f := .meth "Hall" "tell") rfl)
abbrev s_h_fall : Stmt := (inClass (topS 70) 6)
abbrev N_h_fall : List Str := ["self", "judge"]
theorem sc_h_fall : FnScope N_h_fall ["self", "judge"] (defScope s_h_fall) := ⟨rfl, rfl, rfl, by decide +kernel, rfl, by decide +kernel, by decide +kernel⟩
theorem b_h_fall (kV doc pm : Value) (an : Option Addr) (cdv ct : Value) (us : List Value) (h : us.length = 2) : bindArgs (PySem.W.fnOf "fall" "Hall.fall" (defArgs s_h_fall) (defBody s_h_fall) (defScope s_h_fall) .none kV doc pm an cdv ct) ⟨us, []⟩ = pure ((["self", "judge"] : List Str).zip us) := match us, h with | [_, _], _ => rfl
theorem Tx.d_h_fall (T : Tx w K mg) : ∃ fd, FunD K "fall" "Hall.fall" (defArgs s_h_fall) (defBody s_h_fall) (defScope s_h_fall) [] [] (He.ma K (He.ga K "Hall") "fall") fd := T.c.d.def_ 59 (d := dH "fall" "Hall.fall" 6) rfl
theorem Tx.m_h_fall (T : Tx w K mg) : Meth K (He.ga K "Hall") "fall" (He.ma K (He.ga K "Hall") "fall") := He.meth_ok (T.c.d.fact 104 (f := .meth "Hall" "fall") rfl)
abbrev s_h_mend : Stmt := (inClass (topS 70) 7)
abbrev N_h_mend : List Str := ["self", "task", "trial", "number", "one", "work"]
theorem sc_h_mend : FnScope N_h_mend ["self", "task", "trial"] (defScope s_h_mend) := ⟨rfl, rfl, rfl, by decide +kernel, rfl, by decide +kernel, by decide +kernel⟩
theorem b_h_mend (kV doc pm : Value) (an : Option Addr) (cdv ct : Value) (us : List Value) (h : us.length = 3) : bindArgs (PySem.W.fnOf "mend" "Hall.mend" (defArgs s_h_mend) (defBody s_h_mend) (defScope s_h_mend) .none kV doc pm an cdv ct) ⟨us, []⟩ = pure ((["self", "task", "trial"] : List Str).zip us) := match us, h with | [_, _, _], _ => rfl
theorem Tx.d_h_mend (T : Tx w K mg) : ∃ fd, FunD K "mend" "Hall.mend" (defArgs s_h_mend) (defBody s_h_mend) (defScope s_h_mend) [] [] (He.ma K (He.ga K "Hall") "mend") fd := T.c.d.def_ 60 (d := dH "mend" "Hall.mend" 7) rfl
theorem Tx.m_h_mend (T : Tx w K mg) : Meth K (He.ga K "Hall") "mend" (He.ma K (He.ga K "Hall") "mend") := He.meth_ok (T.c.d.fact 105 (f := .meth "Hall" "mend") rfl)
abbrev s_h_tries : Stmt := (inClass (topS 70) 8)
abbrev N_h_tries : List Str := ["self"]
theorem sc_h_tries : FnScope N_h_tries ["self"] (defScope s_h_tries) := ⟨rfl, rfl, rfl, by decide +kernel, rfl, by decide +kernel, by decide +kernel⟩
theorem b_h_tries (kV doc pm : Value) (an : Option Addr) (cdv ct : Value) (us : List Value) (h : us.length = 1) : bindArgs (PySem.W.fnOf "tries" "Hall.tries" (defArgs s_h_tries) (defBody s_h_tries) (defScope s_h_tries) .none kV doc pm an cdv ct) ⟨us, []⟩ = pure ((["self"] : List Str).zip us) := match us, h with | [_], _ => rfl
theorem Tx.d_h_tries (T : Tx w K mg) : ∃ fd, FunD K "tries" "Hall.tries" (defArgs s_h_tries) (defBody s_h_tries) (defScope s_h_tries) [] [] (He.ma K (He.ga K "Hall") "tries") fd := T.c.d.def_ 61 (d := dH "tries" "Hall.tries" 8) rfl
theorem Tx.m_h_tries (T : Tx w K mg) : Meth K (He.ga K "Hall") "tries" (He.ma K (He.ga K "Hall") "tries") := He.meth_ok (T.c.d.fact 106 (f := .meth "Hall" "tries") rfl)
abbrev s_h_verdicts : Stmt := (inClass (topS 70) 9)
abbrev N_h_verdicts : List Str := ["self", "key"]
theorem sc_h_verdicts : FnScope N_h_verdicts ["self"] (defScope s_h_verdicts) := ⟨rfl, rfl, rfl, by decide +kernel, rfl, by decide +kernel, by decide +kernel⟩
theorem b_h_verdicts (kV doc pm : Value) (an : Option Addr) (cdv ct : Value) (us : List Value) (h : us.length = 1) : bindArgs (PySem.W.fnOf "verdicts" "Hall.verdicts" (defArgs s_h_verdicts) (defBody s_h_verdicts) (defScope s_h_verdicts) .none kV doc pm an cdv ct) ⟨us, []⟩ = pure ((["self"] : List Str).zip us) := match us, h with | [_], _ => rfl
theorem Tx.d_h_verdicts (T : Tx w K mg) : ∃ fd, FunD K "verdicts" "Hall.verdicts" (defArgs s_h_verdicts) (defBody s_h_verdicts) (defScope s_h_verdicts) [] [] (He.ma K (He.ga K "Hall") "verdicts") fd := T.c.d.def_ 62 (d := dH "verdicts" "Hall.verdicts" 9) rfl
theorem Tx.m_h_verdicts (T : Tx w K mg) : Meth K (He.ga K "Hall") "verdicts" (He.ma K (He.ga K "Hall") "verdicts") := He.meth_ok (T.c.d.fact 107 (f := .meth "Hall" "verdicts") rfl)
abbrev s_h_had : Stmt := (inClass (topS 70) 10)
abbrev N_h_had : List Str := ["self", "judge", "work"]
theorem sc_h_had : FnScope N_h_had ["self"] (defScope s_h_had) := ⟨rfl, rfl, rfl, by decide +kernel, rfl, by decide +kernel, by decide +kernel⟩
theorem b_h_had (kV doc pm : Value) (an : Option Addr) (cdv ct : Value) (us : List Value) (h : us.length = 1) : bindArgs (PySem.W.fnOf "had" "Hall.had" (defArgs s_h_had) (defBody s_h_had) (defScope s_h_had) .none kV doc pm an cdv ct) ⟨us, []⟩ = pure ((["self"] : List Str).zip us) := match us, h with | [_], _ => rfl
theorem Tx.d_h_had (T : Tx w K mg) : ∃ fd, FunD K "had" "Hall.had" (defArgs s_h_had) (defBody s_h_had) (defScope s_h_had) [] [] (He.ma K (He.ga K "Hall") "had") fd := T.c.d.def_ 63 (d := dH "had" "Hall.had" 10) rfl
theorem Tx.m_h_had (T : Tx w K mg) : Meth K (He.ga K "Hall") "had" (He.ma K (He.ga K "Hall") "had") := He.meth_ok (T.c.d.fact 108 (f := .meth "Hall" "had") rfl)
abbrev s_h_standings : Stmt := (inClass (topS 70) 11)
abbrev N_h_standings : List Str := ["self"]
theorem sc_h_standings : FnScope N_h_standings ["self"] (defScope s_h_standings) := ⟨rfl, rfl, rfl, by decide +kernel, rfl, by decide +kernel, by decide +kernel⟩
theorem b_h_standings (kV doc pm : Value) (an : Option Addr) (cdv ct : Value) (us : List Value) (h : us.length = 1) : bindArgs (PySem.W.fnOf "standings" "Hall.standings" (defArgs s_h_standings) (defBody s_h_standings) (defScope s_h_standings) .none kV doc pm an cdv ct) ⟨us, []⟩ = pure ((["self"] : List Str).zip us) := match us, h with | [_], _ => rfl
theorem Tx.d_h_standings (T : Tx w K mg) : ∃ fd, FunD K "standings" "Hall.standings" (defArgs s_h_standings) (defBody s_h_standings) (defScope s_h_standings) [] [] (He.ma K (He.ga K "Hall") "standings") fd := T.c.d.def_ 64 (d := dH "standings" "Hall.standings" 11) rfl
theorem Tx.m_h_standings (T : Tx w K mg) : Meth K (He.ga K "Hall") "standings" (He.ma K (He.ga K "Hall") "standings") := He.meth_ok (T.c.d.fact 109 (f := .meth "Hall" "standings") rfl)
abbrev s_h_board : Stmt := (inClass (topS 70) 12)
abbrev N_h_board : List Str := ["self"]
theorem sc_h_board : FnScope N_h_board ["self"] (defScope s_h_board) := ⟨rfl, rfl, rfl, by decide +kernel, rfl, by decide +kernel, by decide +kernel⟩
theorem b_h_board (kV doc pm : Value) (an : Option Addr) (cdv ct : Value) (us : List Value) (h : us.length = 1) : bindArgs (PySem.W.fnOf "board" "Hall.board" (defArgs s_h_board) (defBody s_h_board) (defScope s_h_board) .none kV doc pm an cdv ct) ⟨us, []⟩ = pure ((["self"] : List Str).zip us) := match us, h with | [_], _ => rfl
theorem Tx.d_h_board (T : Tx w K mg) : ∃ fd, FunD K "board" "Hall.board" (defArgs s_h_board) (defBody s_h_board) (defScope s_h_board) [] [] (He.ma K (He.ga K "Hall") "board") fd := T.c.d.def_ 65 (d := dH "board" "Hall.board" 12) rfl
theorem Tx.m_h_board (T : Tx w K mg) : Meth K (He.ga K "Hall") "board" (He.ma K (He.ga K "Hall") "board") := He.meth_ok (T.c.d.fact 110 (f := .meth "Hall" "board") rfl)
abbrev s_h_log : Stmt := (inClass (topS 70) 14)
abbrev N_h_log : List Str := ["self"]
theorem sc_h_log : FnScope N_h_log ["self"] (defScope s_h_log) := ⟨rfl, rfl, rfl, by decide +kernel, rfl, by decide +kernel, by decide +kernel⟩
theorem b_h_log (kV doc pm : Value) (an : Option Addr) (cdv ct : Value) (us : List Value) (h : us.length = 1) : bindArgs (PySem.W.fnOf "log" "Hall.log" (defArgs s_h_log) (defBody s_h_log) (defScope s_h_log) .none kV doc pm an cdv ct) ⟨us, []⟩ = pure ((["self"] : List Str).zip us) := match us, h with | [_], _ => rfl
theorem Tx.d_h_log (T : Tx w K mg) : ∃ fd, FunD K "log" "Hall.log" (defArgs s_h_log) (defBody s_h_log) (defScope s_h_log) [] [] (He.ma K (He.ga K "Hall") "log") fd := T.c.d.def_ 66 (d := dH "log" "Hall.log" 14) rfl
theorem Tx.m_h_log (T : Tx w K mg) : Meth K (He.ga K "Hall") "log" (He.ma K (He.ga K "Hall") "log") := He.meth_ok (T.c.d.fact 111 (f := .meth "Hall" "log") rfl)
abbrev s_is_entry : Stmt := topS 75
abbrev N_is_entry : List Str := ["entry", "numbers", "part"]
theorem sc_is_entry : FnScope N_is_entry ["entry"] (defScope s_is_entry) := ⟨rfl, rfl, rfl, by decide +kernel, rfl, by decide +kernel, by decide +kernel⟩
theorem b_is_entry (kV doc pm : Value) (an : Option Addr) (cdv ct : Value) (us : List Value) (h : us.length = 1) : bindArgs (PySem.W.fnOf "is_entry" "is_entry" (defArgs s_is_entry) (defBody s_is_entry) (defScope s_is_entry) .none kV doc pm an cdv ct) ⟨us, []⟩ = pure ((["entry"] : List Str).zip us) := match us, h with | [_], _ => rfl
theorem Tx.d_is_entry (T : Tx w K mg) : ∃ fd, FunD K "is_entry" "is_entry" (defArgs s_is_entry) (defBody s_is_entry) (defScope s_is_entry) [] [] (He.ga K "is_entry") fd := T.c.d.def_ 32 (d := dG "is_entry" 75) rfl
theorem Tx.g_is_entry (T : Tx w K mg) : mg "is_entry" = some (.ref (He.ga K "is_entry")) := T.glo 32
abbrev s_need_log : Stmt := topS 76
abbrev N_need_log : List Str := ["log", "at", "entry"]
theorem sc_need_log : FnScope N_need_log ["log"] (defScope s_need_log) := ⟨rfl, rfl, rfl, by decide +kernel, rfl, by decide +kernel, by decide +kernel⟩
theorem b_need_log (kV doc pm : Value) (an : Option Addr) (cdv ct : Value) (us : List Value) (h : us.length = 1) : bindArgs (PySem.W.fnOf "need_log" "need_log" (defArgs s_need_log) (defBody s_need_log) (defScope s_need_log) .none kV doc pm an cdv ct) ⟨us, []⟩ = pure ((["log"] : List Str).zip us) := match us, h with | [_], _ => rfl
theorem Tx.d_need_log (T : Tx w K mg) : ∃ fd, FunD K "need_log" "need_log" (defArgs s_need_log) (defBody s_need_log) (defScope s_need_log) [] [] (He.ga K "need_log") fd := T.c.d.def_ 33 (d := dG "need_log" 76) rfl
theorem Tx.g_need_log (T : Tx w K mg) : mg "need_log" = some (.ref (He.ga K "need_log")) := T.glo 33
abbrev s_may_be : Stmt := topS 77
abbrev N_may_be : List Str := ["hall", "entry"]
theorem sc_may_be : FnScope N_may_be ["hall", "entry"] (defScope s_may_be) := ⟨rfl, rfl, rfl, by decide +kernel, rfl, by decide +kernel, by decide +kernel⟩
theorem b_may_be (kV doc pm : Value) (an : Option Addr) (cdv ct : Value) (us : List Value) (h : us.length = 2) : bindArgs (PySem.W.fnOf "may_be" "may_be" (defArgs s_may_be) (defBody s_may_be) (defScope s_may_be) .none kV doc pm an cdv ct) ⟨us, []⟩ = pure ((["hall", "entry"] : List Str).zip us) := match us, h with | [_, _], _ => rfl
theorem Tx.d_may_be (T : Tx w K mg) : ∃ fd, FunD K "may_be" "may_be" (defArgs s_may_be) (defBody s_may_be) (defScope s_may_be) [] [] (He.ga K "may_be") fd := T.c.d.def_ 34 (d := dG "may_be" 77) rfl
theorem Tx.g_may_be (T : Tx w K mg) : mg "may_be" = some (.ref (He.ga K "may_be")) := T.glo 34
abbrev s_judged : Stmt := topS 78
abbrev N_judged : List Str := ["contest", "judges", "log", "hall", "at", "entry"]
theorem sc_judged : FnScope N_judged ["contest", "judges", "log"] (defScope s_judged) := ⟨rfl, rfl, rfl, by decide +kernel, rfl, by decide +kernel, by decide +kernel⟩
theorem b_judged (kV doc pm : Value) (an : Option Addr) (cdv ct : Value) (us : List Value) (h : us.length = 3) : bindArgs (PySem.W.fnOf "judged" "judged" (defArgs s_judged) (defBody s_judged) (defScope s_judged) .none kV doc pm an cdv ct) ⟨us, []⟩ = pure ((["contest", "judges", "log"] : List Str).zip us) := match us, h with | [_, _, _], _ => rfl
theorem Tx.d_judged (T : Tx w K mg) : ∃ fd, FunD K "judged" "judged" (defArgs s_judged) (defBody s_judged) (defScope s_judged) [] [] (He.ga K "judged") fd := T.c.d.def_ 35 (d := dG "judged" 78) rfl
theorem Tx.g_judged (T : Tx w K mg) : mg "judged" = some (.ref (He.ga K "judged")) := T.glo 35
abbrev s_law_dice : Stmt := topS 80
abbrev N_law_dice : List Str := ["_law_script", "_law_k", "_law_found", "_law_cell"]
theorem sc_law_dice : FnScope N_law_dice ["_law_script", "_law_k"] (defScope s_law_dice) := ⟨rfl, rfl, rfl, by decide +kernel, rfl, by decide +kernel, by decide +kernel⟩
theorem b_law_dice (kV doc pm : Value) (an : Option Addr) (cdv ct : Value) (us : List Value) (h : us.length = 2) : bindArgs (PySem.W.fnOf "_law_dice" "_law_dice" (defArgs s_law_dice) (defBody s_law_dice) (defScope s_law_dice) .none kV doc pm an cdv ct) ⟨us, []⟩ = pure ((["_law_script", "_law_k"] : List Str).zip us) := match us, h with | [_, _], _ => rfl
theorem Tx.d_law_dice (T : Tx w K mg) : ∃ fd, FunD K "_law_dice" "_law_dice" (defArgs s_law_dice) (defBody s_law_dice) (defScope s_law_dice) [] [] (He.ga K "_law_dice") fd := T.c.d.def_ 36 (d := dG "_law_dice" 80) rfl
theorem Tx.g_law_dice (T : Tx w K mg) : mg "_law_dice" = some (.ref (He.ga K "_law_dice")) := T.glo 36
abbrev s_law_off : Stmt := topS 81
abbrev N_law_off : List Str := ["_law_d", "_law_most", "_law_found"]
theorem sc_law_off : FnScope N_law_off ["_law_d", "_law_most"] (defScope s_law_off) := ⟨rfl, rfl, rfl, by decide +kernel, rfl, by decide +kernel, by decide +kernel⟩
theorem b_law_off (kV doc pm : Value) (an : Option Addr) (cdv ct : Value) (us : List Value) (h : us.length = 2) : bindArgs (PySem.W.fnOf "_law_off" "_law_off" (defArgs s_law_off) (defBody s_law_off) (defScope s_law_off) .none kV doc pm an cdv ct) ⟨us, []⟩ = pure ((["_law_d", "_law_most"] : List Str).zip us) := match us, h with | [_, _], _ => rfl
theorem Tx.d_law_off (T : Tx w K mg) : ∃ fd, FunD K "_law_off" "_law_off" (defArgs s_law_off) (defBody s_law_off) (defScope s_law_off) [] [] (He.ga K "_law_off") fd := T.c.d.def_ 37 (d := dG "_law_off" 81) rfl
theorem Tx.g_law_off (T : Tx w K mg) : mg "_law_off" = some (.ref (He.ga K "_law_off")) := T.glo 37
abbrev s_law_alike : Stmt := topS 82
abbrev N_law_alike : List Str := ["_law_found", "_law_due", "_law_k"]
theorem sc_law_alike : FnScope N_law_alike ["_law_found", "_law_due"] (defScope s_law_alike) := ⟨rfl, rfl, rfl, by decide +kernel, rfl, by decide +kernel, by decide +kernel⟩
theorem b_law_alike (kV doc pm : Value) (an : Option Addr) (cdv ct : Value) (us : List Value) (h : us.length = 2) : bindArgs (PySem.W.fnOf "_law_alike" "_law_alike" (defArgs s_law_alike) (defBody s_law_alike) (defScope s_law_alike) .none kV doc pm an cdv ct) ⟨us, []⟩ = pure ((["_law_found", "_law_due"] : List Str).zip us) := match us, h with | [_, _], _ => rfl
theorem Tx.d_law_alike (T : Tx w K mg) : ∃ fd, FunD K "_law_alike" "_law_alike" (defArgs s_law_alike) (defBody s_law_alike) (defScope s_law_alike) [] [] (He.ga K "_law_alike") fd := T.c.d.def_ 38 (d := dG "_law_alike" 82) rfl
theorem Tx.g_law_alike (T : Tx w K mg) : mg "_law_alike" = some (.ref (He.ga K "_law_alike")) := T.glo 38
abbrev s_law_size : Stmt := topS 83
abbrev N_law_size : List Str := ["_law_contest", "_law_task", "_law_many", "_law_points"]
theorem sc_law_size : FnScope N_law_size ["_law_contest", "_law_task"] (defScope s_law_size) := ⟨rfl, rfl, rfl, by decide +kernel, rfl, by decide +kernel, by decide +kernel⟩
theorem b_law_size (kV doc pm : Value) (an : Option Addr) (cdv ct : Value) (us : List Value) (h : us.length = 2) : bindArgs (PySem.W.fnOf "_law_size" "_law_size" (defArgs s_law_size) (defBody s_law_size) (defScope s_law_size) .none kV doc pm an cdv ct) ⟨us, []⟩ = pure ((["_law_contest", "_law_task"] : List Str).zip us) := match us, h with | [_, _], _ => rfl
theorem Tx.d_law_size (T : Tx w K mg) : ∃ fd, FunD K "_law_size" "_law_size" (defArgs s_law_size) (defBody s_law_size) (defScope s_law_size) [] [] (He.ga K "_law_size") fd := T.c.d.def_ 39 (d := dG "_law_size" 83) rfl
theorem Tx.g_law_size (T : Tx w K mg) : mg "_law_size" = some (.ref (He.ga K "_law_size")) := T.glo 39
abbrev s_law_matter : Stmt := topS 84
abbrev N_law_matter : List Str := ["_law_contest", "_law_tries", "_law_verdicts", "_law_told", "_law_solved", "_law_found", "_law_number", "_law_size_here", "_law_trial", "_law_mine", "_law_states", "_law_here", "_law_many", "_law_points", "_law_some", "_law_is_late", "_law_skips", "_law_g", "_law_k", "_law_verdict"]
theorem sc_law_matter : FnScope N_law_matter ["_law_contest", "_law_tries", "_law_verdicts"] (defScope s_law_matter) := ⟨rfl, rfl, rfl, by decide +kernel, rfl, by decide +kernel, by decide +kernel⟩
theorem b_law_matter (kV doc pm : Value) (an : Option Addr) (cdv ct : Value) (us : List Value) (h : us.length = 3) : bindArgs (PySem.W.fnOf "_law_matter" "_law_matter" (defArgs s_law_matter) (defBody s_law_matter) (defScope s_law_matter) .none kV doc pm an cdv ct) ⟨us, []⟩ = pure ((["_law_contest", "_law_tries", "_law_verdicts"] : List Str).zip us) := match us, h with | [_, _, _], _ => rfl
theorem Tx.d_law_matter (T : Tx w K mg) : ∃ fd, FunD K "_law_matter" "_law_matter" (defArgs s_law_matter) (defBody s_law_matter) (defScope s_law_matter) [] [] (He.ga K "_law_matter") fd := T.c.d.def_ 40 (d := dG "_law_matter" 84) rfl
theorem Tx.g_law_matter (T : Tx w K mg) : mg "_law_matter" = some (.ref (He.ga K "_law_matter")) := T.glo 40
abbrev s_law_is_whole : Stmt := topS 85
abbrev N_law_is_whole : List Str := ["_law_states", "_law_state"]
theorem sc_law_is_whole : FnScope N_law_is_whole ["_law_states"] (defScope s_law_is_whole) := ⟨rfl, rfl, rfl, by decide +kernel, rfl, by decide +kernel, by decide +kernel⟩
theorem b_law_is_whole (kV doc pm : Value) (an : Option Addr) (cdv ct : Value) (us : List Value) (h : us.length = 1) : bindArgs (PySem.W.fnOf "_law_is_whole" "_law_is_whole" (defArgs s_law_is_whole) (defBody s_law_is_whole) (defScope s_law_is_whole) .none kV doc pm an cdv ct) ⟨us, []⟩ = pure ((["_law_states"] : List Str).zip us) := match us, h with | [_], _ => rfl
theorem Tx.d_law_is_whole (T : Tx w K mg) : ∃ fd, FunD K "_law_is_whole" "_law_is_whole" (defArgs s_law_is_whole) (defBody s_law_is_whole) (defScope s_law_is_whole) [] [] (He.ga K "_law_is_whole") fd := T.c.d.def_ 41 (d := dG "_law_is_whole" 85) rfl
theorem Tx.g_law_is_whole (T : Tx w K mg) : mg "_law_is_whole" = some (.ref (He.ga K "_law_is_whole")) := T.glo 41
abbrev s_law_hall : Stmt := topS 86
abbrev N_law_hall : List Str := ["_law_contest", "_law_judges", "_law_s"]
theorem sc_law_hall : FnScope N_law_hall ["_law_contest", "_law_judges"] (defScope s_law_hall) := ⟨rfl, rfl, rfl, by decide +kernel, rfl, by decide +kernel, by decide +kernel⟩
theorem b_law_hall (kV doc pm : Value) (an : Option Addr) (cdv ct : Value) (us : List Value) (h : us.length = 2) : bindArgs (PySem.W.fnOf "_law_hall" "_law_hall" (defArgs s_law_hall) (defBody s_law_hall) (defScope s_law_hall) .none kV doc pm an cdv ct) ⟨us, []⟩ = pure ((["_law_contest", "_law_judges"] : List Str).zip us) := match us, h with | [_, _], _ => rfl
theorem Tx.d_law_hall (T : Tx w K mg) : ∃ fd, FunD K "_law_hall" "_law_hall" (defArgs s_law_hall) (defBody s_law_hall) (defScope s_law_hall) [] [] (He.ga K "_law_hall") fd := T.c.d.def_ 42 (d := dG "_law_hall" 86) rfl
theorem Tx.g_law_hall (T : Tx w K mg) : mg "_law_hall" = some (.ref (He.ga K "_law_hall")) := T.glo 42
abbrev s_law_known : Stmt := topS 87
abbrev N_law_known : List Str := ["_law_s", "_law_spot"]
theorem sc_law_known : FnScope N_law_known ["_law_s"] (defScope s_law_known) := ⟨rfl, rfl, rfl, by decide +kernel, rfl, by decide +kernel, by decide +kernel⟩
theorem b_law_known (kV doc pm : Value) (an : Option Addr) (cdv ct : Value) (us : List Value) (h : us.length = 1) : bindArgs (PySem.W.fnOf "_law_known" "_law_known" (defArgs s_law_known) (defBody s_law_known) (defScope s_law_known) .none kV doc pm an cdv ct) ⟨us, []⟩ = pure ((["_law_s"] : List Str).zip us) := match us, h with | [_], _ => rfl
theorem Tx.d_law_known (T : Tx w K mg) : ∃ fd, FunD K "_law_known" "_law_known" (defArgs s_law_known) (defBody s_law_known) (defScope s_law_known) [] [] (He.ga K "_law_known") fd := T.c.d.def_ 43 (d := dG "_law_known" 87) rfl
theorem Tx.g_law_known (T : Tx w K mg) : mg "_law_known" = some (.ref (He.ga K "_law_known")) := T.glo 43
abbrev s_law_offer : Stmt := topS 88
abbrev N_law_offer : List Str := ["_law_d", "_law_s", "_law_contest", "_law_last", "_law_time", "_law_one"]
theorem sc_law_offer : FnScope N_law_offer ["_law_d", "_law_s"] (defScope s_law_offer) := ⟨rfl, rfl, rfl, by decide +kernel, rfl, by decide +kernel, by decide +kernel⟩
theorem b_law_offer (kV doc pm : Value) (an : Option Addr) (cdv ct : Value) (us : List Value) (h : us.length = 2) : bindArgs (PySem.W.fnOf "_law_offer" "_law_offer" (defArgs s_law_offer) (defBody s_law_offer) (defScope s_law_offer) .none kV doc pm an cdv ct) ⟨us, []⟩ = pure ((["_law_d", "_law_s"] : List Str).zip us) := match us, h with | [_, _], _ => rfl
theorem Tx.d_law_offer (T : Tx w K mg) : ∃ fd, FunD K "_law_offer" "_law_offer" (defArgs s_law_offer) (defBody s_law_offer) (defScope s_law_offer) [] [] (He.ga K "_law_offer") fd := T.c.d.def_ 44 (d := dG "_law_offer" 88) rfl
theorem Tx.g_law_offer (T : Tx w K mg) : mg "_law_offer" = some (.ref (He.ga K "_law_offer")) := T.glo 44
abbrev s_law_take : Stmt := topS 89
abbrev N_law_take : List Str := ["_law_s", "_law_judge", "_law_some", "_law_due", "_law_work"]
theorem sc_law_take : FnScope N_law_take ["_law_s", "_law_judge"] (defScope s_law_take) := ⟨rfl, rfl, rfl, by decide +kernel, rfl, by decide +kernel, by decide +kernel⟩
theorem b_law_take (kV doc pm : Value) (an : Option Addr) (cdv ct : Value) (us : List Value) (h : us.length = 2) : bindArgs (PySem.W.fnOf "_law_take" "_law_take" (defArgs s_law_take) (defBody s_law_take) (defScope s_law_take) .none kV doc pm an cdv ct) ⟨us, []⟩ = pure ((["_law_s", "_law_judge"] : List Str).zip us) := match us, h with | [_, _], _ => rfl
theorem Tx.d_law_take (T : Tx w K mg) : ∃ fd, FunD K "_law_take" "_law_take" (defArgs s_law_take) (defBody s_law_take) (defScope s_law_take) [] [] (He.ga K "_law_take") fd := T.c.d.def_ 45 (d := dG "_law_take" 89) rfl
theorem Tx.g_law_take (T : Tx w K mg) : mg "_law_take" = some (.ref (He.ga K "_law_take")) := T.glo 45
abbrev s_law_tell : Stmt := topS 90
abbrev N_law_tell : List Str := ["_law_s", "_law_judge", "_law_passed"]
theorem sc_law_tell : FnScope N_law_tell ["_law_s", "_law_judge", "_law_passed"] (defScope s_law_tell) := ⟨rfl, rfl, rfl, by decide +kernel, rfl, by decide +kernel, by decide +kernel⟩
theorem b_law_tell (kV doc pm : Value) (an : Option Addr) (cdv ct : Value) (us : List Value) (h : us.length = 3) : bindArgs (PySem.W.fnOf "_law_tell" "_law_tell" (defArgs s_law_tell) (defBody s_law_tell) (defScope s_law_tell) .none kV doc pm an cdv ct) ⟨us, []⟩ = pure ((["_law_s", "_law_judge", "_law_passed"] : List Str).zip us) := match us, h with | [_, _, _], _ => rfl
theorem Tx.d_law_tell (T : Tx w K mg) : ∃ fd, FunD K "_law_tell" "_law_tell" (defArgs s_law_tell) (defBody s_law_tell) (defScope s_law_tell) [] [] (He.ga K "_law_tell") fd := T.c.d.def_ 46 (d := dG "_law_tell" 90) rfl
theorem Tx.g_law_tell (T : Tx w K mg) : mg "_law_tell" = some (.ref (He.ga K "_law_tell")) := T.glo 46
abbrev s_law_fall : Stmt := topS 91
abbrev N_law_fall : List Str := ["_law_s", "_law_judge"]
theorem sc_law_fall : FnScope N_law_fall ["_law_s", "_law_judge"] (defScope s_law_fall) := ⟨rfl, rfl, rfl, by decide +kernel, rfl, by decide +kernel, by decide +kernel⟩
theorem b_law_fall (kV doc pm : Value) (an : Option Addr) (cdv ct : Value) (us : List Value) (h : us.length = 2) : bindArgs (PySem.W.fnOf "_law_fall" "_law_fall" (defArgs s_law_fall) (defBody s_law_fall) (defScope s_law_fall) .none kV doc pm an cdv ct) ⟨us, []⟩ = pure ((["_law_s", "_law_judge"] : List Str).zip us) := match us, h with | [_, _], _ => rfl
theorem Tx.d_law_fall (T : Tx w K mg) : ∃ fd, FunD K "_law_fall" "_law_fall" (defArgs s_law_fall) (defBody s_law_fall) (defScope s_law_fall) [] [] (He.ga K "_law_fall") fd := T.c.d.def_ 47 (d := dG "_law_fall" 91) rfl
theorem Tx.g_law_fall (T : Tx w K mg) : mg "_law_fall" = some (.ref (He.ga K "_law_fall")) := T.glo 47
abbrev s_law_mend : Stmt := topS 92
abbrev N_law_mend : List Str := ["_law_s", "_law_task", "_law_trial", "_law_number", "_law_work"]
theorem sc_law_mend : FnScope N_law_mend ["_law_s", "_law_task", "_law_trial"] (defScope s_law_mend) := ⟨rfl, rfl, rfl, by decide +kernel, rfl, by decide +kernel, by decide +kernel⟩
theorem b_law_mend (kV doc pm : Value) (an : Option Addr) (cdv ct : Value) (us : List Value) (h : us.length = 3) : bindArgs (PySem.W.fnOf "_law_mend" "_law_mend" (defArgs s_law_mend) (defBody s_law_mend) (defScope s_law_mend) .none kV doc pm an cdv ct) ⟨us, []⟩ = pure ((["_law_s", "_law_task", "_law_trial"] : List Str).zip us) := match us, h with | [_, _, _], _ => rfl
theorem Tx.d_law_mend (T : Tx w K mg) : ∃ fd, FunD K "_law_mend" "_law_mend" (defArgs s_law_mend) (defBody s_law_mend) (defScope s_law_mend) [] [] (He.ga K "_law_mend") fd := T.c.d.def_ 48 (d := dG "_law_mend" 92) rfl
theorem Tx.g_law_mend (T : Tx w K mg) : mg "_law_mend" = some (.ref (He.ga K "_law_mend")) := T.glo 48
abbrev s_law_small : Stmt := topS 93
abbrev N_law_small : List Str := ["_law_d", "_law_tasks", "_law_task", "_law_groups", "_law_group"]
theorem sc_law_small : FnScope N_law_small ["_law_d"] (defScope s_law_small) := ⟨rfl, rfl, rfl, by decide +kernel, rfl, by decide +kernel, by decide +kernel⟩
theorem b_law_small (kV doc pm : Value) (an : Option Addr) (cdv ct : Value) (us : List Value) (h : us.length = 1) : bindArgs (PySem.W.fnOf "_law_small" "_law_small" (defArgs s_law_small) (defBody s_law_small) (defScope s_law_small) .none kV doc pm an cdv ct) ⟨us, []⟩ = pure ((["_law_d"] : List Str).zip us) := match us, h with | [_], _ => rfl
theorem Tx.d_law_small (T : Tx w K mg) : ∃ fd, FunD K "_law_small" "_law_small" (defArgs s_law_small) (defBody s_law_small) (defScope s_law_small) [] [] (He.ga K "_law_small") fd := T.c.d.def_ 49 (d := dG "_law_small" 93) rfl
theorem Tx.g_law_small (T : Tx w K mg) : mg "_law_small" = some (.ref (He.ga K "_law_small")) := T.glo 49
abbrev s_law_stands : Stmt := topS 94
abbrev N_law_stands : List Str := ["_law_s", "_law_hall_here", "_law_had", "_law_found", "_law_judge"]
theorem sc_law_stands : FnScope N_law_stands ["_law_s"] (defScope s_law_stands) := ⟨rfl, rfl, rfl, by decide +kernel, rfl, by decide +kernel, by decide +kernel⟩
theorem b_law_stands (kV doc pm : Value) (an : Option Addr) (cdv ct : Value) (us : List Value) (h : us.length = 1) : bindArgs (PySem.W.fnOf "_law_stands" "_law_stands" (defArgs s_law_stands) (defBody s_law_stands) (defScope s_law_stands) .none kV doc pm an cdv ct) ⟨us, []⟩ = pure ((["_law_s"] : List Str).zip us) := match us, h with | [_], _ => rfl
theorem Tx.d_law_stands (T : Tx w K mg) : ∃ fd, FunD K "_law_stands" "_law_stands" (defArgs s_law_stands) (defBody s_law_stands) (defScope s_law_stands) [] [] (He.ga K "_law_stands") fd := T.c.d.def_ 50 (d := dG "_law_stands" 94) rfl
theorem Tx.g_law_stands (T : Tx w K mg) : mg "_law_stands" = some (.ref (He.ga K "_law_stands")) := T.glo 50
abbrev s_law_goes_on : Stmt := topS 95
abbrev N_law_goes_on : List Str := ["_law_d", "_law_s", "_law_judge", "_law_kind", "_law_task"]
theorem sc_law_goes_on : FnScope N_law_goes_on ["_law_d", "_law_s"] (defScope s_law_goes_on) := ⟨rfl, rfl, rfl, by decide +kernel, rfl, by decide +kernel, by decide +kernel⟩
theorem b_law_goes_on (kV doc pm : Value) (an : Option Addr) (cdv ct : Value) (us : List Value) (h : us.length = 2) : bindArgs (PySem.W.fnOf "_law_goes_on" "_law_goes_on" (defArgs s_law_goes_on) (defBody s_law_goes_on) (defScope s_law_goes_on) .none kV doc pm an cdv ct) ⟨us, []⟩ = pure ((["_law_d", "_law_s"] : List Str).zip us) := match us, h with | [_, _], _ => rfl
theorem Tx.d_law_goes_on (T : Tx w K mg) : ∃ fd, FunD K "_law_goes_on" "_law_goes_on" (defArgs s_law_goes_on) (defBody s_law_goes_on) (defScope s_law_goes_on) [] [] (He.ga K "_law_goes_on") fd := T.c.d.def_ 51 (d := dG "_law_goes_on" 95) rfl
theorem Tx.g_law_goes_on (T : Tx w K mg) : mg "_law_goes_on" = some (.ref (He.ga K "_law_goes_on")) := T.glo 51
abbrev s_law : Stmt := topS 96
abbrev N_law : List Str := ["_law_script", "_law_d", "_law_contest", "_law_s", "_law_time", "_law_early", "_law_one", "_law_event", "_law_tries", "_law_verdicts", "_law_hall_here"]
theorem sc_law : FnScope N_law ["_law_script"] (defScope s_law) := ⟨rfl, rfl, rfl, by decide +kernel, rfl, by decide +kernel, by decide +kernel⟩
theorem b_law (kV doc pm : Value) (an : Option Addr) (cdv ct : Value) (us : List Value) (h : us.length = 1) : bindArgs (PySem.W.fnOf "law" "law" (defArgs s_law) (defBody s_law) (defScope s_law) .none kV doc pm an cdv ct) ⟨us, []⟩ = pure ((["_law_script"] : List Str).zip us) := match us, h with | [_], _ => rfl
theorem Tx.d_law (T : Tx w K mg) : ∃ fd, FunD K "law" "law" (defArgs s_law) (defBody s_law) (defScope s_law) [] [] (He.ga K "law") fd := T.c.d.def_ 52 (d := dG "law" 96) rfl
theorem Tx.g_law (T : Tx w K mg) : mg "law" = some (.ref (He.ga K "law")) := T.glo 52
theorem Tx.g_Hall (T : Tx w K mg) : mg "Hall" = some (.ref (He.ga K "Hall")) := T.glo 53
theorem Tx.g_HallError (T : Tx w K mg) : mg "HallError" = some (.ref (He.ga K "HallError")) := T.glo 54
theorem Tx.g_RULES (T : Tx w K mg) : mg "RULES" = some (.ref (He.ga K "RULES")) := T.glo 55
theorem Tx.g_SIZES (T : Tx w K mg) : mg "SIZES" = some (.ref (He.ga K "SIZES")) := T.glo 56
theorem Tx.f_isinstance (T : Tx w K mg) : mg "isinstance" = none := T.fre 57
theorem Tx.f_len (T : Tx w K mg) : mg "len" = none := T.fre 58
theorem Tx.f_sum (T : Tx w K mg) : mg "sum" = none := T.fre 59
theorem Tx.f_enumerate (T : Tx w K mg) : mg "enumerate" = none := T.fre 60
theorem Tx.f_dict (T : Tx w K mg) : mg "dict" = none := T.fre 61
theorem Tx.f_range (T : Tx w K mg) : mg "range" = none := T.fre 62
theorem Tx.f_max (T : Tx w K mg) : mg "max" = none := T.fre 63
theorem Tx.f_int (T : Tx w K mg) : mg "int" = none := T.fre 64
theorem Tx.f_sorted (T : Tx w K mg) : mg "sorted" = none := T.fre 65
theorem Tx.f_tuple (T : Tx w K mg) : mg "tuple" = none := T.fre 66
theorem Tx.f_list (T : Tx w K mg) : mg "list" = none := T.fre 67
theorem Tx.f_abs (T : Tx w K mg) : mg "abs" = none := T.fre 68
theorem Tx.f_all (T : Tx w K mg) : mg "all" = none := T.fre 69
theorem Tx.f_min (T : Tx w K mg) : mg "min" = none := T.fre 70
theorem Tx.f_bool (T : Tx w K mg) : mg "bool" = none := T.fre 71
theorem Tx.f_str (T : Tx w K mg) : mg "str" = none := T.fre 72
theorem Tx.s_FIRST (T : Tx w K mg) : ∃ t, mg "FIRST" = some (.str "first" t) := T.st 73
theorem Tx.s_BEST (T : Tx w K mg) : ∃ t, mg "BEST" = some (.str "best" t) := T.st 74
theorem Tx.s_GROUPS (T : Tx w K mg) : ∃ t, mg "GROUPS" = some (.str "groups" t) := T.st 75
theorem Tx.i_MOST_TEAMS (T : Tx w K mg) : ∃ t, mg "MOST_TEAMS" = some (.int 12 t) := T.nt 76
theorem Tx.i_MOST_TASKS (T : Tx w K mg) : ∃ t, mg "MOST_TASKS" = some (.int 6 t) := T.nt 77
theorem Tx.i_MOST_GROUPS (T : Tx w K mg) : ∃ t, mg "MOST_GROUPS" = some (.int 4 t) := T.nt 78
theorem Tx.i_MOST_TRIALS (T : Tx w K mg) : ∃ t, mg "MOST_TRIALS" = some (.int 5 t) := T.nt 79
theorem Tx.i_MOST_POINTS (T : Tx w K mg) : ∃ t, mg "MOST_POINTS" = some (.int 100 t) := T.nt 80
theorem Tx.i_MOST_END (T : Tx w K mg) : ∃ t, mg "MOST_END" = some (.int 300 t) := T.nt 81
theorem Tx.i_MOST_TRIES (T : Tx w K mg) : ∃ t, mg "MOST_TRIES" = some (.int 200 t) := T.nt 82
theorem Tx.i_MOST_TIME (T : Tx w K mg) : ∃ t, mg "MOST_TIME" = some (.int 999 t) := T.nt 83
theorem Tx.s_PASSED (T : Tx w K mg) : ∃ t, mg "PASSED" = some (.str "passed" t) := T.st 84
theorem Tx.s_FAILED (T : Tx w K mg) : ∃ t, mg "FAILED" = some (.str "failed" t) := T.st 85
theorem Tx.s_OPEN (T : Tx w K mg) : ∃ t, mg "OPEN" = some (.str "open" t) := T.st 86
theorem Tx.i_WRONG (T : Tx w K mg) : ∃ t, mg "WRONG" = some (.int 20 t) := T.nt 87
theorem Tx.i_LATE (T : Tx w K mg) : ∃ t, mg "LATE" = some (.int 60 t) := T.nt 88
theorem Tx.i_MOST_JUDGES (T : Tx w K mg) : ∃ t, mg "MOST_JUDGES" = some (.int 5 t) := T.nt 89
theorem Tx.i_MOST_ENTRIES (T : Tx w K mg) : ∃ t, mg "MOST_ENTRIES" = some (.int 1000 t) := T.nt 90
theorem Tx.i_MOST_NUMBER (T : Tx w K mg) : ∃ t, mg "MOST_NUMBER" = some (.int 999 t) := T.nt 91
theorem Tx.cl (T : Tx w K mg) : Cls K (He.ga K "Hall") := He.cls_ok (T.c.d.fact 92 (f := .cls "Hall") rfl)
theorem Tx.mkH (T : Tx w K mg) : Mk K (He.ga K "Hall") (He.ma K (He.ga K "Hall") "__init__") := He.mkr_ok (T.c.d.fact 93 (f := .mkr "Hall") rfl)
theorem Tx.n_contest (T : Tx w K mg) : NoAttr K (He.ga K "Hall") "contest" := He.noat_ok (T.c.d.fact 94 (f := .noat "Hall" "contest") rfl)
theorem Tx.n_offered (T : Tx w K mg) : NoAttr K (He.ga K "Hall") "offered" := He.noat_ok (T.c.d.fact 95 (f := .noat "Hall" "offered") rfl)
theorem Tx.n_table (T : Tx w K mg) : NoAttr K (He.ga K "Hall") "table" := He.noat_ok (T.c.d.fact 96 (f := .noat "Hall" "table") rfl)
theorem Tx.n_works (T : Tx w K mg) : NoAttr K (He.ga K "Hall") "works" := He.noat_ok (T.c.d.fact 97 (f := .noat "Hall" "works") rfl)
theorem Tx.n_events (T : Tx w K mg) : NoAttr K (He.ga K "Hall") "events" := He.noat_ok (T.c.d.fact 98 (f := .noat "Hall" "events") rfl)
end
end JH
set_option Elab.async false
set_option linter.all false
set_option maxRecDepth 100000
set_option maxHeartbeats 4000000
/-! the built-ins that the text names -/
namespace JH
open PySem PySem.Spec L2
theorem bt_int : bootBuiltins "int" = some (.type "int") := by decide +kernel
theorem bt_bool : bootBuiltins "bool" = some (.type "bool") := by decide +kernel
theorem bt_str : bootBuiltins "str" = some (.type "str") := by decide +kernel
theorem bt_tuple : bootBuiltins "tuple" = some (.type "tuple") := by decide +kernel
theorem bt_list : bootBuiltins "list" = some (.type "list") := by decide +kernel
theorem bt_dict : bootBuiltins "dict" = some (.type "dict") := by decide +kernel
theorem bb_len : bootBuiltins "len" = some (.builtin "len") := by decide +kernel
theorem bb_sum : bootBuiltins "sum" = some (.builtin "sum") := by decide +kernel
theorem bb_max : bootBuiltins "max" = some (.builtin "max") := by decide +kernel
theorem bb_min : bootBuiltins "min" = some (.builtin "min") := by decide +kernel
theorem bb_abs : bootBuiltins "abs" = some (.builtin "abs") := by decide +kernel
theorem bb_all : bootBuiltins "all" = some (.builtin "all") := by decide +kernel
theorem bb_sorted : bootBuiltins "sorted" = some (.builtin "sorted") := by decide +kernel
theorem ki_ii : kitB "int" "int" = some true := by decide +kernel
theorem ki_ib : kitB "int" "bool" = some false := by decide +kernel
theorem ki_it : kitB "int" "tuple" = some false := by decide +kernel
theorem ki_il : kitB "int" "list" = some false := by decide +kernel
theorem ki_is : kitB "int" "str" = some false := by decide +kernel
theorem ki_bb : kitB "bool" "bool" = some true := by decide +kernel
theorem ki_ss : kitB "str" "str" = some true := by decide +kernel
theorem ki_sb : kitB "str" "bool" = some false := by decide +kernel
theorem ki_si : kitB "str" "int" = some false := by decide +kernel
theorem ki_tt : kitB "tuple" "tuple" = some true := by decide +kernel
theorem ki_tb : kitB "tuple" "bool" = some false := by decide +kernel
theorem ki_ti : kitB "tuple" "int" = some false := by decide +kernel
theorem ki_ts : kitB "tuple" "str" = some false := by decide +kernel
theorem ki_tl : kitB "tuple" "list" = some false := by decide +kernel
theorem ki_lb : kitB "list" "bool" = some false := by decide +kernel
theorem ki_li : kitB "list" "int" = some false := by decide +kernel
theorem ki_ls : kitB "list" "str" = some false := by decide +kernel
theorem ki_lt : kitB "list" "tuple" = some false := by decide +kernel
theorem ki_ll : kitB "list" "list" = some true := by decide +kernel
end JH
set_option Elab.async false
set_option linter.all false
/-! what the text computes, over plain lists -/
namespace JH
open PySem L2
structure Ct where
  rule : Str
  teams : Nat
  fin : Nat
  frozen : Nat
  tasks : List (List (Nat × Nat) × Nat)
structure Tr where
  team : Nat
  task : Nat
  time : Nat
deriving DecidableEq
abbrev nI (n : Nat) : PyData := .int (n : Int)
def encG (g : Nat × Nat) : PyData := .tuple [nI g.1, nI g.2]
def encK (t : List (Nat × Nat) × Nat) : PyData := .tuple [.tuple (t.1.map encG), nI t.2]
def encC (C : Ct) : PyData := .tuple [.str C.rule, nI C.teams, nI C.fin, nI C.frozen, .tuple (C.tasks.map encK)]
def encTr (x : Tr) : PyData := .tuple [nI x.team, nI x.task, nI x.time]
def encTs (T : List Tr) : PyData := .list (T.map encTr)
def encW (p : Nat × Nat) : PyData := .tuple [nI p.1, nI p.2]
def encV (p : (Nat × Nat) × Bool) : PyData := .tuple [nI p.1.1, nI p.1.2, .bool p.2]
def encWo : Option (Nat × Nat) → PyData
  | some p => encW p
  | none => .none
structure Cv (C : Ct) : Prop where
  rule : C.rule = "first" ∨ C.rule = "best" ∨ C.rule = "groups"
  t1 : 2 ≤ C.teams
  t2 : C.teams ≤ 12
  e1 : 1 ≤ C.fin
  e2 : C.fin ≤ 300
  fz : C.frozen ≤ C.fin
  n1 : 1 ≤ C.tasks.length
  n2 : C.tasks.length ≤ 6
  tk : ∀ x ∈ C.tasks, 1 ≤ x.1.length ∧ x.1.length ≤ 4 ∧ x.2 ≤ C.fin ∧ ∀ g ∈ x.1, 1 ≤ g.1 ∧ g.1 ≤ 5 ∧ 1 ≤ g.2 ∧ g.2 ≤ 100
def Ct.task (C : Ct) (k : Nat) : List (Nat × Nat) × Nat := C.tasks.getD k ([], 0)
def Ct.groups (C : Ct) (k : Nat) : List (Nat × Nat) := (C.task k).1
def Ct.due (C : Ct) (k : Nat) : Nat := (C.task k).2
def trialsOf (C : Ct) (k : Nat) : Nat := ((C.groups k).map (·.1)).sum
theorem Ct.task_at (C : Ct) {k : Nat} (h : k < C.tasks.length) : C.tasks[k]? = some (C.task k) := by
  unfold Ct.task
  rw [List.getD_eq_getElem?_getD, List.getElem?_eq_getElem h]
  rfl
theorem Ct.task_mem (C : Ct) {k : Nat} (h : k < C.tasks.length) : C.task k ∈ C.tasks := List.mem_of_getElem? (C.task_at h)
theorem Cv.groups {C : Ct} (v : Cv C) {k : Nat} (h : k < C.tasks.length) : 1 ≤ (C.groups k).length ∧ (C.groups k).length ≤ 4 ∧ C.due k ≤ C.fin ∧ ∀ g ∈ C.groups k, 1 ≤ g.1 ∧ g.1 ≤ 5 ∧ 1 ≤ g.2 ∧ g.2 ≤ 100 := v.tk _ (C.task_mem h)
def trAt (T : List Tr) (n : Nat) : Tr := T.getD n ⟨0, 0, 0⟩
theorem trAt_at {T : List Tr} {n : Nat} (h : n < T.length) : T[n]? = some (trAt T n) := by
  unfold trAt
  rw [List.getD_eq_getElem?_getD, List.getElem?_eq_getElem h]
  rfl
structure Tv (C : Ct) (T : List Tr) : Prop where
  len : T.length ≤ 200
  each : ∀ x ∈ T, x.team < C.teams ∧ x.task < C.tasks.length ∧ x.time ≤ 999
  asc : ∀ n, n + 1 < T.length → (trAt T n).time ≤ (trAt T (n + 1)).time
theorem Tv.at_ {C : Ct} {T : List Tr} (v : Tv C T) {n : Nat} (h : n < T.length) : (trAt T n).team < C.teams ∧ (trAt T n).task < C.tasks.length ∧ (trAt T n).time ≤ 999 := v.each _ (List.mem_of_getElem? (trAt_at h))
/-! states -/
def FL : Str := "failed"
def OP : Str := "open"
def PA_ : Str := "passed"
def stateOf (l : List (Option Bool)) : Str := if some false ∈ l then "failed" else if none ∈ l then "open" else "passed"
def statesFrom (f : Nat → Option Bool) : Nat → List (Nat × Nat) → List Str
  | _, [] => []
  | b, g :: r => stateOf ((List.range g.1).map fun j => f (b + j)) :: statesFrom f (b + g.1) r
def groupStates (C : Ct) (T : List Tr) (t : Tbl) (n : Nat) : List Str := statesFrom (look t n) 0 (C.groups (trAt T n).task)
theorem statesFrom_len (f : Nat → Option Bool) : ∀ (b : Nat) (gs : List (Nat × Nat)), (statesFrom f b gs).length = gs.length
  | _, [] => rfl
  | b, g :: r => by rw [statesFrom, List.length_cons, List.length_cons, statesFrom_len f _ r]
def wholeOf (s : List Str) : Str := if ("failed" : Str) ∈ s then "failed" else if ("open" : Str) ∈ s then "open" else "passed"
def tryState (C : Ct) (T : List Tr) (t : Tbl) (n : Nat) : Str := wholeOf (groupStates C T t n)
def numbersOf (T : List Tr) (team task until_ : Nat) : List Nat := (T.zipIdx.filter fun p => decide (p.1.team = team) && decide (p.1.task = task) && decide (p.1.time < until_)).map (·.2)
def solvedFrom (C : Ct) (T : List Tr) (t : Tbl) : Nat → List Nat → Option (Nat × Nat)
  | _, [] => none
  | w, n :: r => if tryState C T t n = "passed" then some ((trAt T n).time + 20 * w + 60 * (if C.due (trAt T n).task ≤ (trAt T n).time then 1 else 0), (trAt T n).time)
    else solvedFrom C T t (w + if tryState C T t n = "failed" then 1 else 0) r
def worthOf (C : Ct) (T : List Tr) (n pts : Nat) : Nat := if C.due (trAt T n).task ≤ (trAt T n).time then pts / 2 else pts
def passedG (C : Ct) (T : List Tr) (t : Tbl) (n : Nat) (gs : List (Nat × Nat)) : List Nat := (List.range gs.length).filter fun g => decide ((groupStates C T t n)[g]? = some ("passed" : Str))
def pts (gs : List (Nat × Nat)) (g : Nat) : Nat := (gs.getD g (0, 0)).2
def setW (C : Ct) (T : List Tr) (n : Nat) (gs : List (Nat × Nat)) (s : List Nat) (g : Nat) : List Nat := s.set g (max (s.getD g 0) (worthOf C T n (pts gs g)))
def ptStep (C : Ct) (T : List Tr) (t : Tbl) (gs : List (Nat × Nat)) (a : Nat × List Nat) (n : Nat) : Nat × List Nat :=
  (max a.1 (worthOf C T n ((passedG C T t n gs).map (pts gs)).sum), (passedG C T t n gs).foldl (setW C T n gs) a.2)
def pointsAt (C : Ct) (T : List Tr) (t : Tbl) (ns : List Nat) (task : Nat) : Nat :=
  let a := ns.foldl (ptStep C T t (C.groups task)) (0, List.replicate (C.groups task).length 0)
  if C.rule = "best" then a.1 else a.2.sum
structure Sc where
  solved : Nat := 0
  cost : Nat := 0
  last : Nat := 0
  points : Nat := 0
def scStep (C : Ct) (T : List Tr) (t : Tbl) (team : Nat) (untils : List Nat) (a : Sc) (task : Nat) : Sc :=
  if C.rule = "first" then
    match solvedFrom C T t 0 (numbersOf T team task (untils.getD task 0)) with
    | some f => { a with solved := a.solved + 1, cost := a.cost + f.1, last := max a.last f.2 }
    | none => a
  else { a with points := a.points + pointsAt C T t (numbersOf T team task (untils.getD task 0)) task }
def scoreOf (C : Ct) (T : List Tr) (t : Tbl) (team : Nat) (untils : List Nat) : List Nat :=
  let a := (List.range C.tasks.length).foldl (scStep C T t team untils) {}
  if C.rule = "first" then [a.solved, a.cost, a.last] else [a.points]
def rankOf (s : List Nat) : List Int := (0 - (s.headD 0 : Int)) :: s.tail.map fun (n : Nat) => (n : Int)
/-- place, team, score -/
abbrev Row := Nat × Nat × List Nat
def placeAt (ss : List (List Nat)) (team : Nat) (s : List Nat) : Row := (1 + ((ss.map rankOf).filter fun r => HT.lexLt r (rankOf s)).length, team, s)
def placedU (ss : List (List Nat)) : List Row := ss.zipIdx.map fun p => placeAt ss p.2 p.1
def encRow (r : Row) : PyData := .tuple [nI r.1, nI r.2.1, .tuple (r.2.2.map nI)]
def rowLe (a b : Row) : Bool := decide (a.1 < b.1) || (decide (a.1 = b.1) && decide (a.2.1 ≤ b.2.1))
def placed (ss : List (List Nat)) : List Row := (placedU ss).mergeSort rowLe
def wholeU (C : Ct) : List Nat := List.replicate C.tasks.length C.fin
def allPlaced (C : Ct) (T : List Tr) (t : Tbl) : List Row := placed ((List.range C.teams).map fun team => scoreOf C T t team (wholeU C))
def hiddenOf (C : Ct) (T : List Tr) (t : Tbl) (team : Nat) (untils : List Nat) : List Nat := (List.range C.tasks.length).map fun task =>
  if C.rule = "first" ∧ (solvedFrom C T t 0 (numbersOf T team task (untils.getD task 0))).isSome then 0 else (numbersOf T team task C.fin).length - (numbersOf T team task (untils.getD task 0)).length
def frozenU (C : Ct) : List (List Nat) := List.replicate C.teams (List.replicate C.tasks.length C.frozen)
abbrev BRow := Row × List Nat
def encB (b : BRow) : PyData := .tuple [nI b.1.1, nI b.1.2.1, .tuple (b.1.2.2.map nI), .tuple (b.2.map nI)]
def rowsOf (C : Ct) (T : List Tr) (t : Tbl) (un : List (List Nat)) : List BRow :=
  (placed ((List.range C.teams).map fun team => scoreOf C T t team (un.getD team []))).map fun r => (r, hiddenOf C T t r.2.1 (un.getD r.2.1 []))
/-! what matters -/
def isOver (C : Ct) (T : List Tr) (t : Tbl) (n : Nat) : Bool :=
  if C.fin ≤ (trAt T n).time then true else if C.rule ≠ "first" then false else if tryState C T t n = "failed" then true
  else !(((numbersOf T (trAt T n).team (trAt T n).task C.fin).filter fun m => decide (m < n)).filter fun m => decide (tryState C T t m = "passed")).isEmpty
def openFrom (t : Tbl) (n : Nat) : Nat → List (Nat × Nat) → List Str → List Nat
  | b, g :: r, s :: ss => (if s = "failed" then [] else ((List.range g.1).map (b + ·)).filter fun k => !(look t n k).isSome) ++ openFrom t n (b + g.1) r ss
  | _, _, _ => []
def openTrials (C : Ct) (T : List Tr) (t : Tbl) (n : Nat) : List Nat := if isOver C T t n then [] else openFrom t n 0 (C.groups (trAt T n).task) (groupStates C T t n)
def allOpen (C : Ct) (T : List Tr) (t : Tbl) : List (Nat × Nat) := (List.range T.length).flatMap fun n => (openTrials C T t n).map fun k => (n, k)
end JH
set_option Elab.async false
set_option linter.all false
set_option maxRecDepth 100000
set_option maxHeartbeats 4000000
namespace JH
open PySem PySem.Spec L2
section
variable {P : Program} {w : World} {K : PySem.W.Frag} {mg : Str → Option Value} {base : Heap}
def R_is_between (ds : List PyData) (d : PyData) : Prop := ∃ p l h : Int, ds = [.int p, .int l, .int h] ∧ d = .bool (decide (l ≤ p) && decide (p ≤ h))
theorem ok_is_between (T : Tx w K mg) : Kn P w K mg base "is_between" 1 ["part", "low", "high"] (spF R_is_between) := by
  obtain ⟨fd, F⟩ := T.d_is_between
  refine fn_F F sc_is_between T.g_is_between b_is_between (fun ds d ⟨p, l, h, e, _⟩ => by rw [e]; rfl) (by decide) ?_
  rintro cdv A outer s H0 E B0 ds d vs Q hr ⟨p, l, h, rfl, rfl⟩ S hQ
  refine s_ret S (PD.ev ?_) hQ
  refine pd_and (k := true) (pd_isi (d := .int p) (pd_var 0 rfl) T.f_isinstance T.f_int bt_int ki_ii) (fun _ => ?_) (fun z => nomatch z)
  refine pd_and (k := true) (pd_not (k := false) (pd_isi (d := .int p) (pd_var 0 rfl) T.f_isinstance T.f_bool bt_bool ki_ib)) (fun _ => ?_) (fun z => nomatch z)
  exact pd_one (pd_chain rd_le rd_le (pd_var 1 rfl) (pd_var 0 rfl) (pd_var 2 rfl))
end
end JH
set_option Elab.async false
set_option linter.all false
set_option maxRecDepth 100000
set_option maxHeartbeats 4000000
namespace JH
open PySem PySem.Spec L2
section
variable {P : Program} {w : World} {K : PySem.W.Frag} {mg : Str → Option Value} {base : Heap}
theorem pf_to {X : Cx} {e : Expr} {env : Ev} {ds es : List PyData} (h : PF X e env ds) (q : ds = es) : PF X e env es := q ▸ h
theorem fil_true {α β : Type} (l : List α) (f : α → β) : (l.filter fun _ => true).map f = l.map f := by
  rw [List.filter_eq_self.mpr (fun _ _ => rfl)]
theorem sum_cast : ∀ l : List Nat, (l.map fun (n : Nat) => (n : Int)).sum = ((l.sum : Nat) : Int)
  | [] => rfl
  | a :: l => by rw [List.map_cons, List.sum_cons, sum_cast l, List.sum_cons]; omega
theorem ints_map {α : Type} (l : List α) (f : α → Nat) : l.map (fun a => nI (f a)) = ((l.map f).map fun (n : Nat) => (n : Int)).map .int := by
  rw [List.map_map, List.map_map]
  rfl
def R_trials_of (ds : List PyData) (d : PyData) : Prop := ∃ (C : Ct) (k : Nat), Cv C ∧ ds = [encC C, nI k] ∧ k < C.tasks.length ∧ d = nI (trialsOf C k)
theorem ok_trials_of (T : Tx w K mg) : Kn P w K mg base "trials_of" 1 ["contest", "task"] (spF R_trials_of) := by
  obtain ⟨fd, F⟩ := T.d_trials_of
  refine fn_F F sc_trials_of T.g_trials_of b_trials_of (fun ds d ⟨_, _, _, e, _⟩ => by rw [e]; rfl) (by decide) ?_
  rintro cdv A outer s H0 E B0 ds d vs Q hr ⟨C, k, v, rfl, hk, rfl⟩ S hQ
  obtain ⟨_, gl, _⟩ := v.groups hk
  refine s_ret S (PD.ev ?_) hQ
  refine PD.to (pd_blt (cd_sum rfl (ns := ((C.groups k).map (·.1)).map fun (n : Nat) => (n : Int))) T.f_sum bb_sum (pds_cons (PF.pd (pf_to (pf_lc (items := C.groups k) (enc := encG) (cond := fun _ => true) (f := fun g => nI g.1) (own := [("many", 2), ("points", 3)])
    (blkOk_by (N := N_trials_of) (sc := defScope s_trials_of) (by decide +kernel)) ⟨_, _, wi_tup (pd_ixT (n := 0) (pd_ixT (n := k) (pd_ixT (n := 4) (pd_var 0 rfl) pd_int rfl) (pd_var 1 rfl) (by rw [List.getElem?_map, C.task_at hk]; rfl)) pd_int rfl), by decide, by omega, fun g hg s H C' cl fp =>
      ⟨pg_tp rfl (pgs_1 (pg_nm 2 sc_trials_of.nd) (pgs_1 (pg_nm 3 sc_trials_of.nd) pgs_0)), pqs_0, fun _ => pd_var 2 rfl⟩⟩ rfl sc_trials_of.nd) ?_)) pds_nil)) ?_
  · rw [fil_true, ints_map]
  · rw [sum_cast]
    rfl
end
end JH
set_option Elab.async false
set_option linter.all false
set_option maxRecDepth 100000
set_option maxHeartbeats 4000000
namespace JH
open PySem PySem.Spec L2
section
variable {P : Program} {w : World} {K : PySem.W.Frag} {mg : Str → Option Value} {base : Heap}
def R_is_group (ds : List PyData) (d : PyData) : Prop := ∃ g : Nat × Nat, ds = [encG g] ∧ (1 ≤ g.1 ∧ g.1 ≤ 5 ∧ 1 ≤ g.2 ∧ g.2 ≤ 100) ∧ d = .bool true
theorem ok_is_group (T : Tx w K mg) : Kn P w K mg base "is_group" 2 ["group"] (spF R_is_group) := by
  obtain ⟨fd, F⟩ := T.d_is_group
  refine fn_F F sc_is_group T.g_is_group b_is_group (fun ds d ⟨_, e, _⟩ => by rw [e]; rfl) (by decide) ?_
  rintro cdv A outer s H0 E B0 ds d vs Q hr ⟨g, rfl, ⟨g1, g2, g3, g4⟩, rfl⟩ S hQ
  refine s_if0 S (PQ.tv (PQ.to (PQw.pq (pq_or (pq_not (pq_val (pd_isi (d := encG g) (pd_var 0 rfl) T.f_isinstance T.f_tuple bt_tuple ki_tt))) fun _ => pq_or1 (pq_cmp rd_neI (pd_blt (cd_lenT (ds := [nI g.1, nI g.2])) T.f_len bb_len (pds_cons (pd_var 0 rfl) pds_nil)) pd_int))) (by simp))) fun H' S => ?_
  refine s_ret S (PD.ev (pd_and (k := true) (PD.to (pd_fn (ok_is_between T) hr (pds_cons (pd_ixT (n := 0) (pd_var 0 rfl) pd_int rfl) (pds_cons pd_int (pds_cons (pd_gi T.i_MOST_TRIALS) pds_nil))) ⟨_, _, _, rfl, rfl⟩) ?_) (fun _ => pd_one
    (PD.to (pd_fn (ok_is_between T) hr (pds_cons (pd_ixT (n := 1) (pd_var 0 rfl) pd_int rfl) (pds_cons pd_int (pds_cons (pd_gi T.i_MOST_POINTS) pds_nil))) ⟨_, _, _, rfl, rfl⟩) ?_)) fun z => nomatch z)) hQ
  · simp; omega
  · simp; omega
def R_need_tasks (ds : List PyData) (d : PyData) : Prop := ∃ C : Ct, Cv C ∧ ds = [.tuple (C.tasks.map encK), nI C.fin] ∧ d = .none
theorem ok_need_tasks (T : Tx w K mg) : Kn P w K mg base "need_tasks" 3 ["tasks", "end"] (spF R_need_tasks) := by
  obtain ⟨fd, F⟩ := T.d_need_tasks
  refine fn_F F sc_need_tasks T.g_need_tasks b_need_tasks (fun ds d ⟨_, _, e, _⟩ => by rw [e]; rfl) (by decide) ?_
  rintro cdv A outer s H0 E B0 ds d vs Q hr ⟨C, v, rfl, rfl⟩ S hQ
  have n1 := v.n1
  have n2 := v.n2
  refine s_if0 S (PQ.tv (PQ.to (PQw.pq (pq_or (pq_not (pq_val (pd_isi (d := .tuple (C.tasks.map encK)) (pd_var 0 rfl) T.f_isinstance T.f_tuple bt_tuple ki_tt))) fun _ => pq_or1 (pq_not (pq_chain rd_le rd_le pd_int
    (pd_blt cd_lenT T.f_len bb_len (pds_cons (pd_var 0 rfl) pds_nil)) (pd_gi T.i_MOST_TASKS))))) (by simp; omega))) fun H' S => ?_
  refine s_for (X := _) C.tasks.zipIdx (fun p => .tuple [nI p.2, encK p.1]) (fun _ => _) (fun _ => []) _ _ (fun _ => True) S (WIt.to (wi_enT (pd_var 0 rfl) T.f_enumerate) (enumD_map _ _)) trivial (fun _ _ S => S)
    (fun k a ha => pg_tp rfl (pgs_1 (pg_nm 2 sc_need_tasks.nd) (pgs_1 (pg_nm 3 sc_need_tasks.nd) pgs_0))) (by simp) ?_ (fun σ H S _ => s_end S hQ) PassesOwn.never rfl
  rintro B1 hB k ⟨tk, i⟩ σ H hk _ S
  have hm : tk ∈ C.tasks := by
    rw [List.getElem?_zipIdx] at hk
    obtain ⟨y, h1, h2⟩ := Option.map_eq_some_iff.mp hk
    cases h2
    exact List.mem_of_getElem? h1
  obtain ⟨t1, t2, t3, t4⟩ := v.tk _ hm
  refine s_if0 S (PQ.tv (PQ.to (PQw.pq (pq_or (pq_not (pq_val (pd_isi (d := encK tk) (pd_var 3 rfl) T.f_isinstance T.f_tuple bt_tuple ki_tt))) fun _ => pq_or (pq_cmp rd_neI (pd_blt (cd_lenT (ds := [.tuple (tk.1.map encG), nI tk.2])) T.f_len bb_len (pds_cons (pd_var 3 rfl) pds_nil)) pd_int) fun _ => pq_or1
    (pq_not (pq_val (pd_fn (ok_is_between T) (hr.mono (by decide)) (pds_cons (pd_ixT (n := 1) (pd_var 3 rfl) pd_int rfl) (pds_cons pd_int (pds_cons (pd_var 1 rfl) pds_nil))) ⟨_, _, _, rfl, rfl⟩))))) (by simp; omega))) fun H' S => ?_
  refine s_if0 S (PQ.tv (PQ.to (PQw.pq (pq_or (pq_not (pq_val (pd_isi (d := .tuple (tk.1.map encG)) (pd_ixT (n := 0) (pd_var 3 rfl) pd_int rfl) T.f_isinstance T.f_tuple bt_tuple ki_tt))) fun _ => pq_or1 (pq_not (pq_chain rd_le rd_le pd_int
    (pd_blt cd_lenT T.f_len bb_len (pds_cons (pd_ixT (n := 0) (pd_var 3 rfl) pd_int rfl) pds_nil)) (pd_gi T.i_MOST_GROUPS))))) (by simp; omega))) fun H' S => ?_
  refine s_for tk.1.zipIdx (fun p => .tuple [nI p.2, encG p.1]) (fun _ => _) (fun _ => []) _ _ (fun _ => True) S (WIt.to (wi_enT (pd_ixT (n := 0) (pd_var 3 rfl) pd_int rfl) T.f_enumerate) (enumD_map _ _)) trivial (fun _ _ S => S)
    (fun k a ha => pg_tp rfl (pgs_1 (pg_nm 4 sc_need_tasks.nd) (pgs_1 (pg_nm 5 sc_need_tasks.nd) pgs_0))) (by simp) ?_ (fun σ H S _ => s_nil ⟨?_, trivial⟩) PassesOwn.never rfl
  · rintro B2 hB2 k2 ⟨g, i2⟩ σ2 H2 hk2 _ S
    have hg : g ∈ tk.1 := by
      rw [List.getElem?_zipIdx] at hk2
      obtain ⟨y, h1, h2⟩ := Option.map_eq_some_iff.mp hk2
      cases h2
      exact List.mem_of_getElem? h1
    refine s_if0 S (PQ.tv (PQ.to (pq_not (pq_val (pd_fn (ok_is_group T) hr (pds_cons (pd_var 5 rfl) pds_nil) ⟨g, rfl, t4 g hg, rfl⟩))) rfl)) fun H' S => ?_
    exact s_nil ⟨S.fit rfl (by rintro (_ | _ | _ | _ | _ | _ | i) d h <;> first | exact h | (simp [env0] at h ⊢; try exact h)), trivial⟩
  · exact S.fit rfl (by rintro (_ | _ | _ | _ | _ | _ | i) d h <;> first | exact h | (simp [env0] at h ⊢; try exact h))
end
end JH
set_option Elab.async false
set_option linter.all false
set_option maxRecDepth 100000
set_option maxHeartbeats 4000000
/-! small words; the module's tuples and tables -/
namespace JH
open PySem PySem.Spec L2
section
variable {X : Cx} {B0 H0 H : Hp} {env env' : Ev} {own : Own} {σ : L2.St} {d : PyData} {a b c : Expr} {pos : Pos}
theorem Sta.un {i : Nat} {o : Option PyData} (S : Sta B0 H0 (env.set i o) own σ H) (h : env[i]? = some none := by rfl) : Sta B0 H0 env own σ H := S.fit (by rw [List.length_set]) fun j d q => by
  have hj : i ≠ j := fun e => by
    subst e
    rw [h] at q
    cases q
  rw [List.getElem?_set_ne hj]
  exact q
theorem pq_ruleNotIn (T : Tx X.w X.K X.mg) {z : Str} {p : Pos} (ha : PD X a env (.str z)) (hz : z = "first" ∨ z = "best" ∨ z = "groups") (hg : Gl X "RULES" := by rfl) (hm : behindInMarks .NotIn (.Name "RULES" p) = false := by rfl) : PQ X (.Compare a [.NotIn] [.Name "RULES" p] pos) env false := fun σ B H E eb Q q => by
  refine wt (pt_cmpR op_notIn_seq smE (pe_glob (v := .ref (He.ga X.K "RULES")) hg T.g_RULES rfl (by decide)) hm) ?_
  refine ha σ B H E eb _ fun x B1 H1 s1 z1 => ?_
  rw [z1.str_inv]
  have hx := He.tupB_ok (Bool.and_eq_true_iff.mp T.ex).1 H1
  refine ⟨_, _, rfl, .inr hx, rfl, rfl, false, ?_, q B1 H1 s1⟩
  show V.bl (!inV (V.str z) [V.str "first", V.str "best", V.str "groups"]) = V.bl false
  clear hx
  rcases hz with rfl | rfl | rfl <;> decide +kernel
theorem rm1 {k : Nat} {A : Around} (r : Room k A) : A.units + 1 < cLine := by have := r.un; omega
theorem rm65 {k : Nat} {A : Around} (r : Room k A) : A.units + 65 < cLine := by have := r.un; omega
theorem sizes_at (T : Tx X.w X.K X.mg) {z : Str} {n : Int} (h : (z, He.Dv.int n) ∈ sizes) : ∃ u, PySem.W.nsIn X.K (He.ga X.K "SIZES") z = some (some u) ∧ RelV (.int n) u := He.valsB_ok (Bool.and_eq_true_iff.mp T.ex).2 h
theorem pq_sizeNotIn (T : Tx X.w X.K X.mg) {z : Str} {n : Int} {p : Pos} (ha : PD X a env (.str z)) (hz : (z, He.Dv.int n) ∈ sizes) (hg : Gl X "SIZES" := by rfl) (hm : behindInMarks .NotIn (.Name "SIZES" p) = false := by rfl) : PQ X (.Compare a [.NotIn] [.Name "SIZES" p] pos) env false := fun σ B H E eb Q q => by
  obtain ⟨es, n', D⟩ := T.c.tab 0 rfl
  obtain ⟨u, h1, h2⟩ := sizes_at T hz
  refine wt (pt_cmpR (op_notIn_kd D) smE (pe_glob (v := .ref (He.ga X.K "SIZES")) hg T.g_SIZES rfl (by decide)) hm) ?_
  refine ha σ B H E eb _ fun x B1 H1 s1 z1 => ?_
  rw [z1.str_inv]
  exact ⟨z, some u, rfl, rfl, h1, false, rfl, q B1 H1 s1⟩
theorem pd_sizeAt (T : Tx X.w X.K X.mg) {z : Str} {n : Int} {p : Pos} (ha : PD X a env (.str z)) (hz : (z, He.Dv.int n) ∈ sizes) (hg : Gl X "SIZES" := by rfl) (hs : PlainIx a := by exact fun _ _ => rfl) : PD X (.Subscript (.Name "SIZES" p) a pos) env (.int n) := fun σ B H E eb Q q => by
  obtain ⟨es, n', D⟩ := T.c.tab 0 rfl
  obtain ⟨u, h1, h2⟩ := sizes_at T hz
  refine we (pe_ix ix_kdict (pe_glob (v := .ref (He.ga X.K "SIZES")) hg T.g_SIZES rfl (by decide)) smE hs) ?_
  refine ha σ B H E eb _ fun x B1 H1 s1 z1 => ?_
  rw [z1.str_inv]
  exact ⟨_, z, _, rfl, rfl, ⟨es, n', u, D.at_, D.lit, h1, h2⟩, q _ B1 H1 s1 (.int n)⟩
end
end JH
set_option Elab.async false
set_option linter.all false
set_option maxRecDepth 100000
set_option maxHeartbeats 4000000
namespace JH
open PySem PySem.Spec L2
section
variable {X : Cx} {env : Ev} {a b c : Expr} {pos p : Pos}
theorem pd_btw (T : Tx X.w X.K X.mg) {i l h : Int} {k : Nat} (hr : Room k X.A) (ha : PD X a env (.int i)) (hb : PD X b env (.int l)) (hc : PD X c env (.int h)) (hk : 1 ≤ k := by decide) (hg : Gl X "is_between" := by rfl)
    (hs1 : starEach [a, b, c] X.env = (false, eval a X.env) :: starEach [b, c] X.env := by rfl) (hs2 : starEach [b, c] X.env = (false, eval b X.env) :: starEach [c] X.env := by rfl) (hs3 : starEach [c] X.env = (false, eval c X.env) :: starEach [] X.env := by rfl)
    (hpl : (backTo pos (starEach [b, c] X.env)).any (·.1) = false := by rfl) : PD X (.Call (.Name "is_between" p) [a, b, c] [] pos) env (.bool (decide (l ≤ i) && decide (i ≤ h))) :=
  pd_fn (ok_is_between T) (hr.mono hk) (pds_cons ha (pds_cons hb (pds_cons hc pds_nil hs3) hs2) hs1) ⟨_, _, _, rfl, rfl⟩ hg hs1 hpl
end
section
variable {P : Program} {w : World} {K : PySem.W.Frag} {mg : Str → Option Value} {base : Heap}
def R_need_contest (ds : List PyData) (d : PyData) : Prop := ∃ C : Ct, Cv C ∧ ds = [encC C] ∧ d = .none
theorem ok_need_contest (T : Tx w K mg) : Kn P w K mg base "need_contest" 4 ["contest"] (spF R_need_contest) := by
  obtain ⟨fd, F⟩ := T.d_need_contest
  refine fn_F F sc_need_contest T.g_need_contest b_need_contest (fun ds d ⟨_, _, e, _⟩ => by rw [e]; rfl) (by decide) ?_
  rintro cdv A outer s H0 E B0 ds d vs Q hr ⟨C, v, rfl, rfl⟩ S hQ
  have t1 := v.t1
  have t2 := v.t2
  have e1 := v.e1
  have e2 := v.e2
  have fz := v.fz
  refine s_if0 S (PQ.tv (PQ.to (PQw.pq (pq_or (pq_not (pq_val (pd_isi (d := encC C) (pd_var 0 rfl) T.f_isinstance T.f_tuple bt_tuple ki_tt))) fun _ => pq_or1 (pq_cmp rd_neI (pd_blt (cd_lenT (ds := [.str C.rule, nI C.teams, nI C.fin, nI C.frozen, .tuple (C.tasks.map encK)])) T.f_len bb_len (pds_cons (pd_var 0 rfl) pds_nil)) pd_int))) (by simp))) fun H' S => ?_
  refine s_asg S (PD.ev (pd_var 0 rfl)) (pg_tp rfl (pgs_1 (pg_nm 1 sc_need_contest.nd) (pgs_1 (pg_nm 2 sc_need_contest.nd) (pgs_1 (pg_nm 3 sc_need_contest.nd) (pgs_1 (pg_nm 4 sc_need_contest.nd) (pgs_1 (pg_nm 5 sc_need_contest.nd) pgs_0)))))) fun σ H' S => ?_
  refine s_if0 S (PQ.tv (PQ.to (PQw.pq (pq_or (pq_not (pq_val (pd_isi (d := .str C.rule) (pd_var 1 rfl) T.f_isinstance T.f_str bt_str ki_ss))) fun _ => pq_or1 (pq_ruleNotIn T (pd_var 1 rfl) v.rule))) rfl)) fun H' S => ?_
  refine s_if0 S (PQ.tv (PQ.to (pq_not (pq_val (pd_btw T hr (pd_var 2 rfl) pd_int (pd_gi T.i_MOST_TEAMS)))) (by simp; omega))) fun H' S => ?_
  refine s_if0 S (PQ.tv (PQ.to (pq_not (pq_val (pd_btw T hr (pd_var 3 rfl) pd_int (pd_gi T.i_MOST_END)))) (by simp; omega))) fun H' S => ?_
  refine s_if0 S (PQ.tv (PQ.to (pq_not (pq_val (pd_btw T hr (pd_var 4 rfl) pd_int (pd_var 3 rfl)))) (by simp; omega))) fun H' S => ?_
  refine s_drop S (PD.ev (pd_fn (ok_need_tasks T) hr (pds_cons (pd_var 5 rfl) (pds_cons (pd_var 3 rfl) pds_nil)) ⟨C, v, rfl, rfl⟩)) fun H' S => s_end S hQ
def Trv (C : Ct) (x : Tr) : Prop := x.team < C.teams ∧ x.task < C.tasks.length ∧ x.time ≤ 999
def R_is_try (ds : List PyData) (d : PyData) : Prop := ∃ (C : Ct) (x : Tr), Cv C ∧ Trv C x ∧ ds = [encTr x, encC C] ∧ d = .bool true
theorem ok_is_try (T : Tx w K mg) : Kn P w K mg base "is_try" 2 ["one", "contest"] (spF R_is_try) := by
  obtain ⟨fd, F⟩ := T.d_is_try
  refine fn_F F sc_is_try T.g_is_try b_is_try (fun ds d ⟨_, _, _, _, e, _⟩ => by rw [e]; rfl) (by decide) ?_
  rintro cdv A outer s H0 E B0 ds d vs Q hr ⟨C, x, v, ⟨h1, h2, h3⟩, rfl, rfl⟩ S hQ
  refine s_if0 S (PQ.tv (PQ.to (PQw.pq (pq_or (pq_not (pq_val (pd_isi (d := encTr x) (pd_var 0 rfl) T.f_isinstance T.f_tuple bt_tuple ki_tt))) fun _ => pq_or (pq_cmp rd_neI (pd_blt (cd_lenT (ds := [nI x.team, nI x.task, nI x.time])) T.f_len bb_len (pds_cons (pd_var 0 rfl) pds_nil)) pd_int) fun _ => pq_or1
    (pq_not (pq_val (pd_btw T hr (pd_ixT (n := 0) (pd_var 0 rfl) pd_int rfl) pd_int (pd_bin rd_sub (pd_ixT (n := 1) (pd_var 1 rfl) pd_int rfl) pd_int)))))) (by simp; omega))) fun H' S => ?_
  refine s_ret S (PD.ev (pd_and (k := true) (PD.to (pd_btw T hr (pd_ixT (n := 1) (pd_var 0 rfl) pd_int rfl) pd_int (pd_bin rd_sub (pd_blt cd_lenT T.f_len bb_len (pds_cons (pd_ixT (n := 4) (pd_var 1 rfl) pd_int rfl) pds_nil)) pd_int)) ?_) (fun _ => pd_one
    (PD.to (pd_btw T hr (pd_ixT (n := 2) (pd_var 0 rfl) pd_int rfl) pd_int (pd_gi T.i_MOST_TIME)) ?_)) fun z => nomatch z)) hQ
  · simp; omega
  · simp; omega
def R_need_tries (ds : List PyData) (d : PyData) : Prop := ∃ (C : Ct) (Ts : List Tr), Cv C ∧ Tv C Ts ∧ ds = [encC C, encTs Ts] ∧ d = .none
theorem ok_need_tries (T : Tx w K mg) : Kn P w K mg base "need_tries" 3 ["contest", "tries"] (spF R_need_tries) := by
  obtain ⟨fd, F⟩ := T.d_need_tries
  refine fn_F F sc_need_tries T.g_need_tries b_need_tries (fun ds d ⟨_, _, _, _, e, _⟩ => by rw [e]; rfl) (by decide) ?_
  rintro cdv A outer s H0 E B0 ds d vs Q hr ⟨C, Ts, v, tv, rfl, rfl⟩ S hQ
  refine s_for Ts.zipIdx (fun p => .tuple [nI p.2, encTr p.1]) (fun _ => _) (fun _ => []) _ _ (fun _ => True) S (WIt.to (wi_enum (pd_var 1 rfl) T.f_enumerate) (enumD_map _ _)) trivial (fun _ _ S => S)
    (fun k a ha => pg_tp rfl (pgs_1 (pg_nm 2 sc_need_tries.nd) (pgs_1 (pg_nm 3 sc_need_tries.nd) pgs_0))) (by simp) ?_ (fun σ H S _ => s_end S hQ) PassesOwn.never rfl
  rintro B1 hB k ⟨x, i⟩ σ H hk _ S
  obtain ⟨hi, hx⟩ : i < Ts.length ∧ x = trAt Ts i := by
    rw [List.getElem?_zipIdx] at hk
    obtain ⟨y, h1, h2⟩ := Option.map_eq_some_iff.mp hk
    cases h2
    have hl := (List.getElem?_eq_some_iff.mp h1).1
    refine ⟨by omega, ?_⟩
    rw [Nat.zero_add]
    rw [trAt_at hl] at h1
    exact (Option.some.inj h1).symm
  have hv := tv.at_ hi
  have hl := tv.len
  rw [← hx] at hv
  refine s_if0 S (PQ.tv (PQ.to (PQw.pq (pq_or (pq_cmp rd_ge (pd_var 2 rfl) (pd_gi T.i_MOST_TRIES)) fun _ => pq_or (pq_not (pq_val (pd_fn (ok_is_try T) hr (pds_cons (pd_var 3 rfl) (pds_cons (pd_var 0 rfl) pds_nil)) ⟨C, x, v, hv, rfl, rfl⟩))) fun _ => pq_or1
    (PQw.pq (pq_and (pq_cmp rd_gt (pd_var 2 rfl) pd_int) fun hpos => pq_and1 (pq_cmp rd_lt (pd_ixT (n := 2) (pd_var 3 rfl) pd_int rfl) (pd_ixT (n := 2) (ds := [nI (trAt Ts (i - 1)).team, nI (trAt Ts (i - 1)).task, nI (trAt Ts (i - 1)).time])
      (pd_ixL (n := i - 1) (pd_var 1 rfl) (PD.to (pd_bin rd_sub (pd_var 2 rfl) pd_int) ?_) ?_) pd_int rfl)))))) ?_)) fun H' S => ?_
  · have : 0 < i := by simpa using hpos
    congr 1
    omega
  · rw [List.getElem?_map, trAt_at (by omega)]
    rfl
  · have hasc := tv.asc (i - 1)
    by_cases h0 : 0 < i
    · have := hasc (by omega)
      rw [show i - 1 + 1 = i by omega, ← hx] at this
      simp
      omega
    · simp
      omega
  · exact s_nil ⟨S.un.un, trivial⟩
end
end JH
set_option Elab.async false
set_option linter.all false
set_option maxRecDepth 100000
set_option maxHeartbeats 4000000
namespace JH
open PySem PySem.Spec L2
theorem look_none {t : Tbl} {n k : Nat} : look t n k = none ↔ (n, k) ∉ t.map (·.1) := by
  unfold look
  rw [Option.map_eq_none_iff, List.find?_eq_none]
  constructor
  · intro h m
    obtain ⟨p, h1, h2⟩ := List.mem_map.mp m
    exact h p h1 (by simp [h2])
  · intro h p hp e
    exact h (List.mem_map.mpr ⟨p, hp, by simpa using e⟩)
theorem look_some {t : Tbl} {n k : Nat} {b : Bool} (nd : (t.map (·.1)).Nodup) (h : ((n, k), b) ∈ t) : look t n k = some b := by
  induction t with
  | nil => cases h
  | cons p t ih =>
    rw [List.map_cons, List.nodup_cons] at nd
    rcases List.mem_cons.mp h with rfl | h
    · simp [look]
    · have hne : p.1 ≠ (n, k) := fun e => nd.1 (by rw [e]; exact List.mem_map.mpr ⟨_, h, rfl⟩)
      have := ih nd.2 h
      unfold look at this ⊢
      rw [List.find?_cons_of_neg (by simpa using hne)]
      exact this
theorem look_mem {t : Tbl} {n k : Nat} {b : Bool} (h : look t n k = some b) : ((n, k), b) ∈ t := by
  unfold look at h
  obtain ⟨p, h1, h2⟩ := Option.map_eq_some_iff.mp h
  have h3 := List.find?_some h1
  have h4 := List.mem_of_find?_eq_some h1
  have h3 : p.1 = (n, k) := by simpa using h3
  rw [← h3, ← h2]
  exact h4
theorem put_new {t : Tbl} {n k : Nat} {b : Bool} (h : (n, k) ∉ t.map (·.1)) : putT t n k b = t ++ [((n, k), b)] := by
  unfold putT
  rw [look_none.mpr h]
  rfl
def Kv (C : Ct) (Ts : List Tr) (p : Nat × Nat) : Prop := p.1 < Ts.length ∧ p.2 < trialsOf C (trAt Ts p.1).task
structure Vv (C : Ct) (Ts : List Tr) (t : Tbl) : Prop where
  len : t.length < 100000
  nd : (t.map (·.1)).Nodup
  kv : ∀ p ∈ t, Kv C Ts p.1
section
variable {P : Program} {w : World} {K : PySem.W.Frag} {mg : Str → Option Value} {base : Heap}
def R_is_verdict (ds : List PyData) (d : PyData) : Prop := ∃ (C : Ct) (Ts : List Tr) (p : (Nat × Nat) × Bool), Cv C ∧ Tv C Ts ∧ Kv C Ts p.1 ∧ ds = [encV p, encC C, encTs Ts] ∧ d = .bool true
theorem ok_is_verdict (T : Tx w K mg) : Kn P w K mg base "is_verdict" 2 ["verdict", "contest", "tries"] (spF R_is_verdict) := by
  obtain ⟨fd, F⟩ := T.d_is_verdict
  refine fn_F F sc_is_verdict T.g_is_verdict b_is_verdict (fun ds d ⟨_, _, _, _, _, _, e, _⟩ => by rw [e]; rfl) (by decide) ?_
  rintro cdv A outer s H0 E B0 ds d vs Q hr ⟨C, Ts, p, v, tv, ⟨h1, h2⟩, rfl, rfl⟩ S hQ
  have hv := tv.at_ h1
  refine s_if0 S (PQ.tv (PQ.to (PQw.pq (pq_or (pq_not (pq_val (pd_isi (d := encV p) (pd_var 0 rfl) T.f_isinstance T.f_tuple bt_tuple ki_tt))) fun _ => pq_or (pq_cmp rd_neI (pd_blt (cd_lenT (ds := [nI p.1.1, nI p.1.2, .bool p.2])) T.f_len bb_len (pds_cons (pd_var 0 rfl) pds_nil)) pd_int) fun _ => pq_or1
    (pq_not (pq_val (pd_btw T hr (pd_ixT (n := 0) (pd_var 0 rfl) pd_int rfl) pd_int (pd_bin rd_sub (pd_blt cd_lenL T.f_len bb_len (pds_cons (pd_var 2 rfl) pds_nil)) pd_int)))))) (by simp; omega))) fun H' S => ?_
  refine s_ret S (PD.ev (pd_and (k := true) (PD.to (pd_btw T hr (pd_ixT (n := 1) (pd_var 0 rfl) pd_int rfl) pd_int (pd_bin rd_sub (pd_fn (ok_trials_of T) hr (pds_cons (pd_var 1 rfl) (pds_cons (pd_ixT (n := 1) (ds := [nI (trAt Ts p.1.1).team, nI (trAt Ts p.1.1).task, nI (trAt Ts p.1.1).time])
      (pd_ixL (n := p.1.1) (pd_var 2 rfl) (pd_ixT (n := 0) (pd_var 0 rfl) pd_int rfl) (by rw [List.getElem?_map, trAt_at h1]; rfl)) pd_int rfl) pds_nil)) ⟨C, (trAt Ts p.1.1).task, v, rfl, hv.2.1, rfl⟩) pd_int)) ?_) (fun _ => pd_one
    (pd_isi (d := .bool p.2) (pd_ixT (n := 2) (pd_var 0 rfl) pd_int rfl) T.f_isinstance T.f_bool bt_bool ki_bb)) fun z => nomatch z)) hQ
  simp; omega
def R_need_verdicts (ds : List PyData) (d : PyData) : Prop := ∃ (C : Ct) (Ts : List Tr) (t : Tbl), Cv C ∧ Tv C Ts ∧ Vv C Ts t ∧ ds = [encC C, encTs Ts, .list (t.map encV)] ∧ d = .none
def metT (t : Tbl) (k : Nat) : Tbl := (t.take k).map fun p => (p.1, true)
theorem metT_keys (t : Tbl) (k : Nat) : (metT t k).map (·.1) = (t.take k).map (·.1) := by
  unfold metT
  rw [List.map_map]
  rfl
theorem metT_new {t : Tbl} (nd : (t.map (·.1)).Nodup) {k : Nat} {p : (Nat × Nat) × Bool} (h : t[k]? = some p) : p.1 ∉ (metT t k).map (·.1) := by
  rw [metT_keys]
  intro hm
  obtain ⟨q, h1, h2⟩ := List.mem_map.mp hm
  obtain ⟨j, hj, h3⟩ := List.mem_iff_getElem.mp h1
  rw [List.length_take] at hj
  rw [List.getElem_take] at h3
  have hk := (List.getElem?_eq_some_iff.mp h)
  obtain ⟨hk1, hk2⟩ := hk
  have := (List.getElem_inj (xs := t.map (·.1)) (i := j) (j := k) (h₀ := by simp; omega) (h₁ := by simpa using hk1) nd).mp (by
    rw [List.getElem_map, List.getElem_map, h3, hk2, h2])
  omega
theorem metT_step {t : Tbl} (nd : (t.map (·.1)).Nodup) {k : Nat} {p : (Nat × Nat) × Bool} (h : t[k]? = some p) : putT (metT t k) p.1.1 p.1.2 true = metT t (k + 1) := by
  rw [put_new (metT_new nd h)]
  unfold metT
  rw [List.take_add_one, h, List.map_append]
  rfl
theorem ok_need_verdicts (T : Tx w K mg) : Kn P w K mg base "need_verdicts" 3 ["contest", "tries", "verdicts"] (spF R_need_verdicts) := by
  obtain ⟨fd, F⟩ := T.d_need_verdicts
  refine fn_F F sc_need_verdicts T.g_need_verdicts b_need_verdicts (fun ds d ⟨_, _, _, _, _, _, e, _⟩ => by rw [e]; rfl) (by decide) ?_
  rintro cdv A outer s H0 E B0 ds d vs Q hr ⟨C, Ts, t, v, tv, vv, rfl, rfl⟩ S hQ
  refine s_newT 3 S (fun l σ H' S => ?_) sc_need_verdicts.nd (hie := by simp [env0])
  refine s_for t.zipIdx (fun p => .tuple [nI p.2, encV p.1]) (fun _ => _) (fun k => [(3, l, .dct (metT t k))]) _ _ (fun _ => True) S (WIt.to (wi_enum (pd_var 2 rfl) T.f_enumerate) (enumD_map _ _)) trivial (fun _ _ S => S)
    (fun k a ha => pg_tp rfl (pgs_1 (pg_nm 4 sc_need_verdicts.nd) (pgs_1 (pg_nm 5 sc_need_verdicts.nd) pgs_0))) (by simp) ?_ (fun σ H S _ => s_end S hQ) PassesOwn.never rfl
  rintro B1 hB k ⟨p, i⟩ σ H hk _ S
  have hp : t[k]? = some p := by
    rw [List.getElem?_zipIdx] at hk
    obtain ⟨y, h1, h2⟩ := Option.map_eq_some_iff.mp hk
    cases h2
    exact h1
  have hnew := metT_new vv.nd hp
  refine s_if0 S (tv_x 3 (List.mem_singleton.mpr rfl) (PQ.to (PQw.pq (pq_or (pq_not (pq_val (pd_fn (ok_is_verdict T) hr (pds_cons (pd_var 5 rfl) (pds_cons (pd_var 0 rfl) (pds_cons (pd_var 1 rfl) pds_nil))) ⟨C, Ts, p, v, tv, vv.kv p (List.mem_of_getElem? hp), rfl, rfl⟩))) fun _ => pq_or1
    (pq_inT (n := p.1.1) (k := p.1.2) (rm1 hr) (PD.to (pd_slT (pd_var 5 rfl) pdo_none (pdo_some pd_int)) rfl) (pd_var 3 rfl)))) (by rw [look_none.mpr hnew]; rfl))) fun H' S => ?_
  refine s_putT (own1 := []) (n := p.1.1) (m := p.1.2) rfl S (rm1 hr) pd_bl (PD.to (pd_slT (pd_var 5 rfl) pdo_none (pdo_some pd_int)) rfl) ?_ fun H' S => s_nil ⟨?_, trivial⟩
  · have := vv.len
    simp [metT]
    omega
  · rw [metT_step vv.nd hp] at S
    exact S.un.un
end
end JH
set_option Elab.async false
set_option linter.all false
set_option maxRecDepth 100000
set_option maxHeartbeats 4000000
/-! dict(a list of pairs), keys that are tuples, each once -/
namespace JH
open PySem PySem.Spec L2
open Evl (Ex Ex.refl Ex.trans Ex.new Ex.mut)
theorem stored_all {κ : Type} [DecidableEq κ] : ∀ (ps xs : List (κ × Addr × Value)), ((xs ++ ps).map (·.1)).Nodup → storedAllH xs ps = xs ++ ps
  | [], xs, _ => by rw [List.append_nil]; rfl
  | p :: ps, xs, h => by
    have e : storedH xs p.1 p.2.1 p.2.2 = xs ++ [p] := storedH_new (atKey_none_of_get fun j q hj => by
      rw [List.map_append, List.nodup_append] at h
      exact h.2.2 _ (List.mem_map.mpr ⟨_, List.mem_of_getElem? hj, rfl⟩) _ (List.mem_map.mpr ⟨p, List.mem_cons_self, rfl⟩) rfl) _ _
    show storedAllH (storedH xs p.1 p.2.1 p.2.2) ps = _
    rw [e, stored_all ps (xs ++ [p]) (by rw [List.append_assoc]; exact h), List.append_assoc]
    rfl
section
variable {X : Cx}
theorem pairs_ofT {pins : List (Addr × Obj)} {σ : L2.St} {H : Hp} {s : Shared} (I : L2.Inv X pins σ H s) : ∀ {prs : List (Addr × Addr)} {kvs : List (List Key × V)}, Paired (fun (p : Addr × Addr) (kv : List Key × V) => H p.1 = some (.tup [.ref p.2, kv.2]) ∧ H p.2 = some (.tup (kv.1.map kV))) prs kvs →
    ∃ xs : List (List Key × Addr × Value), KT H kvs xs ∧ xs.length = prs.length ∧ ∀ (j : Nat) (q : List Key × Addr × Value), xs[j]? = some q → ∃ p, prs[j]? = some p ∧ s.heap.IsTuple p.1 #[.ref q.2.1, q.2.2]
  | _, _, .nil => ⟨[], .nil, rfl, fun j q e => by simp at e⟩
  | _, _, .cons (a := p) (b := kv) h t => by
    obtain ⟨xs, r, hl, hp⟩ := pairs_ofT I t
    obtain ⟨its, rv, ht, _⟩ := I.tuple (SqT.of h.1)
    obtain ⟨u, y, ei, ru, ry⟩ := vals2 rv
    subst ei
    obtain rfl : u = Value.ref p.2 := ru
    refine ⟨(kv.1, p.2, y) :: xs, .cons ⟨rfl, h.2, ry⟩ r, by rw [List.length_cons, List.length_cons, hl], fun j q e => ?_⟩
    cases j with
    | zero =>
      have e' : (kv.1, p.2, y) = q := Option.some.inj e
      subst e'
      exact ⟨p, rfl, ht⟩
    | succ j =>
      obtain ⟨b, e1, e2⟩ := hp j q (by simpa using e)
      exact ⟨b, by simpa using e1, e2⟩
theorem call_dictT (hcalm : X.calm = true) (hu : X.A.units + 65 < cLine) : CallR X (.type "dict") (fun xs H Q => ∃ (a : Addr) (prs : List (Addr × Addr)) (kvs : List (List Key × V)), xs = [.ref a] ∧ SqL X.K H a (prs.map fun p => V.ref p.1) ∧
    Paired (fun (p : Addr × Addr) (kv : List Key × V) => H p.1 = some (.tup [.ref p.2, kv.2]) ∧ H p.2 = some (.tup (kv.1.map kV))) prs kvs ∧ (kvs.map (·.1)).Nodup ∧ ∀ p, H p = none → Q (.ref p) (upd H p (.dT kvs))) := by
  intro pins s σ H xs us Q I r q
  obtain ⟨a, prs, kvs, ex, hq, hp, hnd, q⟩ := q
  subst ex
  obtain ⟨u, eu, rx⟩ := vals1 r
  subst eu
  cases rx
  obtain ⟨its, rv, pl, hz⟩ := I.list hq
  have ei : its = prs.map fun p => Value.ref p.1 := by
    have h1 := refs_at (ps := prs.map (·.1)) (us := its) (by rw [List.map_map]; exact rv)
    rw [List.map_map] at h1
    exact h1
  subst ei
  rw [List.length_map] at hz
  obtain ⟨xs, rel, hl, hpr⟩ := pairs_ofT I hp
  obtain ⟨o, n, ho, hc, hd, hdat⟩ := pl
  have hkl : kvs.length = xs.length := Paired.length rel
  have hkeys : kvs.map (·.1) = xs.map (·.1) := by
    clear hpr hl hnd hp q hkl
    induction rel with
    | nil => rfl
    | cons h t ih => rw [List.map_cons, List.map_cons, ih, h.1]
  have hls : ∀ x ∈ xs, (tupleKind (mixKind X.prog X.w)).is s.heap x.1 x.2.1 := by
    clear hpr hl hnd hp q hkl hkeys
    induction rel with
    | nil => exact fun x hx => nomatch hx
    | cons h t ih =>
      intro x hx
      rcases List.mem_cons.mp hx with rfl | hx
      · rw [h.1] at h
        exact key_of I.hok h.2.1
      · exact ih x hx
  have hh := I.ok.hd hcalm
  refine call_dict_pairsH (knd := tupleKind (mixKind X.prog X.w)) (ps := xs) (PairArg.list a ((prs.map fun p => Value.ref p.1).toArray) (fun j => (prs.getD j (0, 0)).1) (xs.map fun x => (Value.ref x.2.1, x.2.2))) hh ?_ ⟨⟨o, n, ho, hc, hd, hdat⟩, ?_, ?_⟩ ⟨?_, ?_⟩ ?_ ?_ fun h' tk hd' k => ?_
  · show X.A.in1.in1.units < cLine
    have : X.A.in1.in1.units = X.A.units + 2 := rfl
    omega
  · simp [hl]
  · intro j key v e
    rw [List.getElem?_map] at e
    obtain ⟨x, e1, e2⟩ := Option.map_eq_some_iff.mp e
    obtain ⟨p, e3, e4⟩ := hpr j x e1
    cases e2
    refine ⟨by simp [e3], .inl ?_⟩
    show s.heap.IsTuple (prs.getD j (0, 0)).1 _
    rw [List.getD_eq_getElem?_getD, e3]
    exact e4
  · rw [List.length_map]
  · intro i key v e
    have e : (xs.map fun x => (Value.ref x.2.1, x.2.2))[i]? = some (key, v) := e
    rw [List.getElem?_map] at e
    obtain ⟨x, e1, e2⟩ := Option.map_eq_some_iff.mp e
    cases e2
    exact ⟨x.1, x.2.1, e1, rfl⟩
  · intro h' k x hx
    obtain ⟨o, its, n, h1, h2⟩ := hls x hx
    exact ⟨o, its, n, k _ _ (Nat.ne_of_lt (Heap.lt_size h1)) (by simp) h1, h2⟩
  · rw [List.length_map, hl]
    exact hz
  · have hm : (s.heap.objs.size == sysModules) = false := beq_eq_false_iff_ne.mpr (Nat.ne_of_gt I.big)
    have hf : H s.heap.objs.size = none := I.hok.fresh (Nat.le_refl _)
    have e : storedAllH [] xs = xs := by
      rw [stored_all xs [] (by rw [List.nil_append, ← hkeys]; exact hnd), List.nil_append]
    rw [e] at hd'
    obtain ⟨o', es, ep, g1, g2, g3, g4, _, g5⟩ := hd'
    refine ⟨.ref s.heap.objs.size, upd H s.heap.objs.size (.dT kvs), I.laid (t' := tk) (fun b u e => k b u (by simp) e) (Nat.le_refl _) (show ObjOk X.prog X.w _ _ _ (.dT kvs) from ⟨by rw [hkl, hl]; exact hz, hm, xs, Paired.mapP rel fun p q z => ⟨z.1, ?_, z.2.2⟩, o', es, ep, g1, g2, g3, g4, g5⟩), rfl, q _ hf⟩
    have hne : q.2.1 ≠ s.heap.objs.size := ne_of_none z.2.1 hf
    rw [upd_ne hne]
    exact z.2.1
def pairD (p : (Nat × Nat) × Bool) : PyData := .tuple [.tuple [nI p.1.1, nI p.1.2], .bool p.2]
theorem kvT_keys (t : Tbl) : (kvT t).map (·.1) = (t.map (·.1)).map fun k => kyT k.1 k.2 := by
  unfold kvT
  rw [List.map_map, List.map_map]
  rfl
theorem kvT_nd {t : Tbl} (h : (t.map (·.1)).Nodup) : ((kvT t).map (·.1)).Nodup := by
  rw [kvT_keys]
  exact List.Pairwise.map _ (fun a b hab e => hab (kyT_inj.mp e)) h
theorem pairs_dz {B : Hp} : ∀ {t : Tbl} {vs : List V}, DzAll B vs (t.map pairD) → ∃ prs : List (Addr × Addr), vs = prs.map (fun p => V.ref p.1) ∧ Paired (fun (p : Addr × Addr) (kv : List Key × V) => B p.1 = some (.tup [.ref p.2, kv.2]) ∧ B p.2 = some (.tup (kv.1.map kV))) prs (kvT t)
  | [], _, h => by
    cases h
    exact ⟨[], rfl, .nil⟩
  | p :: t, _, h => by
    rw [List.map_cons] at h
    cases h with
    | cons h r =>
      obtain ⟨prs, rfl, hp⟩ := pairs_dz r
      obtain ⟨q, ys, rfl, h1, h2⟩ := h.tup_inv
      obtain ⟨y1, y2, rfl, z1, z2⟩ := h2.two
      obtain ⟨q2, rfl, h3⟩ := key_of_dz z1
      rw [z2.bl_inv] at h1
      exact ⟨(q, q2) :: prs, rfl, .cons ⟨h1, h3⟩ hp⟩
theorem cd_dictT (hc : X.calm = true) (hu : X.A.units + 65 < cLine) {t : Tbl} (nd : (t.map (·.1)).Nodup) : CD X (.type "dict") [.list (t.map pairD)] (encTab t) := ⟨_, call_dictT hc hu, fun vs B H Q eb z q => by
  obtain ⟨v, rfl, z1⟩ := z.one
  obtain ⟨a, xs, rfl, h1, h2⟩ := z1.lst_inv
  obtain ⟨prs, rfl, hp⟩ := pairs_dz h2
  exact ⟨a, prs, kvT t, rfl, SqL.of (eb _ _ h1), Paired.mapP hp fun p q z => ⟨eb _ _ z.1, eb _ _ z.2⟩, kvT_nd nd, fun l hl => q _ _ _ (.new eb hl) (.tab upd_same)⟩⟩
end
end JH
set_option Elab.async false
set_option linter.all false
set_option maxRecDepth 100000
set_option maxHeartbeats 4000000
namespace JH
open PySem PySem.Spec L2
/-- slots forgotten -/
inductive Sub : Ev → Ev → Prop
  | nil : Sub [] []
  | keep {a b : Ev} {o : Option PyData} : Sub a b → Sub (o :: a) (o :: b)
  | drop {a b : Ev} {o : Option PyData} : Sub a b → Sub (none :: a) (o :: b)
theorem Sub.len : ∀ {a b : Ev}, Sub a b → a.length = b.length
  | _, _, .nil => rfl
  | _, _, .keep h => by rw [List.length_cons, List.length_cons, h.len]
  | _, _, .drop h => by rw [List.length_cons, List.length_cons, h.len]
theorem Sub.at_ : ∀ {a b : Ev}, Sub a b → ∀ (i : Nat) (d : PyData), a[i]? = some (some d) → b[i]? = some (some d)
  | _, _, .nil, _, _, e => e
  | _, _, .keep h, 0, _, e => e
  | _, _, .keep h, i + 1, d, e => by
    rw [List.getElem?_cons_succ] at e ⊢
    exact h.at_ i d e
  | _, _, .drop h, 0, _, e => by
    rw [List.getElem?_cons_zero] at e
    cases e
  | _, _, .drop h, i + 1, d, e => by
    rw [List.getElem?_cons_succ] at e ⊢
    exact h.at_ i d e
theorem Sta.sub {B0 H0 H : Hp} {env env' : Ev} {own : Own} {σ : L2.St} (S : Sta B0 H0 env own σ H) (h : Sub env' env) : Sta B0 H0 env' own σ H := S.fit h.len h.at_
local macro_rules | `(tactic| trivial) => `(tactic| repeat (first | exact Sub.nil | refine Sub.keep ?_ | refine Sub.drop ?_))
def vB : Option Bool → V
  | some b => .bl b
  | none => .non
theorem flD_oB (o : Option Bool) : flD (oB o) = some (vB o) := by cases o <;> rfl
theorem flDs_oB (l : List (Option Bool)) : (l.map oB).map flD = (l.map vB).map some := by
  rw [List.map_map, List.map_map]
  exact List.map_congr_left fun o _ => flD_oB o
theorem inV_false (l : List (Option Bool)) : inV (.bl false) (l.map vB) = decide (some false ∈ l) := by
  induction l with
  | nil => rfl
  | cons o l ih =>
    have e : inV (.bl false) ((o :: l).map vB) = (eqV (vB o) (.bl false) || inV (.bl false) (l.map vB)) := rfl
    rw [e, ih]
    rcases o with _ | _ | _ <;> simp [vB, eqV]
theorem inV_none (l : List (Option Bool)) : inV .non (l.map vB) = decide (none ∈ l) := by
  induction l with
  | nil => rfl
  | cons o l ih =>
    have e : inV .non ((o :: l).map vB) = (eqV (vB o) .non || inV .non (l.map vB)) := rfl
    rw [e, ih]
    rcases o with _ | _ | _ <;> simp [vB, eqV]
theorem flDs_str (l : List Str) : (l.map PyData.str).map flD = (l.map V.str).map some := by
  rw [List.map_map, List.map_map]
  rfl
theorem inV_str (x : Str) (l : List Str) : inV (.str x) (l.map V.str) = decide (x ∈ l) := by
  induction l with
  | nil => rfl
  | cons o l ih =>
    have e : inV (.str x) ((o :: l).map V.str) = (eqV (.str o) (.str x) || inV (.str x) (l.map V.str)) := rfl
    rw [e, ih]
    have e2 : eqV (.str o) (.str x) = decide (o = x) := rfl
    rw [e2]
    by_cases h : o = x
    · subst h; simp
    · have h' : ¬ x = o := fun z => h z.symm
      simp [h, h']
section
variable {X : Cx} {env : Ev} {a b c : Expr} {pos p1 p2 p3 : Pos} {j1 j2 : Nat} {p4 p5 : Pos}
theorem pd_tr {Ts : List Tr} {n : Nat} (hb : PD X b env (encTs Ts)) (hc : PD X c env (nI n)) (h : n < Ts.length) (hs : PlainIx c := by exact fun _ _ => rfl) : PD X (.Subscript b c pos) env (.tuple [nI (trAt Ts n).team, nI (trAt Ts n).task, nI (trAt Ts n).time]) :=
  pd_ixL (n := n) hb hc (by rw [List.getElem?_map, trAt_at h]; rfl) hs
theorem pd_tk {C : Ct} {k : Nat} (ha : PD X a env (encC C)) (hk : PD X c env (nI k)) (h : k < C.tasks.length) (hs : PlainIx c := by exact fun _ _ => rfl) : PD X (.Subscript (.Subscript a (.Constant (.int 4) j1 p1) p2) c pos) env (.tuple [.tuple ((C.groups k).map encG), nI (C.due k)]) :=
  pd_ixT (n := k) (pd_ixT (n := 4) ha pd_int rfl) hk (by rw [List.getElem?_map, C.task_at h]; rfl) hs
theorem pd_gs' {C : Ct} {k : Nat} (ha : PD X a env (encC C)) (hk : PD X c env (nI k)) (h : k < C.tasks.length) (hs : PlainIx c := by exact fun _ _ => rfl) : PD X (.Subscript (.Subscript (.Subscript a (.Constant (.int 4) j1 p1) p2) c pos) (.Constant (.int 0) j2 p3) p4) env (.tuple ((C.groups k).map encG)) :=
  pd_ixT (n := 0) (pd_tk ha hk h hs) pd_int rfl
end
section
variable {P : Program} {w : World} {K : PySem.W.Frag} {mg : Str → Option Value} {base : Heap}
def R_need_all (ds : List PyData) (d : PyData) : Prop := ∃ (C : Ct) (Ts : List Tr) (t : Tbl), Cv C ∧ Tv C Ts ∧ Vv C Ts t ∧ ds = [encC C, encTs Ts, .list (t.map encV)] ∧ d = .none
theorem ok_need_all (T : Tx w K mg) : Kn P w K mg base "need_all" 5 ["contest", "tries", "verdicts"] (spF R_need_all) := by
  obtain ⟨fd, F⟩ := T.d_need_all
  refine fn_F F sc_need_all T.g_need_all b_need_all (fun ds d ⟨_, _, _, _, _, _, e, _⟩ => by rw [e]; rfl) (by decide) ?_
  rintro cdv A outer s H0 E B0 ds d vs Q hr ⟨C, Ts, t, v, tv, vv, rfl, rfl⟩ S hQ
  refine s_drop S (PD.ev (pd_fn (ok_need_contest T) hr (pds_cons (pd_var 0 rfl) pds_nil) ⟨C, v, rfl, rfl⟩)) fun H' S => ?_
  refine s_drop S (PD.ev (pd_fn (ok_need_tries T) (hr.mono (by decide)) (pds_cons (pd_var 0 rfl) (pds_cons (pd_var 1 rfl) pds_nil)) ⟨C, Ts, v, tv, rfl, rfl⟩)) fun H' S => ?_
  exact s_drop S (PD.ev (pd_fn (ok_need_verdicts T) (hr.mono (by decide)) (pds_cons (pd_var 0 rfl) (pds_cons (pd_var 1 rfl) (pds_cons (pd_var 2 rfl) pds_nil))) ⟨C, Ts, t, v, tv, vv, rfl, rfl⟩)) fun H' S => s_end S hQ
def R_table_of (ds : List PyData) (d : PyData) : Prop := ∃ t : Tbl, (t.map (·.1)).Nodup ∧ t.length < 100000 ∧ ds = [.list (t.map encV)] ∧ d = encTab t
theorem ok_table_of (T : Tx w K mg) : Kn P w K mg base "table_of" 1 ["verdicts"] (spF R_table_of) := by
  obtain ⟨fd, F⟩ := T.d_table_of
  refine fn_F F sc_table_of T.g_table_of b_table_of (fun ds d ⟨_, _, _, e, _⟩ => by rw [e]; rfl) (by decide) ?_
  rintro cdv A outer s H0 E B0 ds d vs Q hr ⟨t, nd, hl, rfl, rfl⟩ S hQ
  refine s_ret S (PD.ev ?_) hQ
  refine pd_ty (cd_dictT rfl (rm65 hr) nd) T.f_dict bt_dict (pds_cons (PF.pd (PF.to (pf_lc (items := t) (enc := encV) (cond := fun _ => true) (f := pairD) (own := [("number", 1), ("trial", 2), ("passed", 3)])
    (blkOk_by (N := N_table_of) (sc := defScope s_table_of) (by decide +kernel)) ⟨_, _, wi_list (pd_var 0 rfl), by decide, by omega, fun g hg s H C' cl fp =>
      ⟨pg_tp rfl (pgs_1 (pg_nm 1 sc_table_of.nd) (pgs_1 (pg_nm 2 sc_table_of.nd) (pgs_1 (pg_nm 3 sc_table_of.nd) pgs_0))), pqs_0, fun _ => pd_tup (pds_cons (pd_tup (pds_cons (pd_var 1 rfl) (pds_cons (pd_var 2 rfl) pds_nil))) (pds_cons (pd_var 3 rfl) pds_nil))⟩⟩ rfl sc_table_of.nd) (fil_true _ _))) pds_nil)
def R_state_of (ds : List PyData) (d : PyData) : Prop := ∃ l : List (Option Bool), ds = [.list (l.map oB)] ∧ d = .str (stateOf l)
theorem ok_state_of (T : Tx w K mg) : Kn P w K mg base "state_of" 1 ["some"] (spF R_state_of) := by
  obtain ⟨fd, F⟩ := T.d_state_of
  refine fn_F F sc_state_of T.g_state_of b_state_of (fun ds d ⟨_, e, _⟩ => by rw [e]; rfl) (by decide) ?_
  rintro cdv A outer s H0 E B0 ds d vs Q hr ⟨l, rfl, rfl⟩ S hQ
  refine s_if S (PQ.tv (PQ.to (pq_cmp (rd_in (u := .bl false) (us := l.map vB) rfl (flDs_oB l)) pd_bl (pd_var 0 rfl)) (inV_false l))) (fun h H' S => ?_) fun h H' S => s_nil ?_
  · refine s_ret S (PD.ev (PD.to (pd_gs T.s_FAILED) ?_)) hQ
    unfold stateOf
    rw [if_pos (of_decide_eq_true h)]
  · refine s_ret S (PD.ev (pd_if (PQ.to (pq_cmp (rd_in (u := .non) (us := l.map vB) rfl (flDs_oB l)) pd_non (pd_var 0 rfl)) (inV_none l)) (fun h2 => PD.to (pd_gs T.s_OPEN) ?_) fun h2 => PD.to (pd_gs T.s_PASSED) ?_)) hQ
    · unfold stateOf
      rw [if_neg (of_decide_eq_false h), if_pos (of_decide_eq_true h2)]
    · unfold stateOf
      rw [if_neg (of_decide_eq_false h), if_neg (of_decide_eq_false h2)]
def sumTo (gs : List (Nat × Nat)) (k : Nat) : Nat := ((gs.take k).map (·.1)).sum
theorem statesFrom_app (f : Nat → Option Bool) : ∀ (l : List (Nat × Nat)) (b : Nat) (g : Nat × Nat), statesFrom f b (l ++ [g]) = statesFrom f b l ++ [stateOf ((List.range g.1).map fun j => f (b + (l.map (·.1)).sum + j))]
  | [], b, g => by simp [statesFrom]
  | h :: l, b, g => by
    rw [List.cons_append, statesFrom, statesFrom, statesFrom_app f l, List.map_cons, List.sum_cons, List.cons_append, Nat.add_assoc b h.1]
theorem sumTo_succ {gs : List (Nat × Nat)} {k : Nat} {g : Nat × Nat} (h : gs[k]? = some g) : sumTo gs (k + 1) = sumTo gs k + g.1 := by
  unfold sumTo
  rw [List.take_add_one, h, List.map_append, List.sum_append]
  simp
theorem states_step (f : Nat → Option Bool) {gs : List (Nat × Nat)} {k : Nat} {g : Nat × Nat} (h : gs[k]? = some g) : statesFrom f 0 (gs.take (k + 1)) = statesFrom f 0 (gs.take k) ++ [stateOf ((List.range g.1).map fun j => f (sumTo gs k + j))] := by
  rw [List.take_add_one, h]
  show statesFrom f 0 (gs.take k ++ [g]) = _
  rw [statesFrom_app, Nat.zero_add]
  rfl
theorem sum_le {gs : List (Nat × Nat)} (h1 : gs.length ≤ 4) (h2 : ∀ g ∈ gs, g.1 ≤ 5) (k : Nat) : sumTo gs k ≤ 20 := by
  have key : ∀ l : List (Nat × Nat), (∀ g ∈ l, g.1 ≤ 5) → (l.map (·.1)).sum ≤ 5 * l.length := by
    intro l
    induction l with
    | nil => intro _; simp
    | cons a l ih =>
      intro h
      rw [List.map_cons, List.sum_cons, List.length_cons]
      have := ih fun g hg => h g (List.mem_cons_of_mem _ hg)
      have := h a List.mem_cons_self
      omega
  have := key (gs.take k) fun g hg => h2 g (List.mem_of_mem_take hg)
  unfold sumTo
  rw [List.length_take] at this
  omega
structure Rv (C : Ct) (Ts : List Tr) : Prop where
  v : Cv C
  tv : Tv C Ts
def R_group_states (ds es : List PyData) : Prop := ∃ (C : Ct) (Ts : List Tr) (t : Tbl) (n : Nat), Rv C Ts ∧ n < Ts.length ∧ ds = [encC C, encTs Ts, encTab t, nI n] ∧ es = (groupStates C Ts t n).map .str
theorem ok_group_states (T : Tx w K mg) : Kn P w K mg base "group_states" 2 ["contest", "tries", "table", "number"] (spL R_group_states) := by
  obtain ⟨fd, F⟩ := T.d_group_states
  refine fn_L F sc_group_states T.g_group_states b_group_states (fun ds d ⟨_, _, _, _, _, _, e, _⟩ => by rw [e]; rfl) (by decide) ?_
  rintro cdv A outer s H0 E B0 ds es vs Q hr ⟨C, Ts, t, n, ⟨v, tv⟩, hn, rfl, rfl⟩ S hQ
  have hk := (tv.at_ hn).2.1
  obtain ⟨g1, g2, g3, g4⟩ := v.groups hk
  refine s_new 4 S (pf_lst pds_nil) (fun l σ H' S => ?_) sc_group_states.nd (hie := by simp [env0])
  refine s_set 5 S (PD.ev pd_int) (fun σ H' S => ?_) sc_group_states.nd
  generalize hgs : C.groups (trAt Ts n).task = gs at g1 g2 g3 g4
  refine s_for gs encG (fun k => ((env0 N_group_states [encC C, encTs Ts, encTab t, nI n]).set 4 none).set 5 (some (nI (sumTo gs k)))) (fun k => [(4, l, .lst ((statesFrom (look t n) 0 (gs.take k)).map .str))]) _ _ (fun _ => True) S
    (wi_tup (PD.to (pd_gs' (pd_var 0 rfl) (pd_ixT (n := 1) (pd_tr (pd_var 1 rfl) (pd_var 3 rfl) hn) pd_int rfl) hk) (by rw [hgs]))) trivial (fun _ _ S => S)
    (fun k a ha => pg_tp rfl (pgs_1 (pg_nm 6 sc_group_states.nd) (pgs_1 (pg_nm 7 sc_group_states.nd) pgs_0))) (by simp) ?_ (fun σ H S _ => ?_) PassesOwn.never rfl
  · rintro B1 hB k ⟨m, pt⟩ σ H hk2 _ S
    have hm := g4 _ (List.mem_of_getElem? hk2)
    have hs := sum_le g2 (fun g hg => (g4 g hg).2.1) k
    refine s_app (own1 := []) rfl S (PD.ev (pd_fn (ok_state_of T) hr (pds_cons (PF.pd (PF.to (pf_lc (items := List.range m) (enc := fun j => nI (sumTo gs k + j)) (cond := fun _ => true) (f := fun j => oB (look t n (sumTo gs k + j))) (own := [("trial", 8)])
      (blkOk_by (N := N_group_states) (sc := defScope s_group_states) (by decide +kernel)) ⟨_, _, wi_rng2 (pd_var 5 rfl) (pd_bin rd_add (pd_var 5 rfl) (pd_var 6 rfl)) (by omega) (by simp at hm; omega) T.f_range, by decide, by simp at hm ⊢; omega, fun j hj s H C' cl fp =>
        ⟨pg_nm 8 sc_group_states.nd, pqs_0, fun _ => pd_getT (rm1 hr) (pd_var 2 rfl) (pd_tup (pds_cons (pd_var 3 rfl) (pds_cons (pd_var 8 rfl) pds_nil))) pd_non ⟨rfl, rfl, rfl, rfl⟩⟩⟩ rfl sc_group_states.nd) (fil_true _ _))) pds_nil) ⟨(List.range m).map fun j => look t n (sumTo gs k + j), by rw [List.map_map]; rfl, rfl⟩)) (fun H' S => ?_) ?_
    · refine s_set 5 S (PD.ev (PD.to (pd_bin rd_add (pd_var 5 rfl) (pd_var 6 rfl)) ?_)) (fun σ H' S => s_nil ⟨?_, trivial⟩) sc_group_states.nd (d := nI (sumTo gs (k + 1)))
      · rw [sumTo_succ hk2]
        rfl
      · have e := states_step (look t n) hk2
        rw [e, List.map_append]
        exact S.sub (by trivial)
    · rw [List.length_map, statesFrom_len, List.length_take]
      omega
  · refine s_retO 4 (l := l) S (ds := (groupStates C Ts t n).map .str) ?_ hQ
    rw [List.take_length]
    unfold groupStates
    rw [hgs]
    exact List.mem_singleton.mpr rfl
end
end JH
set_option Elab.async false
set_option linter.all false
set_option maxRecDepth 100000
set_option maxHeartbeats 4000000
/-! equal data -/
namespace JH
open PySem PySem.Spec L2
theorem natI_beq (a b : Nat) : ((a : Int) == (b : Int)) = decide (a = b) := by
  by_cases h : a = b
  · subst h; simp
  · have : ¬ ((a : Int) = (b : Int)) := by omega
    simp [h, this]
theorem eqv_W (p q : Nat × Nat) : PyData.eqv (encW p) (encW q) = decide (p = q) := by
  obtain ⟨a, b⟩ := p
  obtain ⟨c, d⟩ := q
  have e : PyData.eqv (encW (a, b)) (encW (c, d)) = (((a : Int) == (c : Int)) && (((b : Int) == (d : Int)) && true)) := by simp only [encW, nI, PyData.eqv, PyData.eqvAll]
  rw [e, natI_beq, natI_beq, Bool.and_true, ← Bool.decide_and]
  exact decide_eq_decide.mpr (by rw [Prod.mk.injEq])
theorem eqv_Wo (o : Option (Nat × Nat)) (q : Nat × Nat) : PyData.eqv (encWo o) (encW q) = decide (o = some q) := by
  cases o with
  | none => simp [encWo, encW, PyData.eqv]
  | some p =>
    show PyData.eqv (encW p) (encW q) = _
    rw [eqv_W]
    exact decide_eq_decide.mpr (by rw [Option.some.injEq])
theorem shaped_of {d : PyData} (h1 : d.canLay0 = true) (h2 : d.depth ≤ 64) : SeqAt.shaped d = true := by
  show (d.canLay0 && decide (d.depth ≤ 64)) = true
  rw [Bool.and_eq_true]
  exact ⟨h1, decide_eq_true h2⟩
theorem layAll_map {α : Type} {f : α → PyData} (h : ∀ a, (f a).canLay0 = true) : ∀ l : List α, PyData.canLayAll0 (l.map f) = true
  | [] => by simp [PyData.canLayAll0]
  | a :: l => by simp [PyData.canLayAll0, h a, layAll_map h l]
theorem depAll_map {α : Type} {f : α → PyData} {n : Nat} (h : ∀ a, (f a).depth ≤ n) : ∀ l : List α, PyData.depthAll (l.map f) ≤ n
  | [] => by simp [PyData.depthAll]
  | a :: l => by
    have h1 := depAll_map h l
    have h2 := h a
    simp only [List.map_cons, PyData.depthAll]
    omega
theorem shaped_list {α : Type} {f : α → PyData} {n : Nat} (h1 : ∀ a, (f a).canLay0 = true) (h2 : ∀ a, (f a).depth ≤ n) (hn : n ≤ 60) (l : List α) : SeqAt.shaped (.list (l.map f)) = true := by
  have := depAll_map h2 l
  exact shaped_of (by simp only [PyData.canLay0]; exact layAll_map h1 l) (by simp only [PyData.depth]; omega)
theorem shaped_tuple {α : Type} {f : α → PyData} {n : Nat} (h1 : ∀ a, (f a).canLay0 = true) (h2 : ∀ a, (f a).depth ≤ n) (hn : n ≤ 60) (l : List α) : SeqAt.shaped (.tuple (l.map f)) = true := by
  have := depAll_map h2 l
  exact shaped_of (by simp only [PyData.canLay0]; exact layAll_map h1 l) (by simp only [PyData.depth]; omega)
theorem lay_W (p : Nat × Nat) : (encW p).canLay0 = true := by simp [encW, PyData.canLay0, PyData.canLayAll0]
theorem dep_W (p : Nat × Nat) : (encW p).depth ≤ 3 := by simp [encW, PyData.depth, PyData.depthAll]
theorem lay_Wo (p : Option (Nat × Nat)) : (encWo p).canLay0 = true := by
  cases p with
  | none => simp [encWo, PyData.canLay0]
  | some p => exact lay_W p
theorem dep_Wo (p : Option (Nat × Nat)) : (encWo p).depth ≤ 3 := by
  cases p with
  | none => simp [encWo, PyData.depth]
  | some p => exact dep_W p
theorem shaped_W (p : Nat × Nat) : SeqAt.shaped (encW p) = true := shaped_of (lay_W p) (Nat.le_trans (dep_W p) (by decide))
theorem shaped_Wo (p : Option (Nat × Nat)) : SeqAt.shaped (encWo p) = true := shaped_of (lay_Wo p) (Nat.le_trans (dep_Wo p) (by decide))
theorem shaped_Wos (l : List (Option (Nat × Nat))) : SeqAt.shaped (.list (l.map encWo)) = true := shaped_list lay_Wo dep_Wo (by decide) l
theorem lay_Tr (x : Tr) : (encTr x).canLay0 = true := by simp [encTr, PyData.canLay0, PyData.canLayAll0]
theorem dep_Tr (x : Tr) : (encTr x).depth ≤ 3 := by simp [encTr, PyData.depth, PyData.depthAll]
theorem shaped_Trs (l : List Tr) : SeqAt.shaped (encTs l) = true := shaped_list lay_Tr dep_Tr (by decide) l
theorem shaped_nil : SeqAt.shaped (.list []) = true := by decide +kernel
theorem shaped_nilT : SeqAt.shaped (.tuple []) = true := by decide +kernel
theorem eqv_nil (l : List PyData) : PyData.eqv (.list l) (.list []) = l.isEmpty := by
  cases l <;> simp [PyData.eqv, PyData.eqvAll]
theorem eqv_nilT (l : List PyData) : PyData.eqv (.tuple l) (.tuple []) = l.isEmpty := by
  cases l <;> simp [PyData.eqv, PyData.eqvAll]
theorem nt_W (p : Nat × Nat) : nt (encW p) = true := rfl
theorem nt_Wo (p : Option (Nat × Nat)) : nt (encWo p) = true := by cases p <;> rfl
theorem any_Wo (l : List (Option (Nat × Nat))) (p : Nat × Nat) : ((l.map encWo).any fun z => PyData.eqv z (encW p)) = decide (some p ∈ l) := by
  induction l with
  | nil => rfl
  | cons a l ih =>
    rw [List.map_cons, List.any_cons, ih, eqv_Wo]
    by_cases h : a = some p
    · subst h; simp
    · have h' : ¬ some p = a := fun z => h z.symm
      simp [h, h']
end JH
set_option Elab.async false
set_option linter.all false
set_option maxRecDepth 100000
set_option maxHeartbeats 4000000
namespace JH
open PySem PySem.Spec L2
local macro_rules | `(tactic| trivial) => `(tactic| repeat (first | exact Sub.nil | refine Sub.keep ?_ | refine Sub.drop ?_))
theorem cmulR {i : Int} {j : Int} (h1 : 0 ≤ j) (h2 : j < 10000000) : CMul i j := .inr ⟨by omega, by omega⟩
theorem trAt_zip {Ts : List Tr} {k : Nat} {x : Tr} {i : Nat} (hk : Ts.zipIdx[k]? = some (x, i)) : i = k ∧ k < Ts.length ∧ x = trAt Ts k := by
  rw [List.getElem?_zipIdx] at hk
  obtain ⟨y, h1, h2⟩ := Option.map_eq_some_iff.mp hk
  cases h2
  have hl := (List.getElem?_eq_some_iff.mp h1).1
  rw [trAt_at hl] at h1
  exact ⟨by omega, hl, (Option.some.inj h1).symm⟩
theorem numbersOf_lt {Ts : List Tr} {team task u n : Nat} (h : n ∈ numbersOf Ts team task u) : n < Ts.length ∧ (trAt Ts n).team = team ∧ (trAt Ts n).task = task ∧ (trAt Ts n).time < u := by
  unfold numbersOf at h
  obtain ⟨⟨x, i⟩, h1, rfl⟩ := List.mem_map.mp h
  obtain ⟨h2, h3⟩ := List.mem_filter.mp h1
  obtain ⟨k, hk⟩ := List.mem_iff_getElem?.mp h2
  obtain ⟨rfl, hl, rfl⟩ := trAt_zip hk
  simp only [Bool.and_eq_true, decide_eq_true_eq] at h3
  exact ⟨hl, h3.1.1, h3.1.2, h3.2⟩
theorem numbersOf_len {Ts : List Tr} {team task u : Nat} : (numbersOf Ts team task u).length ≤ Ts.length := by
  unfold numbersOf
  rw [List.length_map]
  exact Nat.le_trans (List.length_filter_le _ _) (by simp)
section
variable {P : Program} {w : World} {K : PySem.W.Frag} {mg : Str → Option Value} {base : Heap}
def R_try_state (ds : List PyData) (d : PyData) : Prop := ∃ (C : Ct) (Ts : List Tr) (t : Tbl) (n : Nat), Rv C Ts ∧ n < Ts.length ∧ ds = [encC C, encTs Ts, encTab t, nI n] ∧ d = .str (tryState C Ts t n)
theorem ok_try_state (T : Tx w K mg) : Kn P w K mg base "try_state" 3 ["contest", "tries", "table", "number"] (spF R_try_state) := by
  obtain ⟨fd, F⟩ := T.d_try_state
  refine fn_F F sc_try_state T.g_try_state b_try_state (fun ds d ⟨_, _, _, _, _, _, e, _⟩ => by rw [e]; rfl) (by decide) ?_
  rintro cdv A outer s H0 E B0 ds d vs Q hr ⟨C, Ts, t, n, rv, hn, rfl, rfl⟩ S hQ
  refine s_set 4 S (PD.ev (PF.pd (pf_fn (ok_group_states T) hr (pds_cons (pd_var 0 rfl) (pds_cons (pd_var 1 rfl) (pds_cons (pd_var 2 rfl) (pds_cons (pd_var 3 rfl) pds_nil)))) ⟨C, Ts, t, n, rv, hn, rfl, rfl⟩))) (fun σ H' S => ?_) sc_try_state.nd
  refine s_if S (PQ.tv (PQ.to (pq_cmp (rd_in (u := .str "failed") (us := (groupStates C Ts t n).map .str) rfl (flDs_str _)) (pd_gs T.s_FAILED) (pd_var 4 rfl)) (inV_str _ _))) (fun h H' S => ?_) fun h H' S => s_nil ?_
  · refine s_ret S (PD.ev (PD.to (pd_gs T.s_FAILED) ?_)) hQ
    unfold tryState wholeOf
    rw [if_pos (of_decide_eq_true h)]
  · refine s_ret S (PD.ev (pd_if (PQ.to (pq_cmp (rd_in (u := .str "open") (us := (groupStates C Ts t n).map .str) rfl (flDs_str _)) (pd_gs T.s_OPEN) (pd_var 4 rfl)) (inV_str _ _)) (fun h2 => PD.to (pd_gs T.s_OPEN) ?_) fun h2 => PD.to (pd_gs T.s_PASSED) ?_)) hQ
    · unfold tryState wholeOf
      rw [if_neg (of_decide_eq_false h), if_pos (of_decide_eq_true h2)]
    · unfold tryState wholeOf
      rw [if_neg (of_decide_eq_false h), if_neg (of_decide_eq_false h2)]
def R_numbers_of (ds es : List PyData) : Prop := ∃ (C : Ct) (Ts : List Tr) (team task u : Nat), Ts.length ≤ 200 ∧ ds = [encC C, encTs Ts, nI team, nI task, nI u] ∧ es = (numbersOf Ts team task u).map nI
theorem ok_numbers_of (T : Tx w K mg) : Kn P w K mg base "numbers_of" 1 ["contest", "tries", "team", "task", "until"] (spL R_numbers_of) := by
  obtain ⟨fd, F⟩ := T.d_numbers_of
  refine fn_L F sc_numbers_of T.g_numbers_of b_numbers_of (fun ds d ⟨_, _, _, _, _, _, e, _⟩ => by rw [e]; rfl) (by decide) ?_
  rintro cdv A outer s H0 E B0 ds es vs Q hr ⟨C, Ts, team, task, u, hl, rfl, rfl⟩ S hQ
  refine s_retF S (PF.to (pf_lc (items := Ts.zipIdx) (enc := fun p => .tuple [nI p.2, encTr p.1]) (cond := fun p => decide (p.1.team = team) && decide (p.1.task = task) && decide (p.1.time < u)) (f := fun p => nI p.2) (own := [("k", 5), ("one", 6)])
    (blkOk_by (N := N_numbers_of) (sc := defScope s_numbers_of) (by decide +kernel)) ⟨_, _, WIt.to (wi_enum (pd_var 1 rfl) T.f_enumerate) (enumD_map _ _), by decide, by simp; omega, fun p hp s H C' cl fp =>
        ⟨pg_tp rfl (pgs_1 (pg_nm 5 sc_numbers_of.nd) (pgs_1 (pg_nm 6 sc_numbers_of.nd) pgs_0)), pqs_1 (PQ.to (PQw.pq (pq_and (PQ.to (pq_cmp (rd_eqD (d1 := encW (p.1.team, p.1.task)) (d2 := encW (team, task)) hr.units rfl rfl (shaped_W _) (shaped_W _))
          (PD.to (pd_slT (pd_var 6 rfl) pdo_none (pdo_some pd_int)) rfl) (pd_tup (pds_cons (pd_var 2 rfl) (pds_cons (pd_var 3 rfl) pds_nil)))) (eqv_W _ _)) fun _ => pq_and1 (pq_cmp rd_lt (pd_ixT (n := 2) (pd_var 6 rfl) pd_int rfl) (pd_var 4 rfl)))) ?_), fun _ => pd_var 5 rfl⟩⟩ rfl sc_numbers_of.nd) ?_) hQ
  · have e1 : decide ((p.1.team, p.1.task) = (team, task)) = (decide (p.1.team = team) && decide (p.1.task = task)) := by
      rw [← Bool.decide_and]
      exact decide_eq_decide.mpr (by rw [Prod.mk.injEq])
    have e2 : decide ((p.1.time : Int) < (u : Int)) = decide (p.1.time < u) := decide_eq_decide.mpr (by omega)
    rw [e1, e2]
  · unfold numbersOf
    rw [List.map_map]
    rfl
def encSol : Option (Nat × Nat) → PyData
  | some p => encW p
  | none => .none
def wrongTo (C : Ct) (Ts : List Tr) (t : Tbl) (ns : List Nat) (k : Nat) : Nat := ((ns.take k).filter fun n => decide (tryState C Ts t n = "failed")).length
theorem wrong_le (C : Ct) (Ts : List Tr) (t : Tbl) (ns : List Nat) (k : Nat) : wrongTo C Ts t ns k ≤ ns.length := by
  unfold wrongTo
  refine Nat.le_trans (List.length_filter_le _ _) ?_
  rw [List.length_take]
  omega
theorem wrong_step {C : Ct} {Ts : List Tr} {t : Tbl} {ns : List Nat} {k n : Nat} (h : ns[k]? = some n) : wrongTo C Ts t ns (k + 1) = wrongTo C Ts t ns k + if tryState C Ts t n = "failed" then 1 else 0 := by
  unfold wrongTo
  rw [List.take_add_one, h, List.filter_append, List.length_append]
  congr 1
  by_cases e : tryState C Ts t n = "failed" <;> simp [e]
def R_solved_at (ds : List PyData) (d : PyData) : Prop := ∃ (C : Ct) (Ts : List Tr) (t : Tbl) (ns : List Nat), Rv C Ts ∧ (∀ n ∈ ns, n < Ts.length) ∧ ns.length ≤ 200 ∧ ds = [encC C, encTs Ts, encTab t, .list (ns.map nI)] ∧ d = encSol (solvedFrom C Ts t 0 ns)
theorem ok_solved_at (T : Tx w K mg) : Kn P w K mg base "solved_at" 4 ["contest", "tries", "table", "numbers"] (spF R_solved_at) := by
  obtain ⟨fd, F⟩ := T.d_solved_at
  refine fn_F F sc_solved_at T.g_solved_at b_solved_at (fun ds d ⟨_, _, _, _, _, _, _, e, _⟩ => by rw [e]; rfl) (by decide) ?_
  rintro cdv A outer s H0 E B0 ds d vs Q hr ⟨C, Ts, t, ns, rv, hns, hl, rfl, rfl⟩ S hQ
  refine s_set 4 S (PD.ev pd_int) (fun σ H' S => ?_) sc_solved_at.nd
  refine s_for ns nI (fun k => (env0 N_solved_at [encC C, encTs Ts, encTab t, .list (ns.map nI)]).set 4 (some (nI (wrongTo C Ts t ns k)))) (fun k => []) _ _ (fun k => solvedFrom C Ts t 0 ns = solvedFrom C Ts t (wrongTo C Ts t ns k) (ns.drop k)) S
    (wi_list (pd_var 3 rfl)) rfl (fun _ _ S => S) (fun k a ha => pg_nm 5 sc_solved_at.nd) (by simp) ?_ (fun σ H S pf => ?_) PassesOwn.never rfl
  · rintro B1 hB k n σ H hk pf S
    have hn := hns n (List.mem_of_getElem? hk)
    obtain ⟨x1, x2, x3⟩ := rv.tv.at_ hn
    have hw := wrong_le C Ts t ns k
    have hd : ns.drop k = n :: ns.drop (k + 1) := by
      have hlt := (List.getElem?_eq_some_iff.mp hk).1
      rw [List.drop_eq_getElem_cons hlt, (List.getElem?_eq_some_iff.mp hk).2]
    rw [hd, solvedFrom] at pf
    refine s_set 6 S (PD.ev (pd_fn (ok_try_state T) hr (pds_cons (pd_var 0 rfl) (pds_cons (pd_var 1 rfl) (pds_cons (pd_var 2 rfl) (pds_cons (pd_var 5 rfl) pds_nil)))) ⟨C, Ts, t, n, rv, hn, rfl, rfl⟩)) (fun σ H' S => ?_) sc_solved_at.nd
    refine s_asg S (PD.ev (pd_tr (pd_var 1 rfl) (pd_var 5 rfl) hn)) (pg_tp rfl (pgs_1 (pg_nm 7 sc_solved_at.nd) (pgs_1 (pg_nm 8 sc_solved_at.nd) (pgs_1 (pg_nm 9 sc_solved_at.nd) pgs_0)))) fun σ H' S => ?_
    refine s_if S (PQ.tv (pq_cmp rd_eqS (pd_var 6 rfl) (pd_gs T.s_PASSED))) (fun h H' S => ?_) fun h H' S => s_nil ?_
    · rw [if_pos (of_decide_eq_true h)] at pf
      refine s_ret S (PD.ev (PD.to (pd_tup (pds_cons (pd_bin rd_add (pd_bin rd_add (pd_var 9 rfl) (pd_bin (rd_mul (cmulR (by omega) (by omega))) (pd_gi T.i_WRONG) (pd_var 4 rfl)))
        (pd_bin (rd_mul (cmulR (by split <;> omega) (by split <;> omega))) (pd_gi T.i_LATE) (pd_ty cd_intB T.f_int bt_int (pds_cons (pd_cmp rd_ge (pd_var 9 rfl) (pd_ixT (n := 1) (pd_tk (pd_var 0 rfl) (pd_var 8 rfl) x2) pd_int rfl)) pds_nil)))) (pds_cons (pd_var 9 rfl) pds_nil))) ?_)) fun v B2 H2 st z => hQ v B2 H2 (hB _ _ st) z
      rw [pf]
      simp only [encSol, encW, nI]
      congr 2
      by_cases hc : C.due (trAt Ts n).task ≤ (trAt Ts n).time
      · have hc' : ((C.due (trAt Ts n).task : Nat) : Int) ≤ ((trAt Ts n).time : Nat) := by omega
        simp [hc]
      · have hc' : ¬ ((C.due (trAt Ts n).task : Nat) : Int) ≤ ((trAt Ts n).time : Nat) := by omega
        simp [hc]
    · rw [if_neg (of_decide_eq_false h), ← wrong_step hk] at pf
      refine s_set 4 S (PD.ev (PD.to (pd_bin rd_add (pd_var 4 rfl) (pd_ty cd_intB T.f_int bt_int (pds_cons (pd_cmp rd_eqS (pd_var 6 rfl) (pd_gs T.s_FAILED)) pds_nil))) ?_)) (fun σ H' S => s_nil ⟨S.sub (by trivial), pf⟩) sc_solved_at.nd (d := nI (wrongTo C Ts t ns (k + 1)))
      rw [wrong_step hk]
      by_cases e : tryState C Ts t n = "failed" <;> simp [e, nI]
  · rw [List.drop_length] at pf
    rw [pf] at hQ
    exact s_ret S (PD.ev pd_non) hQ
def R_worth_of (ds : List PyData) (d : PyData) : Prop := ∃ (C : Ct) (Ts : List Tr) (n pt : Nat), Rv C Ts ∧ n < Ts.length ∧ ds = [encC C, encTs Ts, nI n, nI pt] ∧ d = nI (worthOf C Ts n pt)
theorem ok_worth_of (T : Tx w K mg) : Kn P w K mg base "worth_of" 1 ["contest", "tries", "number", "points"] (spF R_worth_of) := by
  obtain ⟨fd, F⟩ := T.d_worth_of
  refine fn_F F sc_worth_of T.g_worth_of b_worth_of (fun ds d ⟨_, _, _, _, _, _, e, _⟩ => by rw [e]; rfl) (by decide) ?_
  rintro cdv A outer s H0 E B0 ds d vs Q hr ⟨C, Ts, n, pt, rv, hn, rfl, rfl⟩ S hQ
  obtain ⟨x1, x2, x3⟩ := rv.tv.at_ hn
  refine s_asg S (PD.ev (pd_tr (pd_var 1 rfl) (pd_var 2 rfl) hn)) (pg_tp rfl (pgs_1 (pg_nm 4 sc_worth_of.nd) (pgs_1 (pg_nm 5 sc_worth_of.nd) (pgs_1 (pg_nm 6 sc_worth_of.nd) pgs_0)))) fun σ H' S => ?_
  refine s_ret S (PD.ev (pd_if (pq_cmp rd_ge (pd_var 6 rfl) (pd_ixT (n := 1) (pd_tk (pd_var 0 rfl) (pd_var 5 rfl) x2) pd_int rfl)) (fun h => PD.to (pd_bin (rd_div ⟨by omega, by omega⟩) (pd_var 3 rfl) pd_int) ?_) fun h => PD.to (pd_var 3 rfl) ?_)) hQ
  · have h := of_decide_eq_true h
    unfold worthOf
    rw [if_pos (by omega)]
    rfl
  · have h := of_decide_eq_false h
    unfold worthOf
    rw [if_neg (by omega)]
end
end JH
set_option Elab.async false
set_option linter.all false
set_option maxRecDepth 100000
set_option maxHeartbeats 4000000
namespace JH
open PySem PySem.Spec L2
local macro_rules | `(tactic| trivial) => `(tactic| repeat (first | exact Sub.nil | refine Sub.keep ?_ | refine Sub.drop ?_))
section
variable {X : Cx} {B0 H0 H : Hp} {env : Ev} {own : Own} {σ : L2.St} {d1 d2 d3 : PyData} {a b c : Expr} {rest : List Stmt} {D : Ends} {px py pz pt pos : Pos} {kt k2 : Nat} {pt2 : Pos} {x y z : Str}
theorem s_par3 (i j l : Nat) (S : Sta B0 H0 env own σ H) (h : PDs X [a, b, c] env [d1, d2, d3]) (k : ∀ σ' H', Sta B0 H0 (((env.set i (some d1)).set j (some d2)).set l (some d3)) own σ' H' → WSs X rest D σ' H') (hc : X.calm = true) (hN : X.N.Nodup)
    (ho : ∀ p ∈ own, p.1 ≠ i ∧ p.1 ≠ j ∧ p.1 ≠ l := by simp) (hi : X.N[i]? = some x := by rfl) (hj : X.N[j]? = some y := by rfl) (hl : X.N[l]? = some z := by rfl) (hij : i ≠ j := by decide) (hil : i ≠ l := by decide) (hjl : j ≠ l := by decide)
    (hx : X.env.scope.names.lookup x = some .local := by rfl) (hy : X.env.scope.names.lookup y = some .local := by rfl) (hz : X.env.scope.names.lookup z = some .local := by rfl)
    (hw : swappedStores [.Tuple [.Name x px, .Name y py, .Name z pz] kt pt] (.Tuple [a, b, c] k2 pt2) X.env = pure (some [x, y, z]) := by rfl)
    (hs : swapsWithSole [.Tuple [.Name x px, .Name y py, .Name z pz] kt pt] (.Tuple [a, b, c] k2 pt2) pos.line X.env = pure false := by rfl) : WSs X (.Assign [.Tuple [.Name x px, .Name y py, .Name z pz] kt pt] (.Tuple [a, b, c] k2 pt2) pos :: rest) D σ H := by
  obtain ⟨B, s, E, o⟩ := S
  refine wss (pss_cons (ps_par3 hc hN hi hj hl hij hil hjl hx hy hz smA hw hs) smSs) ?_
  refine h σ B H E s.bh _ fun vs B1 H1 s1 z1 => ?_
  cases z1 with
  | cons r1 z1 =>
    cases z1 with
    | cons r2 z1 =>
      cases z1 with
      | cons r3 z1 =>
        cases z1
        refine ⟨_, _, _, rfl, k _ _ ⟨B1, s.trans s1, (((E.ex s1.bb).set i r1).set j r2).set l r3, (o.stp s1).slots fun p hp => ?_⟩⟩
        obtain ⟨h1, h2, h3⟩ := ho p hp
        rw [set_other h3, set_other h2, set_other h1]
end
theorem rngD0 (n : Nat) : rngD 0 n = (List.range n).map nI := by
  unfold rngD
  refine List.map_congr_left fun i _ => ?_
  rw [Nat.zero_add]
theorem maxI (a b : Nat) : (if (b : Int) > (a : Int) then (b : Int) else (a : Int)) = ((max a b : Nat) : Int) := by
  split <;> omega
theorem nI_get {l : List Nat} {k : Nat} (h : k < l.length) : (l.map nI)[k]? = some (nI (l.getD k 0)) := by
  rw [List.getElem?_map, List.getD_eq_getElem?_getD, List.getElem?_eq_getElem h]
  rfl
theorem sum_nI (l : List Nat) : ((l.map fun (n : Nat) => (n : Int)).map PyData.int) = l.map nI := by
  rw [List.map_map]
  rfl
theorem range_at {n k a : Nat} (h : (List.range n)[k]? = some a) : a = k ∧ k < n := by
  have h1 := (List.getElem?_eq_some_iff.mp h)
  obtain ⟨h2, h3⟩ := h1
  rw [List.getElem_range] at h3
  rw [List.length_range] at h2
  exact ⟨h3.symm, h2⟩
theorem foldl_take {α β : Type} (f : β → α → β) (b : β) {l : List α} {k : Nat} {a : α} (h : l[k]? = some a) : (l.take (k + 1)).foldl f b = f ((l.take k).foldl f b) a := by
  rw [List.take_add_one, h, List.foldl_append]
  rfl
theorem foldl_range {β : Type} (f : β → Nat → β) (b : β) (k : Nat) : (List.range (k + 1)).foldl f b = f ((List.range k).foldl f b) k := by
  rw [List.range_succ, List.foldl_append]
  rfl
section
variable {P : Program} {w : World} {K : PySem.W.Frag} {mg : Str → Option Value} {base : Heap}
theorem setW_len (C : Ct) (Ts : List Tr) (n : Nat) (gs : List (Nat × Nat)) (ps : List Nat) : ∀ s : List Nat, (ps.foldl (setW C Ts n gs) s).length = s.length := by
  induction ps with
  | nil => intro s; rfl
  | cons p ps ih =>
    intro s
    rw [List.foldl_cons, ih]
    unfold setW
    rw [List.length_set]
theorem ptStep_len (C : Ct) (Ts : List Tr) (t : Tbl) (gs : List (Nat × Nat)) (ns : List Nat) : ∀ a : Nat × List Nat, (ns.foldl (ptStep C Ts t gs) a).2.length = a.2.length := by
  induction ns with
  | nil => intro a; rfl
  | cons p ps ih =>
    intro a
    rw [List.foldl_cons, ih]
    unfold ptStep
    exact setW_len ..
theorem passedG_lt {C : Ct} {Ts : List Tr} {t : Tbl} {n : Nat} {gs : List (Nat × Nat)} {g : Nat} (h : g ∈ passedG C Ts t n gs) : g < gs.length := List.mem_range.mp (List.mem_filter.mp h).1
theorem gs_get {gs : List (Nat × Nat)} {g : Nat} (h : g < gs.length) : (gs.map encG)[g]? = some (.tuple [nI (gs.getD g (0, 0)).1, nI (gs.getD g (0, 0)).2]) := by
  rw [List.getElem?_map, List.getD_eq_getElem?_getD, List.getElem?_eq_getElem h]
  rfl
theorem str_get {l : List Str} {g : Nat} (h : g < l.length) : (l.map PyData.str)[g]? = some (.str (l.getD g "")) := by
  rw [List.getElem?_map, List.getD_eq_getElem?_getD, List.getElem?_eq_getElem h]
  rfl
theorem getD_dec {l : List Str} {g : Nat} (h : g < l.length) (x : Str) : decide (l.getD g "" = x) = decide (l[g]? = some x) := by
  rw [List.getD_eq_getElem?_getD, List.getElem?_eq_getElem h]
  exact decide_eq_decide.mpr (by rw [Option.getD_some, Option.some.injEq])
def R_points_at (ds : List PyData) (d : PyData) : Prop := ∃ (C : Ct) (Ts : List Tr) (t : Tbl) (ns : List Nat) (task : Nat), Rv C Ts ∧ task < C.tasks.length ∧ (∀ n ∈ ns, n < Ts.length ∧ (trAt Ts n).task = task) ∧ ns.length ≤ 200 ∧ ds = [encC C, encTs Ts, encTab t, .list (ns.map nI), nI task] ∧ d = nI (pointsAt C Ts t ns task)
theorem ok_points_at (T : Tx w K mg) : Kn P w K mg base "points_at" 3 ["contest", "tries", "table", "numbers", "task"] (spF R_points_at) := by
  obtain ⟨fd, F⟩ := T.d_points_at
  refine fn_F F sc_points_at T.g_points_at b_points_at (fun ds d ⟨_, _, _, _, _, _, _, _, _, e, _⟩ => by rw [e]; rfl) (by decide) ?_
  rintro cdv A outer s H0 E B0 ds d vs Q hr ⟨C, Ts, t, ns, task, rv, htk, hns, hl, rfl, rfl⟩ S hQ
  obtain ⟨g1, g2, g3, g4⟩ := rv.v.groups htk
  obtain ⟨gs, hgs⟩ : ∃ gs, gs = C.groups task := ⟨_, rfl⟩
  rw [← hgs] at g1 g2 g4
  refine s_set 5 S (d := .tuple (gs.map encG)) (PD.ev (PD.to (pd_gs' (pd_var 0 rfl) (pd_var 4 rfl) htk) (by rw [hgs]))) (fun σ H' S => ?_) sc_points_at.nd
  refine s_set 6 S (PD.ev pd_int) (fun σ H' S => ?_) sc_points_at.nd
  refine s_new 7 S (pf_rep (n := gs.length) (pf_lst (pds_cons pd_int pds_nil)) (PD.to (pd_blt cd_lenT T.f_len bb_len (pds_cons (pd_var 5 rfl) pds_nil)) (by rw [List.length_map])) (by omega)) (fun l σ H' S => ?_) sc_points_at.nd (f := ?_) (hie := by simp [env0])
  · have e0 : List.replicate gs.length (PyData.int 0) = (List.replicate gs.length 0).map nI := by rw [List.map_replicate]; rfl
    rw [e0] at S
    refine s_for ns nI (fun k => (((env0 N_points_at [encC C, encTs Ts, encTab t, .list (ns.map nI), nI task]).set 5 (some (.tuple (gs.map encG)))).set 6 (some (nI ((ns.take k).foldl (ptStep C Ts t gs) (0, List.replicate gs.length 0)).1))).set 7 none)
      (fun k => [(7, l, .lst (((ns.take k).foldl (ptStep C Ts t gs) (0, List.replicate gs.length 0)).2.map nI))]) _ _ (fun _ => True) S (wi_list (pd_var 3 rfl)) trivial (fun _ _ S => S) (fun k a ha => pg_nm 8 sc_points_at.nd) (by simp) ?_ (fun σ H S _ => ?_) PassesOwn.never rfl
    · rintro B1 hB k n σ H hk _ S
      obtain ⟨hn, ht⟩ := hns n (List.mem_of_getElem? hk)
      have hgl : (groupStates C Ts t n).length = gs.length := by
        unfold groupStates
        rw [statesFrom_len, ht, hgs]
      obtain ⟨ac, hac⟩ : ∃ ac, ac = (ns.take k).foldl (ptStep C Ts t gs) (0, List.replicate gs.length 0) := ⟨_, rfl⟩
      have hst : (ns.take (k + 1)).foldl (ptStep C Ts t gs) (0, List.replicate gs.length 0) = ptStep C Ts t gs ac n := by rw [foldl_take _ _ hk, hac]
      have hal : ac.2.length = gs.length := by rw [hac, ptStep_len, List.length_replicate]
      rw [← hac] at S
      refine s_set 9 S (PD.ev (PF.pd (pf_fn (ok_group_states T) hr (pds_cons (pd_var 0 rfl) (pds_cons (pd_var 1 rfl) (pds_cons (pd_var 2 rfl) (pds_cons (pd_var 8 rfl) pds_nil)))) ⟨C, Ts, t, n, rv, hn, rfl, rfl⟩))) (fun σ H' S => ?_) sc_points_at.nd
      refine s_setC 11 S (items := List.range gs.length) (enc := nI) (cond := fun g => decide ((groupStates C Ts t n)[g]? = some ("passed" : Str))) (f := nI) (cown := [("g", 10)]) (blkOk_by (N := N_points_at) (sc := defScope s_points_at) (by decide +kernel))
        ⟨_, _, WIt.to (wi_rng (n := gs.length) (PD.to (pd_blt cd_lenT T.f_len bb_len (pds_cons (pd_var 5 rfl) pds_nil)) (by rw [List.length_map])) (by omega) T.f_range) (rngD0 _), by decide, by simp; omega, fun g hg s H C' cl fp => ⟨pg_nm 10 sc_points_at.nd, pqs_1 (PQ.to (pq_cmp rd_eqS (pd_ixL (n := g) (pd_var 9 rfl) (pd_var 10 rfl) (str_get ?_)) (pd_gs T.s_PASSED)) ?_), fun _ => pd_var 10 rfl⟩⟩
        (fun σ H' S => ?_) rfl sc_points_at.nd rfl
      · have := List.mem_range.mp hg
        omega
      · have := List.mem_range.mp hg
        exact getD_dec (by omega) _
      have hS : (((List.range gs.length).filter fun g => decide ((groupStates C Ts t n)[g]? = some ("passed" : Str))).map nI) = (passedG C Ts t n gs).map nI := rfl
      rw [hS] at S
      have hpl : (passedG C Ts t n gs).length ≤ 4 := by
        unfold passedG
        refine Nat.le_trans (List.length_filter_le _ _) ?_
        rw [List.length_range]
        omega
      refine s_set 6 S (d := nI (ptStep C Ts t gs ac n).1) (PD.ev (PD.to (pd_blt (cd_max rfl) T.f_max bb_max (pds_cons (pd_var 6 rfl) (pds_cons (pd_fn (ok_worth_of T) (hr.mono (by decide)) (pds_cons (pd_var 0 rfl) (pds_cons (pd_var 1 rfl) (pds_cons (pd_var 8 rfl) (pds_cons
        (pd_blt (cd_sum rfl) T.f_sum bb_sum (pds_cons (PF.pd (PF.to (pf_lc (items := passedG C Ts t n gs) (enc := nI) (cond := fun _ => true) (f := fun g => nI (pts gs g)) (own := [("g", 10)]) (blkOk_by (N := N_points_at) (sc := defScope s_points_at) (by decide +kernel))
          ⟨_, _, wi_list (pd_var 11 rfl), by decide, by omega, fun g hg s H C' cl fp => ⟨pg_nm 10 sc_points_at.nd, pqs_0, fun _ => pd_ixT (n := 1) (pd_ixT (n := g) (pd_var 5 rfl) (pd_var 10 rfl) (gs_get (passedG_lt hg))) pd_int rfl⟩⟩ rfl sc_points_at.nd)
            ((fil_true _ _).trans (ints_map _ _)))) pds_nil)) pds_nil)))) ⟨C, Ts, n, ((passedG C Ts t n gs).map (pts gs)).sum, rv, hn, by rw [sum_cast], rfl⟩) pds_nil))) ?_)) (fun σ H' S => ?_) sc_points_at.nd
      · rw [maxI]
        rfl
      refine s_for (passedG C Ts t n gs) nI (fun j => _) (fun j => [(7, l, .lst ((((passedG C Ts t n gs).take j).foldl (setW C Ts n gs) ac.2).map nI))]) _ _ (fun _ => True) S (wi_list (pd_var 11 rfl)) trivial (fun _ _ S => S) (fun k a ha => pg_nm 10 sc_points_at.nd) (by simp) ?_ (fun σ H S _ => s_nil ⟨?_, trivial⟩) PassesOwn.never rfl
      · rintro B2 hB2 j g σ2 H2 hj _ S
        have hg := passedG_lt (List.mem_of_getElem? hj)
        obtain ⟨sv, hsv⟩ : ∃ sv, sv = ((passedG C Ts t n gs).take j).foldl (setW C Ts n gs) ac.2 := ⟨_, rfl⟩
        have hsl : sv.length = gs.length := by rw [hsv, setW_len, hal]
        have hss : ((passedG C Ts t n gs).take (j + 1)).foldl (setW C Ts n gs) ac.2 = setW C Ts n gs sv g := by rw [foldl_take _ _ hj, hsv]
        rw [← hsv] at S
        refine s_seti (own1 := []) (j := g) (d := nI (max (sv.getD g 0) (worthOf C Ts n (pts gs g)))) rfl S (ev_x 7 (List.mem_singleton.mpr rfl) (PD.to (pd_blt (cd_max rfl) T.f_max bb_max (pds_cons (pd_ixL (n := g) (pd_var 7 rfl) (pd_var 10 rfl) (nI_get (by omega))) (pds_cons
          (pd_fn (ok_worth_of T) (hr.mono (by decide)) (pds_cons (pd_var 0 rfl) (pds_cons (pd_var 1 rfl) (pds_cons (pd_var 8 rfl) (pds_cons (pd_ixT (n := 1) (pd_ixT (n := g) (pd_var 5 rfl) (pd_var 10 rfl) (gs_get hg)) pd_int rfl) pds_nil)))) ⟨C, Ts, n, pts gs g, rv, hn, rfl, rfl⟩) pds_nil))) (by rw [maxI])) rfl) (pd_var 10 rfl) (by rw [List.length_map]; omega) fun H' S => s_nil ⟨?_, trivial⟩
        have e1 : (sv.map nI).set g (nI (max (sv.getD g 0) (worthOf C Ts n (pts gs g)))) = (setW C Ts n gs sv g).map nI := by
          unfold setW
          rw [List.map_set]
        rw [e1, ← hss] at S
        exact S.un
      · rw [List.take_length] at S
        rw [hst]
        exact S.sub (by trivial)
    · rw [List.take_length] at S
      refine s_ret S (ev_x 7 (List.mem_singleton.mpr rfl) (PD.to (pd_if (d := nI (pointsAt C Ts t ns task)) (pq_cmp rd_eqS (pd_ixT (n := 0) (pd_var 0 rfl) pd_int rfl) (pd_gs T.s_BEST)) (fun h => PD.to (pd_var 6 rfl) ?_) fun h => PD.to (pd_blt (cd_sum rfl) T.f_sum bb_sum (pds_cons (PD.to (pd_var 7 rfl) (congrArg PyData.list (sum_nI _).symm)) pds_nil)) ?_) rfl) rfl) hQ
      · have h := of_decide_eq_true h
        unfold pointsAt
        rw [← hgs]
        simp only [h, if_true]
      · have h := of_decide_eq_false h
        unfold pointsAt
        rw [← hgs, sum_cast]
        simp only [h, if_false]
  · rw [show List.replicate gs.length (PyData.int 0) = (List.replicate gs.length 0).map nI by rw [List.map_replicate]; rfl]
    exact fzA_map (fun _ => rfl) _
end
end JH
set_option Elab.async false
set_option linter.all false
set_option maxRecDepth 100000
set_option maxHeartbeats 4000000
/-! sorted(rows, key=lambda row: row[:2]) -/
namespace JH
open PySem PySem.Spec L2 PyProof.Rows PySem.W
open Evl (Ex)
abbrev lamP (ap : Pos) : Arguments := { posonlyargs := [], args := [{ arg := "row", annotation := none, pos := ap : PySem.Arg }], vararg := none, kwonlyargs := [], kw_defaults := [], kwarg := none, defaults := [] : PySem.Arguments }
abbrev lamS : Scope := { kind := .function, names := [(PySem.Str.ofString "row", .local)], isGenerator := false, isCoroutine := false, more := [] : PySem.Scope }
abbrev lamB (p1 p2 p3 p4 : Pos) (j : Nat) : Expr := .Subscript (.Name "row" p1) (.Slice none (some (.Constant (.int 2) j p2)) none p3) p4
section
variable {P : Program} {w : World} {A : Around} {E : Value → Shared → Prop} {s : Shared} {env : Env} {m : Str → Option Value} {p : Addr} {x y z : Value} {p1 p2 p3 p4 ap : Pos} {j : Nat} {Q : Value → Shared → Prop}
theorem lam_body (hk : env.scope.kind = .function) (hl : env.kindOf "row" = some .local) (hn : s.heap.Ns env.locals m) (hv : m "row" = some (.ref p)) (ht : s.heap.IsTuple p #[x, y, z])
    (q : ∀ (b : Addr) (g : Heap) (tk : Nat), (∀ c o, s.heap.get? c = some o → g.get? c = some o) → g.IsTuple b #[x, y] → Q (.ref b) { s with heap := g, toks := tk }) : wpAny (model P w) A (eval (lamB p1 p2 p3 p4 j) env) Q E s := by
  refine Subscript_ (wpAny_Name (wpAny_loadName_local hk hl hn hv ?_))
  refine wpAny_Slice ?_
  rw [evalPart_none]
  refine wpAny_pure ?_
  rw [evalPart_some]
  refine wpAny_Constant_int ?_
  refine wpAny_pure ?_
  have ht2 : (s.heap.push { cls := .type "slice", data := .fields #[.none, .int 2 s.toks, .none] }).IsTuple p #[x, y, z] := ht.at fun o e => Heap.get?_push_of_some _ e
  refine tail_any (ops := [.ref s.heap.objs.size, .ref p]) (s := { s with heap := s.heap.push { cls := .type "slice", data := .fields #[.none, .int 2 s.toks, .none] }, toks := s.toks + 1 }) (IsTup.typeIs ht2) PyProof.Rows.slot_tuple_getitem.lookup ?_ (by with_unfolding_all rfl)
  refine HT.getItem_tuple_cut (lo := none) (hi := some 2) (vl := .none) (vu := .int 2 s.toks) (s := { s with heap := s.heap.push { cls := .type "slice", data := .fields #[.none, .int 2 s.toks, .none] }, toks := s.toks + 1 }) ht2 (Heap.IsSliceOf.new ..) .none (.int 2 _) ?_ ?_ ?_
  · show ¬ (HT.sIx 3 0 none = 0 ∧ HT.sIx 3 3 (some 2) = 3)
    decide
  · refine q _ _ _ (fun c o e => Heap.get?_push_of_some _ (Heap.get?_push_of_some _ e)) ⟨_, Heap.get?_push_size _ rfl, rfl, _, rfl⟩
  · show 3 ≤ sizeLine
    decide
theorem lam_call {f c' : Addr} {q : Str} {pm ctv : Value} {i k : Int} {t1 t2 : Tok} (hd : A.depth < recursionLimit) (hlim : s.heap.NoLimit) (hf : s.heap.get? f = some (kla_obj "<lambda>" q (lamP ap) (lamB p1 p2 p3 p4 j) lamS [] pm c' ctv)) (hc : s.heap.CodeRec (.ref c') q)
    (ht : s.heap.IsTuple p #[.int i t1, .int k t2, z]) : wpAny (model P w) A (call (.ref f) [.ref p]) (KeyPure (.tuple [.int i, .int k]) s) (fun _ _ => False) s := by
  refine wpAny_call (kla_callFunE hd hf rfl rfl rfl rfl hc ?_)
  rw [show bindArgs (kla_fn "<lambda>" q (lamP ap) (lamB p1 p2 p3 p4 j) lamS [] pm (.ref c') ctv) ⟨[.ref p], []⟩ = pure [((PySem.Str.ofString "row" : Str), Value.ref p)] from rfl]
  refine wpAny_pure (wpAny_newFunctionEnv (show ∀ x ∈ lamS.names, x.2 ≠ .cell by decide) (by intro y hy; rw [List.mem_singleton.mp hy]; rfl) (fun h₁ hns hsb => ⟨hlim.fresh _ hsb, ?_⟩) rfl)
  have kp : ∀ b o, s.heap.get? b = some o → h₁.get? b = some o := fun b o e => hsb.extBut b o (Nat.ne_of_lt (Heap.lt_size e)) (Heap.get?_push_of_some _ e)
  refine kla_codeExpr (lam_body (m := fun y => ([((PySem.Str.ofString "row" : Str), Value.ref p)] : List (Str × Value)).reverse.lookup y) rfl rfl hns rfl (ht.at fun o e => kp _ _ e) fun b g tk hk hg => ?_)
  refine ⟨g, tk, rfl, fun c o e => hk _ _ (kp _ _ e), ?_⟩
  obtain ⟨o, h1, h2, n, h3⟩ := hg
  exact .tuple h1 h2 h3 (.cons (.int _ _) (.cons (.int _ _) .nil))
end
theorem cm_le : (fun a b : Row => decide ((a.1 : Int) < (b.1 : Int) ∨ ((a.1 : Int) = (b.1 : Int) ∧ (a.2.1 : Int) ≤ (b.2.1 : Int)))) = rowLe := by
  funext a b
  unfold rowLe
  rw [← Bool.decide_and, ← Bool.decide_or]
  exact decide_eq_decide.mpr (by omega)
section
variable {X : Cx} {pins : List (Addr × Obj)} {σ : L2.St} {H : Hp} {s : Shared}
/-- the lambda is made: its code object is new, or found in the table; what is known before stays so -/
theorem lam_new {c P : Addr} {params : Arguments} {body : Expr} {pos : Pos} {E Q : Value → Shared → Prop} (I : L2.Inv X pins σ H s) (TB : LamX.TabB X.base X.mg c P) (hcode : X.env.code = .ref c) (hq : X.env.qual ++ "<lambda>" = qL) (hT : LamX.TabS H P qL) (hdef : defaultsOf params X.env = ([], []))
    (h : ∀ (f c' : Addr) (pm ctv : Value) (H1 : Hp) (s' : Shared), L2.Inv X pins σ H1 s' → ExN H H1 → (∀ b o, b ≠ P → H b = some o → H1 b = some o) → (∀ b, b ≠ P → H b ≠ none → H1 b = H b) → s'.heap.get? f = some (kla_obj "<lambda>" qL params body lamS [] pm c' ctv) → s'.heap.CodeRec (.ref c') qL → Q (.ref f) s') :
    wpAny (model X.prog X.w) X.A (eval (.Lambda params body lamS pos) X.env) Q E s := by
  obtain ⟨tb, hP, ht, ha⟩ := hT
  have hcl : closureFor lamS X.env = pure (cloFrom X.env.cells lamS.names []) := closure_ok fun y hy e => by
    rw [List.mem_singleton.mp hy] at e
    cases e
  have hnil : cloFrom X.env.cells lamS.names [] = [] := rfl
  rw [hnil] at hcl
  refine kla_eval hdef ?_
  rw [hq]
  have hP2 : s.heap.get? P = some (tabObj tb) := I.hok P _ hP
  cases e : codeAmong pos tb.toList with
  | some cv =>
    obtain ⟨c', rfl, hco⟩ := ha pos cv e
    refine kla_makeFunctionHit (mg := X.mg) (c := c) (P := P) (ps := tb) hcl I.ok.glob (I.mod.glob.keeps I.bk) hcode (TB.code.keeps I.bk) hP2 ht e (TB.bm.keeps I.bk) fun ctv g tk hx hsz => ?_
    have I1 : L2.Inv X pins σ H { s with heap := g.push (kla_obj "<lambda>" qL params body lamS [] ((X.mg "__name__").getD .none) c' ctv), toks := tk } := I.kept fun b o q => Heap.get?_push_of_some _ (hx b o q)
    obtain ⟨⟨oc, us, t, k1, k2, k3⟩, _, _⟩ := I1.hok c' _ hco
    exact h g.objs.size c' _ ctv H _ I1 (.of fun b o q => q) (fun _ _ _ q => q) (fun _ _ _ => rfl) (Heap.get?_push_size _ rfl) ⟨c', oc, us, t, rfl, k1, k2, k3⟩
  | none =>
    refine kla_makeFunction (mg := X.mg) (c := c) (P := P) (ps := tb) hcl I.ok.glob (I.mod.glob.keeps I.bk) hcode (TB.code.keeps I.bk) hP2 ht e TB.gP (TB.bm.keeps I.bk) fun c' ctv g tk hx hge hlt hrec htb => ?_
    obtain ⟨c2, oc, us, t, e2, k1, k2, k3⟩ := hrec
    cases e2
    have nC : H c' = none := I.hok.fresh hge
    have nPc : P ≠ c' := fun z => by
      rw [z, nC] at hP
      cases hP
    have I1 := LamX.inv_table (t' := tk) (q := qL) (c := c') (more := #[rawInt pos.line, rawInt pos.col, .ref c']) (h' := g.push (kla_obj "<lambda>" qL params body lamS [] ((X.mg "__name__").getD .none) c' ctv)) I hP (fun b o hb q => Heap.get?_push_of_some _ (hx b o hb q)) (Heap.get?_push_of_some _ htb) hge
      ⟨oc, us, t, Heap.get?_push_of_some _ k1, k2, k3⟩
    have at2 : ∀ b, b ≠ P → b ≠ c' → upd (upd H P (.tbl (tb ++ #[rawInt pos.line, rawInt pos.col, .ref c']))) c' (LamX.CodeO c' qL) b = H b := fun b h1 h2 => by rw [upd_ne h2, upd_ne h1]
    have nc : ∀ b, H b ≠ none → b ≠ c' := fun b h z => h (by rw [z]; exact nC)
    refine h g.objs.size c' _ ctv _ _ I1 ?_ (fun b o hb q => by rw [at2 b hb (nc b (by rw [q]; simp))]; exact q) (fun b hb q => at2 b hb (nc b q)) (Heap.get?_push_size _ rfl) ⟨c', oc, us, t, rfl, Heap.get?_push_of_some _ k1, k2, k3⟩
    constructor
    · intro b o q nt
      have hb : b ≠ P := fun z => by
        rw [z, hP] at q
        exact nt tb (Option.some.inj q).symm
      rw [at2 b hb (nc b (by rw [q]; simp))]
      exact q
    · intro b q
      by_cases hb : b = c'
      · rw [hb]; exact nC
      · by_cases hb2 : b = P
        · rw [hb2, upd_ne nPc, upd_same] at q
          cases q
        · rw [at2 b hb2 hb] at q
          exact q
    · rintro R ⟨tr, r1, r2, r3⟩
      have low : ∀ (pos2 : Pos) (cv : Value), codeAmong pos2 tr.toList = some cv → ∃ d, cv = .ref d ∧ upd (upd H P (.tbl (tb ++ #[rawInt pos.line, rawInt pos.col, .ref c']))) c' (LamX.CodeO c' qL) d = some (LamX.CodeO d qL) := fun pos2 cv q => by
        obtain ⟨d, d1, d2⟩ := r3 pos2 cv q
        have hd : d ≠ P := fun z => by
          rw [z, hP] at d2
          exact LamX.codeO_ne _ (Option.some.inj d2).symm
        exact ⟨d, d1, by rw [at2 d hd (nc d (by rw [d2]; simp))]; exact d2⟩
      by_cases hR : R = P
      · subst hR
        rw [hP] at r1
        cases r1
        have el : (tb ++ #[rawInt pos.line, rawInt pos.col, .ref c']).toList = tb.toList ++ [rawInt pos.line, rawInt pos.col, .ref c'] := by simp
        refine ⟨_, by rw [upd_ne nPc, upd_same], by rw [el]; exact PySem.TriplesOk_snoc _ _ _ _ r2, fun pos2 cv q => ?_⟩
        rw [el] at q
        rcases LamX.among_app _ r2 q with z | z
        · exact low pos2 cv z
        · exact ⟨c', z, upd_same⟩
      · exact ⟨tr, by rw [at2 R hR (nc R (by rw [r1]; simp))]; exact r1, r2, low⟩
    · intro R qs q
      by_cases hR : R = P
      · exact ⟨_, by rw [hR, upd_ne nPc, upd_same]⟩
      · exact ⟨qs, by rw [at2 R hR (nc R (by rw [q]; simp))]; exact q⟩
/-- the rows' values -/
def RowV (B : Hp) (v : Value) (r : Row) : Prop := ∃ x, RelV x v ∧ Dz B x (encRow r)
theorem rowV_all {B : Hp} : ∀ {rows : List Row} {xs : List V} {us : List Value}, DzAll B xs (rows.map encRow) → Vals xs us → EachIs (RowV B) us rows
  | [], _, _, h, r => by
    cases h
    cases r
    exact .nil
  | a :: rows, _, _, h, r => by
    rw [List.map_cons] at h
    cases h with
    | cons h t =>
      cases r with
      | cons r rs => exact .cons ⟨_, r, h⟩ (rowV_all t rs)
theorem rowV_back {B : Hp} : ∀ {us : List Value} {rows : List Row}, EachIs (RowV B) us rows → ∃ xs, Vals xs us ∧ DzAll B xs (rows.map encRow)
  | _, _, .nil => ⟨[], .nil, .nil⟩
  | _, _, .cons ⟨x, r, h⟩ t => by
    obtain ⟨xs, r2, h2⟩ := rowV_back t
    exact ⟨x :: xs, .cons r r2, .cons h h2⟩
/-- return sorted(a, key=lambda row: row[:2]) -/
theorem pf_sortK {c P : Addr} {env : Ev} {a : Expr} {rows : List Row} {q1 lpos kpos pos ap p1 p2 p3 p4 : Pos} {j : Nat} (TB : LamX.TabB X.base X.mg c P) (hcode : X.env.code = .ref c) (hq : X.env.qual ++ "<lambda>" = qL) {B : Hp} (hT : LamX.TabS H P qL) (hB : B P = none) (E : En σ B env) (eb : Ex B H) (ha : PD X a env (.list (rows.map encRow))) (hr : Room 1 X.A)
    (hm : X.mg "sorted" = none) {Q : VK} (q : ∀ p xs B1 H1, H p = none → Stp B H B1 H1 → B1 p = some (.lst xs) → DzAll B1 xs ((rows.mergeSort rowLe).map encRow) → Q (.ref p) H1) (hg : Gl X "sorted" := by rfl)
    (he : backTo pos (starEach [a] X.env) = (false, eval a X.env) :: backTo pos (starEach [] X.env) := by rfl) (hs : starEach [a] X.env = (false, eval a X.env) :: starEach [] X.env := by rfl) (hpl : (backTo pos (starEach [a] X.env)).any (·.1) = false := by rfl)
    (hall : (backToKw pos (keywordEach [⟨some "key", .Lambda (lamP ap) (lamB p1 p2 p3 p4 j) lamS lpos, kpos⟩] X.env)).all (·.1.isSome) = true := by rfl) (hnone : (backToKw pos (keywordEach [⟨some "key", .Lambda (lamP ap) (lamB p1 p2 p3 p4 j) lamS lpos, kpos⟩] X.env)).any (·.1.isNone) = false := by rfl)
    (hks : (backToKw pos (keywordEach [⟨some "key", .Lambda (lamP ap) (lamB p1 p2 p3 p4 j) lamS lpos, kpos⟩] X.env)).filterMap (·.1) = [(PySem.Str.ofString "key" : Str)] := by rfl)
    (hdef : defaultsOf (lamP ap) X.env = ([], []) := by rfl) :
    WE X (.Call (.Name "sorted" q1) [a] [⟨some "key", .Lambda (lamP ap) (lamB p1 p2 p3 p4 j) lamS lpos, kpos⟩] pos) σ H Q := by
  intro pins s I
  refine wpAny_Call_Name_kw (ld_blt I hg hm bb_sorted ?_)
  have h1 : WA X [a] σ H _ := pds_cons ha pds_nil hs σ B H E eb (fun vs H1 => ∃ B1, Stp B H B1 H1 ∧ DzAll B1 vs [.list (rows.map encRow)]) fun vs B1 H1 s1 z1 => ⟨B1, s1, z1⟩
  refine callWith_kw (thn (h1 pos pins s I) fun us s1 ⟨vs, H1, I1, r1, B1, st1, z1⟩ => ?_) he hpl hall hnone
  obtain ⟨v, rfl, z2⟩ := z1.one
  obtain ⟨l, xs, rfl, hl, hx⟩ := z2.lst_inv
  obtain ⟨u, rfl, ru⟩ := vals1 r1
  obtain rfl : u = Value.ref l := ru
  rw [hks]
  have hP1 : H1 P ≠ none := fun z => by
    obtain ⟨tb, e, _⟩ := hT
    have := st1.hh.dom P z
    rw [e] at this
    cases this
  have hB1 : B1 P = none := st1.av P (by obtain ⟨tb, e, _⟩ := hT; exact ⟨_, e, fun _ z => nomatch z⟩) hB
  refine PyProof.Rows.kws_cons (lam_new I1 TB hcode hq (st1.hh.tab P hT) hdef fun f c' pm ctv H2 s2 I2 hN hk2 hk3 hf hc => PyProof.Rows.kws_nil ?_)
  have st2 : Stp B1 H1 B1 H2 := ⟨Ex.refl _, fun b o e => hk2 b o (fun z => by rw [z, hB1] at e; cases e) (st1.bh b o e), hN, fun b h n => n⟩
  obtain ⟨its, rv, pl, hz⟩ := I2.list (SqL.of (st2.bh l _ hl))
  have ev := rowV_all hx rv
  have hlen : its.length = rows.length := ev.length
  have hxl := rv.length
  refine sorted_key_data (b := false) (R := RowV B1) (bs := rows) (vs := its) (fun r : Row => .tuple [.int (r.1 : Int), .int (r.2.1 : Int)]) pl.isList ev (AllAlike.of fun _ _ => by simp [alike, alikeAll]) (Sortable.tuples fun _ => ⟨_, _, rfl⟩) (by omega) (fun r _ => ?_) (ksk_s1 _ _) (fun _ => ksk_l1 _ _) (fun _ => ksk_t1 _ _)
    (fun v r ⟨x, rx, dx⟩ _ g tk kp => ?_) fun out c2 g tk kp hn hD ho eo => ?_
  · have hd : (PyData.tuple [.int (r.1 : Int), .int (r.2.1 : Int)]).depth = 1 := by simp [PyData.depth, PyData.depthAll]
    have := hr.un
    omega
  · obtain ⟨p, ys, rfl, h1, h2⟩ := dx.tup_inv
    obtain rfl : v = Value.ref p := rx
    cases h2 with
    | cons d1 h2 =>
      cases h2 with
      | cons d2 h2 =>
        cases h2 with
        | cons d3 h2 =>
          cases h2
          rw [d1.int_inv, d2.int_inv] at h1
          obtain ⟨us, rv2, ht2, _⟩ := I2.tuple (SqT.of (st2.bh p _ h1))
          cases rv2 with
          | cons r1 rv2 =>
            cases rv2 with
            | cons r2 rv2 =>
              cases rv2 with
              | cons r3 rv2 =>
                cases rv2
                obtain ⟨t1, rfl⟩ := r1
                obtain ⟨t2, rfl⟩ := r2
                obtain ⟨c3, oc, vs3, t3, k0, k1, k2, k3⟩ := hc
                exact lam_call (by have := hr.dp; show X.A.in1.in1.depth < _; have : X.A.in1.in1.depth = X.A.depth := rfl; omega) (I2.nolimit.keeps kp) (kp _ _ hf) ⟨c3, oc, vs3, t3, k0, kp _ _ k1, k2, k3⟩ (Heap.IsTuple.at ht2 fun o e => kp _ _ e)
  · rw [dataLe_ii (β := Row) (fun r => (r.1 : Int)) (fun r => (r.2.1 : Int)), cm_le] at eo
    obtain ⟨ys, ry, dy⟩ := rowV_back eo
    have hfree : H2 (s2.heap.objs.size + 1) = none := I2.hok.fresh (Nat.le_succ _)
    have hyl := ry.length
    refine ⟨.ref (s2.heap.objs.size + 1), upd H2 (s2.heap.objs.size + 1) (.lst ys), I2.laid (t' := tk) kp (Nat.le_succ _) ⟨by omega, out, c2, ry, hD⟩, rfl, ?_⟩
    have st := (st1.trans st2).trans (Stp.new (o := .lst ys) st2.bh hfree)
    exact q _ ys _ _ ((st1.trans st2).hh.dom _ hfree) st upd_same (dy.ex (Evl.Ex.new (ex_none st2.bh hfree)))
end
end JH
set_option Elab.async false
set_option linter.all false
set_option maxRecDepth 100000
set_option maxHeartbeats 4000000
namespace JH
open PySem PySem.Spec L2
open Evl (Ex Ex.refl Ex.trans Ex.new Ex.mut)
local macro_rules | `(tactic| trivial) => `(tactic| repeat (first | exact Sub.nil | refine Sub.keep ?_ | refine Sub.drop ?_))
/-! ### the code table -/
def tbA (K : PySem.W.Frag) : Addr := (He.cT K ("placed", none)).2
def cdA (K : PySem.W.Frag) : Addr := (He.cT K ("placed", none)).1
structure TbOk (K : PySem.W.Frag) (B H : Hp) : Prop where
  tab : LamX.TabS H (tbA K) qL
  non : B (tbA K) = none
theorem TbOk.at_ {K : PySem.W.Frag} {B H : Hp} (t : TbOk K B H) : H (tbA K) ≠ none := fun z => by
  obtain ⟨ps, e, _⟩ := t.tab
  rw [e] at z
  cases z
theorem TbOk.av {K : PySem.W.Frag} {B H : Hp} (t : TbOk K B H) : Av H (tbA K) := by
  obtain ⟨ps, e, _⟩ := t.tab
  exact ⟨_, e, fun _ z => nomatch z⟩
theorem TbOk.stp {K : PySem.W.Frag} {B H B1 H1 : Hp} (t : TbOk K B H) (s : Stp B H B1 H1) : TbOk K B1 H1 := ⟨s.hh.tab _ t.tab, s.av _ t.av t.non⟩
section
variable (X : Cx)
def PDt (e : Expr) (env : Ev) (d : PyData) : Prop := ∀ (σ : L2.St) (B H : Hp), En σ B env → Ex B H → TbOk X.K B H → ∀ Q : VK, (∀ v B1 H1, Stp B H B1 H1 → Dz B1 v d → Q v H1) → WE X e σ H Q
def PFt (e : Expr) (env : Ev) (ds : List PyData) : Prop := ∀ (σ : L2.St) (B H : Hp), En σ B env → Ex B H → TbOk X.K B H → ∀ Q : VK, (∀ p xs B1 H1, H p = none → Stp B H B1 H1 → B1 p = some (.lst xs) → DzAll B1 xs ds → Q (.ref p) H1) → WE X e σ H Q
def PDst (es : List Expr) (env : Ev) (ds : List PyData) : Prop := ∀ (σ : L2.St) (B H : Hp), En σ B env → Ex B H → TbOk X.K B H → ∀ Q : List V → Hp → Prop, (∀ vs B1 H1, Stp B H B1 H1 → DzAll B1 vs ds → Q vs H1) → WA X es σ H Q
end
/-- promises of defs that make the lambda -/
def spT (K : PySem.W.Frag) (R : List PyData → List PyData → Prop) : Sp := fun vs H Q _ => ∃ B ds es, Ex B H ∧ DzAll B vs ds ∧ TbOk K B H ∧ R ds es ∧ ∀ p xs B1 H1, H p = none → Stp B H B1 H1 → B1 p = some (.lst xs) → DzAll B1 xs es → Q (.ref p) H1
section
variable {X : Cx} {env : Ev} {d d1 d2 : PyData} {ds es : List PyData} {a b c : Expr} {pos p : Pos} {x : Str} {k : Nat} {ps : List Str}
theorem PD.t (h : PD X a env d) : PDt X a env d := fun σ B H E eb _ Q q => h σ B H E eb Q q
theorem PDt.to (h : PDt X a env d) (q : d = d1) : PDt X a env d1 := q ▸ h
theorem PFt.to (h : PFt X a env ds) (q : ds = es) : PFt X a env es := q ▸ h
theorem PFt.pd (h : PFt X a env ds) : PDt X a env (.list ds) := fun σ B H E eb T Q q => h σ B H E eb T Q fun p xs B1 H1 _ st hp ha => q _ B1 H1 st (.lst hp ha)
theorem PDs.t {args : List Expr} (h : PDs X args env ds) : PDst X args env ds := fun σ B H E eb _ Q q => h σ B H E eb Q q
theorem pdst_cons {es : List Expr} (ha : PDt X a env d) (hb : PDst X es env ds) (hs : starEach (a :: es) X.env = (false, eval a X.env) :: starEach es X.env := by rfl) : PDst X (a :: es) env (d :: ds) := fun σ B H E eb T Q q => by
  refine wa (pa_cons smE smA hs) ?_
  exact ha σ B H E eb T _ fun x B1 H1 s1 z1 => hb σ B1 H1 (E.ex s1.bb) s1.bh (T.stp s1) _ fun ys B2 H2 s2 z2 => q _ B2 H2 (s1.trans s2) (.cons (z1.ex s2.bb) z2)
theorem pft_fn {R : List PyData → List PyData → Prop} {e : Expr} {args : List Expr} (F : Kn X.prog X.w X.K X.mg X.base x k ps (spT X.K R)) (hr : Room k X.A) (ha : PDst X (e :: args) env ds) (h : R ds es) (hg : Gl X x := by rfl)
    (he : starEach (e :: args) X.env = (false, eval e X.env) :: starEach args X.env := by rfl) (hpl : (backTo pos (starEach args X.env)).any (·.1) = false := by rfl) (hd : (x == ("__debug__" : Str)) = false := by decide) : PFt X (.Call (.Name x p) (e :: args) [] pos) env es := fun σ B H E eb T Q q => by
  obtain ⟨f, fd, F, hm, hk, hb⟩ := F
  refine we (pe_call F hr hg hm hk hb .nil pass0 smA hd he hpl) ?_
  refine ha σ B H E eb T _ fun vs B1 H1 s1 z1 => ?_
  rw [List.append_nil]
  exact ⟨B1, ds, es, s1.bh, z1, T.stp s1, h, fun p xs B2 H2 n2 s2 h2 z2 => q p xs B2 H2 (ex_h0 s1 n2) (s1.trans s2) h2 z2⟩
theorem pdt_fn {R : List PyData → PyData → Prop} {e : Expr} {es : List Expr} (F : Kn X.prog X.w X.K X.mg X.base x k ps (spF R)) (hr : Room k X.A) (ha : PDst X (e :: es) env ds) (h : R ds d) (hg : Gl X x := by rfl)
    (he : starEach (e :: es) X.env = (false, eval e X.env) :: starEach es X.env := by rfl) (hpl : (backTo pos (starEach es X.env)).any (·.1) = false := by rfl) (hd : (x == ("__debug__" : Str)) = false := by decide) : PDt X (.Call (.Name x p) (e :: es) [] pos) env d := fun σ B H E eb T Q q => by
  obtain ⟨f, fd, F, hm, hk, hb⟩ := F
  refine we (pe_call F hr hg hm hk hb .nil pass0 smA hd he hpl) ?_
  refine ha σ B H E eb T _ fun vs B1 H1 s1 z1 => ?_
  rw [List.append_nil]
  exact ⟨B1, ds, d, s1.bh, z1, h, fun v B2 H2 s2 z2 => q v B2 H2 (s1.trans s2) z2⟩
end
section
variable {X : Cx} {B0 H0 H : Hp} {env : Ev} {own : Own} {σ : L2.St} {d : PyData} {ds : List PyData} {e : Expr} {rest : List Stmt} {D : Ends} {pos : Pos}
theorem s_retT (T : TbOk X.K B0 H0) (S : Sta B0 H0 env own σ H) (h : PFt X e env ds) (k : ∀ p xs B1 H1, H0 p = none → Stp B0 H0 B1 H1 → B1 p = some (.lst xs) → DzAll B1 xs ds → D.rt (.ref p) H1) : WSs X (.Return (some e) pos :: rest) D σ H := by
  obtain ⟨B, s, E, o⟩ := S
  refine wss (pss_cons (ps_ret smE) (pss_never)) ?_
  exact h σ B H E s.bh (T.stp s) _ fun p xs B1 H1 n1 s1 z1 a1 => k p xs B1 H1 (ex_h0 s n1) (s.trans s1) z1 a1
theorem PDt.ev (T : TbOk X.K B0 H0) (h : PDt X e env d) : EV X B0 H0 env own e d := fun σ H ⟨B, s, E, o⟩ Q q => h σ B H E s.bh (T.stp s) Q fun v B1 H1 s1 z1 => q v H1 ⟨B1, s.trans s1, E.ex s1.bb, o.stp s1, z1⟩
end
section
variable {P : Program} {w : World} {K : PySem.W.Frag} {mg : Str → Option Value} {base : Heap}
theorem fn_T {x : Str} {params : Arguments} {body : List Stmt} {scope : Scope} {N ps : List Str} {k : Nat} {R : List PyData → List PyData → Prop} {f : Addr} {fd : FuncData} (F : FunD K x x params body scope [] [] f fd) (S : FnScope N ps scope) (hmg : mg x = some (.ref f))
    (hb : ∀ (kV doc pm : Value) (an : Option Addr) (cdv ct : Value) (us : List Value), us.length = ps.length → bindArgs (PySem.W.fnOf x x params body scope .none kV doc pm an cdv ct) ⟨us, []⟩ = pure (ps.zip us))
    (hl : ∀ ds d, R ds d → ds.length = ps.length) (hN : ps.length ≤ N.length)
    (h : ∀ (cdv : Value) (A : Around) (outer : List Env) (s : Shared) (H0 : Hp) (E : XK) (B0 : Hp) (ds es : List PyData) (vs : List V) (Q : VK), (∀ y, f = He.fAd K (y, none) → cdv = .ref (He.codeOf K (y, none))) → Room k (A.deeper (PyProof.Rows.envOfC x scope s.heap.objs.size f cdv)) → R ds es → TbOk K B0 H0 → Sta B0 H0 (env0 N ds) [] (L2.start N vs) H0 → (∀ p xs B1 H1, H0 p = none → Stp B0 H0 B1 H1 → B1 p = some (.lst xs) → DzAll B1 xs es → Q (.ref p) H1) →
      WSs (cxOf CX0 P w K mg base N x scope f cdv A outer s H0 E).nox body { nx := fun _ H' => Q .non H', rt := Q } (L2.start N vs) H0) : Kn P w K mg base x (k + 1) ps (spT K R) := by
  obtain ⟨oc, od, dV, kV, doc, pm, an, cdv, ct, osl, hfd, lk, hcd, h5, h6⟩ := id F.ex
  obtain ⟨c, rfl⟩ := He.codeIn_ref hcd
  subst hfd
  refine ⟨f, _, fn_of lk hcd S (fun vs H Q E h => ?_) (fun A outer s H vs Q E hr h' => ?_), hmg, F.kp, F.bindsN hb⟩
  · obtain ⟨B, ds, d, eb, ha, _, r, _⟩ := h
    rw [ha.length, hl ds d r]
  · obtain ⟨B, ds, d, eb, ha, T, r, q⟩ := h'
    refine ⟨_, PSs.nox smSs, h (.ref c) A outer s H E B ds d vs Q (fun y hy => ?_) hr r T ⟨B, .refl eb, en_start ha ?_, ⟨fun p hp => (nomatch hp), List.nodup_nil⟩⟩ q⟩
    · subst hy
      rw [He.codeOf_eq lk rfl]
    · rw [ha.length, hl ds d r]
      exact hN
def encSc (s : List Nat) : PyData := .tuple (s.map nI)
def scAt (C : Ct) (Ts : List Tr) (t : Tbl) (team : Nat) (un : List Nat) (k : Nat) : Sc := (List.range k).foldl (scStep C Ts t team un) {}
def R_score_of (ds : List PyData) (d : PyData) : Prop := ∃ (C : Ct) (Ts : List Tr) (t : Tbl) (team : Nat) (un : List Nat), Rv C Ts ∧ un.length = C.tasks.length ∧ ds = [encC C, encTs Ts, encTab t, nI team, .list (un.map nI)] ∧ d = encSc (scoreOf C Ts t team un)
theorem ok_score_of (T : Tx w K mg) : Kn P w K mg base "score_of" 5 ["contest", "tries", "table", "team", "untils"] (spF R_score_of) := by
  obtain ⟨fd, F⟩ := T.d_score_of
  refine fn_F F sc_score_of T.g_score_of b_score_of (fun ds d ⟨_, _, _, _, _, _, _, e, _⟩ => by rw [e]; rfl) (by decide) ?_
  rintro cdv A outer s H0 E B0 ds d vs Q hr ⟨C, Ts, t, team, un, rv, hun, rfl, rfl⟩ S hQ
  have n2 := rv.v.n2
  have tl := rv.tv.len
  refine s_asg S (PD.ev (pd_tup (pds_cons pd_int (pds_cons pd_int (pds_cons pd_int (pds_cons pd_int pds_nil)))))) (pg_tp rfl (pgs_1 (pg_nm 5 sc_score_of.nd) (pgs_1 (pg_nm 6 sc_score_of.nd) (pgs_1 (pg_nm 7 sc_score_of.nd) (pgs_1 (pg_nm 8 sc_score_of.nd) pgs_0))))) fun σ H' S => ?_
  refine s_for (List.range C.tasks.length) nI (fun k => ((((env0 N_score_of [encC C, encTs Ts, encTab t, nI team, .list (un.map nI)]).set 5 (some (nI (scAt C Ts t team un k).solved))).set 6 (some (nI (scAt C Ts t team un k).cost))).set 7 (some (nI (scAt C Ts t team un k).last))).set 8 (some (nI (scAt C Ts t team un k).points)))
    (fun k => []) _ _ (fun _ => True) S (WIt.to (wi_rng (n := C.tasks.length) (PD.to (pd_blt cd_lenT T.f_len bb_len (pds_cons (pd_ixT (n := 4) (pd_var 0 rfl) pd_int rfl) pds_nil)) (by rw [List.length_map])) (by omega) T.f_range) (rngD0 _)) trivial (fun _ _ S => S)
    (fun k a ha => pg_nm 9 sc_score_of.nd) (by simp) ?_ (fun σ H S _ => ?_) PassesOwn.never rfl
  · rintro B1 hB k task σ H hk _ S
    obtain ⟨rfl, hlt⟩ := range_at hk
    obtain ⟨ac, hac⟩ : ∃ ac, ac = scAt C Ts t team un task := ⟨_, rfl⟩
    have hst : scAt C Ts t team un (task + 1) = scStep C Ts t team un ac task := by
      unfold scAt at hac ⊢
      rw [foldl_range, hac]
    rw [← hac] at S
    have hnl := numbersOf_len (Ts := Ts) (team := team) (task := task) (u := un.getD task 0)
    refine s_set 10 S (PD.ev (PF.pd (pf_fn (ok_numbers_of T) (hr.mono (by decide)) (pds_cons (pd_var 0 rfl) (pds_cons (pd_var 1 rfl) (pds_cons (pd_var 3 rfl) (pds_cons (pd_var 9 rfl) (pds_cons (pd_ixL (n := task) (pd_var 4 rfl) (pd_var 9 rfl) (nI_get (by omega))) pds_nil))))) ⟨C, Ts, team, task, un.getD task 0, tl, rfl, rfl⟩))) (fun σ H' S => ?_) sc_score_of.nd
    refine s_if S (PQ.tv (pq_cmp rd_eqS (pd_ixT (n := 0) (pd_var 0 rfl) pd_int rfl) (pd_gs T.s_FIRST))) (fun h H' S => ?_) fun h H' S => ?_
    · have h := of_decide_eq_true h
      refine s_set 11 S (PD.ev (pd_fn (ok_solved_at T) hr (pds_cons (pd_var 0 rfl) (pds_cons (pd_var 1 rfl) (pds_cons (pd_var 2 rfl) (pds_cons (pd_var 10 rfl) pds_nil)))) ⟨C, Ts, t, numbersOf Ts team task (un.getD task 0), rv, fun n hn => (numbersOf_lt hn).1, by omega, rfl, rfl⟩)) (fun σ H' S => ?_) sc_score_of.nd
      have hst2 : scStep C Ts t team un ac task = match solvedFrom C Ts t 0 (numbersOf Ts team task (un.getD task 0)) with
        | some f => { ac with solved := ac.solved + 1, cost := ac.cost + f.1, last := max ac.last f.2 }
        | none => ac := by
        unfold scStep
        rw [if_pos h]
        try (generalize solvedFrom C Ts t 0 (numbersOf Ts team task (un.getD task 0)) = o
             cases o <;> rfl)
      generalize solvedFrom C Ts t 0 (numbersOf Ts team task (un.getD task 0)) = o at S hst2
      cases o with
      | none =>
        refine s_if0 S (PQ.tv (PQ.to (pq_cmp rd_notN (pd_var 11 rfl) pd_non) rfl)) fun H' S => s_nil (s_nil ⟨?_, trivial⟩)
        rw [hst, hst2]
        exact S.sub (by trivial)
      | some f =>
        refine s_if S (PQ.tv (PQ.to (pq_cmp rd_notN (pd_var 11 rfl) pd_non) rfl)) (fun _ H' S => ?_) (fun z => nomatch z)
        refine s_par3 5 6 7 S (pds_cons (pd_bin rd_add (pd_var 5 rfl) pd_int) (pds_cons (pd_bin rd_add (pd_var 6 rfl) (pd_ixT (n := 0) (ds := [nI f.1, nI f.2]) (pd_var 11 rfl) pd_int rfl)) (pds_cons (pd_blt (cd_max rfl) T.f_max bb_max (pds_cons (pd_var 7 rfl) (pds_cons (pd_ixT (n := 1) (ds := [nI f.1, nI f.2]) (pd_var 11 rfl) pd_int rfl) pds_nil))) pds_nil))) (fun σ H' S => s_nil (s_nil (s_nil ⟨?_, trivial⟩))) rfl sc_score_of.nd
        rw [maxI] at S
        rw [hst, hst2]
        exact S.sub (by trivial)
    · have h := of_decide_eq_false h
      have hst2 : scStep C Ts t team un ac task = { ac with points := ac.points + pointsAt C Ts t (numbersOf Ts team task (un.getD task 0)) task } := by
        unfold scStep
        rw [if_neg h]
      refine s_set 8 S (PD.ev (pd_bin rd_add (pd_var 8 rfl) (pd_fn (ok_points_at T) (hr.mono (by decide)) (pds_cons (pd_var 0 rfl) (pds_cons (pd_var 1 rfl) (pds_cons (pd_var 2 rfl) (pds_cons (pd_var 10 rfl) (pds_cons (pd_var 9 rfl) pds_nil)))))
        ⟨C, Ts, t, numbersOf Ts team task (un.getD task 0), task, rv, hlt, fun n hn => ⟨(numbersOf_lt hn).1, (numbersOf_lt hn).2.2.1⟩, by omega, rfl, rfl⟩))) (fun σ H' S => s_nil (s_nil ⟨?_, trivial⟩)) sc_score_of.nd
      rw [hst, hst2]
      exact S.sub (by trivial)
  · rw [List.length_range] at S
    refine s_ret S (PD.ev (PD.to (pd_if (d := encSc (scoreOf C Ts t team un)) (pq_cmp rd_eqS (pd_ixT (n := 0) (pd_var 0 rfl) pd_int rfl) (pd_gs T.s_FIRST)) (fun h => PD.to (pd_tup (pds_cons (pd_var 5 rfl) (pds_cons (pd_var 6 rfl) (pds_cons (pd_var 7 rfl) pds_nil)))) ?_) fun h => PD.to (pd_tup (pds_cons (pd_var 8 rfl) pds_nil)) ?_) rfl)) hQ
    · have h := of_decide_eq_true h
      unfold encSc scoreOf
      simp only [h, if_true]
      rfl
    · have h := of_decide_eq_false h
      unfold encSc scoreOf
      simp only [h, if_false]
      rfl
def R_rank_of (ds : List PyData) (d : PyData) : Prop := ∃ (a : Nat) (s : List Nat), s.length ≤ 1000 ∧ ds = [encSc (a :: s)] ∧ d = .tuple ((rankOf (a :: s)).map .int)
theorem ok_rank_of (T : Tx w K mg) : Kn P w K mg base "rank_of" 1 ["score"] (spF R_rank_of) := by
  obtain ⟨fd, F⟩ := T.d_rank_of
  refine fn_F F sc_rank_of T.g_rank_of b_rank_of (fun ds d ⟨_, _, _, e, _⟩ => by rw [e]; rfl) (by decide) ?_
  rintro cdv A outer s H0 E B0 ds d vs Q hr ⟨a, l, hl, rfl, rfl⟩ S hQ
  refine s_ret S (PD.ev (PD.to (pd_bin (rd_catT (ds := [.int (0 - (a : Int))]) (es := l.map nI) (by simp; omega)) (pd_tup (pds_cons (pd_bin rd_sub pd_int (pd_ixT (n := 0) (ds := nI a :: l.map nI) (pd_var 0 rfl) pd_int rfl)) pds_nil)) (PD.to (pd_slT (ds := nI a :: l.map nI) (pd_var 0 rfl) (pdo_some pd_int) pdo_none (by simp; omega)) ?_)) ?_)) hQ
  · exact congrArg PyData.tuple (cut_from _ 1)
  · unfold rankOf
    rw [List.map_cons, List.map_map]
    rfl
end
end JH
set_option Elab.async false
set_option linter.all false
set_option maxRecDepth 100000
set_option maxHeartbeats 4000000
namespace JH
open PySem PySem.Spec L2
open Evl (Ex Ex.refl Ex.trans Ex.new Ex.mut)
local macro_rules | `(tactic| trivial) => `(tactic| repeat (first | exact Sub.nil | refine Sub.keep ?_ | refine Sub.drop ?_))
/-- a list of one's own, from now on known for good -/
theorem Sta.shown {B0 H0 H : Hp} {env : Ev} {own : Own} {σ : L2.St} {i : Nat} {l : Addr} {ds : List PyData} (S : Sta B0 H0 env own σ H) (hm : (i, l, OC.lst ds) ∈ own) (hi : i < 1000 := by decide) : ∃ B, Stp B0 H0 B H ∧ En σ B (env.set i (some (.list ds))) := by
  obtain ⟨B, s, E, o⟩ := S
  obtain ⟨B', e1, e2, E', sm, _⟩ := exposed s E o hm rfl hi
  refine ⟨B', ⟨s.bb.trans e1, e2, s.hh, fun a h hb => ?_⟩, E'⟩
  by_cases ha : a = l
  · exact absurd (o.all _ hm).2.2.1 (by rw [ha] at h; exact h.ne)
  · rw [sm a ha]
    exact s.av a h hb
def encRk (r : List Int) : PyData := .tuple (r.map .int)
def SsOk (ss : List (List Nat)) : Prop := ss.length ≤ 12 ∧ ∀ s ∈ ss, s ≠ [] ∧ s.length ≤ 1000
theorem placedU_at {ss : List (List Nat)} {k : Nat} {s : List Nat} (h : ss[k]? = some s) : (placedU ss)[k]? = some (placeAt ss k s) := by
  unfold placedU
  rw [List.getElem?_map, List.getElem?_zipIdx, h, Nat.zero_add]
  rfl
theorem zip_at {α : Type} {l : List α} {k i : Nat} {x : α} (hk : l.zipIdx[k]? = some (x, i)) : i = k ∧ l[k]? = some x := by
  rw [List.getElem?_zipIdx] at hk
  obtain ⟨y, h1, h2⟩ := Option.map_eq_some_iff.mp hk
  cases h2
  exact ⟨by omega, h1⟩
section
variable {P : Program} {w : World} {K : PySem.W.Frag} {mg : Str → Option Value} {base : Heap}
def R_placed (ds es : List PyData) : Prop := ∃ ss : List (List Nat), SsOk ss ∧ ds = [.list (ss.map encSc)] ∧ es = (placed ss).map encRow
theorem ok_placed (T : Tx w K mg) (TB : LamX.TabB base mg (cdA K) (tbA K)) : Kn P w K mg base "placed" 3 ["scores"] (spT K R_placed) := by
  obtain ⟨fd, F⟩ := T.d_placed
  refine fn_T F sc_placed T.g_placed b_placed (fun ds d ⟨_, _, e, _⟩ => by rw [e]; rfl) (by decide) ?_
  rintro cdv A outer s H0 E B0 ds es vs Q hcd hr ⟨ss, ⟨hl, hs⟩, rfl, rfl⟩ Tb S hQ
  have hcd := hcd "placed" rfl
  refine s_set 2 S (d := .list ((ss.map rankOf).map encRk)) (PD.ev (PD.to (PF.pd (pf_lc (items := ss) (enc := encSc) (cond := fun _ => true) (f := fun s => encRk (rankOf s)) (own := [("score", 1)]) (blkOk_by (N := N_placed) (sc := defScope s_placed) (by decide +kernel))
    ⟨_, _, wi_list (pd_var 0 rfl), by decide, by omega, fun z hz s H C' cl fp => ⟨pg_nm 1 sc_placed.nd, pqs_0, fun _ => pd_fn (ok_rank_of T) (hr.mono (by decide)) (pds_cons (pd_var 1 rfl) pds_nil) ?_⟩⟩ rfl sc_placed.nd)) (by rw [fil_true, List.map_map]; rfl))) (fun σ H' S => ?_) sc_placed.nd
  · obtain ⟨z1, z2⟩ := hs z hz
    cases z with
    | nil => exact absurd rfl z1
    | cons a l => exact ⟨a, l, by simp at z2; omega, rfl, rfl⟩
  · refine s_new 3 S (pf_lst pds_nil) (fun l σ H' S => ?_) sc_placed.nd (hie := by simp [env0])
    refine s_for ss.zipIdx (fun p => .tuple [nI p.2, encSc p.1]) (fun _ => _) (fun k => [(3, l, .lst (((placedU ss).take k).map encRow))]) _ _ (fun _ => True) S (WIt.to (wi_enum (pd_var 0 rfl) T.f_enumerate) (enumD_map _ _)) trivial (fun _ _ S => S)
      (fun k a ha => pg_tp rfl (pgs_1 (pg_nm 4 sc_placed.nd) (pgs_1 (pg_nm 1 sc_placed.nd) pgs_0))) (by simp) ?_ (fun σ H S _ => ?_) PassesOwn.never rfl
    · rintro B1 hB k ⟨z, i⟩ σ H hk _ S
      obtain ⟨rfl, hz⟩ := zip_at hk
      have hlt := (List.getElem?_eq_some_iff.mp hz).1
      have hrk : ((ss.map rankOf).map encRk)[i]? = some (encRk (rankOf z)) := by
        rw [List.getElem?_map, List.getElem?_map, hz]
        rfl
      refine s_app (own1 := []) rfl S (d := encRow (placeAt ss i z)) (PD.ev (pd_tup (pds_cons (PD.to (pd_bin rd_add pd_int (pd_blt cd_lenL T.f_len bb_len (pds_cons (PF.pd (pf_lc (items := ss.map rankOf) (enc := encRk) (cond := fun r => HT.lexLt r (rankOf z)) (f := encRk) (own := [("rank", 5)]) (blkOk_by (N := N_placed) (sc := defScope s_placed) (by decide +kernel))
        ⟨_, _, wi_list (pd_var 2 rfl), by decide, by simp; omega, fun r hr2 s H C' cl fp => ⟨pg_nm 5 sc_placed.nd, pqs_1 (pq_cmp (rd_ltT hr.units0) (pd_var 5 rfl) (pd_ixL (n := i) (pd_var 2 rfl) (pd_var 4 rfl) hrk)), fun _ => pd_var 5 rfl⟩⟩ rfl sc_placed.nd)) pds_nil))) ?_)
        (pds_cons (pd_var 4 rfl) (pds_cons (pd_var 1 rfl) pds_nil))))) (fun H' S => ?_) ?_
      · rw [List.length_map]
        rfl
      · have e : ((placedU ss).take (i + 1)).map encRow = ((placedU ss).take i).map encRow ++ [encRow (placeAt ss i z)] := by
          rw [List.take_add_one, placedU_at hz, List.map_append]
          rfl
        refine s_nil ⟨?_, trivial⟩
        rw [e]
        exact S.sub (by trivial)
      · rw [List.length_map, List.length_take]
        omega
    · have hlen : (placedU ss).length = ss.zipIdx.length := by simp [placedU]
      rw [← hlen, List.take_length] at S
      obtain ⟨B, st, E⟩ := S.shown (List.mem_singleton.mpr rfl)
      have Tb2 := Tb.stp st
      refine wss (pss_cons (ps_ret smE) (pss_never)) ?_
      refine pf_sortK (c := cdA K) (P := tbA K) (rows := placedU ss) TB (by rw [show cdA K = He.codeOf K ("placed", none) from rfl]; exact hcd) rfl Tb2.tab Tb2.non E st.bh (pd_var 3 rfl) (hr.mono (by decide)) T.f_sorted ?_
      exact fun p xs B1 H1 n1 s1 h1 a1 => hQ p xs B1 H1 (ex_h0 st n1) (st.trans s1) h1 a1
theorem scoreOf_ok (C : Ct) (Ts : List Tr) (t : Tbl) (team : Nat) (un : List Nat) : scoreOf C Ts t team un ≠ [] ∧ (scoreOf C Ts t team un).length ≤ 1000 := by
  unfold scoreOf
  split <;> simp
def R_whole (ds es : List PyData) : Prop := ∃ C : Ct, Cv C ∧ ds = [encC C] ∧ es = (wholeU C).map nI
theorem ok_whole_untils (T : Tx w K mg) : Kn P w K mg base "whole_untils" 1 ["contest"] (spL R_whole) := by
  obtain ⟨fd, F⟩ := T.d_whole_untils
  refine fn_L F sc_whole_untils T.g_whole_untils b_whole_untils (fun ds d ⟨_, _, e, _⟩ => by rw [e]; rfl) (by decide) ?_
  rintro cdv A outer s H0 E B0 ds es vs Q hr ⟨C, v, rfl, rfl⟩ S hQ
  have n2 := v.n2
  refine s_retF S (PF.to (pf_rep (n := C.tasks.length) (d := nI C.fin) (pf_lst (pds_cons (pd_ixT (n := 2) (pd_var 0 rfl) pd_int rfl) pds_nil)) (PD.to (pd_blt cd_lenT T.f_len bb_len (pds_cons (pd_ixT (n := 4) (pd_var 0 rfl) pd_int rfl) pds_nil)) (by rw [List.length_map])) (by omega)) ?_) hQ
  unfold wholeU
  rw [List.map_replicate]
def R_all_placed (ds es : List PyData) : Prop := ∃ (C : Ct) (Ts : List Tr) (t : Tbl), Rv C Ts ∧ ds = [encC C, encTs Ts, encTab t] ∧ es = (allPlaced C Ts t).map encRow
theorem ok_all_placed (T : Tx w K mg) (TB : LamX.TabB base mg (cdA K) (tbA K)) : Kn P w K mg base "all_placed" 6 ["contest", "tries", "table"] (spT K R_all_placed) := by
  obtain ⟨fd, F⟩ := T.d_all_placed
  refine fn_T F sc_all_placed T.g_all_placed b_all_placed (fun ds d ⟨_, _, _, _, e, _⟩ => by rw [e]; rfl) (by decide) ?_
  rintro cdv A outer s H0 E B0 ds es vs Q _ hr ⟨C, Ts, t, rv, rfl, rfl⟩ Tb S hQ
  have t2 := rv.v.t2
  refine s_set 3 S (PD.ev (PF.pd (pf_fn (ok_whole_untils T) (hr.mono (by decide)) (pds_cons (pd_var 0 rfl) pds_nil) ⟨C, rv.v, rfl, rfl⟩))) (fun σ H' S => ?_) sc_all_placed.nd
  refine s_retT Tb S (pft_fn (ok_placed T TB) (hr.mono (by decide)) (pdst_cons (PD.t (PF.pd (pf_lc (items := List.range C.teams) (enc := nI) (cond := fun _ => true) (f := fun team => encSc (scoreOf C Ts t team (wholeU C))) (own := [("team", 4)]) (blkOk_by (N := N_all_placed) (sc := defScope s_all_placed) (by decide +kernel))
    ⟨_, _, WIt.to (wi_rng (n := C.teams) (pd_ixT (n := 1) (pd_var 0 rfl) pd_int rfl) (by omega) T.f_range) (rngD0 _), by decide, by simp; omega, fun team hz s H C' cl fp => ⟨pg_nm 4 sc_all_placed.nd, pqs_0, fun _ => pd_fn (ok_score_of T) hr (pds_cons (pd_var 0 rfl) (pds_cons (pd_var 1 rfl) (pds_cons (pd_var 2 rfl) (pds_cons (pd_var 4 rfl) (pds_cons (pd_var 3 rfl) pds_nil)))))
      ⟨C, Ts, t, team, wholeU C, rv, by simp [wholeU], rfl, rfl⟩⟩⟩ rfl sc_all_placed.nd))) (PDs.t pds_nil)) ⟨(List.range C.teams).map fun team => scoreOf C Ts t team (wholeU C), ⟨by simp; omega, fun s hs => ?_⟩, ?_, rfl⟩) hQ
  · obtain ⟨team, _, rfl⟩ := List.mem_map.mp hs
    exact scoreOf_ok ..
  · rw [fil_true, List.map_map]
    rfl
def R_standings (ds es : List PyData) : Prop := ∃ (C : Ct) (Ts : List Tr) (t : Tbl), Cv C ∧ Tv C Ts ∧ Vv C Ts t ∧ ds = [encC C, encTs Ts, .list (t.map encV)] ∧ es = (allPlaced C Ts t).map encRow
theorem ok_standings (T : Tx w K mg) (TB : LamX.TabB base mg (cdA K) (tbA K)) : Kn P w K mg base "standings" 7 ["contest", "tries", "verdicts"] (spT K R_standings) := by
  obtain ⟨fd, F⟩ := T.d_standings
  refine fn_T F sc_standings T.g_standings b_standings (fun ds d ⟨_, _, _, _, _, _, e, _⟩ => by rw [e]; rfl) (by decide) ?_
  rintro cdv A outer s H0 E B0 ds es vs Q _ hr ⟨C, Ts, t, v, tv, vv, rfl, rfl⟩ Tb S hQ
  refine s_drop S (PD.ev (pd_fn (ok_need_all T) (hr.mono (by decide)) (pds_cons (pd_var 0 rfl) (pds_cons (pd_var 1 rfl) (pds_cons (pd_var 2 rfl) pds_nil))) ⟨C, Ts, t, v, tv, vv, rfl, rfl⟩)) fun H' S => ?_
  exact s_retT Tb S (pft_fn (ok_all_placed T TB) hr (PDs.t (pds_cons (pd_var 0 rfl) (pds_cons (pd_var 1 rfl) (pds_cons (pd_fn (ok_table_of T) (hr.mono (by decide)) (pds_cons (pd_var 2 rfl) pds_nil) ⟨t, vv.nd, vv.len, rfl, rfl⟩) pds_nil)))) ⟨C, Ts, t, ⟨v, tv⟩, rfl, rfl⟩) hQ
end
end JH
set_option Elab.async false
set_option linter.all false
set_option maxRecDepth 100000
set_option maxHeartbeats 4000000
namespace JH
open PySem PySem.Spec L2
open Evl (Ex Ex.refl Ex.trans Ex.new Ex.mut)
local macro_rules | `(tactic| trivial) => `(tactic| repeat (first | exact Sub.nil | refine Sub.keep ?_ | refine Sub.drop ?_))
theorem shaped_nIs (l : List Nat) : SeqAt.shaped (.list (l.map nI)) = true := shaped_list (fun _ => by simp [nI, PyData.canLay0]) (n := 1) (fun _ => by simp [nI, PyData.depth]) (by decide) l
theorem ntA_nIs (l : List Nat) : nt (.list (l.map nI)) = true := by
  simp only [nt]
  exact ntA_map (fun _ => rfl) l
theorem openFrom_app (t : Tbl) (n : Nat) (g : Nat × Nat) (x : Str) : ∀ (gs : List (Nat × Nat)) (ss : List Str) (b : Nat), gs.length = ss.length → openFrom t n b (gs ++ [g]) (ss ++ [x]) = openFrom t n b gs ss ++ (if x = "failed" then [] else ((List.range g.1).map (b + (gs.map (·.1)).sum + ·)).filter fun k => !(look t n k).isSome)
  | [], [], b, _ => by simp [openFrom]
  | [], _ :: _, _, h => by simp at h
  | _ :: _, [], _, h => by simp at h
  | h :: gs, s :: ss, b, hl => by
    rw [List.cons_append, List.cons_append, openFrom, openFrom, openFrom_app t n g x gs ss _ (by simpa using hl), List.append_assoc, List.map_cons, List.sum_cons, Nat.add_assoc b h.1]
theorem open_step (t : Tbl) (n : Nat) {gs : List (Nat × Nat)} {ss : List Str} (hl : gs.length = ss.length) {k : Nat} {g : Nat × Nat} {x : Str} (h : gs[k]? = some g) (h2 : ss[k]? = some x) :
    openFrom t n 0 (gs.take (k + 1)) (ss.take (k + 1)) = openFrom t n 0 (gs.take k) (ss.take k) ++ (if x = "failed" then [] else ((List.range g.1).map (sumTo gs k + ·)).filter fun k => !(look t n k).isSome) := by
  rw [List.take_add_one, List.take_add_one, h, h2]
  show openFrom t n 0 (gs.take k ++ [g]) (ss.take k ++ [x]) = _
  rw [openFrom_app _ _ _ _ _ _ _ (by rw [List.length_take, List.length_take, hl]), Nat.zero_add]
  rfl
theorem openFrom_len (t : Tbl) (n : Nat) : ∀ (gs : List (Nat × Nat)) (ss : List Str) (b : Nat), (openFrom t n b gs ss).length ≤ (gs.map (·.1)).sum
  | [], _, _ => by simp [openFrom]
  | _ :: _, [], _ => by simp [openFrom]
  | g :: gs, s :: ss, b => by
    rw [openFrom, List.length_append, List.map_cons, List.sum_cons]
    have h1 := openFrom_len t n gs ss (b + g.1)
    have h2 : (if s = "failed" then [] else ((List.range g.1).map (b + ·)).filter fun k => !(look t n k).isSome).length ≤ g.1 := by
      split
      · simp
      · exact Nat.le_trans (List.length_filter_le _ _) (by simp)
    omega
theorem trials_le {C : Ct} (v : Cv C) {k : Nat} (h : k < C.tasks.length) : trialsOf C k ≤ 20 := by
  obtain ⟨g1, g2, g3, g4⟩ := v.groups h
  have := sum_le g2 (fun g hg => (g4 g hg).2.1) (C.groups k).length
  unfold sumTo at this
  rw [List.take_length] at this
  exact this
theorem openTrials_len {C : Ct} {Ts : List Tr} (v : Rv C Ts) (t : Tbl) {n : Nat} (h : n < Ts.length) : (openTrials C Ts t n).length ≤ 20 := by
  unfold openTrials
  split
  · simp
  · exact Nat.le_trans (openFrom_len ..) (trials_le v.v (v.tv.at_ h).2.1)
section
variable {P : Program} {w : World} {K : PySem.W.Frag} {mg : Str → Option Value} {base : Heap}
def R_is_over (ds : List PyData) (d : PyData) : Prop := ∃ (C : Ct) (Ts : List Tr) (t : Tbl) (n : Nat), Rv C Ts ∧ n < Ts.length ∧ ds = [encC C, encTs Ts, encTab t, nI n] ∧ d = .bool (isOver C Ts t n)
theorem ok_is_over (T : Tx w K mg) : Kn P w K mg base "is_over" 4 ["contest", "tries", "table", "number"] (spF R_is_over) := by
  obtain ⟨fd, F⟩ := T.d_is_over
  refine fn_F F sc_is_over T.g_is_over b_is_over (fun ds d ⟨_, _, _, _, _, _, e, _⟩ => by rw [e]; rfl) (by decide) ?_
  rintro cdv A outer s H0 E B0 ds d vs Q hr ⟨C, Ts, t, n, rv, hn, rfl, rfl⟩ S hQ
  obtain ⟨x1, x2, x3⟩ := rv.tv.at_ hn
  have tl := rv.tv.len
  refine s_asg S (PD.ev (pd_tr (pd_var 1 rfl) (pd_var 3 rfl) hn)) (pg_tp rfl (pgs_1 (pg_nm 4 sc_is_over.nd) (pgs_1 (pg_nm 5 sc_is_over.nd) (pgs_1 (pg_nm 6 sc_is_over.nd) pgs_0)))) fun σ H' S => ?_
  refine s_if S (PQ.tv (pq_cmp rd_ge (pd_var 6 rfl) (pd_ixT (n := 2) (pd_var 0 rfl) pd_int rfl))) (fun h H' S => s_ret S (PD.ev (PD.to pd_bl ?_)) hQ) fun h H' S => s_nil ?_
  · have h := of_decide_eq_true h
    unfold isOver
    rw [if_pos (by omega)]
  have h := of_decide_eq_false h
  refine s_if S (PQ.tv (pq_cmp rd_neS (pd_ixT (n := 0) (pd_var 0 rfl) pd_int rfl) (pd_gs T.s_FIRST))) (fun h2 H' S => s_ret S (PD.ev (PD.to pd_bl ?_)) hQ) fun h2 H' S => s_nil ?_
  · have h2 : ¬ C.rule = "first" := by simpa using h2
    unfold isOver
    rw [if_neg (by omega), if_pos h2]
  have h2 : C.rule = "first" := by simpa using h2
  refine s_if S (PQ.tv (pq_cmp rd_eqS (pd_fn (ok_try_state T) hr (pds_cons (pd_var 0 rfl) (pds_cons (pd_var 1 rfl) (pds_cons (pd_var 2 rfl) (pds_cons (pd_var 3 rfl) pds_nil)))) ⟨C, Ts, t, n, rv, hn, rfl, rfl⟩) (pd_gs T.s_FAILED))) (fun h3 H' S => s_ret S (PD.ev (PD.to pd_bl ?_)) hQ) fun h3 H' S => s_nil ?_
  · have h3 := of_decide_eq_true h3
    unfold isOver
    rw [if_neg (by omega), if_neg (fun z => z h2), if_pos h3]
  have h3 := of_decide_eq_false h3
  have hnl := numbersOf_len (Ts := Ts) (team := (trAt Ts n).team) (task := (trAt Ts n).task) (u := C.fin)
  refine s_setC 7 S (items := numbersOf Ts (trAt Ts n).team (trAt Ts n).task C.fin) (enc := nI) (cond := fun m => decide (m < n)) (f := nI) (cown := [("one", 8)]) (blkOk_by (N := N_is_over) (sc := defScope s_is_over) (by decide +kernel))
    ⟨_, _, wi_list (PF.pd (pf_fn (ok_numbers_of T) (hr.mono (by decide)) (pds_cons (pd_var 0 rfl) (pds_cons (pd_var 1 rfl) (pds_cons (pd_var 4 rfl) (pds_cons (pd_var 5 rfl) (pds_cons (pd_ixT (n := 2) (pd_var 0 rfl) pd_int rfl) pds_nil))))) ⟨C, Ts, _, _, C.fin, tl, rfl, rfl⟩)), by decide, by omega, fun m hm s H C' cl fp =>
      ⟨pg_nm 8 sc_is_over.nd, pqs_1 (PQ.to (pq_cmp rd_lt (pd_var 8 rfl) (pd_var 3 rfl)) (decide_eq_decide.mpr (by omega))), fun _ => pd_var 8 rfl⟩⟩ (fun σ H' S => ?_) rfl sc_is_over.nd rfl
  have hfl := List.length_filter_le (fun m => decide (m < n)) (numbersOf Ts (trAt Ts n).team (trAt Ts n).task C.fin)
  refine s_ret S (PD.ev (PD.to (pd_cmp (rd_neD (d1 := .list ((((numbersOf Ts (trAt Ts n).team (trAt Ts n).task C.fin).filter fun m => decide (m < n)).filter fun m => decide (tryState C Ts t m = "passed")).map nI)) (d2 := .list []) hr.units (ntA_nIs _) rfl (shaped_nIs _) shaped_nil)
    (PF.pd (pf_lc (items := (numbersOf Ts (trAt Ts n).team (trAt Ts n).task C.fin).filter fun m => decide (m < n)) (enc := nI) (cond := fun m => decide (tryState C Ts t m = "passed")) (f := nI) (own := [("one", 8)]) (blkOk_by (N := N_is_over) (sc := defScope s_is_over) (by decide +kernel))
      ⟨_, _, wi_list (pd_var 7 rfl), by decide, by omega, fun m hm s H C' cl fp => ⟨pg_nm 8 sc_is_over.nd, pqs_1 (pq_cmp rd_eqS (pd_fn (ok_try_state T) hr (pds_cons (pd_var 0 rfl) (pds_cons (pd_var 1 rfl) (pds_cons (pd_var 2 rfl) (pds_cons (pd_var 8 rfl) pds_nil)))) ⟨C, Ts, t, m, rv, (numbersOf_lt (List.mem_filter.mp hm).1).1, rfl, rfl⟩) (pd_gs T.s_PASSED)), fun _ => pd_var 8 rfl⟩⟩ rfl sc_is_over.nd))
    (PF.pd (pf_lst pds_nil))) ?_)) hQ
  rw [eqv_nil]
  unfold isOver
  rw [if_neg (by omega), if_neg (fun z => z h2), if_neg h3]
  simp [List.isEmpty_map]
def R_open_trials (ds es : List PyData) : Prop := ∃ (C : Ct) (Ts : List Tr) (t : Tbl) (n : Nat), Rv C Ts ∧ n < Ts.length ∧ ds = [encC C, encTs Ts, encTab t, nI n] ∧ es = (openTrials C Ts t n).map nI
theorem ok_open_trials (T : Tx w K mg) : Kn P w K mg base "open_trials" 5 ["contest", "tries", "table", "number"] (spL R_open_trials) := by
  obtain ⟨fd, F⟩ := T.d_open_trials
  refine fn_L F sc_open_trials T.g_open_trials b_open_trials (fun ds d ⟨_, _, _, _, _, _, e, _⟩ => by rw [e]; rfl) (by decide) ?_
  rintro cdv A outer s H0 E B0 ds es vs Q hr ⟨C, Ts, t, n, rv, hn, rfl, rfl⟩ S hQ
  obtain ⟨x1, x2, x3⟩ := rv.tv.at_ hn
  refine s_if S (PQ.tv (pq_val (pd_fn (ok_is_over T) hr (pds_cons (pd_var 0 rfl) (pds_cons (pd_var 1 rfl) (pds_cons (pd_var 2 rfl) (pds_cons (pd_var 3 rfl) pds_nil)))) ⟨C, Ts, t, n, rv, hn, rfl, rfl⟩))) (fun h H' S => s_retF S (PF.to (pf_lst pds_nil) ?_) hQ) fun h H' S => s_nil ?_
  · unfold openTrials
    rw [if_pos h]
    rfl
  obtain ⟨gs, hgs⟩ : ∃ gs, gs = C.groups (trAt Ts n).task := ⟨_, rfl⟩
  obtain ⟨g1, g2, g3, g4⟩ := rv.v.groups x2
  rw [← hgs] at g1 g2 g4
  obtain ⟨ss, hss⟩ : ∃ ss, ss = groupStates C Ts t n := ⟨_, rfl⟩
  have hsl : gs.length = ss.length := by rw [hss, hgs]; unfold groupStates; rw [statesFrom_len]
  refine s_set 4 S (d := .list (ss.map .str)) (PD.ev (PF.pd (PF.to (pf_fn (ok_group_states T) (hr.mono (by decide)) (pds_cons (pd_var 0 rfl) (pds_cons (pd_var 1 rfl) (pds_cons (pd_var 2 rfl) (pds_cons (pd_var 3 rfl) pds_nil)))) ⟨C, Ts, t, n, rv, hn, rfl, rfl⟩) (by rw [hss])))) (fun σ H' S => ?_) sc_open_trials.nd
  refine s_new 5 S (pf_lst pds_nil) (fun l σ H' S => ?_) sc_open_trials.nd (hie := by simp [env0])
  refine s_set 6 S (PD.ev pd_int) (fun σ H' S => ?_) sc_open_trials.nd
  refine s_for gs.zipIdx (fun p => .tuple [nI p.2, encG p.1]) (fun k => (((env0 N_open_trials [encC C, encTs Ts, encTab t, nI n]).set 4 (some (.list (ss.map .str)))).set 5 none).set 6 (some (nI (sumTo gs k)))) (fun k => [(5, l, .lst ((openFrom t n 0 (gs.take k) (ss.take k)).map nI))]) _ _ (fun _ => True) S
    (WIt.to (wi_enT (ds := gs.map encG) (PD.to (pd_gs' (pd_var 0 rfl) (pd_ixT (n := 1) (pd_tr (pd_var 1 rfl) (pd_var 3 rfl) hn) pd_int rfl) x2) (by rw [hgs])) T.f_enumerate) (enumD_map _ _)) trivial (fun _ _ S => S)
    (fun k a ha => pg_tp rfl (pgs_1 (pg_nm 7 sc_open_trials.nd) (pgs_1 (pg_tp (ds := [nI a.1.1, nI a.1.2]) rfl (pgs_1 (pg_nm 8 sc_open_trials.nd) (pgs_1 (pg_nm 9 sc_open_trials.nd) pgs_0))) pgs_0))) (by simp) ?_ (fun σ H S _ => ?_) PassesOwn.never rfl
  · rintro B1 hB k ⟨⟨m, pt⟩, i⟩ σ H hk _ S
    obtain ⟨rfl, hg⟩ := zip_at hk
    have hlt := (List.getElem?_eq_some_iff.mp hg).1
    have hm := g4 _ (List.mem_of_getElem? hg)
    have hm5 : m ≤ 5 := hm.2.1
    have hs := sum_le g2 (fun g hg => (g4 g hg).2.1) i
    have hx : ss[i]? = some (ss.getD i "") := by
      rw [List.getD_eq_getElem?_getD, List.getElem?_eq_getElem (by omega)]
      rfl
    have hstep := open_step t n hsl hg hx
    refine s_if S (PQ.tv (pq_cmp rd_neS (pd_ixL (n := i) (pd_var 4 rfl) (pd_var 7 rfl) (str_get (by omega))) (pd_gs T.s_FAILED))) (fun h2 H' S => ?_) fun h2 H' S => s_nil ?_
    · have h2 : ¬ ss.getD i "" = "failed" := by simpa using h2
      rw [if_neg h2] at hstep
      refine s_ext (own1 := []) rfl S (es := (((List.range m).map (sumTo gs i + ·)).filter fun k => !(look t n k).isSome).map nI) (PF.to (pf_lc (items := List.range m) (enc := fun j => nI (sumTo gs i + j)) (cond := fun j => !(look t n (sumTo gs i + j)).isSome) (f := fun j => nI (sumTo gs i + j)) (own := [("trial", 10)])
        (blkOk_by (N := N_open_trials) (sc := defScope s_open_trials) (by decide +kernel)) ⟨_, _, wi_rng2 (pd_var 6 rfl) (pd_bin rd_add (pd_var 6 rfl) (pd_var 8 rfl)) (by omega) (by omega) T.f_range, by decide, by simp; omega, fun j hj s H C' cl fp =>
          ⟨pg_nm 10 sc_open_trials.nd, pqs_1 (pq_notInT (rm1 hr) (pd_tup (pds_cons (pd_var 3 rfl) (pds_cons (pd_var 10 rfl) pds_nil))) (pd_var 2 rfl)), fun _ => pd_var 10 rfl⟩⟩ rfl sc_open_trials.nd) ?_) (fun H' S => s_nil ?_) ?_
      · rw [List.filter_map, List.map_map]
        rfl
      · refine s_set 6 S (d := nI (sumTo gs (i + 1))) (PD.ev (PD.to (pd_bin rd_add (pd_var 6 rfl) (pd_var 8 rfl)) ?_)) (fun σ H' S => s_nil ⟨?_, trivial⟩) sc_open_trials.nd
        · rw [sumTo_succ hg]
          rfl
        · rw [hstep, List.map_append]
          exact S.sub (by trivial)
      · have h3 := openFrom_len t n (gs.take i) (ss.take i) 0
        have h4 : (((List.range m).map (sumTo gs i + ·)).filter fun k => !(look t n k).isSome).length ≤ m := Nat.le_trans (List.length_filter_le _ _) (by simp)
        rw [List.length_map, List.length_map]
        unfold sumTo at hs
        omega
    · have h2 : ss.getD i "" = "failed" := by simpa using h2
      rw [if_pos h2, List.append_nil] at hstep
      refine s_set 6 S (d := nI (sumTo gs (i + 1))) (PD.ev (PD.to (pd_bin rd_add (pd_var 6 rfl) (pd_var 8 rfl)) ?_)) (fun σ H' S => s_nil ⟨?_, trivial⟩) sc_open_trials.nd
      · rw [sumTo_succ hg]
        rfl
      · rw [hstep]
        exact S.sub (by trivial)
  · refine s_retO 5 (l := l) S (ds := (openTrials C Ts t n).map nI) ?_ hQ
    have e1 : gs.zipIdx.length = gs.length := by simp
    rw [e1, List.take_length, hsl, List.take_length]
    unfold openTrials
    rw [if_neg (by rw [h]; decide), ← hgs, ← hss]
    exact List.mem_singleton.mpr rfl
end
end JH
set_option Elab.async false
set_option linter.all false
set_option maxRecDepth 100000
set_option maxHeartbeats 4000000
namespace JH
open PySem PySem.Spec L2
open Evl (Ex Ex.refl Ex.trans Ex.new Ex.mut)
local macro_rules | `(tactic| trivial) => `(tactic| repeat (first | exact Sub.nil | refine Sub.keep ?_ | refine Sub.drop ?_))
def allTo (C : Ct) (Ts : List Tr) (t : Tbl) (k : Nat) : List (Nat × Nat) := (List.range k).flatMap fun n => (openTrials C Ts t n).map fun k => (n, k)
theorem allTo_succ (C : Ct) (Ts : List Tr) (t : Tbl) (k : Nat) : allTo C Ts t (k + 1) = allTo C Ts t k ++ (openTrials C Ts t k).map fun j => (k, j) := by
  unfold allTo
  rw [List.range_succ, List.flatMap_append]
  simp
theorem allTo_len {C : Ct} {Ts : List Tr} (v : Rv C Ts) (t : Tbl) : ∀ {k : Nat}, k ≤ Ts.length → (allTo C Ts t k).length ≤ 20 * k
  | 0, _ => by simp [allTo]
  | k + 1, h => by
    rw [allTo_succ, List.length_append, List.length_map]
    have h1 := allTo_len v t (k := k) (by omega)
    have h2 := openTrials_len v t (n := k) (by omega)
    omega
theorem placed_mem {ss : List (List Nat)} {r : Row} (h : r ∈ placed ss) : r.2.1 < ss.length := by
  unfold placed at h
  have h := (List.mergeSort_perm _ _).mem_iff.mp h
  unfold placedU at h
  obtain ⟨⟨s, i⟩, h1, rfl⟩ := List.mem_map.mp h
  obtain ⟨k, hk⟩ := List.mem_iff_getElem?.mp h1
  obtain ⟨rfl, h2⟩ := zip_at hk
  exact (List.getElem?_eq_some_iff.mp h2).1
theorem placed_len (ss : List (List Nat)) : (placed ss).length = ss.length := by
  unfold placed
  rw [(List.mergeSort_perm _ _).length_eq]
  simp [placedU]
theorem numbersOf_mono {Ts : List Tr} {team task u u' : Nat} (h : u ≤ u') : (numbersOf Ts team task u).length ≤ (numbersOf Ts team task u').length := by
  unfold numbersOf
  rw [List.length_map, List.length_map]
  have key : ∀ l : List (Tr × Nat), (l.filter fun p => decide (p.1.team = team) && decide (p.1.task = task) && decide (p.1.time < u)).length ≤ (l.filter fun p => decide (p.1.team = team) && decide (p.1.task = task) && decide (p.1.time < u')).length := by
    intro l
    induction l with
    | nil => simp
    | cons a l ih =>
      rw [List.filter_cons, List.filter_cons]
      by_cases h1 : (decide (a.1.team = team) && decide (a.1.task = task) && decide (a.1.time < u)) = true
      · have h2 : (decide (a.1.team = team) && decide (a.1.task = task) && decide (a.1.time < u')) = true := by
          simp only [Bool.and_eq_true, decide_eq_true_eq] at h1 ⊢
          exact ⟨h1.1, by omega⟩
        rw [if_pos h1, if_pos h2]
        simp
        exact ih
      · rw [if_neg h1]
        split
        · simp
          omega
        · exact ih
  exact key _
theorem wi_listT {X : Cx} {env : Ev} {a tg : Expr} {ds : List PyData} (h : PDt X a env (.list ds)) {σ : L2.St} {B H : Hp} (E : En σ B env) (eb : Ex B H) (T : TbOk X.K B H) (R : It → Hp → Prop) (q : ∀ J B1 H1, Stp B H B1 H1 → Wk J ds B1 → R J H1) : WI X tg a σ H R := by
  refine wi (pi_list smE) ?_
  refine h σ B H E eb T _ fun v B1 H1 s1 z1 => ?_
  obtain ⟨p, xs, rfl, h1, h2⟩ := z1.lst_inv
  exact ⟨p, rfl, ⟨xs, SqL.of (s1.bh _ _ h1)⟩, q _ B1 H1 s1 (wk_list h1 h2)⟩
section
variable {P : Program} {w : World} {K : PySem.W.Frag} {mg : Str → Option Value} {base : Heap}
def R_all_open (ds es : List PyData) : Prop := ∃ (C : Ct) (Ts : List Tr) (t : Tbl), Rv C Ts ∧ ds = [encC C, encTs Ts, encTab t] ∧ es = (allOpen C Ts t).map encW
theorem ok_all_open (T : Tx w K mg) : Kn P w K mg base "all_open" 6 ["contest", "tries", "table"] (spL R_all_open) := by
  obtain ⟨fd, F⟩ := T.d_all_open
  refine fn_L F sc_all_open T.g_all_open b_all_open (fun ds d ⟨_, _, _, _, e, _⟩ => by rw [e]; rfl) (by decide) ?_
  rintro cdv A outer s H0 E B0 ds es vs Q hr ⟨C, Ts, t, rv, rfl, rfl⟩ S hQ
  have tl := rv.tv.len
  refine s_new 3 S (pf_lst pds_nil) (fun l σ H' S => ?_) sc_all_open.nd (hie := by simp [env0])
  refine s_for (List.range Ts.length) nI (fun k => _) (fun k => [(3, l, .lst ((allTo C Ts t k).map encW))]) _ _ (fun _ => True) S (WIt.to (wi_rng (n := Ts.length) (PD.to (pd_blt cd_lenL T.f_len bb_len (pds_cons (pd_var 1 rfl) pds_nil)) (by rw [List.length_map])) (by omega) T.f_range) (rngD0 _)) trivial (fun _ _ S => S)
    (fun k a ha => pg_nm 4 sc_all_open.nd) (by simp) ?_ (fun σ H S _ => ?_) PassesOwn.never rfl
  · rintro B1 hB k n σ H hk _ S
    obtain ⟨rfl, hlt⟩ := range_at hk
    have h1 := allTo_len rv t (k := n) (by omega)
    have h2 := openTrials_len rv t hlt
    refine s_ext (own1 := []) rfl S (es := ((openTrials C Ts t n).map fun j => (n, j)).map encW) (PF.to (pf_lc (items := openTrials C Ts t n) (enc := nI) (cond := fun _ => true) (f := fun j => encW (n, j)) (own := [("trial", 5)]) (blkOk_by (N := N_all_open) (sc := defScope s_all_open) (by decide +kernel))
      ⟨_, _, wi_list (PF.pd (pf_fn (ok_open_trials T) hr (pds_cons (pd_var 0 rfl) (pds_cons (pd_var 1 rfl) (pds_cons (pd_var 2 rfl) (pds_cons (pd_var 4 rfl) pds_nil)))) ⟨C, Ts, t, n, rv, hlt, rfl, rfl⟩)), by decide, by omega, fun j hj s H C' cl fp =>
        ⟨pg_nm 5 sc_all_open.nd, pqs_0, fun _ => pd_tup (pds_cons (pd_var 4 rfl) (pds_cons (pd_var 5 rfl) pds_nil))⟩⟩ rfl sc_all_open.nd) ?_) (fun H' S => ?_) ?_
    · rw [fil_true, List.map_map]
      rfl
    · refine s_nil ⟨?_, trivial⟩
      rw [allTo_succ, List.map_append]
      exact S.sub (by trivial)
    · rw [List.length_map, List.length_map, List.length_map]
      omega
  · refine s_retO 3 (l := l) S (ds := (allOpen C Ts t).map encW) ?_ hQ
    rw [List.length_range]
    exact List.mem_singleton.mpr rfl
def R_matter (ds es : List PyData) : Prop := ∃ (C : Ct) (Ts : List Tr) (t : Tbl), Cv C ∧ Tv C Ts ∧ Vv C Ts t ∧ ds = [encC C, encTs Ts, .list (t.map encV)] ∧ es = (allOpen C Ts t).map encW
theorem ok_matter (T : Tx w K mg) : Kn P w K mg base "matter" 7 ["contest", "tries", "verdicts"] (spL R_matter) := by
  obtain ⟨fd, F⟩ := T.d_matter
  refine fn_L F sc_matter T.g_matter b_matter (fun ds d ⟨_, _, _, _, _, _, e, _⟩ => by rw [e]; rfl) (by decide) ?_
  rintro cdv A outer s H0 E B0 ds es vs Q hr ⟨C, Ts, t, v, tv, vv, rfl, rfl⟩ S hQ
  refine s_drop S (PD.ev (pd_fn (ok_need_all T) (hr.mono (by decide)) (pds_cons (pd_var 0 rfl) (pds_cons (pd_var 1 rfl) (pds_cons (pd_var 2 rfl) pds_nil))) ⟨C, Ts, t, v, tv, vv, rfl, rfl⟩)) fun H' S => ?_
  exact s_retF S (pf_fn (ok_all_open T) hr (pds_cons (pd_var 0 rfl) (pds_cons (pd_var 1 rfl) (pds_cons (pd_fn (ok_table_of T) (hr.mono (by decide)) (pds_cons (pd_var 2 rfl) pds_nil) ⟨t, vv.nd, vv.len, rfl, rfl⟩) pds_nil))) ⟨C, Ts, t, ⟨v, tv⟩, rfl, rfl⟩) hQ
def UnOk (C : Ct) (un : List Nat) : Prop := un.length = C.tasks.length ∧ ∀ k, k < C.tasks.length → un.getD k 0 ≤ C.fin
def R_hidden_of (ds : List PyData) (d : PyData) : Prop := ∃ (C : Ct) (Ts : List Tr) (t : Tbl) (team : Nat) (un : List Nat), Rv C Ts ∧ UnOk C un ∧ ds = [encC C, encTs Ts, encTab t, nI team, .list (un.map nI)] ∧ d = .tuple ((hiddenOf C Ts t team un).map nI)
theorem hidden_len (C : Ct) (Ts : List Tr) (t : Tbl) (team : Nat) (un : List Nat) : (hiddenOf C Ts t team un).length = C.tasks.length := by simp [hiddenOf]
theorem isN_sol (o : Option (Nat × Nat)) : (!isN (encSol o)) = o.isSome := by cases o <;> rfl
theorem ok_hidden_of (T : Tx w K mg) : Kn P w K mg base "hidden_of" 5 ["contest", "tries", "table", "team", "untils"] (spF R_hidden_of) := by
  obtain ⟨fd, F⟩ := T.d_hidden_of
  refine fn_F F sc_hidden_of T.g_hidden_of b_hidden_of (fun ds d ⟨_, _, _, _, _, _, _, e, _⟩ => by rw [e]; rfl) (by decide) ?_
  rintro cdv A outer s H0 E B0 ds d vs Q hr ⟨C, Ts, t, team, un, rv, ⟨hun, hle⟩, rfl, rfl⟩ S hQ
  have n2 := rv.v.n2
  have tl := rv.tv.len
  refine s_new 5 S (pf_lst pds_nil) (fun l σ H' S => ?_) sc_hidden_of.nd (hie := by simp [env0])
  refine s_for (List.range C.tasks.length) nI (fun k => (env0 N_hidden_of [encC C, encTs Ts, encTab t, nI team, .list (un.map nI)]).set 5 none) (fun k => [(5, l, .lst (((hiddenOf C Ts t team un).take k).map nI))]) _ _ (fun _ => True) S
    (WIt.to (wi_rng (n := C.tasks.length) (PD.to (pd_blt cd_lenT T.f_len bb_len (pds_cons (pd_ixT (n := 4) (pd_var 0 rfl) pd_int rfl) pds_nil)) (by rw [List.length_map])) (by omega) T.f_range) (rngD0 _)) trivial (fun _ _ S => S)
    (fun k a ha => pg_nm 6 sc_hidden_of.nd) (by simp) ?_ (fun σ H S _ => ?_) PassesOwn.never rfl
  · rintro B1 hB k task σ H hk _ S
    obtain ⟨rfl, hlt⟩ := range_at hk
    have hnl := numbersOf_len (Ts := Ts) (team := team) (task := task) (u := un.getD task 0)
    have hmo := numbersOf_mono (Ts := Ts) (team := team) (task := task) (hle task hlt)
    have hat : (hiddenOf C Ts t team un)[task]? = some (if C.rule = "first" ∧ (solvedFrom C Ts t 0 (numbersOf Ts team task (un.getD task 0))).isSome then 0 else (numbersOf Ts team task C.fin).length - (numbersOf Ts team task (un.getD task 0)).length) := by
      unfold hiddenOf
      rw [List.getElem?_map, hk]
      rfl
    refine s_set 7 S (PD.ev (PF.pd (pf_fn (ok_numbers_of T) (hr.mono (by decide)) (pds_cons (pd_var 0 rfl) (pds_cons (pd_var 1 rfl) (pds_cons (pd_var 3 rfl) (pds_cons (pd_var 6 rfl) (pds_cons (pd_ixL (n := task) (pd_var 4 rfl) (pd_var 6 rfl) (nI_get (by omega))) pds_nil))))) ⟨C, Ts, team, task, un.getD task 0, tl, rfl, rfl⟩))) (fun σ H' S => ?_) sc_hidden_of.nd
    refine s_set 8 S (PD.ev (PF.pd (pf_fn (ok_numbers_of T) (hr.mono (by decide)) (pds_cons (pd_var 0 rfl) (pds_cons (pd_var 1 rfl) (pds_cons (pd_var 3 rfl) (pds_cons (pd_var 6 rfl) (pds_cons (pd_ixT (n := 2) (pd_var 0 rfl) pd_int rfl) pds_nil))))) ⟨C, Ts, team, task, C.fin, tl, rfl, rfl⟩))) (fun σ H' S => ?_) sc_hidden_of.nd
    refine s_set 9 S (d := .bool (decide (C.rule = "first") && (solvedFrom C Ts t 0 (numbersOf Ts team task (un.getD task 0))).isSome)) (PD.ev (pd_and (pd_cmp rd_eqS (pd_ixT (n := 0) (pd_var 0 rfl) pd_int rfl) (pd_gs T.s_FIRST)) (fun h => PD.to (pd_one (pd_cmp rd_notN (pd_fn (ok_solved_at T) hr (pds_cons (pd_var 0 rfl) (pds_cons (pd_var 1 rfl) (pds_cons (pd_var 2 rfl) (pds_cons (pd_var 7 rfl) pds_nil))))
      ⟨C, Ts, t, numbersOf Ts team task (un.getD task 0), rv, fun n hn => (numbersOf_lt hn).1, by omega, rfl, rfl⟩) pd_non)) ?_) fun h => ?_)) (fun σ H' S => ?_) sc_hidden_of.nd
    · rw [isN_sol, h]
      rfl
    · rw [h]
      rfl
    · refine s_app (own1 := []) rfl S (PD.ev (pd_if (d := nI (if C.rule = "first" ∧ (solvedFrom C Ts t 0 (numbersOf Ts team task (un.getD task 0))).isSome then 0 else (numbersOf Ts team task C.fin).length - (numbersOf Ts team task (un.getD task 0)).length)) (pq_val (pd_var 9 rfl)) (fun h => PD.to pd_int ?_)
        fun h => PD.to (pd_bin rd_sub (pd_blt cd_lenL T.f_len bb_len (pds_cons (pd_var 8 rfl) pds_nil)) (pd_blt cd_lenL T.f_len bb_len (pds_cons (pd_var 7 rfl) pds_nil))) ?_)) (fun H' S => ?_) ?_
      · rw [Bool.and_eq_true, decide_eq_true_eq] at h
        rw [if_pos h]
        rfl
      · have h' : ¬ (C.rule = "first" ∧ (solvedFrom C Ts t 0 (numbersOf Ts team task (un.getD task 0))).isSome = true) := fun z => by
          rw [decide_eq_true z.1, z.2] at h
          cases h
        rw [if_neg h', List.length_map, List.length_map]
        simp only [nI]
        congr 1
        omega
      · refine s_nil ⟨?_, trivial⟩
        rw [List.take_add_one, hat, List.map_append]
        exact S.sub (by trivial)
      · rw [List.length_map, List.length_take]
        omega
  · have e1 : (List.range C.tasks.length).length = (hiddenOf C Ts t team un).length := by rw [List.length_range, hidden_len]
    rw [e1, List.take_length] at S
    refine s_ret S (ev_x 5 (List.mem_singleton.mpr rfl) (pd_ty cd_tupL T.f_tuple bt_tuple (pds_cons (pd_var 5 rfl) pds_nil)) ?_) hQ
    simp only [fz]
    exact fzA_map (fun _ => rfl) _
def encUn (un : List Nat) : PyData := .list (un.map nI)
def UnsOk (C : Ct) (un : List (List Nat)) : Prop := un.length = C.teams ∧ ∀ k, k < C.teams → UnOk C (un.getD k [])
theorem un_get {un : List (List Nat)} {k : Nat} (h : k < un.length) : (un.map encUn)[k]? = some (.list ((un.getD k []).map nI)) := by
  rw [List.getElem?_map, List.getD_eq_getElem?_getD, List.getElem?_eq_getElem h]
  rfl
def R_rows_of (ds es : List PyData) : Prop := ∃ (C : Ct) (Ts : List Tr) (t : Tbl) (un : List (List Nat)), Rv C Ts ∧ UnsOk C un ∧ ds = [encC C, encTs Ts, encTab t, .list (un.map encUn)] ∧ es = (rowsOf C Ts t un).map encB
theorem ok_rows_of (T : Tx w K mg) (TB : LamX.TabB base mg (cdA K) (tbA K)) : Kn P w K mg base "rows_of" 6 ["contest", "tries", "table", "untils"] (spT K R_rows_of) := by
  obtain ⟨fd, F⟩ := T.d_rows_of
  refine fn_T F sc_rows_of T.g_rows_of b_rows_of (fun ds d ⟨_, _, _, _, _, _, e, _⟩ => by rw [e]; rfl) (by decide) ?_
  rintro cdv A outer s H0 E B0 ds es vs Q _ hr ⟨C, Ts, t, un, rv, ⟨hul, huo⟩, rfl, rfl⟩ Tb S hQ
  have t2 := rv.v.t2
  obtain ⟨ss, hss⟩ : ∃ ss, ss = (List.range C.teams).map fun team => scoreOf C Ts t team (un.getD team []) := ⟨_, rfl⟩
  have hsl : ss.length = C.teams := by rw [hss]; simp
  have hso : SsOk ss := ⟨by omega, fun s hs => by
    rw [hss] at hs
    obtain ⟨team, _, rfl⟩ := List.mem_map.mp hs
    exact scoreOf_ok ..⟩
  refine s_setC 5 S (items := List.range C.teams) (enc := nI) (cond := fun _ => true) (f := fun team => encSc (scoreOf C Ts t team (un.getD team []))) (cown := [("team", 4)]) (blkOk_by (N := N_rows_of) (sc := defScope s_rows_of) (by decide +kernel))
    ⟨_, _, WIt.to (wi_rng (n := C.teams) (pd_ixT (n := 1) (pd_var 0 rfl) pd_int rfl) (by omega) T.f_range) (rngD0 _), by decide, by simp; omega, fun team hz s H C' cl fp => ⟨pg_nm 4 sc_rows_of.nd, pqs_0, fun _ => pd_fn (ok_score_of T) hr (pds_cons (pd_var 0 rfl) (pds_cons (pd_var 1 rfl) (pds_cons (pd_var 2 rfl) (pds_cons (pd_var 4 rfl)
      (pds_cons (pd_ixL (n := team) (pd_var 3 rfl) (pd_var 4 rfl) (un_get (by have := List.mem_range.mp hz; omega))) pds_nil))))) ⟨C, Ts, t, team, un.getD team [], rv, (huo team (List.mem_range.mp hz)).1, rfl, rfl⟩⟩⟩ (fun σ H' S => ?_) rfl sc_rows_of.nd rfl
  rw [fil_true, show (List.range C.teams).map (fun team => encSc (scoreOf C Ts t team (un.getD team []))) = ss.map encSc by rw [hss, List.map_map]; rfl] at S
  refine s_new 6 S (pf_lst pds_nil) (fun l σ H' S => ?_) sc_rows_of.nd (hie := by simp [env0])
  refine s_forG (placed ss) encRow (fun k => _) (fun k => [(6, l, .lst (((rowsOf C Ts t un).take k).map encB))]) _ _ (fun _ => True) S
    (fun B st E R q => wi_listT (PFt.pd (pft_fn (ok_placed T TB) (hr.mono (by decide)) (PDs.t (pds_cons (pd_var 5 rfl) pds_nil)) ⟨ss, hso, rfl, rfl⟩)) E st.bh (Tb.stp st) R q) trivial (fun _ _ S => S)
    (fun k a ha => pg_tp rfl (pgs_1 (pg_nm 7 sc_rows_of.nd) (pgs_1 (pg_nm 4 sc_rows_of.nd) (pgs_1 (pg_nm 8 sc_rows_of.nd) pgs_0)))) (by simp) ?_ (fun σ H S _ => ?_) PassesOwn.never rfl
  · rintro B1 hB k r σ H hk _ S
    have hm := placed_mem (List.mem_of_getElem? hk)
    have hat : (rowsOf C Ts t un)[k]? = some (r, hiddenOf C Ts t r.2.1 (un.getD r.2.1 [])) := by
      unfold rowsOf
      rw [← hss, List.getElem?_map, hk]
      rfl
    refine s_app (own1 := []) rfl S (d := encB (r, hiddenOf C Ts t r.2.1 (un.getD r.2.1 []))) (PD.ev (pd_tup (pds_cons (pd_var 7 rfl) (pds_cons (pd_var 4 rfl) (pds_cons (pd_var 8 rfl) (pds_cons (pd_fn (ok_hidden_of T) hr (pds_cons (pd_var 0 rfl) (pds_cons (pd_var 1 rfl) (pds_cons (pd_var 2 rfl) (pds_cons (pd_var 4 rfl)
      (pds_cons (pd_ixL (n := r.2.1) (pd_var 3 rfl) (pd_var 4 rfl) (un_get (by omega))) pds_nil))))) ⟨C, Ts, t, r.2.1, un.getD r.2.1 [], rv, huo _ (by omega), rfl, rfl⟩) pds_nil)))))) (fun H' S => ?_) ?_
    · refine s_nil ⟨?_, trivial⟩
      rw [List.take_add_one, hat, List.map_append]
      exact S.sub (by trivial)
    · have h1 := (List.getElem?_eq_some_iff.mp hk).1
      rw [placed_len] at h1
      rw [List.length_map, List.length_take]
      omega
  · have e1 : (placed ss).length = (rowsOf C Ts t un).length := by
      unfold rowsOf
      rw [List.length_map, ← hss]
    rw [e1, List.take_length] at S
    exact s_retO 6 (l := l) S (ds := (rowsOf C Ts t un).map encB) (List.mem_singleton.mpr rfl) hQ
def R_frozen (ds es : List PyData) : Prop := ∃ C : Ct, Cv C ∧ ds = [encC C] ∧ es = (frozenU C).map encUn
theorem ok_frozen_untils (T : Tx w K mg) : Kn P w K mg base "frozen_untils" 1 ["contest"] (spL R_frozen) := by
  obtain ⟨fd, F⟩ := T.d_frozen_untils
  refine fn_L F sc_frozen_untils T.g_frozen_untils b_frozen_untils (fun ds d ⟨_, _, e, _⟩ => by rw [e]; rfl) (by decide) ?_
  rintro cdv A outer s H0 E B0 ds es vs Q hr ⟨C, v, rfl, rfl⟩ S hQ
  have n2 := v.n2
  have t2 := v.t2
  refine s_retF S (PF.to (pf_lc (items := List.range C.teams) (enc := nI) (cond := fun _ => true) (f := fun _ => .list (List.replicate C.tasks.length (nI C.frozen))) (own := [("team", 1)]) (blkOk_by (N := N_frozen_untils) (sc := defScope s_frozen_untils) (by decide +kernel))
    ⟨_, _, WIt.to (wi_rng (n := C.teams) (pd_ixT (n := 1) (pd_var 0 rfl) pd_int rfl) (by omega) T.f_range) (rngD0 _), by decide, by simp; omega, fun team hz s H C' cl fp => ⟨pg_nm 1 sc_frozen_untils.nd, pqs_0, fun _ =>
      PF.pd (pf_rep (n := C.tasks.length) (pf_lst (pds_cons (pd_ixT (n := 3) (pd_var 0 rfl) pd_int rfl) pds_nil)) (PD.to (pd_blt cd_lenT T.f_len bb_len (pds_cons (pd_ixT (n := 4) (pd_var 0 rfl) pd_int rfl) pds_nil)) (by rw [List.length_map])) (by omega))⟩⟩ rfl sc_frozen_untils.nd) ?_) hQ
  rw [fil_true, List.map_const', List.length_range]
  unfold frozenU
  rw [List.map_replicate]
  unfold encUn
  rw [List.map_replicate]
theorem frozen_ok {C : Ct} (v : Cv C) : UnsOk C (frozenU C) := by
  have := v.fz
  refine ⟨by simp [frozenU], fun k hk => ?_⟩
  have e : (frozenU C).getD k [] = List.replicate C.tasks.length C.frozen := by
    unfold frozenU
    rw [List.getD_eq_getElem?_getD, List.getElem?_replicate, if_pos hk]
    rfl
  rw [e]
  refine ⟨by simp, fun j hj => ?_⟩
  rw [List.getD_eq_getElem?_getD, List.getElem?_replicate, if_pos hj]
  exact this
def R_board (ds es : List PyData) : Prop := ∃ (C : Ct) (Ts : List Tr) (t : Tbl), Cv C ∧ Tv C Ts ∧ Vv C Ts t ∧ ds = [encC C, encTs Ts, .list (t.map encV)] ∧ es = (rowsOf C Ts t (frozenU C)).map encB
theorem ok_board (T : Tx w K mg) (TB : LamX.TabB base mg (cdA K) (tbA K)) : Kn P w K mg base "board" 7 ["contest", "tries", "verdicts"] (spT K R_board) := by
  obtain ⟨fd, F⟩ := T.d_board
  refine fn_T F sc_board T.g_board b_board (fun ds d ⟨_, _, _, _, _, _, e, _⟩ => by rw [e]; rfl) (by decide) ?_
  rintro cdv A outer s H0 E B0 ds es vs Q _ hr ⟨C, Ts, t, v, tv, vv, rfl, rfl⟩ Tb S hQ
  refine s_drop S (PD.ev (pd_fn (ok_need_all T) (hr.mono (by decide)) (pds_cons (pd_var 0 rfl) (pds_cons (pd_var 1 rfl) (pds_cons (pd_var 2 rfl) pds_nil))) ⟨C, Ts, t, v, tv, vv, rfl, rfl⟩)) fun H' S => ?_
  exact s_retT Tb S (pft_fn (ok_rows_of T TB) hr (PDs.t (pds_cons (pd_var 0 rfl) (pds_cons (pd_var 1 rfl) (pds_cons (pd_fn (ok_table_of T) (hr.mono (by decide)) (pds_cons (pd_var 2 rfl) pds_nil) ⟨t, vv.nd, vv.len, rfl, rfl⟩) (pds_cons (PF.pd (pf_fn (ok_frozen_untils T) (hr.mono (by decide)) (pds_cons (pd_var 0 rfl) pds_nil) ⟨C, v, rfl, rfl⟩)) pds_nil)))))
    ⟨C, Ts, t, frozenU C, ⟨v, tv⟩, frozen_ok v, rfl, rfl⟩) hQ
end
end JH
set_option Elab.async false
set_option linter.all false
set_option maxRecDepth 100000
set_option maxHeartbeats 4000000
namespace JH
open PySem PySem.Spec L2
open Evl (Ex Ex.refl Ex.trans Ex.new Ex.mut)
local macro_rules | `(tactic| trivial) => `(tactic| repeat (first | exact Sub.nil | refine Sub.keep ?_ | refine Sub.drop ?_))
/-- what a log holds -/
inductive Ent where
  | offer (x : Tr) | take (j : Nat) (p : Nat × Nat) | tell (j : Nat) (b : Bool) | fall (j : Nat) | mend (k r : Nat)
def encE : Ent → PyData
  | .offer x => .tuple [.str "offer", nI x.team, nI x.task, nI x.time]
  | .take j p => .tuple [.str "take", nI j, nI p.1, nI p.2]
  | .tell j b => .tuple [.str "tell", nI j, .bool b]
  | .fall j => .tuple [.str "fall", nI j]
  | .mend k r => .tuple [.str "mend", nI k, nI r]
def EntOk : Ent → Prop
  | .offer x => x.team ≤ 999 ∧ x.task ≤ 999 ∧ x.time ≤ 999
  | .take j p => j ≤ 999 ∧ p.1 ≤ 999 ∧ p.2 ≤ 999
  | .tell j _ => j ≤ 999
  | .fall j => j ≤ 999
  | .mend k r => k ≤ 999 ∧ r ≤ 999
theorem filter_none {α : Type} {l : List α} {c : α → Bool} (h : ∀ a ∈ l, c a = false) : l.filter c = [] := List.filter_eq_nil_iff.mpr fun a ha => by rw [h a ha]; decide
/-- an entry's shape: a name, then numbers (or a number and a bool) -/
def EShape (nm : Str) (rest : List PyData) : Prop := (nm = "tell" ∧ ∃ (j : Nat) (b : Bool), rest = [nI j, .bool b] ∧ j ≤ 999) ∨ (nm ≠ "tell" ∧ ∃ l : List Nat, rest = l.map nI ∧ l.length ≤ 3 ∧ ∀ n ∈ l, n ≤ 999)
theorem encE_shape {e : Ent} (h : EntOk e) : ∃ nm rest, encE e = .tuple (.str nm :: rest) ∧ (nm, He.Dv.int ((rest.length : Int) + 1)) ∈ sizes ∧ EShape nm rest ∧ PyData.strOk nm = true := by
  cases e with
  | offer x => exact ⟨"offer", _, rfl, by simp [sizes], .inr ⟨by decide, [x.team, x.task, x.time], rfl, by simp, fun n hn => by obtain ⟨a, b, c⟩ := h; simp at hn; omega⟩, by decide +kernel⟩
  | take j p => exact ⟨"take", _, rfl, by simp [sizes], .inr ⟨by decide, [j, p.1, p.2], rfl, by simp, fun n hn => by obtain ⟨a, b, c⟩ := h; simp at hn; omega⟩, by decide +kernel⟩
  | tell j b => exact ⟨"tell", _, rfl, by simp [sizes], .inl ⟨rfl, j, b, rfl, h⟩, by decide +kernel⟩
  | fall j => exact ⟨"fall", _, rfl, by simp [sizes], .inr ⟨by decide, [j], rfl, by simp, fun n hn => by have h : j ≤ 999 := h; simp at hn; omega⟩, by decide +kernel⟩
  | mend k r => exact ⟨"mend", _, rfl, by simp [sizes], .inr ⟨by decide, [k, r], rfl, by simp, fun n hn => by obtain ⟨a, b⟩ := h; simp at hn; omega⟩, by decide +kernel⟩
theorem shape_ok {nm : Str} {rest : List PyData} (h : EShape nm rest) (hs : PyData.strOk nm = true) : nt (.tuple (.str nm :: rest)) = true ∧ SeqAt.shaped (.tuple (.str nm :: rest)) = true := by
  rcases h with ⟨rfl, j, b, rfl, _⟩ | ⟨_, l, rfl, _, _⟩
  · exact ⟨rfl, shaped_of (by simp [PyData.canLay0, PyData.canLayAll0, hs]) (by simp [PyData.depth, PyData.depthAll])⟩
  · refine ⟨?_, ?_⟩
    · simp only [nt, ntA, Bool.true_and]
      exact ntA_map (fun _ => rfl) l
    · have h1 := depAll_map (f := nI) (n := 1) (fun _ => by simp [nI, PyData.depth]) l
      refine shaped_of ?_ ?_
      · simp only [PyData.canLay0, PyData.canLayAll0]
        rw [hs, Bool.true_and]
        exact layAll_map (fun _ => by simp [nI, PyData.canLay0]) l
      · simp only [PyData.depth, PyData.depthAll]
        omega
section
variable {P : Program} {w : World} {K : PySem.W.Frag} {mg : Str → Option Value} {base : Heap}
def R_is_entry (ds : List PyData) (d : PyData) : Prop := ∃ e : Ent, EntOk e ∧ ds = [encE e] ∧ d = .bool true
theorem ok_is_entry (T : Tx w K mg) : Kn P w K mg base "is_entry" 2 ["entry"] (spF R_is_entry) := by
  obtain ⟨fd, F⟩ := T.d_is_entry
  refine fn_F F sc_is_entry T.g_is_entry b_is_entry (fun ds d ⟨_, _, e, _⟩ => by rw [e]; rfl) (by decide) ?_
  rintro cdv A outer s H0 E B0 ds d vs Q hr ⟨e, he, rfl, rfl⟩ S hQ
  obtain ⟨nm, rest, h1, h2, h3, h4⟩ := encE_shape he
  obtain ⟨n1, n2⟩ := shape_ok h3 h4
  rw [h1] at S
  refine s_if0 S (PQ.tv (PQ.to (PQw.pq (pq_or (pq_not (pq_val (pd_isi (d := .tuple (.str nm :: rest)) (pd_var 0 rfl) T.f_isinstance T.f_tuple bt_tuple ki_tt))) fun _ => pq_or (PQ.to (pq_cmp (rd_eqD (d1 := .tuple (.str nm :: rest)) (d2 := .tuple []) hr.units n1 rfl n2 shaped_nilT) (pd_var 0 rfl) (pd_tup pds_nil)) (eqv_nilT _)) fun _ =>
    pq_or (pq_not (pq_val (pd_isi (d := .str nm) (pd_ixT (n := 0) (pd_var 0 rfl) pd_int rfl) T.f_isinstance T.f_str bt_str ki_ss))) fun _ => pq_or1 (pq_sizeNotIn T (pd_ixT (n := 0) (pd_var 0 rfl) pd_int rfl) h2))) rfl)) fun H' S => ?_
  refine s_if0 S (PQ.tv (PQ.to (PQw.pq (pq_or (k' := false) (pq_cmp rd_neI (pd_blt (cd_lenT (ds := .str nm :: rest)) T.f_len bb_len (pds_cons (pd_var 0 rfl) pds_nil)) (pd_sizeAt T (pd_ixT (n := 0) (pd_var 0 rfl) pd_int rfl) h2)) fun _ =>
    pq_or1 (PQ.to (PQw.pq (pq_and (k' := false) (pq_cmp rd_eqS (pd_ixT (n := 0) (pd_var 0 rfl) pd_int rfl) pd_str) fun ht => pq_and1 ?_)) (Bool.and_false _)))) ?_)) fun H' S => ?_
  · have ht := of_decide_eq_true ht
    rcases h3 with ⟨_, j, b, rfl, _⟩ | ⟨h4, _⟩
    · exact PQ.to (pq_not (pq_val (pd_isi (d := .bool b) (pd_ixT (n := 2) (pd_var 0 rfl) pd_int rfl) T.f_isinstance T.f_bool bt_bool ki_bb))) rfl
    · exact absurd ht h4
  · simp
  obtain ⟨l, hl1, hl2, hz, hn⟩ : ∃ l : List Nat, (nm = "tell" → cutD (.str nm :: rest) (some 1) (some 2) = l.map nI) ∧ (¬ nm = "tell" → rest = l.map nI) ∧ l.length ≤ 3 ∧ ∀ n ∈ l, n ≤ 999 := by
    rcases h3 with ⟨h5, j, b, rfl, hj⟩ | ⟨h5, l, rfl, hz, hn⟩
    · exact ⟨[j], fun _ => rfl, fun z => absurd h5 z, by simp, fun n hn => by rw [List.mem_singleton.mp hn]; exact hj⟩
    · exact ⟨l, fun z => absurd z h5, fun _ => rfl, hz, hn⟩
  have hrl : rest.length ≤ 3 := by
    rcases h3 with ⟨_, j, b, rfl, _⟩ | ⟨_, l, rfl, hz, _⟩
    · simp
    · simp; omega
  refine s_set 1 S (d := .tuple (l.map nI)) (PD.ev (pd_if (pq_cmp rd_eqS (pd_ixT (n := 0) (pd_var 0 rfl) pd_int rfl) pd_str) (fun h => PD.to (pd_slT (ds := .str nm :: rest) (pd_var 0 rfl) (pdo_some pd_int) (pdo_some pd_int) (by simp; omega)) (congrArg PyData.tuple (hl1 (of_decide_eq_true h))))
    fun h => PD.to (pd_slT (ds := .str nm :: rest) (pd_var 0 rfl) (pdo_some pd_int) pdo_none (by simp; omega)) ?_)) (fun σ H' S => ?_) sc_is_entry.nd
  · rw [← hl2 (of_decide_eq_false h)]
    exact congrArg PyData.tuple (cut_from _ 1)
  refine s_ret S (PD.ev (PD.to (pd_cmp (rd_eqD (d1 := .list []) (d2 := .list []) hr.units rfl rfl shaped_nil shaped_nil) (PF.pd (PF.to (pf_lc (items := l) (enc := nI) (cond := fun _ => false) (f := nI) (own := [("part", 2)]) (blkOk_by (N := N_is_entry) (sc := defScope s_is_entry) (by decide +kernel))
    ⟨_, _, wi_tup (pd_var 1 rfl), by decide, by omega, fun n hm s H C' cl fp => ⟨pg_nm 2 sc_is_entry.nd, pqs_1 (PQ.to (pq_not (pq_val (pd_btw T hr (pd_var 2 rfl) pd_int (pd_gi T.i_MOST_NUMBER)))) ?_), fun z => nomatch z⟩⟩ rfl sc_is_entry.nd) ?_)) (PF.pd (pf_lst pds_nil))) ?_)) hQ
  · have := hn n hm
    simp
    omega
  · rw [filter_none fun _ _ => rfl]
    rfl
  · rw [eqv_nil]
    rfl
def R_need_log (ds : List PyData) (d : PyData) : Prop := ∃ l : List Ent, l.length ≤ 1000 ∧ (∀ e ∈ l, EntOk e) ∧ ds = [.list (l.map encE)] ∧ d = .none
theorem ok_need_log (T : Tx w K mg) : Kn P w K mg base "need_log" 3 ["log"] (spF R_need_log) := by
  obtain ⟨fd, F⟩ := T.d_need_log
  refine fn_F F sc_need_log T.g_need_log b_need_log (fun ds d ⟨_, _, _, e, _⟩ => by rw [e]; rfl) (by decide) ?_
  rintro cdv A outer s H0 E B0 ds d vs Q hr ⟨l, hl, he, rfl, rfl⟩ S hQ
  refine s_for l.zipIdx (fun p => .tuple [nI p.2, encE p.1]) (fun _ => _) (fun _ => []) _ _ (fun _ => True) S (WIt.to (wi_enum (pd_var 0 rfl) T.f_enumerate) (enumD_map _ _)) trivial (fun _ _ S => S)
    (fun k a ha => pg_tp rfl (pgs_1 (pg_nm 1 sc_need_log.nd) (pgs_1 (pg_nm 2 sc_need_log.nd) pgs_0))) (by simp) ?_ (fun σ H S _ => s_end S hQ) PassesOwn.never rfl
  rintro B1 hB k ⟨e, i⟩ σ H hk _ S
  obtain ⟨rfl, hi⟩ := zip_at hk
  have hlt := (List.getElem?_eq_some_iff.mp hi).1
  refine s_if0 S (PQ.tv (PQ.to (PQw.pq (pq_or (pq_cmp rd_ge (pd_var 1 rfl) (pd_gi T.i_MOST_ENTRIES)) fun _ => pq_or1 (pq_not (pq_val (pd_fn (ok_is_entry T) hr (pds_cons (pd_var 2 rfl) pds_nil) ⟨e, he e (List.mem_of_getElem? hi), rfl, rfl⟩))))) (by simp; omega))) fun H' S => ?_
  exact s_nil ⟨S.un.un, trivial⟩
/-! ### the law's own helpers -/
theorem ok_law_size (T : Tx w K mg) : Kn P w K mg base "_law_size" 1 ["_law_contest", "_law_task"] (spF R_trials_of) := by
  obtain ⟨fd, F⟩ := T.d_law_size
  refine fn_F F sc_law_size T.g_law_size b_law_size (fun ds d ⟨_, _, _, e, _⟩ => by rw [e]; rfl) (by decide) ?_
  rintro cdv A outer s H0 E B0 ds d vs Q hr ⟨C, k, v, rfl, hk, rfl⟩ S hQ
  obtain ⟨_, gl, _⟩ := v.groups hk
  refine s_ret S (PD.ev ?_) hQ
  refine PD.to (pd_blt (cd_sum rfl (ns := ((C.groups k).map (·.1)).map fun (n : Nat) => (n : Int))) T.f_sum bb_sum (pds_cons (PF.pd (pf_to (pf_lc (items := C.groups k) (enc := encG) (cond := fun _ => true) (f := fun g => nI g.1) (own := [("_law_many", 2), ("_law_points", 3)])
    (blkOk_by (N := N_law_size) (sc := defScope s_law_size) (by decide +kernel)) ⟨_, _, wi_tup (pd_gs' (pd_var 0 rfl) (pd_var 1 rfl) hk), by decide, by omega, fun g hg s H C' cl fp =>
      ⟨pg_tp rfl (pgs_1 (pg_nm 2 sc_law_size.nd) (pgs_1 (pg_nm 3 sc_law_size.nd) pgs_0)), pqs_0, fun _ => pd_var 2 rfl⟩⟩ rfl sc_law_size.nd) ?_)) pds_nil)) ?_
  · rw [fil_true, ints_map]
  · rw [sum_cast]
    rfl
theorem shaped_strs {l : List Str} (h : ∀ x ∈ l, PyData.strOk x = true) : SeqAt.shaped (.list (l.map .str)) = true := by
  have h1 : PyData.canLayAll0 (l.map .str) = true := by
    induction l with
    | nil => simp [PyData.canLayAll0]
    | cons a l ih =>
      have h2 := ih fun x hx => h x (List.mem_cons_of_mem _ hx)
      have h3 := h a List.mem_cons_self
      simp only [List.map_cons, PyData.canLayAll0, PyData.canLay0, h2, h3, Bool.and_self]
  have h2 := depAll_map (f := PyData.str) (n := 1) (fun _ => by simp [PyData.depth]) l
  exact shaped_of (by simp only [PyData.canLay0]; exact h1) (by simp only [PyData.depth]; omega)
def R_is_whole (ds : List PyData) (d : PyData) : Prop := ∃ l : List Str, l.length ≤ 100000 ∧ (∀ x ∈ l, PyData.strOk x = true) ∧ ds = [.list (l.map .str)] ∧ d = .bool (l.all fun x => decide (x = "passed"))
theorem ok_law_is_whole (T : Tx w K mg) : Kn P w K mg base "_law_is_whole" 1 ["_law_states"] (spF R_is_whole) := by
  obtain ⟨fd, F⟩ := T.d_law_is_whole
  refine fn_F F sc_law_is_whole T.g_law_is_whole b_law_is_whole (fun ds d ⟨_, _, _, e, _⟩ => by rw [e]; rfl) (by decide) ?_
  rintro cdv A outer s H0 E B0 ds d vs Q hr ⟨l, hl, hk, rfl, rfl⟩ S hQ
  refine s_ret S (PD.ev (PD.to (pd_cmp (rd_eqD (d1 := .list ((l.filter fun x : Str => !decide (x = "passed")).map .str)) (d2 := .list []) hr.units ?_ rfl (shaped_strs fun x hx => hk x (List.mem_filter.mp hx).1) shaped_nil) (PF.pd (pf_lc (items := l) (enc := .str) (cond := fun x : Str => !decide (x = "passed")) (f := .str) (own := [("_law_state", 1)]) (blkOk_by (N := N_law_is_whole) (sc := defScope s_law_is_whole) (by decide +kernel))
    ⟨_, _, wi_list (pd_var 0 rfl), by decide, hl, fun n hm s H C' cl fp => ⟨pg_nm 1 sc_law_is_whole.nd, pqs_1 (pq_cmp rd_neS (pd_var 1 rfl) pd_str), fun _ => pd_var 1 rfl⟩⟩ rfl sc_law_is_whole.nd)) (PF.pd (pf_lst pds_nil))) ?_)) hQ
  · simp only [nt]
    exact ntA_map (fun _ => rfl) _
  · rw [eqv_nil]
    congr 1
    clear hl hk S hQ
    induction l with
    | nil => rfl
    | cons a l ih =>
      rw [List.filter_cons, List.all_cons, ← ih]
      by_cases h : a = "passed"
      · subst h; rfl
      · simp [h]
/-- data that is compared item by item -/
def Pl : Nat → PyData → Prop
  | n + 1, .list ds => ds.length ≤ 100000 ∧ ∀ d ∈ ds, Pl n d
  | n + 1, .tuple ds => ds.length ≤ 100000 ∧ ∀ d ∈ ds, Pl n d
  | 0, .list _ => False
  | 0, .tuple _ => False
  | _, .dict _ => False
  | _, _ => True
def R_alike (n : Nat) (ds : List PyData) (d : PyData) : Prop := ∃ x, Pl n x ∧ ds = [x, x] ∧ d = .bool true
theorem trues (n : Nat) : (List.range n).map (fun _ => PyData.bool true) = ((List.range n).map fun _ => true).map .bool := by
  rw [List.map_map]
  rfl
theorem dat_get {ds : List PyData} {k : Nat} (h : k < ds.length) : ds[k]? = some (ds.getD k .none) := by
  rw [List.getD_eq_getElem?_getD, List.getElem?_eq_getElem h]
  rfl
theorem all_trues (n : Nat) : ((List.range n).map fun _ => true).all id = true := by
  rw [List.all_map]
  exact List.all_eq_true.mpr fun _ _ => rfl
theorem alike_step (T : Tx w K mg) (m k : Nat) (ih : m = 0 ∨ ∃ n, m = n + 1 ∧ Kn P w K mg base "_law_alike" k ["_law_found", "_law_due"] (spF (R_alike n))) : Kn P w K mg base "_law_alike" (k + 1) ["_law_found", "_law_due"] (spF (R_alike m)) := by
  obtain ⟨fd, F⟩ := T.d_law_alike
  refine fn_F F sc_law_alike T.g_law_alike b_law_alike (fun ds d ⟨_, _, e, _⟩ => by rw [e]; rfl) (by decide) ?_
  rintro cdv A outer s H0 E B0 ds d vs Q hr ⟨x, hx, rfl, rfl⟩ S hQ
  cases x with
  | none =>
    exact s_if S (PQ.tv (PQ.to (pq_cmp rd_isN (pd_var 1 rfl) pd_non) rfl)) (fun _ H' S => s_ret S (PD.ev (PD.to (pd_cmp rd_isN (pd_var 0 rfl) pd_non) rfl)) hQ) fun z => nomatch z
  | bool b =>
    refine s_if0 S (PQ.tv (PQ.to (pq_cmp rd_isN (pd_var 1 rfl) pd_non) rfl)) fun H' S => ?_
    refine s_if S (PQ.tv (pq_val (pd_isi (d := .bool b) (pd_var 1 rfl) T.f_isinstance T.f_bool bt_bool ki_bb))) (fun _ H' S => ?_) fun z => nomatch z
    exact s_ret S (PD.ev (pd_and (k := true) (pd_isi (d := .bool b) (pd_var 0 rfl) T.f_isinstance T.f_bool bt_bool ki_bb) (fun _ => pd_one (PD.to (pd_cmp rd_eqB (pd_var 0 rfl) (pd_var 1 rfl)) (by simp))) fun z => nomatch z)) hQ
  | int i =>
    refine s_if0 S (PQ.tv (PQ.to (pq_cmp rd_isN (pd_var 1 rfl) pd_non) rfl)) fun H' S => ?_
    refine s_if0 S (PQ.tv (pq_val (pd_isi (d := .int i) (pd_var 1 rfl) T.f_isinstance T.f_bool bt_bool ki_ib))) fun H' S => ?_
    refine s_if S (PQ.tv (pq_val (pd_isi (d := .int i) (pd_var 1 rfl) T.f_isinstance T.f_int bt_int ki_ii))) (fun _ H' S => ?_) fun z => nomatch z
    exact s_ret S (PD.ev (pd_and (k := true) (pd_isi (d := .int i) (pd_var 0 rfl) T.f_isinstance T.f_int bt_int ki_ii) (fun _ => pd_and (k := true) (pd_not (k := false) (pd_isi (d := .int i) (pd_var 0 rfl) T.f_isinstance T.f_bool bt_bool ki_ib)) (fun _ => pd_one (PD.to (pd_cmp rd_eqI (pd_var 0 rfl) (pd_var 1 rfl)) (by simp))) fun z => nomatch z) fun z => nomatch z)) hQ
  | str x =>
    refine s_if0 S (PQ.tv (PQ.to (pq_cmp rd_isN (pd_var 1 rfl) pd_non) rfl)) fun H' S => ?_
    refine s_if0 S (PQ.tv (pq_val (pd_isi (d := .str x) (pd_var 1 rfl) T.f_isinstance T.f_bool bt_bool ki_sb))) fun H' S => ?_
    refine s_if0 S (PQ.tv (pq_val (pd_isi (d := .str x) (pd_var 1 rfl) T.f_isinstance T.f_int bt_int ki_si))) fun H' S => ?_
    refine s_if S (PQ.tv (pq_val (pd_isi (d := .str x) (pd_var 1 rfl) T.f_isinstance T.f_str bt_str ki_ss))) (fun _ H' S => ?_) fun z => nomatch z
    exact s_ret S (PD.ev (pd_and (k := true) (pd_isi (d := .str x) (pd_var 0 rfl) T.f_isinstance T.f_str bt_str ki_ss) (fun _ => pd_one (PD.to (pd_cmp rd_eqS (pd_var 0 rfl) (pd_var 1 rfl)) (by simp))) fun z => nomatch z)) hQ
  | dict l => cases m <;> exact absurd hx (by simp [Pl])
  | list xs =>
    obtain ⟨n, rfl, ih2⟩ : ∃ n, m = n + 1 ∧ Kn P w K mg base "_law_alike" k ["_law_found", "_law_due"] (spF (R_alike n)) := by
      rcases ih with rfl | ih
      · exact absurd hx (by simp [Pl])
      · exact ih
    obtain ⟨hl, hp⟩ : xs.length ≤ 100000 ∧ ∀ d ∈ xs, Pl n d := hx
    refine s_if0 S (PQ.tv (PQ.to (pq_cmp rd_isN (pd_var 1 rfl) pd_non) rfl)) fun H' S => ?_
    refine s_if0 S (PQ.tv (pq_val (pd_isi (d := .list xs) (pd_var 1 rfl) T.f_isinstance T.f_bool bt_bool ki_lb))) fun H' S => ?_
    refine s_if0 S (PQ.tv (pq_val (pd_isi (d := .list xs) (pd_var 1 rfl) T.f_isinstance T.f_int bt_int ki_li))) fun H' S => ?_
    refine s_if0 S (PQ.tv (pq_val (pd_isi (d := .list xs) (pd_var 1 rfl) T.f_isinstance T.f_str bt_str ki_ls))) fun H' S => ?_
    refine s_if0 S (PQ.tv (PQ.to (PQw.pq (pq_or (pq_cmp rd_neB (pd_isi (d := .list xs) (pd_var 1 rfl) T.f_isinstance T.f_tuple bt_tuple ki_lt) (pd_isi (d := .list xs) (pd_var 0 rfl) T.f_isinstance T.f_tuple bt_tuple ki_lt)) fun _ =>
      pq_or1 (pq_cmp rd_neB (pd_isi (d := .list xs) (pd_var 1 rfl) T.f_isinstance T.f_list bt_list ki_ll) (pd_isi (d := .list xs) (pd_var 0 rfl) T.f_isinstance T.f_list bt_list ki_ll)))) rfl)) fun H' S => ?_
    refine s_if0 S (PQ.tv (PQ.to (pq_cmp rd_neI (pd_blt (cd_lenL (ds := xs)) T.f_len bb_len (pds_cons (pd_var 0 rfl) pds_nil)) (pd_blt (cd_lenL (ds := xs)) T.f_len bb_len (pds_cons (pd_var 1 rfl) pds_nil))) (by simp))) fun H' S => ?_
    refine s_ret S (PD.ev (PD.to (pd_blt (cd_all rfl (bs := (List.range xs.length).map fun _ => true)) T.f_all bb_all (pds_cons (PF.pd (PF.to (pf_lc (items := List.range xs.length) (enc := nI) (cond := fun _ => true) (f := fun _ => .bool true) (own := [("_law_k", 2)]) (blkOk_by (N := N_law_alike) (sc := defScope s_law_alike) (by decide +kernel))
      ⟨_, _, WIt.to (wi_rng (n := xs.length) (pd_blt cd_lenL T.f_len bb_len (pds_cons (pd_var 1 rfl) pds_nil)) hl T.f_range) (rngD0 _), by decide, by rw [List.length_range]; exact hl, fun j hj s H C' cl fp => ⟨pg_nm 2 sc_law_alike.nd, pqs_0, fun _ => pd_fn ih2 hr (pds_cons (pd_ixL (n := j) (pd_var 0 rfl) (pd_var 2 rfl) (dat_get (List.mem_range.mp hj))) (pds_cons (pd_ixL (n := j) (pd_var 1 rfl) (pd_var 2 rfl) (dat_get (List.mem_range.mp hj))) pds_nil))
        ⟨_, hp _ (List.mem_of_getElem? (dat_get (List.mem_range.mp hj))), rfl, rfl⟩⟩⟩ rfl sc_law_alike.nd) ((fil_true _ _).trans (trues _)))) pds_nil)) (by rw [all_trues]))) hQ
  | tuple xs =>
    obtain ⟨n, rfl, ih2⟩ : ∃ n, m = n + 1 ∧ Kn P w K mg base "_law_alike" k ["_law_found", "_law_due"] (spF (R_alike n)) := by
      rcases ih with rfl | ih
      · exact absurd hx (by simp [Pl])
      · exact ih
    obtain ⟨hl, hp⟩ : xs.length ≤ 100000 ∧ ∀ d ∈ xs, Pl n d := hx
    refine s_if0 S (PQ.tv (PQ.to (pq_cmp rd_isN (pd_var 1 rfl) pd_non) rfl)) fun H' S => ?_
    refine s_if0 S (PQ.tv (pq_val (pd_isi (d := .tuple xs) (pd_var 1 rfl) T.f_isinstance T.f_bool bt_bool ki_tb))) fun H' S => ?_
    refine s_if0 S (PQ.tv (pq_val (pd_isi (d := .tuple xs) (pd_var 1 rfl) T.f_isinstance T.f_int bt_int ki_ti))) fun H' S => ?_
    refine s_if0 S (PQ.tv (pq_val (pd_isi (d := .tuple xs) (pd_var 1 rfl) T.f_isinstance T.f_str bt_str ki_ts))) fun H' S => ?_
    refine s_if0 S (PQ.tv (PQ.to (PQw.pq (pq_or (pq_cmp rd_neB (pd_isi (d := .tuple xs) (pd_var 1 rfl) T.f_isinstance T.f_tuple bt_tuple ki_tt) (pd_isi (d := .tuple xs) (pd_var 0 rfl) T.f_isinstance T.f_tuple bt_tuple ki_tt)) fun _ =>
      pq_or1 (pq_cmp rd_neB (pd_isi (d := .tuple xs) (pd_var 1 rfl) T.f_isinstance T.f_list bt_list ki_tl) (pd_isi (d := .tuple xs) (pd_var 0 rfl) T.f_isinstance T.f_list bt_list ki_tl)))) rfl)) fun H' S => ?_
    refine s_if0 S (PQ.tv (PQ.to (pq_cmp rd_neI (pd_blt (cd_lenT (ds := xs)) T.f_len bb_len (pds_cons (pd_var 0 rfl) pds_nil)) (pd_blt (cd_lenT (ds := xs)) T.f_len bb_len (pds_cons (pd_var 1 rfl) pds_nil))) (by simp))) fun H' S => ?_
    refine s_ret S (PD.ev (PD.to (pd_blt (cd_all rfl (bs := (List.range xs.length).map fun _ => true)) T.f_all bb_all (pds_cons (PF.pd (PF.to (pf_lc (items := List.range xs.length) (enc := nI) (cond := fun _ => true) (f := fun _ => .bool true) (own := [("_law_k", 2)]) (blkOk_by (N := N_law_alike) (sc := defScope s_law_alike) (by decide +kernel))
      ⟨_, _, WIt.to (wi_rng (n := xs.length) (pd_blt cd_lenT T.f_len bb_len (pds_cons (pd_var 1 rfl) pds_nil)) hl T.f_range) (rngD0 _), by decide, by rw [List.length_range]; exact hl, fun j hj s H C' cl fp => ⟨pg_nm 2 sc_law_alike.nd, pqs_0, fun _ => pd_fn ih2 hr (pds_cons (pd_ixT (n := j) (pd_var 0 rfl) (pd_var 2 rfl) (dat_get (List.mem_range.mp hj))) (pds_cons (pd_ixT (n := j) (pd_var 1 rfl) (pd_var 2 rfl) (dat_get (List.mem_range.mp hj))) pds_nil))
        ⟨_, hp _ (List.mem_of_getElem? (dat_get (List.mem_range.mp hj))), rfl, rfl⟩⟩⟩ rfl sc_law_alike.nd) ((fil_true _ _).trans (trues _)))) pds_nil)) (by rw [all_trues]))) hQ
theorem ok_law_alike (T : Tx w K mg) : ∀ n : Nat, Kn P w K mg base "_law_alike" (n + 1) ["_law_found", "_law_due"] (spF (R_alike n))
  | 0 => alike_step T 0 0 (.inl rfl)
  | n + 1 => alike_step T (n + 1) (n + 1) (.inr ⟨n, rfl, ok_law_alike T n⟩)
end
end JH
set_option Elab.async false
set_option linter.all false
set_option maxRecDepth 100000
set_option maxHeartbeats 4000000
namespace JH
open PySem PySem.Spec L2
open Evl (Ex Ex.refl Ex.trans Ex.new Ex.mut)
local macro_rules | `(tactic| trivial) => `(tactic| repeat (first | exact Sub.nil | refine Sub.keep ?_ | refine Sub.drop ?_))
/-- a list of one's own is changed no more -/
theorem Sta.freeze {B0 H0 H : Hp} {env : Ev} {own : Own} {σ : L2.St} {i : Nat} {l : Addr} {ds : List PyData} (S : Sta B0 H0 env ((i, l, OC.lst ds) :: own) σ H) (hi : i < 1000 := by decide) : Sta B0 H0 (env.set i (some (.list ds))) own σ H := by
  obtain ⟨B, s, E, o⟩ := S
  obtain ⟨B', e1, e2, E', sm, _⟩ := exposed s E o List.mem_cons_self rfl hi
  have nd := o.nd
  rw [List.map_cons, List.nodup_cons] at nd
  refine ⟨B', ⟨s.bb.trans e1, e2, s.hh, fun a h hb => ?_⟩, E', fun p hp => ?_, nd.2⟩
  · by_cases ha : a = l
    · exact absurd (o.all _ List.mem_cons_self).2.2.1 (by rw [ha] at h; exact h.ne)
    · rw [sm a ha]
      exact s.av a h hb
  · obtain ⟨a, b, c, f⟩ := o.all p (List.mem_cons_of_mem _ hp)
    have hne : p.2.1 ≠ l := fun e => nd.1 (by rw [← e]; exact List.mem_map.mpr ⟨p, hp, rfl⟩)
    exact ⟨a, by rw [sm _ hne]; exact b, c, OC.ex f e1 (.of (Ex.refl _))⟩
section
variable {X : Cx} {B0 H0 H : Hp} {env : Ev} {own : Own} {σ : L2.St} {rest : List Stmt} {D D' : Ends} {pos : Pos}
theorem WSs.imp {st : List Stmt} (h : WSs X st D σ H) (n : ∀ σ' H', D.nx σ' H' → D'.nx σ' H') (r : D.rt = D'.rt) (b : D.bk = D'.bk) (c : D.ct = D'.ct) : WSs X st D' σ H := fun pins s I => thn (h pins s I) fun fl s' q => by
  cases fl with
  | next =>
    obtain ⟨σ', H', I', q⟩ := q
    exact ⟨σ', H', I', n _ _ q⟩
  | brk =>
    obtain ⟨σ', H', I', q⟩ := q
    exact ⟨σ', H', I', b ▸ q⟩
  | cont =>
    obtain ⟨σ', H', I', q⟩ := q
    exact ⟨σ', H', I', c ▸ q⟩
  | ret u =>
    obtain ⟨v, σ', H', I', r', q⟩ := q
    exact ⟨v, σ', H', I', r', r ▸ q⟩
/-- an if whose branches come together -/
theorem s_ifJ {φ : L2.St → Hp → Prop} {c : Expr} {body orelse : List Stmt} {b : Bool} (S : Sta B0 H0 env own σ H) (hc : TV X B0 H0 env own c b) (h1 : b = true → ∀ H', Sta B0 H0 env own σ H' → WSs X body { D with nx := φ } σ H')
    (h2 : b = false → ∀ H', Sta B0 H0 env own σ H' → WSs X orelse { D with nx := φ } σ H') (k : ∀ σ' H', φ σ' H' → WSs X rest D σ' H') : WSs X (.If c body orelse pos :: rest) D σ H :=
  s_if S hc (fun h H' S' => (h1 h H' S').imp k rfl rfl rfl) fun h H' S' => (h2 h H' S').imp k rfl rfl rfl
end
/-! ### plain facts -/
theorem stateOf_mem (l : List (Option Bool)) : stateOf l = "failed" ∨ stateOf l = "open" ∨ stateOf l = "passed" := by
  unfold stateOf
  split
  · exact .inl rfl
  · split
    · exact .inr (.inl rfl)
    · exact .inr (.inr rfl)
theorem states_mem (f : Nat → Option Bool) : ∀ (gs : List (Nat × Nat)) (b : Nat), ∀ x ∈ statesFrom f b gs, x = "failed" ∨ x = "open" ∨ x = "passed"
  | [], _, x, h => by cases h
  | g :: gs, b, x, h => by
    rw [statesFrom] at h
    rcases List.mem_cons.mp h with rfl | h
    · exact stateOf_mem _
    · exact states_mem f gs _ x h
theorem ne_fo : ("failed" : Str) ≠ "open" := by decide +kernel
theorem ne_fp : ("failed" : Str) ≠ "passed" := by decide +kernel
theorem ne_op : ("open" : Str) ≠ "passed" := by decide +kernel
theorem whole_all {l : List Str} (h : ∀ x ∈ l, x = "failed" ∨ x = "open" ∨ x = "passed") : l.all (fun x => decide (x = "passed")) = decide (wholeOf l = "passed") := by
  unfold wholeOf
  by_cases h1 : ("failed" : Str) ∈ l
  · rw [if_pos h1, decide_eq_false ne_fp]
    exact List.all_eq_false.mpr ⟨_, h1, by rw [decide_eq_false ne_fp]; decide⟩
  · rw [if_neg h1]
    by_cases h2 : ("open" : Str) ∈ l
    · rw [if_pos h2, decide_eq_false ne_op]
      exact List.all_eq_false.mpr ⟨_, h2, by rw [decide_eq_false ne_op]; decide⟩
    · rw [if_neg h2, decide_eq_true rfl]
      refine List.all_eq_true.mpr fun x hx => decide_eq_true ?_
      rcases h x hx with rfl | rfl | rfl
      · exact absurd hx h1
      · exact absurd hx h2
      · rfl
theorem whole_failed (l : List Str) : decide (wholeOf l = "failed") = decide (("failed" : Str) ∈ l) := by
  unfold wholeOf
  by_cases h1 : ("failed" : Str) ∈ l
  · rw [if_pos h1, decide_eq_true rfl, decide_eq_true h1]
  · rw [if_neg h1, decide_eq_false h1]
    split
    · exact decide_eq_false fun z => ne_fo z.symm
    · exact decide_eq_false fun z => ne_fp z.symm
theorem numbersOf_mem {Ts : List Tr} {team task u n : Nat} (h1 : n < Ts.length) (h2 : (trAt Ts n).team = team) (h3 : (trAt Ts n).task = task) (h4 : (trAt Ts n).time < u) : n ∈ numbersOf Ts team task u := by
  unfold numbersOf
  refine List.mem_map.mpr ⟨(trAt Ts n, n), List.mem_filter.mpr ⟨?_, by simp [h2, h3, h4]⟩, rfl⟩
  rw [List.mem_iff_getElem?]
  exact ⟨n, by rw [List.getElem?_zipIdx, trAt_at h1, Nat.zero_add]; rfl⟩
def svStep (C : Ct) (Ts : List Tr) (t s : Tbl) (n : Nat) : Tbl := if (decide (tryState C Ts t n = "passed") && !decide (C.fin ≤ (trAt Ts n).time)) = true then putT s (trAt Ts n).team (trAt Ts n).task true else s
def svT (C : Ct) (Ts : List Tr) (t : Tbl) (k : Nat) : Tbl := (List.range k).foldl (svStep C Ts t) []
theorem svT_succ (C : Ct) (Ts : List Tr) (t : Tbl) (k : Nat) : svT C Ts t (k + 1) = svStep C Ts t (svT C Ts t k) k := foldl_range _ _ _
theorem putT_len (t : Tbl) (n k : Nat) (b : Bool) : (putT t n k b).length ≤ t.length + 1 := by
  unfold putT
  split <;> simp
theorem svT_len (C : Ct) (Ts : List Tr) (t : Tbl) : ∀ k, (svT C Ts t k).length ≤ k
  | 0 => by simp [svT]
  | k + 1 => by
    rw [svT_succ]
    have := svT_len C Ts t k
    unfold svStep
    split
    · have := putT_len (svT C Ts t k) (trAt Ts k).team (trAt Ts k).task true
      omega
    · omega
theorem svT_look (C : Ct) (Ts : List Tr) (t : Tbl) (a b : Nat) : ∀ k, (look (svT C Ts t k) a b).isSome = true ↔ ∃ m, m < k ∧ tryState C Ts t m = "passed" ∧ (trAt Ts m).time < C.fin ∧ (trAt Ts m).team = a ∧ (trAt Ts m).task = b
  | 0 => by
    constructor
    · intro h; cases h
    · rintro ⟨m, h, _⟩; omega
  | k + 1 => by
    rw [svT_succ]
    have ih := svT_look C Ts t a b k
    unfold svStep
    by_cases hc : (decide (tryState C Ts t k = "passed") && !decide (C.fin ≤ (trAt Ts k).time)) = true
    · rw [if_pos hc, look_put]
      have hc2 : tryState C Ts t k = "passed" ∧ (trAt Ts k).time < C.fin := by
        simp only [Bool.and_eq_true, decide_eq_true_eq, Bool.not_eq_true', decide_eq_false_iff_not] at hc
        exact ⟨hc.1, by omega⟩
      by_cases he : (a, b) = ((trAt Ts k).team, (trAt Ts k).task)
      · rw [if_pos he]
        have h1 := (Prod.mk.inj he).1
        have h2 := (Prod.mk.inj he).2
        exact ⟨fun _ => ⟨k, by omega, hc2.1, hc2.2, h1.symm, h2.symm⟩, fun _ => rfl⟩
      · rw [if_neg he, ih]
        constructor
        · rintro ⟨m, h, r⟩
          exact ⟨m, by omega, r⟩
        · rintro ⟨m, h, r1, r2, r3, r4⟩
          rcases Nat.lt_or_ge m k with hm | hm
          · exact ⟨m, hm, r1, r2, r3, r4⟩
          · have : m = k := by omega
            subst this
            exact absurd (by rw [r3, r4]) he
    · rw [if_neg hc, ih]
      constructor
      · rintro ⟨m, h, r⟩
        exact ⟨m, by omega, r⟩
      · rintro ⟨m, h, r1, r2, r3⟩
        rcases Nat.lt_or_ge m k with hm | hm
        · exact ⟨m, hm, r1, r2, r3⟩
        · have : m = k := by omega
          subst this
          exfalso
          apply hc
          simp only [Bool.and_eq_true, decide_eq_true_eq, Bool.not_eq_true', decide_eq_false_iff_not]
          exact ⟨r1, by omega⟩
def skipsOf (C : Ct) (Ts : List Tr) (t : Tbl) (n : Nat) : Bool := decide (C.fin ≤ (trAt Ts n).time) || (decide (C.rule = "first") && (decide (("failed" : Str) ∈ groupStates C Ts t n) || (look (svT C Ts t n) (trAt Ts n).team (trAt Ts n).task).isSome))
theorem skips_over {C : Ct} {Ts : List Tr} (t : Tbl) {n : Nat} (hn : n < Ts.length) : skipsOf C Ts t n = isOver C Ts t n := by
  unfold skipsOf isOver
  by_cases h1 : C.fin ≤ (trAt Ts n).time
  · rw [if_pos h1, decide_eq_true h1]; rfl
  rw [if_neg h1, decide_eq_false h1, Bool.false_or]
  by_cases h2 : C.rule = "first"
  · rw [if_neg (fun z => z h2), decide_eq_true h2, Bool.true_and, ← whole_failed]
    have e0 : wholeOf (groupStates C Ts t n) = tryState C Ts t n := rfl
    rw [e0]
    by_cases h3 : tryState C Ts t n = "failed"
    · rw [if_pos h3, decide_eq_true h3]; rfl
    rw [if_neg h3, decide_eq_false h3, Bool.false_or]
    rw [Bool.eq_iff_iff, svT_look]
    constructor
    · rintro ⟨m, r1, r2, r3, r4, r5⟩
      rw [Bool.not_eq_true', List.isEmpty_eq_false_iff]
      have hm : m ∈ (((numbersOf Ts (trAt Ts n).team (trAt Ts n).task C.fin).filter fun m => decide (m < n)).filter fun m => decide (tryState C Ts t m = "passed")) :=
        List.mem_filter.mpr ⟨List.mem_filter.mpr ⟨numbersOf_mem (by omega) r4 r5 r3, decide_eq_true r1⟩, decide_eq_true r2⟩
      exact List.ne_nil_of_mem hm
    · intro h
      rw [Bool.not_eq_true', List.isEmpty_eq_false_iff] at h
      obtain ⟨m, hm⟩ := List.exists_mem_of_ne_nil _ h
      obtain ⟨hm, r2⟩ := List.mem_filter.mp hm
      obtain ⟨hm, r1⟩ := List.mem_filter.mp hm
      obtain ⟨k1, k2, k3, k4⟩ := numbersOf_lt hm
      exact ⟨m, of_decide_eq_true r1, of_decide_eq_true r2, k4, k2, k3⟩
  · rw [if_pos h2, decide_eq_false h2, Bool.false_and]
def mineOf (t : Tbl) (n sz : Nat) : List (Option Bool) := (List.range sz).map (look t n)
theorem mine_cut (t : Tbl) {n sz h m : Nat} (hz : h + m ≤ sz) : ((mineOf t n sz).drop h).take m = (List.range m).map fun j => look t n (h + j) := by
  unfold mineOf
  apply List.ext_getElem?
  intro i
  rw [List.getElem?_take]
  by_cases hi : i < m
  · rw [if_pos hi, List.getElem?_drop, List.getElem?_map, List.getElem?_map, List.getElem?_range (by omega), List.getElem?_range hi]
    rfl
  · rw [if_neg hi, List.getElem?_map, List.getElem?_eq_none (by simp; omega)]
    rfl
/-- the law's found, inside of a try -/
def addG (t : Tbl) (n : Nat) (sk : Bool) (gs : List (Nat × Nat)) (ss : List Str) (g : Nat) : List (Nat × Nat) := if sk = true then [] else (openFrom t n 0 (gs.take g) (ss.take g)).map fun k => (n, k)
def addK (t : Tbl) (n : Nat) (sk : Bool) (gs : List (Nat × Nat)) (ss : List Str) (g j : Nat) : List (Nat × Nat) := if sk = true then [] else if ss.getD g "" = "failed" then [] else (((List.range j).map (sumTo gs g + ·)).filter fun k => !(look t n k).isSome).map fun k => (n, k)
theorem addK_succ (t : Tbl) (n : Nat) (sk : Bool) (gs : List (Nat × Nat)) (ss : List Str) (g j : Nat) : addK t n sk gs ss g (j + 1) = addK t n sk gs ss g j ++ if (!sk && (!decide (ss.getD g "" = "failed") && (look t n (sumTo gs g + j)).isNone)) = true then [(n, sumTo gs g + j)] else [] := by
  unfold addK
  cases sk with
  | true => simp
  | false =>
    by_cases h : ss.getD g "" = "failed"
    · rw [if_neg Bool.false_ne_true, if_pos h, if_neg Bool.false_ne_true, if_pos h, decide_eq_true h]
      rfl
    · rw [if_neg Bool.false_ne_true, if_neg h, if_neg Bool.false_ne_true, if_neg h, List.range_succ, List.map_append, List.filter_append, List.map_append, decide_eq_false h]
      congr 1
      cases hl : look t n (sumTo gs g + j) <;> simp [hl]
theorem addG_succ (t : Tbl) (n : Nat) (sk : Bool) {gs : List (Nat × Nat)} {ss : List Str} (hl : gs.length = ss.length) {g m pt : Nat} (h : gs[g]? = some (m, pt)) : addG t n sk gs ss (g + 1) = addG t n sk gs ss g ++ addK t n sk gs ss g m := by
  unfold addG addK
  cases sk with
  | true => rfl
  | false =>
    have hlt := (List.getElem?_eq_some_iff.mp h).1
    have hx : ss[g]? = some (ss.getD g "") := by
      rw [List.getD_eq_getElem?_getD, List.getElem?_eq_getElem (by omega)]
      rfl
    rw [if_neg Bool.false_ne_true, if_neg Bool.false_ne_true, if_neg Bool.false_ne_true, open_step t n hl h hx, List.map_append]
    split <;> rfl
theorem addG_all {C : Ct} {Ts : List Tr} (t : Tbl) {n : Nat} {gs : List (Nat × Nat)} {ss : List Str} (hgs : gs = C.groups (trAt Ts n).task) (hss : ss = groupStates C Ts t n) : addG t n (isOver C Ts t n) gs ss gs.length = (openTrials C Ts t n).map fun k => (n, k) := by
  have hsl : gs.length = ss.length := by rw [hss, hgs]; unfold groupStates; rw [statesFrom_len]
  unfold addG openTrials
  rw [List.take_length, hsl, List.take_length, ← hgs, ← hss]
  split <;> rfl
end JH
set_option Elab.async false
set_option linter.all false
set_option maxRecDepth 100000
set_option maxHeartbeats 4000000
namespace JH
open PySem PySem.Spec L2
open Evl (Ex Ex.refl Ex.trans Ex.new Ex.mut)
local macro_rules | `(tactic| trivial) => `(tactic| repeat (first | exact Sub.nil | refine Sub.keep ?_ | refine Sub.drop ?_))
theorem sOk_f : PyData.strOk ("failed" : Str) = true := by decide +kernel
theorem sOk_o : PyData.strOk ("open" : Str) = true := by decide +kernel
theorem sOk_p : PyData.strOk ("passed" : Str) = true := by decide +kernel
theorem states_ok {f : Nat → Option Bool} {gs : List (Nat × Nat)} {b : Nat} : ∀ x ∈ statesFrom f b gs, PyData.strOk x = true := fun x hx => by
  rcases states_mem f gs b x hx with rfl | rfl | rfl
  · exact sOk_f
  · exact sOk_o
  · exact sOk_p
theorem addG_zero (t : Tbl) (n : Nat) (sk : Bool) (gs : List (Nat × Nat)) (ss : List Str) : addG t n sk gs ss 0 = [] := by
  unfold addG
  rw [List.take_zero]
  cases sk <;> rfl
theorem addK_zero (t : Tbl) (n : Nat) (sk : Bool) (gs : List (Nat × Nat)) (ss : List Str) (g : Nat) : addK t n sk gs ss g 0 = [] := by
  unfold addK
  cases sk
  · rw [if_neg Bool.false_ne_true]
    split <;> rfl
  · rfl
theorem addK_len (t : Tbl) (n : Nat) (sk : Bool) (gs : List (Nat × Nat)) (ss : List Str) (g j : Nat) : (addK t n sk gs ss g j).length ≤ j := by
  unfold addK
  split
  · simp
  · split
    · simp
    · rw [List.length_map]
      exact Nat.le_trans (List.length_filter_le _ _) (by simp)
theorem addG_len (t : Tbl) (n : Nat) (sk : Bool) (gs : List (Nat × Nat)) (ss : List Str) (g : Nat) : (addG t n sk gs ss g).length ≤ sumTo gs g := by
  unfold addG
  split
  · simp
  · rw [List.length_map]
    exact openFrom_len ..
theorem isN_oB (o : Option Bool) : isN (oB o) = o.isNone := by cases o <;> rfl
/-- the law's slots, while a try's trials are gone through -/
abbrev envM (C : Ct) (Ts : List Tr) (t : Tbl) (n sz : Nat) (ss : List Str) (ov : Bool) (tr g : Option PyData) : Ev :=
  [some (encC C), some (encTs Ts), some (.list (t.map encV)), some (encTab t), none, none, some (nI n), some (nI sz), tr, some (.list ((mineOf t n sz).map oB)), some (.list (ss.map .str)), none, none, none, none, none, some (.bool ov), g, none, none]
section
variable {P : Program} {w : World} {K : PySem.W.Frag} {mg : Str → Option Value} {base : Heap}
theorem ok_law_matter (T : Tx w K mg) : Kn P w K mg base "_law_matter" 2 ["_law_contest", "_law_tries", "_law_verdicts"] (spL R_matter) := by
  obtain ⟨fd, F⟩ := T.d_law_matter
  refine fn_L F sc_law_matter T.g_law_matter b_law_matter (fun ds d ⟨_, _, _, _, _, _, e, _⟩ => by rw [e]; rfl) (by decide) ?_
  rintro cdv A outer s H0 E B0 ds es vs Q hr ⟨C, Ts, t, v, tv, vv, rfl, rfl⟩ S hQ
  have rv : Rv C Ts := ⟨v, tv⟩
  have tl := tv.len
  have vl := vv.len
  refine s_set 3 S (d := encTab t) (PD.ev (pd_ty (cd_dictT rfl (rm65 hr) vv.nd) T.f_dict bt_dict (pds_cons (PF.pd (PF.to (pf_lc (items := t) (enc := encV) (cond := fun _ => true) (f := pairD) (own := [("_law_verdict", 19)])
    (blkOk_by (N := N_law_matter) (sc := defScope s_law_matter) (by decide +kernel)) ⟨_, _, wi_list (pd_var 2 rfl), by decide, by omega, fun p hp s H C' cl fp =>
      ⟨pg_nm 19 sc_law_matter.nd, pqs_0, fun _ => pd_tup (pds_cons (PD.to (pd_slT (ds := [nI p.1.1, nI p.1.2, .bool p.2]) (pd_var 19 rfl) pdo_none (pdo_some pd_int)) rfl) (pds_cons (pd_ixT (n := 2) (ds := [nI p.1.1, nI p.1.2, .bool p.2]) (pd_var 19 rfl) pd_int rfl) pds_nil))⟩⟩ rfl sc_law_matter.nd) (fil_true _ _))) pds_nil))) (fun σ H' S => ?_) sc_law_matter.nd
  refine s_newT 4 S (fun ls σ H' S => ?_) sc_law_matter.nd (hie := by simp [env0])
  refine s_new 5 S (pf_lst pds_nil) (fun lf σ H' S => ?_) sc_law_matter.nd (hie := by simp [env0])
  refine s_for (List.range Ts.length) nI (fun k => (((env0 N_law_matter [encC C, encTs Ts, .list (t.map encV)]).set 3 (some (encTab t))).set 4 none).set 5 none) (fun k => [(5, lf, .lst ((allTo C Ts t k).map encW)), (4, ls, .dct (svT C Ts t k))]) _ _ (fun _ => True) S
    (WIt.to (wi_rng (n := Ts.length) (PD.to (pd_blt cd_lenL T.f_len bb_len (pds_cons (pd_var 1 rfl) pds_nil)) (by rw [List.length_map])) (by omega) T.f_range) (rngD0 _)) trivial (fun _ _ S => S) (fun k a ha => pg_nm 6 sc_law_matter.nd) (by simp) ?_ (fun σ H S _ => ?_) PassesOwn.never rfl
  · rintro B1 hB k n σ H hk _ S
    obtain ⟨rfl, hn⟩ := range_at hk
    obtain ⟨x1, x2, x3⟩ := tv.at_ hn
    obtain ⟨gs, hgs⟩ : ∃ gs, gs = C.groups (trAt Ts n).task := ⟨_, rfl⟩
    obtain ⟨g1, g2, g3, g4⟩ := v.groups x2
    rw [← hgs] at g1 g2 g4
    obtain ⟨ss, hss⟩ : ∃ ss, ss = groupStates C Ts t n := ⟨_, rfl⟩
    have hsf : ss = statesFrom (look t n) 0 gs := by rw [hss, hgs]; rfl
    have hsl : gs.length = ss.length := by rw [hsf, statesFrom_len]
    obtain ⟨sz, hsz⟩ : ∃ sz, sz = trialsOf C (trAt Ts n).task := ⟨_, rfl⟩
    have hsz20 := trials_le v x2
    rw [← hsz] at hsz20
    have hszs : sz = sumTo gs gs.length := by
      rw [hsz, hgs]
      unfold sumTo trialsOf
      rw [List.take_length]
    have hal := allTo_len rv t (k := n) (by omega)
    -- its trials' verdicts
    refine s_set 7 S (d := nI sz) (PD.ev (PD.to (pd_fn (ok_law_size T) hr (pds_cons (pd_var 0 rfl) (pds_cons (pd_ixT (n := 1) (pd_tr (pd_var 1 rfl) (pd_var 6 rfl) hn) pd_int rfl) pds_nil)) ⟨C, (trAt Ts n).task, v, rfl, x2, rfl⟩) (by rw [hsz]))) (fun σ H' S => ?_) sc_law_matter.nd
    refine s_setC 9 S (items := List.range sz) (enc := nI) (cond := fun _ => true) (f := fun j => oB (look t n j)) (cown := [("_law_trial", 8)]) (blkOk_by (N := N_law_matter) (sc := defScope s_law_matter) (by decide +kernel))
      ⟨_, _, WIt.to (wi_rng (n := sz) (pd_var 7 rfl) (by omega) T.f_range) (rngD0 _), by decide, by simp; omega, fun j hj s H C' cl fp => ⟨pg_nm 8 sc_law_matter.nd, pqs_0, fun _ => pd_getT (rm1 hr) (pd_var 3 rfl) (pd_tup (pds_cons (pd_var 6 rfl) (pds_cons (pd_var 8 rfl) pds_nil))) pd_non ⟨rfl, rfl, rfl, rfl⟩⟩⟩ (fun σ H' S => ?_) rfl sc_law_matter.nd rfl
    rw [fil_true, show (List.range sz).map (fun j => oB (look t n j)) = (mineOf t n sz).map oB by unfold mineOf; rw [List.map_map]; rfl] at S
    have hmn : (mineOf t n sz).length = sz := by simp [mineOf]
    -- the groups' states
    refine s_new 10 S (pf_lst pds_nil) (fun lt σ H' S => ?_) sc_law_matter.nd (hie := by simp [env0])
    refine s_set 11 S (PD.ev pd_int) (fun σ H' S => ?_) sc_law_matter.nd
    refine s_for gs encG (fun k => ((((((((env0 N_law_matter [encC C, encTs Ts, .list (t.map encV)]).set 3 (some (encTab t))).set 4 none).set 5 none).set 6 (some (nI n))).set 7 (some (nI sz))).set 9 (some (.list ((mineOf t n sz).map oB)))).set 10 none).set 11 (some (nI (sumTo gs k))))
      (fun k => [(10, lt, .lst ((statesFrom (look t n) 0 (gs.take k)).map .str)), (5, lf, .lst ((allTo C Ts t n).map encW)), (4, ls, .dct (svT C Ts t n))]) _ _ (fun _ => True) S
      (wi_tup (PD.to (pd_gs' (pd_var 0 rfl) (pd_ixT (n := 1) (pd_tr (pd_var 1 rfl) (pd_var 6 rfl) hn) pd_int rfl) x2) (by rw [hgs]))) trivial (fun _ _ S => S)
      (fun k a ha => pg_tp (ds := [nI a.1, nI a.2]) rfl (pgs_1 (pg_nm 12 sc_law_matter.nd) (pgs_1 (pg_nm 13 sc_law_matter.nd) pgs_0))) (by simp) ?_ (fun σ H S _ => ?_) PassesOwn.never rfl
    · rintro B2 hB2 k ⟨m, pt⟩ σ2 H2 hk2 _ S
      have hm := g4 _ (List.mem_of_getElem? hk2)
      have hsu := sum_le g2 (fun g hg => (g4 g hg).2.1) (k + 1)
      have hs2 := sumTo_succ hk2
      have hs2 : sumTo gs (k + 1) = sumTo gs k + m := hs2
      have hle : sumTo gs k + m ≤ sz := by
        rw [hszs, ← hs2]
        unfold sumTo
        have hlt := (List.getElem?_eq_some_iff.mp hk2).1
        have e : gs.take gs.length = gs.take (k + 1) ++ gs.drop (k + 1) := by rw [List.take_append_drop, List.take_length]
        rw [e, List.map_append, List.sum_append]
        omega
      refine s_set 14 S (d := .list (((List.range m).map fun j => look t n (sumTo gs k + j)).map oB)) (PD.ev (PF.pd (PF.to (pf_slL (pd_var 9 rfl) (pdo_some (pd_var 11 rfl)) (pdo_some (pd_bin rd_add (pd_var 11 rfl) (pd_var 12 rfl)))) ?_))) (fun σ H' S => ?_) sc_law_matter.nd
      · rw [cut_mid _ _ _ (by rw [List.length_map, hmn]; exact hle), ← List.map_drop, ← List.map_take, mine_cut t hle]
      obtain ⟨l, hl⟩ : ∃ l, l = (List.range m).map fun j => look t n (sumTo gs k + j) := ⟨_, rfl⟩
      rw [← hl] at S
      refine s_app (own1 := []) rfl S (PD.ev (pd_if (d := .str (stateOf l)) (PQ.to (pq_cmp (rd_in (u := .bl false) (us := l.map vB) rfl (flDs_oB l)) pd_bl (pd_var 14 rfl)) (inV_false l)) (fun h => PD.to pd_str ?_) fun h => pd_if (PQ.to (pq_cmp (rd_in (u := .non) (us := l.map vB) rfl (flDs_oB l)) pd_non (pd_var 14 rfl)) (inV_none l)) (fun h2 => PD.to pd_str ?_) fun h2 => PD.to pd_str ?_)) (fun H' S => ?_) ?_
      · unfold stateOf
        rw [if_pos (of_decide_eq_true h)]
      · unfold stateOf
        rw [if_neg (of_decide_eq_false h), if_pos (of_decide_eq_true h2)]
      · unfold stateOf
        rw [if_neg (of_decide_eq_false h), if_neg (of_decide_eq_false h2)]
      · refine s_set 11 S (d := nI (sumTo gs (k + 1))) (PD.ev (PD.to (pd_bin rd_add (pd_var 11 rfl) (pd_var 12 rfl)) ?_)) (fun σ H' S => s_nil ⟨?_, trivial⟩) sc_law_matter.nd
        · rw [hs2]
          rfl
        · rw [states_step (look t n) hk2, List.map_append, ← hl]
          exact S.sub (by trivial)
      · rw [List.length_map, statesFrom_len, List.length_take]
        omega
    rw [List.take_length, ← hsf] at S
    have S := S.freeze
    have hin : decide (("failed" : Str) ∈ ss) = decide (("failed" : Str) ∈ groupStates C Ts t n) := by rw [hss]
    refine s_set 15 S (d := .bool (decide (C.fin ≤ (trAt Ts n).time))) (PD.ev (PD.to (pd_cmp rd_ge (pd_ixT (n := 2) (pd_tr (pd_var 1 rfl) (pd_var 6 rfl) hn) pd_int rfl) (pd_ixT (n := 2) (pd_var 0 rfl) pd_int rfl)) ?_)) (fun σ H' S => ?_) sc_law_matter.nd
    · congr 1
      exact decide_eq_decide.mpr (by omega)
    refine s_set 16 S (d := .bool (isOver C Ts t n)) (ev_x 4 (l := ls) (c := .dct (svT C Ts t n)) (by simp) (PD.to (pd_or (d := .bool (skipsOf C Ts t n)) (pd_var 15 rfl) (fun h => PD.to (pd_one (pd_and (d := .bool (decide (C.rule = "first") && (decide (("failed" : Str) ∈ groupStates C Ts t n) || (look (svT C Ts t n) (trAt Ts n).team (trAt Ts n).task).isSome))) (pd_cmp rd_eqS (pd_ixT (n := 0) (pd_var 0 rfl) pd_int rfl) pd_str)
      (fun h2 => PD.to (pd_one (pd_or (d := .bool (decide (("failed" : Str) ∈ groupStates C Ts t n) || (look (svT C Ts t n) (trAt Ts n).team (trAt Ts n).task).isSome)) (PD.to (pd_cmp (rd_in (u := .str "failed") (us := ss.map .str) rfl (flDs_str _)) pd_str (pd_var 10 rfl)) (by rw [inV_str, hin])) (fun h3 => PD.to (pd_one (pd_inT (n := (trAt Ts n).team) (k := (trAt Ts n).task) (rm1 hr) (PD.to (pd_slT (pd_tr (pd_var 1 rfl) (pd_var 6 rfl) hn) pdo_none (pdo_some pd_int)) rfl) (pd_var 4 rfl))) ?_) fun h3 => ?_)) ?_) fun h2 => ?_)) ?_) fun h => ?_) (by rw [skips_over t hn])) rfl) (fun σ H' S => ?_) sc_law_matter.nd
    · rw [h3]; rfl
    · rw [h3]; rfl
    · rw [h2]; rfl
    · rw [h2]; rfl
    · unfold skipsOf; rw [h]; rfl
    · unfold skipsOf; rw [h]; rfl
    have hwh : (ss.all fun x => decide (x = "passed")) = decide (tryState C Ts t n = "passed") := by
      rw [hss]
      exact whole_all (states_mem _ _ _)
    obtain ⟨ov, hov⟩ : ∃ ov, ov = isOver C Ts t n := ⟨_, rfl⟩
    rw [← hov] at S
    have hsu := sum_le g2 (fun g hg => (g4 g hg).2.1)
    refine s_ifJ (φ := fun σ H' => Sta B1 H0 (envM C Ts t n sz ss ov none none) [(5, lf, .lst ((allTo C Ts t n).map encW)), (4, ls, .dct (svT C Ts t (n + 1)))] σ H') S (PQ.tv (PQ.to (PQw.pq (pq_and (pq_val (pd_fn (ok_law_is_whole T) hr (pds_cons (pd_var 10 rfl) pds_nil) ⟨ss, by omega, by rw [hss]; exact states_ok, rfl, rfl⟩)) fun _ => pq_and1 (pq_not (pq_val (pd_var 15 rfl))))) (by rw [hwh])))
      (fun h H' S => ?_) (fun h H' S => s_nil ?_) (fun σ H' S => ?_)
    · refine s_putT (own1 := [(5, lf, .lst ((allTo C Ts t n).map encW))]) (n := (trAt Ts n).team) (m := (trAt Ts n).task) rfl S (rm1 hr) pd_bl (PD.to (pd_slT (pd_tr (pd_var 1 rfl) (pd_var 6 rfl) hn) pdo_none (pdo_some pd_int)) rfl) (by have := svT_len C Ts t n; omega) fun H' S => s_nil ?_
      show Sta _ _ _ _ _ _
      rw [svT_succ]
      unfold svStep
      rw [if_pos h]
      exact S.sub (by trivial)
    · show Sta _ _ _ _ _ _
      rw [svT_succ]
      unfold svStep
      rw [if_neg (by rw [h]; decide)]
      exact S.sub (by trivial)
    · have S : Sta _ _ _ _ _ _ := S
      refine s_set 8 S (d := nI 0) (PD.ev pd_int) (fun σ H' S => ?_) sc_law_matter.nd
      refine s_for (List.range ss.length) nI (fun g => envM C Ts t n sz ss ov (some (nI (sumTo gs g))) none) (fun g => [(5, lf, .lst ((allTo C Ts t n ++ addG t n ov gs ss g).map encW)), (4, ls, .dct (svT C Ts t (n + 1)))]) _ _ (fun _ => True) S
        (WIt.to (wi_rng (n := ss.length) (PD.to (pd_blt cd_lenL T.f_len bb_len (pds_cons (pd_var 10 rfl) pds_nil)) (by rw [List.length_map])) (by omega) T.f_range) (rngD0 _)) trivial (fun _ _ S => by rw [addG_zero, List.append_nil]; exact S.sub (by trivial)) (fun k a ha => pg_nm 17 sc_law_matter.nd) (by simp) ?_ (fun σ H S _ => s_nil ⟨?_, trivial⟩) PassesOwn.never rfl
      · rintro B2 hB2 k g σ2 H2 hk2 _ S
        obtain ⟨rfl, hg⟩ := range_at hk2
        obtain ⟨⟨m, pt⟩, hgm⟩ : ∃ p, gs[g]? = some p := ⟨gs[g], List.getElem?_eq_getElem (by omega)⟩
        have hgd : gs.getD g (0, 0) = (m, pt) := by rw [List.getD_eq_getElem?_getD, hgm]; rfl
        have hs2 : sumTo gs (g + 1) = sumTo gs g + m := sumTo_succ hgm
        have hs3 := hsu (g + 1)
        have hle : sumTo gs g + m ≤ sz := by
          rw [hszs, ← hs2]
          unfold sumTo
          have e : gs.take gs.length = gs.take (g + 1) ++ gs.drop (g + 1) := by rw [List.take_append_drop, List.take_length]
          rw [e, List.map_append, List.sum_append]
          omega
        refine s_for (List.range m) nI (fun j => envM C Ts t n sz ss ov (some (nI (sumTo gs g + j))) (some (nI g))) (fun j => [(5, lf, .lst ((allTo C Ts t n ++ addG t n ov gs ss g ++ addK t n ov gs ss g j).map encW)), (4, ls, .dct (svT C Ts t (n + 1)))]) _ _ (fun _ => True) S
          (WIt.to (wi_rng (n := m) (PD.to (pd_ixT (n := 0) (pd_ixT (n := g) (PD.to (pd_gs' (pd_var 0 rfl) (pd_ixT (n := 1) (pd_tr (pd_var 1 rfl) (pd_var 6 rfl) hn) pd_int rfl) x2) (by rw [← hgs])) (pd_var 17 rfl) (gs_get (by omega))) pd_int rfl) (by rw [hgd])) (by omega) T.f_range) (rngD0 _)) trivial (fun _ _ S => by rw [addK_zero, List.append_nil]; exact S.sub (by trivial)) (fun k a ha => pg_nm 18 sc_law_matter.nd) (by simp) ?_ (fun σ H S _ => s_nil ⟨?_, trivial⟩) PassesOwn.never rfl
        · rintro B3 hB3 k j σ3 H3 hk3 _ S
          obtain ⟨rfl, hj⟩ := range_at hk3
          have hat : ((mineOf t n sz).map oB)[sumTo gs g + j]? = some (oB (look t n (sumTo gs g + j))) := by
            unfold mineOf
            rw [List.getElem?_map, List.getElem?_map, List.getElem?_range (by omega)]
            rfl
          have hkl := addK_succ t n ov gs ss g j
          have l1 := addK_len t n ov gs ss g j
          have l2 := addG_len t n ov gs ss g
          refine s_if S (PQ.tv (PQw.pq (pq_and (pq_not (pq_val (pd_var 16 rfl))) fun _ => pq_and (pq_cmp rd_neS (pd_ixL (n := g) (pd_var 10 rfl) (pd_var 17 rfl) (str_get hg)) pd_str) fun _ => pq_and1 (PQ.to (pq_cmp rd_isN (pd_ixL (n := sumTo gs g + j) (pd_var 9 rfl) (pd_var 8 rfl) hat) pd_non) (isN_oB _))))) (fun h H' S => ?_) fun h H' S => s_nil ?_
          · rw [if_pos h] at hkl
            refine s_app (own1 := []) rfl S (d := encW (n, sumTo gs g + j)) (PD.ev (pd_tup (pds_cons (pd_var 6 rfl) (pds_cons (pd_var 8 rfl) pds_nil)))) (fun H' S => s_nil ?_) ?_
            · refine s_set 8 S (d := nI (sumTo gs g + (j + 1))) (PD.ev (pd_bin rd_add (pd_var 8 rfl) pd_int)) (fun σ H' S => s_nil ⟨?_, trivial⟩) sc_law_matter.nd
              rw [hkl, ← List.append_assoc, List.map_append]
              exact S.sub (by trivial)
            · rw [List.length_map, List.length_append, List.length_append]
              omega
          · rw [if_neg (by rw [h]; decide), List.append_nil] at hkl
            refine s_set 8 S (d := nI (sumTo gs g + (j + 1))) (PD.ev (pd_bin rd_add (pd_var 8 rfl) pd_int)) (fun σ H' S => s_nil ⟨?_, trivial⟩) sc_law_matter.nd
            rw [hkl]
            exact S.sub (by trivial)
        · rw [List.length_range] at S
          rw [addG_succ t n ov hsl hgm, ← List.append_assoc, hs2]
          exact S.sub (by trivial)
      · rw [List.length_range, ← hsl, hov, addG_all t hgs hss, ← allTo_succ] at S
        exact S.sub (by trivial)
  · refine s_retO 5 (l := lf) S (ds := (allOpen C Ts t).map encW) ?_ hQ
    rw [List.length_range]
    exact List.mem_cons_self
end
end JH
set_option Elab.async false
set_option linter.all false
set_option maxRecDepth 100000
set_option maxHeartbeats 4000000
/-! sorted(a dict whose keys are pairs) -/
namespace JH
open PySem PySem.Spec L2 PyProof.Rows PySem.W
open Evl (Ex Ex.refl Ex.trans Ex.new Ex.mut)
def leP (a b : Nat × Nat) : Bool := decide (a.1 < b.1) || (decide (a.1 = b.1) && decide (a.2 ≤ b.2))
def sortK (t : Tbl) : List (Nat × Nat) := (t.map (·.1)).mergeSort leP
theorem leP_data : dataLe false (fun k : Nat × Nat => .tuple [.int (k.1 : Int), .int (k.2 : Int)]) = leP := by
  rw [dataLe_ii (β := Nat × Nat) (fun k => (k.1 : Int)) (fun k => (k.2 : Int))]
  funext a b
  unfold leP
  rw [← Bool.decide_and, ← Bool.decide_or]
  exact decide_eq_decide.mpr (by omega)
/-- the values are pairs that stand -/
def KeyAt (H : Hp) (v : Value) (k : Nat × Nat) : Prop := ∃ b, v = .ref b ∧ H b = some (.tup ((kyT k.1 k.2).map kV))
section
variable {X : Cx}
theorem key_reads {pins : List (Addr × Obj)} {σ : L2.St} {H : Hp} {s : Shared} (I : L2.Inv X pins σ H s) {h' : Heap} (kp : ∀ b o, s.heap.get? b = some o → h'.get? b = some o) {v : Value} {k : Nat × Nat} (hk : KeyAt H v k) : Reads h' v (.tuple [.int (k.1 : Int), .int (k.2 : Int)]) [] := by
  obtain ⟨b, rfl, hb⟩ := hk
  obtain ⟨its, rv, ⟨o, h1, h2, n, h3⟩, _⟩ := I.tuple (SqT.of hb)
  obtain ⟨u1, u2, rfl, r1, r2⟩ := vals2 rv
  obtain ⟨t1, rfl⟩ := r1
  obtain ⟨t2, rfl⟩ := r2
  exact .tuple (kp _ _ h1) h2 h3 (.cons (.int _ _) (.cons (.int _ _) .nil))
theorem keyAt_back {H : Hp} : ∀ {us : List Value} {ks : List (Nat × Nat)}, EachIs (KeyAt H) us ks → ∃ ys : List V, Vals ys us ∧ ∀ B, (∀ b xs, H b = some (.tup xs) → B b = some (.tup xs)) → DzAll B ys (ks.map encW)
  | _, _, .nil => ⟨[], .nil, fun _ _ => .nil⟩
  | _, _, .cons ⟨b, e, hb⟩ t => by
    subst e
    obtain ⟨ys, r, h⟩ := keyAt_back t
    exact ⟨.ref b :: ys, .cons rfl r, fun B hB => .cons (.tup (hB _ _ hb) (.cons (.int _) (.cons (.int _) .nil))) (h B hB)⟩
theorem keyAt_all {H : Hp} {t : Tbl} : ∀ {xs : List (List Key × Addr × Value)}, KT H (kvT t) xs → EachIs (KeyAt H) (xs.map fun x => Value.ref x.2.1) (t.map (·.1)) := by
  induction t with
  | nil =>
    intro xs h
    cases h
    exact .nil
  | cons p t ih =>
    intro xs h
    have e : kvT (p :: t) = (kyT p.1.1 p.1.2, V.bl p.2) :: kvT t := rfl
    rw [e] at h
    cases h with
    | cons h r => exact .cons ⟨_, rfl, h.2.1⟩ (ih r)
def rSortT : List V → Hp → VK → Prop := fun xs H Q => ∃ (a : Addr) (t : Tbl), xs = [.ref a] ∧ H a = some (.dT (kvT t)) ∧ ∀ p ys, H p = none → (∀ B, (∀ b xs, H b = some (.tup xs) → B b = some (.tup xs)) → DzAll B ys ((sortK t).map encW)) → Q (.ref p) (upd H p (.lst ys))
theorem cr_sortT (hcalm : X.calm = true) (hu : X.A.units + 65 < cLine) : CallR X (.builtin "sorted") rSortT := by
  intro pins s σ H xs us Q I r q
  obtain ⟨a, t, ex, hd, q⟩ := q
  subst ex
  obtain ⟨u, eu, rx⟩ := vals1 r
  subst eu
  cases rx
  obtain ⟨z, lo, xs', rel, dd⟩ := dt_of I.hok hd
  obtain ⟨od, es, ep, g1, g2, g3, g4, g5, g6⟩ := id dd
  have hlx : xs'.length = t.length := by
    have h1 := Paired.length rel
    unfold kvT at h1
    rw [List.length_map] at h1
    exact h1.symm
  have hes : es.size = xs'.length := by
    rw [← Array.length_toList, g4, List.length_map]
  have hzt : t.length ≤ sizeLine := by
    unfold kvT at z
    rw [List.length_map] at z
    exact z
  refine Calls.call_function_entry PyProof.Rows.kind_sorted PyProof.Rows.plain_sorted PyProof.Rows.entry_sorted (PyProof.Rows.args_sorted1 _) ?_
  unfold Builtin.«sorted»
  refine wpAny_bind (m := checkCount "sorted" 1 1 _) (wpAny_pure ?_)
  refine wpAny_bind (kdu_collect (A := X.A.in1) (KdlSrc.rawDict (es := es) (ep := ep) lo) (I.ok.hd hcalm) ⟨od, g1, g2, g3⟩ (by rw [hes, hlx]; exact hzt) fun h' tk acc hk hacc => ?_)
  have hal : acc.toList = xs'.map fun x => Value.ref x.2.1 := by
    apply List.ext_getElem?
    intro j
    rw [List.getElem?_map]
    cases hj : acc.toList[j]? with
    | none =>
      rw [List.getElem?_eq_none_iff, Array.length_toList, hacc.1, hes] at hj
      rw [List.getElem?_eq_none hj]
      rfl
    | some v =>
      rw [Array.getElem?_toList] at hj
      obtain ⟨hi, hv⟩ := hacc.2 j v hj
      have e1 : es.toList[j]? = some es[j] := by rw [Array.getElem?_toList, Array.getElem?_eq_getElem hi]
      rw [g4, List.getElem?_map] at e1
      obtain ⟨x, e2, e3⟩ := Option.map_eq_some_iff.mp e1
      rw [e2, hv, ← e3]
      rfl
  have I1 : L2.Inv X pins σ H { s with heap := h', toks := tk } := I.kept hk
  rw [hal]
  refine wpAny_bind (wpAny_newList ?_ (by rw [List.length_map, hlx]; exact hzt))
  have hoL : (h'.push (seqObj "list" (xs'.map fun x => Value.ref x.2.1).toArray 0)).get? h'.objs.size = some (seqObj "list" (xs'.map fun x => Value.ref x.2.1).toArray 0) := Heap.get?_push_size _ rfl
  show wpAny _ _ _ _ _ { s with heap := h'.push (seqObj "list" (xs'.map fun x => Value.ref x.2.1).toArray 0), toks := tk }
  have ev := keyAt_all rel
  refine wpAny_bind (wpAny_holding (list_sort_data (vs := xs'.map fun x => Value.ref x.2.1) (bs := t.map (·.1)) (R := KeyAt H) (enc := fun k : Nat × Nat => .tuple [.int (k.1 : Int), .int (k.2 : Int)]) (s := { s with heap := h'.push (seqObj "list" (xs'.map fun x => Value.ref x.2.1).toArray 0), toks := tk }) hoL ev
    (ev.mono fun v k hvk => ⟨[], key_reads I (fun b o e => Heap.get?_push_of_some _ (hk b o e)) hvk, by simp⟩) (AllAlike.of fun _ _ => by simp [alike, alikeAll]) (Sortable.tuples fun _ => ⟨_, _, rfl⟩) (by rw [List.length_map]; exact hzt) (fun k _ => ?_) fun out ho eo => ?_))
  · have hd : (PyData.tuple [.int (k.1 : Int), .int (k.2 : Int)]).depth = 1 := by simp [PyData.depth, PyData.depthAll]
    have : X.A.in1.units = X.A.units + 1 := rfl
    omega
  · rw [leP_data] at eo
    obtain ⟨ys, ry, hy⟩ := keyAt_back eo
    obtain ⟨e', he'⟩ := PyProof.Rows.sortedHeap_at (vs := xs'.map fun x => Value.ref x.2.1) (out := out.toArray) hoL
    have hyl := ry.length
    refine wpAny_pure ⟨_, rfl, .ref h'.objs.size, upd H h'.objs.size (.lst ys), I1.laid (t' := tk) (fun b u e => ?_) (Nat.le_refl _)
      (show ObjOk X.prog X.w _ _ _ (.lst ys) from ⟨by rw [hyl, ho, List.length_map]; exact hzt, out, e', ry, he'⟩), rfl, q _ ys (I1.hok.fresh (Nat.le_refl _)) hy⟩
    have hb : b < h'.objs.size := Heap.lt_size e
    rw [PyProof.Rows.sortedHeap_old (Nat.ne_of_lt hb) (by rw [size_push']; exact Nat.lt_succ_of_lt hb)]
    exact Heap.get?_push_of_some _ e
/-- the tuples that stand, known for good too -/
def addT (B H : Hp) : Hp := fun a => match H a with
  | some (.tup xs) => some (.tup xs)
  | _ => B a
theorem addT_stp {B H : Hp} (eb : Ex B H) : Stp B H (addT B H) H := by
  refine ⟨fun a o e => ?_, fun a o e => ?_, .of (Ex.refl _), fun a h hb => ?_⟩
  · unfold addT
    have h := eb a o e
    rw [h]
    cases o <;> first | rfl | exact e
  · unfold addT at e
    cases hH : H a with
    | none =>
      rw [hH] at e
      have := eb a o e
      rw [hH] at this
      cases this
    | some u =>
      rw [hH] at e
      cases u <;> first | exact e | exact (hH.symm.trans (eb a o e))
  · obtain ⟨o, e, n⟩ := h
    unfold addT
    rw [e]
    cases o <;> first | exact hb | exact absurd rfl (n _)
theorem addT_tup {B H : Hp} (b : Addr) (xs : List V) (h : H b = some (.tup xs)) : addT B H b = some (.tup xs) := by
  unfold addT
  rw [h]
theorem cf_sortT (hc : X.calm = true) (hu : X.A.units + 65 < cLine) {t : Tbl} : CF X (.builtin "sorted") [encTab t] ((sortK t).map encW) := ⟨_, cr_sortT hc hu, fun vs B H Q eb z q => by
  obtain ⟨v, rfl, z1⟩ := z.one
  obtain ⟨a, rfl, h1⟩ := z1.tab_inv
  refine ⟨a, t, rfl, eb _ _ h1, fun p ys hp hy => ?_⟩
  have s1 := addT_stp eb
  exact q p ys _ _ hp (s1.trans (.new s1.bh hp)) upd_same ((hy _ addT_tup).ex (Ex.new (ex_none s1.bh hp)))⟩
end
section
variable {X : Cx} {env : Ev} {ds es : List PyData} {x : Str} {p pos : Pos}
theorem pf_blt {e : Expr} {args : List Expr} {id : String} (C : CF X (.builtin id) ds es) (hm : X.mg x = none) (hv : bootBuiltins x = some (.builtin id)) (ha : PDs X (e :: args) env ds) (hg : Gl X x := by rfl) (hn : x ≠ "__name__" := by decide) (hdb : (x == ("__debug__" : Str)) = false := by decide)
    (he : starEach (e :: args) X.env = (false, eval e X.env) :: starEach args X.env := by rfl) (hpl : (backTo pos (starEach args X.env)).any (·.1) = false := by rfl) : PF X (.Call (.Name x p) (e :: args) [] pos) env es := fun σ B H E eb Q q => by
  obtain ⟨r, hc, hr⟩ := C
  refine we (pe_callB hc hg hm hv smA hn hdb he hpl) ?_
  exact ha σ B H E eb _ fun vs B1 H1 s1 z1 => hr vs B1 H1 _ s1.bh z1 fun p xs B2 H2 n2 s2 h2 z2 => q p xs B2 H2 (ex_h0 s1 n2) (s1.trans s2) h2 z2
end
end JH
set_option Elab.async false
set_option linter.all false
set_option maxRecDepth 100000
set_option maxHeartbeats 4000000
/-! instances and text-key dicts, read as data; methods -/
namespace JH
open PySem PySem.Spec L2
open Evl (Ex Ex.refl Ex.trans Ex.new Ex.mut)
theorem look_fs {B : Hp} {f : Str} {d : PyData} : ∀ {fs : List (Str × V)} {fd : List (Str × PyData)}, DzAll B (fs.map (·.2)) (fd.map (·.2)) → fs.map (·.1) = fd.map (·.1) → fd.lookup f = some d → ∃ v, fs.lookup f = some v ∧ Dz B v d
  | [], [], _, _, h => by cases h
  | [], _ :: _, _, e, _ => by simp at e
  | _ :: _, [], _, e, _ => by simp at e
  | (a, v) :: fs, (b, d') :: fd, z, e, h => by
    rw [List.map_cons, List.map_cons] at e z
    injection e with e1 e2
    have e1 : a = b := e1
    subst e1
    cases z with
    | cons z zs =>
      rw [List.lookup_cons] at h ⊢
      cases q : f == a with
      | true =>
        rw [q] at h
        cases h
        exact ⟨v, rfl, z⟩
      | false =>
        rw [q] at h
        exact look_fs zs e2 h
theorem look_none_fs {f : Str} : ∀ {fs : List (Str × V)} {fd : List (Str × PyData)}, fs.map (·.1) = fd.map (·.1) → fd.lookup f = none → fs.lookup f = none
  | [], _, _, _ => rfl
  | _ :: _, [], e, _ => by simp at e
  | (a, v) :: fs, (b, d') :: fd, e, h => by
    rw [List.map_cons, List.map_cons] at e
    injection e with e1 e2
    have e1 : a = b := e1
    subst e1
    rw [List.lookup_cons] at h ⊢
    cases q : f == a with
    | true =>
      rw [q] at h
      cases h
    | false =>
      rw [q] at h
      exact look_none_fs e2 h
theorem look_kvs {B : Hp} {f : Str} {d : PyData} : ∀ {kvs : List (Key × V)} {fd : List (Str × PyData)}, DzAll B (kvs.map (·.2)) (fd.map (·.2)) → kvs.map (·.1) = fd.map (fun p => Sum.inr p.1) → fd.lookup f = some d → ∃ v, valV kvs (Sum.inr f) = some v ∧ Dz B v d
  | [], [], _, _, h => by cases h
  | [], _ :: _, _, e, _ => by simp at e
  | _ :: _, [], _, e, _ => by simp at e
  | (a, v) :: kvs, (b, d') :: fd, z, e, h => by
    rw [List.map_cons, List.map_cons] at e z
    injection e with e1 e2
    have e1 : a = Sum.inr b := e1
    subst e1
    cases z with
    | cons z zs =>
      rw [List.lookup_cons] at h
      by_cases q : f = b
      · subst q
        rw [show (f == f) = true from beq_self_eq_true f] at h
        cases h
        exact ⟨v, valV_pos rfl, z⟩
      · rw [show (f == b) = false from beq_eq_false_iff_ne.mpr q] at h
        obtain ⟨u, h1, h2⟩ := look_kvs zs e2 h
        exact ⟨u, by rw [valV_neg (fun z => q (Sum.inr.inj z).symm)]; exact h1, h2⟩
abbrev HA (K : PySem.W.Frag) : Addr := He.ga K "Hall"
section
variable {X : Cx} {env : Ev} {d : PyData} {ds es : List PyData} {o : Expr} {f : Str} {pos apos p1 : Pos} {j : Nat}
/-- o.f -/
theorem pd_fld (T : Tx X.w X.K X.mg) {fd : List (Str × PyData)} (ho : PD X o env (encI (HA X.K) fd)) (hl : fd.lookup f = some d) (n : NoAttr X.K (HA X.K) f) (hb : attributeBase o f X.env (eval o X.env) = eval o X.env := by rfl) : PD X (.Attribute o f pos) env d := fun σ B H E eb Q q => by
  refine we (pe_fld smE hb) ?_
  refine ho σ B H E eb _ fun v B1 H1 s1 z1 => ?_
  obtain ⟨a, dx, fs, rfl, h1, h2, h3⟩ := z1.ins_inv
  obtain ⟨v, h4, h5⟩ := look_fs h2 h3 hl
  exact ⟨a, _, dx, fs, v, rfl, s1.bh _ _ h1, T.cl, n, h4, q v B1 H1 s1 h5⟩
/-- o['k'] -/
theorem pd_dk (hu : X.A.units + 1 < cLine) {kd : Str × PyData} {fd : List (Str × PyData)} (ho : PD X o env (encS (kd :: fd))) (hl : (kd :: fd).lookup f = some d) : PD X (.Subscript o (.Constant (.str f) j p1) pos) env d := fun σ B H E eb Q q => by
  refine we (pe_dget hu smE smE (fun _ _ => rfl)) ?_
  refine ho σ B H E eb _ fun v B1 H1 s1 z1 => ?_
  refine pd_str σ B1 H1 (E.ex s1.bb) s1.bh _ fun y B2 H2 s2 z2 => ?_
  rw [z2.str_inv]
  obtain ⟨a, kvs, rfl, h1, h2, h3⟩ := (z1.ex s2.bb).dk_inv
  obtain ⟨v, h4, h5⟩ := look_kvs h2 h3 hl
  refine ⟨a, v, rfl, ?_, q v B2 H2 (s1.trans s2) h5⟩
  rw [← h4]
  exact DGet.k (k := Sum.inr f) (s2.bh _ _ h1)
end
/-- a method of Hall, with its promise -/
def KnM (P : Program) (w : World) (K : PySem.W.Frag) (mg : Str → Option Value) (base : Heap) (m : Str) (k : Nat) (ps : List Str) (sp : Sp) : Prop :=
  ∃ f fd, FnOk P w K mg base CX0 k f fd ps sp ∧ Meth K (HA K) m f ∧ Binds K fd ps []
section
variable {P : Program} {w : World} {K : PySem.W.Frag} {mg : Str → Option Value} {base : Heap}
theorem fm_F {x qual : Str} {params : Arguments} {body : List Stmt} {scope : Scope} {N ps : List Str} {k : Nat} {R : List PyData → PyData → Prop} {f : Addr} {fd : FuncData} (F : FunD K x qual params body scope [] [] f fd) (S : FnScope N ps scope) (hm : Meth K (HA K) x f)
    (hb : ∀ (kV doc pm : Value) (an : Option Addr) (cdv ct : Value) (us : List Value), us.length = ps.length → bindArgs (PySem.W.fnOf x qual params body scope .none kV doc pm an cdv ct) ⟨us, []⟩ = pure (ps.zip us))
    (hl : ∀ ds d, R ds d → ds.length = ps.length) (hN : ps.length ≤ N.length)
    (h : ∀ (cdv : Value) (A : Around) (outer : List Env) (s : Shared) (H0 : Hp) (E : XK) (B0 : Hp) (ds : List PyData) (d : PyData) (vs : List V) (Q : VK), Room k (A.deeper (PyProof.Rows.envOfC qual scope s.heap.objs.size f cdv)) → R ds d → Sta B0 H0 (env0 N ds) [] (L2.start N vs) H0 → (∀ v B1 H1, Stp B0 H0 B1 H1 → Dz B1 v d → Q v H1) →
      WSs (cxOf CX0 P w K mg base N qual scope f cdv A outer s H0 E).nox body { nx := fun _ H' => Q .non H', rt := Q } (L2.start N vs) H0) : KnM P w K mg base x (k + 1) ps (spF R) := by
  refine ⟨f, fd, F.ok S (fun vs H Q E h => ?_) (fun cdv A outer s H vs Q E hr h' => ?_), hm, F.bindsN hb⟩
  · obtain ⟨B, ds, d, eb, ha, r, _⟩ := h
    rw [ha.length, hl ds d r]
  · obtain ⟨B, ds, d, eb, ha, r, q⟩ := h'
    refine ⟨_, PSs.nox smSs, h cdv A outer s H E B ds d vs Q hr r ⟨B, .refl eb, en_start ha ?_, ⟨fun p hp => (nomatch hp), List.nodup_nil⟩⟩ q⟩
    rw [ha.length, hl ds d r]
    exact hN
theorem fm_L {x qual : Str} {params : Arguments} {body : List Stmt} {scope : Scope} {N ps : List Str} {k : Nat} {R : List PyData → List PyData → Prop} {f : Addr} {fd : FuncData} (F : FunD K x qual params body scope [] [] f fd) (S : FnScope N ps scope) (hm : Meth K (HA K) x f)
    (hb : ∀ (kV doc pm : Value) (an : Option Addr) (cdv ct : Value) (us : List Value), us.length = ps.length → bindArgs (PySem.W.fnOf x qual params body scope .none kV doc pm an cdv ct) ⟨us, []⟩ = pure (ps.zip us))
    (hl : ∀ ds d, R ds d → ds.length = ps.length) (hN : ps.length ≤ N.length)
    (h : ∀ (cdv : Value) (A : Around) (outer : List Env) (s : Shared) (H0 : Hp) (E : XK) (B0 : Hp) (ds es : List PyData) (vs : List V) (Q : VK), Room k (A.deeper (PyProof.Rows.envOfC qual scope s.heap.objs.size f cdv)) → R ds es → Sta B0 H0 (env0 N ds) [] (L2.start N vs) H0 → (∀ p xs B1 H1, H0 p = none → Stp B0 H0 B1 H1 → B1 p = some (.lst xs) → DzAll B1 xs es → Q (.ref p) H1) →
      WSs (cxOf CX0 P w K mg base N qual scope f cdv A outer s H0 E).nox body { nx := fun _ H' => Q .non H', rt := Q } (L2.start N vs) H0) : KnM P w K mg base x (k + 1) ps (spL R) := by
  refine ⟨f, fd, F.ok S (fun vs H Q E h => ?_) (fun cdv A outer s H vs Q E hr h' => ?_), hm, F.bindsN hb⟩
  · obtain ⟨B, ds, d, eb, ha, r, _⟩ := h
    rw [ha.length, hl ds d r]
  · obtain ⟨B, ds, d, eb, ha, r, q⟩ := h'
    refine ⟨_, PSs.nox smSs, h cdv A outer s H E B ds d vs Q hr r ⟨B, .refl eb, en_start ha ?_, ⟨fun p hp => (nomatch hp), List.nodup_nil⟩⟩ q⟩
    rw [ha.length, hl ds d r]
    exact hN
theorem fm_T {x qual : Str} {params : Arguments} {body : List Stmt} {scope : Scope} {N ps : List Str} {k : Nat} {R : List PyData → List PyData → Prop} {f : Addr} {fd : FuncData} (F : FunD K x qual params body scope [] [] f fd) (S : FnScope N ps scope) (hm : Meth K (HA K) x f)
    (hb : ∀ (kV doc pm : Value) (an : Option Addr) (cdv ct : Value) (us : List Value), us.length = ps.length → bindArgs (PySem.W.fnOf x qual params body scope .none kV doc pm an cdv ct) ⟨us, []⟩ = pure (ps.zip us))
    (hl : ∀ ds d, R ds d → ds.length = ps.length) (hN : ps.length ≤ N.length)
    (h : ∀ (cdv : Value) (A : Around) (outer : List Env) (s : Shared) (H0 : Hp) (E : XK) (B0 : Hp) (ds es : List PyData) (vs : List V) (Q : VK), Room k (A.deeper (PyProof.Rows.envOfC qual scope s.heap.objs.size f cdv)) → R ds es → TbOk K B0 H0 → Sta B0 H0 (env0 N ds) [] (L2.start N vs) H0 → (∀ p xs B1 H1, H0 p = none → Stp B0 H0 B1 H1 → B1 p = some (.lst xs) → DzAll B1 xs es → Q (.ref p) H1) →
      WSs (cxOf CX0 P w K mg base N qual scope f cdv A outer s H0 E).nox body { nx := fun _ H' => Q .non H', rt := Q } (L2.start N vs) H0) : KnM P w K mg base x (k + 1) ps (spT K R) := by
  refine ⟨f, fd, F.ok S (fun vs H Q E h => ?_) (fun cdv A outer s H vs Q E hr h' => ?_), hm, F.bindsN hb⟩
  · obtain ⟨B, ds, d, eb, ha, _, r, _⟩ := h
    rw [ha.length, hl ds d r]
  · obtain ⟨B, ds, d, eb, ha, T, r, q⟩ := h'
    refine ⟨_, PSs.nox smSs, h cdv A outer s H E B ds d vs Q hr r T ⟨B, .refl eb, en_start ha ?_, ⟨fun p hp => (nomatch hp), List.nodup_nil⟩⟩ q⟩
    rw [ha.length, hl ds d r]
    exact hN
end
section
variable {X : Cx} {env : Ev} {d : PyData} {ds es : List PyData} {o : Expr} {m : Str} {k : Nat} {ps : List Str} {pos apos : Pos} {pl : Sem Bool} {fd : List (Str × PyData)}
/-- o.m(e, ..) -/
theorem pd_meth {R : List PyData → PyData → Prop} {e : Expr} {args : List Expr} (T : Tx X.w X.K X.mg) (F : KnM X.prog X.w X.K X.mg X.base m k ps (spF R)) (hr : Room k X.A) (ho : PD X o env (encI (HA X.K) fd)) (ha : PDs X (e :: args) env ds) (h : R (encI (HA X.K) fd :: ds) d) (hl : fd.lookup m = none := by rfl)
    (hst : starEach (e :: args) X.env = (false, eval e X.env) :: starEach args X.env := by rfl) (hpl : (backTo pos (starEach args X.env)).any (·.1) = false := by rfl)
    (ht : eval (.Call (.Attribute o m apos) (e :: args) [] pos) X.env = (do
      let ov ← eval o X.env
      standAt apos.atName
      let (f, first) ← holding [ov] (getMethod ov m pl)
      callWith pos f first (backTo pos (starEach (e :: args) X.env)) (backToKw pos (keywordEach [] X.env))) := by rfl) : PD X (.Call (.Attribute o m apos) (e :: args) [] pos) env d := fun σ B H E eb Q q => by
  obtain ⟨f, fd', F, hm, hb⟩ := F
  refine we (pe_meth smE T.cl hm F hr hb .nil pass0 smA hst hpl ht) ?_
  refine ho σ B H E eb _ fun v B1 H1 s1 z1 => ?_
  obtain ⟨a, dx, fs, rfl, h1, h2, h3⟩ := z1.ins_inv
  refine ⟨a, dx, fs, rfl, s1.bh _ _ h1, look_none_fs h3 hl, ?_⟩
  refine ha σ B1 H1 (E.ex s1.bb) s1.bh _ fun vs B2 H2 s2 z2 => ?_
  rw [List.append_nil]
  exact ⟨B2, _, d, s2.bh, .cons (z1.ex s2.bb) z2, h, fun v B3 H3 s3 z3 => q v B3 H3 ((s1.trans s2).trans s3) z3⟩
theorem pf_meth0 {R : List PyData → List PyData → Prop} (T : Tx X.w X.K X.mg) (F : KnM X.prog X.w X.K X.mg X.base m k ps (spL R)) (hr : Room k X.A) (ho : PD X o env (encI (HA X.K) fd)) (h : R [encI (HA X.K) fd] es) (hl : fd.lookup m = none := by rfl)
    (ht : eval (.Call (.Attribute o m apos) [] [] pos) X.env = (do
      let ov ← eval o X.env
      standAt apos.atName
      let (f, first) ← holding [ov] (getMethod ov m pl)
      callWith pos f first (backTo pos (starEach [] X.env)) (backToKw pos (keywordEach [] X.env))) := by rfl) : PF X (.Call (.Attribute o m apos) [] [] pos) env es := fun σ B H E eb Q q => by
  obtain ⟨f, fd', F, hm, hb⟩ := F
  refine we (pe_meth0 smE T.cl hm F hr hb .nil pass0 ht) ?_
  refine ho σ B H E eb _ fun v B1 H1 s1 z1 => ?_
  obtain ⟨a, dx, fs, rfl, h1, h2, h3⟩ := z1.ins_inv
  refine ⟨a, dx, fs, rfl, s1.bh _ _ h1, look_none_fs h3 hl, ?_⟩
  exact ⟨B1, _, es, s1.bh, .cons z1 .nil, h, fun p xs B3 H3 n3 s3 hp3 z3 => q p xs B3 H3 (ex_h0 s1 n3) (s1.trans s3) hp3 z3⟩
theorem pft_meth0 {R : List PyData → List PyData → Prop} (T : Tx X.w X.K X.mg) (F : KnM X.prog X.w X.K X.mg X.base m k ps (spT X.K R)) (hr : Room k X.A) (ho : PD X o env (encI (HA X.K) fd)) (h : R [encI (HA X.K) fd] es) (hl : fd.lookup m = none := by rfl)
    (ht : eval (.Call (.Attribute o m apos) [] [] pos) X.env = (do
      let ov ← eval o X.env
      standAt apos.atName
      let (f, first) ← holding [ov] (getMethod ov m pl)
      callWith pos f first (backTo pos (starEach [] X.env)) (backToKw pos (keywordEach [] X.env))) := by rfl) : PFt X (.Call (.Attribute o m apos) [] [] pos) env es := fun σ B H E eb Tb Q q => by
  obtain ⟨f, fd', F, hm, hb⟩ := F
  refine we (pe_meth0 smE T.cl hm F hr hb .nil pass0 ht) ?_
  refine ho σ B H E eb _ fun v B1 H1 s1 z1 => ?_
  obtain ⟨a, dx, fs, rfl, h1, h2, h3⟩ := z1.ins_inv
  refine ⟨a, dx, fs, rfl, s1.bh _ _ h1, look_none_fs h3 hl, ?_⟩
  exact ⟨B1, _, es, s1.bh, .cons z1 .nil, Tb.stp s1, h, fun p xs B3 H3 n3 s3 hp3 z3 => q p xs B3 H3 (ex_h0 s1 n3) (s1.trans s3) hp3 z3⟩
end
end JH
set_option Elab.async false
set_option linter.all false
set_option maxRecDepth 100000
set_option maxHeartbeats 4000000
namespace JH
open PySem PySem.Spec L2
open Evl (Ex Ex.refl Ex.trans Ex.new Ex.mut)
local macro_rules | `(tactic| trivial) => `(tactic| repeat (first | exact Sub.nil | refine Sub.keep ?_ | refine Sub.drop ?_))
/-- the hall's state -/
structure HS where
  T : List Tr
  t : Tbl
  W : List (Option (Nat × Nat))
  ev : List Ent
abbrev hallFd (C : Ct) (h : HS) : List (Str × PyData) := [("contest", encC C), ("offered", encTs h.T), ("table", encTab h.t), ("works", .list (h.W.map encWo)), ("events", .list (h.ev.map encE))]
abbrev hallD (K : PySem.W.Frag) (C : Ct) (h : HS) : PyData := encI (HA K) (hallFd C h)
structure HOk (C : Ct) (h : HS) : Prop where
  v : Cv C
  tv : Tv C h.T
  vv : Vv C h.T h.t
  wl : h.W.length ≤ 5
  wk : ∀ p, some p ∈ h.W → Kv C h.T p
  el : h.ev.length ≤ 1000
  ek : ∀ e ∈ h.ev, EntOk e
theorem HOk.rv {C : Ct} {h : HS} (o : HOk C h) : Rv C h.T := ⟨o.v, o.tv⟩
def freeOf (C : Ct) (h : HS) : List (Nat × Nat) := (allOpen C h.T h.t).filter fun p => !decide (some p ∈ h.W)
def vds (t : Tbl) : Tbl := (sortK t).map fun k => (k, (look t k.1 k.2).getD false)
theorem sortK_perm (t : Tbl) : (sortK t).Perm (t.map (·.1)) := List.mergeSort_perm _ _
theorem sortK_look {t : Tbl} {k : Nat × Nat} (h : k ∈ sortK t) : look t k.1 k.2 = some ((look t k.1 k.2).getD false) := by
  have h1 := (sortK_perm t).mem_iff.mp h
  cases q : look t k.1 k.2 with
  | none => exact absurd h1 (look_none.mp q)
  | some b => rfl
def hadF (p : Option (Nat × Nat) × Nat) : PyData := .tuple (nI p.2 :: match p.1 with | some q => [nI q.1, nI q.2] | none => [])
def hadOf (W : List (Option (Nat × Nat))) : List PyData := (W.zipIdx.filter fun p => p.1.isSome).map hadF
theorem isN_Wo (o : Option (Nat × Nat)) : (!isN (encWo o)) = o.isSome := by cases o <;> rfl
theorem ntA_Wos (l : List (Option (Nat × Nat))) : ntA (l.map encWo) = true := ntA_map nt_Wo l
theorem allOpen_len {C : Ct} {Ts : List Tr} (v : Rv C Ts) (t : Tbl) : (allOpen C Ts t).length ≤ 4000 := by
  have h1 := allTo_len v t (k := Ts.length) (Nat.le_refl _)
  have h2 := v.tv.len
  have e : allOpen C Ts t = allTo C Ts t Ts.length := rfl
  rw [e]
  omega
section
variable {P : Program} {w : World} {K : PySem.W.Frag} {mg : Str → Option Value} {base : Heap}
def R_need_judge (ds : List PyData) (d : PyData) : Prop := ∃ (a : Addr) (C : Ct) (h : HS) (j : Nat), j < h.W.length ∧ ds = [encI a (hallFd C h), nI j] ∧ d = .none
theorem ok_h_need_judge (T : Tx w K mg) : KnM P w K mg base "need_judge" 2 ["self", "judge"] (spF fun ds d => ∃ (C : Ct) (h : HS) (j : Nat), j < h.W.length ∧ ds = [hallD K C h, nI j] ∧ d = .none) := by
  obtain ⟨fd, F⟩ := T.d_h_need_judge
  refine fm_F F sc_h_need_judge T.m_h_need_judge b_h_need_judge (fun ds d ⟨_, _, _, _, e, _⟩ => by rw [e]; rfl) (by decide) ?_
  rintro cdv A outer s H0 E B0 ds d vs Q hr ⟨C, h, j, hj, rfl, rfl⟩ S hQ
  exact s_if0 S (PQ.tv (PQ.to (pq_not (pq_val (pd_btw T hr (pd_var 1 rfl) pd_int (pd_bin rd_sub (pd_blt cd_lenL T.f_len bb_len (pds_cons (pd_fld T (d := .list (h.W.map encWo)) (pd_var 0 rfl) rfl T.n_works) pds_nil)) pd_int)))) (by simp; omega))) fun H' S => s_end S hQ
theorem ok_h_free (T : Tx w K mg) : KnM P w K mg base "free" 7 ["self"] (spL fun ds es => ∃ (C : Ct) (h : HS), HOk C h ∧ ds = [hallD K C h] ∧ es = (freeOf C h).map encW) := by
  obtain ⟨fd, F⟩ := T.d_h_free
  refine fm_L F sc_h_free T.m_h_free b_h_free (fun ds d ⟨_, _, _, e, _⟩ => by rw [e]; rfl) (by decide) ?_
  rintro cdv A outer s H0 E B0 ds es vs Q hr ⟨C, h, ok, rfl, rfl⟩ S hQ
  have hal := allOpen_len ok.rv h.t
  refine s_retF S (pf_lc (items := allOpen C h.T h.t) (enc := encW) (cond := fun p => !decide (some p ∈ h.W)) (f := encW) (own := [("work", 1)]) (blkOk_by (N := N_h_free) (sc := defScope s_h_free) (by decide +kernel))
    ⟨_, _, wi_list (PF.pd (pf_fn (ok_all_open T) hr (pds_cons (pd_fld T (pd_var 0 rfl) rfl T.n_contest) (pds_cons (pd_fld T (pd_var 0 rfl) rfl T.n_offered) (pds_cons (pd_fld T (pd_var 0 rfl) rfl T.n_table) pds_nil))) ⟨C, h.T, h.t, ok.rv, rfl, rfl⟩)), by decide, by omega, fun p hp s H C' cl fp =>
      ⟨pg_nm 1 sc_h_free.nd, pqs_1 (PQ.to (pq_cmp (rd_notInD (d1 := encW p) (ds := h.W.map encWo) (rm65 hr) (nt_W p) (ntA_Wos _) (shaped_W p) (shaped_Wos _)) (pd_var 1 rfl) (pd_fld T (pd_var 0 rfl) rfl T.n_works)) (by rw [any_Wo])), fun _ => pd_var 1 rfl⟩⟩ rfl sc_h_free.nd) hQ
theorem ok_h_tries (T : Tx w K mg) : KnM P w K mg base "tries" 1 ["self"] (spL fun ds es => ∃ (C : Ct) (h : HS), ds = [hallD K C h] ∧ es = h.T.map encTr) := by
  obtain ⟨fd, F⟩ := T.d_h_tries
  refine fm_L F sc_h_tries T.m_h_tries b_h_tries (fun ds d ⟨_, _, e, _⟩ => by rw [e]; rfl) (by decide) ?_
  rintro cdv A outer s H0 E B0 ds es vs Q hr ⟨C, h, rfl, rfl⟩ S hQ
  exact s_retF S (pf_ty cf_lstL T.f_list bt_list (pds_cons (pd_fld T (d := encTs h.T) (pd_var 0 rfl) rfl T.n_offered) pds_nil)) hQ
theorem ok_h_log (T : Tx w K mg) : KnM P w K mg base "log" 1 ["self"] (spL fun ds es => ∃ (C : Ct) (h : HS), ds = [hallD K C h] ∧ es = h.ev.map encE) := by
  obtain ⟨fd, F⟩ := T.d_h_log
  refine fm_L F sc_h_log T.m_h_log b_h_log (fun ds d ⟨_, _, e, _⟩ => by rw [e]; rfl) (by decide) ?_
  rintro cdv A outer s H0 E B0 ds es vs Q hr ⟨C, h, rfl, rfl⟩ S hQ
  exact s_retF S (pf_ty cf_lstL T.f_list bt_list (pds_cons (pd_fld T (d := .list (h.ev.map encE)) (pd_var 0 rfl) rfl T.n_events) pds_nil)) hQ
theorem sortK_len (t : Tbl) : (sortK t).length = t.length := by rw [(sortK_perm t).length_eq, List.length_map]
theorem ok_h_verdicts (T : Tx w K mg) : KnM P w K mg base "verdicts" 1 ["self"] (spL fun ds es => ∃ (C : Ct) (h : HS), h.t.length < 100000 ∧ ds = [hallD K C h] ∧ es = (vds h.t).map encV) := by
  obtain ⟨fd, F⟩ := T.d_h_verdicts
  refine fm_L F sc_h_verdicts T.m_h_verdicts b_h_verdicts (fun ds d ⟨_, _, _, e, _⟩ => by rw [e]; rfl) (by decide) ?_
  rintro cdv A outer s H0 E B0 ds es vs Q hr ⟨C, h, hl, rfl, rfl⟩ S hQ
  have hsl := sortK_len h.t
  refine s_retF S (PF.to (pf_lc (items := sortK h.t) (enc := encW) (cond := fun _ => true) (f := fun k => encV (k, (look h.t k.1 k.2).getD false)) (own := [("key", 1)]) (blkOk_by (N := N_h_verdicts) (sc := defScope s_h_verdicts) (by decide +kernel))
    ⟨_, _, wi_list (PF.pd (pf_blt (cf_sortT rfl (rm65 hr)) T.f_sorted bb_sorted (pds_cons (pd_fld T (d := encTab h.t) (pd_var 0 rfl) rfl T.n_table) pds_nil))), by decide, by omega, fun k hk s H C' cl fp =>
      ⟨pg_nm 1 sc_h_verdicts.nd, pqs_0, fun _ => pd_bin (rd_catT (ds := [nI k.1, nI k.2]) (es := [.bool ((look h.t k.1 k.2).getD false)]) (by simp)) (pd_var 1 rfl) (pd_tup (pds_cons (pd_itemT (n := k.1) (k := k.2) (rm1 hr) (pd_fld T (d := encTab h.t) (pd_var 0 rfl) rfl T.n_table) (pd_var 1 rfl) (sortK_look hk)) pds_nil))⟩⟩ rfl sc_h_verdicts.nd) ?_) hQ
  rw [fil_true]
  unfold vds
  rw [List.map_map]
  rfl
theorem ok_h_had (T : Tx w K mg) : KnM P w K mg base "had" 1 ["self"] (spL fun ds es => ∃ (C : Ct) (h : HS), h.W.length ≤ 5 ∧ ds = [hallD K C h] ∧ es = hadOf h.W) := by
  obtain ⟨fd, F⟩ := T.d_h_had
  refine fm_L F sc_h_had T.m_h_had b_h_had (fun ds d ⟨_, _, _, e, _⟩ => by rw [e]; rfl) (by decide) ?_
  rintro cdv A outer s H0 E B0 ds es vs Q hr ⟨C, h, hl, rfl, rfl⟩ S hQ
  refine s_retF S (pf_lc (items := h.W.zipIdx) (enc := fun p => .tuple [nI p.2, encWo p.1]) (cond := fun p => p.1.isSome) (f := hadF) (own := [("judge", 1), ("work", 2)]) (blkOk_by (N := N_h_had) (sc := defScope s_h_had) (by decide +kernel))
    ⟨_, _, WIt.to (wi_enum (ds := h.W.map encWo) (pd_fld T (pd_var 0 rfl) rfl T.n_works) T.f_enumerate) (enumD_map _ _), by decide, by simp; omega, fun p hp s H C' cl fp =>
      ⟨pg_tp rfl (pgs_1 (pg_nm 1 sc_h_had.nd) (pgs_1 (pg_nm 2 sc_h_had.nd) pgs_0)), pqs_1 (PQ.to (pq_cmp rd_notN (pd_var 2 rfl) pd_non) (isN_Wo _)), fun hc => ?_⟩⟩ rfl sc_h_had.nd) hQ
  obtain ⟨o, i⟩ := p
  cases o with
  | none => cases hc
  | some q => exact pd_bin (rd_catT (ds := [nI i]) (es := [nI q.1, nI q.2]) (by simp)) (pd_tup (pds_cons (pd_var 1 rfl) pds_nil)) (pd_var 2 rfl)
theorem ok_h_standings (T : Tx w K mg) (TB : LamX.TabB base mg (cdA K) (tbA K)) : KnM P w K mg base "standings" 7 ["self"] (spT K fun ds es => ∃ (C : Ct) (h : HS), HOk C h ∧ ds = [hallD K C h] ∧ es = (allPlaced C h.T h.t).map encRow) := by
  obtain ⟨fd, F⟩ := T.d_h_standings
  refine fm_T F sc_h_standings T.m_h_standings b_h_standings (fun ds d ⟨_, _, _, e, _⟩ => by rw [e]; rfl) (by decide) ?_
  rintro cdv A outer s H0 E B0 ds es vs Q hr ⟨C, h, ok, rfl, rfl⟩ Tb S hQ
  exact s_retT Tb S (pft_fn (ok_all_placed T TB) hr (PDs.t (pds_cons (pd_fld T (pd_var 0 rfl) rfl T.n_contest) (pds_cons (pd_fld T (pd_var 0 rfl) rfl T.n_offered) (pds_cons (pd_fld T (pd_var 0 rfl) rfl T.n_table) pds_nil)))) ⟨C, h.T, h.t, ok.rv, rfl, rfl⟩) hQ
theorem ok_h_board (T : Tx w K mg) (TB : LamX.TabB base mg (cdA K) (tbA K)) : KnM P w K mg base "board" 7 ["self"] (spT K fun ds es => ∃ (C : Ct) (h : HS), HOk C h ∧ ds = [hallD K C h] ∧ es = (rowsOf C h.T h.t (frozenU C)).map encB) := by
  obtain ⟨fd, F⟩ := T.d_h_board
  refine fm_T F sc_h_board T.m_h_board b_h_board (fun ds d ⟨_, _, _, e, _⟩ => by rw [e]; rfl) (by decide) ?_
  rintro cdv A outer s H0 E B0 ds es vs Q hr ⟨C, h, ok, rfl, rfl⟩ Tb S hQ
  exact s_retT Tb S (pft_fn (ok_rows_of T TB) hr (PDs.t (pds_cons (pd_fld T (pd_var 0 rfl) rfl T.n_contest) (pds_cons (pd_fld T (pd_var 0 rfl) rfl T.n_offered) (pds_cons (pd_fld T (pd_var 0 rfl) rfl T.n_table) (pds_cons (PF.pd (pf_fn (ok_frozen_untils T) (hr.mono (by decide)) (pds_cons (pd_fld T (pd_var 0 rfl) rfl T.n_contest) pds_nil) ⟨C, ok.v, rfl, rfl⟩)) pds_nil)))))
    ⟨C, h.T, h.t, frozenU C, ok.rv, frozen_ok ok.v, rfl, rfl⟩) hQ
end
end JH
set_option Elab.async false
set_option linter.all false
set_option maxRecDepth 100000
set_option maxHeartbeats 4000000
namespace JH
open PySem PySem.Spec L2
open Evl (Ex Ex.refl Ex.trans Ex.new Ex.mut)
local macro_rules | `(tactic| trivial) => `(tactic| repeat (first | exact Sub.nil | refine Sub.keep ?_ | refine Sub.drop ?_))
abbrev lawFd (K : PySem.W.Frag) (C : Ct) (h g : HS) : List (Str × PyData) := [("hall", hallD K C g), ("contest", encC C), ("tries", encTs h.T), ("known", encTab h.t), ("had", .list (h.W.map encWo)), ("log", .list (h.ev.map encE))]
abbrev lawD (K : PySem.W.Frag) (C : Ct) (h g : HS) : PyData := encS (lawFd K C h g)
theorem w_get {W : List (Option (Nat × Nat))} {k : Nat} (h : k < W.length) : (W.map encWo)[k]? = some (encWo (W.getD k none)) := by
  rw [List.getElem?_map, List.getD_eq_getElem?_getD, List.getElem?_eq_getElem h]
  rfl
theorem had_range (W : List (Option (Nat × Nat))) : ((List.range W.length).filter fun j => (W.getD j none).isSome).map (fun j => hadF (W.getD j none, j)) = hadOf W := by
  have e : W.zipIdx = (List.range W.length).map fun j => (W.getD j none, j) := by
    apply List.ext_getElem?
    intro i
    rw [List.getElem?_zipIdx, List.getElem?_map]
    by_cases hi : i < W.length
    · rw [List.getElem?_range hi, List.getElem?_eq_getElem hi]
      show some (W[i], 0 + i) = some (W.getD i none, i)
      rw [List.getD_eq_getElem?_getD, List.getElem?_eq_getElem hi, Nat.zero_add]
      rfl
    · rw [List.getElem?_eq_none (by omega), List.getElem?_eq_none (by simp; omega)]
      rfl
  unfold hadOf
  rw [e, List.filter_map, List.map_map]
  rfl
theorem pl_W {n : Nat} {l : List PyData} (h : ∀ d ∈ l, Pl n d) (hl : l.length ≤ 100000) : Pl (n + 1) (.list l) := ⟨hl, h⟩
theorem pl_T {n : Nat} {l : List PyData} (h : ∀ d ∈ l, Pl n d) (hl : l.length ≤ 100000) : Pl (n + 1) (.tuple l) := ⟨hl, h⟩
theorem pl_nI (n m : Nat) : Pl n (nI m) := by cases n <;> exact trivial
theorem pl_all4 {n : Nat} {a b c d : PyData} (h1 : Pl n a) (h2 : Pl n b) (h3 : Pl n c) (h4 : Pl n d) : ∀ x ∈ [a, b, c, d], Pl n x := fun x hx => by
  rcases List.mem_cons.mp hx with rfl | hx
  · exact h1
  rcases List.mem_cons.mp hx with rfl | hx
  · exact h2
  rcases List.mem_cons.mp hx with rfl | hx
  · exact h3
  rw [List.mem_singleton.mp hx]
  exact h4
theorem pl_all3 {n : Nat} {a b c : PyData} (h1 : Pl n a) (h2 : Pl n b) (h3 : Pl n c) : ∀ x ∈ [a, b, c], Pl n x := fun x hx => by
  rcases List.mem_cons.mp hx with rfl | hx
  · exact h1
  rcases List.mem_cons.mp hx with rfl | hx
  · exact h2
  rw [List.mem_singleton.mp hx]
  exact h3
theorem pl_all2 {n : Nat} {a b : PyData} (h1 : Pl n a) (h2 : Pl n b) : ∀ x ∈ [a, b], Pl n x := fun x hx => by
  rcases List.mem_cons.mp hx with rfl | hx
  · exact h1
  rw [List.mem_singleton.mp hx]
  exact h2
theorem pl_bool (n : Nat) (b : Bool) : Pl n (.bool b) := by cases n <;> exact trivial
theorem pl_str (n : Nat) (x : Str) : Pl n (.str x) := by cases n <;> exact trivial
theorem pl_encTr (x : Tr) : Pl 1 (encTr x) := pl_T (pl_all3 (pl_nI _ _) (pl_nI _ _) (pl_nI _ _)) (by simp)
theorem pl_encV (p : (Nat × Nat) × Bool) : Pl 1 (encV p) := pl_T (pl_all3 (pl_nI _ _) (pl_nI _ _) (pl_bool _ _)) (by simp)
theorem pl_encW (p : Nat × Nat) : Pl 1 (encW p) := pl_T (pl_all2 (pl_nI _ _) (pl_nI _ _)) (by simp)
theorem pl_encE (e : Ent) : Pl 1 (encE e) := by
  cases e with
  | offer x => exact pl_T (pl_all4 (pl_str _ _) (pl_nI _ _) (pl_nI _ _) (pl_nI _ _)) (by simp)
  | take j p => exact pl_T (pl_all4 (pl_str _ _) (pl_nI _ _) (pl_nI _ _) (pl_nI _ _)) (by simp)
  | tell j b => exact pl_T (pl_all3 (pl_str _ _) (pl_nI _ _) (pl_bool _ _)) (by simp)
  | fall j => exact pl_T (pl_all2 (pl_str _ _) (pl_nI _ _)) (by simp)
  | mend k r => exact pl_T (pl_all3 (pl_str _ _) (pl_nI _ _) (pl_nI _ _)) (by simp)
theorem pl_hadF (p : Option (Nat × Nat) × Nat) : Pl 1 (hadF p) := by
  obtain ⟨o, i⟩ := p
  cases o with
  | none => exact pl_T (fun x hx => by rw [List.mem_singleton.mp hx]; exact pl_nI _ _) (by simp)
  | some q => exact pl_T (pl_all3 (pl_nI _ _) (pl_nI _ _) (pl_nI _ _)) (by simp)
theorem pl_map {α : Type} {n : Nat} {f : α → PyData} (h : ∀ a, Pl n (f a)) {l : List α} (hl : l.length ≤ 100000) : Pl (n + 1) (.list (l.map f)) := pl_W (fun d hd => by
  obtain ⟨a, _, rfl⟩ := List.mem_map.mp hd
  exact h a) (by rw [List.length_map]; exact hl)
def standD (h : HS) : PyData := .list [encTs h.T, .list ((vds h.t).map encV), .list (hadOf h.W), .list (h.ev.map encE)]
theorem vds_len (t : Tbl) : (vds t).length = t.length := by unfold vds; rw [List.length_map, sortK_len]
theorem stand_pl {C : Ct} {h : HS} (o : HOk C h) : Pl 3 (standD h) := by
  have h1 := o.tv.len
  have h2 := o.vv.len
  have h3 := o.wl
  have h4 := o.el
  refine pl_W (pl_all4 (pl_map pl_encTr (by omega)) (pl_map pl_encV (by rw [vds_len]; omega)) (pl_map pl_hadF ?_) (pl_map pl_encE (by omega))) (by simp)
  exact Nat.le_trans (List.length_filter_le _ _) (by simp; omega)
section
variable {P : Program} {w : World} {K : PySem.W.Frag} {mg : Str → Option Value} {base : Heap}
theorem ok_law_known (T : Tx w K mg) : Kn P w K mg base "_law_known" 1 ["_law_s"] (spL fun ds es => ∃ (C : Ct) (h g : HS), h.t.length < 100000 ∧ ds = [lawD K C h g] ∧ es = (vds h.t).map encV) := by
  obtain ⟨fd, F⟩ := T.d_law_known
  refine fn_L F sc_law_known T.g_law_known b_law_known (fun ds d ⟨_, _, _, _, e, _⟩ => by rw [e]; rfl) (by decide) ?_
  rintro cdv A outer s H0 E B0 ds es vs Q hr ⟨C, h, g, hl, rfl, rfl⟩ S hQ
  have hsl := sortK_len h.t
  refine s_retF S (PF.to (pf_lc (items := sortK h.t) (enc := encW) (cond := fun _ => true) (f := fun k => encV (k, (look h.t k.1 k.2).getD false)) (own := [("_law_spot", 1)]) (blkOk_by (N := N_law_known) (sc := defScope s_law_known) (by decide +kernel))
    ⟨_, _, wi_list (PF.pd (pf_blt (cf_sortT rfl (rm65 hr)) T.f_sorted bb_sorted (pds_cons (pd_dk (d := encTab h.t) (rm1 hr) (pd_var 0 rfl) rfl) pds_nil))), by decide, by omega, fun k hk s H C' cl fp =>
      ⟨pg_nm 1 sc_law_known.nd, pqs_0, fun _ => pd_bin (rd_catT (ds := [nI k.1, nI k.2]) (es := [.bool ((look h.t k.1 k.2).getD false)]) (by simp)) (pd_var 1 rfl) (pd_tup (pds_cons (pd_itemT (n := k.1) (k := k.2) (rm1 hr) (pd_dk (d := encTab h.t) (rm1 hr) (pd_var 0 rfl) rfl) (pd_var 1 rfl) (sortK_look hk)) pds_nil))⟩⟩ rfl sc_law_known.nd) ?_) hQ
  rw [fil_true]
  unfold vds
  rw [List.map_map]
  rfl
theorem ok_law_stands (T : Tx w K mg) : Kn P w K mg base "_law_stands" 5 ["_law_s"] (spF fun ds d => ∃ (C : Ct) (h : HS), HOk C h ∧ ds = [lawD K C h h] ∧ d = .bool true) := by
  obtain ⟨fd, F⟩ := T.d_law_stands
  refine fn_F F sc_law_stands T.g_law_stands b_law_stands (fun ds d ⟨_, _, _, e, _⟩ => by rw [e]; rfl) (by decide) ?_
  rintro cdv A outer s H0 E B0 ds d vs Q hr ⟨C, h, ok, rfl, rfl⟩ S hQ
  have h3 := ok.wl
  have h2 := ok.vv.len
  refine s_set 1 S (d := hallD K C h) (PD.ev (pd_dk (rm1 hr) (pd_var 0 rfl) rfl)) (fun σ H' S => ?_) sc_law_stands.nd
  refine s_setC 2 S (items := List.range h.W.length) (enc := nI) (cond := fun j => (h.W.getD j none).isSome) (f := fun j => hadF (h.W.getD j none, j)) (cown := [("_law_judge", 4)]) (blkOk_by (N := N_law_stands) (sc := defScope s_law_stands) (by decide +kernel))
    ⟨_, _, WIt.to (wi_rng (n := h.W.length) (PD.to (pd_blt cd_lenL T.f_len bb_len (pds_cons (pd_dk (d := .list (h.W.map encWo)) (rm1 hr) (pd_var 0 rfl) rfl) pds_nil)) (by rw [List.length_map])) (by omega) T.f_range) (rngD0 _), by decide, by simp; omega, fun j hj s H C' cl fp =>
      ⟨pg_nm 4 sc_law_stands.nd, pqs_1 (PQ.to (pq_cmp rd_notN (pd_ixL (n := j) (pd_dk (d := .list (h.W.map encWo)) (rm1 hr) (pd_var 0 rfl) rfl) (pd_var 4 rfl) (w_get (List.mem_range.mp hj))) pd_non) (isN_Wo _)), fun hc => ?_⟩⟩ (fun σ H' S => ?_) rfl sc_law_stands.nd rfl
  · have e := w_get (List.mem_range.mp hj)
    have hc : (h.W.getD j none).isSome = true := hc
    obtain ⟨q, hq⟩ := Option.isSome_iff_exists.mp hc
    show PD _ _ _ (hadF (h.W.getD j none, j))
    rw [hq] at e ⊢
    exact pd_bin (rd_catT (ds := [nI j]) (es := [nI q.1, nI q.2]) (by simp)) (pd_tup (pds_cons (pd_var 4 rfl) pds_nil)) (pd_ixL (n := j) (d := .tuple [nI q.1, nI q.2]) (pd_dk (d := .list (h.W.map encWo)) (rm1 hr) (pd_var 0 rfl) rfl) (pd_var 4 rfl) e)
  · rw [had_range] at S
    refine s_set 3 S (d := standD h) (PD.ev (PF.pd (pf_lst (pds_cons (PF.pd (pf_meth0 T (ok_h_tries T) (hr.mono (by decide)) (pd_var 1 rfl) ⟨C, h, rfl, rfl⟩)) (pds_cons (PF.pd (pf_meth0 T (ok_h_verdicts T) (hr.mono (by decide)) (pd_var 1 rfl) ⟨C, h, h2, rfl, rfl⟩))
      (pds_cons (PF.pd (pf_meth0 T (ok_h_had T) (hr.mono (by decide)) (pd_var 1 rfl) ⟨C, h, h3, rfl, rfl⟩)) (pds_cons (PF.pd (pf_meth0 T (ok_h_log T) (hr.mono (by decide)) (pd_var 1 rfl) ⟨C, h, rfl, rfl⟩)) pds_nil))))))) (fun σ H' S => ?_) sc_law_stands.nd
    exact s_ret S (PD.ev (pd_fn (ok_law_alike T 3) hr (pds_cons (pd_var 3 rfl) (pds_cons (PF.pd (pf_lst (pds_cons (pd_dk (d := encTs h.T) (rm1 hr) (pd_var 0 rfl) rfl) (pds_cons (PF.pd (pf_fn (ok_law_known T) (hr.mono (by decide)) (pds_cons (pd_var 0 rfl) pds_nil) ⟨C, h, h, h2, rfl, rfl⟩))
      (pds_cons (pd_var 2 rfl) (pds_cons (pd_dk (d := .list (h.ev.map encE)) (rm1 hr) (pd_var 0 rfl) rfl) pds_nil)))))) pds_nil)) ⟨standD h, stand_pl ok, rfl, rfl⟩)) hQ
end
end JH
set_option Elab.async false
set_option linter.all false
set_option maxRecDepth 100000
set_option maxHeartbeats 4000000
/-! expressions and defs that change objects of one's own -/
namespace JH
open PySem PySem.Spec L2
open Evl (Ex Ex.refl Ex.trans Ex.new Ex.mut)
theorem Arg.at_.ex {B B' : Hp} {v : V} {a : Arg} (h : a.at_ B v) (e : Ex B B') : a.at_ B' v := h.imp fun _ _ z => z.ex e
def ArgsAt (B : Hp) : List V → List Arg → Prop := Paired fun v a => a.at_ B v
theorem ArgsAt.ex {B B' : Hp} {vs : List V} {as : List Arg} (h : ArgsAt B vs as) (e : Ex B B') : ArgsAt B' vs as := Paired.mapP h fun _ _ z => z.ex e
theorem ArgsAt.len {B : Hp} {vs : List V} {as : List Arg} (h : ArgsAt B vs as) : vs.length = as.length := Paired.length h
theorem ArgsAt.get {B : Hp} : ∀ {vs : List V} {as : List Arg} {i : Nat} {a : Arg}, ArgsAt B vs as → as[i]? = some a → ∃ v, vs[i]? = some v ∧ a.at_ B v
  | _, _, _, _, .nil, e => by simp at e
  | _, _, 0, _, .cons h _, e => by simp at e; subst e; exact ⟨_, rfl, h⟩
  | _, _, i + 1, a, .cons _ t, e => by
    obtain ⟨v, h1, h2⟩ := ArgsAt.get (i := i) (a := a) t (by simpa using e)
    exact ⟨v, by simpa using h1, h2⟩
theorem ArgsAt.dats {B : Hp} : ∀ {vs : List V} {ds : List PyData}, ArgsAt B vs (ds.map Arg.dat) → DzAll B vs ds
  | _, [], h => by cases h; exact .nil
  | _, d :: ds, h => by
    rw [List.map_cons] at h
    cases h with
    | cons h t => exact .cons h (ArgsAt.dats t)
def OwnAt (B H : Hp) (own : Own) : Prop := (∀ p ∈ own, B p.2.1 = none ∧ OC.at_ B H p.2.1 p.2.2) ∧ (own.map (·.2.1)).Nodup
def rms (H : Hp) (own : Own) : Hp := fun a => if a ∈ own.map (·.2.1) then none else H a
theorem rms_in {H : Hp} {own : Own} {a : Addr} (h : a ∈ own.map (·.2.1)) : rms H own a = none := if_pos h
theorem rms_out {H : Hp} {own : Own} {a : Addr} (h : a ∉ own.map (·.2.1)) : rms H own a = H a := if_neg h
theorem rms_ex {H : Hp} {own : Own} : Ex (rms H own) H := fun a o e => by
  by_cases h : a ∈ own.map (·.2.1)
  · rw [rms_in h] at e
    cases e
  · rw [rms_out h] at e
    exact e
theorem rms_none {H : Hp} {own : Own} {a : Addr} (h : rms H own a = none) : a ∈ own.map (·.2.1) ∨ H a = none := by
  by_cases q : a ∈ own.map (·.2.1)
  · exact .inl q
  · rw [rms_out q] at h
    exact .inr h
abbrev Post := Arg → Own → Prop
abbrev SR := List Arg → Own → Post → Prop
def spO (R : SR) : Sp := fun vs H Q _ => ∃ B own as Po, Ex B H ∧ OwnAt B H own ∧ ArgsAt B vs as ∧ (∀ p ∈ own, p.1 < 1000 → as[p.1]? = some (.ref (.ref p.2.1))) ∧ R as own Po ∧
  ∀ v r own' B1 H1, Po r own' → Stp B (rms H own) B1 H1 → OwnAt B1 H1 own' → (∀ p ∈ own', rms H own p.2.1 = none) → r.at_ B1 v → Q v H1
def StaA (B0 H0 : Hp) (env : Ev) (own : Own) (σ : L2.St) (H : Hp) (v : V) (r : Arg) : Prop := ∃ B, Stp B0 H0 B H ∧ En σ B env ∧ OwnOk B0 H0 B H own σ ∧ r.at_ B v
section
variable (X : Cx)
/-- an expression that may change what is one's own; fr: what stands besides -/
def EO (env : Ev) (own : Own) (e : Expr) (Po : Post) : Prop := ∀ (B0 H0 : Hp) (fr : Own) (σ : L2.St) (H : Hp), Sta B0 H0 env (own ++ fr) σ H → ∀ Q : VK, (∀ v r own' H1, Po r own' → StaA B0 H0 env (own' ++ fr) σ H1 v r → Q v H1) → WE X e σ H Q
def AO (env : Ev) (own : Own) (es : List Expr) (Po : List Arg → Own → Prop) : Prop := ∀ (B0 H0 : Hp) (fr : Own) (σ : L2.St) (H : Hp), Sta B0 H0 env (own ++ fr) σ H → ∀ Q : List V → Hp → Prop,
  (∀ vs as own' H1, Po as own' → (∃ B, Stp B0 H0 B H1 ∧ En σ B env ∧ OwnOk B0 H0 B H1 (own' ++ fr) σ ∧ ArgsAt B vs as) → Q vs H1) → WA X es σ H Q
def TO (env : Ev) (own : Own) (e : Expr) (Po : Bool → Own → Prop) : Prop := ∀ (B0 H0 : Hp) (fr : Own) (σ : L2.St) (H : Hp), Sta B0 H0 env (own ++ fr) σ H → ∀ Q : Bool → Hp → Prop, (∀ b own' H1, Po b own' → Sta B0 H0 env (own' ++ fr) σ H1 → Q b H1) → WT X e σ H Q
/-- an expression that is an object of one's own -/
def RV (env : Ev) (own : Own) (e : Expr) (l : Addr) : Prop := ∀ (B0 H0 : Hp) (fr : Own) (σ : L2.St) (H : Hp), Sta B0 H0 env (own ++ fr) σ H → ∀ Q : VK, Q (.ref l) H → WE X e σ H Q
end
section
variable {X : Cx} {env : Ev} {own own' : Own} {d d1 d2 : PyData} {ds : List PyData} {a b e : Expr} {es : List Expr} {Po Po' Pa : Post} {pos p1 : Pos} {x f : Str} {l : Addr} {i : Nat} {c : OC}
theorem EO.imp (h : EO X env own e Po) (k : ∀ r o, Po r o → Po' r o) : EO X env own e Po' := fun B0 H0 fr σ H S Q q => h B0 H0 fr σ H S Q fun v r o H1 p S1 => q v r o H1 (k r o p) S1
theorem eo_pd (h : PD X e env d) : EO X env own e (fun r o => r = .dat d ∧ o = own) := fun B0 H0 fr σ H ⟨B, s, E, o⟩ Q q => h σ B H E s.bh Q fun v B1 H1 s1 z1 => q v (.dat d) own H1 ⟨rfl, rfl⟩ ⟨B1, s.trans s1, E.ex s1.bb, o.stp s1, z1⟩
theorem RV.eo (h : RV X env own e l) : EO X env own e (fun r o => r = .ref (.ref l) ∧ o = own) := fun B0 H0 fr σ H S Q q => h B0 H0 fr σ H S Q (q _ _ own H ⟨rfl, rfl⟩ (let ⟨B, s, E, o⟩ := S; ⟨B, s, E, o, rfl⟩))
theorem rv_var (hm : (i, l, c) ∈ own) (hi0 : i < 1000 := by decide) (hN : X.N[i]? = some x := by rfl) (hv : Vis X.env.scope x := by first | exact Or.inl rfl | exact Or.inr (Or.inl rfl) | exact Or.inr (Or.inr rfl)) (hd : (x == ("__debug__" : Str)) = false := by decide) (hcd : (x == ("__classdict__" : Str)) = false := by decide) :
    RV X env own (.Name x pos) l := fun B0 H0 fr σ H ⟨B, s, E, o⟩ Q q => we (pe_var hN hv hd hcd) ⟨_, (o.all _ (List.mem_append_left _ hm)).1 hi0, q⟩
theorem lookP {F : V → Arg → Prop} {f : Str} {r : Arg} : ∀ {vs : List (Str × V)} {fs : List (Str × Arg)}, Paired (fun p q => p.1 = q.1 ∧ F p.2 q.2) vs fs → fs.lookup f = some r → ∃ v, vs.lookup f = some v ∧ F v r
  | _, _, .nil, h => by cases h
  | _, _, .cons (a := (n, v)) (b := (n', r')) z t, h => by
    obtain ⟨e, z⟩ := z
    have e : n = n' := e
    subst e
    rw [List.lookup_cons] at h ⊢
    cases q : f == n with
    | true =>
      rw [q] at h
      cases h
      exact ⟨v, rfl, z⟩
    | false =>
      rw [q] at h
      exact lookP t h
theorem lookP0 {F : V → Arg → Prop} {f : Str} : ∀ {vs : List (Str × V)} {fs : List (Str × Arg)}, Paired (fun p q => p.1 = q.1 ∧ F p.2 q.2) vs fs → fs.lookup f = none → vs.lookup f = none
  | _, _, .nil, h => rfl
  | _, _, .cons (a := (n, v)) (b := (n', r')) z t, h => by
    obtain ⟨e, z⟩ := z
    have e : n = n' := e
    subst e
    rw [List.lookup_cons] at h ⊢
    cases q : f == n with
    | true =>
      rw [q] at h
      cases h
    | false =>
      rw [q] at h
      exact lookP0 t h
theorem lookK {F : V → Arg → Prop} {f : Str} {r : Arg} : ∀ {vs : List (Key × V)} {fs : List (Str × Arg)}, Paired (fun p q => p.1 = Sum.inr q.1 ∧ F p.2 q.2) vs fs → fs.lookup f = some r → ∃ v, valV vs (Sum.inr f) = some v ∧ F v r
  | _, _, .nil, h => by cases h
  | _, _, .cons (a := (n, v)) (b := (n', r')) z t, h => by
    obtain ⟨e, z⟩ := z
    have e : n = Sum.inr n' := e
    subst e
    rw [List.lookup_cons] at h
    by_cases q : f = n'
    · subst q
      rw [show (f == f) = true from beq_self_eq_true f] at h
      cases h
      exact ⟨v, valV_pos rfl, z⟩
    · rw [show (f == n') = false from beq_eq_false_iff_ne.mpr q] at h
      obtain ⟨u, h1, h2⟩ := lookK t h
      exact ⟨u, by rw [valV_neg (fun z => q (Sum.inr.inj z).symm)]; exact h1, h2⟩
/-- o.f, an object of one's own in a field -/
theorem rv_fld (T : Tx X.w X.K X.mg) {aa dx : Addr} {fs : List (Str × Arg)} (ho : RV X env own a aa) (hm : (i, aa, .ins (HA X.K) dx fs) ∈ own) (hl : fs.lookup f = some (.ref (.ref l))) (n : NoAttr X.K (HA X.K) f) (hb : attributeBase a f X.env (eval a X.env) = eval a X.env := by rfl) : RV X env own (.Attribute a f pos) l := fun B0 H0 fr σ H S Q q => by
  refine we (pe_fld smE hb) ?_
  refine ho B0 H0 fr σ H S _ ?_
  obtain ⟨B, s, E, o⟩ := S
  obtain ⟨_, _, _, vs, h1, h2⟩ := o.all _ (List.mem_append_left _ hm)
  obtain ⟨v, h3, h4⟩ := lookP h2 hl
  have h4 : v = .ref l := h4
  rw [h4] at h3
  exact ⟨aa, _, dx, vs, _, rfl, h1, T.cl, n, h3, q⟩
/-- s['k'], an object of one's own -/
theorem rv_dk (hu : X.A.units + 1 < cLine) {aa : Addr} {ks : List (Str × Arg)} {j : Nat} (ho : RV X env own a aa) (hm : (i, aa, .dk ks) ∈ own) (hl : ks.lookup f = some (.ref (.ref l))) : RV X env own (.Subscript a (.Constant (.str f) j p1) pos) l := fun B0 H0 fr σ H S Q q => by
  refine we (pe_dget hu smE smE (fun _ _ => rfl)) ?_
  refine ho B0 H0 fr σ H S _ ?_
  obtain ⟨B, s, E, o⟩ := S
  refine we pe_str ?_
  obtain ⟨_, _, _, vs, h1, h2⟩ := o.all _ (List.mem_append_left _ hm)
  obtain ⟨v, h3, h4⟩ := lookK h2 hl
  have h4 : v = .ref l := h4
  rw [h4] at h3
  refine ⟨aa, _, rfl, ?_, q⟩
  rw [← h3]
  exact DGet.k (k := Sum.inr f) h1
/-! arguments -/
theorem ao_nil : AO X env own [] (fun as o => as = [] ∧ o = own) := fun B0 H0 fr σ H ⟨B, s, E, o⟩ Q q => wa pa_nil (q [] [] own H ⟨rfl, rfl⟩ ⟨B, s, E, o, .nil⟩)
theorem ao_cons {Pb : Arg → List Arg → Own → Prop} (ha : EO X env own e Pa) (hb : ∀ r o, Pa r o → AO X env o es (Pb r)) (hs : starEach (e :: es) X.env = (false, eval e X.env) :: starEach es X.env := by rfl) : AO X env own (e :: es) (fun as o => ∃ r as' o1, as = r :: as' ∧ Pa r o1 ∧ Pb r as' o) := fun B0 H0 fr σ H S Q q => by
  refine wa (pa_cons smE smA hs) ?_
  refine ha B0 H0 fr σ H S _ fun v r o1 H1 hp ⟨B1, s1, E1, ok1, z1⟩ => ?_
  refine hb r o1 hp B1 H0 fr σ H1 ⟨B1, stp_to s1 s1.bb (Ex.refl _), E1, ok1.all, ok1.nd⟩ _ fun vs as o2 H2 hp2 ⟨B2, s2, E2, ok2, z2⟩ => ?_
  exact q _ _ o2 H2 ⟨r, as, o1, rfl, hp, hp2⟩ ⟨B2, stp_base s1 s2, E2, ⟨ok2.all, ok2.nd⟩, .cons (z1.ex s2.bb) z2⟩
theorem AO.imp {Pq Pq' : List Arg → Own → Prop} (h : AO X env own es Pq) (k : ∀ r o, Pq r o → Pq' r o) : AO X env own es Pq' := fun B0 H0 fr σ H S Q q => h B0 H0 fr σ H S Q fun v r o H1 p S1 => q v r o H1 (k r o p) S1
/-! what an own object's callee sees -/
theorem ownAt_sub {B0 H0 B H : Hp} {own1 ownC ownC' ownR fr : Own} {σ : L2.St} (o : OwnOk B0 H0 B H (own1 ++ fr) σ) (e1 : own1 = ownC' ++ ownR) (e2 : ownC'.map (·.2) = ownC.map (·.2)) : OwnAt B H ownC := by
  subst e1
  have key : ∀ p ∈ ownC, ∃ q ∈ ownC', q.2 = p.2 := fun p hp => by
    have : p.2 ∈ ownC'.map (·.2) := by rw [e2]; exact List.mem_map.mpr ⟨p, hp, rfl⟩
    obtain ⟨q, h1, h2⟩ := List.mem_map.mp this
    exact ⟨q, h1, h2⟩
  refine ⟨fun p hp => ?_, ?_⟩
  · obtain ⟨q, h1, h2⟩ := key p hp
    obtain ⟨_, h3, _, h4⟩ := o.all q (List.mem_append_left _ (List.mem_append_left _ h1))
    rw [h2] at h3 h4
    exact ⟨h3, h4⟩
  · have nd := o.nd
    rw [List.map_append, List.map_append] at nd
    have nd2 := (List.nodup_append.mp (List.nodup_append.mp nd).1).1
    have e3 : ownC.map (·.2.1) = (ownC.map (·.2)).map (·.1) := by rw [List.map_map]; rfl
    have e4 : ownC'.map (·.2.1) = (ownC'.map (·.2)).map (·.1) := by rw [List.map_map]; rfl
    rw [e3, ← e2, ← e4]
    exact nd2
theorem adrs_eq {o1 o2 : Own} (e : o1.map (·.2) = o2.map (·.2)) : o1.map (·.2.1) = o2.map (·.2.1) := by
  have e3 : o1.map (·.2.1) = (o1.map (·.2)).map (·.1) := by rw [List.map_map]; rfl
  have e4 : o2.map (·.2.1) = (o2.map (·.2)).map (·.1) := by rw [List.map_map]; rfl
  rw [e3, e4, e]
/-- a callee that has changed its part -/
theorem own_back {B0 H0 B H B1 H1 : Hp} {own1 ownC ownC' ownR fr ownC2 ownC2' : Own} {σ : L2.St} (s : Stp B0 H0 B H) (o : OwnOk B0 H0 B H (own1 ++ fr) σ) (e1 : own1 = ownC' ++ ownR) (e2 : ownC'.map (·.2) = ownC.map (·.2))
    (s1 : Stp B (rms H ownC) B1 H1) (a2 : OwnAt B1 H1 ownC2) (f2 : ∀ p ∈ ownC2, rms H ownC p.2.1 = none) (e3 : ownC2'.map (·.2) = ownC2.map (·.2)) (hs : ∀ p ∈ ownC2', p.1 < 1000 → (p.1, p.2.1) ∈ ownC'.map fun q => (q.1, q.2.1)) :
    Stp B0 H0 B1 H1 ∧ OwnOk B0 H0 B1 H1 ((ownC2' ++ ownR) ++ fr) σ := by
  subst e1
  have inC : ∀ a, a ∈ ownC.map (·.2.1) → H0 a = none ∧ ∃ u, H a = some u ∧ (∀ ps, u ≠ .tbl ps) ∧ (∀ φ, u ≠ .ext φ) := fun a ha => by
    rw [← adrs_eq e2] at ha
    obtain ⟨q, h1, h2⟩ := List.mem_map.mp ha
    obtain ⟨_, _, h3, h4⟩ := o.all q (List.mem_append_left _ (List.mem_append_left _ h1))
    rw [h2] at h3 h4
    obtain ⟨u, k1, k2, k3, _⟩ := OC.raw h4
    exact ⟨h3, u, k1, k2, k3⟩
  have h0C : ∀ a, H0 a ≠ none → a ∉ ownC.map (·.2.1) := fun a h hc => h (inC a hc).1
  have hh : ExN H0 H1 := by
    constructor
    · intro b u h nt
      have h2 := s.hh.ext b u h nt
      exact s1.hh.ext b u (by rw [rms_out (h0C b (by rw [h]; simp))]; exact h2) nt
    · intro b h
      rcases rms_none (s1.hh.dom b h) with q | q
      · exact (inC b q).1
      · exact s.hh.dom b q
    · intro P t
      obtain ⟨ps, h1, h2, h3⟩ := s.hh.tab P t
      refine s1.hh.tab P ⟨ps, ?_, h2, fun pos cv hc => ?_⟩
      · rw [rms_out (fun hc => ?_)]
        · exact h1
        · obtain ⟨_, u, k1, k2, _⟩ := inC P hc
          rw [h1] at k1
          exact k2 ps (Option.some.inj k1).symm
      · obtain ⟨cc, k1, k2⟩ := h3 pos cv hc
        refine ⟨cc, k1, ?_⟩
        rw [rms_out (fun hc => ?_)]
        · exact k2
        · obtain ⟨_, u, m1, _, m3⟩ := inC cc hc
          rw [k2] at m1
          exact m3 _ (Option.some.inj m1).symm
    · intro P ps h
      obtain ⟨ps', h'⟩ := s.hh.tbk P ps h
      exact s1.hh.tbk P ps' (by rw [rms_out (h0C P (by rw [h]; simp))]; exact h')
  have avR : ∀ p ∈ ownR ++ fr, p.2.1 ∉ ownC.map (·.2.1) := fun p hp hc => by
    have nd := o.nd
    rw [List.append_assoc, List.map_append] at nd
    rw [← adrs_eq e2] at hc
    exact (List.nodup_append.mp nd).2.2 _ hc _ (List.mem_map.mpr ⟨p, hp, rfl⟩) rfl
  have oR : ∀ p ∈ ownR ++ fr, (p.1 < 1000 → σ[p.1]? = some (some (.ref p.2.1))) ∧ B p.2.1 = none ∧ H0 p.2.1 = none ∧ OC.at_ B H p.2.1 p.2.2 := fun p hp => o.all p (by rw [List.append_assoc]; exact List.mem_append_right _ hp)
  refine ⟨⟨s.bb.trans s1.bb, s1.bh, hh, fun a h hb => s1.av a ?_ (s.av a h hb)⟩, ?_, ?_⟩
  · obtain ⟨u, k1, k2⟩ := s.hh.av h
    exact ⟨u, by rw [rms_out (h0C a h.ne)]; exact k1, k2⟩
  · intro p hp
    rw [List.append_assoc] at hp
    rcases List.mem_append.mp hp with hp | hp
    · have : p.2 ∈ ownC2.map (·.2) := by rw [← e3]; exact List.mem_map.mpr ⟨p, hp, rfl⟩
      obtain ⟨q, k1, k2⟩ := List.mem_map.mp this
      obtain ⟨m1, m2⟩ := a2.1 q k1
      have m3 := f2 q k1
      rw [k2] at m1 m2 m3
      refine ⟨fun hi => ?_, m1, ?_, m2⟩
      · obtain ⟨z, n1, n2⟩ := List.mem_map.mp (hs p hp hi)
        have n3 := (o.all z (List.mem_append_left _ (List.mem_append_left _ n1))).1
        injection n2 with n4 n5
        rw [n4, n5] at n3
        exact n3 hi
      · rcases rms_none m3 with r | r
        · exact (inC _ r).1
        · exact s.hh.dom _ r
    · obtain ⟨a, b, c, f⟩ := oR p hp
      obtain ⟨u, k1, k2, k3, k4, k5⟩ := OC.raw f
      have k6 : rms H ownC p.2.1 = some u := by rw [rms_out (avR p hp)]; exact k1
      exact ⟨a, s1.av _ ⟨u, k6, k4⟩ b, c, k5 B1 H1 (fun v d z => z.ex s1.bb) (s1.hh.ext _ _ k6 k2)⟩
  · have nd := o.nd
    rw [List.append_assoc, List.map_append] at nd
    rw [List.append_assoc, List.map_append]
    refine List.nodup_append.mpr ⟨by rw [adrs_eq e3]; exact a2.2, (List.nodup_append.mp nd).2.1, fun x hx y hy exy => ?_⟩
    subst exy
    rw [adrs_eq e3] at hx
    obtain ⟨q, k1, k2⟩ := List.mem_map.mp hx
    obtain ⟨p, m1, m2⟩ := List.mem_map.mp hy
    have m3 := f2 q k1
    rw [k2, ← m2, rms_out (avR p m1)] at m3
    exact OC.there (oR p m1).2.2.2 m3
end
end JH
set_option Elab.async false
set_option linter.all false
set_option maxRecDepth 100000
set_option maxHeartbeats 4000000
/-! calls, statements over what is one's own -/
namespace JH
open PySem PySem.Spec L2
open Evl (Ex Ex.refl Ex.trans Ex.new Ex.mut)
def CallTo (R : SR) (as : List Arg) (o : Own) (Po : Post) : Prop := ∃ ownC ownC' ownR Pc, o = ownC' ++ ownR ∧ ownC'.map (·.2) = ownC.map (·.2) ∧ (∀ p ∈ ownC, p.1 < 1000 → as[p.1]? = some (.ref (.ref p.2.1))) ∧ R as ownC Pc ∧
  ∀ r o2, Pc r o2 → ∃ o2', o2'.map (·.2) = o2.map (·.2) ∧ (∀ p ∈ o2', p.1 < 1000 → (p.1, p.2.1) ∈ ownC'.map fun q => (q.1, q.2.1)) ∧ Po r (o2' ++ ownR)
section
variable {X : Cx} {env : Ev} {own own' : Own} {d d1 d2 : PyData} {ds : List PyData} {a b e o : Expr} {es args : List Expr} {Po Po' Pa : Post} {Pq : List Arg → Own → Prop} {pos p1 p apos : Pos} {x f m : Str} {l : Addr} {i k : Nat} {c : OC} {ps : List Str}
/-- a def that changes nothing, its arguments may -/
theorem eo_fn {R : List PyData → PyData → Prop} (F : Kn X.prog X.w X.K X.mg X.base x k ps (spF R)) (hr : Room k X.A) (ha : AO X env own (e :: args) Pq) (h : ∀ as o, Pq as o → ∃ ds d, as = ds.map Arg.dat ∧ R ds d ∧ Po (.dat d) o) (hg : Gl X x := by rfl)
    (he : starEach (e :: args) X.env = (false, eval e X.env) :: starEach args X.env := by rfl) (hpl : (backTo pos (starEach args X.env)).any (·.1) = false := by rfl) (hd : (x == ("__debug__" : Str)) = false := by decide) : EO X env own (.Call (.Name x p) (e :: args) [] pos) Po := fun B0 H0 fr σ H S Q q => by
  obtain ⟨f, fd, F, hm, hk, hb⟩ := F
  refine we (pe_call F hr hg hm hk hb .nil pass0 smA hd he hpl) ?_
  refine ha B0 H0 fr σ H S _ fun vs as o1 H1 hp ⟨B1, s1, E1, ok1, z1⟩ => ?_
  obtain ⟨ds, d, rfl, hR, hPo⟩ := h as o1 hp
  rw [List.append_nil]
  exact ⟨B1, ds, d, s1.bh, z1.dats, hR, fun v B2 H2 s2 z2 => q v (.dat d) o1 H2 hPo ⟨B2, s1.trans s2, E1.ex s2.bb, ok1.stp s2, z2⟩⟩
/-- a def that changes what it is handed -/
theorem eo_call {R : SR} (F : Kn X.prog X.w X.K X.mg X.base x k ps (spO R)) (hr : Room k X.A) (ha : AO X env own (e :: args) Pq) (h : ∀ as o, Pq as o → CallTo R as o Po) (hg : Gl X x := by rfl)
    (he : starEach (e :: args) X.env = (false, eval e X.env) :: starEach args X.env := by rfl) (hpl : (backTo pos (starEach args X.env)).any (·.1) = false := by rfl) (hd : (x == ("__debug__" : Str)) = false := by decide) : EO X env own (.Call (.Name x p) (e :: args) [] pos) Po := fun B0 H0 fr σ H S Q q => by
  obtain ⟨f, fd, F, hm, hk, hb⟩ := F
  refine we (pe_call F hr hg hm hk hb .nil pass0 smA hd he hpl) ?_
  refine ha B0 H0 fr σ H S _ fun vs as o1 H1 hp ⟨B1, s1, E1, ok1, z1⟩ => ?_
  obtain ⟨ownC, ownC', ownR, Pc, e1, e2, hs, hR, tr⟩ := h as o1 hp
  rw [List.append_nil]
  refine ⟨B1, ownC, as, Pc, s1.bh, ownAt_sub ok1 e1 e2, z1, hs, hR, fun v r o2 B2 H2 hp2 s2 a2 f2 z2 => ?_⟩
  obtain ⟨o2', m1, m2, m3⟩ := tr r o2 hp2
  obtain ⟨t1, t2⟩ := own_back s1 ok1 e1 e2 s2 a2 f2 m1 m2
  exact q v r _ H2 m3 ⟨B2, t1, E1.ex s2.bb, t2, z2⟩
/-- o.m(..), o an instance of one's own -/
theorem eo_meth {R : SR} {pl : Sem Bool} (T : Tx X.w X.K X.mg) {aa dx : Addr} {fs : List (Str × Arg)} (F : KnM X.prog X.w X.K X.mg X.base m k ps (spO R)) (hr : Room k X.A) (ho : RV X env own o aa) (hm : (i, aa, .ins (HA X.K) dx fs) ∈ own) (ha : AO X env own (e :: args) Pq) (h : ∀ as o, Pq as o → CallTo R (.ref (.ref aa) :: as) o Po)
    (hl : fs.lookup m = none := by rfl) (hst : starEach (e :: args) X.env = (false, eval e X.env) :: starEach args X.env := by rfl) (hpl : (backTo pos (starEach args X.env)).any (·.1) = false := by rfl)
    (ht : eval (.Call (.Attribute o m apos) (e :: args) [] pos) X.env = (do
      let ov ← eval o X.env
      standAt apos.atName
      let (f, first) ← holding [ov] (getMethod ov m pl)
      callWith pos f first (backTo pos (starEach (e :: args) X.env)) (backToKw pos (keywordEach [] X.env))) := by rfl) : EO X env own (.Call (.Attribute o m apos) (e :: args) [] pos) Po := fun B0 H0 fr σ H S Q q => by
  obtain ⟨f, fd', F, hM, hb⟩ := F
  refine we (pe_meth smE T.cl hM F hr hb .nil pass0 smA hst hpl ht) ?_
  refine ho B0 H0 fr σ H S _ ?_
  obtain ⟨B, s, E, ok⟩ := id S
  obtain ⟨_, _, _, vs0, h1, h2⟩ := ok.all _ (List.mem_append_left _ hm)
  refine ⟨aa, dx, vs0, rfl, h1, lookP0 h2 hl, ?_⟩
  refine ha B0 H0 fr σ H S _ fun vs as o1 H1 hp ⟨B1, s1, E1, ok1, z1⟩ => ?_
  obtain ⟨ownC, ownC', ownR, Pc, e1, e2, hs, hR, tr⟩ := h as o1 hp
  rw [List.append_nil]
  refine ⟨B1, ownC, .ref (.ref aa) :: as, Pc, s1.bh, ownAt_sub ok1 e1 e2, .cons (show Arg.at_ B1 (V.ref aa) (.ref (.ref aa)) from rfl) z1, hs, hR, fun v r o2 B2 H2 hp2 s2 a2 f2 z2 => ?_⟩
  obtain ⟨o2', m1, m2, m3⟩ := tr r o2 hp2
  obtain ⟨t1, t2⟩ := own_back s1 ok1 e1 e2 s2 a2 f2 m1 m2
  exact q v r _ H2 m3 ⟨B2, t1, E1.ex s2.bb, t2, z2⟩
/-! operations, whatever they are -/
def rU (X : Cx) (f : Value → Value → Sem Value) : R2 := fun x y H Q => ∀ (pins : List (Addr × Obj)) (s : Shared) (σ : L2.St) (v u : Value), Inv X pins σ H s → RelV x v → RelV y u → wpAny (model X.prog X.w) X.A (f v u) (EP X pins σ Q) X.xe s
theorem opU {f : Value → Value → Sem Value} : OpR X f (rU X f) := fun pins s σ H x y v u Q I rx ry h => h pins s σ v u I rx ry
theorem RD.u {f : Value → Value → Sem Value} (R : RD X f d1 d2 d) {x y : V} {B H : Hp} {Q : VK} (eb : Ex B H) (z1 : Dz B x d1) (z2 : Dz B y d2) (q : ∀ v B1 H1, Stp B H B1 H1 → Dz B1 v d → Q v H1) : rU X f x y H Q := fun pins s σ v u I rx ry => by
  obtain ⟨r, ho, hr⟩ := R
  exact ho pins s σ H x y v u Q I rx ry (hr x y B H Q eb z1 z2 q)
def rC (X : Cx) (f : Value) : List V → Hp → VK → Prop := fun vs H Q => ∀ (pins : List (Addr × Obj)) (s : Shared) (σ : L2.St) (us : List Value), Inv X pins σ H s → Vals vs us → wpAny (model X.prog X.w) X.A (call f us) (EP X pins σ Q) X.xe s
theorem callU {f : Value} : CallR X f (rC X f) := fun pins s σ H xs us Q I r h => h pins s σ us I r
theorem CD.u {f : Value} (C : CD X f ds d) {vs : List V} {B H : Hp} {Q : VK} (eb : Ex B H) (z : DzAll B vs ds) (q : ∀ v B1 H1, Stp B H B1 H1 → Dz B1 v d → Q v H1) : rC X f vs H Q := fun pins s σ us I r => by
  obtain ⟨r0, hc, hr⟩ := C
  exact hc pins s σ H vs us Q I r (hr vs B H Q eb z q)
theorem sta_to {B0 H0 B H : Hp} {σ : L2.St} (s : Stp B0 H0 B H) (E : En σ B env) (o : OwnOk B0 H0 B H own σ) : Sta B H0 env own σ H := ⟨B, stp_to s s.bb (Ex.refl _), E, o.all, o.nd⟩
theorem eo_bin {Pb : Arg → Arg → Own → Prop} {op : Operator} (ha : EO X env own a Pa) (hb : ∀ r o, Pa r o → EO X env o b (Pb r)) (hd : ∀ r1 o1 r2 o2, Pa r1 o1 → Pb r1 r2 o2 → ∃ d1 d2 d, r1 = .dat d1 ∧ r2 = .dat d2 ∧ RD X (binaryOp op) d1 d2 d ∧ Po (.dat d) o2) : EO X env own (.BinOp a op b pos) Po := fun B0 H0 fr σ H S Q q => by
  refine we (pe_op opU smE smE) ?_
  refine ha B0 H0 fr σ H S _ fun x r1 o1 H1 hp ⟨B1, s1, E1, ok1, z1⟩ => ?_
  refine hb r1 o1 hp B1 H0 fr σ H1 (sta_to s1 E1 ok1) _ fun y r2 o2 H2 hp2 ⟨B2, s2, E2, ok2, z2⟩ => ?_
  obtain ⟨d1, d2, d, rfl, rfl, R, hPo⟩ := hd r1 o1 r2 o2 hp hp2
  have z1' : Dz B2 x d1 := Dz.ex s2.bb z1
  exact R.u s2.bh z1' z2 fun v B3 H3 s3 z3 => q v (.dat d) o2 H3 hPo ⟨B3, (stp_base s1 s2).trans s3, E2.ex s3.bb, OwnOk.stp ⟨ok2.all, ok2.nd⟩ s3, z3⟩
theorem eo_cmp {Pb : Arg → Arg → Own → Prop} {op : CmpOp} (ha : EO X env own a Pa) (hb : ∀ r o, Pa r o → EO X env o b (Pb r)) (hd : ∀ r1 o1 r2 o2, Pa r1 o1 → Pb r1 r2 o2 → ∃ d1 d2 d, r1 = .dat d1 ∧ r2 = .dat d2 ∧ RD X (compareOp op) d1 d2 d ∧ Po (.dat d) o2) (hm : behindInMarks op b = false := by rfl) : EO X env own (.Compare a [op] [b] pos) Po := fun B0 H0 fr σ H S Q q => by
  refine we (pe_cmpR opU smE smE hm) ?_
  refine ha B0 H0 fr σ H S _ fun x r1 o1 H1 hp ⟨B1, s1, E1, ok1, z1⟩ => ?_
  refine hb r1 o1 hp B1 H0 fr σ H1 (sta_to s1 E1 ok1) _ fun y r2 o2 H2 hp2 ⟨B2, s2, E2, ok2, z2⟩ => ?_
  obtain ⟨d1, d2, d, rfl, rfl, R, hPo⟩ := hd r1 o1 r2 o2 hp hp2
  have z1' : Dz B2 x d1 := Dz.ex s2.bb z1
  exact R.u s2.bh z1' z2 fun v B3 H3 s3 z3 => q v (.dat d) o2 H3 hPo ⟨B3, (stp_base s1 s2).trans s3, E2.ex s3.bb, OwnOk.stp ⟨ok2.all, ok2.nd⟩ s3, z3⟩
theorem eo_blt {id : String} (hm : X.mg x = none) (hv : bootBuiltins x = some (.builtin id)) (ha : AO X env own (e :: args) Pq) (h : ∀ as o, Pq as o → ∃ ds d, as = ds.map Arg.dat ∧ CD X (.builtin id) ds d ∧ Po (.dat d) o) (hg : Gl X x := by rfl) (hn : x ≠ "__name__" := by decide) (hdb : (x == ("__debug__" : Str)) = false := by decide)
    (he : starEach (e :: args) X.env = (false, eval e X.env) :: starEach args X.env := by rfl) (hpl : (backTo pos (starEach args X.env)).any (·.1) = false := by rfl) : EO X env own (.Call (.Name x p) (e :: args) [] pos) Po := fun B0 H0 fr σ H S Q q => by
  refine we (pe_callB callU hg hm hv smA hn hdb he hpl) ?_
  refine ha B0 H0 fr σ H S _ fun vs as o1 H1 hp ⟨B1, s1, E1, ok1, z1⟩ => ?_
  obtain ⟨ds, d, rfl, C, hPo⟩ := h as o1 hp
  exact C.u s1.bh z1.dats fun v B3 H3 s3 z3 => q v (.dat d) o1 H3 hPo ⟨B3, s1.trans s3, E1.ex s3.bb, ok1.stp s3, z3⟩
theorem eo_ty {t : String} (hm : X.mg x = none) (hv : bootBuiltins x = some (.type t)) (ha : AO X env own (e :: args) Pq) (h : ∀ as o, Pq as o → ∃ ds d, as = ds.map Arg.dat ∧ CD X (.type t) ds d ∧ Po (.dat d) o) (hg : Gl X x := by rfl) (hn : x ≠ "__name__" := by decide) (hdb : (x == ("__debug__" : Str)) = false := by decide)
    (he : starEach (e :: args) X.env = (false, eval e X.env) :: starEach args X.env := by rfl) (hpl : (backTo pos (starEach args X.env)).any (·.1) = false := by rfl) : EO X env own (.Call (.Name x p) (e :: args) [] pos) Po := fun B0 H0 fr σ H S Q q => by
  refine we (pe_callTy callU hg hm hv smA hn hdb he hpl) ?_
  refine ha B0 H0 fr σ H S _ fun vs as o1 H1 hp ⟨B1, s1, E1, ok1, z1⟩ => ?_
  obtain ⟨ds, d, rfl, C, hPo⟩ := h as o1 hp
  exact C.u s1.bh z1.dats fun v B3 H3 s3 z3 => q v (.dat d) o1 H3 hPo ⟨B3, s1.trans s3, E1.ex s3.bb, ok1.stp s3, z3⟩
theorem eo_tup {x1} (ha : AO X env own es Pq) (h : ∀ as o, Pq as o → ∃ ds, as = ds.map Arg.dat ∧ ds.length ≤ 100000 ∧ Po (.dat (.tuple ds)) o) : EO X env own (.Tuple es x1 pos) Po := fun B0 H0 fr σ H S Q q => by
  refine we (pe_tup smA) ?_
  refine ha B0 H0 fr σ H S _ fun vs as o1 H1 hp ⟨B1, s1, E1, ok1, z1⟩ => ?_
  obtain ⟨ds, rfl, hl, hPo⟩ := h as o1 hp
  have z := z1.dats
  refine ⟨sz (by rw [z.length]; exact hl), fun pp hpp => ?_⟩
  have s3 := Stp.new (o := .tup vs) s1.bh hpp
  exact q _ (.dat (.tuple ds)) o1 _ hPo ⟨_, s1.trans s3, E1.ex s3.bb, ok1.stp s3, .tup upd_same (z.ex s3.bb)⟩
/-- [..][e] -/
theorem eo_ixL {Pb : Arg → Own → Prop} (ha : PD X a env (.list ds)) (hb : EO X env own b Pb) (hd : ∀ r o, Pb r o → ∃ (n : Nat) (d : PyData), r = .dat (.int (n : Int)) ∧ ds[n]? = some d ∧ Po (.dat d) o) (hs : PlainIx b := by exact fun _ _ => rfl) : EO X env own (.Subscript a b pos) Po := fun B0 H0 fr σ H ⟨B, s, E, ok⟩ Q q => by
  refine we (pe_ix ix_list smE smE hs) ?_
  refine ha σ B H E s.bh _ fun x B1 H1 s1 z1 => ?_
  refine hb B1 H0 fr σ H1 (sta_to (s.trans s1) (E.ex s1.bb) (ok.stp s1)) _ fun y r o2 H2 hp ⟨B2, s2, E2, ok2, z2⟩ => ?_
  obtain ⟨n, d, rfl, hn, hPo⟩ := hd r o2 hp
  have z1' := z1.ex s2.bb
  obtain ⟨pp, xs, rfl, hpp, hx⟩ := z1'.lst_inv
  obtain ⟨v, k1, k2⟩ := atD hx hn
  have z2 : Dz B2 y (.int (n : Int)) := z2
  rw [z2.int_inv]
  exact ⟨pp, xs, _, v, rfl, rfl, SqL.of (s2.bh _ _ hpp), k1, q v (.dat d) o2 H2 hPo ⟨B2, stp_base (s.trans s1) s2, E2, ⟨ok2.all, ok2.nd⟩, k2⟩⟩
/-! tests -/
theorem to_val {Pt : Bool → Own → Prop} (h : EO X env own a Po) (hd : ∀ r o, Po r o → ∃ k, r = .dat (.bool k) ∧ Pt k o) (he : ∀ whole, isTrue a X.env whole = (do let v ← whole; standAt a.pos; holding [v] (truthy v)) := by intro _; rfl) : TO X env own a Pt := fun B0 H0 fr σ H S Q q => by
  refine wt (pt_val smE he) ?_
  refine h B0 H0 fr σ H S _ fun v r o1 H1 hp ⟨B1, s1, E1, ok1, z1⟩ => ?_
  obtain ⟨k, rfl, hk⟩ := hd r o1 hp
  have z1 : Dz B1 v (.bool k) := z1
  exact ⟨k, z1.bl_inv, q k o1 H1 hk ⟨B1, s1, E1, ok1⟩⟩
theorem to_not {Pt : Bool → Own → Prop} (h : TO X env own a Pt) : TO X env own (.UnaryOp .Not a pos) (fun k o => Pt (!k) o) := fun B0 H0 fr σ H S Q q => wt (pt_not smT) (h B0 H0 fr σ H S _ fun b o1 H1 hp S1 => q (!b) o1 H1 (by show Pt (!!b) o1; rw [Bool.not_not]; exact hp) S1)
theorem to_pq {k : Bool} (h : PQ X a env k) : TO X env own a (fun k' o => k' = k ∧ o = own) := fun B0 H0 fr σ H ⟨B, s, E, o⟩ Q q => h σ B H E s.bh Q fun B1 H1 s1 => q k own H1 ⟨rfl, rfl⟩ ⟨B1, s.trans s1, E.ex s1.bb, o.stp s1⟩
end
/-! ### statements -/
section
variable {X : Cx} {B0 H0 H : Hp} {env env' : Ev} {own own' : Own} {σ : L2.St} {d : PyData} {ds : List PyData} {e c : Expr} {rest body orelse : List Stmt} {D : Ends} {pos pos' : Pos} {x : Str} {Po : Post} {Pt : Bool → Own → Prop} {i : Nat}
theorem EO.run (h : EO X env own e Po) (S : Sta B0 H0 env own σ H) {Q : VK} (q : ∀ v r own' H1, Po r own' → StaA B0 H0 env own' σ H1 v r → Q v H1) : WE X e σ H Q :=
  h B0 H0 [] σ H (by rw [List.append_nil]; exact S) Q fun v r o H1 hp S1 => q v r o H1 hp (by rw [List.append_nil] at S1; exact S1)
theorem TO.run (h : TO X env own e Pt) (S : Sta B0 H0 env own σ H) {Q : Bool → Hp → Prop} (q : ∀ b own' H1, Pt b own' → Sta B0 H0 env own' σ H1 → Q b H1) : WT X e σ H Q :=
  h B0 H0 [] σ H (by rw [List.append_nil]; exact S) Q fun b o H1 hp S1 => q b o H1 hp (by rw [List.append_nil] at S1; exact S1)
theorem RV.run {l : Addr} (h : RV X env own e l) (S : Sta B0 H0 env own σ H) {Q : VK} (q : Q (.ref l) H) : WE X e σ H Q := h B0 H0 [] σ H (by rw [List.append_nil]; exact S) Q q
theorem s_setE (i : Nat) (S : Sta B0 H0 env own σ H) (h : EO X env own e Po) (k : ∀ d own' σ' H', Po (.dat d) own' → Sta B0 H0 (env.set i (some d)) own' σ' H' → WSs X rest D σ' H') (hd : ∀ r o, Po r o → (∃ d, r = .dat d) ∧ ∀ p ∈ o, p.1 ≠ i) (hN : X.N.Nodup) (hi : X.N[i]? = some x := by rfl)
    (hx : Loc X.env.scope x := by first | exact Or.inl rfl | exact Or.inr rfl) (hs : swapsWith e (some (.Name x pos')) pos.line X.env = pure false := by rfl) (hf : X.fn x = true ∨ X.env.scope.names.lookup x = some .local := by first | exact .inl rfl | exact .inr rfl) : WSs X (.Assign [.Name x pos'] e pos :: rest) D σ H := by
  refine wss (pss_cons (ps_set hN hi hx smE hs hf) smSs) ?_
  refine h.run S fun v r o1 H1 hp ⟨B1, s1, E1, ok1, z1⟩ => ?_
  obtain ⟨⟨d, rfl⟩, hj⟩ := hd r o1 hp
  exact k d o1 _ _ hp (StaV.set i ⟨B1, s1, E1, ok1, z1⟩ hj)
theorem s_dropE (S : Sta B0 H0 env own σ H) (h : EO X env own e Po) (k : ∀ r own' H', Po r own' → Sta B0 H0 env own' σ H' → WSs X rest D σ H') (hs : swapsWith e none pos.line X.env = pure false := by rfl) : WSs X (.Expr e pos :: rest) D σ H := by
  refine wss (pss_cons (ps_expr smE hs) smSs) ?_
  exact h.run S fun v r o1 H1 hp ⟨B1, s1, E1, ok1, z1⟩ => k r o1 H1 hp ⟨B1, s1, E1, ok1⟩
theorem s_retE (S : Sta B0 H0 env own σ H) (h : EO X env own e Po) (k : ∀ v r own' B1 H1, Po r own' → Stp B0 H0 B1 H1 → OwnAt B1 H1 own' → (∀ p ∈ own', H0 p.2.1 = none) → r.at_ B1 v → D.rt v H1) : WSs X (.Return (some e) pos :: rest) D σ H := by
  refine wss (pss_cons (ps_ret smE) (pss_never)) ?_
  exact h.run S fun v r o1 H1 hp ⟨B1, s1, E1, ok1, z1⟩ => k v r o1 B1 H1 hp s1 ⟨fun p hp => ⟨(ok1.all p hp).2.1, (ok1.all p hp).2.2.2⟩, ok1.nd⟩ (fun p hp => (ok1.all p hp).2.2.1) z1
theorem s_endE {Q : VK} (S : Sta B0 H0 env own σ H) (k : ∀ v B1 H1, Stp B0 H0 B1 H1 → OwnAt B1 H1 own → (∀ p ∈ own, H0 p.2.1 = none) → Dz B1 v .none → Q v H1) {bk ct : L2.St → Hp → Prop} : WSs X [] { nx := fun _ H' => Q .non H', rt := Q, bk := bk, ct := ct } σ H := by
  obtain ⟨B1, s1, E1, ok1⟩ := S
  exact s_nil (k .non B1 H s1 ⟨fun p hp => ⟨(ok1.all p hp).2.1, (ok1.all p hp).2.2.2⟩, ok1.nd⟩ (fun p hp => (ok1.all p hp).2.2.1) .non)
theorem s_ifE (S : Sta B0 H0 env own σ H) (hc : TO X env own c Pt) (h1 : ∀ own' H', Pt true own' → Sta B0 H0 env own' σ H' → WSs X body { D with nx := WSs X rest D } σ H')
    (h2 : ∀ own' H', Pt false own' → Sta B0 H0 env own' σ H' → WSs X orelse { D with nx := WSs X rest D } σ H') : WSs X (.If c body orelse pos :: rest) D σ H := by
  refine wss (pss_cons (ps_if smT smSs smSs) smSs) ?_
  refine hc.run S fun b o1 H1 hp S1 => ?_
  cases b with
  | true => exact h1 o1 H1 hp S1
  | false => exact h2 o1 H1 hp S1
end
end JH
set_option Elab.async false
set_option linter.all false
set_option maxRecDepth 100000
set_option maxHeartbeats 4000000
/-! what is one's own, shown as data; its changes; defs that are handed it -/
namespace JH
open PySem PySem.Spec L2
open Evl (Ex Ex.refl Ex.trans Ex.new Ex.mut)
/-- all that is one's own added to what is known for good -/
def addO (B H : Hp) (own : Own) : Hp := fun a => if a ∈ own.map (·.2.1) then H a else B a
structure Shown (B H B' : Hp) (own : Own) : Prop where
  up : Ex B B'
  le : Ex B' H
  at_ : ∀ p ∈ own, OC.at_ B' B' p.2.1 p.2.2
  back : ∀ B1 H1, Stp B' H B1 H1 → Stp B H (rms B1 own) H1 ∧ TEx B1 (rms B1 own)
theorem shown_of {B0 H0 B H : Hp} {own : Own} {σ : L2.St} (eb : Ex B H) (o : OwnOk B0 H0 B H own σ) : Shown B H (addO B H own) own := by
  have inO : ∀ a, a ∈ own.map (·.2.1) → B a = none ∧ ∃ u, H a = some u ∧ ∀ xs, u ≠ .tup xs := fun a ha => by
    obtain ⟨p, h1, h2⟩ := List.mem_map.mp ha
    obtain ⟨_, h3, _, h4⟩ := o.all p h1
    rw [h2] at h3 h4
    obtain ⟨u, k1, _, _, k2, _⟩ := OC.raw h4
    exact ⟨h3, u, k1, k2⟩
  have ain : ∀ a, a ∈ own.map (·.2.1) → addO B H own a = H a := fun a h => if_pos h
  have aout : ∀ a, a ∉ own.map (·.2.1) → addO B H own a = B a := fun a h => if_neg h
  have up : Ex B (addO B H own) := fun a u h => by
    rw [aout a (fun z => by rw [(inO a z).1] at h; cases h)]
    exact h
  refine ⟨up, fun a u h => ?_, fun p hp => ?_, fun B1 H1 s1 => ⟨⟨fun a u h => ?_, fun a u h => s1.bh a u (rms_ex a u h), s1.hh, fun a h hb => ?_⟩, fun a xs h => ?_⟩⟩
  · by_cases ha : a ∈ own.map (·.2.1)
    · rw [ain a ha] at h; exact h
    · rw [aout a ha] at h; exact eb a u h
  · obtain ⟨u, k1, _, _, _, k5⟩ := OC.raw (o.all p hp).2.2.2
    exact k5 _ _ (fun v d z => z.ex up) (by rw [ain _ (List.mem_map.mpr ⟨p, hp, rfl⟩)]; exact k1)
  · rw [rms_out (fun z => by rw [(inO a z).1] at h; cases h)]
    exact s1.bb a u (up a u h)
  · by_cases ha : a ∈ own.map (·.2.1)
    · exact rms_in ha
    · rw [rms_out ha]
      exact s1.av a h (by rw [aout a ha]; exact hb)
  · rw [rms_out (fun z => ?_)]
    · exact h
    · obtain ⟨_, u, k1, k2⟩ := inO a z
      have := s1.bb a u (by rw [ain a z]; exact k1)
      rw [h] at this
      exact k2 xs (Option.some.inj this).symm
theorem set_same {σ : L2.St} {i : Nat} {v : V} (h : σ[i]? = some (some v)) : σ.set i (some v) = σ := by
  apply List.ext_getElem?
  intro j
  by_cases hj : i = j
  · subst hj
    have hl : i < σ.length := (List.getElem?_eq_some_iff.mp h).1
    rw [List.getElem?_set_self hl, h]
  · rw [List.getElem?_set_ne hj]
/-- the data that an object of one's own is -/
def Reads1 (own : Own) (a : Addr) (d : PyData) : Prop := ∀ B, (∀ p ∈ own, OC.at_ B B p.2.1 p.2.2) → Dz B (.ref a) d
section
variable {X : Cx} {B0 H0 H : Hp} {env : Ev} {own : Own} {σ : L2.St} {d d' : PyData} {ds : List PyData} {e : Expr} {i : Nat} {a : Addr} {c : OC}
theorem ev_show (i : Nat) (hm : (i, a, c) ∈ own) (hd : Reads1 own a d') (h : PD X e (env.set i (some d')) d) (f : fz d = true) (hi : i < 1000 := by decide) : EV X B0 H0 env own e d := fun σ H ⟨B, s, E, o⟩ Q q => by
  have sh := shown_of s.bh o
  have E' := (E.ex sh.up).set i (hd _ sh.at_)
  rw [set_same ((o.all _ hm).1 hi)] at E'
  refine h σ _ H E' sh.le Q fun v B1 H1 s1 z1 => ?_
  obtain ⟨s2, t2⟩ := sh.back B1 H1 s1
  exact q v H1 ⟨_, s.trans s2, E.ex s2.bb, o.stp s2, Dz.tex t2 d f z1⟩
theorem tv_show (i : Nat) {k : Bool} (hm : (i, a, c) ∈ own) (hd : Reads1 own a d') (h : PQ X e (env.set i (some d')) k) (hi : i < 1000 := by decide) : TV X B0 H0 env own e k := fun σ H ⟨B, s, E, o⟩ Q q => by
  have sh := shown_of s.bh o
  have E' := (E.ex sh.up).set i (hd _ sh.at_)
  rw [set_same ((o.all _ hm).1 hi)] at E'
  refine h σ _ H E' sh.le Q fun B1 H1 s1 => ?_
  obtain ⟨s2, t2⟩ := sh.back B1 H1 s1
  exact q H1 ⟨_, s.trans s2, E.ex s2.bb, o.stp s2⟩
theorem rms_new {B B1 H H1 : Hp} {own : Own} {σ : L2.St} (o : OwnOk B0 H0 B H own σ) {p : Addr} (n : H p = none) : p ∉ own.map (·.2.1) := fun z => by
  obtain ⟨q, h1, h2⟩ := List.mem_map.mp z
  exact OC.there (o.all q h1).2.2.2 (by rw [h2]; exact n)
/-- a new list of frozen items -/
theorem ev_showF (i : Nat) (hm : (i, a, c) ∈ own) (hd : Reads1 own a d') (h : PF X e (env.set i (some d')) ds) (f : fzA ds = true) (hi : i < 1000 := by decide) : EV X B0 H0 env own e (.list ds) := fun σ H ⟨B, s, E, o⟩ Q q => by
  have sh := shown_of s.bh o
  have E' := (E.ex sh.up).set i (hd _ sh.at_)
  rw [set_same ((o.all _ hm).1 hi)] at E'
  refine h σ _ H E' sh.le _ fun p xs B1 H1 n1 s1 h1 z1 => ?_
  obtain ⟨s2, t2⟩ := sh.back B1 H1 s1
  refine q (.ref p) H1 ⟨_, s.trans s2, E.ex s2.bb, o.stp s2, .lst ?_ (DzAll.tex t2 ds f z1)⟩
  rw [rms_out (rms_new (B1 := B1) (H1 := H1) o n1)]
  exact h1
theorem EV.eo (h : ∀ B0 H0 fr, EV X B0 H0 env (own ++ fr) e d) : EO X env own e (fun r o => r = .dat d ∧ o = own) := fun B0 H0 fr σ H S Q q => h B0 H0 fr σ H S Q fun v H1 ⟨B, s, E, o, z⟩ => q v (.dat d) own H1 ⟨rfl, rfl⟩ ⟨B, s, E, o, z⟩
theorem Reads1.app (h : Reads1 own a d) (fr : Own) : Reads1 (own ++ fr) a d := fun B k => h B fun p hp => k p (List.mem_append_left _ hp)
theorem eo_show (i : Nat) (hm : (i, a, c) ∈ own) (hd : Reads1 own a d') (h : PD X e (env.set i (some d')) d) (f : fz d = true) (hi : i < 1000 := by decide) : EO X env own e (fun r o => r = .dat d ∧ o = own) := EV.eo fun B0 H0 fr => ev_show i (List.mem_append_left _ hm) (hd.app fr) h f hi
end
/-! changes -/
section
variable {X : Cx} {B0 H0 H : Hp} {env : Ev} {own : Own} {σ : L2.St} {d : PyData} {ds : List PyData} {e r b : Expr} {rest : List Stmt} {D : Ends} {pos apos cpos p1 : Pos} {l : Addr} {i j : Nat} {own1 own2 : Own} {t : Tbl} {n m : Nat} {w : Bool}
theorem s_appR (hr : RV X env own r l) (hown : own = own1 ++ (i, l, .lst ds) :: own2) (S : Sta B0 H0 env own σ H) (h : EV X B0 H0 env own e d) (k : ∀ H', Sta B0 H0 env (own1 ++ (i, l, .lst (ds ++ [d])) :: own2) σ H' → WSs X rest D σ H') (hz : ds.length < 100000)
    (hbase : attributeBase r "append" X.env (eval r X.env) = eval r X.env := by rfl)
    (hfew : ((backTo cpos (starEach [e] X.env)).all (fun x => !x.1) && (backToKw cpos (keywordEach [] X.env)).all (fun x => x.1.isSome)
      && decide ([e].length + ([] : List Keyword).length + (if ([] : List Keyword).isEmpty then 0 else 1) < 30)) = true := by rfl)
    (hline : (apos.endLine == cpos.line) = true := by rfl) (hs : starEach [e] X.env = (false, eval e X.env) :: starEach [] X.env := by rfl)
    (hsw : swapsWith (.Call (.Attribute r "append" apos) [e] [] cpos) none pos.line X.env = pure false := by rfl) : WSs X (.Expr (.Call (.Attribute r "append" apos) [e] [] cpos) pos :: rest) D σ H := by
  refine wss (pss_cons (ps_expr (pe_bm PySem.F.plainAttrs_list PySem.F.slot_list_append PySem.F.type_list_append mt_append smE (pa_cons smE pa_nil hs) hbase hfew hline hs) hsw) smSs) ?_
  refine hr.run S ?_
  subst hown
  obtain ⟨B, s, E, o⟩ := id S
  obtain ⟨h1, h2, h3, xs, h4, h5⟩ := o.all (i, l, .lst ds) (by simp)
  refine ⟨tyL h4, ?_⟩
  refine h σ H S _ fun v H1 ⟨B1, s1, E1, o1, z1⟩ => ?_
  obtain ⟨g1, g2, g3, ys, g4, g5⟩ := o1.all (i, l, .lst ds) (by simp)
  refine ⟨l, ys, v, rfl, rfl, g4, szl (by rw [g5.length]; exact hz), k _ (sta_upd s1 E1 o1 ⟨ys ++ [v], upd_same, g5.append (.cons z1 .nil)⟩)⟩
theorem s_setiR (hr : RV X env own r l) (hown : own = own1 ++ (i, l, .lst ds) :: own2) (S : Sta B0 H0 env own σ H) (h : EV X B0 H0 env own e d) (hj : PD X b env (.int (j : Int))) (hl : j < ds.length)
    (k : ∀ H', Sta B0 H0 env (own1 ++ (i, l, .lst (ds.set j d)) :: own2) σ H' → WSs X rest D σ H')
    (ha : ∀ v, assign (.Subscript r b p1) X.env v = (do
      let ov ← holding [v] (eval r X.env)
      let iv ← holding [v, ov] (eval b X.env)
      standAt p1
      holding [v, ov, iv] (setItem ov iv v)
      release [v, ov, iv] []) := by intro _; rfl)
    (hs : swapsWithSole [.Subscript r b p1] e pos.line X.env = pure false := by rfl) (hw : swappedStores [.Subscript r b p1] e X.env = pure none := by rfl)
    (ht : (assignEach [.Subscript r b p1] X.env).map (·.2) = [assign (.Subscript r b p1) X.env] := by rfl) : WSs X (.Assign [.Subscript r b p1] e pos :: rest) D σ H := by
  refine wss (pss_cons (ps_asg smE (pg_sub smE smE set_list ha) hs hw ht) smSs) ?_
  refine h σ H S _ fun v H1 ⟨B1, s1, E1, o1, z1⟩ => ?_
  refine hr.run (S := ⟨B1, s1, E1, o1⟩) ?_
  subst hown
  refine hj σ B1 H1 E1 s1.bh _ fun w B2 H2 s2 z2 => ?_
  have o2 := o1.stp s2
  obtain ⟨g1, g2, g3, ys, g4, g5⟩ := o2.all (i, l, .lst ds) (by simp)
  refine ⟨l, ys, (j : Int), j, rfl, z2.int_inv, g4, ?_, k _ (sta_upd (s1.trans s2) (E1.ex s2.bb) o2 ⟨ys.set j v, upd_same, g5.set (z1.ex s2.bb) j⟩)⟩
  unfold ixN
  rw [g5.length, if_pos (by omega), if_pos (by omega), Int.toNat_natCast]
theorem s_putTR (hr : RV X env own r l) (hown : own = own1 ++ (i, l, .dct t) :: own2) (S : Sta B0 H0 env own σ H) (hu : X.A.units + 1 < cLine) (h : PD X e env (.bool w)) (hj : EV X B0 H0 env own b (.tuple [.int (n : Int), .int (m : Int)])) (hz : t.length < 100000)
    (k : ∀ H', Sta B0 H0 env (own1 ++ (i, l, .dct (putT t n m w)) :: own2) σ H' → WSs X rest D σ H')
    (hs : swapsWith e (some (.Subscript r b p1)) pos.line X.env = pure false := by rfl) : WSs X (.Assign [.Subscript r b p1] e pos :: rest) D σ H := by
  refine wss (pss_cons (ps_dput hu smE smE smE hs) smSs) ?_
  obtain ⟨B, s, E, o⟩ := S
  refine h σ B H E s.bh _ fun v B1 H1 s1 z1 => ?_
  have S1 : Sta B0 H0 env own σ H1 := ⟨B1, s.trans s1, E.ex s1.bb, o.stp s1⟩
  refine hr.run S1 ?_
  refine hj σ H1 S1 _ fun y H2 ⟨B2, s2, E2, o2, z2⟩ => ?_
  subst hown
  obtain ⟨_, _, _, g4⟩ := o2.all (i, l, .dct t) (by simp)
  have g4 : H2 l = some (.dT (kvT t)) := g4
  obtain ⟨q, rfl, g5⟩ := key_of_dz z2
  refine ⟨l, _, rfl, DPut.t (k := kyT n m) g4 (s2.bh _ _ g5) (szl (by simp only [kvT, List.length_map]; exact hz)), ?_⟩
  rw [z1.bl_inv, put_kvT]
  exact k _ (sta_upd s2 E2 o2 upd_same)
end
end JH
set_option Elab.async false
set_option linter.all false
set_option maxRecDepth 100000
set_option maxHeartbeats 4000000
/-! more changes; defs that are handed what they change -/
namespace JH
open PySem PySem.Spec L2
open Evl (Ex Ex.refl Ex.trans Ex.new Ex.mut)
/-- other labels, another order; some may be let go -/
theorem Sta.relab {B0 H0 H : Hp} {env : Ev} {own own' : Own} {σ : L2.St} (S : Sta B0 H0 env own σ H) (h : ∀ p ∈ own', ∃ q ∈ own, q.2 = p.2 ∧ (p.1 < 1000 → q.1 = p.1)) (nd : (own.map (·.2.1)).Nodup → (own'.map (·.2.1)).Nodup) : Sta B0 H0 env own' σ H := by
  obtain ⟨B, s, E, o⟩ := S
  refine ⟨B, s, E, fun p hp => ?_, nd o.nd⟩
  obtain ⟨q, h1, h2, h3⟩ := h p hp
  obtain ⟨a, b, c, d⟩ := o.all q h1
  rw [h2] at a b c d
  exact ⟨fun hi => by rw [← h3 hi]; exact a (by rw [h3 hi]; exact hi), b, c, d⟩
section
variable {X : Cx} {B0 H0 H : Hp} {env : Ev} {own : Own} {σ : L2.St} {d d' : PyData} {ds : List PyData} {e r b : Expr} {rest : List Stmt} {D : Ends} {pos apos cpos p1 : Pos} {l a aa dx : Addr} {i j : Nat} {own1 own2 : Own} {t : Tbl} {n m : Nat} {c : OC} {f : Str}
/-- a new list, one's own from now on -/
def EN (X : Cx) (env : Ev) (own : Own) (e : Expr) (ds : List PyData) : Prop := ∀ (B0 H0 : Hp) (σ : L2.St) (H : Hp), Sta B0 H0 env own σ H → ∀ Q : VK, (∀ p H1, Sta B0 H0 env ((1500, p, .lst ds) :: own) σ H1 → Q (.ref p) H1) → WE X e σ H Q
theorem own_new {B H1 : Hp} (s : Stp B0 H0 B H) (E : En σ B env) (o : OwnOk B0 H0 B H own σ) {B2 : Hp} {p : Addr} {xs : List V} (n1 : H p = none) (s2 : Stp B H B2 H1) (h1 : B2 p = some (.lst xs)) (z1 : DzAll B2 xs ds) (fz1 : fzA ds = true) : Sta B0 H0 env ((1500, p, .lst ds) :: own) σ H1 := by
  have nB : B p = none := ex_none s.bh n1
  have s3 : Stp B H (rm B2 p) H1 := ⟨rm_ex nB s2.bb, rm_le s2.bh, s2.hh, fun a h hb => by
    by_cases ha : a = p
    · rw [ha]; exact rm_self
    · rw [rm_ne ha]; exact s2.av a h hb⟩
  have a2 : DzAll (rm B2 p) xs ds := DzAll.tex (fun a ys h => by
    have ha : a ≠ p := fun ha => by
      rw [ha, h1] at h
      cases h
    rw [rm_ne ha]
    exact h) ds fz1 z1
  have o2 := o.stp s3
  refine ⟨rm B2 p, s.trans s3, E.ex s3.bb, fun q hq => ?_, ?_⟩
  · rcases List.mem_cons.mp hq with rfl | hq
    · exact ⟨fun z => absurd z (show ¬ (1500 : Nat) < 1000 by decide), rm_self, ex_h0 s n1, xs, s2.bh _ _ h1, a2⟩
    · exact o2.all q hq
  · refine List.nodup_cons.mpr ⟨fun hm => ?_, o.nd⟩
    obtain ⟨q, hq, e⟩ := List.mem_map.mp hm
    exact OC.there (o.all q hq).2.2.2 (by rw [e]; exact n1)
theorem en_pf (h : PF X e env ds) (fz1 : fzA ds = true) : EN X env own e ds := fun B0 H0 σ H ⟨B, s, E, o⟩ Q q => h σ B H E s.bh _ fun p xs B1 H1 n1 s1 h1 z1 => q p H1 (own_new s E o n1 s1 h1 z1 fz1)
theorem en_show (i : Nat) (hm : (i, a, c) ∈ own) (hd : Reads1 own a d') (h : PF X e (env.set i (some d')) ds) (fz1 : fzA ds = true) (hi : i < 1000 := by decide) : EN X env own e ds := fun B0 H0 σ H ⟨B, s, E, o⟩ Q q => by
  have sh := shown_of s.bh o
  have E' := (E.ex sh.up).set i (hd _ sh.at_)
  rw [set_same ((o.all _ hm).1 hi)] at E'
  refine h σ _ H E' sh.le _ fun p xs B1 H1 n1 s1 h1 z1 => ?_
  obtain ⟨s2, t2⟩ := sh.back B1 H1 s1
  exact q p H1 (own_new s E o n1 s2 (by rw [rms_out (rms_new (B1 := B1) (H1 := H1) o n1)]; exact h1) (DzAll.tex t2 ds fz1 z1) fz1)
def putFA (f : Str) (r : Arg) : List (Str × Arg) → List (Str × Arg)
  | [] => [(f, r)]
  | (g, x) :: t => if g = f then (g, r) :: t else (g, x) :: putFA f r t
theorem fsAt_put {B : Hp} {v : V} {r : Arg} (hv : r.at_ B v) : ∀ {vs : List (Str × V)} {fs : List (Str × Arg)}, FsAt B vs fs → FsAt B (putF f v vs) (putFA f r fs)
  | _, _, .nil => .cons ⟨rfl, hv⟩ .nil
  | _, _, .cons (a := (g, x)) (b := (g', y)) h t => by
    obtain ⟨e1, e2⟩ := h
    have e1 : g = g' := e1
    subst e1
    unfold putF putFA
    by_cases q : g = f
    · rw [if_pos q, if_pos q]
      exact .cons ⟨rfl, hv⟩ t
    · rw [if_neg q, if_neg q]
      exact .cons ⟨rfl, e2⟩ (fsAt_put hv t)
/-- o.f = a new list -/
theorem s_fldR (T : Tx X.w X.K X.mg) {fs : List (Str × Arg)} (hr : ∀ p, RV X env ((1500, p, .lst ds) :: own) r aa) (hown : own = own1 ++ (i, aa, .ins (HA X.K) dx fs) :: own2) (S : Sta B0 H0 env own σ H) (h : EN X env own e ds) (nf : NoAttr X.K (HA X.K) f) (hlen : fs.length < 1000)
    (k : ∀ p H', Sta B0 H0 env (((1500, p, .lst ds) :: own1) ++ (i, aa, .ins (HA X.K) dx (putFA f (.ref (.ref p)) fs)) :: own2) σ H' → WSs X rest D σ H') (hs : swapsWith e (some (.Attribute r f p1)) pos.line X.env = pure false := by rfl) : WSs X (.Assign [.Attribute r f p1] e pos :: rest) D σ H := by
  refine wss (pss_cons (ps_fld smE smE hs) smSs) ?_
  refine h B0 H0 σ H S _ fun p H1 S1 => ?_
  refine (hr p).run S1 ?_
  subst hown
  obtain ⟨B, s, E, o⟩ := S1
  obtain ⟨_, _, _, vs, g1, g2⟩ := o.all (i, aa, .ins (HA X.K) dx fs) (by simp)
  have hl : vs.length = fs.length := Paired.length g2
  refine ⟨aa, _, dx, vs, rfl, g1, T.cl, nf, by omega, k p _ ?_⟩
  exact sta_upd (own1 := (1500, p, .lst ds) :: own1) (c' := .ins (HA X.K) dx (putFA f (.ref (.ref p)) fs)) s E o ⟨_, upd_same, fsAt_put (show Arg.at_ B (V.ref p) (.ref (.ref p)) from rfl) g2⟩
/-- t.pop(k, None), dropped -/
theorem s_popTR {c0 : Expr} (hr : RV X env own r l) (hown : own = own1 ++ (i, l, .dct t) :: own2) (S : Sta B0 H0 env own σ H) (hu : X.A.units + 1 < cLine) (h : PDs X [b, c0] env [.tuple [.int (n : Int), .int (m : Int)], .none]) (k : ∀ H', Sta B0 H0 env (own1 ++ (i, l, .dct (dropT t n m)) :: own2) σ H' → WSs X rest D σ H')
    (hbase : attributeBase r "pop" X.env (eval r X.env) = eval r X.env := by rfl)
    (hfew : ((backTo cpos (starEach [b, c0] X.env)).all (fun x => !x.1) && (backToKw cpos (keywordEach [] X.env)).all (fun x => x.1.isSome)
      && decide ([b, c0].length + ([] : List Keyword).length + (if ([] : List Keyword).isEmpty then 0 else 1) < 30)) = true := by rfl)
    (hline : (apos.endLine == cpos.line) = true := by rfl) (hs : starEach [b, c0] X.env = (false, eval b X.env) :: starEach [c0] X.env := by rfl) (hplain : (backTo cpos (starEach [c0] X.env)).any (·.1) = false := by rfl)
    (hsw : swapsWith (.Call (.Attribute r "pop" apos) [b, c0] [] cpos) none pos.line X.env = pure false := by rfl) : WSs X (.Expr (.Call (.Attribute r "pop" apos) [b, c0] [] cpos) pos :: rest) D σ H := by
  refine wss (pss_cons (ps_expr (pe_bm PySem.F.plainAttrs_dict PySem.F.slot_dict_pop PySem.F.type_dict_pop (L2.DX.mt_popT hu) smE smA hbase hfew hline hs hplain) hsw) smSs) ?_
  refine hr.run S ?_
  subst hown
  obtain ⟨B, s, E, o⟩ := S
  obtain ⟨_, _, _, h4⟩ := o.all (i, l, .dct t) (by simp)
  have h4 : H l = some (.dT (kvT t)) := h4
  refine ⟨.inr (.inr (.inl ⟨rfl, .inr ⟨_, h4⟩⟩)), ?_⟩
  refine h σ B H E s.bh _ fun vs B1 H1 s1 z1 => ?_
  obtain ⟨y, u, rfl, z2, z3⟩ := z1.two
  obtain ⟨q, rfl, g5⟩ := key_of_dz z2
  have o1 := o.stp s1
  obtain ⟨_, _, _, g4⟩ := o1.all (i, l, .dct t) (by simp)
  have g4 : H1 l = some (.dT (kvT t)) := g4
  refine ⟨l, _, kyT n m, q, u, rfl, rfl, g4, s1.bh _ _ g5, fun v hv => ?_, fun hv => ?_⟩
  · rw [drop_kvT]
    exact k _ (sta_upd (s.trans s1) (E.ex s1.bb) o1 upd_same)
  · have e : dropT t n m = t := by
      unfold dropT
      refine List.filter_eq_self.mpr fun p hp => decide_eq_true fun e => ?_
      have h0 : look t n m = none := by
        rw [val_kvT] at hv
        cases q : look t n m with
        | none => rfl
        | some b => rw [q] at hv; cases hv
      exact look_none.mp h0 (List.mem_map.mpr ⟨p, hp, e⟩)
    rw [e] at k
    exact k _ ⟨B1, s.trans s1, E.ex s1.bb, o1⟩
def putKA (f : Str) (r : Arg) (fs : List (Str × Arg)) : List (Str × Arg) := fs.map fun p => if p.1 = f then (p.1, r) else p
theorem ksAt_put {B : Hp} {v : V} {r : Arg} (hv : r.at_ B v) {vs : List (Key × V)} {fs : List (Str × Arg)} (h : KsAt B vs fs) (hf : f ∈ fs.map (·.1)) : KsAt B (putK vs (Sum.inr f) v) (putKA f r fs) := by
  have hany : (vs.any fun p => decide (p.1 = Sum.inr f)) = true := by
    obtain ⟨q, h1, h2⟩ := List.mem_map.mp hf
    clear hf
    induction h with
    | nil => cases h1
    | cons z t ih =>
      rw [List.any_cons]
      rcases List.mem_cons.mp h1 with rfl | h1
      · rw [decide_eq_true (by rw [z.1, h2])]
        rfl
      · rw [ih h1, Bool.or_true]
  unfold putK putKA
  rw [if_pos hany]
  clear hany hf
  induction h with
  | nil => exact .nil
  | cons z t ih =>
    rw [List.map_cons, List.map_cons]
    refine .cons ?_ ih
    rename_i p q _ _
    obtain ⟨p1, p2⟩ := p
    obtain ⟨q1, q2⟩ := q
    obtain ⟨e1, e2⟩ := z
    have e1 : p1 = Sum.inr q1 := e1
    subst e1
    by_cases c : q1 = f
    · subst c
      rw [if_pos rfl, if_pos rfl]
      exact ⟨rfl, hv⟩
    · rw [if_neg (fun z => c (Sum.inr.inj z)), if_neg c]
      exact ⟨rfl, e2⟩
/-- s['k'] = a new list -/
theorem s_dkR {ks : List (Str × Arg)} {jj : Nat} {p2 : Pos} (hr : ∀ p, RV X env ((1500, p, .lst ds) :: own) r aa) (hown : own = own1 ++ (i, aa, .dk ks) :: own2) (S : Sta B0 H0 env own σ H) (hu : X.A.units + 1 < cLine) (h : EN X env own e ds) (hf : f ∈ ks.map (·.1)) (hlen : ks.length < 1000)
    (k : ∀ p H', Sta B0 H0 env (((1500, p, .lst ds) :: own1) ++ (i, aa, .dk (putKA f (.ref (.ref p)) ks)) :: own2) σ H' → WSs X rest D σ H') (hs : swapsWith e (some (.Subscript r (.Constant (.str f) jj p2) p1)) pos.line X.env = pure false := by rfl) : WSs X (.Assign [.Subscript r (.Constant (.str f) jj p2) p1] e pos :: rest) D σ H := by
  refine wss (pss_cons (ps_dput hu smE smE smE hs) smSs) ?_
  refine h B0 H0 σ H S _ fun p H1 S1 => ?_
  refine (hr p).run S1 ?_
  refine we pe_str ?_
  subst hown
  obtain ⟨B, s, E, o⟩ := S1
  obtain ⟨_, _, _, vs, g1, g2⟩ := o.all (i, aa, .dk ks) (by simp)
  have hl : vs.length = ks.length := Paired.length g2
  refine ⟨aa, _, rfl, DPut.k (k := Sum.inr f) g1 (szl (by omega)), k p _ ?_⟩
  exact sta_upd (own1 := (1500, p, .lst ds) :: own1) (c' := .dk (putKA f (.ref (.ref p)) ks)) s E o ⟨_, upd_same, ksAt_put (show Arg.at_ B (V.ref p) (.ref (.ref p)) from rfl) g2 hf⟩
end
/-! ### a def that is handed what it changes -/
def envA (N : List Str) (as : List Arg) : Ev := (as.map fun a => match a with
  | .dat d => some d
  | .ref _ => none) ++ List.replicate (N.length - as.length) none
theorem en_startA {N : List Str} {B : Hp} {vs : List V} {as : List Arg} (h : ArgsAt B vs as) (hl : vs.length ≤ N.length) : En (L2.start N vs) B (envA N as) := by
  have e := h.len
  refine ⟨by simp [L2.start, envA, e], fun i d q => ?_⟩
  unfold envA at q
  have hi : i < as.length := by
    by_cases hi : i < as.length
    · exact hi
    · rw [List.getElem?_append_right (by simpa using hi)] at q
      rw [List.getElem?_replicate] at q
      split at q <;> cases q
  rw [List.getElem?_append_left (by simpa using hi), List.getElem?_map] at q
  obtain ⟨a, h1, h2⟩ := Option.map_eq_some_iff.mp q
  cases a with
  | ref v => cases h2
  | dat d' =>
    cases h2
    obtain ⟨v, h3, h4⟩ := h.get h1
    refine ⟨v, ?_, h4⟩
    unfold L2.start
    rw [List.getElem?_append_left (by simp; omega), List.getElem?_map, h3]
    rfl
section
variable {P : Program} {w : World} {K : PySem.W.Frag} {mg : Str → Option Value} {base : Heap}
theorem fn_O0 {x qual : Str} {params : Arguments} {body : List Stmt} {scope : Scope} {N ps : List Str} {k : Nat} {R : SR} {f : Addr} {fd : FuncData} (F : FunD K x qual params body scope [] [] f fd) (S : FnScope N ps scope)
    (hl : ∀ as own Po, R as own Po → as.length = ps.length) (hN : ps.length ≤ N.length)
    (h : ∀ (cdv : Value) (A : Around) (outer : List Env) (s : Shared) (H0 : Hp) (E : XK) (B0 : Hp) (own : Own) (as : List Arg) (Po : Post) (vs : List V) (Q : VK), Room k (A.deeper (PyProof.Rows.envOfC qual scope s.heap.objs.size f cdv)) → R as own Po → Sta B0 (rms H0 own) (envA N as) own (L2.start N vs) H0 →
      (∀ v r own' B1 H1, Po r own' → Stp B0 (rms H0 own) B1 H1 → OwnAt B1 H1 own' → (∀ p ∈ own', rms H0 own p.2.1 = none) → r.at_ B1 v → Q v H1) →
      WSs (cxOf CX0 P w K mg base N qual scope f cdv A outer s H0 E).nox body { nx := fun _ H' => Q .non H', rt := Q } (L2.start N vs) H0) : FnOk P w K mg base CX0 (k + 1) f fd ps (spO R) := by
  refine F.ok S (fun vs H Q E h => ?_) (fun cdv A outer s H vs Q E hr h' => ?_)
  · obtain ⟨B, own, as, Po, eb, oa, ha, _, r, _⟩ := h
    rw [ha.len, hl as own Po r]
  · obtain ⟨B, own, as, Po, eb, oa, ha, hs, r, q⟩ := h'
    refine ⟨_, PSs.nox smSs, h cdv A outer s H E B own as Po vs Q hr r ⟨B, ⟨Ex.refl _, eb, .of rms_ex, fun _ _ h => h⟩, en_startA ha ?_, fun p hp => ?_, oa.2⟩ q⟩
    · rw [ha.len, hl as own Po r]
      exact hN
    · obtain ⟨a1, a2⟩ := oa.1 p hp
      refine ⟨fun hi => ?_, a1, rms_in (List.mem_map.mpr ⟨p, hp, rfl⟩), a2⟩
      obtain ⟨v, h3, h4⟩ := ha.get (hs p hp hi)
      have h4 : v = .ref p.2.1 := h4
      unfold L2.start
      rw [List.getElem?_append_left (by simp; exact (List.getElem?_eq_some_iff.mp h3).1), List.getElem?_map, h3, h4]
      rfl
end
end JH
set_option Elab.async false
set_option linter.all false
set_option maxRecDepth 100000
set_option maxHeartbeats 4000000
/-! the hall's methods that change it -/
namespace JH
open PySem PySem.Spec L2
open Evl (Ex Ex.refl Ex.trans Ex.new Ex.mut)
structure HAd where
  a : Addr
  dx : Addr
  lo : Addr
  lt : Addr
  lw : Addr
  le : Addr
abbrev hallFs (A : HAd) (C : Ct) : List (Str × Arg) := [("contest", .dat (encC C)), ("offered", .ref (.ref A.lo)), ("table", .ref (.ref A.lt)), ("works", .ref (.ref A.lw)), ("events", .ref (.ref A.le))]
abbrev hallOwn (K : PySem.W.Frag) (i : Nat) (A : HAd) (C : Ct) (h : HS) : Own :=
  [(i, A.a, .ins (HA K) A.dx (hallFs A C)), (1001, A.dx, .own A.a), (1002, A.lo, .lst (h.T.map encTr)), (1003, A.lt, .dct h.t), (1004, A.lw, .lst (h.W.map encWo)), (1005, A.le, .lst (h.ev.map encE))]
theorem hall_reads {K : PySem.W.Frag} {i : Nat} {A : HAd} {C : Ct} {h : HS} {own : Own} (hs : ∀ p ∈ hallOwn K i A C h, ∃ q ∈ own, q.2 = p.2) : Reads1 own A.a (hallD K C h) := fun B k => by
  have k2 : ∀ p ∈ hallOwn K i A C h, OC.at_ B B p.2.1 p.2.2 := fun p hp => by
    obtain ⟨q, h1, h2⟩ := hs p hp
    have := k q h1
    rw [h2] at this
    exact this
  obtain ⟨vs, g1, g2⟩ := k2 _ List.mem_cons_self
  obtain ⟨xo, o1, o2⟩ := k2 (1002, A.lo, .lst (h.T.map encTr)) (by simp)
  have t1 : B A.lt = some (.dT (kvT h.t)) := k2 (1003, A.lt, .dct h.t) (by simp)
  obtain ⟨xw, w1, w2⟩ := k2 (1004, A.lw, .lst (h.W.map encWo)) (by simp)
  obtain ⟨xe, e1, e2⟩ := k2 (1005, A.le, .lst (h.ev.map encE)) (by simp)
  cases g2 with
  | cons z1 g2 =>
    cases g2 with
    | cons z2 g2 =>
      cases g2 with
      | cons z3 g2 =>
        cases g2 with
        | cons z4 g2 =>
          cases g2 with
          | cons z5 g2 =>
            cases g2
            rename_i p1 p2 p3 p4 p5
            obtain ⟨n1, v1⟩ := p1
            obtain ⟨n2, v2⟩ := p2
            obtain ⟨n3, v3⟩ := p3
            obtain ⟨n4, v4⟩ := p4
            obtain ⟨n5, v5⟩ := p5
            obtain ⟨a1, b1⟩ := z1
            obtain ⟨a2, b2⟩ := z2
            obtain ⟨a3, b3⟩ := z3
            obtain ⟨a4, b4⟩ := z4
            obtain ⟨a5, b5⟩ := z5
            have a1 : n1 = "contest" := a1
            have a2 : n2 = "offered" := a2
            have a3 : n3 = "table" := a3
            have a4 : n4 = "works" := a4
            have a5 : n5 = "events" := a5
            have b2 : v2 = .ref A.lo := b2
            have b3 : v3 = .ref A.lt := b3
            have b4 : v4 = .ref A.lw := b4
            have b5 : v5 = .ref A.le := b5
            subst a1 a2 a3 a4 a5 b2 b3 b4 b5
            exact .ins g1 (.cons b1 (.cons (.lst o1 o2) (.cons (.tab t1) (.cons (.lst w1 w2) (.cons (.lst e1 e2) .nil))))) rfl
theorem hall_self {K : PySem.W.Frag} {i : Nat} {A : HAd} {C : Ct} {h : HS} : Reads1 (hallOwn K i A C h) A.a (hallD K C h) := hall_reads fun p hp => ⟨p, hp, rfl⟩
def lastT (T : List Tr) : Nat := match T.getLast? with
  | some x => x.time
  | none => 0
theorem last_map {T : List Tr} (hne : T ≠ []) : T.map encTr = T.dropLast.map encTr ++ [.tuple [nI (T.getLast hne).team, nI (T.getLast hne).task, nI (T.getLast hne).time]] := by
  have e := congrArg (List.map encTr) (List.dropLast_concat_getLast hne)
  rw [List.map_append] at e
  exact e.symm
def offerS (h : HS) (x : Tr) : HS := { h with T := h.T ++ [x], ev := h.ev ++ [.offer x] }
structure OfOk (C : Ct) (h : HS) (x : Tr) : Prop where
  trv : Trv C x
  last : lastT h.T ≤ x.time
  room : h.T.length < 200
  evl : h.ev.length < 1000
def R_offer (K : PySem.W.Frag) : SR := fun as own Po => ∃ A C h x, OfOk C h x ∧ as = [.ref (.ref A.a), .dat (nI x.team), .dat (nI x.task), .dat (nI x.time)] ∧ own = hallOwn K 0 A C h ∧ Po = fun r o => r = .dat (nI h.T.length) ∧ o = hallOwn K 0 A C (offerS h x)
section
variable {P : Program} {w : World} {K : PySem.W.Frag} {mg : Str → Option Value} {base : Heap}
theorem ntA_Trs (l : List Tr) : nt (encTs l) = true := by
  simp only [encTs, nt]
  exact ntA_map (fun _ => rfl) l
theorem ok_h_offer (T : Tx w K mg) : KnM P w K mg base "offer" 2 ["self", "team", "task", "time"] (spO (R_offer K)) := by
  obtain ⟨fd, F⟩ := T.d_h_offer
  refine ⟨_, fd, fn_O0 F sc_h_offer (fun as own Po ⟨_, _, _, _, _, e, _⟩ => by rw [e]; rfl) (by decide) ?_, T.m_h_offer, F.bindsN b_h_offer⟩
  rintro cdv A outer s H0 E B0 own as Po vs Q hr ⟨Ad, C, h, x, ok, rfl, rfl, rfl⟩ S hQ
  obtain ⟨⟨t1, t2, t3⟩, tl, tr, te⟩ := ok
  refine s_if0 S (tv_show 0 List.mem_cons_self hall_self (PQ.to (pq_not (pq_val (pd_btw T hr (pd_var 1 rfl) pd_int (pd_bin rd_sub (pd_ixT (n := 1) (pd_fld T (d := encC C) (pd_var 0 rfl) rfl T.n_contest) pd_int rfl) pd_int)))) (by simp; omega))) fun H' S => ?_
  refine s_if0 S (tv_show 0 List.mem_cons_self hall_self (PQ.to (pq_not (pq_val (pd_btw T hr (pd_var 2 rfl) pd_int (pd_bin rd_sub (pd_blt cd_lenT T.f_len bb_len (pds_cons (pd_ixT (n := 4) (pd_fld T (d := encC C) (pd_var 0 rfl) rfl T.n_contest) pd_int rfl) pds_nil)) pd_int)))) (by simp; omega))) fun H' S => ?_
  refine s_if0 S (tv_show 0 List.mem_cons_self hall_self (PQ.to (pq_not (pq_val (pd_btw (l := (lastT h.T : Int)) T hr (pd_var 3 rfl) (pd_if (PQ.to (pq_cmp (rd_neD (d1 := encTs h.T) (d2 := .list []) hr.units (ntA_Trs _) rfl (shaped_Trs _) shaped_nil) (pd_fld T (pd_var 0 rfl) rfl T.n_offered) (PF.pd (pf_lst pds_nil))) (by rw [show encTs h.T = .list (h.T.map encTr) from rfl, eqv_nil]))
    (fun hne => ?_) fun he => PD.to pd_int ?_) (pd_gi T.i_MOST_TIME)))) (by simp; omega))) fun H' S => ?_
  · have hne : h.T ≠ [] := fun z => by
      rw [z] at hne
      cases hne
    refine PD.to (pd_ixT (n := 2) (ds := [nI (h.T.getLast hne).team, nI (h.T.getLast hne).task, nI (h.T.getLast hne).time]) (pd_last (ds := h.T.map encTr) (ds' := h.T.dropLast.map encTr) (pd_fld T (pd_var 0 rfl) rfl T.n_offered) (pd_neg 1 pd_int) (last_map hne)) pd_int rfl) ?_
    unfold lastT
    rw [List.getLast?_eq_some_getLast hne]
  · have he : h.T = [] := by simpa using he
    rw [he]
    rfl
  refine s_if0 S (tv_show 0 List.mem_cons_self hall_self (PQ.to (pq_cmp rd_eqI (pd_blt cd_lenL T.f_len bb_len (pds_cons (pd_fld T (d := .list (h.T.map encTr)) (pd_var 0 rfl) rfl T.n_offered) pds_nil)) (pd_gi T.i_MOST_TRIES)) (by simp; omega))) fun H' S => ?_
  refine s_appR (rv_fld T (rv_var (i := 0) List.mem_cons_self) List.mem_cons_self rfl T.n_offered) (own1 := [(0, Ad.a, .ins (HA K) Ad.dx (hallFs Ad C)), (1001, Ad.dx, .own Ad.a)]) rfl S (d := encTr x) (PD.ev (pd_tup (pds_cons (pd_var 1 rfl) (pds_cons (pd_var 2 rfl) (pds_cons (pd_var 3 rfl) pds_nil))))) (fun H' S => ?_) (by rw [List.length_map]; omega)
  refine s_appR (rv_fld T (rv_var (i := 0) List.mem_cons_self) List.mem_cons_self rfl T.n_events) (own1 := [(0, Ad.a, .ins (HA K) Ad.dx (hallFs Ad C)), (1001, Ad.dx, .own Ad.a), (1002, Ad.lo, .lst (h.T.map encTr ++ [encTr x])), (1003, Ad.lt, .dct h.t), (1004, Ad.lw, .lst (h.W.map encWo))]) rfl S (d := encE (.offer x)) (PD.ev (pd_tup (pds_cons pd_str (pds_cons (pd_var 1 rfl) (pds_cons (pd_var 2 rfl) (pds_cons (pd_var 3 rfl) pds_nil)))))) (fun H' S => ?_) (by rw [List.length_map]; omega)
  have e1 : h.T.map encTr ++ [encTr x] = (offerS h x).T.map encTr := by simp [offerS]
  have e2 : h.ev.map encE ++ [encE (.offer x)] = (offerS h x).ev.map encE := by simp [offerS]
  rw [e1, e2] at S
  have S : Sta B0 _ _ (hallOwn K 0 Ad C (offerS h x)) _ H' := S
  refine s_retE S (eo_show 0 List.mem_cons_self hall_self (PD.to (pd_bin rd_sub (pd_blt cd_lenL T.f_len bb_len (pds_cons (pd_fld T (d := .list ((offerS h x).T.map encTr)) (pd_var 0 rfl) rfl T.n_offered) pds_nil)) pd_int) (d1 := nI h.T.length) ?_) rfl) fun v r own' B1 H1 ⟨hr1, ho1⟩ st oa fr z => ?_
  · simp [offerS, nI]
  · subst hr1
    subst ho1
    exact hQ v _ _ B1 H1 ⟨rfl, rfl⟩ st oa fr z
def takeS (h : HS) (j : Nat) (p : Nat × Nat) : HS := { h with W := h.W.set j (some p), ev := h.ev ++ [.take j p] }
def takeR (C : Ct) (h : HS) (j : Nat) : PyData × HS := match freeOf C h with
  | [] => (.none, h)
  | p :: _ => (encW p, takeS h j p)
def tellS (h : HS) (j : Nat) (p : Nat × Nat) (b : Bool) : HS := { h with t := putT h.t p.1 p.2 b, W := h.W.set j none, ev := h.ev ++ [.tell j b] }
def fallS (h : HS) (j : Nat) : HS := { h with W := h.W.set j none, ev := h.ev ++ [.fall j] }
def R_take (K : PySem.W.Frag) : SR := fun as own Po => ∃ A C h j, HOk C h ∧ j < h.W.length ∧ h.W.getD j none = none ∧ h.ev.length < 1000 ∧ as = [.ref (.ref A.a), .dat (nI j)] ∧ own = hallOwn K 0 A C h ∧ Po = fun r o => r = .dat (takeR C h j).1 ∧ o = hallOwn K 0 A C (takeR C h j).2
def R_tell (K : PySem.W.Frag) : SR := fun as own Po => ∃ A C h j p b, j < h.W.length ∧ h.W.getD j none = some p ∧ h.ev.length < 1000 ∧ h.t.length < 100000 ∧ as = [.ref (.ref A.a), .dat (nI j), .dat (.bool b)] ∧ own = hallOwn K 0 A C h ∧ Po = fun r o => r = .dat .none ∧ o = hallOwn K 0 A C (tellS h j p b)
def R_fall (K : PySem.W.Frag) : SR := fun as own Po => ∃ A C h j, j < h.W.length ∧ h.ev.length < 1000 ∧ as = [.ref (.ref A.a), .dat (nI j)] ∧ own = hallOwn K 0 A C h ∧ Po = fun r o => r = .dat .none ∧ o = hallOwn K 0 A C (fallS h j)
theorem set_Wo (W : List (Option (Nat × Nat))) (j : Nat) (o : Option (Nat × Nat)) : (W.map encWo).set j (encWo o) = (W.set j o).map encWo := by rw [List.map_set]
theorem w_at {W : List (Option (Nat × Nat))} {j : Nat} {o : Option (Nat × Nat)} (h : j < W.length) (e : W.getD j none = o) : (W.map encWo)[j]? = some (encWo o) := by rw [← e]; exact w_get h
abbrev own2 (K : PySem.W.Frag) (A : HAd) (C : Ct) : Own := [(0, A.a, .ins (HA K) A.dx (hallFs A C)), (1001, A.dx, .own A.a)]
theorem ok_h_take (T : Tx w K mg) : KnM P w K mg base "take" 8 ["self", "judge"] (spO (R_take K)) := by
  obtain ⟨fd, F⟩ := T.d_h_take
  refine ⟨_, fd, fn_O0 F sc_h_take (fun as own Po ⟨_, _, _, _, _, _, _, _, e, _⟩ => by rw [e]; rfl) (by decide) ?_, T.m_h_take, F.bindsN b_h_take⟩
  rintro cdv A outer s H0 E B0 own as Po vs Q hr ⟨Ad, C, h, j, ok, hj, hw, te, rfl, rfl, rfl⟩ S hQ
  refine s_drop S (ev_show 0 List.mem_cons_self hall_self (pd_meth T (ok_h_need_judge T) (hr.mono (by decide)) (pd_var 0 rfl) (pds_cons (pd_var 1 rfl) pds_nil) ⟨C, h, j, hj, rfl, rfl⟩) rfl) fun H' S => ?_
  refine s_if0 S (tv_show 0 List.mem_cons_self hall_self (PQ.to (pq_cmp rd_notN (pd_ixL (n := j) (pd_fld T (d := .list (h.W.map encWo)) (pd_var 0 rfl) rfl T.n_works) (pd_var 1 rfl) (w_at hj hw)) pd_non) rfl)) fun H' S => ?_
  refine s_set 2 S (d := .list ((freeOf C h).map encW)) (ev_showF 0 List.mem_cons_self hall_self (pf_meth0 T (ok_h_free T) hr (pd_var 0 rfl) ⟨C, h, ok, rfl, rfl⟩) (fzA_map (fun _ => rfl) _)) (fun σ H' S => ?_) sc_h_take.nd
  have hnt : nt (.list ((freeOf C h).map encW)) = true := by
    simp only [nt]
    exact ntA_map nt_W _
  have hsh : SeqAt.shaped (.list ((freeOf C h).map encW)) = true := shaped_list lay_W dep_W (by decide) _
  unfold takeR at hQ
  generalize freeOf C h = f at S hQ hnt hsh
  refine s_if S (PQ.tv (PQ.to (pq_cmp (rd_eqD (d1 := .list (f.map encW)) (d2 := .list []) hr.units hnt rfl hsh shaped_nil) (pd_var 2 rfl) (PF.pd (pf_lst pds_nil))) (eqv_nil _))) (fun he H' S => ?_) fun he H' S => s_nil ?_
  · cases f with
    | cons p f => cases he
    | nil => exact s_retE S (eo_pd pd_non) hQ
  · cases f with
    | nil => cases he
    | cons p f =>
      refine s_setiR (rv_fld T (rv_var (i := 0) List.mem_cons_self) List.mem_cons_self rfl T.n_works) (own1 := own2 K Ad C ++ [(1002, Ad.lo, .lst (h.T.map encTr)), (1003, Ad.lt, .dct h.t)]) rfl S (j := j) (d := encW p) (PD.ev (pd_ixL (n := 0) (pd_var 2 rfl) pd_int rfl)) (pd_var 1 rfl) (by rw [List.length_map]; exact hj) fun H' S => ?_
      rw [show encW p = encWo (some p) from rfl, set_Wo] at S
      refine s_appR (rv_fld T (rv_var (i := 0) List.mem_cons_self) List.mem_cons_self rfl T.n_events) (own1 := own2 K Ad C ++ [(1002, Ad.lo, .lst (h.T.map encTr)), (1003, Ad.lt, .dct h.t), (1004, Ad.lw, .lst ((h.W.set j (some p)).map encWo))]) rfl S (d := encE (.take j p)) (PD.ev (pd_bin (rd_catT (ds := [.str "take", nI j]) (es := [nI p.1, nI p.2]) (by simp)) (pd_tup (pds_cons pd_str (pds_cons (pd_var 1 rfl) pds_nil))) (pd_ixL (n := 0) (pd_var 2 rfl) pd_int rfl))) (fun H' S => ?_) (by rw [List.length_map]; omega)
      have e2 : h.ev.map encE ++ [encE (.take j p)] = (takeS h j p).ev.map encE := by simp [takeS]
      rw [e2] at S
      have S : Sta B0 _ _ (hallOwn K 0 Ad C (takeS h j p)) _ H' := S
      exact s_retE S (eo_pd (pd_ixL (n := 0) (pd_var 2 rfl) pd_int rfl)) hQ
theorem ok_h_tell (T : Tx w K mg) : KnM P w K mg base "tell" 3 ["self", "judge", "passed"] (spO (R_tell K)) := by
  obtain ⟨fd, F⟩ := T.d_h_tell
  refine ⟨_, fd, fn_O0 F sc_h_tell (fun as own Po ⟨_, _, _, _, _, _, _, _, _, _, e, _⟩ => by rw [e]; rfl) (by decide) ?_, T.m_h_tell, F.bindsN b_h_tell⟩
  rintro cdv A outer s H0 E B0 own as Po vs Q hr ⟨Ad, C, h, j, p, b, hj, hw, te, tt, rfl, rfl, rfl⟩ S hQ
  refine s_drop S (ev_show 0 List.mem_cons_self hall_self (pd_meth T (ok_h_need_judge T) (hr.mono (by decide)) (pd_var 0 rfl) (pds_cons (pd_var 1 rfl) pds_nil) ⟨C, h, j, hj, rfl, rfl⟩) rfl) fun H' S => ?_
  refine s_if0 S (tv_show 0 List.mem_cons_self hall_self (PQ.to (pq_cmp rd_isN (pd_ixL (n := j) (pd_fld T (d := .list (h.W.map encWo)) (pd_var 0 rfl) rfl T.n_works) (pd_var 1 rfl) (w_at hj hw)) pd_non) rfl)) fun H' S => ?_
  refine s_putTR (n := p.1) (m := p.2) (rv_fld T (rv_var (i := 0) List.mem_cons_self) List.mem_cons_self rfl T.n_table) (own1 := own2 K Ad C ++ [(1002, Ad.lo, .lst (h.T.map encTr))]) rfl S (rm1 hr) (pd_var 2 rfl) (ev_show 0 List.mem_cons_self hall_self (pd_ixL (n := j) (pd_fld T (d := .list (h.W.map encWo)) (pd_var 0 rfl) rfl T.n_works) (pd_var 1 rfl) (w_at hj hw)) rfl) tt fun H' S => ?_
  refine s_appR (rv_fld T (rv_var (i := 0) List.mem_cons_self) List.mem_cons_self rfl T.n_events) (own1 := own2 K Ad C ++ [(1002, Ad.lo, .lst (h.T.map encTr)), (1003, Ad.lt, .dct (putT h.t p.1 p.2 b)), (1004, Ad.lw, .lst (h.W.map encWo))]) rfl S (d := encE (.tell j b)) (PD.ev (pd_tup (pds_cons pd_str (pds_cons (pd_var 1 rfl) (pds_cons (pd_var 2 rfl) pds_nil))))) (fun H' S => ?_) (by rw [List.length_map]; omega)
  refine s_setiR (rv_fld T (rv_var (i := 0) List.mem_cons_self) List.mem_cons_self rfl T.n_works) (own1 := own2 K Ad C ++ [(1002, Ad.lo, .lst (h.T.map encTr)), (1003, Ad.lt, .dct (putT h.t p.1 p.2 b))]) rfl S (j := j) (d := .none) (PD.ev pd_non) (pd_var 1 rfl) (by rw [List.length_map]; exact hj) fun H' S => ?_
  have e2 : h.ev.map encE ++ [encE (.tell j b)] = (tellS h j p b).ev.map encE := by simp [tellS]
  rw [show PyData.none = encWo none from rfl, set_Wo, e2] at S
  have S : Sta B0 _ _ (hallOwn K 0 Ad C (tellS h j p b)) _ H' := S
  exact s_endE S fun v B1 H1 st oa fr z => hQ v (.dat .none) _ B1 H1 ⟨rfl, rfl⟩ st oa fr z
theorem ok_h_fall (T : Tx w K mg) : KnM P w K mg base "fall" 3 ["self", "judge"] (spO (R_fall K)) := by
  obtain ⟨fd, F⟩ := T.d_h_fall
  refine ⟨_, fd, fn_O0 F sc_h_fall (fun as own Po ⟨_, _, _, _, _, _, e, _⟩ => by rw [e]; rfl) (by decide) ?_, T.m_h_fall, F.bindsN b_h_fall⟩
  rintro cdv A outer s H0 E B0 own as Po vs Q hr ⟨Ad, C, h, j, hj, te, rfl, rfl, rfl⟩ S hQ
  refine s_drop S (ev_show 0 List.mem_cons_self hall_self (pd_meth T (ok_h_need_judge T) (hr.mono (by decide)) (pd_var 0 rfl) (pds_cons (pd_var 1 rfl) pds_nil) ⟨C, h, j, hj, rfl, rfl⟩) rfl) fun H' S => ?_
  refine s_setiR (rv_fld T (rv_var (i := 0) List.mem_cons_self) List.mem_cons_self rfl T.n_works) (own1 := own2 K Ad C ++ [(1002, Ad.lo, .lst (h.T.map encTr)), (1003, Ad.lt, .dct h.t)]) rfl S (j := j) (d := .none) (PD.ev pd_non) (pd_var 1 rfl) (by rw [List.length_map]; exact hj) fun H' S => ?_
  refine s_appR (rv_fld T (rv_var (i := 0) List.mem_cons_self) List.mem_cons_self rfl T.n_events) (own1 := own2 K Ad C ++ [(1002, Ad.lo, .lst (h.T.map encTr)), (1003, Ad.lt, .dct h.t), (1004, Ad.lw, .lst ((h.W.map encWo).set j .none))]) rfl S (d := encE (.fall j)) (PD.ev (pd_tup (pds_cons pd_str (pds_cons (pd_var 1 rfl) pds_nil)))) (fun H' S => ?_) (by rw [List.length_map]; omega)
  have e2 : h.ev.map encE ++ [encE (.fall j)] = (fallS h j).ev.map encE := by simp [fallS]
  rw [show PyData.none = encWo none from rfl, set_Wo, e2] at S
  have S : Sta B0 _ _ (hallOwn K 0 Ad C (fallS h j)) _ H' := S
  exact s_endE S fun v B1 H1 st oa fr z => hQ v (.dat .none) _ B1 H1 ⟨rfl, rfl⟩ st oa fr z
end
end JH
set_option Elab.async false
set_option linter.all false
set_option maxRecDepth 100000
set_option maxHeartbeats 4000000
/-! a loop over a list of one's own, while others change -/
namespace JH
open PySem PySem.Spec L2
open Evl (Ex Ex.refl Ex.trans Ex.new Ex.mut)
def Arg.fzO : Arg → Bool
  | .ref _ => true
  | .dat d => fz d
def OC.fzO : OC → Bool
  | .lst ds => fzA ds
  | .dct _ => true
  | .ins _ _ fs => fs.all fun p => p.2.fzO
  | .own _ => true
  | .dk ks => ks.all fun p => p.2.fzO
theorem Arg.at_.tex {B B' : Hp} {v : V} {a : Arg} (h : a.at_ B v) (t : TEx B B') (f : a.fzO = true) : a.at_ B' v := by
  cases a with
  | ref u => exact h
  | dat d => exact Dz.tex t d f h
theorem OC.tex {B B' H : Hp} {l : Addr} {o : OC} (h : o.at_ B H l) (t : TEx B B') (f : o.fzO = true) : o.at_ B' H l := by
  cases o with
  | lst ds =>
    obtain ⟨xs, h, a⟩ := h
    exact ⟨xs, h, DzAll.tex t ds f a⟩
  | dct t => exact h
  | own x => exact h
  | ins C dx fs =>
    obtain ⟨vs, h, a⟩ := h
    refine ⟨vs, h, ?_⟩
    have f : (fs.all fun p => p.2.fzO) = true := f
    clear h
    induction a with
    | nil => exact .nil
    | cons z r ih =>
      rw [List.all_cons, Bool.and_eq_true] at f
      exact .cons ⟨z.1, z.2.tex t f.1⟩ (ih f.2 f.2)
  | dk fs =>
    obtain ⟨vs, h, a⟩ := h
    refine ⟨vs, h, ?_⟩
    have f : (fs.all fun p => p.2.fzO) = true := f
    clear h
    induction a with
    | nil => exact .nil
    | cons z r ih =>
      rw [List.all_cons, Bool.and_eq_true] at f
      exact .cons ⟨z.1, z.2.tex t f.1⟩ (ih f.2 f.2)
section
variable {X : Cx} {B0 H0 H : Hp} {env : Ev} {own : Own} {σ : L2.St} {r : Expr} {rest body : List Stmt} {D : Ends} {pos cpos p1 tpos : Pos} {l : Addr} {i : Nat} {elts : List Expr} {kk : Nat}
/-- for (k, x) in enumerate(r), r a list of one's own that stays -/
theorem s_forOwn {α ι : Type} (items : List α) (enc : α → PyData) (ev : Nat → Ev) (ow : Nat → ι → Own) (nv : Nat → α × Nat → Ev) (js : List Nat) (S : Sta B0 H0 env ((i, l, .lst (items.map enc)) :: own) σ H) (hr : RV X env ((i, l, .lst (items.map enc)) :: own) r l)
    (h0 : ∀ B1 H', Sta B1 H0 env own σ H' → ∃ x, Sta B1 H0 (ev 0) (ow 0 x) σ H') (hg : ∀ k a, items.zipIdx[k]? = some a → PGt X (.Tuple elts kk tpos) (ev k) (.tuple [nI a.2, enc a.1]) (nv k a) js) (hj : ∀ k x, ∀ p ∈ ow k x, p.1 ∉ js)
    (hb : ∀ B1 k a x σ H, (∃ xs, B1 l = some (.lst xs) ∧ DzAll B1 xs (items.map enc)) → items.zipIdx[k]? = some a → Sta B1 H0 (nv k a) (ow k x) σ H →
      WSs X body { D with nx := fun σ' H' => ∃ x, Sta B1 H0 (ev (k + 1)) (ow (k + 1) x) σ' H', ct := fun σ' H' => ∃ x, Sta B1 H0 (ev (k + 1)) (ow (k + 1) x) σ' H', bk := WSs X rest D } σ H)
    (hd : ∀ x σ H, Sta B0 H0 (ev items.length) ((i, l, .lst (items.map enc)) :: ow items.length x) σ H → WSs X rest D σ H) (hfi : fzA (items.map enc) = true) (hfe : ∀ (j : Nat) (d : PyData), (ev items.length)[j]? = some (some d) → fz d = true) (hfo : ∀ x, ∀ p ∈ ow items.length x, p.2.2.fzO = true) (hi1 : 1000 ≤ i)
    (hm : X.mg "enumerate" = none) (hp : PassesOwn (model X.prog X.w) X.A X.env X.xe) (hc : X.calm = true) (hg2 : Gl X "enumerate" := by rfl) (hs : ∀ x, foldedSetIterable (.Call (.Name "enumerate" p1) [r] [] cpos) X.env x = pure x := by intro _; rfl) (hs1 : starEach [r] X.env = [(false, eval r X.env)] := by rfl) : WSs X (.For (.Tuple elts kk tpos) (.Call (.Name "enumerate" p1) [r] [] cpos) body [] pos :: rest) D σ H := by
  refine wss (pss_cons (ps_for hp hc smI smG smSs hs) smSs) ?_
  refine wi (pi_enum hg2 hm (pa_cons smE pa_nil hs1) hs1) ?_
  refine hr.run S ?_
  obtain ⟨B, s, E, o⟩ := S
  obtain ⟨_, nB, nH0, xs, hl, hx⟩ := o.all _ List.mem_cons_self
  refine ⟨l, xs, rfl, SqL.of hl, ?_⟩
  have e1 : Ex B (upd B l (.lst xs)) := Ex.new nB
  have hx1 : DzAll (upd B l (.lst xs)) xs (items.map enc) := hx.ex e1
  have w : Wk (Ite X.K l) (items.zipIdx.map fun p => .tuple [nI p.2, enc p.1]) (upd B l (.lst xs)) := by
    have := wk_enum (K := X.K) (G := upd B l (.lst xs)) upd_same hx1
    rw [enumD_map] at this
    exact this
  have le1 : Ex (upd B l (.lst xs)) H := fun a u q => by
    by_cases ha : a = l
    · rw [ha, upd_same] at q
      rw [ha, hl]
      exact q
    · rw [upd_ne ha] at q
      exact s.bh a u q
  have nd := o.nd
  rw [List.map_cons, List.nodup_cons] at nd
  have hlen : (items.zipIdx.map fun p => (PyData.tuple [nI p.2, enc p.1])).length = items.length := by simp
  have S0 : ∃ x, Sta (upd B l (.lst xs)) H0 (ev 0) (ow 0 x) σ H := by
    refine h0 _ _ ⟨upd B l (.lst xs), ⟨Ex.refl _, le1, s.hh, fun a h q => q⟩, E.ex e1, fun p hp => ?_, nd.2⟩
    obtain ⟨a, b, c, d⟩ := o.all p (List.mem_cons_of_mem _ hp)
    have hne : p.2.1 ≠ l := fun e => nd.1 (by rw [← e]; exact List.mem_map.mpr ⟨p, hp, rfl⟩)
    exact ⟨a, by rw [upd_ne hne]; exact b, c, OC.ex d e1 (.of (Ex.refl _))⟩
  refine ⟨fun i m σ' H' => m = items.length - i ∧ i ≤ items.length ∧ ∃ x, Sta (upd B l (.lst xs)) H0 (ev i) (ow i x) σ' H', ⟨items.length, by simp, Nat.zero_le _, S0⟩, ?_⟩
  rintro k m σ' H' ⟨rfl, him, y0, B', s', E', o'⟩
  by_cases hlt : k < items.length
  · refine .inr ⟨w.go k H' (by rw [hlen]; exact hlt) (s'.bb.trans s'.bh), fun σ2 H2 => ∃ x, Sta (upd B l (.lst xs)) H0 (ev (k + 1)) (ow (k + 1) x) σ2 H2, fun σ2 H2 h2 => ⟨items.length - (k + 1), by omega, rfl, hlt, h2⟩, fun x H2 y => ?_⟩
    obtain ⟨dd, B2, e2, st2, z2⟩ := w.yld k B' H' x H2 (by rw [hlen]; exact hlt) s'.bb s'.bh y
    have hgt : items.zipIdx[k]? = some (items[k], k) := by
      rw [List.getElem?_zipIdx, List.getElem?_eq_getElem hlt, Nat.zero_add]
      rfl
    rw [List.getElem?_map, hgt] at e2
    have e3 : (PyData.tuple [nI k, enc items[k]]) = dd := Option.some.inj e2
    subst e3
    refine hg k _ hgt σ' B2 H2 x (E'.ex st2.bb) st2.bh z2 _ fun σ2 E2 l2 k2 => ?_
    have o2 : OwnOk (upd B l (.lst xs)) H0 B2 H2 (ow k y0) σ2 := (o'.stp st2).slots fun p hp => k2 p.1 (hj k y0 p hp)
    exact hb _ k _ y0 σ2 H2 ⟨xs, upd_same, hx1⟩ hgt ⟨B2, s'.trans st2, E2, o2⟩
  · have e : k = items.length := by omega
    subst e
    refine .inl ⟨?_, hd y0 σ' H' ?_⟩
    · have h := w.stop H' (s'.bb.trans s'.bh)
      rw [hlen] at h
      exact h
    · have hB' : B' l = some (.lst xs) := s'.bb _ _ upd_same
      have tx : TEx B' (rm B' l) := fun a ys h => by
        have ha : a ≠ l := fun ha => by
          rw [ha, hB'] at h
          cases h
        rw [rm_ne ha]
        exact h
      refine ⟨rm B' l, ⟨fun a u h => ?_, rm_le s'.bh, s'.hh, fun a h hb => ?_⟩, ⟨E'.len, fun j d q => ?_⟩, fun p hp => ?_, ?_⟩
      · have ha : a ≠ l := fun ha => by
          rw [ha] at h
          have := s.bb _ _ h
          rw [nB] at this
          cases this
        rw [rm_ne ha]
        exact s'.bb _ _ (e1 _ _ (s.bb _ _ h))
      · have ha : a ≠ l := fun ha => h.ne (by rw [ha]; exact nH0)
        rw [rm_ne ha]
        exact s'.av a h (by rw [upd_ne ha]; exact s.av a h hb)
      · obtain ⟨v, h1, h2⟩ := E'.at_ j d q
        exact ⟨v, h1, Dz.tex tx d (hfe j d q) h2⟩
      · rcases List.mem_cons.mp hp with rfl | hp
        · exact ⟨fun z => absurd z (Nat.not_lt.mpr hi1), rm_self, nH0, xs, s'.bh _ _ hB', DzAll.tex tx _ hfi (hx1.ex s'.bb)⟩
        · obtain ⟨a, b, c, d⟩ := o'.all p hp
          refine ⟨a, ?_, c, OC.tex d tx (hfo y0 p hp)⟩
          by_cases ha : p.2.1 = l
          · rw [ha]; exact rm_self
          · rw [rm_ne ha]; exact b
      · refine List.nodup_cons.mpr ⟨fun hm => ?_, o'.nd⟩
        obtain ⟨p, h1, h2⟩ := List.mem_map.mp hm
        have := (o'.all p h1).2.1
        rw [h2, hB'] at this
        cases this
/-- for: what holds by the turn is told with an index that may be chosen anew each time -/
theorem s_forI {α ι : Type} {tg iter : Expr} (items : List α) (enc : α → PyData) (ev : Nat → ι → Ev) (ow : Nat → ι → Own) (nv : Nat → ι → α → Ev) (js : List Nat) (Pf : Nat → ι → Prop) (S : Sta B0 H0 env own σ H) (hi : ∀ B, Stp B0 H0 B H → En σ B env → ∀ R : It → Hp → Prop, (∀ J B1 H1, Stp B H B1 H1 → Wk J (items.map enc) B1 → R J H1) → WI X tg iter σ H R)
    (h0 : ∀ B1 H', Sta B1 H0 env own σ H' → ∃ x, Pf 0 x ∧ Sta B1 H0 (ev 0 x) (ow 0 x) σ H') (hg : ∀ k x a, items[k]? = some a → PGt X tg (ev k x) (enc a) (nv k x a) js) (hj : ∀ k x, ∀ p ∈ ow k x, p.1 ∉ js)
    (hb : ∀ B1, (∀ B' H', Stp B1 H0 B' H' → Stp B0 H0 B' H') → ∀ k a x σ H, items[k]? = some a → Pf k x → Sta B1 H0 (nv k x a) (ow k x) σ H →
      WSs X body { D with nx := fun σ' H' => ∃ x, Pf (k + 1) x ∧ Sta B1 H0 (ev (k + 1) x) (ow (k + 1) x) σ' H', ct := fun σ' H' => ∃ x, Pf (k + 1) x ∧ Sta B1 H0 (ev (k + 1) x) (ow (k + 1) x) σ' H', bk := WSs X rest D } σ H)
    (hd : ∀ x σ H, Pf items.length x → Sta B0 H0 (ev items.length x) (ow items.length x) σ H → WSs X rest D σ H) (hp : PassesOwn (model X.prog X.w) X.A X.env X.xe) (hc : X.calm = true) (hs : ∀ x, foldedSetIterable iter X.env x = pure x := by intro _; rfl) : WSs X (.For tg iter body [] pos :: rest) D σ H := by
  obtain ⟨B, s, E, o⟩ := S
  refine wss (pss_cons (ps_for hp hc smI smG smSs hs) smSs) ?_
  refine hi B s E _ fun J B1 H1 s1 w => ?_
  have hlen : (items.map enc).length = items.length := by rw [List.length_map]
  have st := s.trans s1
  have S0 := h0 B1 H1 ⟨B1, stp_to st st.bb (Ex.refl _), E.ex s1.bb, (o.stp s1).all, o.nd⟩
  refine ⟨fun i m σ' H' => m = items.length - i ∧ i ≤ items.length ∧ ∃ x, Pf i x ∧ Sta B1 H0 (ev i x) (ow i x) σ' H', ⟨items.length, by simp, Nat.zero_le _, S0⟩, ?_⟩
  rintro i m σ' H' ⟨rfl, him, y0, pf, B', s', E', o'⟩
  by_cases hlt : i < items.length
  · refine .inr ⟨w.go i H' (by rw [hlen]; exact hlt) (s'.bb.trans s'.bh), fun σ2 H2 => ∃ x, Pf (i + 1) x ∧ Sta B1 H0 (ev (i + 1) x) (ow (i + 1) x) σ2 H2, fun σ2 H2 h2 => ⟨items.length - (i + 1), by omega, rfl, hlt, h2⟩, fun x H2 y => ?_⟩
    obtain ⟨dd, B2, e1, st2, z2⟩ := w.yld i B' H' x H2 (by rw [hlen]; exact hlt) s'.bb s'.bh y
    have hgt : items[i]? = some items[i] := List.getElem?_eq_getElem hlt
    rw [List.getElem?_map, hgt] at e1
    have e2 : enc items[i] = dd := Option.some.inj e1
    subst e2
    refine hg i y0 _ hgt σ' B2 H2 x (E'.ex st2.bb) st2.bh z2 _ fun σ2 E2 l2 k2 => ?_
    have o2 : OwnOk B1 H0 B2 H2 (ow i y0) σ2 := (o'.stp st2).slots fun p hp => k2 p.1 (hj i y0 p hp)
    exact hb B1 (fun B' H' t => stp_base st t) i _ y0 σ2 H2 hgt pf ⟨B2, s'.trans st2, E2, o2⟩
  · have e : i = items.length := by omega
    subst e
    refine .inl ⟨?_, hd y0 σ' H' pf ⟨B', stp_base st s', E', o'.all, o'.nd⟩⟩
    have h := w.stop H' (s'.bb.trans s'.bh)
    rw [hlen] at h
    exact h
end
end JH
set_option Elab.async false
set_option linter.all false
set_option maxRecDepth 100000
set_option maxHeartbeats 4000000
namespace JH
open PySem PySem.Spec L2
open Evl (Ex Ex.refl Ex.trans Ex.new Ex.mut)
local macro_rules | `(tactic| trivial) => `(tactic| repeat (first | exact Sub.nil | refine Sub.keep ?_ | refine Sub.drop ?_))
theorem Sta.front {B0 H0 H : Hp} {env : Ev} {own1 own2 : Own} {p : Nat × Addr × OC} {σ : L2.St} (S : Sta B0 H0 env (own1 ++ p :: own2) σ H) : Sta B0 H0 env (p :: (own1 ++ own2)) σ H :=
  S.relab (fun q hq => ⟨q, (List.perm_middle (a := p) (l₁ := own1) (l₂ := own2)).mem_iff.mpr hq, rfl, fun _ => rfl⟩) fun nd => ((List.perm_middle (a := p) (l₁ := own1) (l₂ := own2)).map (·.2.1)).nodup_iff.mp nd
theorem Sta.unfront {B0 H0 H : Hp} {env : Ev} {own1 own2 : Own} {p : Nat × Addr × OC} {σ : L2.St} (S : Sta B0 H0 env (p :: (own1 ++ own2)) σ H) : Sta B0 H0 env (own1 ++ p :: own2) σ H :=
  S.relab (fun q hq => ⟨q, (List.perm_middle (a := p) (l₁ := own1) (l₂ := own2)).mem_iff.mp hq, rfl, fun _ => rfl⟩) fun nd => ((List.perm_middle (a := p) (l₁ := own1) (l₂ := own2)).map (·.2.1)).nodup_iff.mpr nd
section
variable {X : Cx} {B0 H0 H : Hp} {env : Ev} {own own1 own2 : Own} {σ : L2.St} {d' : PyData} {ds : List PyData} {e r : Expr} {a aa dx : Addr} {c : OC} {i : Nat} {rest : List Stmt} {D : Ends} {pos p1 : Pos} {f : Str}
theorem en_showS (S : Sta B0 H0 env own σ H) (i : Nat) (hm : (i, a, c) ∈ own) (hd : ∀ B, Ex B0 B → (∀ p ∈ own, OC.at_ B B p.2.1 p.2.2) → Dz B (.ref a) d') (h : PF X e (env.set i (some d')) ds) (fz1 : fzA ds = true) (hi : i < 1000 := by decide) {Q : VK} (q : ∀ p H1, Sta B0 H0 env ((1500, p, .lst ds) :: own) σ H1 → Q (.ref p) H1) : WE X e σ H Q := by
  obtain ⟨B, s, E, o⟩ := S
  have sh := shown_of s.bh o
  have E' := (E.ex sh.up).set i (hd _ (s.bb.trans sh.up) sh.at_)
  rw [set_same ((o.all _ hm).1 hi)] at E'
  refine h σ _ H E' sh.le _ fun p xs B1 H1 n1 s1 h1 z1 => ?_
  obtain ⟨s2, t2⟩ := sh.back B1 H1 s1
  exact q p H1 (own_new s E o n1 s2 (by rw [rms_out (rms_new (B1 := B1) (H1 := H1) o n1)]; exact h1) (DzAll.tex t2 ds fz1 z1) fz1)
theorem s_fldRS (T : Tx X.w X.K X.mg) {fs : List (Str × Arg)} (hr : ∀ p, RV X env ((1500, p, .lst ds) :: own) r aa) (hown : own = own1 ++ (i, aa, .ins (HA X.K) dx fs) :: own2) (S : Sta B0 H0 env own σ H) (h : ∀ Q : VK, (∀ p H1, Sta B0 H0 env ((1500, p, .lst ds) :: own) σ H1 → Q (.ref p) H1) → WE X e σ H Q) (nf : NoAttr X.K (HA X.K) f) (hlen : fs.length < 1000)
    (k : ∀ p H', Sta B0 H0 env (((1500, p, .lst ds) :: own1) ++ (i, aa, .ins (HA X.K) dx (putFA f (.ref (.ref p)) fs)) :: own2) σ H' → WSs X rest D σ H') (hs : swapsWith e (some (.Attribute r f p1)) pos.line X.env = pure false := by rfl) : WSs X (.Assign [.Attribute r f p1] e pos :: rest) D σ H := by
  refine wss (pss_cons (ps_fld smE smE hs) smSs) ?_
  refine h _ fun p H1 S1 => ?_
  refine (hr p).run S1 ?_
  subst hown
  obtain ⟨B, s, E, o⟩ := S1
  obtain ⟨_, _, _, vs, g1, g2⟩ := o.all (i, aa, .ins (HA X.K) dx fs) (by simp)
  have hl : vs.length = fs.length := Paired.length g2
  refine ⟨aa, _, dx, vs, rfl, g1, T.cl, nf, by omega, k p _ ?_⟩
  exact sta_upd (own1 := (1500, p, .lst ds) :: own1) (c' := .ins (HA X.K) dx (putFA f (.ref (.ref p)) fs)) s E o ⟨_, upd_same, fsAt_put (show Arg.at_ B (V.ref p) (.ref (.ref p)) from rfl) g2⟩
end
def mdT (T : List Tr) (k r : Nat) (t : Tbl) (n : Nat) : Tbl := if (trAt T n).task = k then dropT t n r else t
def mdW (T : List Tr) (k r : Nat) (W : List (Option (Nat × Nat))) (n : Nat) : List (Option (Nat × Nat)) := if (trAt T n).task = k then W.map fun o => if o = some (n, r) then none else o else W
def mendT (T : List Tr) (k r : Nat) (t : Tbl) (m : Nat) : Tbl := (List.range m).foldl (mdT T k r) t
def mendW (T : List Tr) (k r : Nat) (W : List (Option (Nat × Nat))) (m : Nat) : List (Option (Nat × Nat)) := (List.range m).foldl (mdW T k r) W
def mendS (h : HS) (k r : Nat) : HS := { h with t := mendT h.T k r h.t h.T.length, W := mendW h.T k r h.W h.T.length, ev := h.ev ++ [.mend k r] }
theorem mendW_succ (T : List Tr) (k r : Nat) (W : List (Option (Nat × Nat))) (m : Nat) : mendW T k r W (m + 1) = mdW T k r (mendW T k r W m) m := foldl_range _ _ _
theorem mendT_succ (T : List Tr) (k r : Nat) (t : Tbl) (m : Nat) : mendT T k r t (m + 1) = mdT T k r (mendT T k r t m) m := foldl_range _ _ _
theorem mendW_len (T : List Tr) (k r : Nat) (W : List (Option (Nat × Nat))) : ∀ m, (mendW T k r W m).length = W.length
  | 0 => rfl
  | m + 1 => by
    have ih := mendW_len T k r W m
    rw [mendW_succ]
    generalize mendW T k r W m = U at ih
    unfold mdW
    split
    · rw [List.length_map, ih]
    · exact ih
theorem fz_encK (t : List (Nat × Nat) × Nat) : fz (encK t) = true := by
  simp only [encK, fz, fzA, Bool.and_true, Bool.and_self]
  exact fzA_map (fun _ => rfl) _
theorem fz_encC (C : Ct) : fz (encC C) = true := by
  simp only [encC, fz, fzA, Bool.and_true, Bool.true_and]
  exact fzA_map fz_encK _
def R_mend (K : PySem.W.Frag) : SR := fun as own Po => ∃ A C h k r, Cv C ∧ k < C.tasks.length ∧ r < trialsOf C k ∧ h.ev.length < 1000 ∧ h.W.length ≤ 5 ∧ as = [.ref (.ref A.a), .dat (nI k), .dat (nI r)] ∧ own = hallOwn K 0 A C h ∧ Po = fun x o => x = .dat .none ∧ ∃ lw, o = hallOwn K 0 { A with lw := lw } C (mendS h k r)
/-- self.works, the list at lo known already -/
abbrev mendOwn (K : PySem.W.Frag) (A : HAd) (C : Ct) (h : HS) (k r m : Nat) (lw : Addr) : Own :=
  [(0, A.a, .ins (HA K) A.dx (hallFs { A with lw := lw } C)), (1001, A.dx, .own A.a), (1003, A.lt, .dct (mendT h.T k r h.t m)), (1004, lw, .lst ((mendW h.T k r h.W m).map encWo)), (1005, A.le, .lst (h.ev.map encE))]
section
variable {P : Program} {w : World} {K : PySem.W.Frag} {mg : Str → Option Value} {base : Heap}
theorem ok_h_mend (T : Tx w K mg) : KnM P w K mg base "mend" 2 ["self", "task", "trial"] (spO (R_mend K)) := by
  obtain ⟨fd, F⟩ := T.d_h_mend
  refine ⟨_, fd, fn_O0 F sc_h_mend (fun as own Po ⟨_, _, _, _, _, _, _, _, _, _, e, _⟩ => by rw [e]; rfl) (by decide) ?_, T.m_h_mend, F.bindsN b_h_mend⟩
  rintro cdv A outer s H0 E B0 own as Po vs Q hr ⟨Ad, C, h, k, r, cv, hk, hr2, te, wl, rfl, rfl, rfl⟩ S hQ
  refine s_if0 S (tv_show 0 List.mem_cons_self hall_self (PQ.to (pq_not (pq_val (pd_btw T hr (pd_var 1 rfl) pd_int (pd_bin rd_sub (pd_blt cd_lenT T.f_len bb_len (pds_cons (pd_ixT (n := 4) (pd_fld T (d := encC C) (pd_var 0 rfl) rfl T.n_contest) pd_int rfl) pds_nil)) pd_int)))) (by simp; omega))) fun H' S => ?_
  refine s_if0 S (tv_show 0 List.mem_cons_self hall_self (PQ.to (pq_not (pq_val (pd_btw T hr (pd_var 2 rfl) pd_int (pd_bin rd_sub (pd_fn (ok_trials_of T) hr (pds_cons (pd_fld T (d := encC C) (pd_var 0 rfl) rfl T.n_contest) (pds_cons (pd_var 1 rfl) pds_nil)) ⟨C, k, cv, rfl, hk, rfl⟩) pd_int)))) (by simp; omega))) fun H' S => ?_
  have S := Sta.front (own1 := own2 K Ad C) (p := (1002, Ad.lo, .lst (h.T.map encTr))) S
  refine s_forOwn h.T encTr (fun _ => envA N_h_mend [.ref (.ref Ad.a), .dat (nI k), .dat (nI r)]) (fun m lw => mendOwn K Ad C h k r m lw) _ _ S (rv_fld T (rv_var (i := 0) (List.mem_cons_of_mem _ List.mem_cons_self)) (List.mem_cons_of_mem _ List.mem_cons_self) rfl T.n_offered) (fun _ _ S => ⟨Ad.lw, S⟩) (fun k a ha => pg_tp rfl (pgs_1 (pg_nm 3 sc_h_mend.nd) (pgs_1 (pg_nm 4 sc_h_mend.nd) pgs_0))) (by simp) ?_ (fun lw σ H S => ?_) (fzA_map (fun _ => rfl) _) ?_ ?_ (by decide) T.f_enumerate PassesOwn.never rfl
  · rintro B1 m ⟨x, i⟩ lw σ H ⟨xs, hB1, hdz⟩ hk2 S
    obtain ⟨rfl, hlt, rfl⟩ := trAt_zip hk2
    have hwl := mendW_len h.T k r h.W i
    refine s_if S (PQ.tv (pq_cmp rd_eqI (pd_ixT (n := 1) (ds := [nI (trAt h.T i).team, nI (trAt h.T i).task, nI (trAt h.T i).time]) (pd_var 4 rfl) pd_int rfl) (pd_var 1 rfl))) (fun hc H' S => ?_) fun hc H' S => s_nil (s_nil ⟨lw, ?_⟩)
    · have hc : (trAt h.T i).task = k := by have := of_decide_eq_true hc; omega
      refine s_popTR (n := i) (m := r) (rv_fld T (rv_var (i := 0) List.mem_cons_self) List.mem_cons_self rfl T.n_table) (own1 := [(0, Ad.a, .ins (HA K) Ad.dx (hallFs { Ad with lw := lw } C)), (1001, Ad.dx, .own Ad.a)]) rfl S (rm1 hr) (pds_cons (pd_tup (pds_cons (pd_var 3 rfl) (pds_cons (pd_var 2 rfl) pds_nil))) (pds_cons pd_non pds_nil)) fun H' S => ?_
      obtain ⟨W, hW⟩ : ∃ W, W = mendW h.T k r h.W i := ⟨_, rfl⟩
      obtain ⟨t, ht⟩ : ∃ t, t = dropT (mendT h.T k r h.t i) i r := ⟨_, rfl⟩
      rw [← hW, ← ht] at S
      rw [← hW] at hwl
      refine s_fldRS T (fun p => rv_var (i := 0) (List.mem_cons_of_mem _ List.mem_cons_self)) (own1 := []) rfl S (ds := (W.map fun o => if o = some (i, r) then none else o).map encWo) (fun Q q => en_showS S 0 List.mem_cons_self (d' := hallD K C ⟨h.T, t, W, h.ev⟩) (fun B eB kB => ?_) (PF.to (pf_lc (items := W) (enc := encWo) (cond := fun _ => true) (f := fun o => encWo (if o = some (i, r) then none else o)) (own := [("work", 5)]) (blkOk_by (N := N_h_mend) (sc := defScope s_h_mend) (by decide +kernel))
        ⟨_, _, wi_list (pd_fld T (d := .list (W.map encWo)) (pd_var 0 rfl) rfl T.n_works), by decide, by omega, fun o ho s H C' cl fp => ⟨pg_nm 5 sc_h_mend.nd, pqs_0, fun _ => pd_if (PQ.to (pq_cmp (rd_eqD (d1 := encWo o) (d2 := encW (i, r)) hr.units (nt_Wo o) (nt_W _) (shaped_Wo o) (shaped_W _)) (pd_var 5 rfl) (pd_tup (pds_cons (pd_var 3 rfl) (pds_cons (pd_var 2 rfl) pds_nil)))) (eqv_Wo o _))
          (fun hh => PD.to pd_non ?_) fun hh => PD.to (pd_var 5 rfl) ?_⟩⟩ rfl sc_h_mend.nd) ?_) (fzA_map (fun o => by cases o <;> rfl) _) (by decide) q) T.n_works (by show 5 < 1000; decide) fun p H' S => s_nil (s_nil ⟨p, ?_⟩)
      · exact hall_reads (i := 0) (A := { Ad with lw := lw }) (h := ⟨h.T, t, W, h.ev⟩) (own := (1002, Ad.lo, .lst (h.T.map encTr)) :: [(0, Ad.a, .ins (HA K) Ad.dx (hallFs { Ad with lw := lw } C)), (1001, Ad.dx, .own Ad.a), (1003, Ad.lt, .dct t), (1004, lw, .lst (W.map encWo)), (1005, Ad.le, .lst (h.ev.map encE))]) (fun q hq => ⟨q, by simp at hq ⊢; rcases hq with h | h | h | h | h | h <;> simp [h], rfl⟩) B fun q hq => by
          rcases List.mem_cons.mp hq with rfl | hq
          · exact ⟨xs, eB _ _ hB1, hdz.ex eB⟩
          · exact kB q hq
      · show _ = encWo (if o = some (i, r) then none else o)
        rw [if_pos (of_decide_eq_true hh)]
        rfl
      · show _ = encWo (if o = some (i, r) then none else o)
        rw [if_neg (of_decide_eq_false hh)]
      · rw [fil_true, List.map_map]
        rfl
      · have eT : mendT h.T k r h.t (i + 1) = t := by rw [mendT_succ, ht]; unfold mdT; rw [if_pos hc]
        have eW : mendW h.T k r h.W (i + 1) = W.map fun o => if o = some (i, r) then none else o := by rw [mendW_succ, ← hW]; unfold mdW; rw [if_pos hc]
        show Sta _ _ _ (mendOwn K Ad C h k r (i + 1) p) _ _
        unfold mendOwn
        rw [eT, eW]
        have S : Sta B1 _ _ [(1500, p, .lst ((W.map fun o => if o = some (i, r) then none else o).map encWo)), (0, Ad.a, .ins (HA K) Ad.dx (hallFs { Ad with lw := p } C)), (1001, Ad.dx, .own Ad.a), (1003, Ad.lt, .dct t), (1004, lw, .lst (W.map encWo)), (1005, Ad.le, .lst (h.ev.map encE))] _ H' := S
        refine Sta.sub (S.relab (fun q hq => ?_) fun nd => ?_) (by trivial)
        · simp only [List.mem_cons, List.not_mem_nil, or_false] at hq
          rcases hq with rfl | rfl | rfl | rfl | rfl
          · exact ⟨_, List.mem_cons_of_mem _ List.mem_cons_self, rfl, fun _ => rfl⟩
          · exact ⟨_, List.mem_cons_of_mem _ (List.mem_cons_of_mem _ List.mem_cons_self), rfl, fun _ => rfl⟩
          · exact ⟨_, List.mem_cons_of_mem _ (List.mem_cons_of_mem _ (List.mem_cons_of_mem _ List.mem_cons_self)), rfl, fun _ => rfl⟩
          · exact ⟨_, List.mem_cons_self, rfl, fun z => absurd z (show ¬ (1004 : Nat) < 1000 by decide)⟩
          · exact ⟨(1005, Ad.le, .lst (h.ev.map encE)), by simp, rfl, fun _ => rfl⟩
        · simp only [List.map_cons, List.map_nil, List.nodup_cons, List.mem_cons, List.not_mem_nil, or_false, not_or, not_false_eq_true, List.nodup_nil, and_true] at nd ⊢
          obtain ⟨⟨a1, a2, a3, a4, a5⟩, ⟨b1, b2, b3, b4⟩, ⟨c1, c2, c3⟩, ⟨d1, d2⟩, e1⟩ := nd
          exact ⟨⟨b1, b2, fun z => a1 z.symm, b4⟩, ⟨c1, fun z => a2 z.symm, c3⟩, ⟨fun z => a3 z.symm, d2⟩, a5⟩
    · have hc : ¬ (trAt h.T i).task = k := by have := of_decide_eq_false hc; omega
      have eT : mendT h.T k r h.t (i + 1) = mendT h.T k r h.t i := by rw [mendT_succ]; unfold mdT; rw [if_neg hc]
      have eW : mendW h.T k r h.W (i + 1) = mendW h.T k r h.W i := by rw [mendW_succ]; unfold mdW; rw [if_neg hc]
      show Sta _ _ _ (mendOwn K Ad C h k r (i + 1) lw) _ _
      unfold mendOwn
      rw [eT, eW]
      exact S.sub (by trivial)
  · have S := Sta.unfront (own1 := own2 K { Ad with lw := lw } C) (p := (1002, Ad.lo, .lst (h.T.map encTr))) S
    refine s_appR (rv_fld T (rv_var (i := 0) List.mem_cons_self) List.mem_cons_self rfl T.n_events) (own1 := own2 K { Ad with lw := lw } C ++ [(1002, Ad.lo, .lst (h.T.map encTr)), (1003, Ad.lt, .dct (mendS h k r).t), (1004, lw, .lst ((mendS h k r).W.map encWo))]) rfl S (d := encE (.mend k r)) (PD.ev (pd_tup (pds_cons pd_str (pds_cons (pd_var 1 rfl) (pds_cons (pd_var 2 rfl) pds_nil))))) (fun H' S => ?_) (by rw [List.length_map]; omega)
    have e2 : h.ev.map encE ++ [encE (.mend k r)] = (mendS h k r).ev.map encE := by simp [mendS]
    rw [e2] at S
    have S : Sta B0 _ _ (hallOwn K 0 { Ad with lw := lw } C (mendS h k r)) _ H' := S
    exact s_endE S fun v B1 H1 st oa fr z => hQ v (.dat .none) _ B1 H1 ⟨rfl, lw, rfl⟩ st oa fr z
  · intro j d hj
    rcases j with _ | _ | _ | j
    · cases hj
    · cases hj; rfl
    · cases hj; rfl
    · have : (envA N_h_mend [Arg.ref (V.ref Ad.a), Arg.dat (nI k), Arg.dat (nI r)]) = [none, some (nI k), some (nI r), none, none, none] := rfl
      rw [this] at hj
      rcases j with _ | _ | _ | j <;> simp at hj
  · intro lw p hp
    simp only [List.mem_cons, List.not_mem_nil, or_false] at hp
    rcases hp with rfl | rfl | rfl | rfl | rfl
    · simp only [OC.fzO, List.all_cons, List.all_nil, Arg.fzO, Bool.and_true]
      exact fz_encC C
    · rfl
    · rfl
    · exact fzA_map (fun o => by cases o <;> rfl) _
    · exact fzA_map (fun o => by cases o <;> rfl) _
end
end JH
set_option Elab.async false
set_option linter.all false
set_option maxRecDepth 100000
set_option maxHeartbeats 4000000
namespace JH
open PySem PySem.Spec L2
open Evl (Ex Ex.refl Ex.trans Ex.new Ex.mut)
section
variable {X : Cx} {B0 H0 H : Hp} {env : Ev} {own own1 own2 : Own} {σ : L2.St} {d : PyData} {e r : Expr} {aa dx : Addr} {i : Nat} {rest : List Stmt} {D : Ends} {pos p1 p2 : Pos} {f : Str} {fs : List (Str × Arg)}
/-- o.f = data -/
theorem s_fldD (T : Tx X.w X.K X.mg) (hr : RV X env own r aa) (hown : own = own1 ++ (i, aa, .ins (HA X.K) dx fs) :: own2) (S : Sta B0 H0 env own σ H) (h : PD X e env d) (nf : NoAttr X.K (HA X.K) f) (hlen : fs.length < 1000)
    (k : ∀ H', Sta B0 H0 env (own1 ++ (i, aa, .ins (HA X.K) dx (putFA f (.dat d) fs)) :: own2) σ H' → WSs X rest D σ H') (hs : swapsWith e (some (.Attribute r f p1)) pos.line X.env = pure false := by rfl) : WSs X (.Assign [.Attribute r f p1] e pos :: rest) D σ H := by
  refine wss (pss_cons (ps_fld smE smE hs) smSs) ?_
  obtain ⟨B, s, E, o⟩ := S
  refine h σ B H E s.bh _ fun v B1 H1 s1 z1 => ?_
  have S1 : Sta B0 H0 env own σ H1 := ⟨B1, s.trans s1, E.ex s1.bb, o.stp s1⟩
  refine hr.run S1 ?_
  subst hown
  have o1 := o.stp s1
  obtain ⟨_, _, _, vs, g1, g2⟩ := o1.all (i, aa, .ins (HA X.K) dx fs) (by simp)
  have hl : vs.length = fs.length := Paired.length g2
  refine ⟨aa, _, dx, vs, rfl, g1, T.cl, nf, by omega, k _ ?_⟩
  exact sta_upd (c' := .ins (HA X.K) dx (putFA f (.dat d) fs)) (s.trans s1) (E.ex s1.bb) o1 ⟨_, upd_same, fsAt_put (show Arg.at_ B1 v (.dat d) from z1) g2⟩
/-- o.f = {} -/
theorem s_fldT (T : Tx X.w X.K X.mg) (hr : ∀ p, RV X env ((1500, p, .dct []) :: own) r aa) (hown : own = own1 ++ (i, aa, .ins (HA X.K) dx fs) :: own2) (S : Sta B0 H0 env own σ H) (nf : NoAttr X.K (HA X.K) f) (hlen : fs.length < 1000)
    (k : ∀ p H', Sta B0 H0 env (((1500, p, .dct []) :: own1) ++ (i, aa, .ins (HA X.K) dx (putFA f (.ref (.ref p)) fs)) :: own2) σ H' → WSs X rest D σ H') (hs : swapsWith (.Dict [] [] p2) (some (.Attribute r f p1)) pos.line X.env = pure false := by rfl) : WSs X (.Assign [.Attribute r f p1] (.Dict [] [] p2) pos :: rest) D σ H := by
  refine wss (pss_cons (ps_fld smE pe_dnewT hs) smSs) ?_
  intro p hp
  obtain ⟨B, s, E, o⟩ := S
  have st : Stp B H B (upd H p (.dT [])) := .own s.bh hp
  have S1 : Sta B0 H0 env ((1500, p, .dct []) :: own) σ (upd H p (.dT [])) := by
    refine ⟨B, s.trans st, E, fun q hq => ?_, ?_⟩
    · rcases List.mem_cons.mp hq with rfl | hq
      · exact ⟨fun z => absurd z (show ¬ (1500 : Nat) < 1000 by decide), ex_none s.bh hp, ex_h0 s hp, upd_same⟩
      · exact (o.stp st).all q hq
    · refine List.nodup_cons.mpr ⟨fun hm => ?_, o.nd⟩
      obtain ⟨q, hq, e⟩ := List.mem_map.mp hm
      exact OC.there (o.all q hq).2.2.2 (by rw [e]; exact hp)
  refine (hr p).run S1 ?_
  subst hown
  obtain ⟨B1, s1, E1, o1⟩ := S1
  obtain ⟨_, _, _, vs, g1, g2⟩ := o1.all (i, aa, .ins (HA X.K) dx fs) (by simp)
  have hl : vs.length = fs.length := Paired.length g2
  refine ⟨aa, _, dx, vs, rfl, g1, T.cl, nf, by omega, k p _ ?_⟩
  exact sta_upd (own1 := (1500, p, .dct []) :: own1) (c' := .ins (HA X.K) dx (putFA f (.ref (.ref p)) fs)) s1 E1 o1 ⟨_, upd_same, fsAt_put (show Arg.at_ B1 (V.ref p) (.ref (.ref p)) from rfl) g2⟩
end
def initS (n : Nat) : HS := ⟨[], [], List.replicate n none, []⟩
def R_init (K : PySem.W.Frag) : SR := fun as own Po => ∃ (x dx : Addr) (C : Ct) (n : Nat), Cv C ∧ 1 ≤ n ∧ n ≤ 5 ∧ as = [.ref (.ref x), .dat (encC C), .dat (nI n)] ∧ own = [(0, x, .ins (HA K) dx []), (1001, dx, .own x)] ∧ Po = fun r o => r = .dat .none ∧ ∃ lo lt lw le, o = hallOwn K 0 ⟨x, dx, lo, lt, lw, le⟩ C (initS n)
section
variable {P : Program} {w : World} {K : PySem.W.Frag} {mg : Str → Option Value} {base : Heap}
theorem ok_h_init (T : Tx w K mg) : ∃ fd, FnOk P w K mg base CX0 5 (He.ma K (HA K) "__init__") fd ["self", "contest", "judges"] (spO (R_init K)) ∧ Binds K fd ["self", "contest", "judges"] [] := by
  obtain ⟨fd, F⟩ := T.d_h_init__
  refine ⟨fd, fn_O0 F sc_h_init__ (fun as own Po ⟨_, _, _, _, _, _, _, e, _⟩ => by rw [e]; rfl) (by decide) ?_, F.bindsN b_h_init__⟩
  rintro cdv A outer s H0 E B0 own as Po vs Q hr ⟨x, dx, C, n, cv, n1, n5, rfl, rfl, rfl⟩ S hQ
  refine s_drop S (PD.ev (pd_fn (ok_need_contest T) hr (pds_cons (pd_var 1 rfl) pds_nil) ⟨C, cv, rfl, rfl⟩)) fun H' S => ?_
  refine s_if0 S (PQ.tv (PQ.to (pq_not (pq_val (pd_btw T hr (pd_var 2 rfl) pd_int (pd_gi T.i_MOST_JUDGES)))) (by simp; omega))) fun H' S => ?_
  refine s_fldD T (rv_var (i := 0) List.mem_cons_self) (own1 := []) rfl S (pd_var 1 rfl) T.n_contest (by decide) fun H' S => ?_
  refine s_fldR T (fun p => rv_var (i := 0) (List.mem_cons_of_mem _ List.mem_cons_self)) (own1 := []) rfl S (en_pf (pf_lst pds_nil) rfl) T.n_offered (by show 1 < 1000; decide) fun lo H' S => ?_
  refine s_fldT T (fun p => rv_var (i := 0) (List.mem_cons_of_mem _ (List.mem_cons_of_mem _ List.mem_cons_self))) (own1 := [(1500, lo, .lst [])]) rfl S T.n_table (by show 2 < 1000; decide) fun lt H' S => ?_
  refine s_fldR T (fun p => rv_var (i := 0) (List.mem_cons_of_mem _ (List.mem_cons_of_mem _ (List.mem_cons_of_mem _ List.mem_cons_self)))) (own1 := [(1500, lt, .dct []), (1500, lo, .lst [])]) rfl S (en_pf (ds := (List.replicate n none).map encWo) (PF.to (pf_rep (n := n) (pf_lst (pds_cons pd_non pds_nil)) (pd_var 2 rfl) (by omega)) (by rw [List.map_replicate]; rfl)) (fzA_map (fun o => by cases o <;> rfl) _)) T.n_works (by show 3 < 1000; decide) fun lw H' S => ?_
  refine s_fldR T (fun p => rv_var (i := 0) (List.mem_cons_of_mem _ (List.mem_cons_of_mem _ (List.mem_cons_of_mem _ (List.mem_cons_of_mem _ List.mem_cons_self))))) (own1 := [(1500, lw, .lst ((List.replicate n none).map encWo)), (1500, lt, .dct []), (1500, lo, .lst [])]) rfl S (en_pf (pf_lst pds_nil) rfl) T.n_events (by show 4 < 1000; decide) fun le H' S => ?_
  have S : Sta B0 _ _ [(1500, le, .lst []), (1500, lw, .lst ((List.replicate n none).map encWo)), (1500, lt, .dct []), (1500, lo, .lst []), (0, x, .ins (HA K) dx (hallFs ⟨x, dx, lo, lt, lw, le⟩ C)), (1001, dx, .own x)] _ H' := S
  refine s_endE (S.relab (own' := hallOwn K 0 ⟨x, dx, lo, lt, lw, le⟩ C (initS n)) (fun q hq => ?_) fun nd => ?_) fun v B1 H1 st oa fr z => hQ v (.dat .none) _ B1 H1 ⟨rfl, lo, lt, lw, le, rfl⟩ st oa fr z
  · simp only [List.mem_cons, List.not_mem_nil, or_false] at hq
    rcases hq with rfl | rfl | rfl | rfl | rfl | rfl
    · exact ⟨(0, x, .ins (HA K) dx (hallFs ⟨x, dx, lo, lt, lw, le⟩ C)), by simp, rfl, fun _ => rfl⟩
    · exact ⟨(1001, dx, .own x), by simp, rfl, fun _ => rfl⟩
    · exact ⟨(1500, lo, .lst []), by simp, rfl, fun z => absurd z (show ¬ (1002 : Nat) < 1000 by decide)⟩
    · exact ⟨(1500, lt, .dct []), by simp, rfl, fun z => absurd z (show ¬ (1003 : Nat) < 1000 by decide)⟩
    · exact ⟨(1500, lw, .lst ((List.replicate n none).map encWo)), by simp, rfl, fun z => absurd z (show ¬ (1004 : Nat) < 1000 by decide)⟩
    · exact ⟨(1500, le, .lst []), by simp, rfl, fun z => absurd z (show ¬ (1005 : Nat) < 1000 by decide)⟩
  · simp only [List.map_cons, List.map_nil, List.nodup_cons, List.mem_cons, List.not_mem_nil, or_false, not_or, not_false_eq_true, List.nodup_nil, and_true] at nd ⊢
    obtain ⟨⟨a1, a2, a3, a4, a5⟩, ⟨b1, b2, b3, b4⟩, ⟨c1, c2, c3⟩, ⟨d1, d2⟩, e1⟩ := nd
    exact ⟨⟨e1, fun z => d1 z.symm, fun z => c2 z.symm, fun z => b3 z.symm, fun z => a4 z.symm⟩, ⟨fun z => d2 z.symm, fun z => c3 z.symm, fun z => b4 z.symm, fun z => a5 z.symm⟩, ⟨fun z => c1 z.symm, fun z => b2 z.symm, fun z => a3 z.symm⟩, ⟨fun z => b1 z.symm, fun z => a2 z.symm⟩, fun z => a1 z.symm⟩
end
end JH
set_option Elab.async false
set_option linter.all false
set_option maxRecDepth 100000
set_option maxHeartbeats 4000000
namespace JH
open PySem PySem.Spec L2
open Evl (Ex Ex.refl Ex.trans Ex.new Ex.mut)
section
variable {X : Cx} {env : Ev} {own : Own} {e : Expr} {args : List Expr} {Po : Post} {Pq : List Arg → Own → Prop} {pos p : Pos} {k : Nat}
/-- Hall(contest, judges) -/
theorem eo_hall (T : Tx X.w X.K X.mg) (hr : Room 6 X.A) (ha : AO X env own (e :: args) Pq) (h : ∀ as o, Pq as o → ∃ (C : Ct) (n : Nat), Cv C ∧ 1 ≤ n ∧ n ≤ 5 ∧ as = [.dat (encC C), .dat (nI n)] ∧ ∀ A : HAd, Po (.ref (.ref A.a)) (hallOwn X.K 1000 A C (initS n) ++ o)) (hg : Gl X "Hall" := by rfl)
    (he : starEach (e :: args) X.env = (false, eval e X.env) :: starEach args X.env := by rfl) (hpl : (backTo pos (starEach args X.env)).any (·.1) = false := by rfl) : EO X env own (.Call (.Name "Hall" p) (e :: args) [] pos) Po := fun B0 H0 fr σ H S Q q => by
  obtain ⟨fd, F, hb⟩ := ok_h_init (P := X.prog) (base := X.base) T
  refine we (pe_make T.mkH F hr hg T.g_Hall hb .nil pass0 smA (by decide) he hpl) ?_
  refine ha B0 H0 fr σ H S _ fun vs as o1 H1 hp ⟨B1, s1, E1, ok1, z1⟩ => ?_
  obtain ⟨C, n, cv, n1, n5, rfl, hPo⟩ := h as o1 hp
  intro x dx hx hdx hne
  rw [List.append_nil]
  have eH : rms (upd (upd H1 dx (.own x)) x (.ins (HA X.K) dx [])) [(0, x, .ins (HA X.K) dx []), (1001, dx, .own x)] = H1 := by
    funext a
    by_cases h1 : a = x
    · rw [rms_in (by simp [h1]), h1, hx]
    · by_cases h2 : a = dx
      · rw [rms_in (by simp [h2]), h2, hdx]
      · rw [rms_out (by simp [h1, h2]), upd_ne h1, upd_ne h2]
  have up : Ex H1 (upd (upd H1 dx (.own x)) x (.ins (HA X.K) dx [])) := (Ex.new hdx).trans (Ex.new (by rw [upd_ne (Ne.symm hne)]; exact hx))
  refine ⟨B1, [(0, x, .ins (HA X.K) dx []), (1001, dx, .own x)], [.ref (.ref x), .dat (encC C), .dat (nI n)], _, s1.bh.trans up, ⟨fun q hq => ?_, ?_⟩, .cons (show Arg.at_ B1 (V.ref x) (.ref (.ref x)) from rfl) z1, fun q hq hi => ?_, ⟨x, dx, C, n, cv, n1, n5, rfl, rfl, rfl⟩, fun v r own' B2 H3 hp2 st oa frs z => ?_⟩
  · simp only [List.mem_cons, List.not_mem_nil, or_false] at hq
    rcases hq with rfl | rfl
    · exact ⟨ex_none s1.bh hx, [], upd_same, .nil⟩
    · exact ⟨ex_none s1.bh hdx, by show upd _ _ _ dx = _; rw [upd_ne hne, upd_same]⟩
  · simp [Ne.symm hne]
  · simp only [List.mem_cons, List.not_mem_nil, or_false] at hq
    rcases hq with rfl | rfl
    · rfl
    · exact absurd hi (show ¬ (1001 : Nat) < 1000 by decide)
  · obtain ⟨rfl, lo, lt, lw, le, rfl⟩ := hp2
    rw [eH] at st frs
    have z : Dz B2 v .none := z
    refine ⟨z.non_inv, q (.ref x) (.ref (.ref x)) _ H3 (hPo ⟨x, dx, lo, lt, lw, le⟩) ⟨B2, s1.trans st, E1.ex st.bb, ⟨fun w hw => ?_, ?_⟩, rfl⟩⟩
    · rw [List.append_assoc] at hw
      rcases List.mem_append.mp hw with hw | hw
      · have hw2 : w.2 ∈ (hallOwn X.K 0 ⟨x, dx, lo, lt, lw, le⟩ C (initS n)).map (·.2) := by
          have : (hallOwn X.K 0 ⟨x, dx, lo, lt, lw, le⟩ C (initS n)).map (·.2) = (hallOwn X.K 1000 ⟨x, dx, lo, lt, lw, le⟩ C (initS n)).map (·.2) := rfl
          rw [this]
          exact List.mem_map.mpr ⟨w, hw, rfl⟩
        obtain ⟨y, y1, y2⟩ := List.mem_map.mp hw2
        obtain ⟨a1, a2⟩ := oa.1 y y1
        have a3 := frs y y1
        rw [y2] at a1 a2 a3
        refine ⟨fun hi => ?_, a1, ex_h0 s1 a3, a2⟩
        simp only [List.mem_cons, List.not_mem_nil, or_false] at hw
        rcases hw with rfl | rfl | rfl | rfl | rfl | rfl
        · exact absurd hi (show ¬ (1000 : Nat) < 1000 by decide)
        · exact absurd hi (show ¬ (1001 : Nat) < 1000 by decide)
        · exact absurd hi (show ¬ (1002 : Nat) < 1000 by decide)
        · exact absurd hi (show ¬ (1003 : Nat) < 1000 by decide)
        · exact absurd hi (show ¬ (1004 : Nat) < 1000 by decide)
        · exact absurd hi (show ¬ (1005 : Nat) < 1000 by decide)
      · exact (ok1.stp st).all w hw
    · rw [List.append_assoc, List.map_append]
      refine List.nodup_append.mpr ⟨oa.2, ok1.nd, fun a ha b hb e => ?_⟩
      subst e
      have ha2 : a ∈ (hallOwn X.K 0 ⟨x, dx, lo, lt, lw, le⟩ C (initS n)).map (·.2.1) := ha
      obtain ⟨y, y1, y2⟩ := List.mem_map.mp ha2
      obtain ⟨w, w1, w2⟩ := List.mem_map.mp hb
      have a3 := frs y y1
      rw [y2, ← w2] at a3
      exact OC.there (ok1.all w w1).2.2.2 a3
end
end JH
set_option Elab.async false
set_option linter.all false
set_option maxRecDepth 100000
set_option maxHeartbeats 4000000
namespace JH
open PySem PySem.Spec L2
open Evl (Ex Ex.refl Ex.trans Ex.new Ex.mut)
theorem argsAt_dats {B : Hp} : ∀ {vs : List V} {ds : List PyData}, DzAll B vs ds → ArgsAt B vs (ds.map Arg.dat)
  | _, _, .nil => .nil
  | _, _, .cons h t => .cons h (argsAt_dats t)
theorem ao_pds {X : Cx} {env : Ev} {own : Own} {es : List Expr} {ds : List PyData} (h : PDs X es env ds) : AO X env own es (fun as o => as = ds.map Arg.dat ∧ o = own) := fun B0 H0 fr σ H ⟨B, s, E, o⟩ Q q =>
  h σ B H E s.bh Q fun vs B1 H1 s1 z1 => q vs _ own H1 ⟨rfl, rfl⟩ ⟨B1, s.trans s1, E.ex s1.bb, o.stp s1, argsAt_dats z1⟩
/-- try: .. except X: .., a body that raises nothing -/
theorem s_try {X : Cx} {σ : L2.St} {H : Hp} {D : Ends} {x : Str} {c : Value} {body suite rest : List Stmt} {b0 : Stmt} {np pos pos' : Pos} (hc : Names X x c) (h : ∀ pn xe, PassesOwn (model X.prog X.w) X.A X.env xe → WSs (X.tr pn xe) body { D with nx := WSs X rest D } σ H)
    (hs : X.stack = X.env :: X.outer := by rfl) (hf : X.env.frame = some X.env.locals := by rfl) : WSs X (.Try body [.ExceptHandler (some (.Name x np)) none (b0 :: suite) pos'] [] [] pos :: rest) D σ H := by
  refine wss (pss_cons (ps_try_only (tb := fun _ D σ H => ∀ pn xe, PassesOwn (model X.prog X.w) X.A X.env xe → WSs (X.tr pn xe) body D σ H) (ts := fun _ _ _ _ _ _ => False) hs hf hc LamX.takes0 (fun W pn xe tk hp => ?_) fun a oe cls d pn z1 z2 => ?_) smSs) ?_
  · exact ⟨fun pins s σ H D I q => (q pn xe hp) pins s I⟩
  · exact ⟨fun pins s σ H D I q => q.elim⟩
  · exact h
section
variable {K : PySem.W.Frag} {A : HAd} {C : Ct} {h : HS} {i : Nat} {as : List Arg} {o ownR : Own} {Pc Po : Post} {R : SR}
theorem callTo_hall (hR : R (.ref (.ref A.a) :: as) (hallOwn K 0 A C h) Pc) (ho : o = hallOwn K i A C h ++ ownR) (tr : ∀ r o2, Pc r o2 → ∃ lw h', o2 = hallOwn K 0 { A with lw := lw } C h' ∧ Po r (hallOwn K i { A with lw := lw } C h' ++ ownR)) : CallTo R (.ref (.ref A.a) :: as) o Po := by
  refine ⟨hallOwn K 0 A C h, hallOwn K i A C h, ownR, Pc, ho, rfl, fun p hp hi => ?_, hR, fun r o2 hp => ?_⟩
  · simp only [List.mem_cons, List.not_mem_nil, or_false] at hp
    rcases hp with rfl | rfl | rfl | rfl | rfl | rfl
    · rfl
    · exact absurd hi (show ¬ (1001 : Nat) < 1000 by decide)
    · exact absurd hi (show ¬ (1002 : Nat) < 1000 by decide)
    · exact absurd hi (show ¬ (1003 : Nat) < 1000 by decide)
    · exact absurd hi (show ¬ (1004 : Nat) < 1000 by decide)
    · exact absurd hi (show ¬ (1005 : Nat) < 1000 by decide)
  · obtain ⟨lw, h', rfl, q⟩ := tr r o2 hp
    refine ⟨hallOwn K i { A with lw := lw } C h', rfl, fun p hp hi => ?_, q⟩
    simp only [List.mem_cons, List.not_mem_nil, or_false] at hp
    rcases hp with rfl | rfl | rfl | rfl | rfl | rfl
    · exact List.mem_cons_self
    · exact absurd hi (show ¬ (1001 : Nat) < 1000 by decide)
    · exact absurd hi (show ¬ (1002 : Nat) < 1000 by decide)
    · exact absurd hi (show ¬ (1003 : Nat) < 1000 by decide)
    · exact absurd hi (show ¬ (1004 : Nat) < 1000 by decide)
    · exact absurd hi (show ¬ (1005 : Nat) < 1000 by decide)
end
/-- what the hall would take, and what it is after -/
inductive Can (C : Ct) : HS → Ent → HS → Prop
  | offer {h : HS} {x : Tr} (o : OfOk C h x) : Can C h (.offer x) (offerS h x)
  | take {h : HS} {j : Nat} {p : Nat × Nat} {f : List (Nat × Nat)} (o : HOk C h) (hj : j < h.W.length) (hw : h.W.getD j none = none) (he : h.ev.length < 1000) (hf : freeOf C h = p :: f) : Can C h (.take j p) (takeS h j p)
  | tell {h : HS} {j : Nat} {p : Nat × Nat} {b : Bool} (hj : j < h.W.length) (hw : h.W.getD j none = some p) (he : h.ev.length < 1000) (ht : h.t.length < 100000) : Can C h (.tell j b) (tellS h j p b)
  | fall {h : HS} {j : Nat} (hj : j < h.W.length) (he : h.ev.length < 1000) : Can C h (.fall j) (fallS h j)
  | mend {h : HS} {k r : Nat} (v : Cv C) (hk : k < C.tasks.length) (hr : r < trialsOf C k) (he : h.ev.length < 1000) (hw : h.W.length ≤ 5) : Can C h (.mend k r) (mendS h k r)
def R_may_be (K : PySem.W.Frag) : SR := fun as own Po => ∃ A C h e h', Can C h e h' ∧ as = [.ref (.ref A.a), .dat (encE e)] ∧ own = hallOwn K 0 A C h ∧ Po = fun r o => r = .dat (.bool true) ∧ ∃ lw, o = hallOwn K 0 { A with lw := lw } C h'
section
variable {P : Program} {w : World} {K : PySem.W.Frag} {mg : Str → Option Value} {base : Heap}
theorem ok_may_be (T : Tx w K mg) : Kn P w K mg base "may_be" 9 ["hall", "entry"] (spO (R_may_be K)) := by
  obtain ⟨fd, F⟩ := T.d_may_be
  refine ⟨_, fd, fn_O0 F sc_may_be (fun as own Po ⟨_, _, _, _, _, _, e, _⟩ => by rw [e]; rfl) (by decide) ?_, T.g_may_be, F.kp, F.bindsN b_may_be⟩
  rintro cdv A outer s H0 E B0 own as Po vs Q hr ⟨Ad, C, h, e, h', can, rfl, rfl, rfl⟩ S hQ
  refine s_try ⟨rfl, by decide, .inl T.g_HallError⟩ fun pn xe hp => ?_
  cases can with
  | take ok hj hw he hf =>
    rename_i j p f
    refine s_if S (PQ.tv (pq_cmp rd_eqS (pd_ixT (n := 0) (ds := [.str "take", nI j, nI p.1, nI p.2]) (pd_var 1 rfl) pd_int rfl) pd_str)) (fun _ H' S => ?_) fun z => by cases z
    refine s_retE S (eo_cmp (Pa := fun r o => r = .dat (encW p) ∧ o = hallOwn K 0 Ad C (takeS h j p)) (Pb := fun _ r o => r = .dat (encW p) ∧ o = hallOwn K 0 Ad C (takeS h j p)) (eo_meth T (ok_h_take T) hr (rv_var (i := 0) List.mem_cons_self) List.mem_cons_self (ao_pds (pds_cons (pd_ixT (n := 1) (ds := [.str "take", nI j, nI p.1, nI p.2]) (pd_var 1 rfl) pd_int rfl) pds_nil)) ?_) (fun r o ⟨_, ho⟩ => ho ▸ eo_pd (PD.to (pd_slT (ds := [.str "take", nI j, nI p.1, nI p.2]) (pd_var 1 rfl) (pdo_some pd_int) pdo_none) ?_)) ?_) hQ
    · rintro as o ⟨rfl, rfl⟩
      refine callTo_hall (ownR := []) ⟨Ad, C, h, j, ok, hj, hw, he, rfl, rfl, rfl⟩ (List.append_nil _).symm fun r o2 ⟨h1, h2⟩ => ⟨Ad.lw, takeS h j p, ?_, ?_⟩
      · rw [h2]; unfold takeR; rw [hf]
      · rw [h1]; unfold takeR; rw [hf]; exact ⟨rfl, List.append_nil _⟩
    · exact congrArg PyData.tuple (cut_from _ 2)
    · rintro r1 o1 r2 o2 ⟨rfl, rfl⟩ ⟨rfl, rfl⟩
      refine ⟨_, _, _, rfl, rfl, rd_eqD hr.units (nt_W p) (nt_W p) (shaped_W p) (shaped_W p), ?_, Ad.lw, rfl⟩
      rw [eqv_W, decide_eq_true rfl]
  | offer ok =>
    rename_i x
    refine s_if0 S (PQ.tv (PQ.to (pq_cmp rd_eqS (pd_ixT (n := 0) (ds := [.str "offer", nI x.team, nI x.task, nI x.time]) (pd_var 1 rfl) pd_int rfl) pd_str) (by decide +kernel))) fun H' S => ?_
    refine s_if S (PQ.tv (pq_cmp rd_eqS (pd_ixT (n := 0) (ds := [.str "offer", nI x.team, nI x.task, nI x.time]) (pd_var 1 rfl) pd_int rfl) pd_str)) (fun _ H' S => ?_) fun z => by cases z
    refine s_dropE S (eo_meth T (ok_h_offer T) (hr.mono (by decide)) (rv_var (i := 0) List.mem_cons_self) List.mem_cons_self (ao_pds (pds_cons (pd_ixT (n := 1) (ds := [.str "offer", nI x.team, nI x.task, nI x.time]) (pd_var 1 rfl) pd_int rfl) (pds_cons (pd_ixT (n := 2) (ds := [.str "offer", nI x.team, nI x.task, nI x.time]) (pd_var 1 rfl) pd_int rfl) (pds_cons (pd_ixT (n := 3) (ds := [.str "offer", nI x.team, nI x.task, nI x.time]) (pd_var 1 rfl) pd_int rfl) pds_nil)))) (Po := fun _ o => ∃ lw, o = hallOwn K 0 { Ad with lw := lw } C (offerS h x)) ?_) ?_
    · rintro as o ⟨rfl, rfl⟩
      exact callTo_hall (ownR := []) ⟨Ad, C, h, x, ok, rfl, rfl, rfl⟩ (List.append_nil _).symm fun r o2 ⟨h1, h2⟩ => ⟨Ad.lw, offerS h x, h2, Ad.lw, List.append_nil _⟩
    · rintro r own' H' ⟨lw, rfl⟩ S
      exact s_nil (s_nil (s_retE S (eo_pd pd_bl) fun v r own' B1 H1 ⟨h1, h2⟩ st oa fr z => hQ v r own' B1 H1 ⟨h1, lw, h2⟩ st oa fr z))
  | tell hj hw he ht =>
    rename_i j p b
    refine s_if0 S (PQ.tv (PQ.to (pq_cmp rd_eqS (pd_ixT (n := 0) (ds := [.str "tell", nI j, .bool b]) (pd_var 1 rfl) pd_int rfl) pd_str) (by decide +kernel))) fun H' S => ?_
    refine s_if S (PQ.tv (PQ.to (pq_cmp rd_eqS (pd_ixT (n := 0) (ds := [.str "tell", nI j, .bool b]) (pd_var 1 rfl) pd_int rfl) pd_str) (b' := false) (by decide +kernel))) (fun z => by cases z) fun _ H' S => ?_
    refine s_if S (PQ.tv (pq_cmp rd_eqS (pd_ixT (n := 0) (ds := [.str "tell", nI j, .bool b]) (pd_var 1 rfl) pd_int rfl) pd_str)) (fun _ H' S => ?_) fun z => by cases z
    refine s_dropE S (eo_meth T (ok_h_tell T) (hr.mono (by decide)) (rv_var (i := 0) List.mem_cons_self) List.mem_cons_self (ao_pds (pds_cons (pd_ixT (n := 1) (ds := [.str "tell", nI j, .bool b]) (pd_var 1 rfl) pd_int rfl) (pds_cons (pd_ixT (n := 2) (ds := [.str "tell", nI j, .bool b]) (pd_var 1 rfl) pd_int rfl) pds_nil))) (Po := fun _ o => ∃ lw, o = hallOwn K 0 { Ad with lw := lw } C (tellS h j p b)) ?_) ?_
    · rintro as o ⟨rfl, rfl⟩
      exact callTo_hall (ownR := []) ⟨Ad, C, h, j, p, b, hj, hw, he, ht, rfl, rfl, rfl⟩ (List.append_nil _).symm fun r o2 ⟨h1, h2⟩ => ⟨Ad.lw, tellS h j p b, h2, Ad.lw, List.append_nil _⟩
    · rintro r own' H' ⟨lw, rfl⟩ S
      exact s_nil (s_nil (s_nil ((s_retE S (eo_pd pd_bl) fun v r own' B1 H1 ⟨h1, h2⟩ st oa fr z => hQ v r own' B1 H1 ⟨h1, lw, h2⟩ st oa fr z))))
  | fall hj he =>
    rename_i j
    refine s_if0 S (PQ.tv (PQ.to (pq_cmp rd_eqS (pd_ixT (n := 0) (ds := [.str "fall", nI j]) (pd_var 1 rfl) pd_int rfl) pd_str) (by decide +kernel))) fun H' S => ?_
    refine s_if S (PQ.tv (PQ.to (pq_cmp rd_eqS (pd_ixT (n := 0) (ds := [.str "fall", nI j]) (pd_var 1 rfl) pd_int rfl) pd_str) (b' := false) (by decide +kernel))) (fun z => by cases z) fun _ H' S => ?_
    refine s_if S (PQ.tv (PQ.to (pq_cmp rd_eqS (pd_ixT (n := 0) (ds := [.str "fall", nI j]) (pd_var 1 rfl) pd_int rfl) pd_str) (b' := false) (by decide +kernel))) (fun z => by cases z) fun _ H' S => ?_
    refine s_if S (PQ.tv (pq_cmp rd_eqS (pd_ixT (n := 0) (ds := [.str "fall", nI j]) (pd_var 1 rfl) pd_int rfl) pd_str)) (fun _ H' S => ?_) fun z => by cases z
    refine s_dropE S (eo_meth T (ok_h_fall T) (hr.mono (by decide)) (rv_var (i := 0) List.mem_cons_self) List.mem_cons_self (ao_pds (pds_cons (pd_ixT (n := 1) (ds := [.str "fall", nI j]) (pd_var 1 rfl) pd_int rfl) pds_nil)) (Po := fun _ o => ∃ lw, o = hallOwn K 0 { Ad with lw := lw } C (fallS h j)) ?_) ?_
    · rintro as o ⟨rfl, rfl⟩
      exact callTo_hall (ownR := []) ⟨Ad, C, h, j, hj, he, rfl, rfl, rfl⟩ (List.append_nil _).symm fun r o2 ⟨h1, h2⟩ => ⟨Ad.lw, fallS h j, h2, Ad.lw, List.append_nil _⟩
    · rintro r own' H' ⟨lw, rfl⟩ S
      exact s_nil (s_nil (s_nil (s_nil ((s_retE S (eo_pd pd_bl) fun v r own' B1 H1 ⟨h1, h2⟩ st oa fr z => hQ v r own' B1 H1 ⟨h1, lw, h2⟩ st oa fr z)))))
  | mend cv hk hr2 he hw =>
    rename_i k r
    refine s_if0 S (PQ.tv (PQ.to (pq_cmp rd_eqS (pd_ixT (n := 0) (ds := [.str "mend", nI k, nI r]) (pd_var 1 rfl) pd_int rfl) pd_str) (by decide +kernel))) fun H' S => ?_
    refine s_if S (PQ.tv (PQ.to (pq_cmp rd_eqS (pd_ixT (n := 0) (ds := [.str "mend", nI k, nI r]) (pd_var 1 rfl) pd_int rfl) pd_str) (b' := false) (by decide +kernel))) (fun z => by cases z) fun _ H' S => ?_
    refine s_if S (PQ.tv (PQ.to (pq_cmp rd_eqS (pd_ixT (n := 0) (ds := [.str "mend", nI k, nI r]) (pd_var 1 rfl) pd_int rfl) pd_str) (b' := false) (by decide +kernel))) (fun z => by cases z) fun _ H' S => ?_
    refine s_if S (PQ.tv (PQ.to (pq_cmp rd_eqS (pd_ixT (n := 0) (ds := [.str "mend", nI k, nI r]) (pd_var 1 rfl) pd_int rfl) pd_str) (b' := false) (by decide +kernel))) (fun z => by cases z) fun _ H' S => ?_
    refine s_dropE S (eo_meth T (ok_h_mend T) (hr.mono (by decide)) (rv_var (i := 0) List.mem_cons_self) List.mem_cons_self (ao_pds (pds_cons (pd_ixT (n := 1) (ds := [.str "mend", nI k, nI r]) (pd_var 1 rfl) pd_int rfl) (pds_cons (pd_ixT (n := 2) (ds := [.str "mend", nI k, nI r]) (pd_var 1 rfl) pd_int rfl) pds_nil))) (Po := fun _ o => ∃ lw, o = hallOwn K 0 { Ad with lw := lw } C (mendS h k r)) ?_) ?_
    · rintro as o ⟨rfl, rfl⟩
      exact callTo_hall (ownR := []) ⟨Ad, C, h, k, r, cv, hk, hr2, he, hw, rfl, rfl, rfl⟩ (List.append_nil _).symm fun r2 o2 ⟨h1, lw, h2⟩ => ⟨lw, mendS h k r, h2, lw, List.append_nil _⟩
    · rintro r own' H' ⟨lw, rfl⟩ S
      exact s_nil (s_nil (s_nil (s_nil ((s_retE S (eo_pd pd_bl) fun v r own' B1 H1 ⟨h1, h2⟩ st oa fr z => hQ v r own' B1 H1 ⟨h1, lw, h2⟩ st oa fr z)))))
end
end JH
set_option Elab.async false
set_option linter.all false
set_option maxRecDepth 100000
set_option maxHeartbeats 4000000
namespace JH
open PySem PySem.Spec L2
open Evl (Ex Ex.refl Ex.trans Ex.new Ex.mut)
section
variable {X : Cx} {B0 H0 H : Hp} {env : Ev} {own : Own} {σ : L2.St} {e : Expr} {rest : List Stmt} {D : Ends} {pos pos' : Pos} {x : Str} {Po : Post} {Pk : Own → Prop}
/-- x = an object of one's own from now on -/
theorem s_setO (i : Nat) (S : Sta B0 H0 env own σ H) (h : EO X env own e Po) (hd : ∀ r o, Po r o → ∃ a o', r = .ref (.ref a) ∧ (∀ p ∈ o, p.1 ≠ i) ∧ (∀ p ∈ o', ∃ q ∈ o, q.2 = p.2 ∧ (p.1 < 1000 → q.1 = p.1 ∨ (p.1 = i ∧ p.2.1 = a))) ∧ ((o.map (·.2.1)).Nodup → (o'.map (·.2.1)).Nodup) ∧ Pk o')
    (k : ∀ o' σ' H', Pk o' → Sta B0 H0 (env.set i none) o' σ' H' → WSs X rest D σ' H') (hN : X.N.Nodup) (hl : i < env.length) (hi : X.N[i]? = some x := by rfl)
    (hx : Loc X.env.scope x := by first | exact Or.inl rfl | exact Or.inr rfl) (hs : swapsWith e (some (.Name x pos')) pos.line X.env = pure false := by rfl) (hf : X.fn x = true ∨ X.env.scope.names.lookup x = some .local := by first | exact .inl rfl | exact .inr rfl) : WSs X (.Assign [.Name x pos'] e pos :: rest) D σ H := by
  refine wss (pss_cons (ps_set hN hi hx smE hs hf) smSs) ?_
  refine h.run S fun v r o1 H1 hp ⟨B1, s1, E1, ok1, z1⟩ => ?_
  obtain ⟨a, o', rfl, hj, hs', nd, pk⟩ := hd r o1 hp
  have z1 : v = .ref a := z1
  subst z1
  refine k o' _ _ pk ⟨B1, s1, E1.set0 i, fun p hp => ?_, nd ok1.nd⟩
  obtain ⟨q, q1, q2, q3⟩ := hs' p hp
  obtain ⟨a1, a2, a3, a4⟩ := ok1.all q q1
  rw [q2] at a1 a2 a3 a4
  refine ⟨fun hi0 => ?_, a2, a3, a4⟩
  rcases q3 hi0 with h1 | ⟨h1, h2⟩
  · have := hj q q1
    rw [List.getElem?_set_ne (by rw [← h1]; exact fun z => this z.symm), ← h1]
    exact a1 (by rw [h1]; exact hi0)
  · rw [h1, h2, List.getElem?_set_self (by rw [E1.len]; exact hl)]
end
section
variable {X : Cx} {env : Ev} {own : Own} {e : Expr} {es : List Expr} {Pa : Post}
theorem ao_consO {Pb : Arg → Own → List Arg → Own → Prop} (ha : EO X env own e Pa) (hb : ∀ r o, Pa r o → AO X env o es (Pb r o)) (hs : starEach (e :: es) X.env = (false, eval e X.env) :: starEach es X.env := by rfl) : AO X env own (e :: es) (fun as o => ∃ r as' o1, as = r :: as' ∧ Pa r o1 ∧ Pb r o1 as' o) := fun B0 H0 fr σ H S Q q => by
  refine wa (pa_cons smE smA hs) ?_
  refine ha B0 H0 fr σ H S _ fun v r o1 H1 hp ⟨B1, s1, E1, ok1, z1⟩ => ?_
  refine hb r o1 hp B1 H0 fr σ H1 ⟨B1, stp_to s1 s1.bb (Ex.refl _), E1, ok1.all, ok1.nd⟩ _ fun vs as o2 H2 hp2 ⟨B2, s2, E2, ok2, z2⟩ => ?_
  exact q _ _ o2 H2 ⟨r, as, o1, rfl, hp, hp2⟩ ⟨B2, stp_base s1 s2, E2, ⟨ok2.all, ok2.nd⟩, .cons (z1.ex s2.bb) z2⟩
end
theorem hall_slots {K : PySem.W.Frag} {i : Nat} {A : HAd} {C : Ct} {h : HS} {p : Nat × Addr × OC} (hp : p ∈ hallOwn K i A C h) : p.1 = i ∨ 1001 ≤ p.1 := by
  simp only [List.mem_cons, List.not_mem_nil, or_false] at hp
  rcases hp with rfl | rfl | rfl | rfl | rfl | rfl
  · exact .inl rfl
  · exact .inr (show 1001 ≤ (1001 : Nat) by decide)
  · exact .inr (show 1001 ≤ (1002 : Nat) by decide)
  · exact .inr (show 1001 ≤ (1003 : Nat) by decide)
  · exact .inr (show 1001 ≤ (1004 : Nat) by decide)
  · exact .inr (show 1001 ≤ (1005 : Nat) by decide)
inductive Runs (C : Ct) : HS → List Ent → HS → Prop
  | nil {h : HS} : Runs C h [] h
  | cons {h h' h2 : HS} {e : Ent} {es : List Ent} (a : Can C h e h') (b : Runs C h' es h2) : Runs C h (e :: es) h2
def R_judged (ds : List PyData) (d : PyData) : Prop := ∃ (C : Ct) (n : Nat) (l : List Ent) (hE : HS), Cv C ∧ 1 ≤ n ∧ n ≤ 5 ∧ l.length ≤ 1000 ∧ (∀ e ∈ l, EntOk e) ∧ Runs C (initS n) l hE ∧ ds = [encC C, nI n, .list (l.map encE)] ∧ d = .none
section
variable {P : Program} {w : World} {K : PySem.W.Frag} {mg : Str → Option Value} {base : Heap}
theorem hall_relab {i j : Nat} {A : HAd} {C : Ct} {h : HS} {o : Own} (hj : ∀ p ∈ o, p.1 ≠ j) : (∀ p ∈ hallOwn K j A C h ++ o, ∃ q ∈ hallOwn K 1000 A C h ++ o, q.2 = p.2 ∧ (p.1 < 1000 → q.1 = p.1 ∨ (p.1 = j ∧ p.2.1 = A.a))) ∧ (((hallOwn K 1000 A C h ++ o).map (·.2.1)).Nodup → ((hallOwn K j A C h ++ o).map (·.2.1)).Nodup) := by
  refine ⟨fun p hp => ?_, fun h => h⟩
  rcases List.mem_cons.mp hp with rfl | hp
  · exact ⟨_, List.mem_cons_self, rfl, fun _ => .inr ⟨rfl, rfl⟩⟩
  · exact ⟨p, List.mem_cons_of_mem _ hp, rfl, fun _ => .inl rfl⟩
theorem ok_judged (T : Tx w K mg) : Kn P w K mg base "judged" 10 ["contest", "judges", "log"] (spF R_judged) := by
  obtain ⟨fd, F⟩ := T.d_judged
  refine fn_F F sc_judged T.g_judged b_judged (fun ds d ⟨_, _, _, _, _, _, _, _, _, _, e, _⟩ => by rw [e]; rfl) (by decide) ?_
  rintro cdv A outer s H0 E B0 ds d vs Q hr ⟨C, n, l, hE, cv, n1, n5, hl, hk, run, rfl, rfl⟩ S hQ
  refine s_drop S (PD.ev (pd_fn (ok_need_contest T) (hr.mono (by decide)) (pds_cons (pd_var 0 rfl) pds_nil) ⟨C, cv, rfl, rfl⟩)) fun H' S => ?_
  refine s_if0 S (PQ.tv (PQ.to (pq_not (pq_val (pd_btw T hr (pd_var 1 rfl) pd_int (pd_gi T.i_MOST_JUDGES)))) (by simp; omega))) fun H' S => ?_
  refine s_drop S (PD.ev (pd_fn (ok_need_log T) (hr.mono (by decide)) (pds_cons (pd_var 2 rfl) pds_nil) ⟨l, hl, hk, rfl, rfl⟩)) fun H' S => ?_
  refine s_setO 3 S (eo_hall T (hr.mono (by decide)) (ao_pds (pds_cons (pd_var 0 rfl) (pds_cons (pd_var 1 rfl) pds_nil))) (Po := fun r o => ∃ Ad : HAd, r = .ref (.ref Ad.a) ∧ o = hallOwn K 1000 Ad C (initS n) ++ []) fun as o ⟨h1, h2⟩ => ⟨C, n, cv, n1, n5, h1, fun Ad => ⟨Ad, rfl, by subst h2; rfl⟩⟩)
    (Pk := fun o => ∃ Ad : HAd, o = hallOwn K 3 Ad C (initS n) ++ []) (fun r o ⟨Ad, h1, h2⟩ => ?_) (fun o' σ' H' ⟨Ad, ho⟩ S => ?_) sc_judged.nd (by show 3 < 6; decide)
  · subst h2
    exact ⟨Ad.a, hallOwn K 3 Ad C (initS n) ++ [], h1, fun p hp => by
      rw [List.append_nil] at hp
      rcases hall_slots hp with h | h <;> omega, (hall_relab (i := 3) (by simp)).1, (hall_relab (i := 3) (by simp)).2, Ad, rfl⟩
  · subst ho
    rw [List.append_nil] at S
    refine s_forI (ι := Addr × HS) l.zipIdx (fun p => .tuple [nI p.2, encE p.1]) (fun _ _ => _) (fun _ x => hallOwn K 3 { Ad with lw := x.1 } C x.2) (fun _ _ p => _) _ (fun k x => ∃ hE, Runs C x.2 (l.drop k) hE) S (fun B s E R q => WIt.to (wi_enum (pd_var 2 rfl) T.f_enumerate) (enumD_map _ _) σ' B H' E s.bh R q)
      (fun B1 H1 S => ⟨(Ad.lw, initS n), ⟨hE, run⟩, S⟩) (fun k x a ha => pg_tp rfl (pgs_1 (pg_nm 4 sc_judged.nd) (pgs_1 (pg_nm 5 sc_judged.nd) pgs_0))) ?_ ?_ (fun x σ H _ S => s_ret S (PD.ev pd_non) hQ) PassesOwn.never rfl
    · intro k x p hp
      rcases hall_slots hp with h | h
      · rw [h]; decide
      · intro z
        simp at z
        omega
    · rintro B1 hB k ⟨e, i⟩ ⟨lw, h⟩ σ H hk2 ⟨hE2, run2⟩ S
      obtain ⟨rfl, hi⟩ := zip_at hk2
      rw [List.drop_eq_getElem?_toList_append, hi] at run2
      cases run2 with
      | cons can run2 =>
        rename_i h'
        refine s_ifE S (to_not (to_val (Po := fun r o => r = .dat (.bool true) ∧ ∃ lw, o = hallOwn K 3 { Ad with lw := lw } C h') (Pt := fun k o => k = true ∧ ∃ lw, o = hallOwn K 3 { Ad with lw := lw } C h') (eo_call (ok_may_be T) hr (ao_consO (RV.eo (rv_var (i := 3) List.mem_cons_self)) fun _ _ _ => ao_pds (pds_cons (pd_var 5 rfl) pds_nil)) ?_) ?_)) (fun own' H' z S => ?_) fun own' H' z S => ?_
        · rintro as o ⟨r, as', o1, rfl, ⟨rfl, rfl⟩, rfl, rfl⟩
          exact callTo_hall (ownR := []) ⟨{ Ad with lw := lw }, C, h, e, h', can, rfl, rfl, rfl⟩ (List.append_nil _).symm fun r o2 ⟨h1, lw2, h2⟩ => ⟨lw2, h', h2, h1, lw2, List.append_nil _⟩
        · rintro r o ⟨h1, h2⟩
          exact ⟨true, h1, rfl, h2⟩
        · cases z.1
        · obtain ⟨_, lw2, rfl⟩ := z
          exact s_nil (s_nil ⟨(lw2, h'), ⟨hE2, run2⟩, S.un.un⟩)
end
end JH
set_option Elab.async false
set_option linter.all false
set_option maxRecDepth 100000
set_option maxHeartbeats 4000000
namespace JH
open PySem PySem.Spec L2
open Evl (Ex Ex.refl Ex.trans Ex.new Ex.mut)
local macro_rules | `(tactic| trivial) => `(tactic| repeat (first | exact Sub.nil | refine Sub.keep ?_ | refine Sub.drop ?_))
section
variable {X : Cx} {env : Ev} {a b : Expr} {ds es : List PyData} {pos : Pos}
/-- [..] + [..] -/
theorem pf_catL (ha : PF X a env ds) (hb : PF X b env es) (hn : ds.length + es.length ≤ 100000) : PF X (.BinOp a .Add b pos) env (ds ++ es) := fun σ B H E eb Q q => by
  refine we (pe_op op_cat smE smE) ?_
  refine ha σ B H E eb _ fun p xs B1 H1 n1 s1 h1 z1 => hb σ B1 H1 (E.ex s1.bb) s1.bh _ fun r ys B2 H2 n2 s2 h2 z2 => ?_
  have k1 : H2 p = some (.lst xs) := s2.bh _ _ (s2.bb _ _ h1)
  refine ⟨p, r, xs, ys, rfl, rfl, k1, s2.bh _ _ h2, ?_, fun l hl => ?_⟩
  · exact sz (by rw [z1.length, z2.length]; exact hn)
  · exact q l _ _ _ (ex_h0 (s1.trans s2) hl) ((s1.trans s2).trans (.new s2.bh hl)) upd_same (((z1.ex s2.bb).append z2).ex (Ex.new (ex_none s2.bh hl)))
end
def dcStep (f : Int) (c : Int) : Int := (f * 31 + (if c < 0 then -c else c)) % 2147483647
def diceOf (ns : List Int) : List Int := [ns.foldl dcStep 0, 0] ++ ns.filter fun c => decide ((10 : Int) ^ (18 : Int).toNat ≤ c)
structure DiceOk (dd : List Int) : Prop where
  two : 2 ≤ dd.length
  top : dd.length ≤ 1000
  pos : ∀ x ∈ dd, 0 ≤ x
theorem dcStep_nn (f c : Int) : 0 ≤ dcStep f c := Int.emod_nonneg _ (by decide)
theorem dc_fold : ∀ (ns : List Int) (f : Int), 0 ≤ f → 0 ≤ ns.foldl dcStep f
  | [], _, h => h
  | c :: ns, f, h => dc_fold ns _ (dcStep_nn f c)
theorem dice_ok {ns : List Int} (h : ns.length ≤ 63) : DiceOk (diceOf ns) := by
  have hf := List.length_filter_le (fun c : Int => decide ((10 : Int) ^ (18 : Int).toNat ≤ c)) ns
  refine ⟨by simp [diceOf], by simp only [diceOf, List.length_append, List.length_cons, List.length_nil]; omega, fun x hx => ?_⟩
  unfold diceOf at hx
  rcases List.mem_append.mp hx with hx | hx
  · simp only [List.mem_cons, List.not_mem_nil, or_false] at hx
    rcases hx with rfl | rfl
    · exact dc_fold _ _ (Int.le_refl 0)
    · exact Int.le_refl 0
  · have h1 := of_decide_eq_true (List.mem_filter.mp hx).2
    exact Int.le_trans (by decide) h1
theorem take_foldl {α β : Type} (f : β → α → β) (b : β) {l : List α} {k : Nat} {a : α} (h : l[k]? = some a) : (l.take (k + 1)).foldl f b = f ((l.take k).foldl f b) a := by
  rw [List.take_succ, h, List.foldl_append]
  rfl
def R_dice (ds es : List PyData) : Prop := ∃ ns : List Int, ns.length ≤ 63 ∧ ds = [.list (ns.map .int), .int 0] ∧ es = (diceOf ns).map .int
section
variable {P : Program} {w : World} {K : PySem.W.Frag} {mg : Str → Option Value} {base : Heap}
theorem ok_law_dice (T : Tx w K mg) : Kn P w K mg base "_law_dice" 1 ["_law_script", "_law_k"] (spL R_dice) := by
  obtain ⟨fd, F⟩ := T.d_law_dice
  refine fn_L F sc_law_dice T.g_law_dice b_law_dice (fun ds d ⟨_, _, e, _⟩ => by rw [e]; rfl) (by decide) ?_
  rintro cdv A outer s H0 E B0 ds es vs Q hr ⟨ns, hl, rfl, rfl⟩ S hQ
  have hf := List.length_filter_le (fun c : Int => decide ((10 : Int) ^ (18 : Int).toNat ≤ c)) ns
  refine s_set 2 S (PD.ev (pd_var 1 rfl)) (fun σ H' S => ?_) sc_law_dice.nd
  refine s_for ns .int (fun k => [some (.list (ns.map .int)), some (.int 0), some (.int ((ns.take k).foldl dcStep 0)), none]) (fun _ => []) (fun k c => [some (.list (ns.map .int)), some (.int 0), some (.int ((ns.take k).foldl dcStep 0)), some (.int c)]) _ (fun _ => True) S (wi_list (pd_var 0 rfl)) trivial (fun _ _ S => S)
    (fun k a ha => pg_nm 3 sc_law_dice.nd) (by simp) ?_ (fun σ H S _ => ?_) PassesOwn.never rfl
  · rintro B1 hB k c σ H hk _ S
    refine s_set 2 S (d := .int ((ns.take (k + 1)).foldl dcStep 0)) (PD.ev (PD.to (pd_bin (rd_mod (by decide)) (pd_bin rd_add (pd_bin (rd_mul (.inr (by decide))) (pd_var 2 rfl) pd_int) (pd_blt cd_abs T.f_abs bb_abs (pds_cons (pd_var 3 rfl) pds_nil))) pd_int) ?_)) (fun σ H' S => ?_) sc_law_dice.nd
    · rw [take_foldl _ _ hk]; rfl
    · exact s_nil ⟨S.sub (by trivial), trivial⟩
  · rw [List.take_length] at S
    refine s_retF S (PF.to (pf_catL (pf_lst (pds_cons (pd_var 2 rfl) (pds_cons pd_int pds_nil))) (pf_lc (items := ns) (enc := .int) (cond := fun c => decide ((10 : Int) ^ (18 : Int).toNat ≤ c)) (f := .int) (own := [("_law_cell", 3)]) (blkOk_by (N := N_law_dice) (sc := defScope s_law_dice) (by decide +kernel))
      ⟨_, _, wi_list (pd_var 0 rfl), by decide, by omega, fun c hc s H C' cl fp => ⟨pg_nm 3 sc_law_dice.nd, pqs_1 (pq_cmp rd_ge (pd_var 3 rfl) (pd_bin (rd_pow ⟨by decide, by decide, by decide⟩) pd_int pd_int)), fun _ => pd_var 3 rfl⟩⟩ rfl sc_law_dice.nd) (by rw [List.length_map]; simp only [List.length_cons, List.length_nil]; omega)) ?_) hQ
    unfold diceOf
    rw [List.map_append]
    rfl
end
end JH
set_option Elab.async false
set_option linter.all false
set_option maxRecDepth 100000
set_option maxHeartbeats 4000000
/-! what is one's own in another order; pop of a place; d.update -/
namespace JH
open PySem PySem.Spec L2
open Evl (Ex Ex.refl Ex.trans Ex.new Ex.mut)
theorem Sta.perm {B0 H0 H : Hp} {env : Ev} {own own' : Own} {σ : L2.St} (S : Sta B0 H0 env own σ H) (p : own.Perm own') : Sta B0 H0 env own' σ H :=
  S.relab (fun q hq => ⟨q, p.mem_iff.mpr hq, rfl, fun _ => rfl⟩) fun nd => (p.map _).nodup_iff.mp nd
theorem OwnOk.perm {B0 H0 B H : Hp} {own own' : Own} {σ : L2.St} (o : OwnOk B0 H0 B H own σ) (p : own.Perm own') : OwnOk B0 H0 B H own' σ := ⟨fun q hq => o.all q (p.mem_iff.mpr hq), (p.map _).nodup_iff.mp o.nd⟩
section
variable {X : Cx} {env : Ev} {own own2 : Own} {e a b : Expr} {es args : List Expr} {Po Po' Pa : Post} {Pq Pq' : List Arg → Own → Prop} {Pt : Bool → Own → Prop} {pos p apos : Pos} {x m : Str} {k i : Nat} {ps : List Str}
theorem EO.pre (h : EO X env own2 e Po) (p : own.Perm own2) : EO X env own e Po := fun B0 H0 fr σ H S Q q => h B0 H0 fr σ H (S.perm (p.append_right fr)) Q q
theorem AO.pre (h : AO X env own2 es Pq) (p : own.Perm own2) : AO X env own es Pq := fun B0 H0 fr σ H S Q q => h B0 H0 fr σ H (S.perm (p.append_right fr)) Q q
theorem TO.pre (h : TO X env own2 e Pt) (p : own.Perm own2) : TO X env own e Pt := fun B0 H0 fr σ H S Q q => h B0 H0 fr σ H (S.perm (p.append_right fr)) Q q
theorem EO.post (h : EO X env own e Po) (k : ∀ r o, Po r o → ∃ o', o.Perm o' ∧ Po' r o') : EO X env own e Po' := fun B0 H0 fr σ H S Q q => h B0 H0 fr σ H S Q fun v r o H1 hp ⟨B, s, E, ok, z⟩ =>
  let ⟨o', p, hp'⟩ := k r o hp
  q v r o' H1 hp' ⟨B, s, E, ok.perm (p.append_right fr), z⟩
theorem AO.post (h : AO X env own es Pq) (k : ∀ r o, Pq r o → ∃ o', o.Perm o' ∧ Pq' r o') : AO X env own es Pq' := fun B0 H0 fr σ H S Q q => h B0 H0 fr σ H S Q fun v r o H1 hp ⟨B, s, E, ok, z⟩ =>
  let ⟨o', p, hp'⟩ := k r o hp
  q v r o' H1 hp' ⟨B, s, E, ok.perm (p.append_right fr), z⟩
theorem TO.imp {Pt' : Bool → Own → Prop} (h : TO X env own e Pt) (k : ∀ b o, Pt b o → Pt' b o) : TO X env own e Pt' := fun B0 H0 fr σ H S Q q => h B0 H0 fr σ H S Q fun b o H1 hp S1 => q b o H1 (k b o hp) S1
/-- a def that changes what it is handed, wherever that stands in the list -/
theorem eo_callP {R : SR} (F : Kn X.prog X.w X.K X.mg X.base x k ps (spO R)) (hr : Room k X.A) (ha : AO X env own (e :: args) Pq) (h : ∀ as o, Pq as o → ∃ o1, o.Perm o1 ∧ CallTo R as o1 (fun r o2 => ∃ o3, o2.Perm o3 ∧ Po r o3)) (hg : Gl X x := by rfl)
    (he : starEach (e :: args) X.env = (false, eval e X.env) :: starEach args X.env := by rfl) (hpl : (backTo pos (starEach args X.env)).any (·.1) = false := by rfl) (hd : (x == ("__debug__" : Str)) = false := by decide) : EO X env own (.Call (.Name x p) (e :: args) [] pos) Po :=
  EO.post (eo_call (Po := fun r o2 => ∃ o3, o2.Perm o3 ∧ Po r o3) F hr (AO.post (Pq' := fun as o1 => CallTo R as o1 (fun r o2 => ∃ o3, o2.Perm o3 ∧ Po r o3)) ha h) (fun _ _ h => h) hg he hpl hd) fun _ _ h => h
theorem eo_methP {R : SR} {pl : Sem Bool} {o : Expr} (T : Tx X.w X.K X.mg) {aa dx : Addr} {fs : List (Str × Arg)} (F : KnM X.prog X.w X.K X.mg X.base m k ps (spO R)) (hr : Room k X.A) (ho : RV X env own o aa) (hm : (i, aa, .ins (HA X.K) dx fs) ∈ own) (ha : AO X env own (e :: args) Pq)
    (h : ∀ as o, Pq as o → ∃ o1, o.Perm o1 ∧ CallTo R (.ref (.ref aa) :: as) o1 (fun r o2 => ∃ o3, o2.Perm o3 ∧ Po r o3))
    (hl : fs.lookup m = none := by rfl) (hst : starEach (e :: args) X.env = (false, eval e X.env) :: starEach args X.env := by rfl) (hpl : (backTo pos (starEach args X.env)).any (·.1) = false := by rfl)
    (ht : eval (.Call (.Attribute o m apos) (e :: args) [] pos) X.env = (do
      let ov ← eval o X.env
      standAt apos.atName
      let (f, first) ← holding [ov] (getMethod ov m pl)
      callWith pos f first (backTo pos (starEach (e :: args) X.env)) (backToKw pos (keywordEach [] X.env))) := by rfl) : EO X env own (.Call (.Attribute o m apos) (e :: args) [] pos) Po :=
  EO.post (eo_meth (Po := fun r o2 => ∃ o3, o2.Perm o3 ∧ Po r o3) T F hr ho hm (AO.post (Pq' := fun as o1 => CallTo R (.ref (.ref aa) :: as) o1 (fun r o2 => ∃ o3, o2.Perm o3 ∧ Po r o3)) ha h) (fun _ _ h => h) hl hst hpl ht) fun _ _ h => h
/-- what is own read as data, a list or a table -/
theorem eo_x (i : Nat) {l : Addr} {c : OC} {d : PyData} (hm : (i, l, c) ∈ own) (h : PD X e (env.set i (some c.d)) d) (f : fz d = true) (hD : c.isD = true := by rfl) (hi : i < 1000 := by decide) : EO X env own e (fun r o => r = .dat d ∧ o = own) := EV.eo fun B0 H0 fr => ev_x i (List.mem_append_left _ hm) h f hD hi
theorem to_show (i : Nat) {l : Addr} {c : OC} {d' : PyData} {k : Bool} (hm : (i, l, c) ∈ own) (hd : Reads1 own l d') (h : PQ X e (env.set i (some d')) k) (hi : i < 1000 := by decide) : TO X env own e (fun b o => b = k ∧ o = own) := fun B0 H0 fr σ H S Q q =>
  tv_show i (List.mem_append_left _ hm) (hd.app fr) h hi σ H S Q fun H1 S1 => q k own H1 ⟨rfl, rfl⟩ S1
end
section
variable {X : Cx} {env : Ev} {own own1 own2 : Own} {r b : Expr} {l : Addr} {i : Nat} {ds : List PyData} {apos cpos : Pos}
theorem seq2 {n : Nat} (h : 2 < n) : seqIndex? 2 n = some 2 := by
  unfold seqIndex?
  simp
  omega
/-- r.pop(2), r a list of one's own -/
theorem eo_pop2 {d : PyData} (hr : RV X env own r l) (hown : own = own1 ++ (i, l, .lst ds) :: own2) (hb : PD X b env (.int 2)) (hd : ds[2]? = some d)
    (hbase : attributeBase r "pop" X.env (eval r X.env) = eval r X.env := by rfl)
    (hfew : ((backTo cpos (starEach [b] X.env)).all (fun x => !x.1) && (backToKw cpos (keywordEach [] X.env)).all (fun x => x.1.isSome)
      && decide ([b].length + ([] : List Keyword).length + (if ([] : List Keyword).isEmpty then 0 else 1) < 30)) = true := by rfl)
    (hline : (apos.endLine == cpos.line) = true := by rfl) (hs : starEach [b] X.env = (false, eval b X.env) :: starEach [] X.env := by rfl) :
    EO X env own (.Call (.Attribute r "pop" apos) [b] [] cpos) (fun v o => v = .dat d ∧ o = own1 ++ (i, l, .lst (ds.eraseIdx 2)) :: own2) := fun B0 H0 fr σ H S Q q => by
  refine we (pe_bm PySem.F.plainAttrs_list PySem.F.slot_list_pop PySem.F.type_list_pop mt_popAt smE (pa_cons smE pa_nil hs) hbase hfew hline hs) ?_
  refine hr B0 H0 fr σ H S _ ?_
  subst hown
  obtain ⟨B, s, E, o⟩ := S
  obtain ⟨_, _, _, xs0, h4, h5⟩ := o.all (i, l, .lst ds) (by simp)
  refine ⟨tyL h4, ?_⟩
  refine hb σ B H E s.bh _ fun v B1 H1 s1 z1 => ?_
  have o1 := o.stp s1
  obtain ⟨_, _, _, ys, g4, g5⟩ := o1.all (i, l, .lst ds) (by simp)
  obtain ⟨y, y1, y2⟩ := g5.get hd
  have hl : 2 < ys.length := (List.getElem?_eq_some_iff.mp y1).1
  have er : DzAll B1 (ys.eraseIdx 2) (ds.eraseIdx 2) := by
    rw [List.eraseIdx_eq_take_drop_succ, List.eraseIdx_eq_take_drop_succ]
    exact (g5.take 2).append (g5.drop 3)
  refine ⟨l, ys, 2, 2, y, rfl, by rw [z1.int_inv], g4, by decide, by decide, seq2 hl, y1, ?_⟩
  rw [List.append_assoc, List.cons_append] at o1
  obtain ⟨B2, t1, t2, t3⟩ := sta_upd (B0 := B1) (own1 := own1) (own2 := own2 ++ fr) (c := .lst ds) (c' := .lst (ds.eraseIdx 2)) (stp_to (s.trans s1) (s.trans s1).bb (Ex.refl _)) (E.ex s1.bb) ⟨o1.all, o1.nd⟩ ⟨ys.eraseIdx 2, upd_same, er⟩
  refine q y (.dat d) _ _ ⟨rfl, rfl⟩ ⟨B2, stp_base (s.trans s1) t1, t2, ?_, y2.ex t1.bb⟩
  rw [List.append_assoc, List.cons_append]
  exact ⟨t3.all, t3.nd⟩
/-- r[j] = e, e may change what is own -/
theorem s_setiE {B0 H0 H : Hp} {σ : L2.St} {d : PyData} {e : Expr} {rest : List Stmt} {D : Ends} {pos p1 : Pos} {j : Nat} (S : Sta B0 H0 env own σ H) (h : EO X env own e (fun v o => v = .dat d ∧ o = own1 ++ (i, l, .lst ds) :: own2)) (hr : RV X env (own1 ++ (i, l, .lst ds) :: own2) r l) (hj : PD X b env (.int (j : Int))) (hl : j < ds.length)
    (k : ∀ H', Sta B0 H0 env (own1 ++ (i, l, .lst (ds.set j d)) :: own2) σ H' → WSs X rest D σ H')
    (ha : ∀ v, assign (.Subscript r b p1) X.env v = (do
      let ov ← holding [v] (eval r X.env)
      let iv ← holding [v, ov] (eval b X.env)
      standAt p1
      holding [v, ov, iv] (setItem ov iv v)
      release [v, ov, iv] []) := by intro _; rfl)
    (hs : swapsWithSole [.Subscript r b p1] e pos.line X.env = pure false := by rfl) (hw : swappedStores [.Subscript r b p1] e X.env = pure none := by rfl)
    (ht : (assignEach [.Subscript r b p1] X.env).map (·.2) = [assign (.Subscript r b p1) X.env] := by rfl) : WSs X (.Assign [.Subscript r b p1] e pos :: rest) D σ H := by
  refine wss (pss_cons (ps_asg smE (pg_sub smE smE set_list ha) hs hw ht) smSs) ?_
  refine h.run S fun v r' o' H1 ⟨hr', ho'⟩ ⟨B1, s1, E1, o1, z1⟩ => ?_
  subst hr' ho'
  have z1 : Dz B1 v d := z1
  refine hr.run (S := ⟨B1, s1, E1, o1⟩) ?_
  refine hj σ B1 H1 E1 s1.bh _ fun w B2 H2 s2 z2 => ?_
  have o2 := o1.stp s2
  obtain ⟨g1, g2, g3, ys, g4, g5⟩ := o2.all (i, l, .lst ds) (by simp)
  refine ⟨l, ys, (j : Int), j, rfl, z2.int_inv, g4, ?_, k _ (sta_upd (s1.trans s2) (E1.ex s2.bb) o2 ⟨ys.set j v, upd_same, g5.set (z1.ex s2.bb) j⟩)⟩
  unfold ixN
  rw [g5.length, if_pos (by omega), if_pos (by omega), Int.toNat_natCast]
end
/-! new objects as values -/
section
variable {X : Cx} {env : Ev} {own own1 own2 : Own} {e a b r : Expr} {ds : List PyData} {pos p1 p2 apos cpos : Pos} {Po : Post} {aa : Addr} {i : Nat}
theorem eo_newL (h : PF X e env ds) (f : fzA ds = true) : EO X env own e (fun r o => ∃ p, r = .ref (.ref p) ∧ o = (1500, p, .lst ds) :: own) := fun B0 H0 fr σ H S Q q =>
  en_pf h f B0 H0 σ H S Q fun p H1 ⟨B, s, E, o⟩ => q (.ref p) (.ref (.ref p)) ((1500, p, .lst ds) :: own) H1 ⟨p, rfl, rfl⟩ ⟨B, s, E, o, rfl⟩
theorem sta_fresh {B0 H0 H : Hp} {σ : L2.St} {p : Addr} {u : HO} {c : OC} (S : Sta B0 H0 env own σ H) (hp : H p = none) (hc : ∀ B, OC.at_ B (upd H p u) p c) : Sta B0 H0 env ((1500, p, c) :: own) σ (upd H p u) := by
  obtain ⟨B, s, E, o⟩ := S
  have st : Stp B H B (upd H p u) := .own s.bh hp
  refine ⟨B, s.trans st, E, fun q hq => ?_, ?_⟩
  · rcases List.mem_cons.mp hq with rfl | hq
    · exact ⟨fun z => absurd z (show ¬ (1500 : Nat) < 1000 by decide), ex_none s.bh hp, ex_h0 s hp, hc B⟩
    · exact (o.stp st).all q hq
  · refine List.nodup_cons.mpr ⟨fun hm => ?_, o.nd⟩
    obtain ⟨q, hq, e⟩ := List.mem_map.mp hm
    exact OC.there (o.all q hq).2.2.2 (by rw [e]; exact hp)
theorem eo_newT : EO X env own (.Dict [] [] pos) (fun r o => ∃ p, r = .ref (.ref p) ∧ o = (1500, p, .dct []) :: own) := fun B0 H0 fr σ H S Q q => by
  refine we pe_dnewT ?_
  intro p hp
  obtain ⟨B, s, E, o⟩ := sta_fresh (c := .dct []) (u := .dT []) S hp fun B => upd_same
  exact q (.ref p) (.ref (.ref p)) ((1500, p, .dct []) :: own) _ ⟨p, rfl, rfl⟩ ⟨B, s, E, o, rfl⟩
/-! {'k': v, ..} -/
def TPs (X : Cx) (l : List (Expr × Expr)) : List (TE × TE) := l.map fun p => (WE X p.1, WE X p.2)
theorem ppsU : ∀ l : List (Expr × Expr), PPs X pos (l.map fun p => some p.1) (l.map (·.2)) (TPs X l)
  | [] => pps_nil
  | p :: l => pps_cons smE smE (ppsU l)
def KArg (B : Hp) : List (V × V) → List (Str × Arg) → Prop := Paired fun p q => p.1 = V.str q.1 ∧ q.2.at_ B p.2
theorem KArg.ex {B B' : Hp} {ps : List (V × V)} {ks : List (Str × Arg)} (h : KArg B ps ks) (e : Ex B B') : KArg B' ps ks := Paired.mapP h fun _ _ z => ⟨z.1, z.2.ex e⟩
def DO (X : Cx) (env : Ev) (own : Own) (l : List (Expr × Expr)) (Pd : List (Str × Arg) → Own → Prop) : Prop := ∀ (B0 H0 : Hp) (fr : Own) (σ : L2.St) (H : Hp), Sta B0 H0 env (own ++ fr) σ H → ∀ Q : List (V × V) → Hp → Prop,
  (∀ ps ks own' H1, Pd ks own' → (∃ B, Stp B0 H0 B H1 ∧ En σ B env ∧ OwnOk B0 H0 B H1 (own' ++ fr) σ ∧ KArg B ps ks) → Q ps H1) → tPairs (TPs X l) σ H Q
theorem do_nil : DO X env own [] (fun ks o => ks = [] ∧ o = own) := fun B0 H0 fr σ H ⟨B, s, E, o⟩ Q q => q [] [] own H ⟨rfl, rfl⟩ ⟨B, s, E, o, .nil⟩
theorem do_cons {f : Str} {j : Nat} {l : List (Expr × Expr)} {Pd : Arg → List (Str × Arg) → Own → Prop} (ha : EO X env own e Po) (hb : ∀ r o, Po r o → DO X env o l (Pd r)) : DO X env own ((.Constant (.str f) j p1, e) :: l) (fun ks o => ∃ r ks', ks = (f, r) :: ks' ∧ (∃ o1, Po r o1) ∧ Pd r ks' o) := fun B0 H0 fr σ H S Q q => by
  refine we pe_str ?_
  refine ha B0 H0 fr σ H S _ fun v r o1 H1 hp ⟨B1, s1, E1, ok1, z1⟩ => ?_
  refine hb r o1 hp B1 H0 fr σ H1 ⟨B1, stp_to s1 s1.bb (Ex.refl _), E1, ok1.all, ok1.nd⟩ _ fun ps ks o2 H2 hp2 ⟨B2, s2, E2, ok2, z2⟩ => ?_
  exact q _ _ o2 H2 ⟨r, ks, rfl, ⟨o1, hp⟩, hp2⟩ ⟨B2, stp_base s1 s2, E2, ⟨ok2.all, ok2.nd⟩, .cons ⟨rfl, z1.ex s2.bb⟩ z2⟩
theorem nd_inr {l : List Str} (h : l.Nodup) : (l.map (Sum.inr : Str → Key)).Nodup := List.Pairwise.map _ (fun a b hab e => hab (Sum.inr.inj e)) h
theorem mergeK_nd : ∀ (ps xs : List (Key × V)), ((xs ++ ps).map (·.1)).Nodup → mergeK xs ps = xs ++ ps
  | [], xs, _ => by simp [mergeK]
  | p :: ps, xs, h => by
    have h1 : putK xs p.1 p.2 = xs ++ [p] := by
      unfold putK
      rw [if_neg]
      intro hany
      obtain ⟨q, hq, e⟩ := List.any_eq_true.mp hany
      have e := of_decide_eq_true e
      rw [List.map_append, List.map_cons] at h
      exact (List.nodup_append.mp h).2.2 _ (List.mem_map.mpr ⟨q, hq, rfl⟩) _ List.mem_cons_self e
    have h2 := mergeK_nd ps (xs ++ [p]) (by rw [List.append_assoc]; exact h)
    have h3 : mergeK xs (p :: ps) = mergeK (putK xs p.1 p.2) ps := rfl
    rw [h3, h1, h2, List.append_assoc]
    rfl
theorem kArg_keys {B : Hp} : ∀ {ps : List (V × V)} {ks : List (Str × Arg)}, KArg B ps ks → ∃ kvs : List (Key × V), ps = kvs.map (fun kv => (kV kv.1, kv.2)) ∧ KsAt B kvs ks ∧ kvs.map (·.1) = ks.map fun k => Sum.inr k.1
  | _, _, .nil => ⟨[], rfl, .nil, rfl⟩
  | _, _, .cons (a := (x, y)) (b := (f, r)) h t => by
    obtain ⟨kvs, h1, h2, h3⟩ := kArg_keys t
    obtain ⟨e1, e2⟩ := h
    have e1 : x = V.str f := e1
    subst e1
    exact ⟨(Sum.inr f, y) :: kvs, by rw [h1]; rfl, .cons ⟨rfl, e2⟩ h2, by rw [List.map_cons, List.map_cons, h3]⟩
theorem eo_disp {l : List (Expr × Expr)} {Pd : List (Str × Arg) → Own → Prop} (h : DO X env own l Pd) (hk : ∀ ks o, Pd ks o → (ks.map (·.1)).Nodup ∧ ks.length ≤ 15 ∧ ∀ p, Po (.ref (.ref p)) ((1500, p, .dk ks) :: o)) (h0 : (l.map fun p => some p.1) ≠ []) (h15 : (l.map fun p => some p.1).length ≤ 15) :
    EO X env own (.Dict (l.map fun p => some p.1) (l.map (·.2)) pos) Po := fun B0 H0 fr σ H S Q q => by
  refine we (pe_disp (ppsU l) ?_ (by simp) h0 h15) ?_
  · simp
  intro p hp
  have S1 := sta_fresh (c := .dk []) (u := .dK []) S hp fun B => ⟨[], upd_same, .nil⟩
  have S1 := S1.perm (own' := own ++ (1500, p, .dk []) :: fr) (List.perm_middle.symm)
  refine h B0 H0 _ σ _ S1 _ fun ps ks o1 H1 hp1 ⟨B1, s1, E1, ok1, z1⟩ => ?_
  obtain ⟨kvs, rfl, k2, k3⟩ := kArg_keys z1
  obtain ⟨n1, n2, n3⟩ := hk ks o1 hp1
  obtain ⟨_, _, _, vs, g1, g2⟩ := ok1.all (1500, p, .dk []) (by simp)
  cases g2
  have hm : mergeK [] kvs = kvs := by
    rw [mergeK_nd kvs [] (by
      rw [List.nil_append, k3]
      have : (ks.map fun k => (Sum.inr k.1 : Key)) = (ks.map (·.1)).map Sum.inr := by rw [List.map_map]; rfl
      rw [this]
      exact nd_inr n1)]
    rfl
  refine ⟨g1, kvs, rfl, ?_, ?_⟩
  · rw [Paired.length k2]; exact n2
  · rw [hm]
    obtain ⟨B2, t1, t2, t3⟩ := sta_upd (B0 := B1) (own1 := o1) (own2 := fr) (c := .dk []) (c' := .dk ks) (stp_to s1 s1.bb (Ex.refl _)) E1 ⟨ok1.all, ok1.nd⟩ ⟨kvs, upd_same, k2⟩
    refine q (.ref p) (.ref (.ref p)) ((1500, p, .dk ks) :: o1) _ (n3 p) ⟨B2, stp_base s1 t1, t2, OwnOk.perm (own := o1 ++ (1500, p, .dk ks) :: fr) ⟨t3.all, t3.nd⟩ List.perm_middle, rfl⟩
/-! d.update(d2) -/
def rUpd : V → List V → Hp → VK → Prop := fun x vs H Q => ∃ a b kvs more, x = .ref a ∧ vs = [.ref b] ∧ a ≠ b ∧ H a = some (.dK kvs) ∧ H b = some (.dK more) ∧ kvs.length + more.length ≤ 1000 ∧ Q .non (upd H a (.dK (mergeK kvs more)))
theorem mergeK_len : ∀ (more kvs : List (Key × V)), (mergeK kvs more).length ≤ kvs.length + more.length
  | [], kvs => by simp [mergeK]
  | p :: more, kvs => by
    have h1 := length_putK kvs p.1 p.2
    have h2 := mergeK_len more (putK kvs p.1 p.2)
    have h3 : mergeK kvs (p :: more) = mergeK (putK kvs p.1 p.2) more := rfl
    rw [h3, List.length_cons]
    omega
theorem mt_update : MtM X "dict.update" rUpd := by
  intro pins s σ H x vs v us Q I rx rv h
  obtain ⟨a, b, kvs, more, rfl, rfl, hab, ha, hb, hl, q⟩ := h
  cases rx
  obtain ⟨u, rfl, ru⟩ := rv.one
  cases ru
  obtain ⟨z, hd, vs1, r1, d1⟩ := dk_of I.hok ha
  obtain ⟨z2, hd2, vs2, r2, d2⟩ := dk_of I.hok hb
  have l1 : kvs.length = vs1.length := r1.length
  have l2 : more.length = vs2.length := r2.length
  refine call_meetsIn PySem.F.slot_dict_update d1.typeIs PySem.F.entry_dict_update (PySem.F.args_dict_update_2 _ _) (meets_dict_update (mixKind X.prog X.w) a b hab hd2)
    ⟨vs1, vs2, d1, d2, by rw [← l1, ← l2, sizeLine_eq]; omega, fun h' dd' _ hs => ⟨.non, _, d_write (t' := s.toks) I (by rw [ha]; exact True.intro) hs ?_ (dk_new ?_ hd (r2.merge r1) dd'), rfl, q⟩⟩
  · obtain ⟨q, _, _, hq, _⟩ := dd'
    exact ⟨q, hq⟩
  · have := mergeK_len more kvs
    rw [sizeLine_eq]
    omega
theorem eo_upd {Pb : Post} (hr : RV X env own r aa) (hb : EO X env own b Pb) (hd : ∀ v o, Pb v o → ∃ (ks more : List (Str × Arg)) (bb : Addr) (o' : Own), v = .ref (.ref bb) ∧ o.Perm ((i, aa, .dk ks) :: (1500, bb, .dk more) :: o') ∧ ((ks ++ more).map (·.1)).Nodup ∧ ks.length + more.length ≤ 1000 ∧ Po (.dat .none) ((i, aa, .dk (ks ++ more)) :: o'))
    (hbase : attributeBase r "update" X.env (eval r X.env) = eval r X.env := by rfl)
    (hfew : ((backTo cpos (starEach [b] X.env)).all (fun x => !x.1) && (backToKw cpos (keywordEach [] X.env)).all (fun x => x.1.isSome)
      && decide ([b].length + ([] : List Keyword).length + (if ([] : List Keyword).isEmpty then 0 else 1) < 30)) = true := by rfl)
    (hm : ∃ kk, (i, aa, OC.dk kk) ∈ own)
    (hline : (apos.endLine == cpos.line) = true := by rfl) (hs : starEach [b] X.env = (false, eval b X.env) :: starEach [] X.env := by rfl) :
    EO X env own (.Call (.Attribute r "update" apos) [b] [] cpos) Po := fun B0 H0 fr σ H S Q q => by
  refine we (pe_bm PySem.F.plainAttrs_dict PySem.F.slot_dict_update PySem.F.type_dict_update mt_update smE (pa_cons smE pa_nil hs) hbase hfew hline hs) ?_
  refine hr B0 H0 fr σ H S _ ?_
  obtain ⟨kk, hm⟩ := hm
  have ty : tyV X.K "dict" (.ref aa) H := by
    obtain ⟨B, s, E, o⟩ := S
    obtain ⟨_, _, _, vs, h1, h2⟩ := o.all _ (List.mem_append_left _ hm)
    exact .inr (.inr (.inl ⟨rfl, .inl ⟨_, h1⟩⟩))
  refine ⟨ty, ?_⟩
  refine hb B0 H0 fr σ H S _ fun v r o1 H1 hp ⟨B1, s1, E1, ok1, z1⟩ => ?_
  obtain ⟨ks, more, bb, o', rfl, pm, hn, hlen, hPo⟩ := hd r o1 hp
  have z1 : v = .ref bb := z1
  subst z1
  have ok2 := ok1.perm (pm.append_right fr)
  obtain ⟨_, _, _, vs1, g1, g2⟩ := ok2.all (i, aa, .dk ks) (by simp)
  obtain ⟨_, _, _, vs2, k1, k2⟩ := ok2.all (1500, bb, .dk more) (by simp)
  have hne : aa ≠ bb := fun e => by
    have nd := ok2.nd
    simp only [List.cons_append, List.map_cons, List.nodup_cons, List.mem_cons, not_or] at nd
    exact nd.1.1 e
  have l1 : vs1.length = ks.length := Paired.length g2
  have l2 : vs2.length = more.length := Paired.length k2
  have hks : ∀ {vs : List (Key × V)} {fs : List (Str × Arg)}, KsAt B1 vs fs → vs.map (·.1) = fs.map fun k => Sum.inr k.1 := fun h => by
    induction h with
    | nil => rfl
    | cons z t ih => rw [List.map_cons, List.map_cons, z.1, ih]
  have hm : mergeK vs1 vs2 = vs1 ++ vs2 := mergeK_nd vs2 vs1 (by
    rw [List.map_append, hks g2, hks k2, ← List.map_append]
    have : ((ks ++ more).map fun k => (Sum.inr k.1 : Key)) = ((ks ++ more).map (·.1)).map Sum.inr := by rw [List.map_map]; rfl
    rw [this]
    exact nd_inr hn)
  refine ⟨aa, bb, vs1, vs2, rfl, rfl, hne, g1, k1, by omega, ?_⟩
  rw [hm]
  have app : ∀ {a : List (Key × V)} {c : List (Str × Arg)} {a' : List (Key × V)} {c' : List (Str × Arg)}, KsAt B1 a c → KsAt B1 a' c' → KsAt B1 (a ++ a') (c ++ c') := fun h h' => by
    induction h with
    | nil => exact h'
    | cons z t ih => exact .cons z ih
  obtain ⟨B2, t1, t2, t3⟩ := sta_upd (B0 := B1) (own1 := []) (own2 := (1500, bb, .dk more) :: (o' ++ fr)) (c := .dk ks) (c' := .dk (ks ++ more)) (stp_to s1 s1.bb (Ex.refl _)) E1 ⟨ok2.all, ok2.nd⟩ ⟨vs1 ++ vs2, upd_same, app g2 k2⟩
  refine q .non (.dat .none) _ _ hPo ⟨B2, stp_base s1 t1, t2, ⟨fun p hp => t3.all p ?_, ?_⟩, .non⟩
  · rcases List.mem_cons.mp hp with h | h
    · rw [h]; exact List.mem_cons_self
    · exact List.mem_cons_of_mem _ (List.mem_cons_of_mem _ h)
  · have nd := t3.nd
    exact nd.sublist (((List.sublist_cons_self (1500, bb, OC.dk more) (o' ++ fr)).cons₂ (i, aa, OC.dk (ks ++ more))).map _)
end
end JH
set_option Elab.async false
set_option linter.all false
set_option maxRecDepth 100000
set_option maxHeartbeats 4000000
/-! drawing from the dice -/
namespace JH
open PySem PySem.Spec L2
open Evl (Ex Ex.refl Ex.trans Ex.new Ex.mut)
abbrev diO (i : Nat) (ld : Addr) (dd : List Int) : Nat × Addr × OC := (i, ld, .lst (dd.map .int))
def R_off : SR := fun as own Po => ∃ ld dd m, DiceOk dd ∧ 0 < m ∧ m ≤ 1000000 ∧ as = [.ref (.ref ld), .dat (nI m)] ∧ own = [diO 0 ld dd] ∧ Po = fun r o => ∃ n dd', n < m ∧ DiceOk dd' ∧ r = .dat (nI n) ∧ o = [diO 0 ld dd']
theorem ints_get {dd : List Int} {k : Nat} (h : k < dd.length) : (dd.map PyData.int)[k]? = some (.int (dd.getD k 0)) := by
  rw [List.getElem?_map, List.getD_eq_getElem?_getD, List.getElem?_eq_getElem h]
  rfl
theorem getD_mem0 {dd : List Int} {k : Nat} (h : k < dd.length) : dd.getD k 0 ∈ dd := by
  rw [List.getD_eq_getElem?_getD, List.getElem?_eq_getElem h]
  exact List.getElem_mem h
theorem DiceOk.setI {dd : List Int} (o : DiceOk dd) (k : Nat) {z : Int} (h : 0 ≤ z) : DiceOk (dd.set k z) := ⟨by rw [List.length_set]; exact o.two, by rw [List.length_set]; exact o.top, fun x hx => by
  rcases List.mem_or_eq_of_mem_set hx with h1 | h1
  · exact o.pos x h1
  · rw [h1]; exact h⟩
theorem eI {a b : Int} (h : a = b) : PyData.int a = PyData.int b := by rw [h]
section
variable {P : Program} {w : World} {K : PySem.W.Frag} {mg : Str → Option Value} {base : Heap}
theorem ok_law_off (T : Tx w K mg) : Kn P w K mg base "_law_off" 1 ["_law_d", "_law_most"] (spO R_off) := by
  obtain ⟨fd, F⟩ := T.d_law_off
  refine ⟨_, fd, fn_O0 F sc_law_off (fun as own Po ⟨_, _, _, _, _, _, e, _⟩ => by rw [e]; rfl) (by decide) ?_, T.g_law_off, F.kp, F.bindsN b_law_off⟩
  rintro cdv A outer s H0 E B0 own as Po vs Q hr ⟨ld, dd, m, ok, m0, m1, rfl, rfl, rfl⟩ S hQ
  have dv : ∀ {X : Cx} {env : Ev} {dd : List Int} {k : Nat} {p1 : Pos} {jj : Nat} {a : Expr} {pos : Pos}, PD X a env (.list (dd.map .int)) → k < dd.length → PD X (.Subscript a (.Constant (.int (k : Int)) jj p1) pos) env (.int (dd.getD k 0)) := fun ha hk => pd_ixL ha pd_int (ints_get hk)
  refine s_ifJ (φ := fun σ' H' => ∃ dd', DiceOk dd' ∧ Sta B0 _ (envA N_law_off [Arg.ref (.ref ld), .dat (nI m)]) [diO 0 ld dd'] σ' H') (b := decide (dd.getD 1 0 = 0) && decide (2 < (dd.length : Int))) S (tv_x 0 List.mem_cons_self (PQ.to (PQw.pq (pq_and (pq_cmp rd_eqI (dv (k := 1) (pd_var 0 rfl) (by have := ok.two; omega)) pd_int) fun _ => pq_and1 (pq_cmp rd_gt (pd_blt cd_lenL T.f_len bb_len (pds_cons (pd_var 0 rfl) pds_nil)) pd_int))) ?_)) (fun hb H' S => ?_) (fun hb H' S => s_nil ⟨dd, ok, S⟩) ?_
  · rw [List.length_map]
  · have h2 : 2 < dd.length := by
      have := of_decide_eq_true (Bool.and_eq_true_iff.mp hb).2
      omega
    refine s_setiE (own1 := []) (own2 := []) (i := 0) (l := ld) (ds := (dd.eraseIdx 2).map .int) (d := .int (dd.getD 2 0)) (j := 1) S ?_ (rv_var (i := 0) List.mem_cons_self) pd_int ?_ fun H' S => s_nil ⟨(dd.eraseIdx 2).set 1 (dd.getD 2 0), ?_, ?_⟩
    · refine EO.imp (eo_pop2 (rv_var (i := 0) List.mem_cons_self) (own1 := []) rfl pd_int (ints_get h2)) fun r o ⟨h1, h3⟩ => ⟨h1, ?_⟩
      rw [h3]
      simp [List.eraseIdx_eq_take_drop_succ]
    · rw [List.length_map, List.length_eraseIdx, if_pos h2]; omega
    · refine DiceOk.setI ⟨?_, ?_, fun x hx => ok.pos x (List.mem_of_mem_eraseIdx hx)⟩ 1 (ok.pos _ (getD_mem0 h2))
      · rw [List.length_eraseIdx, if_pos h2]; omega
      · have := ok.top
        rw [List.length_eraseIdx, if_pos h2]; omega
    · rw [← List.map_set] at S
      exact S
  · rintro σ' H' ⟨dd2, ok2, S⟩
    have h0 : 0 < dd2.length := by have := ok2.two; omega
    have h1 : 1 < dd2.length := by have := ok2.two; omega
    have p0 : 0 ≤ dd2.getD 0 0 := ok2.pos _ (getD_mem0 h0)
    have p1 : 0 ≤ dd2.getD 1 0 := ok2.pos _ (getD_mem0 h1)
    have mm : (0 : Int) < (m : Int) := by omega
    have md : CDiv (dd2.getD 1 0) (m : Int) := ⟨mm, by omega⟩
    have out : ∀ z : Int, 0 ≤ z → ∃ n : Nat, n < m ∧ z % (m : Int) = (n : Int) := fun z hz => ⟨(z % (m : Int)).toNat, by have := Int.emod_lt_of_pos z mm; have := Int.emod_nonneg z (by omega : (m : Int) ≠ 0); omega, by have := Int.emod_nonneg z (by omega : (m : Int) ≠ 0); omega⟩
    refine s_if S (tv_x 0 List.mem_cons_self (pq_cmp rd_gt (dv (k := 1) (pd_var 0 rfl) h1) pd_int)) (fun hb H' S => ?_) fun hb H' S => s_nil ?_
    · obtain ⟨n, n1, n2⟩ := out (dd2.getD 1 0) p1
      refine s_set 2 S (d := nI n) (ev_x 0 List.mem_cons_self (PD.to (pd_bin (rd_mod mm) (dv (k := 1) (pd_var 0 rfl) h1) (pd_var 1 rfl)) (eI n2)) rfl) (fun σ H' S => ?_) sc_law_off.nd
      refine s_setiR (rv_var (i := 0) List.mem_cons_self) (own1 := []) rfl S (j := 1) (d := .int (dd2.getD 1 0 / (m : Int))) (ev_x 0 List.mem_cons_self (pd_bin (rd_div md) (dv (k := 1) (pd_var 0 rfl) h1) (pd_var 1 rfl)) rfl) pd_int (by rw [List.length_map]; exact h1) fun H' S => ?_
      rw [← List.map_set] at S
      refine s_retE S (eo_pd (pd_var 2 rfl)) fun v r own' B1 H1 ⟨hr1, ho1⟩ st oa fr z => ?_
      subst hr1 ho1
      exact hQ v _ _ B1 H1 ⟨n, _, n1, ok2.setI 1 (Int.ediv_nonneg p1 (by omega)), rfl, rfl⟩ st oa fr z
    · have e0 : 0 ≤ (dd2.getD 0 0 * 48271 + 11) % 2147483647 := Int.emod_nonneg _ (by decide)
      refine s_setiR (rv_var (i := 0) List.mem_cons_self) (own1 := []) rfl S (j := 0) (d := .int ((dd2.getD 0 0 * 48271 + 11) % 2147483647)) (ev_x 0 List.mem_cons_self (pd_bin (rd_mod (by decide)) (pd_bin rd_add (pd_bin (rd_mul (.inr (by decide))) (dv (k := 0) (pd_var 0 rfl) h0) pd_int) pd_int) pd_int) rfl) pd_int (by rw [List.length_map]; exact h0) fun H' S => ?_
      rw [← List.map_set] at S
      generalize hz : (dd2.getD 0 0 * 48271 + 11) % 2147483647 = z0 at S e0
      have ok3 := ok2.setI 0 e0
      have l3 : 0 < (dd2.set 0 z0).length := by rw [List.length_set]; exact h0
      have g0 : (dd2.set 0 z0).getD 0 0 = z0 := by rw [List.getD_eq_getElem?_getD, List.getElem?_set_self h0]; rfl
      obtain ⟨n, n1, n2⟩ := out (z0 / 64) (Int.ediv_nonneg e0 (by decide))
      refine s_retE S (eo_x 0 (d := nI n) List.mem_cons_self (PD.to (pd_bin (rd_mod mm) (pd_bin (rd_div ⟨by decide, by decide⟩) (dv (k := 0) (pd_var 0 rfl) l3) pd_int) (pd_var 1 rfl)) (eI (by rw [g0]; exact n2))) rfl) fun v r own' B1 H1 ⟨hr1, ho1⟩ st oa fr z => ?_
      subst hr1 ho1
      exact hQ v _ _ B1 H1 ⟨n, _, n1, ok3, rfl, rfl⟩ st oa fr z
end
end JH
set_option Elab.async false
set_option linter.all false
set_option maxRecDepth 100000
set_option maxHeartbeats 4000000
/-! expressions that draw from the dice and change nothing else -/
namespace JH
open PySem PySem.Spec L2
open Evl (Ex Ex.refl Ex.trans Ex.new Ex.mut)
def Dc (X : Cx) (env : Ev) (i : Nat) (ld : Addr) (own : Own) (e : Expr) (Pd : PyData → Prop) : Prop := ∀ dd, DiceOk dd → EO X env (diO i ld dd :: own) e (fun r o => ∃ d dd', r = .dat d ∧ Pd d ∧ DiceOk dd' ∧ o = diO i ld dd' :: own)
def DcL (X : Cx) (env : Ev) (i : Nat) (ld : Addr) (own : Own) (es : List Expr) (Pl : List PyData → Prop) : Prop := ∀ dd, DiceOk dd → AO X env (diO i ld dd :: own) es (fun as o => ∃ ds dd', as = ds.map Arg.dat ∧ Pl ds ∧ DiceOk dd' ∧ o = diO i ld dd' :: own)
theorem Reads1.cons {own : Own} {a : Addr} {d : PyData} (h : Reads1 own a d) (p : Nat × Addr × OC) : Reads1 (p :: own) a d := fun B k => h B fun q hq => k q (List.mem_cons_of_mem _ hq)
section
variable {X : Cx} {env : Ev} {i j k : Nat} {ld l aa : Addr} {own own1 own2 : Own} {e a b : Expr} {es args : List Expr} {Pa Pb Pd : PyData → Prop} {Pl : List PyData → Prop} {d d' : PyData} {ds : List PyData} {pos p : Pos} {x : Str} {c : OC}
theorem Dc.imp {Pd' : PyData → Prop} (h : Dc X env i ld own e Pd) (k : ∀ d, Pd d → Pd' d) : Dc X env i ld own e Pd' := fun dd ok => EO.imp (h dd ok) fun r o ⟨d, dd', h1, h2, h3, h4⟩ => ⟨d, dd', h1, k d h2, h3, h4⟩
theorem dc_pd (h : PD X e env d) (p : Pd d) : Dc X env i ld own e Pd := fun dd ok => EO.imp (eo_pd h) fun r o ⟨h1, h2⟩ => ⟨d, dd, h1, p, ok, h2⟩
theorem dc_show (j : Nat) (hm : (j, aa, c) ∈ own) (hd : Reads1 own aa d') (h : PD X e (env.set j (some d')) d) (f : fz d = true) (p : Pd d) (hj : j < 1000 := by decide) : Dc X env i ld own e Pd := fun dd ok =>
  EO.imp (eo_show j (List.mem_cons_of_mem _ hm) (hd.cons _) h f hj) fun r o ⟨h1, h2⟩ => ⟨d, dd, h1, p, ok, h2⟩
theorem dc_x (j : Nat) (hm : (j, aa, c) ∈ own) (h : PD X e (env.set j (some c.d)) d) (f : fz d = true) (p : Pd d) (hD : c.isD = true := by rfl) (hj : j < 1000 := by decide) : Dc X env i ld own e Pd := fun dd ok =>
  EO.imp (eo_x j (List.mem_cons_of_mem _ hm) h f hD hj) fun r o ⟨h1, h2⟩ => ⟨d, dd, h1, p, ok, h2⟩
theorem dcl_nil : DcL X env i ld own [] (fun ds => ds = []) := fun dd ok => AO.imp ao_nil fun as o ⟨h1, h2⟩ => ⟨[], dd, h1, rfl, ok, h2⟩
theorem dcl_cons (ha : Dc X env i ld own e Pa) (hb : DcL X env i ld own es Pl) (hs : starEach (e :: es) X.env = (false, eval e X.env) :: starEach es X.env := by rfl) : DcL X env i ld own (e :: es) (fun ds => ∃ d ds', ds = d :: ds' ∧ Pa d ∧ Pl ds') := fun dd ok =>
  AO.imp (ao_consO (ha dd ok) (Pb := fun r o1 as o => ∃ d ds dd', r = .dat d ∧ Pa d ∧ as = ds.map Arg.dat ∧ Pl ds ∧ DiceOk dd' ∧ o = diO i ld dd' :: own) (fun r o ⟨d, dd1, h1, h2, h3, h4⟩ => by
    subst h4
    exact AO.imp (hb dd1 h3) fun as o ⟨ds, dd2, g1, g2, g3, g4⟩ => ⟨d, ds, dd2, h1, h2, g1, g2, g3, g4⟩) hs) fun as o ⟨r, as', o1, e1, _, d, ds, dd', h1, h2, g1, g2, g3, g4⟩ => ⟨d :: ds, dd', by rw [e1, h1, g1]; rfl, ⟨d, ds, rfl, h2, g2⟩, g3, g4⟩
/-- _law_off(_law_d, m) -/
theorem dc_off {M : Nat} {p1 p2 : Pos} (T : Tx X.w X.K X.mg) (hr : Room 1 X.A) (hv : ∀ dd, RV X env (diO i ld dd :: own) (.Name x p1) ld) (ha : Dc X env i ld own a (fun d => ∃ m, 0 < m ∧ m ≤ M ∧ d = nI m)) (hM : M ≤ 1000000) (hg : Gl X "_law_off" := by rfl)
    (hs : starEach [.Name x p1, a] X.env = (false, eval (.Name x p1) X.env) :: starEach [a] X.env := by rfl) (hs2 : starEach [a] X.env = (false, eval a X.env) :: starEach [] X.env := by rfl) (hpl : (backTo pos (starEach [a] X.env)).any (·.1) = false := by rfl) :
    Dc X env i ld own (.Call (.Name "_law_off" p2) [.Name x p1, a] [] pos) (fun d => ∃ n, n < M ∧ d = nI n) := fun dd ok => by
  refine eo_call (ok_law_off T) hr (ao_consO (RV.eo (hv dd)) (Pb := fun _ _ as o => ∃ m dd', 0 < m ∧ m ≤ M ∧ DiceOk dd' ∧ as = [.dat (nI m)] ∧ o = diO i ld dd' :: own) (fun r o ⟨_, ho⟩ => by
    subst ho
    exact AO.imp (ao_consO (ha dd ok) (Pb := fun r o as o' => as = [] ∧ o' = o) (fun r o _ => ao_nil) hs2) fun as o ⟨r, as', o1, e1, ⟨d, dd1, h1, ⟨m, m0, m1, m2⟩, h3, h4⟩, e2, e3⟩ => ⟨m, dd1, m0, m1, h3, by rw [e1, e2, h1, m2], by rw [e3, h4]⟩) hs) ?_ hg hs hpl
  rintro as o ⟨r, as', o1, rfl, ⟨rfl, _⟩, m, dd1, m0, m1, h3, rfl, rfl⟩
  refine ⟨[diO 0 ld dd1], [diO i ld dd1], own, _, rfl, rfl, fun q hq hi => ?_, ⟨ld, dd1, m, h3, m0, Nat.le_trans m1 hM, rfl, rfl, rfl⟩, ?_⟩
  · rw [List.mem_singleton.mp hq]
    rfl
  · rintro r o2 ⟨n, dd2, n1, h4, rfl, rfl⟩
    exact ⟨[diO i ld dd2], rfl, fun q hq hi => by rw [List.mem_singleton.mp hq]; exact List.mem_cons_self, nI n, dd2, rfl, ⟨n, Nat.lt_of_lt_of_le n1 m1, rfl⟩, h4, rfl⟩
theorem dc_bin {op : Operator} (ha : Dc X env i ld own a Pa) (hb : Dc X env i ld own b Pb) (hd : ∀ d1 d2, Pa d1 → Pb d2 → ∃ d, RD X (binaryOp op) d1 d2 d ∧ Pd d) : Dc X env i ld own (.BinOp a op b pos) Pd := fun dd ok =>
  eo_bin (Pb := fun _ r o => ∃ d dd', r = .dat d ∧ Pb d ∧ DiceOk dd' ∧ o = diO i ld dd' :: own) (ha dd ok) (fun r o ⟨d, dd1, h1, h2, h3, h4⟩ => by subst h4; exact hb dd1 h3) fun r1 o1 r2 o2 ⟨d1, _, e1, p1, _, _⟩ ⟨d2, dd2, e2, p2, k2, q2⟩ =>
    let ⟨d, R, pd⟩ := hd d1 d2 p1 p2
    ⟨d1, d2, d, e1, e2, R, d, dd2, rfl, pd, k2, q2⟩
theorem dc_cmp {op : CmpOp} (ha : Dc X env i ld own a Pa) (hb : Dc X env i ld own b Pb) (hd : ∀ d1 d2, Pa d1 → Pb d2 → ∃ d, RD X (compareOp op) d1 d2 d ∧ Pd d) (hm : behindInMarks op b = false := by rfl) : Dc X env i ld own (.Compare a [op] [b] pos) Pd := fun dd ok =>
  eo_cmp (Pb := fun _ r o => ∃ d dd', r = .dat d ∧ Pb d ∧ DiceOk dd' ∧ o = diO i ld dd' :: own) (ha dd ok) (fun r o ⟨d, dd1, h1, h2, h3, h4⟩ => by subst h4; exact hb dd1 h3) (fun r1 o1 r2 o2 ⟨d1, _, e1, p1, _, _⟩ ⟨d2, dd2, e2, p2, k2, q2⟩ =>
    let ⟨d, R, pd⟩ := hd d1 d2 p1 p2
    ⟨d1, d2, d, e1, e2, R, d, dd2, rfl, pd, k2, q2⟩) hm
theorem dc_tup {x1} (ha : DcL X env i ld own es Pl) (hd : ∀ ds, Pl ds → ds.length ≤ 100000 ∧ Pd (.tuple ds)) : Dc X env i ld own (.Tuple es x1 pos) Pd := fun dd ok =>
  eo_tup (ha dd ok) fun as o ⟨ds, dd1, h1, h2, h3, h4⟩ => ⟨ds, h1, (hd ds h2).1, _, dd1, rfl, (hd ds h2).2, h3, h4⟩
theorem dc_ixL (ha : PD X a env (.list ds)) (hb : Dc X env i ld own b Pb) (hd : ∀ r, Pb r → ∃ (n : Nat) (d : PyData), r = .int (n : Int) ∧ ds[n]? = some d ∧ Pd d) (hs : PlainIx b := by exact fun _ _ => rfl) : Dc X env i ld own (.Subscript a b pos) Pd := fun dd ok =>
  eo_ixL ha (hb dd ok) (fun r o ⟨d1, dd1, h1, h2, h3, h4⟩ => let ⟨n, d, e1, e2, pd⟩ := hd d1 h2; ⟨n, d, by rw [h1, e1], e2, d, dd1, rfl, pd, h3, h4⟩) hs
theorem dc_blt {id : String} (hm : X.mg x = none) (hv : bootBuiltins x = some (.builtin id)) (ha : DcL X env i ld own (e :: args) Pl) (h : ∀ ds, Pl ds → ∃ d, CD X (.builtin id) ds d ∧ Pd d) (hg : Gl X x := by rfl) (hn : x ≠ "__name__" := by decide) (hdb : (x == ("__debug__" : Str)) = false := by decide)
    (he : starEach (e :: args) X.env = (false, eval e X.env) :: starEach args X.env := by rfl) (hpl : (backTo pos (starEach args X.env)).any (·.1) = false := by rfl) : Dc X env i ld own (.Call (.Name x p) (e :: args) [] pos) Pd := fun dd ok =>
  eo_blt hm hv (ha dd ok) (fun as o ⟨ds, dd1, h1, h2, h3, h4⟩ => let ⟨d, C, pd⟩ := h ds h2; ⟨ds, d, h1, C, d, dd1, rfl, pd, h3, h4⟩) hg hn hdb he hpl
theorem dc_ty {t : String} (hm : X.mg x = none) (hv : bootBuiltins x = some (.type t)) (ha : DcL X env i ld own (e :: args) Pl) (h : ∀ ds, Pl ds → ∃ d, CD X (.type t) ds d ∧ Pd d) (hg : Gl X x := by rfl) (hn : x ≠ "__name__" := by decide) (hdb : (x == ("__debug__" : Str)) = false := by decide)
    (he : starEach (e :: args) X.env = (false, eval e X.env) :: starEach args X.env := by rfl) (hpl : (backTo pos (starEach args X.env)).any (·.1) = false := by rfl) : Dc X env i ld own (.Call (.Name x p) (e :: args) [] pos) Pd := fun dd ok =>
  eo_ty hm hv (ha dd ok) (fun as o ⟨ds, dd1, h1, h2, h3, h4⟩ => let ⟨d, C, pd⟩ := h ds h2; ⟨ds, d, h1, C, d, dd1, rfl, pd, h3, h4⟩) hg hn hdb he hpl
end
/-! statements -/
section
variable {X : Cx} {B0 H0 H : Hp} {env : Ev} {i j : Nat} {ld l : Addr} {own own1 own2 : Own} {σ : L2.St} {d : PyData} {ds : List PyData} {e r a : Expr} {rest body : List Stmt} {D : Ends} {pos pos' apos cpos p1 : Pos} {x : Str} {dd : List Int} {Pd : PyData → Prop}
theorem s_setD (t : Nat) (S : Sta B0 H0 env (diO i ld dd :: own) σ H) (ok : DiceOk dd) (h : Dc X env i ld own e Pd) (k : ∀ d dd' σ' H', Pd d → DiceOk dd' → Sta B0 H0 (env.set t (some d)) (diO i ld dd' :: own) σ' H' → WSs X rest D σ' H') (hi0 : i ≠ t) (ho : ∀ p ∈ own, p.1 ≠ t) (hN : X.N.Nodup) (hi : X.N[t]? = some x := by rfl)
    (hx : Loc X.env.scope x := by first | exact Or.inl rfl | exact Or.inr rfl) (hs : swapsWith e (some (.Name x pos')) pos.line X.env = pure false := by rfl) (hf : X.fn x = true ∨ X.env.scope.names.lookup x = some .local := by first | exact .inl rfl | exact .inr rfl) : WSs X (.Assign [.Name x pos'] e pos :: rest) D σ H := by
  refine s_setE t S (h dd ok) (fun d own' σ' H' hp S' => ?_) (fun r o hp => ?_) hN hi hx hs hf
  · obtain ⟨d1, dd1, h1, h2, h3, rfl⟩ := hp
    cases h1
    exact k d dd1 σ' H' h2 h3 S'
  · obtain ⟨d1, dd1, h1, h2, h3, rfl⟩ := hp
    refine ⟨⟨d1, h1⟩, fun p hp => ?_⟩
    rcases List.mem_cons.mp hp with rfl | hp
    · exact hi0
    · exact ho p hp
theorem s_appD (hr : ∀ dd, RV X env (diO i ld dd :: (own1 ++ (j, l, .lst ds) :: own2)) r l) (S : Sta B0 H0 env (diO i ld dd :: (own1 ++ (j, l, .lst ds) :: own2)) σ H) (ok : DiceOk dd) (h : Dc X env i ld (own1 ++ (j, l, .lst ds) :: own2) e Pd)
    (k : ∀ d dd' H', Pd d → DiceOk dd' → Sta B0 H0 env (diO i ld dd' :: (own1 ++ (j, l, .lst (ds ++ [d])) :: own2)) σ H' → WSs X rest D σ H') (hz : ds.length < 100000)
    (hbase : attributeBase r "append" X.env (eval r X.env) = eval r X.env := by rfl)
    (hfew : ((backTo cpos (starEach [e] X.env)).all (fun x => !x.1) && (backToKw cpos (keywordEach [] X.env)).all (fun x => x.1.isSome)
      && decide ([e].length + ([] : List Keyword).length + (if ([] : List Keyword).isEmpty then 0 else 1) < 30)) = true := by rfl)
    (hline : (apos.endLine == cpos.line) = true := by rfl) (hs : starEach [e] X.env = (false, eval e X.env) :: starEach [] X.env := by rfl)
    (hsw : swapsWith (.Call (.Attribute r "append" apos) [e] [] cpos) none pos.line X.env = pure false := by rfl) : WSs X (.Expr (.Call (.Attribute r "append" apos) [e] [] cpos) pos :: rest) D σ H := by
  refine wss (pss_cons (ps_expr (pe_bm PySem.F.plainAttrs_list PySem.F.slot_list_append PySem.F.type_list_append mt_append smE (pa_cons smE pa_nil hs) hbase hfew hline hs) hsw) smSs) ?_
  refine (hr dd).run S ?_
  have ty : tyV X.K "list" (.ref l) H := by
    obtain ⟨B, s, E, o⟩ := S
    obtain ⟨h1, h2, h3, xs, h4, h5⟩ := o.all (j, l, .lst ds) (by simp)
    exact tyL h4
  refine ⟨ty, ?_⟩
  refine (h dd ok).run S fun v r o1 H1 hp ⟨B1, s1, E1, ok1, z1⟩ => ?_
  obtain ⟨d, dd1, rfl, h2, h3, rfl⟩ := hp
  have z1 : Dz B1 v d := z1
  obtain ⟨g1, g2, g3, ys, g4, g5⟩ := ok1.all (j, l, .lst ds) (by simp)
  exact ⟨l, ys, v, rfl, rfl, g4, szl (by rw [g5.length]; exact hz), k d dd1 _ h2 h3 (sta_upd (own1 := diO i ld dd1 :: own1) s1 E1 ok1 ⟨ys ++ [v], upd_same, g5.append (.cons z1 .nil)⟩)⟩
/-! ranges whose length is drawn -/
def IO (X : Cx) (env : Ev) (own : Own) (tg iter : Expr) (Pi : Nat → Own → Prop) : Prop := ∀ (B0 H0 : Hp) (σ : L2.St) (H : Hp), Sta B0 H0 env own σ H → ∀ R : It → Hp → Prop, (∀ n own' H1, Pi n own' → n ≤ 100000 → Sta B0 H0 env own' σ H1 → R (Itr 0 n) H1) → WI X tg iter σ H R
theorem io_rng {tg : Expr} {p : Pos} {Pi : Nat → Own → Prop} {Po : Post} (h : EO X env own a Po) (hd : ∀ r o, Po r o → ∃ n, r = .dat (nI n) ∧ n ≤ 100000 ∧ Pi n o) (hm : X.mg "range" = none) (hg : Gl X "range" := by rfl) (hs : starEach [a] X.env = [(false, eval a X.env)] := by rfl) :
    IO X env own tg (.Call (.Name "range" p) [a] [] pos) Pi := fun B0 H0 σ H S R q => by
  refine wi (pi_range1 hg hm (pa_cons smE pa_nil hs) hs) ?_
  refine h.run S fun v r o1 H1 hp ⟨B1, s1, E1, ok1, z1⟩ => ?_
  obtain ⟨n, rfl, hn, pi⟩ := hd r o1 hp
  have z1 : Dz B1 v (.int (n : Int)) := z1
  refine ⟨n, by rw [z1.int_inv], by omega, by omega, ?_⟩
  rw [Int.toNat_natCast]
  exact q n o1 H1 pi hn ⟨B1, s1, E1, ok1⟩
theorem s_forE {ι : Type} {tg iter : Expr} {Pi : Nat → Own → Prop} (S : Sta B0 H0 env own σ H) (hi : IO X env own tg iter Pi) (ev : Nat → ι → Ev) (ow : Nat → ι → Own) (nv : Nat → ι → Ev) (js : List Nat) (Pf : Nat → Nat → ι → Prop)
    (h0 : ∀ n o H', Pi n o → Sta B0 H0 env o σ H' → ∃ x, Pf n 0 x ∧ Sta B0 H0 (ev 0 x) (ow 0 x) σ H') (hg : ∀ k x, PGt X tg (ev k x) (nI k) (nv k x) js) (hj : ∀ k x, ∀ p ∈ ow k x, p.1 ∉ js)
    (hb : ∀ n k x σ H, k < n → Pf n k x → Sta B0 H0 (nv k x) (ow k x) σ H →
      WSs X body { D with nx := fun σ' H' => ∃ x, Pf n (k + 1) x ∧ Sta B0 H0 (ev (k + 1) x) (ow (k + 1) x) σ' H', ct := fun σ' H' => ∃ x, Pf n (k + 1) x ∧ Sta B0 H0 (ev (k + 1) x) (ow (k + 1) x) σ' H', bk := WSs X rest D } σ H)
    (hd : ∀ n x σ H, Pf n n x → Sta B0 H0 (ev n x) (ow n x) σ H → WSs X rest D σ H) (hp : PassesOwn (model X.prog X.w) X.A X.env X.xe) (hc : X.calm = true) (hs : ∀ x, foldedSetIterable iter X.env x = pure x := by intro _; rfl) : WSs X (.For tg iter body [] pos :: rest) D σ H := by
  refine wss (pss_cons (ps_for hp hc smI smG smSs hs) smSs) ?_
  refine hi B0 H0 σ H S _ fun n o1 H1 pi hn S1 => ?_
  refine ⟨fun i m σ' H' => m = n - i ∧ i ≤ n ∧ ∃ x, Pf n i x ∧ Sta B0 H0 (ev i x) (ow i x) σ' H', ⟨n, by simp, Nat.zero_le _, h0 n o1 H1 pi S1⟩, ?_⟩
  rintro k m σ' H' ⟨rfl, him, y0, pf, B', s', E', o'⟩
  by_cases hlt : k < n
  · refine .inr ⟨hlt, fun σ2 H2 => ∃ x, Pf n (k + 1) x ∧ Sta B0 H0 (ev (k + 1) x) (ow (k + 1) x) σ2 H2, fun σ2 H2 h2 => ⟨n - (k + 1), by omega, rfl, hlt, h2⟩, fun x H2 y => ?_⟩
    obtain ⟨rfl, rfl⟩ := y
    have z2 : Dz B' (.int ((0 : Int) + (k : Nat))) (nI k) := by
      rw [Int.zero_add]
      exact .int _
    refine hg k y0 σ' B' _ _ E' s'.bh z2 _ fun σ2 E2 l2 k2 => ?_
    exact hb n k y0 σ2 _ hlt pf ⟨B', s', E2, o'.slots fun p hp => k2 p.1 (hj k y0 p hp)⟩
  · have e : k = n := by omega
    subst e
    exact .inl ⟨Nat.le_refl _, hd k y0 σ' H' pf ⟨B', s', E', o'⟩⟩
/-- x = [.. for .. in range(..)], its items drawn -/
theorem s_setCE (i : Nat) {tg iter elt : Expr} {scope : Scope} {cown : List (Str × Nat)} {Pi : Nat → Own → Prop} (S : Sta B0 H0 env own σ H) (ok : BlkOk X.N X.env.scope scope cown) (hi : IO X env own tg iter Pi) (nv : Nat → Ev) (js : List Nat) (Pv : Nat → Nat → List PyData → Own → Prop)
    (h0 : ∀ n o, Pi n o → Pv n 0 [] o) (hg : ∀ k (s : Shared) (H : Hp) (C : Addr) (cl : List (Str × Addr)) (fp : List Addr), PGt (X.blk s H scope (compEnvC scope cl C X.env) fp) tg (wipeE env (cown.map (·.2))) (nI k) (nv k) js) (hj : ∀ j ∈ js, j ∈ cown.map (·.2))
    (he : ∀ n k ds o, k < n → Pv n k ds o → ∀ (s : Shared) (H : Hp) (C : Addr) (cl : List (Str × Addr)) (fp : List Addr), EO (X.blk s H scope (compEnvC scope cl C X.env) fp) (nv k) o elt (fun r o' => ∃ d, r = .dat d ∧ Pv n (k + 1) (ds ++ [d]) o'))
    (hv : ∀ n k ds o, Pv n k ds o → (∀ p ∈ o, p.1 ∉ cown.map (·.2) ∧ p.1 ≠ i) ∧ ds.length = k)
    (k : ∀ n ds o σ' H', Pv n n ds o → Sta B0 H0 (env.set i (some (.list ds))) o σ' H' → WSs X rest D σ' H') (hc : X.calm = true) (hN : X.N.Nodup)
    (hsw : swapsWith (.ListComp elt [⟨tg, iter, [], 0⟩] scope cpos) (some (.Name x pos')) pos.line X.env = pure true) (hi1 : X.N[i]? = some x := by rfl) (hx : X.env.scope.names.lookup x = some .local := by rfl)
    (hs : ∀ x, foldedSetIterable iter X.env x = pure x := by intro _; rfl) : WSs X (.Assign [.Name x pos'] (.ListComp elt [⟨tg, iter, [], 0⟩] scope cpos) pos :: rest) D σ H := by
  refine wss (pss_cons (ps_setLc hc hN hi1 hx hsw smI ok smgB smtB smeB hs) smSs) ?_
  refine hi B0 H0 σ H S _ fun n o1 H1 pi hn S1 D0 hD => ?_
  refine ⟨fun k m H' => m = n - k ∧ k ≤ n ∧ ∃ ds o, Pv n k ds o ∧ Sta B0 H0 env ((1500, D0, .lst ds) :: o) σ H', ⟨n, by simp, Nat.zero_le _, [], o1, h0 n o1 pi, sta_fresh S1 hD fun B => ⟨[], upd_same, .nil⟩⟩, ?_⟩
  rintro k0 m H' ⟨rfl, him, ds, o, pv, B', s', E', o'⟩
  obtain ⟨hv1, hv2⟩ := hv n k0 ds o pv
  by_cases hlt : k0 < n
  · refine .inr ⟨hlt, fun H2 => k0 + 1 ≤ n ∧ ∃ ds o, Pv n (k0 + 1) ds o ∧ Sta B0 H0 env ((1500, D0, .lst ds) :: o) σ H2, fun H2 h2 => ⟨n - (k0 + 1), by omega, rfl, h2⟩, fun x H2 y => ?_⟩
    obtain ⟨rfl, rfl⟩ := y
    have z2 : Dz B' (.int ((0 : Int) + (k0 : Nat))) (nI k0) := by
      rw [Int.zero_add]
      exact .int _
    intro s0 HH0 C0 cl0 fp0
    refine hg k0 s0 HH0 C0 cl0 fp0 _ B' _ _ (E'.wipe _) s'.bh z2 _ fun σ2 E2 l2 k2 => ⟨wipe_same l2 k2 hj, .inl ⟨rfl, ?_⟩⟩
    show (if (true : Bool) = true then _ else _)
    rw [if_pos rfl]
    intro s4 H4' C4 cl4 fp4
    have sl : ∀ p ∈ (1500, D0, OC.lst ds) :: o, p.1 < 1000 → σ2[p.1]? = σ[p.1]? := fun p hp h1 => by
      rcases List.mem_cons.mp hp with rfl | hp
      · exact absurd h1 (show ¬ (1500 : Nat) < 1000 by decide)
      · rw [k2 p.1 fun z => (hv1 p hp).1 (hj _ z), wipe_at, if_neg (hv1 p hp).1]
    have o2 : OwnOk B' H0 B' _ (o ++ [(1500, D0, .lst ds)]) σ2 := OwnOk.perm (own := (1500, D0, .lst ds) :: o) ⟨fun p hp => let ⟨a, b, c, e⟩ := o'.all p hp; ⟨fun z => (sl p hp z).trans (a z), b, c, e⟩, o'.nd⟩ (List.perm_append_comm (l₁ := [(1500, D0, OC.lst ds)]))
    refine he n k0 ds o hlt pv s4 H4' C4 cl4 fp4 B' H0 [(1500, D0, .lst ds)] σ2 _ ⟨B', stp_to s' s'.bb (Ex.refl _), E2, o2⟩ _ fun v r o3 H4 hp ⟨B4, s5, E5, ok5, z5⟩ => ?_
    obtain ⟨d, rfl, pv2⟩ := hp
    have z5 : Dz B4 v d := z5
    obtain ⟨_, _, _, acc, g4, g5⟩ := ok5.all (1500, D0, .lst ds) (by simp)
    refine ⟨acc, g4, szl (by rw [g5.length, hv2]; omega), hlt, ds ++ [d], o3, pv2, ?_⟩
    obtain ⟨hw1, _⟩ := hv n (k0 + 1) (ds ++ [d]) o3 pv2
    have ok6 : OwnOk B0 H0 B4 H4 (o3 ++ (1500, D0, .lst ds) :: []) σ := ⟨fun p hp => let ⟨a, b, c, e⟩ := ok5.all p hp; ⟨fun z => by
      rcases List.mem_append.mp hp with hp | hp
      · have := a z
        rw [k2 p.1 fun z => (hw1 p hp).1 (hj _ z), wipe_at, if_neg (hw1 p hp).1] at this
        exact this
      · rw [List.mem_singleton.mp hp] at z
        exact absurd z (show ¬ (1500 : Nat) < 1000 by decide), b, c, e⟩, ok5.nd⟩
    exact (sta_upd (own1 := o3) (own2 := []) (c := .lst ds) (c' := .lst (ds ++ [d])) (stp_base s' s5) (E'.ex s5.bb) ok6 ⟨acc ++ [v], upd_same, g5.append (.cons z5 .nil)⟩).perm (List.perm_append_comm (l₂ := [(1500, D0, OC.lst (ds ++ [d]))]))
  · have e : k0 = n := by omega
    subst e
    refine .inl ⟨Nat.le_refl _, k k0 ds o _ H' pv ?_⟩
    obtain ⟨_, nB, nH0, xs, hl, hx⟩ := o'.all _ List.mem_cons_self
    have nd := o'.nd
    rw [List.map_cons, List.nodup_cons] at nd
    have e1 : Ex B' (upd B' D0 (.lst xs)) := Ex.new nB
    refine StaV.set i ⟨upd B' D0 (.lst xs), ⟨s'.bb.trans e1, fun a u q => ?_, s'.hh, fun a h q => ?_⟩, E'.ex e1, ⟨fun p hp => ?_, nd.2⟩, .lst upd_same (hx.ex e1)⟩ fun p hp => (hv1 p hp).2
    · by_cases ha : a = D0
      · rw [ha, upd_same] at q
        rw [ha, hl]
        exact q
      · rw [upd_ne ha] at q
        exact s'.bh a u q
    · have ha : a ≠ D0 := fun ha => h.ne (by rw [ha]; exact nH0)
      rw [upd_ne ha]
      exact s'.av a h q
    · obtain ⟨a, b, c, d⟩ := o'.all p (List.mem_cons_of_mem _ hp)
      have hne : p.2.1 ≠ D0 := fun e => nd.1 (by rw [← e]; exact List.mem_map.mpr ⟨p, hp, rfl⟩)
      exact ⟨a, by rw [upd_ne hne]; exact b, c, OC.ex d e1 (.of (Ex.refl _))⟩
end
end JH
set_option Elab.async false
set_option linter.all false
set_option maxRecDepth 100000
set_option maxHeartbeats 4000000
namespace JH
open PySem PySem.Spec L2
open Evl (Ex Ex.refl Ex.trans Ex.new Ex.mut)
section
variable {X : Cx} {env : Ev} {i : Nat} {ld : Addr} {own : Own} {pos p1 p2 q1 q2 : Pos} {x : Str}
/-- _law_off(_law_d, M), M written -/
theorem dc_offc {M j1 : Nat} (T : Tx X.w X.K X.mg) (hr : Room 1 X.A) (hv : ∀ dd, RV X env (diO i ld dd :: own) (.Name x p1) ld) (h0 : 0 < M) (hM : M ≤ 1000000) (hg : Gl X "_law_off" := by rfl)
    (hs : starEach [.Name x p1, .Constant (.int (M : Int)) j1 q1] X.env = (false, eval (.Name x p1) X.env) :: starEach [.Constant (.int (M : Int)) j1 q1] X.env := by rfl) (hs2 : starEach [.Constant (.int (M : Int)) j1 q1] X.env = (false, eval (.Constant (.int (M : Int)) j1 q1) X.env) :: starEach [] X.env := by rfl) (hpl : (backTo pos (starEach [.Constant (.int (M : Int)) j1 q1] X.env)).any (·.1) = false := by rfl) :
    Dc X env i ld own (.Call (.Name "_law_off" p2) [.Name x p1, .Constant (.int (M : Int)) j1 q1] [] pos) (fun d => ∃ n, n < M ∧ d = nI n) := dc_off T hr hv (dc_pd pd_int ⟨M, h0, Nat.le_refl _, rfl⟩) hM hg hs hs2 hpl
/-- c + _law_off(_law_d, M) -/
theorem dc_plus {b : Expr} {c M j1 : Nat} (h : Dc X env i ld own b (fun d => ∃ n, n < M ∧ d = nI n)) : Dc X env i ld own (.BinOp (.Constant (.int (c : Int)) j1 q1) .Add b pos) (fun d => ∃ n, c ≤ n ∧ n < c + M ∧ d = nI n) :=
  dc_bin (Pa := fun d => d = nI c) (dc_pd pd_int rfl) h fun d1 d2 e1 ⟨n, h1, h2⟩ => ⟨nI (c + n), by rw [e1, h2, show nI (c + n) = PyData.int ((c : Int) + (n : Int)) by simp [nI]]; exact rd_add, c + n, by omega, by omega, rfl⟩
end
def TkOk (x : List (Nat × Nat) × Nat) : Prop := 1 ≤ x.1.length ∧ x.1.length ≤ 2 ∧ x.2 ≤ 300 ∧ ∀ g ∈ x.1, 1 ≤ g.1 ∧ g.1 ≤ 2 ∧ 1 ≤ g.2 ∧ g.2 ≤ 100
def R_small : SR := fun as own Po => ∃ ld dd, DiceOk dd ∧ as = [.ref (.ref ld)] ∧ own = [diO 0 ld dd] ∧ Po = fun r o => ∃ C dd', Cv C ∧ DiceOk dd' ∧ r = .dat (encC C) ∧ o = [diO 0 ld dd']
theorem cv_of {r : Str} {t f : Nat} {ts : List (List (Nat × Nat) × Nat)} (h : r = "first" ∨ r = "best" ∨ r = "groups") (t1 : 2 ≤ t) (t2 : t < 13) (hf : f < 301) (n1 : 1 ≤ ts.length) (n2 : ts.length ≤ 2) (hk : ∀ x ∈ ts, TkOk x) : Cv ⟨r, t, 300, f, ts⟩ where
  rule := h
  t1 := t1
  t2 := by show t ≤ 12; omega
  e1 := by show 1 ≤ 300; decide
  e2 := by show 300 ≤ 300; decide
  fz := by show f ≤ 300; omega
  n1 := n1
  n2 := by show ts.length ≤ 6; omega
  tk := fun x hx => by
    obtain ⟨h1, h2, h3, h4⟩ := hk x hx
    refine ⟨h1, by omega, h3, fun g hg => ?_⟩
    obtain ⟨a, b, c, d⟩ := h4 g hg
    exact ⟨a, by omega, c, d⟩
abbrev enS : Ev := [none, none, none, none, none]
section
variable {P : Program} {w : World} {K : PySem.W.Frag} {mg : Str → Option Value} {base : Heap}
theorem ok_law_small (T : Tx w K mg) : Kn P w K mg base "_law_small" 2 ["_law_d"] (spO R_small) := by
  obtain ⟨fd, F⟩ := T.d_law_small
  refine ⟨_, fd, fn_O0 F sc_law_small (fun as own Po ⟨_, _, _, e, _⟩ => by rw [e]; rfl) (by decide) ?_, T.g_law_small, F.kp, F.bindsN b_law_small⟩
  rintro cdv A outer s H0 E B0 own as Po vs Q hr ⟨ld, dd, ok, rfl, rfl, rfl⟩ S hQ
  refine s_new 1 S (pf_lst pds_nil) (fun lt σ H S => ?_) sc_law_small.nd (hie := by show 1 < 5; decide)
  have S : Sta B0 _ enS [diO 0 ld dd, (1, lt, .lst [])] σ H := S.perm (List.Perm.swap _ _ _)
  refine s_forE (ι := List Int × List (List (Nat × Nat) × Nat)) (Pi := fun n o => 1 ≤ n ∧ n ≤ 2 ∧ ∃ dd, DiceOk dd ∧ o = [diO 0 ld dd, (1, lt, .lst [])]) S (io_rng (dc_plus (c := 1) (M := 2) (dc_offc (M := 2) T hr (fun dd => rv_var (i := 0) List.mem_cons_self) (by decide) (by decide)) dd ok) (fun r o ⟨d, dd1, h1, ⟨n, n1, n2, n3⟩, h3, h4⟩ => ⟨n, by rw [h1, n3], by omega, n1, by omega, dd1, h3, h4⟩) T.f_range)
    (fun _ _ => enS) (fun _ x => [diO 0 ld x.1, (1, lt, .lst (x.2.map encK))]) (fun k _ => enS.set 2 (some (nI k))) [2] (fun n k x => 1 ≤ n ∧ n ≤ 2 ∧ DiceOk x.1 ∧ x.2.length = k ∧ ∀ t ∈ x.2, TkOk t)
    (fun n o H' ⟨n1, n2, dd1, h3, h4⟩ S => ⟨(dd1, []), ⟨n1, n2, h3, rfl, fun _ h => by cases h⟩, by rw [h4] at S; exact S⟩) (fun k x => pg_nm 2 sc_law_small.nd) (by simp) ?_ ?_ PassesOwn.never rfl
  · rintro n k ⟨d0, ts⟩ σ H hlt ⟨n1, n2, okd, hl, hts⟩ S
    have hl : ts.length = k := hl
    refine s_setCE (σ := σ) (own := [diO 0 ld d0, (1, lt, .lst (ts.map encK))]) 3 (cown := [("_law_group", 4)]) (Pi := fun n o => 1 ≤ n ∧ n ≤ 2 ∧ ∃ dd, DiceOk dd ∧ o = [diO 0 ld dd, (1, lt, .lst (ts.map encK))]) S (blkOk_by (N := N_law_small) (sc := defScope s_law_small) (by decide +kernel))
      (io_rng (dc_plus (c := 1) (M := 2) (dc_offc (M := 2) T hr (fun dd => rv_var (i := 0) List.mem_cons_self) (by decide) (by decide)) d0 okd) (fun r o ⟨d, dd1, h1, ⟨n, n1, n2, n3⟩, h3, h4⟩ => ⟨n, by rw [h1, n3], by omega, n1, by omega, dd1, h3, h4⟩) T.f_range)
      (fun k => (wipeE (enS.set 2 (some (nI ts.length))) [4]).set 4 (some (nI k))) [4] (fun n k ds o => 1 ≤ n ∧ n ≤ 2 ∧ ∃ (dd : List Int) (gs : List (Nat × Nat)), DiceOk dd ∧ gs.length = k ∧ (∀ g ∈ gs, 1 ≤ g.1 ∧ g.1 ≤ 2 ∧ 1 ≤ g.2 ∧ g.2 ≤ 100) ∧ ds = gs.map encG ∧ o = [diO 0 ld dd, (1, lt, .lst (ts.map encK))])
      (fun n o ⟨n1, n2, dd1, h3, h4⟩ => ⟨n1, n2, dd1, [], h3, rfl, fun _ h => (by cases h), rfl, h4⟩) ?_ (by decide) ?_ ?_ ?_ rfl sc_law_small.nd rfl
    · intro k2 s H C cl fp
      rw [← hl]
      exact pg_nm 4 sc_law_small.nd
    · rintro n3 k3 ds o hk3 ⟨m1, m2, dd1, gs, okg, hgl, hgs, rfl, rfl⟩ s H C cl fp
      refine EO.imp (dc_tup (Pd := fun d => ∃ g : Nat × Nat, d = encG g ∧ 1 ≤ g.1 ∧ g.1 ≤ 2 ∧ 1 ≤ g.2 ∧ g.2 ≤ 100) (dcl_cons (dc_plus (c := 1) (M := 2) (dc_offc (M := 2) T hr (fun dd => rv_var (i := 0) List.mem_cons_self) (by decide) (by decide))) (dcl_cons (dc_plus (c := 1) (M := 100) (dc_offc (M := 100) T hr (fun dd => rv_var (i := 0) List.mem_cons_self) (by decide) (by decide))) dcl_nil)) ?_ dd1 okg) ?_
      · rintro ds ⟨d1, ds1, rfl, ⟨a, a1, a2, rfl⟩, d2, ds2, rfl, ⟨b, b1, b2, rfl⟩, rfl⟩
        exact ⟨by simp, (a, b), rfl, a1, by omega, b1, by omega⟩
      · rintro r o ⟨d, dd2, rfl, ⟨g, rfl, g1, g2, g3, g4⟩, ok2, rfl⟩
        refine ⟨encG g, rfl, m1, m2, dd2, gs ++ [g], ok2, by simp [hgl], fun y hy => ?_, by simp, rfl⟩
        rcases List.mem_append.mp hy with hy | hy
        · exact hgs y hy
        · rw [List.mem_singleton.mp hy]; exact ⟨g1, g2, g3, g4⟩
    · rintro n3 k3 ds o ⟨m1, m2, dd1, gs, okg, hgl, hgs, rfl, rfl⟩
      exact ⟨by simp, by rw [List.length_map]; exact hgl⟩
    · rintro n3 ds o σ' H' ⟨m1, m2, dd1, gs, okg, hgl, hgs, rfl, rfl⟩ S
      refine s_appD (own1 := []) (own2 := []) (i := 0) (j := 1) (l := lt) (ds := ts.map encK) (fun dd => rv_var (i := 1) (List.mem_cons_of_mem _ List.mem_cons_self)) S okg (Pd := fun d => ∃ t, TkOk t ∧ d = encK t) (dc_tup (dcl_cons (Pa := fun d => d = .tuple (gs.map encG)) (dc_pd (pd_ty cd_tupL T.f_tuple bt_tuple (pds_cons (pd_var 3 rfl) pds_nil)) rfl) (dcl_cons (dc_offc (M := 301) T hr (fun dd => rv_var (i := 0) List.mem_cons_self) (by decide) (by decide)) dcl_nil)) ?_) ?_ (by rw [List.length_map]; omega)
      · rintro ds ⟨d1, ds1, rfl, rfl, d2, ds2, rfl, ⟨b, b1, rfl⟩, rfl⟩
        exact ⟨by simp, (gs, b), ⟨by show 1 ≤ gs.length; omega, by show gs.length ≤ 2; omega, by show b ≤ 300; omega, hgs⟩, rfl⟩
      · rintro d dd2 H2 ⟨t, tk, rfl⟩ ok2 S
        refine s_nil ⟨(dd2, ts ++ [t]), ⟨n1, n2, ok2, by simp [hl], fun y hy => ?_⟩, ?_⟩
        · rcases List.mem_append.mp hy with hy | hy
          · exact hts y hy
          · rw [List.mem_singleton.mp hy]; exact tk
        · have e : (ts ++ [t]).map encK = ts.map encK ++ [encK t] := by simp
          show Sta _ _ _ [diO 0 ld dd2, (1, lt, .lst ((ts ++ [t]).map encK))] _ _
          rw [e]
          exact S.fit rfl (by rintro (_ | _ | _ | _ | _ | i) d h <;> simp at h)
  · rintro n ⟨d0, ts⟩ σ H ⟨n1, n2, okd, hl, hts⟩ S
    have hl : ts.length = n := hl
    refine s_retE S (dc_tup (Pd := fun d => ∃ C : Ct, Cv C ∧ d = encC C) (dcl_cons (Pa := fun d => ∃ r : Str, (r = "first" ∨ r = "best" ∨ r = "groups") ∧ d = .str r) (dc_ixL (ds := [.str "first", .str "best", .str "groups"]) (PF.pd (pf_lst (pds_cons pd_str (pds_cons pd_str (pds_cons pd_str pds_nil))))) (dc_offc (M := 3) T hr (fun dd => rv_var (i := 0) List.mem_cons_self) (by decide) (by decide)) ?_)
      (dcl_cons (dc_plus (c := 2) (M := 11) (dc_offc (M := 11) T hr (fun dd => rv_var (i := 0) List.mem_cons_self) (by decide) (by decide))) (dcl_cons (Pa := fun d => d = nI 300) (dc_pd pd_int rfl) (dcl_cons (dc_offc (M := 301) T hr (fun dd => rv_var (i := 0) List.mem_cons_self) (by decide) (by decide))
        (dcl_cons (Pa := fun d => d = .tuple (ts.map encK)) (dc_x 1 List.mem_cons_self (pd_ty cd_tupL T.f_tuple bt_tuple (pds_cons (pd_var 1 rfl) pds_nil)) ?_ rfl) dcl_nil))))) ?_ d0 okd) ?_
    · rintro r ⟨n, hn, rfl⟩
      rcases n with _ | _ | _ | n
      · exact ⟨0, _, rfl, rfl, _, .inl rfl, rfl⟩
      · exact ⟨1, _, rfl, rfl, _, .inr (.inl rfl), rfl⟩
      · exact ⟨2, _, rfl, rfl, _, .inr (.inr rfl), rfl⟩
      · omega
    · simp only [fz]
      exact fzA_map fz_encK _
    · rintro ds ⟨d1, _, rfl, ⟨r, hr1, rfl⟩, d2, _, rfl, ⟨t, t1, t2, rfl⟩, d3, _, rfl, rfl, d4, _, rfl, ⟨f, f1, rfl⟩, d5, _, rfl, rfl, rfl⟩
      exact ⟨by simp, ⟨r, t, 300, f, ts⟩, cv_of hr1 t1 t2 f1 (by omega) (by omega) hts, rfl⟩
    · rintro v r o B1 H1 ⟨d, dd2, rfl, ⟨C, cv, rfl⟩, ok2, rfl⟩ st oa fr z
      refine hQ v (.dat (encC C)) [diO 0 ld dd2] B1 H1 ⟨C, dd2, cv, ok2, rfl, rfl⟩ st ⟨fun p hp => oa.1 p ?_, ?_⟩ (fun p hp => fr p ?_) z
      · rw [List.mem_singleton.mp hp]; exact List.mem_cons_self
      · simp
      · rw [List.mem_singleton.mp hp]; exact List.mem_cons_self
end
end JH
set_option Elab.async false
set_option linter.all false
set_option maxRecDepth 100000
set_option maxHeartbeats 4000000
/-! plain: what is told hangs on what a table tells; what stays true of a hall -/
namespace JH
open PySem L2
section
variable {C : Ct} {T : List Tr} {t u : Tbl}
theorem cg_groups (h : look t = look u) : groupStates C T t = groupStates C T u := by funext n; unfold groupStates; rw [h]
theorem cg_try (h : look t = look u) : tryState C T t = tryState C T u := by funext n; unfold tryState; rw [cg_groups h]
theorem cg_solved (h : look t = look u) : ∀ (ns : List Nat) (w : Nat), solvedFrom C T t w ns = solvedFrom C T u w ns
  | [], _ => rfl
  | n :: ns, w => by unfold solvedFrom; rw [cg_try h, cg_solved h ns]
theorem cg_passed (h : look t = look u) : passedG C T t = passedG C T u := by funext n gs; unfold passedG; rw [cg_groups h]
theorem cg_pt (h : look t = look u) : ptStep C T t = ptStep C T u := by funext gs a n; unfold ptStep; rw [cg_passed h]
theorem cg_points (h : look t = look u) : pointsAt C T t = pointsAt C T u := by funext ns k; unfold pointsAt; rw [cg_pt h]
theorem cg_sc (h : look t = look u) : scStep C T t = scStep C T u := by
  funext team un a k
  unfold scStep
  rw [cg_solved h, cg_points h]
theorem cg_score (h : look t = look u) : scoreOf C T t = scoreOf C T u := by funext team un; unfold scoreOf; rw [cg_sc h]
theorem cg_placed (h : look t = look u) : allPlaced C T t = allPlaced C T u := by unfold allPlaced; rw [cg_score h]
theorem cg_hidden (h : look t = look u) : hiddenOf C T t = hiddenOf C T u := by
  funext team un
  unfold hiddenOf
  have e : ∀ ns, solvedFrom C T t 0 ns = solvedFrom C T u 0 ns := fun ns => cg_solved h ns 0
  simp only [e]
theorem cg_rows (h : look t = look u) : rowsOf C T t = rowsOf C T u := by funext un; unfold rowsOf; rw [cg_score h, cg_hidden h]
theorem cg_over (h : look t = look u) : isOver C T t = isOver C T u := by funext n; unfold isOver; rw [cg_try h]
theorem cg_openF (h : look t = look u) (n : Nat) : ∀ (gs : List (Nat × Nat)) (b : Nat) (ss : List Str), openFrom t n b gs ss = openFrom u n b gs ss
  | [], b, ss => by unfold openFrom; rfl
  | g :: gs, b, [] => by unfold openFrom; rfl
  | g :: gs, b, s :: ss => by unfold openFrom; rw [h, cg_openF h n gs]
theorem cg_openT (h : look t = look u) : openTrials C T t = openTrials C T u := by funext n; unfold openTrials; rw [cg_over h, cg_groups h, cg_openF h]
theorem cg_open (h : look t = look u) : allOpen C T t = allOpen C T u := by unfold allOpen; rw [cg_openT h]
theorem look_keys (f : Nat × Nat → Bool) (n k : Nat) : ∀ l : List (Nat × Nat), look (l.map fun p => (p, f p)) n k = if (n, k) ∈ l then some (f (n, k)) else none
  | [] => rfl
  | p :: l => by
    have ih := look_keys f n k l
    unfold look at ih ⊢
    rw [List.map_cons, List.find?_cons]
    by_cases e : p = (n, k)
    · subst e
      simp
    · have e2 : ¬ (n, k) = p := fun z => e z.symm
      rw [decide_eq_false (by exact e)]
      simp only [List.mem_cons, e2, false_or]
      exact ih
theorem look_vds (t : Tbl) : look (vds t) = look t := by
  funext n k
  unfold vds
  rw [look_keys (fun p => (look t p.1 p.2).getD false)]
  by_cases h : (n, k) ∈ sortK t
  · rw [if_pos h]
    exact (sortK_look h).symm
  · rw [if_neg h]
    exact (look_none.mpr fun z => h ((sortK_perm t).mem_iff.mpr z)).symm
theorem vds_keys (t : Tbl) : (vds t).map (·.1) = sortK t := by
  unfold vds
  rw [List.map_map]
  exact List.map_id _
theorem vv_vds (v : Vv C T t) : Vv C T (vds t) where
  len := by rw [vds_len]; exact v.len
  nd := by
    rw [vds_keys]
    exact (sortK_perm t).nodup_iff.mpr v.nd
  kv := fun p hp => by
    have h1 : p.1 ∈ sortK t := by rw [← vds_keys]; exact List.mem_map.mpr ⟨p, hp, rfl⟩
    obtain ⟨q, q1, q2⟩ := List.mem_map.mp ((sortK_perm t).mem_iff.mp h1)
    rw [← q2]
    exact v.kv q q1
/-! what matters are trials that there are -/
theorem openFrom_lt (t : Tbl) (n : Nat) : ∀ (gs : List (Nat × Nat)) (b : Nat) (ss : List Str) (k : Nat), k ∈ openFrom t n b gs ss → k < b + (gs.map (·.1)).sum
  | [], b, ss, k, h => by unfold openFrom at h; cases h
  | g :: gs, b, [], k, h => by unfold openFrom at h; cases h
  | g :: gs, b, s :: ss, k, h => by
    unfold openFrom at h
    rw [List.map_cons, List.sum_cons]
    rcases List.mem_append.mp h with h | h
    · split at h
      · cases h
      · obtain ⟨h1, _⟩ := List.mem_filter.mp h
        obtain ⟨j, h2, h3⟩ := List.mem_map.mp h1
        have := List.mem_range.mp h2
        omega
    · have := openFrom_lt t n gs (b + g.1) ss k h
      omega
theorem open_kv {p : Nat × Nat} (h : p ∈ allOpen C T t) : Kv C T p := by
  unfold allOpen at h
  obtain ⟨n, h1, h2⟩ := List.mem_flatMap.mp h
  obtain ⟨k, h3, h4⟩ := List.mem_map.mp h2
  subst h4
  refine ⟨List.mem_range.mp h1, ?_⟩
  unfold openTrials at h3
  split at h3
  · cases h3
  · have := openFrom_lt t n _ 0 _ k h3
    rw [Nat.zero_add] at this
    exact this
theorem trAt_app {x : Tr} {n : Nat} (h : n < T.length) : trAt (T ++ [x]) n = trAt T n := by
  unfold trAt
  rw [List.getD_eq_getElem?_getD, List.getD_eq_getElem?_getD, List.getElem?_append_left h]
theorem trAt_end {x : Tr} : trAt (T ++ [x]) T.length = x := by
  unfold trAt
  rw [List.getD_eq_getElem?_getD, List.getElem?_append_right (Nat.le_refl _), Nat.sub_self]
  rfl
theorem kv_app {x : Tr} {p : Nat × Nat} (h : Kv C T p) : Kv C (T ++ [x]) p := ⟨by rw [List.length_append]; exact Nat.lt_of_lt_of_le h.1 (Nat.le_add_right _ _), by rw [trAt_app h.1]; exact h.2⟩
theorem last_is {n : Nat} (h : n + 1 = T.length) : (trAt T n).time = lastT T := by
  unfold lastT trAt
  rw [List.getLast?_eq_getElem?, List.getD_eq_getElem?_getD, show T.length - 1 = n by omega, List.getElem?_eq_getElem (by omega)]
  rfl
theorem tv_app {x : Tr} (v : Tv C T) (h : Trv C x) (hl : lastT T ≤ x.time) (hr : T.length < 200) : Tv C (T ++ [x]) where
  len := by rw [List.length_append]; show T.length + 1 ≤ 200; omega
  each := fun y hy => by
    rcases List.mem_append.mp hy with hy | hy
    · exact v.each y hy
    · rw [List.mem_singleton.mp hy]; exact h
  asc := fun n hn => by
    rw [List.length_append] at hn
    have hn : n + 1 < T.length + 1 := hn
    by_cases h1 : n + 1 < T.length
    · rw [trAt_app h1, trAt_app (by omega)]
      exact v.asc n h1
    · have h2 : n + 1 = T.length := by omega
      rw [h2, trAt_end, trAt_app (by omega), last_is h2]
      exact hl
theorem last_le (v : Tv C T) : lastT T ≤ 999 := by
  unfold lastT
  split
  · rename_i x hx
    exact (v.each x (List.mem_of_getLast? hx)).2.2
  · omega
theorem vv_app {x : Tr} (v : Vv C T t) : Vv C (T ++ [x]) t := ⟨v.len, v.nd, fun p hp => kv_app (v.kv p hp)⟩
theorem vv_put (v : Vv C T t) {p : Nat × Nat} {b : Bool} (hp : Kv C T p) (hl : t.length + 1 < 100000) : Vv C T (putT t p.1 p.2 b) := by
  have ln := putT_len t p.1 p.2 b
  refine ⟨by omega, ?_, ?_⟩
  · unfold putT
    split
    · have e : (t.map fun q => if q.1 = (p.1, p.2) then (q.1, b) else q).map (·.1) = t.map (·.1) := by
        rw [List.map_map]
        refine List.map_congr_left fun q _ => ?_
        show (if q.1 = (p.1, p.2) then (q.1, b) else q).1 = q.1
        split <;> rfl
      rw [e]
      exact v.nd
    · rename_i h
      have h0 : look t p.1 p.2 = none := by
        cases q : look t p.1 p.2 with
        | none => rfl
        | some b => rw [q] at h; exact absurd rfl h
      rw [List.map_append]
      refine List.nodup_append.mpr ⟨v.nd, by simp, fun a ha c hc e => ?_⟩
      subst e
      have hc : a = (p.1, p.2) := by simpa using hc
      subst hc
      exact look_none.mp h0 ha
  · intro q hq
    unfold putT at hq
    split at hq
    · obtain ⟨r, h1, h2⟩ := List.mem_map.mp hq
      have h3 : q.1 = r.1 := by
        rw [← h2]
        show (if r.1 = (p.1, p.2) then (r.1, b) else r).1 = r.1
        split <;> rfl
      rw [h3]
      exact v.kv r h1
    · rcases List.mem_append.mp hq with hq | hq
      · exact v.kv q hq
      · rw [List.mem_singleton.mp hq]
        exact hp
theorem vv_sub {t' : Tbl} (v : Vv C T t) (h : t'.Sublist t) : Vv C T t' := ⟨Nat.lt_of_le_of_lt h.length_le v.len, v.nd.sublist (h.map _), fun p hp => v.kv p (h.subset hp)⟩
theorem mendT_sub (k r : Nat) : ∀ m, (mendT T k r t m).Sublist t
  | 0 => List.Sublist.refl _
  | m + 1 => by
    rw [mendT_succ]
    unfold mdT
    split
    · unfold dropT
      exact (List.filter_sublist).trans (mendT_sub k r m)
    · exact mendT_sub k r m
theorem mendW_mem (k r : Nat) {W : List (Option (Nat × Nat))} {p : Nat × Nat} : ∀ m, some p ∈ mendW T k r W m → some p ∈ W
  | 0, h => h
  | m + 1, h => by
    rw [mendW_succ] at h
    unfold mdW at h
    split at h
    · obtain ⟨o, h1, h2⟩ := List.mem_map.mp h
      split at h2
      · cases h2
      · rw [h2] at h1
        exact mendW_mem k r m h1
    · exact mendW_mem k r m h
theorem set_mem {W : List (Option (Nat × Nat))} {j : Nat} {o : Option (Nat × Nat)} {p : Nat × Nat} (h : some p ∈ W.set j o) : some p ∈ W ∨ some p = o := List.mem_or_eq_of_mem_set h
end
/-! the hall's steps -/
theorem Can.evs {C : Ct} {h h' : HS} {e : Ent} (c : Can C h e h') : h'.ev = h.ev ++ [e] := by cases c <;> rfl
theorem Can.wlen {C : Ct} {h h' : HS} {e : Ent} (c : Can C h e h') : h'.W.length = h.W.length := by
  cases c with
  | offer _ => rfl
  | take _ _ _ _ _ => exact List.length_set ..
  | tell _ _ _ _ => exact List.length_set ..
  | fall _ _ => exact List.length_set ..
  | mend _ _ _ _ _ => exact mendW_len ..
theorem Runs.snoc {C : Ct} {e : Ent} {h2 : HS} : ∀ {l : List Ent} {h h' : HS}, Runs C h l h' → Can C h' e h2 → Runs C h (l ++ [e]) h2
  | _, _, _, .nil, c => .cons c .nil
  | _, _, _, .cons a b, c => .cons a (Runs.snoc b c)
structure LOk (C : Ct) (n : Nat) (h : HS) : Prop where
  hok : HOk C h
  run : Runs C (initS n) h.ev h
  wl : h.W.length = n
  n1 : 1 ≤ n
  n5 : n ≤ 5
  tl : h.t.length ≤ h.ev.length
theorem LOk.init {C : Ct} (cv : Cv C) {n : Nat} (n1 : 1 ≤ n) (n5 : n ≤ 5) : LOk C n (initS n) where
  hok := ⟨cv, ⟨by show 0 ≤ 200; omega, fun x hx => (nomatch hx), fun k hk => absurd hk (Nat.not_lt_zero _)⟩, ⟨by show 0 < 100000; omega, List.nodup_nil, fun p hp => (nomatch hp)⟩, by show (List.replicate n none).length ≤ 5; rw [List.length_replicate]; exact n5,
    fun p hp => (nomatch (List.eq_of_mem_replicate hp)), by show 0 ≤ 1000; omega, fun e he => (nomatch he)⟩
  run := .nil
  wl := List.length_replicate ..
  n1 := n1
  n5 := n5
  tl := Nat.le_refl _
theorem mem_getD {W : List (Option (Nat × Nat))} {j : Nat} {p : Nat × Nat} (hj : j < W.length) (e : W.getD j none = some p) : some p ∈ W := by
  rw [List.getD_eq_getElem?_getD, List.getElem?_eq_getElem hj] at e
  have e : W[j] = some p := e
  rw [← e]
  exact List.getElem_mem hj
theorem ek_app {l : List Ent} {e : Ent} (h : ∀ e ∈ l, EntOk e) (k : EntOk e) : ∀ x ∈ l ++ [e], EntOk x := fun x hx => by
  rcases List.mem_append.mp hx with hx | hx
  · exact h x hx
  · rw [List.mem_singleton.mp hx]; exact k
theorem el_app {l : List Ent} {e : Ent} (h : l.length < 1000) : (l ++ [e]).length ≤ 1000 := by rw [List.length_append]; show l.length + 1 ≤ 1000; omega
theorem LOk.step {C : Ct} {n : Nat} {h h' : HS} {e : Ent} (o : LOk C n h) (c : Can C h e h') (hl : h.ev.length < 1000) : LOk C n h' := by
  have run : Runs C (initS n) h'.ev h' := by rw [c.evs]; exact o.run.snoc c
  have wl : h'.W.length = n := c.wlen.trans o.wl
  have n1 := o.n1
  have n5 := o.n5
  have tl := o.tl
  obtain ⟨⟨v, tv, vv, wle, wk, el, ek⟩, _, wl0, _, _, _⟩ := o
  have tk : v.n2 = v.n2 := rfl
  have nt := v.n2
  have nte := v.t2
  cases c with
  | offer ok =>
    obtain ⟨trv, last, room, evl⟩ := ok
    refine ⟨⟨v, tv_app tv trv last room, vv_app vv, wle, fun p hp => kv_app (wk p hp), el_app hl, ek_app ek ?_⟩, run, wl, n1, n5, ?_⟩
    · obtain ⟨a, b, c⟩ := trv
      exact ⟨by omega, by omega, by omega⟩
    · show h.t.length ≤ (h.ev ++ [_]).length
      rw [List.length_append]
      omega
  | take ho hj hw he hf =>
    rename_i j p f
    have hp : p ∈ freeOf C h := by rw [hf]; exact List.mem_cons_self
    have kp : Kv C h.T p := open_kv (List.mem_filter.mp hp).1
    refine ⟨⟨v, tv, vv, by rw [wl]; exact n5, fun q hq => ?_, el_app hl, ek_app ek ?_⟩, run, wl, n1, n5, ?_⟩
    · rcases set_mem hq with h1 | h1
      · exact wk q h1
      · cases h1
        exact kp
    · have h1 := kp.1
      have h2 := tv.len
      have h3 := trials_le v (tv.at_ h1).2.1
      have h4 := kp.2
      exact ⟨by omega, by omega, by omega⟩
    · show h.t.length ≤ (h.ev ++ [_]).length
      rw [List.length_append]
      omega
  | tell hj hw he ht =>
    rename_i j p b
    have hp := mem_getD hj hw
    refine ⟨⟨v, tv, vv_put vv (wk p hp) (by omega), by rw [wl]; exact n5, fun q hq => ?_, el_app hl, ek_app ek (show j ≤ 999 by omega)⟩, run, wl, n1, n5, ?_⟩
    · rcases set_mem hq with h1 | h1
      · exact wk q h1
      · cases h1
    · show (putT h.t p.1 p.2 b).length ≤ (h.ev ++ [_]).length
      have := putT_len h.t p.1 p.2 b
      rw [List.length_append]
      show _ ≤ h.ev.length + 1
      omega
  | fall hj he =>
    rename_i j
    refine ⟨⟨v, tv, vv, by rw [wl]; exact n5, fun q hq => ?_, el_app hl, ek_app ek (show j ≤ 999 by omega)⟩, run, wl, n1, n5, ?_⟩
    · rcases set_mem hq with h1 | h1
      · exact wk q h1
      · cases h1
    · show h.t.length ≤ (h.ev ++ [_]).length
      rw [List.length_append]
      omega
  | mend cv hk hr he hw =>
    rename_i k r
    have hs := mendT_sub (T := h.T) (t := h.t) k r h.T.length
    refine ⟨⟨v, tv, vv_sub vv hs, by rw [wl]; exact n5, fun q hq => wk q (mendW_mem k r _ hq), el_app hl, ek_app ek ?_⟩, run, wl, n1, n5, ?_⟩
    · have h3 := trials_le v hk
      exact ⟨by omega, by omega⟩
    · show (mendT h.T k r h.t h.T.length).length ≤ (h.ev ++ [_]).length
      have := hs.length_le
      rw [List.length_append]
      omega
end JH
set_option Elab.async false
set_option linter.all false
set_option maxRecDepth 100000
set_option maxHeartbeats 4000000
/-! the law's own hall, beside the program's -/
namespace JH
open PySem PySem.Spec L2
open Evl (Ex Ex.refl Ex.trans Ex.new Ex.mut)
structure LAd where
  s : Addr
  lt : Addr
  lk : Addr
  lh : Addr
  ll : Addr
  A : HAd
abbrev lawKs (L : LAd) (C : Ct) : List (Str × Arg) := [("hall", .ref (.ref L.A.a)), ("contest", .dat (encC C)), ("tries", .ref (.ref L.lt)), ("known", .ref (.ref L.lk)), ("had", .ref (.ref L.lh)), ("log", .ref (.ref L.ll))]
abbrev lawP (i : Nat) (L : LAd) (C : Ct) (h : HS) : Own :=
  [(i, L.s, .dk (lawKs L C)), (1011, L.lt, .lst (h.T.map encTr)), (1012, L.lk, .dct h.t), (1013, L.lh, .lst (h.W.map encWo)), (1014, L.ll, .lst (h.ev.map encE))]
abbrev lawOwn (K : PySem.W.Frag) (i : Nat) (L : LAd) (C : Ct) (h g : HS) : Own := lawP i L C h ++ hallOwn K 1000 L.A C g
theorem law_reads {K : PySem.W.Frag} {i : Nat} {L : LAd} {C : Ct} {h g : HS} {own : Own} (hs : ∀ p ∈ lawOwn K i L C h g, ∃ q ∈ own, q.2 = p.2) : Reads1 own L.s (lawD K C h g) := fun B k => by
  have k2 : ∀ p ∈ lawOwn K i L C h g, OC.at_ B B p.2.1 p.2.2 := fun p hp => by
    obtain ⟨q, h1, h2⟩ := hs p hp
    have := k q h1
    rw [h2] at this
    exact this
  have hallR : Dz B (.ref L.A.a) (hallD K C g) := hall_reads (i := 1000) (own := hallOwn K 1000 L.A C g) (fun p hp => ⟨p, hp, rfl⟩) B fun p hp => k2 p (List.mem_append_right _ hp)
  obtain ⟨vs, g1, g2⟩ := k2 _ List.mem_cons_self
  obtain ⟨xo, o1, o2⟩ := k2 (1011, L.lt, .lst (h.T.map encTr)) (by simp)
  have t1 : B L.lk = some (.dT (kvT h.t)) := k2 (1012, L.lk, .dct h.t) (by simp)
  obtain ⟨xw, w1, w2⟩ := k2 (1013, L.lh, .lst (h.W.map encWo)) (by simp)
  obtain ⟨xe, e1, e2⟩ := k2 (1014, L.ll, .lst (h.ev.map encE)) (by simp)
  cases g2 with
  | cons z0 g2 =>
    cases g2 with
    | cons z1 g2 =>
      cases g2 with
      | cons z2 g2 =>
        cases g2 with
        | cons z3 g2 =>
          cases g2 with
          | cons z4 g2 =>
            cases g2 with
            | cons z5 g2 =>
              cases g2
              rename_i p0 p1 p2 p3 p4 p5
              obtain ⟨n0, v0⟩ := p0
              obtain ⟨n1, v1⟩ := p1
              obtain ⟨n2, v2⟩ := p2
              obtain ⟨n3, v3⟩ := p3
              obtain ⟨n4, v4⟩ := p4
              obtain ⟨n5, v5⟩ := p5
              obtain ⟨a0, b0⟩ := z0
              obtain ⟨a1, b1⟩ := z1
              obtain ⟨a2, b2⟩ := z2
              obtain ⟨a3, b3⟩ := z3
              obtain ⟨a4, b4⟩ := z4
              obtain ⟨a5, b5⟩ := z5
              have a0 : n0 = (Sum.inr ("hall" : Str) : Key) := a0
              have a1 : n1 = (Sum.inr ("contest" : Str) : Key) := a1
              have a2 : n2 = (Sum.inr ("tries" : Str) : Key) := a2
              have a3 : n3 = (Sum.inr ("known" : Str) : Key) := a3
              have a4 : n4 = (Sum.inr ("had" : Str) : Key) := a4
              have a5 : n5 = (Sum.inr ("log" : Str) : Key) := a5
              have b0 : v0 = .ref L.A.a := b0
              have b2 : v2 = .ref L.lt := b2
              have b3 : v3 = .ref L.lk := b3
              have b4 : v4 = .ref L.lh := b4
              have b5 : v5 = .ref L.ll := b5
              subst a0 a1 a2 a3 a4 a5 b0 b2 b3 b4 b5
              exact .dk g1 (.cons hallR (.cons b1 (.cons (.lst o1 o2) (.cons (.tab t1) (.cons (.lst w1 w2) (.cons (.lst e1 e2) .nil)))))) rfl
theorem law_self {K : PySem.W.Frag} {i : Nat} {L : LAd} {C : Ct} {h g : HS} : Reads1 (lawOwn K i L C h g) L.s (lawD K C h g) := law_reads fun p hp => ⟨p, hp, rfl⟩
theorem law_slots {K : PySem.W.Frag} {i : Nat} {L : LAd} {C : Ct} {h g : HS} {p : Nat × Addr × OC} (hp : p ∈ lawOwn K i L C h g) : (p.1 = i ∧ p.2.1 = L.s) ∨ 1000 ≤ p.1 := by
  rcases List.mem_append.mp hp with hp | hp
  · simp only [List.mem_cons, List.not_mem_nil, or_false] at hp
    rcases hp with rfl | rfl | rfl | rfl | rfl
    · exact .inl ⟨rfl, rfl⟩
    · exact .inr (show 1000 ≤ (1011 : Nat) by decide)
    · exact .inr (show 1000 ≤ (1012 : Nat) by decide)
    · exact .inr (show 1000 ≤ (1013 : Nat) by decide)
    · exact .inr (show 1000 ≤ (1014 : Nat) by decide)
  · rcases hall_slots hp with h | h
    · exact .inr (by omega)
    · exact .inr (by omega)
/-- the hall's part ahead -/
theorem hall_front {K : PySem.W.Frag} {i : Nat} {L : LAd} {C : Ct} {h g : HS} {o : Own} : (lawOwn K i L C h g ++ o).Perm (hallOwn K 1000 L.A C g ++ (lawP i L C h ++ o)) := by
  rw [List.append_assoc, ← List.append_assoc (hallOwn K 1000 L.A C g), ← List.append_assoc]
  exact List.Perm.append_right o List.perm_append_comm
theorem law_back {K : PySem.W.Frag} {i : Nat} {L : LAd} {C : Ct} {h g : HS} {o : Own} {A : HAd} (ha : A = L.A) : (hallOwn K 1000 A C g ++ (lawP i L C h ++ o)).Perm (lawOwn K i L C h g ++ o) := by
  subst ha
  exact hall_front.symm
/-- a call of the law's own def, its s at slot j there and i here; what stands ahead of s: the dice, or nothing -/
theorem callTo_law {K : PySem.W.Frag} {i : Nat} {L : LAd} {C : Ct} {h g : HS} {o ownR : Own} {as : List Arg} {Pc Po : Post} {R : SR} (hR : R (.ref (.ref L.s) :: as) (lawOwn K 0 L C h g) Pc) (ho : o = lawOwn K i L C h g ++ ownR)
    (tr : ∀ r o2, Pc r o2 → ∃ L' h' g', L'.s = L.s ∧ o2 = lawOwn K 0 L' C h' g' ∧ Po r (lawOwn K i L' C h' g' ++ ownR)) : CallTo R (.ref (.ref L.s) :: as) o Po := by
  refine ⟨lawOwn K 0 L C h g, lawOwn K i L C h g, ownR, Pc, ho, rfl, fun p hp hi => ?_, hR, fun r o2 hp => ?_⟩
  · rcases law_slots hp with ⟨h1, h2⟩ | h1
    · rw [h1, h2]; rfl
    · omega
  · obtain ⟨L', h', g', e, rfl, q⟩ := tr r o2 hp
    refine ⟨lawOwn K i L' C h' g', rfl, fun p hp hi => ?_, q⟩
    rcases law_slots hp with ⟨h1, h2⟩ | h1
    · rw [h1, h2, e]; exact List.mem_cons_self
    · omega
theorem callTo_dlaw {K : PySem.W.Frag} {i j : Nat} {ld : Addr} {dd : List Int} {L : LAd} {C : Ct} {h g : HS} {o ownR : Own} {as : List Arg} {Pc Po : Post} {R : SR} (hR : R (.ref (.ref ld) :: .ref (.ref L.s) :: as) (diO 0 ld dd :: lawOwn K 1 L C h g) Pc) (ho : o = diO i ld dd :: (lawOwn K j L C h g ++ ownR))
    (tr : ∀ r o2, Pc r o2 → ∃ dd' L' h' g', L'.s = L.s ∧ o2 = diO 0 ld dd' :: lawOwn K 1 L' C h' g' ∧ Po r (diO i ld dd' :: (lawOwn K j L' C h' g' ++ ownR))) : CallTo R (.ref (.ref ld) :: .ref (.ref L.s) :: as) o Po := by
  refine ⟨diO 0 ld dd :: lawOwn K 1 L C h g, diO i ld dd :: lawOwn K j L C h g, ownR, Pc, ho, rfl, fun p hp hi => ?_, hR, fun r o2 hp => ?_⟩
  · rcases List.mem_cons.mp hp with rfl | hp
    · rfl
    · rcases law_slots hp with ⟨h1, h2⟩ | h1
      · rw [h1, h2]; rfl
      · omega
  · obtain ⟨dd', L', h', g', e, rfl, q⟩ := tr r o2 hp
    refine ⟨diO i ld dd' :: lawOwn K j L' C h' g', rfl, fun p hp hi => ?_, q⟩
    rcases List.mem_cons.mp hp with rfl | hp
    · exact List.mem_cons_self
    · rcases law_slots hp with ⟨h1, h2⟩ | h1
      · rw [h1, h2, e]; exact List.mem_cons_of_mem _ List.mem_cons_self
      · omega
section
variable {X : Cx} {env : Ev} {own ownR : Own} {i : Nat} {L : LAd} {C : Ct} {h g : HS} {pos p1 p2 apos : Pos} {jj : Nat} {x : Str} {e : Expr} {args : List Expr} {m : Str} {k : Nat} {ps : List Str} {Pq : List Arg → Own → Prop} {Po : Post}
/-- s["k"], whatever stands with it -/
theorem rv_s {f : Str} {l : Addr} {K : PySem.W.Frag} (hu : X.A.units + 1 < cLine) (hown : own = ownR ++ lawOwn K i L C h g) (hl : (lawKs L C).lookup f = some (.ref (.ref l))) (hi0 : i < 1000 := by decide) (hN : X.N[i]? = some x := by rfl) (hv : Vis X.env.scope x := by first | exact Or.inl rfl | exact Or.inr (Or.inl rfl) | exact Or.inr (Or.inr rfl)) (hd : (x == ("__debug__" : Str)) = false := by decide) (hcd : (x == ("__classdict__" : Str)) = false := by decide) :
    RV X env own (.Subscript (.Name x p1) (.Constant (.str f) jj p2) pos) l := by
  have hm : (i, L.s, OC.dk (lawKs L C)) ∈ own := by
    rw [hown]
    exact List.mem_append_right _ List.mem_cons_self
  exact rv_dk hu (rv_var hm hi0 hN hv hd hcd) hm hl
/-- s["hall"].m(..) -/
theorem eo_hallM {R : SR} {o : Expr} {pl : Sem Bool} (T : Tx X.w X.K X.mg) (F : KnM X.prog X.w X.K X.mg X.base m k ps (spO R)) (hr : Room k X.A) (ho : RV X env own o L.A.a) (hown : own = ownR ++ lawOwn X.K i L C h g) (ha : AO X env own (e :: args) Pq)
    (hh : ∀ as o, Pq as o → ∃ Pc, o = own ∧ R (.ref (.ref L.A.a) :: as) (hallOwn X.K 0 L.A C g) Pc ∧ ∀ r o2, Pc r o2 → ∃ lw g', o2 = hallOwn X.K 0 { L.A with lw := lw } C g' ∧ Po r (ownR ++ lawOwn X.K i { L with A := { L.A with lw := lw } } C h g'))
    (hl : (hallFs L.A C).lookup m = none := by rfl) (hst : starEach (e :: args) X.env = (false, eval e X.env) :: starEach args X.env := by rfl) (hpl : (backTo pos (starEach args X.env)).any (·.1) = false := by rfl)
    (ht : eval (.Call (.Attribute o m apos) (e :: args) [] pos) X.env = (do
      let ov ← eval o X.env
      standAt apos.atName
      let (f, first) ← holding [ov] (getMethod ov m pl)
      callWith pos f first (backTo pos (starEach (e :: args) X.env)) (backToKw pos (keywordEach [] X.env))) := by rfl) : EO X env own (.Call (.Attribute o m apos) (e :: args) [] pos) Po := by
  have hm : (1000, L.A.a, OC.ins (HA X.K) L.A.dx (hallFs L.A C)) ∈ own := by
    rw [hown]
    exact List.mem_append_right _ (List.mem_append_right _ List.mem_cons_self)
  refine eo_methP T F hr ho hm ha (fun as o hp => ?_) hl hst hpl ht
  obtain ⟨Pc, rfl, hR, tr⟩ := hh as o hp
  have p0 : o.Perm (hallOwn X.K 1000 L.A C g ++ (lawP i L C h ++ ownR)) := by
    rw [hown]
    exact List.perm_append_comm.trans hall_front
  refine ⟨_, p0, callTo_hall (ownR := lawP i L C h ++ ownR) hR rfl fun r o2 hp2 => ?_⟩
  obtain ⟨lw, g', e1, q⟩ := tr r o2 hp2
  refine ⟨lw, g', e1, _, ?_, q⟩
  exact (law_back (L := { L with A := { L.A with lw := lw } }) rfl).trans List.perm_append_comm
end
end JH
set_option Elab.async false
set_option linter.all false
set_option maxRecDepth 100000
set_option maxHeartbeats 4000000
/-! the law's steps -/
namespace JH
open PySem PySem.Spec L2
open Evl (Ex Ex.refl Ex.trans Ex.new Ex.mut)
def R_lfall (K : PySem.W.Frag) : SR := fun as own Po => ∃ L C h j, j < h.W.length ∧ h.ev.length < 1000 ∧ as = [.ref (.ref L.s), .dat (nI j)] ∧ own = lawOwn K 0 L C h h ∧ Po = fun r o => r = .dat (.bool true) ∧ ∃ L' : LAd, L'.s = L.s ∧ o = lawOwn K 0 L' C (fallS h j) (fallS h j)
def R_ltell (K : PySem.W.Frag) : SR := fun as own Po => ∃ L C h j p b, j < h.W.length ∧ h.W.getD j none = some p ∧ h.ev.length < 1000 ∧ h.t.length < 100000 ∧ as = [.ref (.ref L.s), .dat (nI j), .dat (.bool b)] ∧ own = lawOwn K 0 L C h h ∧
  Po = fun r o => r = .dat (.bool true) ∧ ∃ L' : LAd, L'.s = L.s ∧ o = lawOwn K 0 L' C (tellS h j p b) (tellS h j p b)
section
variable {X : Cx} {env : Ev} {own : Own} {a b : Expr} {Pa : Post} {pos : Pos} {Q : Own → Prop}
/-- .. is None -/
theorem eo_isNone {jj : Nat} {p1 : Pos} (ha : EO X env own a (fun r o => r = .dat .none ∧ Q o)) (hm : behindInMarks .Is (.Constant .none jj p1) = false := by rfl) : EO X env own (.Compare a [.Is] [.Constant .none jj p1] pos) (fun r o => r = .dat (.bool true) ∧ Q o) :=
  eo_cmp (Pb := fun _ r o => r = .dat .none ∧ Q o) ha (fun r o ⟨_, ho⟩ => EO.imp (eo_pd pd_non) fun r' o' ⟨h1, h2⟩ => ⟨h1, by rw [h2]; exact ho⟩) (fun r1 o1 r2 o2 ⟨h1, _⟩ ⟨h2, h3⟩ => ⟨.none, .none, .bool true, h1, h2, rd_isN, rfl, h3⟩) hm
/-- _law_alike(.., ..), both the same -/
theorem eo_alike {n : Nat} {d : PyData} {p : Pos} (T : Tx X.w X.K X.mg) (hr : Room (n + 1) X.A) (hp : Pl n d) (ha : EO X env own a (fun r o => r = .dat d ∧ Q o)) (hb : ∀ o, Q o → EO X env o b (fun r o => r = .dat d ∧ Q o)) (hg : Gl X "_law_alike" := by rfl)
    (hs : starEach [a, b] X.env = (false, eval a X.env) :: starEach [b] X.env := by rfl) (hs2 : starEach [b] X.env = (false, eval b X.env) :: starEach [] X.env := by rfl) (hpl : (backTo pos (starEach [b] X.env)).any (·.1) = false := by rfl) :
    EO X env own (.Call (.Name "_law_alike" p) [a, b] [] pos) (fun r o => r = .dat (.bool true) ∧ Q o) := by
  refine eo_fn (ok_law_alike T n) hr (ao_consO ha (Pb := fun _ _ as o => as = [.dat d] ∧ Q o) (fun r o ⟨_, ho⟩ => AO.imp (ao_consO (hb o ho) (Pb := fun _ o as o' => as = [] ∧ o' = o) (fun _ _ _ => ao_nil) hs2) fun as o' ⟨r, as', o1, e1, ⟨e2, q⟩, e3, e4⟩ => ⟨by rw [e1, e2, e3], by rw [e4]; exact q⟩) hs) ?_ hg hs hpl
  rintro as o ⟨r, as', o1, rfl, ⟨rfl, _⟩, rfl, q⟩
  exact ⟨[d, d], .bool true, rfl, ⟨d, hp, rfl, rfl⟩, rfl, q⟩
end
section
variable {P : Program} {w : World} {K : PySem.W.Frag} {mg : Str → Option Value} {base : Heap}
abbrev lawW (K : PySem.W.Frag) (i : Nat) (L : LAd) (C : Ct) (g : HS) (T : List Tr) (t : Tbl) (W : List PyData) (ev : List PyData) : Own :=
  [(i, L.s, .dk (lawKs L C)), (1011, L.lt, .lst (T.map encTr)), (1012, L.lk, .dct t), (1013, L.lh, .lst W), (1014, L.ll, .lst ev)] ++ hallOwn K 1000 L.A C g
theorem ok_law_fall (T : Tx w K mg) : Kn P w K mg base "_law_fall" 4 ["_law_s", "_law_judge"] (spO (R_lfall K)) := by
  obtain ⟨fd, F⟩ := T.d_law_fall
  refine ⟨_, fd, fn_O0 F sc_law_fall (fun as own Po ⟨_, _, _, _, _, _, e, _⟩ => by rw [e]; rfl) (by decide) ?_, T.g_law_fall, F.kp, F.bindsN b_law_fall⟩
  rintro cdv A outer s H0 E B0 own as Po vs Q hr ⟨L, C, h, j, hj, he, rfl, rfl, rfl⟩ S hQ
  refine s_setiR (rv_s (ownR := []) (K := K) (rm1 hr) rfl rfl) (i := 1013) (own1 := [(0, L.s, .dk (lawKs L C)), (1011, L.lt, .lst (h.T.map encTr)), (1012, L.lk, .dct h.t)]) (own2 := (1014, L.ll, .lst (h.ev.map encE)) :: hallOwn K 1000 L.A C h) rfl S (j := j) (d := .none) (PD.ev pd_non) (pd_var 1 rfl) (by rw [List.length_map]; exact hj) fun H' S => ?_
  rw [show PyData.none = encWo none from rfl, set_Wo] at S
  have S : Sta B0 _ _ (lawOwn K 0 L C { h with W := h.W.set j none } h) _ H' := S
  refine s_appR (rv_s (ownR := []) (K := K) (rm1 hr) rfl rfl) (i := 1014) (own1 := [(0, L.s, .dk (lawKs L C)), (1011, L.lt, .lst (h.T.map encTr)), (1012, L.lk, .dct h.t), (1013, L.lh, .lst ((h.W.set j none).map encWo))]) (own2 := hallOwn K 1000 L.A C h) rfl S (d := encE (.fall j)) (PD.ev (pd_tup (pds_cons pd_str (pds_cons (pd_var 1 rfl) pds_nil)))) (fun H' S => ?_) (by rw [List.length_map]; show h.ev.length < 100000; omega)
  rw [show h.ev.map encE ++ [encE (.fall j)] = (fallS h j).ev.map encE by simp [fallS]] at S
  have S : Sta B0 _ _ ([] ++ lawOwn K 0 L C (fallS h j) h) _ H' := S
  refine s_retE S (eo_isNone (eo_hallM T (ok_h_fall T) hr (rv_s (ownR := []) (K := K) (rm1 hr) rfl rfl) rfl (ao_pds (pds_cons (pd_var 1 rfl) pds_nil)) ?_)) hQ
  rintro as o ⟨rfl, rfl⟩
  exact ⟨_, rfl, ⟨L.A, C, h, j, hj, he, rfl, rfl, rfl⟩, fun r o2 ⟨h1, h2⟩ => ⟨L.A.lw, fallS h j, h2, h1, L, rfl, rfl⟩⟩
theorem ok_law_tell (T : Tx w K mg) : Kn P w K mg base "_law_tell" 4 ["_law_s", "_law_judge", "_law_passed"] (spO (R_ltell K)) := by
  obtain ⟨fd, F⟩ := T.d_law_tell
  refine ⟨_, fd, fn_O0 F sc_law_tell (fun as own Po ⟨_, _, _, _, _, _, _, _, _, _, e, _⟩ => by rw [e]; rfl) (by decide) ?_, T.g_law_tell, F.kp, F.bindsN b_law_tell⟩
  rintro cdv A outer s H0 E B0 own as Po vs Q hr ⟨L, C, h, j, p, b, hj, hw, he, ht, rfl, rfl, rfl⟩ S hQ
  refine s_putTR (n := p.1) (m := p.2) (rv_s (ownR := []) (K := K) (rm1 hr) rfl rfl) (i := 1012) (own1 := [(0, L.s, .dk (lawKs L C)), (1011, L.lt, .lst (h.T.map encTr))]) (own2 := (1013, L.lh, .lst (h.W.map encWo)) :: (1014, L.ll, .lst (h.ev.map encE)) :: hallOwn K 1000 L.A C h) rfl S (rm1 hr) (pd_var 2 rfl)
    (ev_show 0 List.mem_cons_self law_self (pd_ixL (n := j) (pd_dk (d := .list (h.W.map encWo)) (rm1 hr) (pd_var 0 rfl) rfl) (pd_var 1 rfl) (w_at hj hw)) rfl) ht fun H' S => ?_
  have S : Sta B0 _ _ (lawOwn K 0 L C { h with t := putT h.t p.1 p.2 b } h) _ H' := S
  refine s_setiR (rv_s (ownR := []) (K := K) (rm1 hr) rfl rfl) (i := 1013) (own1 := [(0, L.s, .dk (lawKs L C)), (1011, L.lt, .lst (h.T.map encTr)), (1012, L.lk, .dct (putT h.t p.1 p.2 b))]) (own2 := (1014, L.ll, .lst (h.ev.map encE)) :: hallOwn K 1000 L.A C h) rfl S (j := j) (d := .none) (PD.ev pd_non) (pd_var 1 rfl) (by rw [List.length_map]; exact hj) fun H' S => ?_
  rw [show PyData.none = encWo none from rfl, set_Wo] at S
  have S : Sta B0 _ _ (lawOwn K 0 L C { h with t := putT h.t p.1 p.2 b, W := h.W.set j none } h) _ H' := S
  refine s_appR (rv_s (ownR := []) (K := K) (rm1 hr) rfl rfl) (i := 1014) (own1 := [(0, L.s, .dk (lawKs L C)), (1011, L.lt, .lst (h.T.map encTr)), (1012, L.lk, .dct (putT h.t p.1 p.2 b)), (1013, L.lh, .lst ((h.W.set j none).map encWo))]) (own2 := hallOwn K 1000 L.A C h) rfl S (d := encE (.tell j b)) (PD.ev (pd_tup (pds_cons pd_str (pds_cons (pd_var 1 rfl) (pds_cons (pd_var 2 rfl) pds_nil))))) (fun H' S => ?_) (by rw [List.length_map]; show h.ev.length < 100000; omega)
  rw [show h.ev.map encE ++ [encE (.tell j b)] = (tellS h j p b).ev.map encE by simp [tellS]] at S
  have S : Sta B0 _ _ ([] ++ lawOwn K 0 L C (tellS h j p b) h) _ H' := S
  refine s_retE S (eo_isNone (eo_hallM T (ok_h_tell T) hr (rv_s (ownR := []) (K := K) (rm1 hr) rfl rfl) rfl (ao_pds (pds_cons (pd_var 1 rfl) (pds_cons (pd_var 2 rfl) pds_nil))) ?_)) hQ
  rintro as o ⟨rfl, rfl⟩
  exact ⟨_, rfl, ⟨L.A, C, h, j, p, b, hj, hw, he, ht, rfl, rfl, rfl⟩, fun r o2 ⟨h1, h2⟩ => ⟨L.A.lw, tellS h j p b, h2, h1, L, rfl, rfl⟩⟩
end
end JH
set_option Elab.async false
set_option linter.all false
set_option maxRecDepth 100000
set_option maxHeartbeats 4000000
/-! the law's taking -/
namespace JH
open PySem PySem.Spec L2
open Evl (Ex Ex.refl Ex.trans Ex.new Ex.mut)
def R_ltake (K : PySem.W.Frag) : SR := fun as own Po => ∃ L C h j, HOk C h ∧ j < h.W.length ∧ h.W.getD j none = none ∧ h.ev.length < 1000 ∧ as = [.ref (.ref L.s), .dat (nI j)] ∧ own = lawOwn K 0 L C h h ∧
  Po = fun r o => r = .dat (.bool true) ∧ ∃ L' : LAd, L'.s = L.s ∧ o = lawOwn K 0 L' C (takeR C h j).2 (takeR C h j).2
def takeF (h : HS) (j : Nat) : List (Nat × Nat) → PyData × HS
  | [] => (.none, h)
  | p :: _ => (encW p, takeS h j p)
theorem takeR_eq (C : Ct) (h : HS) (j : Nat) : takeR C h j = takeF h j (freeOf C h) := by
  unfold takeR
  cases freeOf C h <;> rfl
theorem s_setCS {X : Cx} {B0 H0 H : Hp} {env : Ev} {own : Own} {σ : L2.St} {D : Ends} {rest : List Stmt} {pos pos' cpos : Pos} {x : Str} {a : Addr} {c : OC} {d' : PyData} {α : Type} (i j : Nat) {elt tg iter : Expr} {ifs : List Expr} {scope : Scope} {cown : List (Str × Nat)} {items : List α} {enc : α → PyData} {cond : α → Bool} {f : α → PyData} (S : Sta B0 H0 env own σ H)
    (hm : (j, a, c) ∈ own) (hd : Reads1 own a d') (ok : BlkOk X.N X.env.scope scope cown)
    (L : Lc X elt tg iter ifs scope cown (env.set j (some d')) items enc cond f) (fz1 : fzA ((items.filter cond).map f) = true) (k : ∀ σ' H', Sta B0 H0 (env.set i (some (.list ((items.filter cond).map f)))) own σ' H' → WSs X rest D σ' H') (hc : X.calm = true) (hN : X.N.Nodup)
    (hsw : swapsWith (.ListComp elt [⟨tg, iter, ifs, 0⟩] scope cpos) (some (.Name x pos')) pos.line X.env = pure true) (ho : ∀ p ∈ own, p.1 ≠ i) (hj : j < 1000 := by decide) (hi : X.N[i]? = some x := by rfl) (hx : X.env.scope.names.lookup x = some .local := by rfl)
    (hs : ∀ x, foldedSetIterable iter X.env x = pure x := by intro _; rfl) : WSs X (.Assign [.Name x pos'] (.ListComp elt [⟨tg, iter, ifs, 0⟩] scope cpos) pos :: rest) D σ H := by
  obtain ⟨B, s, E, o⟩ := S
  refine wss (pss_cons (ps_setLc hc hN hi hx hsw smI ok smgB smtB smeB hs) smSs) ?_
  have sh := shown_of s.bh o
  have E' := (E.ex sh.up).set j (hd _ sh.at_)
  rw [set_same ((o.all _ hm).1 hj)] at E'
  refine lc_read (Q := fun v H1 => WSs X rest D (σ.set i (some v)) H1) L E' sh.le fun p xs B1 H1 n1 s1 z1 a1 => ?_
  obtain ⟨s2, t2⟩ := sh.back B1 H1 s1
  refine k _ _ (StaV.set i ⟨_, s.trans s2, E.ex s2.bb, o.stp s2, .lst ?_ (DzAll.tex t2 _ fz1 a1)⟩ ho)
  rw [rms_out (rms_new (B1 := B1) (H1 := H1) o n1)]
  exact z1
section
variable {P : Program} {w : World} {K : PySem.W.Frag} {mg : Str → Option Value} {base : Heap}
theorem pl_non (n : Nat) : Pl n .none := by cases n <;> exact trivial
theorem ok_law_take (T : Tx w K mg) : Kn P w K mg base "_law_take" 9 ["_law_s", "_law_judge"] (spO (R_ltake K)) := by
  obtain ⟨fd, F⟩ := T.d_law_take
  refine ⟨_, fd, fn_O0 F sc_law_take (fun as own Po ⟨_, _, _, _, _, _, _, _, e, _⟩ => by rw [e]; rfl) (by decide) ?_, T.g_law_take, F.kp, F.bindsN b_law_take⟩
  rintro cdv A outer s H0 E B0 own as Po vs Q hr ⟨L, C, h, j, ok, hj, hw, he, rfl, rfl, rfl⟩ S hQ
  have hal := allOpen_len ok.rv h.t
  have vv := vv_vds ok.vv
  refine s_setCS 2 0 S List.mem_cons_self law_self (items := allOpen C h.T (vds h.t)) (enc := encW) (cond := fun p => !decide (some p ∈ h.W)) (f := encW) (cown := [("_law_work", 4)]) (blkOk_by (N := N_law_take) (sc := defScope s_law_take) (by decide +kernel))
    ⟨_, _, wi_list (PF.pd (pf_fn (ok_law_matter T) (hr.mono (by decide)) (pds_cons (pd_dk (d := encC C) (rm1 hr) (pd_var 0 rfl) rfl) (pds_cons (pd_dk (d := encTs h.T) (rm1 hr) (pd_var 0 rfl) rfl) (pds_cons (PF.pd (pf_fn (ok_law_known T) (hr.mono (by decide)) (pds_cons (pd_var 0 rfl) pds_nil) ⟨C, h, h, ok.vv.len, rfl, rfl⟩)) pds_nil))) ⟨C, h.T, vds h.t, ok.v, ok.tv, vv, rfl, rfl⟩)), by decide, by rw [cg_open (look_vds h.t)]; omega, fun p hp s H C' cl fp =>
      ⟨pg_nm 4 sc_law_take.nd, pqs_1 (PQ.to (pq_cmp (rd_notInD (d1 := encW p) (ds := h.W.map encWo) (rm65 hr) (nt_W p) (ntA_Wos _) (shaped_W p) (shaped_Wos _)) (pd_var 4 rfl) (pd_dk (d := .list (h.W.map encWo)) (rm1 hr) (pd_var 0 rfl) rfl)) (by rw [any_Wo])), fun _ => pd_var 4 rfl⟩⟩ (fzA_map (fun _ => rfl) _) (fun σ H' S => ?_) rfl sc_law_take.nd rfl (fun p hp => by rcases law_slots hp with ⟨h1, _⟩ | h1 <;> omega)
  have ef : (allOpen C h.T (vds h.t)).filter (fun p => !decide (some p ∈ h.W)) = freeOf C h := by rw [cg_open (look_vds h.t)]; rfl
  rw [ef] at S
  have hnt : nt (.list ((freeOf C h).map encW)) = true := by
    simp only [nt]
    exact ntA_map nt_W _
  have hsh : SeqAt.shaped (.list ((freeOf C h).map encW)) = true := shaped_list lay_W dep_W (by decide) _
  obtain ⟨f, hf⟩ : ∃ f, f = freeOf C h := ⟨_, rfl⟩
  have hR : takeR C h j = takeF h j f := by rw [hf]; exact takeR_eq C h j
  rw [hR] at hQ
  rw [← hf] at S hnt hsh
  refine s_set 3 S (d := encWo f.head?) (PD.ev (pd_if (PQ.to (pq_cmp (rd_neD (d1 := .list (f.map encW)) (d2 := .list []) hr.units hnt rfl hsh shaped_nil) (pd_var 2 rfl) (PF.pd (pf_lst pds_nil))) (by rw [eqv_nil])) (fun hne => ?_) fun he => ?_)) (fun σ H' S => ?_) sc_law_take.nd
  · cases f with
    | nil => cases hne
    | cons p f => exact pd_ixL (n := 0) (pd_var 2 rfl) pd_int rfl
  · cases f with
    | nil => exact pd_non
    | cons p f => cases he
  have tk : ∀ {X : Cx} {env : Ev} {p1 p2 p3 p4 : Pos} {jj : Nat}, True := trivial
  cases f with
  | nil =>
    refine s_if S (PQ.tv (PQ.to (pq_cmp rd_notN (pd_var 3 rfl) pd_non) (b' := false) rfl)) (fun z => by cases z) fun _ H' S => s_nil ?_
    have S : Sta B0 _ _ ([] ++ lawOwn K 0 L C h h) _ H' := S
    refine s_retE S (eo_alike (n := 1) T (hr.mono (by decide)) (pl_non 1) (eo_hallM T (ok_h_take T) hr (rv_s (ownR := []) (K := K) (rm1 hr) rfl rfl) rfl (ao_pds (pds_cons (pd_var 1 rfl) pds_nil)) ?_) (fun o ho => EO.imp (eo_pd (pd_var 3 rfl)) fun r o' ⟨h1, h2⟩ => ⟨h1, by rw [h2]; exact ho⟩)) hQ
    rintro as o ⟨rfl, rfl⟩
    exact ⟨_, rfl, ⟨L.A, C, h, j, ok, hj, hw, he, rfl, rfl, rfl⟩, fun r o2 ⟨h1, h2⟩ => ⟨L.A.lw, h, by rw [h2, hR]; rfl, by rw [h1, hR]; rfl, L, rfl, rfl⟩⟩
  | cons p f =>
    refine s_if S (PQ.tv (PQ.to (pq_cmp rd_notN (pd_var 3 rfl) pd_non) (b' := true) rfl)) (fun _ H' S => ?_) fun z => by cases z
    refine s_setiR (rv_s (ownR := []) (K := K) (rm1 hr) rfl rfl) (i := 1013) (own1 := [(0, L.s, .dk (lawKs L C)), (1011, L.lt, .lst (h.T.map encTr)), (1012, L.lk, .dct h.t)]) (own2 := (1014, L.ll, .lst (h.ev.map encE)) :: hallOwn K 1000 L.A C h) rfl S (j := j) (d := encWo (some p)) (PD.ev (pd_var 3 rfl)) (pd_var 1 rfl) (by rw [List.length_map]; exact hj) fun H' S => ?_
    rw [set_Wo] at S
    have S : Sta B0 _ _ (lawOwn K 0 L C { h with W := h.W.set j (some p) } h) _ H' := S
    refine s_appR (rv_s (ownR := []) (K := K) (rm1 hr) rfl rfl) (i := 1014) (own1 := [(0, L.s, .dk (lawKs L C)), (1011, L.lt, .lst (h.T.map encTr)), (1012, L.lk, .dct h.t), (1013, L.lh, .lst ((h.W.set j (some p)).map encWo))]) (own2 := hallOwn K 1000 L.A C h) rfl S (d := encE (.take j p)) (PD.ev (pd_bin (rd_catT (ds := [.str "take", nI j]) (es := [nI p.1, nI p.2]) (by simp)) (pd_tup (pds_cons pd_str (pds_cons (pd_var 1 rfl) pds_nil))) (pd_var 3 rfl))) (fun H' S => s_nil ?_) (by rw [List.length_map]; show h.ev.length < 100000; omega)
    rw [show h.ev.map encE ++ [encE (.take j p)] = (takeS h j p).ev.map encE by simp [takeS]] at S
    have S : Sta B0 _ _ ([] ++ lawOwn K 0 L C (takeS h j p) h) _ H' := S
    refine s_retE S (eo_alike (n := 1) T (hr.mono (by decide)) (pl_encW p) (eo_hallM T (ok_h_take T) hr (rv_s (ownR := []) (K := K) (rm1 hr) rfl rfl) rfl (ao_pds (pds_cons (pd_var 1 rfl) pds_nil)) ?_) (fun o ho => EO.imp (eo_pd (pd_var 3 rfl)) fun r o' ⟨h1, h2⟩ => ⟨h1, by rw [h2]; exact ho⟩)) hQ
    rintro as o ⟨rfl, rfl⟩
    exact ⟨_, rfl, ⟨L.A, C, h, j, ok, hj, hw, he, rfl, rfl, rfl⟩, fun r o2 ⟨h1, h2⟩ => ⟨L.A.lw, takeS h j p, by rw [h2, hR]; rfl, by rw [h1, hR]; rfl, L, rfl, rfl⟩⟩
end
end JH
set_option Elab.async false
set_option linter.all false
set_option maxRecDepth 100000
set_option maxHeartbeats 4000000
/-! the law's mending, its offers -/
namespace JH
open PySem PySem.Spec L2
open Evl (Ex Ex.refl Ex.trans Ex.new Ex.mut)
/-- a new object takes an old one's place -/
theorem Sta.swapIn {B0 H0 H : Hp} {env : Ev} {own1 own2 : Own} {σ : L2.St} {p q : Addr} {c c' : OC} {i : Nat} (S : Sta B0 H0 env ((1500, p, c') :: (own1 ++ (i, q, c) :: own2)) σ H) (hi : 1000 ≤ i) : Sta B0 H0 env (own1 ++ (i, p, c') :: own2) σ H := by
  refine S.relab (fun r hr => ?_) fun nd => ?_
  · rcases List.mem_append.mp hr with h | h
    · exact ⟨r, List.mem_cons_of_mem _ (List.mem_append_left _ h), rfl, fun _ => rfl⟩
    · rcases List.mem_cons.mp h with rfl | h
      · exact ⟨_, List.mem_cons_self, rfl, fun z => absurd z (Nat.not_lt.mpr hi)⟩
      · exact ⟨r, List.mem_cons_of_mem _ (List.mem_append_right _ (List.mem_cons_of_mem _ h)), rfl, fun _ => rfl⟩
  · rw [List.map_append, List.map_cons]
    refine (List.perm_middle (a := p)).nodup_iff.mpr ?_
    rw [List.map_cons, List.map_append, List.map_cons] at nd
    exact nd.sublist ((List.Sublist.append (List.Sublist.refl _) (List.sublist_cons_self _ _)).cons₂ _)
def R_lmend (K : PySem.W.Frag) : SR := fun as own Po => ∃ L C h k r, HOk C h ∧ k < C.tasks.length ∧ r < trialsOf C k ∧ h.ev.length < 1000 ∧ as = [.ref (.ref L.s), .dat (nI k), .dat (nI r)] ∧ own = lawOwn K 0 L C h h ∧
  Po = fun x o => x = .dat (.bool true) ∧ ∃ L' : LAd, L'.s = L.s ∧ o = lawOwn K 0 L' C (mendS h k r) (mendS h k r)
def R_loffer (K : PySem.W.Frag) : SR := fun as own Po => ∃ ld dd L C h, DiceOk dd ∧ HOk C h ∧ h.T.length < 200 ∧ h.ev.length < 1000 ∧ as = [.ref (.ref ld), .ref (.ref L.s)] ∧ own = diO 0 ld dd :: lawOwn K 1 L C h h ∧
  Po = fun r o => r = .dat (.bool true) ∧ ∃ (x : Tr) (dd' : List Int) (L' : LAd), OfOk C h x ∧ DiceOk dd' ∧ L'.s = L.s ∧ o = diO 0 ld dd' :: lawOwn K 1 L' C (offerS h x) (offerS h x)
abbrev mdH (h : HS) (k r m : Nat) : HS := { h with t := mendT h.T k r h.t m, W := mendW h.T k r h.W m }
theorem tr_get {T : List Tr} {k : Nat} (h : k < T.length) : (T.map encTr)[k]? = some (.tuple [nI (trAt T k).team, nI (trAt T k).task, nI (trAt T k).time]) := by
  rw [List.getElem?_map, trAt_at h]
  rfl
section
variable {P : Program} {w : World} {K : PySem.W.Frag} {mg : Str → Option Value} {base : Heap}
theorem ok_law_mend (T : Tx w K mg) : Kn P w K mg base "_law_mend" 3 ["_law_s", "_law_task", "_law_trial"] (spO (R_lmend K)) := by
  obtain ⟨fd, F⟩ := T.d_law_mend
  refine ⟨_, fd, fn_O0 F sc_law_mend (fun as own Po ⟨_, _, _, _, _, _, _, _, _, e, _⟩ => by rw [e]; rfl) (by decide) ?_, T.g_law_mend, F.kp, F.bindsN b_law_mend⟩
  rintro cdv A outer s H0 E B0 own as Po vs Q hr ⟨L, C, h, k, r, ok, hk, hr2, he, rfl, rfl, rfl⟩ S hQ
  have tl := ok.tv.len
  have wle := ok.wl
  refine s_forE (ι := Addr) (Pi := fun n o => n = h.T.length ∧ o = lawOwn K 0 L C h h) S (io_rng (eo_show 0 List.mem_cons_self law_self (pd_blt cd_lenL T.f_len bb_len (pds_cons (pd_dk (d := .list (h.T.map encTr)) (rm1 hr) (pd_var 0 rfl) rfl) pds_nil)) rfl) (fun r o ⟨h1, h2⟩ => ⟨h.T.length, by rw [h1, List.length_map], by omega, rfl, h2⟩) T.f_range)
    (fun _ _ => envA N_law_mend [.ref (.ref L.s), .dat (nI k), .dat (nI r)]) (fun m lh => lawOwn K 0 { L with lh := lh } C (mdH h k r m) h) (fun m _ => (envA N_law_mend [.ref (.ref L.s), .dat (nI k), .dat (nI r)]).set 3 (some (nI m))) [3] (fun n _ _ => n = h.T.length)
    (fun n o H' ⟨h1, h2⟩ S => ⟨L.lh, h1, by rw [h2] at S; exact S⟩) (fun k x => pg_nm 3 sc_law_mend.nd) (fun m lh p hp => by rcases law_slots hp with ⟨h1, _⟩ | h1 <;> simp <;> omega) ?_ ?_ PassesOwn.never rfl
  · rintro n m lh σ H hlt hn S
    have hlt : m < h.T.length := by rw [← hn]; exact hlt
    have hwl := mendW_len h.T k r h.W m
    refine s_if S (tv_show 0 List.mem_cons_self law_self (pq_cmp rd_eqI (pd_ixT (n := 1) (pd_ixL (n := m) (pd_dk (d := .list (h.T.map encTr)) (rm1 hr) (pd_var 0 rfl) rfl) (pd_var 3 rfl) (tr_get hlt)) pd_int rfl) (pd_var 1 rfl))) (fun hc H' S => ?_) fun hc H' S => s_nil (s_nil ⟨lh, hn, ?_⟩)
    · have hc : (trAt h.T m).task = k := by have := of_decide_eq_true hc; omega
      refine s_popTR (n := m) (m := r) (rv_s (ownR := []) (K := K) (rm1 hr) rfl rfl) (i := 1012) (own1 := [(0, L.s, .dk (lawKs { L with lh := lh } C)), (1011, L.lt, .lst (h.T.map encTr))]) (own2 := (1013, lh, .lst ((mendW h.T k r h.W m).map encWo)) :: (1014, L.ll, .lst (h.ev.map encE)) :: hallOwn K 1000 L.A C h) rfl S (rm1 hr) (pds_cons (pd_tup (pds_cons (pd_var 3 rfl) (pds_cons (pd_var 2 rfl) pds_nil))) (pds_cons pd_non pds_nil)) fun H' S => ?_
      obtain ⟨W, hW⟩ : ∃ W, W = mendW h.T k r h.W m := ⟨_, rfl⟩
      obtain ⟨t, ht⟩ : ∃ t, t = dropT (mendT h.T k r h.t m) m r := ⟨_, rfl⟩
      rw [← hW, ← ht] at S
      rw [← hW] at hwl
      have S : Sta B0 _ _ (lawOwn K 0 { L with lh := lh } C ⟨h.T, t, W, h.ev⟩ h) _ H' := S
      refine s_dkR (own := lawOwn K 0 { L with lh := lh } C ⟨h.T, t, W, h.ev⟩ h) (aa := L.s) (ks := lawKs { L with lh := lh } C) (ds := (W.map fun o => if o = some (m, r) then none else o).map encWo) (own1 := []) (own2 := [(1011, L.lt, .lst (h.T.map encTr)), (1012, L.lk, .dct t), (1013, lh, .lst (W.map encWo)), (1014, L.ll, .lst (h.ev.map encE))] ++ hallOwn K 1000 L.A C h) (i := 0) (fun p => rv_var (i := 0) (List.mem_cons_of_mem _ List.mem_cons_self)) rfl S (rm1 hr) (en_show 0 List.mem_cons_self (law_self (K := K) (i := 0) (L := { L with lh := lh }) (C := C) (h := ⟨h.T, t, W, h.ev⟩) (g := h)) (PF.to (pf_lc (items := W) (enc := encWo) (cond := fun _ => true) (f := fun o => encWo (if o = some (m, r) then none else o)) (own := [("_law_work", 4)]) (blkOk_by (N := N_law_mend) (sc := defScope s_law_mend) (by decide +kernel))
        ⟨_, _, wi_list (pd_dk (d := .list (W.map encWo)) (rm1 hr) (pd_var 0 rfl) rfl), by decide, by omega, fun o ho s H C' cl fp => ⟨pg_nm 4 sc_law_mend.nd, pqs_0, fun _ => pd_if (PQ.to (pq_cmp (rd_eqD (d1 := encWo o) (d2 := encW (m, r)) hr.units (nt_Wo o) (nt_W _) (shaped_Wo o) (shaped_W _)) (pd_var 4 rfl) (pd_tup (pds_cons (pd_var 3 rfl) (pds_cons (pd_var 2 rfl) pds_nil)))) (eqv_Wo o _))
          (fun hh => PD.to pd_non ?_) fun hh => PD.to (pd_var 4 rfl) ?_⟩⟩ rfl sc_law_mend.nd) ?_) (fzA_map (fun o => by cases o <;> rfl) _)) (by simp) (by show 6 < 1000; decide) fun p H' S => s_nil (s_nil ⟨p, hn, ?_⟩)
      · show _ = encWo (if o = some (m, r) then none else o)
        rw [if_pos (of_decide_eq_true hh)]
        rfl
      · show _ = encWo (if o = some (m, r) then none else o)
        rw [if_neg (of_decide_eq_false hh)]
      · rw [fil_true, List.map_map]
        rfl
      · have eT : mendT h.T k r h.t (m + 1) = t := by rw [mendT_succ, ht]; unfold mdT; rw [if_pos hc]
        have eW : mendW h.T k r h.W (m + 1) = W.map fun o => if o = some (m, r) then none else o := by rw [mendW_succ, ← hW]; unfold mdW; rw [if_pos hc]
        show Sta _ _ _ (lawOwn K 0 { L with lh := p } C ⟨h.T, mendT h.T k r h.t (m + 1), mendW h.T k r h.W (m + 1), h.ev⟩ h) _ _
        rw [eT, eW]
        have S : Sta B0 _ _ ((1500, p, .lst ((W.map fun o => if o = some (m, r) then none else o).map encWo)) :: ([(0, L.s, .dk (lawKs { L with lh := p } C)), (1011, L.lt, .lst (h.T.map encTr)), (1012, L.lk, .dct t)] ++ (1013, lh, .lst (W.map encWo)) :: ((1014, L.ll, .lst (h.ev.map encE)) :: hallOwn K 1000 L.A C h))) _ H' := S
        exact S.swapIn (by decide) |>.un
    · have hc : ¬ (trAt h.T m).task = k := by have := of_decide_eq_false hc; omega
      have eT : mendT h.T k r h.t (m + 1) = mendT h.T k r h.t m := by rw [mendT_succ]; unfold mdT; rw [if_neg hc]
      have eW : mendW h.T k r h.W (m + 1) = mendW h.T k r h.W m := by rw [mendW_succ]; unfold mdW; rw [if_neg hc]
      show Sta _ _ _ (lawOwn K 0 { L with lh := lh } C ⟨h.T, mendT h.T k r h.t (m + 1), mendW h.T k r h.W (m + 1), h.ev⟩ h) _ _
      rw [eT, eW]
      exact S.un
  · rintro n lh σ H hn S
    have hn : n = h.T.length := hn
    subst hn
    have S : Sta B0 _ _ (lawOwn K 0 { L with lh := lh } C ⟨h.T, (mendS h k r).t, (mendS h k r).W, h.ev⟩ h) _ H := S
    refine s_appR (rv_s (ownR := []) (K := K) (rm1 hr) rfl rfl) (i := 1014) (own1 := [(0, L.s, .dk (lawKs { L with lh := lh } C)), (1011, L.lt, .lst (h.T.map encTr)), (1012, L.lk, .dct (mendS h k r).t), (1013, lh, .lst ((mendS h k r).W.map encWo))]) (own2 := hallOwn K 1000 L.A C h) rfl S (d := encE (.mend k r)) (PD.ev (pd_tup (pds_cons pd_str (pds_cons (pd_var 1 rfl) (pds_cons (pd_var 2 rfl) pds_nil))))) (fun H' S => ?_) (by rw [List.length_map]; show h.ev.length < 100000; omega)
    rw [show h.ev.map encE ++ [encE (.mend k r)] = (mendS h k r).ev.map encE by simp [mendS]] at S
    have S : Sta B0 _ _ ([] ++ lawOwn K 0 { L with lh := lh } C (mendS h k r) h) _ H' := S
    refine s_retE S (eo_isNone (eo_hallM (L := { L with lh := lh }) T (ok_h_mend T) hr (rv_s (ownR := []) (K := K) (rm1 hr) rfl rfl) rfl (ao_pds (pds_cons (pd_var 1 rfl) (pds_cons (pd_var 2 rfl) pds_nil))) ?_)) hQ
    rintro as o ⟨rfl, rfl⟩
    exact ⟨_, rfl, ⟨L.A, C, h, k, r, ok.v, hk, hr2, he, wle, rfl, rfl, rfl⟩, fun r2 o2 ⟨h1, lw, h2⟩ => ⟨lw, mendS h k r, h2, h1, { L with lh := lh, A := { L.A with lw := lw } }, rfl, rfl⟩⟩
end
end JH
set_option Elab.async false
set_option linter.all false
set_option maxRecDepth 100000
set_option maxHeartbeats 4000000
namespace JH
open PySem PySem.Spec L2
open Evl (Ex Ex.refl Ex.trans Ex.new Ex.mut)
theorem nI_add (a b : Nat) : nI (a + b) = PyData.int ((a : Int) + (b : Int)) := by simp [nI]
section
variable {P : Program} {w : World} {K : PySem.W.Frag} {mg : Str → Option Value} {base : Heap}
theorem ok_law_offer (T : Tx w K mg) : Kn P w K mg base "_law_offer" 3 ["_law_d", "_law_s"] (spO (R_loffer K)) := by
  obtain ⟨fd, F⟩ := T.d_law_offer
  refine ⟨_, fd, fn_O0 F sc_law_offer (fun as own Po ⟨_, _, _, _, _, _, _, _, _, e, _⟩ => by rw [e]; rfl) (by decide) ?_, T.g_law_offer, F.kp, F.bindsN b_law_offer⟩
  rintro cdv A outer s H0 E B0 own as Po vs Q hr ⟨ld, dd, L, C, h, okd, ok, hl, he, rfl, rfl, rfl⟩ S hQ
  have v := ok.v
  have t1 := v.t1
  have t2 := v.t2
  have n1 := v.n1
  have n2 := v.n2
  have ll := last_le ok.tv
  have m1 : ∀ {dd : List Int} {h : HS}, (1, L.s, OC.dk (lawKs L C)) ∈ diO 0 ld dd :: lawOwn K 1 L C h h := List.mem_cons_of_mem _ List.mem_cons_self
  refine s_set 2 S (d := encC C) (ev_show 1 (List.mem_cons_of_mem _ List.mem_cons_self) (law_self.cons _) (pd_dk (d := encC C) (rm1 hr) (pd_var 1 rfl) rfl) (fz_encC C)) (fun σ H' S => ?_) sc_law_offer.nd (ho := fun p hp => by
    rcases List.mem_cons.mp hp with rfl | hp
    · exact (by decide : (0 : Nat) ≠ 2)
    · rcases law_slots hp with ⟨h1, _⟩ | h1 <;> omega)
  refine s_set 3 S (d := nI (lastT h.T)) (ev_show 1 (List.mem_cons_of_mem _ List.mem_cons_self) (law_self.cons _) (pd_if (PQ.to (pq_cmp (rd_neD (d1 := encTs h.T) (d2 := .list []) hr.units (ntA_Trs _) rfl (shaped_Trs _) shaped_nil) (pd_dk (rm1 hr) (pd_var 1 rfl) rfl) (PF.pd (pf_lst pds_nil))) (by rw [show encTs h.T = .list (h.T.map encTr) from rfl, eqv_nil]))
    (fun hne => ?_) fun he => PD.to pd_int ?_) rfl) (fun σ H' S => ?_) sc_law_offer.nd (ho := fun p hp => by
    rcases List.mem_cons.mp hp with rfl | hp
    · exact (by decide : (0 : Nat) ≠ 3)
    · rcases law_slots hp with ⟨h1, _⟩ | h1 <;> omega)
  · have hne : h.T ≠ [] := fun z => by
      rw [z] at hne
      cases hne
    refine PD.to (pd_ixT (n := 2) (ds := [nI (h.T.getLast hne).team, nI (h.T.getLast hne).task, nI (h.T.getLast hne).time]) (pd_last (ds := h.T.map encTr) (ds' := h.T.dropLast.map encTr) (pd_dk (rm1 hr) (pd_var 1 rfl) rfl) (pd_neg 1 pd_int) (last_map hne)) pd_int rfl) ?_
    unfold lastT
    rw [List.getLast?_eq_some_getLast hne]
  · have he : h.T = [] := by simpa using he
    rw [he]
    rfl
  refine s_setD 4 S okd (Pd := fun d => ∃ n, lastT h.T ≤ n ∧ n ≤ 999 ∧ d = nI n) (dc_blt T.f_min bb_min (dcl_cons (Pa := fun d => d = nI 999) (dc_pd pd_int rfl) (dcl_cons (Pa := fun d => ∃ n, n < 30 ∧ d = nI (lastT h.T + n)) (dc_bin (Pa := fun d => d = nI (lastT h.T)) (dc_pd (pd_var 3 rfl) rfl) (dc_off (M := 30) T (hr.mono (by decide)) (fun dd => rv_var (i := 0) List.mem_cons_self)
    (dc_ixL (ds := [nI 2, nI 30]) (PF.pd (pf_lst (pds_cons pd_int (pds_cons pd_int pds_nil)))) (dc_offc (M := 2) T (hr.mono (by decide)) (fun dd => rv_var (i := 0) List.mem_cons_self) (by decide) (by decide)) ?_) (by decide)) fun d1 d2 e1 ⟨n, h1, h2⟩ => ⟨_, by rw [e1, h2]; exact rd_add, n, h1, (nI_add _ _).symm⟩) dcl_nil)) ?_) (fun d dd1 σ H' ⟨tm, tm1, tm2, hd⟩ ok1 S => ?_) (by decide) (fun p hp => by rcases law_slots hp with ⟨h1, _⟩ | h1 <;> omega) sc_law_offer.nd
  · rintro r ⟨n, hn, rfl⟩
    rcases n with _ | _ | n
    · exact ⟨0, _, rfl, rfl, 2, by decide, by decide, rfl⟩
    · exact ⟨1, _, rfl, rfl, 30, by decide, by decide, rfl⟩
    · omega
  · rintro ds ⟨d1, _, rfl, rfl, d2, _, rfl, ⟨n, hn, rfl⟩, rfl⟩
    refine ⟨_, cd_min rfl, if lastT h.T + n < 999 then lastT h.T + n else 999, ?_, ?_, ?_⟩
    · split <;> omega
    · split <;> omega
    · by_cases hc : lastT h.T + n < 999
      · rw [if_pos hc, if_pos (by omega)]
      · rw [if_neg hc, if_neg (by omega)]
  subst hd
  refine s_setD 5 S ok1 (Pd := fun d => ∃ x : Tr, OfOk C h x ∧ d = encTr x) (dc_tup (dcl_cons (dc_off (M := if 4 < C.teams then 4 else C.teams) T (hr.mono (by decide)) (fun dd => rv_var (i := 0) List.mem_cons_self) (dc_pd (pd_blt (cd_min rfl) T.f_min bb_min (pds_cons (pd_ixT (n := 1) (pd_var 2 rfl) pd_int rfl) (pds_cons pd_int pds_nil))) ⟨if 4 < C.teams then 4 else C.teams, by split <;> omega, Nat.le_refl _, ?_⟩) (by split <;> omega))
    (dcl_cons (dc_off (M := C.tasks.length) T (hr.mono (by decide)) (fun dd => rv_var (i := 0) List.mem_cons_self) (dc_pd (pd_blt cd_lenT T.f_len bb_len (pds_cons (pd_ixT (n := 4) (pd_var 2 rfl) pd_int rfl) pds_nil)) ⟨C.tasks.length, n1, Nat.le_refl _, by rw [List.length_map]⟩) (by omega)) (dcl_cons (Pa := fun d => d = nI tm) (dc_pd (pd_var 4 rfl) rfl) dcl_nil))) ?_) (fun d dd2 σ H' ⟨x, okx, hd⟩ ok2 S => ?_) (by decide) (fun p hp => by rcases law_slots hp with ⟨h1, _⟩ | h1 <;> omega) sc_law_offer.nd
  · by_cases hc : 4 < C.teams
    · rw [if_pos hc, if_pos (by omega)]
      rfl
    · rw [if_neg hc, if_neg (by omega)]
  · rintro ds ⟨d1, _, rfl, ⟨a, a1, rfl⟩, d2, _, rfl, ⟨b, b1, rfl⟩, d3, _, rfl, rfl, rfl⟩
    exact ⟨by simp, ⟨a, b, tm⟩, ⟨⟨by show a < C.teams; split at a1 <;> omega, b1, tm2⟩, tm1, hl, he⟩, rfl⟩
  subst hd
  refine s_appR (rv_s (ownR := [diO 0 ld dd2]) (K := K) (rm1 hr) rfl rfl) (i := 1011) (own1 := [diO 0 ld dd2, (1, L.s, .dk (lawKs L C))]) (own2 := (1012, L.lk, .dct h.t) :: (1013, L.lh, .lst (h.W.map encWo)) :: (1014, L.ll, .lst (h.ev.map encE)) :: hallOwn K 1000 L.A C h) rfl S (d := encTr x) (PD.ev (pd_var 5 rfl)) (fun H' S => ?_) (by rw [List.length_map]; omega)
  rw [show h.T.map encTr ++ [encTr x] = (offerS h x).T.map encTr by simp [offerS]] at S
  have S : Sta B0 _ _ ([diO 0 ld dd2] ++ lawOwn K 1 L C { h with T := (offerS h x).T } h) _ H' := S
  refine s_appR (own := [diO 0 ld dd2] ++ lawOwn K 1 L C { h with T := (offerS h x).T } h) (rv_s (ownR := [diO 0 ld dd2]) (K := K) (rm1 hr) rfl rfl) (i := 1014) (own1 := [diO 0 ld dd2, (1, L.s, .dk (lawKs L C)), (1011, L.lt, .lst ((offerS h x).T.map encTr)), (1012, L.lk, .dct h.t), (1013, L.lh, .lst (h.W.map encWo))]) (own2 := hallOwn K 1000 L.A C h) rfl S (d := encE (.offer x)) (PD.ev (pd_bin (rd_catT (ds := [.str "offer"]) (es := [nI x.team, nI x.task, nI x.time]) (by simp)) (pd_tup (pds_cons pd_str pds_nil)) (pd_var 5 rfl))) (fun H' S => ?_) (by rw [List.length_map]; show h.ev.length < 100000; omega)
  rw [show h.ev.map encE ++ [encE (.offer x)] = (offerS h x).ev.map encE by simp [offerS]] at S
  have S : Sta B0 _ _ ([diO 0 ld dd2] ++ lawOwn K 1 L C (offerS h x) h) _ H' := S
  refine s_retE S (eo_alike (n := 1) (d := nI h.T.length) (Q := fun o => ∃ L' : LAd, L'.s = L.s ∧ o = diO 0 ld dd2 :: lawOwn K 1 L' C (offerS h x) (offerS h x)) T hr (pl_nI 1 _) (eo_hallM T (ok_h_offer T) hr (rv_s (ownR := [diO 0 ld dd2]) (K := K) (rm1 hr) rfl rfl) rfl
    (ao_pds (pds_cons (pd_ixT (n := 0) (ds := [nI x.team, nI x.task, nI x.time]) (pd_var 5 rfl) pd_int rfl) (pds_cons (pd_ixT (n := 1) (ds := [nI x.team, nI x.task, nI x.time]) (pd_var 5 rfl) pd_int rfl) (pds_cons (pd_ixT (n := 2) (ds := [nI x.team, nI x.task, nI x.time]) (pd_var 5 rfl) pd_int rfl) pds_nil)))) ?_) (fun o ⟨L', hL, ho⟩ => ?_)) fun v r own' B1 H1 ⟨h1, L', hL, h2⟩ st oa fr z => ?_
  · rintro as o ⟨rfl, rfl⟩
    exact ⟨_, rfl, ⟨L.A, C, h, x, okx, rfl, rfl, rfl⟩, fun r o2 ⟨h1, h2⟩ => ⟨L.A.lw, offerS h x, h2, h1, L, rfl, rfl⟩⟩
  · subst ho
    refine EO.imp (eo_show 1 (List.mem_cons_of_mem _ List.mem_cons_self) (law_self.cons _) (PD.to (pd_bin rd_sub (pd_blt cd_lenL T.f_len bb_len (pds_cons (pd_dk (d := .list ((offerS h x).T.map encTr)) (rm1 hr) (pd_var 1 rfl) rfl) pds_nil)) pd_int) (d1 := nI h.T.length) ?_) rfl) fun r o ⟨h1, h2⟩ => ⟨h1, L', hL, h2⟩
    simp [offerS, nI]
  · exact hQ v r own' B1 H1 ⟨h1, x, dd2, L', okx, ok2, hL, h2⟩ st oa fr z
end
end JH
set_option Elab.async false
set_option linter.all false
set_option maxRecDepth 100000
set_option maxHeartbeats 4000000
/-! the law's hall is made -/
namespace JH
open PySem PySem.Spec L2
open Evl (Ex Ex.refl Ex.trans Ex.new Ex.mut)
theorem OwnAt.relab {B H : Hp} {own own' : Own} (h : OwnAt B H own) (p : (own'.map (·.2)).Perm (own.map (·.2))) : OwnAt B H own' := by
  refine ⟨fun q hq => ?_, ?_⟩
  · obtain ⟨r, r1, r2⟩ := List.mem_map.mp (p.mem_iff.mp (List.mem_map.mpr ⟨q, hq, rfl⟩))
    have := h.1 r r1
    rw [r2] at this
    exact this
  · have e3 : own'.map (·.2.1) = (own'.map (·.2)).map (·.1) := by rw [List.map_map]; rfl
    have e4 : own.map (·.2.1) = (own.map (·.2)).map (·.1) := by rw [List.map_map]; rfl
    rw [e3]
    refine (p.map _).nodup_iff.mpr ?_
    rw [← e4]
    exact h.2
section
variable {X : Cx} {env : Ev} {own : Own} {l : List (Expr × Expr)} {Pd Pd' : List (Str × Arg) → Own → Prop} {k1 k2 k3 k4 e1 e2 e3 e4 : Expr} {pos p1 p2 : Pos} {Po Pa Pb : Post} {f1 f2 f3 f4 : Str} {j1 j2 j3 j4 : Nat} {p3 p4 : Pos}
theorem DO.imp (h : DO X env own l Pd) (k : ∀ ks o, Pd ks o → Pd' ks o) : DO X env own l Pd' := fun B0 H0 fr σ H S Q q => h B0 H0 fr σ H S Q fun ps ks o H1 hp z => q ps ks o H1 (k ks o hp) z
/-- {'f': e, 'g': e2} -/
theorem eo_disp2 {P1 : Arg → Own → Prop} {P2 : Arg → Arg → Own → Prop} (h1 : EO X env own e1 P1) (h2 : ∀ r o, P1 r o → EO X env o e2 (P2 r)) (hn : f1 ≠ f2) (hPo : ∀ r1 r2 o, P2 r1 r2 o → ∀ p, Po (.ref (.ref p)) ((1500, p, .dk [(f1, r1), (f2, r2)]) :: o)) :
    EO X env own (.Dict [some (.Constant (.str f1) j1 p1), some (.Constant (.str f2) j2 p2)] [e1, e2] pos) Po := by
  refine eo_disp (l := [(.Constant (.str f1) j1 p1, e1), (.Constant (.str f2) j2 p2, e2)]) (do_cons h1 (Pd := fun r1 ks o => ∃ r2, ks = [(f2, r2)] ∧ P2 r1 r2 o) fun r o hp => DO.imp (do_cons (h2 r o hp) (Pd := fun r2 ks o => ks = [] ∧ P2 r r2 o) fun r2 o2 hp2 => DO.imp do_nil fun ks o3 ⟨z1, z2⟩ => ⟨z1, by rw [z2]; exact hp2⟩) fun ks o3 ⟨r2, ks', z1, _, z2, z3⟩ => ⟨r2, by rw [z1, z2], z3⟩) ?_ (by simp) (by simp)
  rintro ks o ⟨r1, ks', rfl, _, r2, rfl, hp⟩
  exact ⟨by simp [hn], by simp, hPo r1 r2 o hp⟩
theorem eo_disp4 {P1 : Arg → Own → Prop} {P2 : Arg → Arg → Own → Prop} {P3 : Arg → Arg → Arg → Own → Prop} {P4 : Arg → Arg → Arg → Arg → Own → Prop} (h1 : EO X env own e1 P1) (h2 : ∀ r1 o, P1 r1 o → EO X env o e2 (P2 r1)) (h3 : ∀ r1 r2 o, P2 r1 r2 o → EO X env o e3 (P3 r1 r2)) (h4 : ∀ r1 r2 r3 o, P3 r1 r2 r3 o → EO X env o e4 (P4 r1 r2 r3)) (hn : [f1, f2, f3, f4].Nodup)
    (hPo : ∀ r1 r2 r3 r4 o, P4 r1 r2 r3 r4 o → ∀ p, Po (.ref (.ref p)) ((1500, p, .dk [(f1, r1), (f2, r2), (f3, r3), (f4, r4)]) :: o)) :
    EO X env own (.Dict [some (.Constant (.str f1) j1 p1), some (.Constant (.str f2) j2 p2), some (.Constant (.str f3) j3 p3), some (.Constant (.str f4) j4 p4)] [e1, e2, e3, e4] pos) Po := by
  refine eo_disp (l := [(.Constant (.str f1) j1 p1, e1), (.Constant (.str f2) j2 p2, e2), (.Constant (.str f3) j3 p3, e3), (.Constant (.str f4) j4 p4, e4)]) (do_cons h1 (Pd := fun r1 ks o => ∃ r2 r3 r4, ks = [(f2, r2), (f3, r3), (f4, r4)] ∧ P4 r1 r2 r3 r4 o)
    fun r1 o hp => DO.imp (do_cons (h2 r1 o hp) (Pd := fun r2 ks o => ∃ r3 r4, ks = [(f3, r3), (f4, r4)] ∧ P4 r1 r2 r3 r4 o)
    fun r2 o hp => DO.imp (do_cons (h3 r1 r2 o hp) (Pd := fun r3 ks o => ∃ r4, ks = [(f4, r4)] ∧ P4 r1 r2 r3 r4 o)
    fun r3 o hp => DO.imp (do_cons (h4 r1 r2 r3 o hp) (Pd := fun r4 ks o => ks = [] ∧ P4 r1 r2 r3 r4 o) fun r4 o2 hp2 => DO.imp do_nil fun ks o3 ⟨z1, z2⟩ => ⟨z1, by rw [z2]; exact hp2⟩)
      fun ks o3 ⟨r4, ks', z1, _, z2, z3⟩ => ⟨r4, by rw [z1, z2], z3⟩) fun ks o3 ⟨r3, ks', z1, _, r4, z2, z3⟩ => ⟨r3, r4, by rw [z1, z2], z3⟩) fun ks o3 ⟨r2, ks', z1, _, r3, r4, z2, z3⟩ => ⟨r2, r3, r4, by rw [z1, z2], z3⟩) ?_ (by simp) (by simp)
  rintro ks o ⟨r1, ks', rfl, _, r2, r3, r4, rfl, hp⟩
  exact ⟨hn, by simp, hPo r1 r2 r3 r4 o hp⟩
end
def R_lhall (K : PySem.W.Frag) : SR := fun as own Po => ∃ (C : Ct) (n : Nat), Cv C ∧ 1 ≤ n ∧ n ≤ 5 ∧ as = [.dat (encC C), .dat (nI n)] ∧ own = [] ∧ Po = fun r o => ∃ L : LAd, r = .ref (.ref L.s) ∧ o = lawOwn K 1000 L C (initS n) (initS n)
abbrev ks4 (A : HAd) (C : Ct) (lt lk : Addr) : List (Str × Arg) := [("hall", .ref (.ref A.a)), ("contest", .dat (encC C)), ("tries", .ref (.ref lt)), ("known", .ref (.ref lk))]
section
variable {P : Program} {w : World} {K : PySem.W.Frag} {mg : Str → Option Value} {base : Heap}
theorem ok_law_hall (T : Tx w K mg) : Kn P w K mg base "_law_hall" 7 ["_law_contest", "_law_judges"] (spO (R_lhall K)) := by
  obtain ⟨fd, F⟩ := T.d_law_hall
  refine ⟨_, fd, fn_O0 F sc_law_hall (fun as own Po ⟨_, _, _, _, _, e, _⟩ => by rw [e]; rfl) (by decide) ?_, T.g_law_hall, F.kp, F.bindsN b_law_hall⟩
  rintro cdv A outer s H0 E B0 own as Po vs Q hr ⟨C, n, cv, n1, n5, rfl, rfl, rfl⟩ S hQ
  refine s_setO 2 S (eo_disp4 (Po := fun r o => ∃ (A : HAd) (s lt lk : Addr), r = .ref (.ref s) ∧ o = (1500, s, .dk (ks4 A C lt lk)) :: (1500, lk, .dct []) :: (1500, lt, .lst []) :: hallOwn K 1000 A C (initS n))
      (P1 := fun r o => ∃ A : HAd, r = .ref (.ref A.a) ∧ o = hallOwn K 1000 A C (initS n)) (P2 := fun r1 r o => ∃ A : HAd, r1 = .ref (.ref A.a) ∧ r = .dat (encC C) ∧ o = hallOwn K 1000 A C (initS n))
      (P3 := fun r1 r2 r o => ∃ (A : HAd) (lt : Addr), r1 = .ref (.ref A.a) ∧ r2 = .dat (encC C) ∧ r = .ref (.ref lt) ∧ o = (1500, lt, .lst []) :: hallOwn K 1000 A C (initS n))
      (P4 := fun r1 r2 r3 r o => ∃ (A : HAd) (lt lk : Addr), r1 = .ref (.ref A.a) ∧ r2 = .dat (encC C) ∧ r3 = .ref (.ref lt) ∧ r = .ref (.ref lk) ∧ o = (1500, lk, .dct []) :: (1500, lt, .lst []) :: hallOwn K 1000 A C (initS n))
      (eo_hall T hr (ao_pds (pds_cons (pd_var 0 rfl) (pds_cons (pd_var 1 rfl) pds_nil))) fun as o ⟨h1, h2⟩ => ⟨C, n, cv, n1, n5, h1, fun Ad => ⟨Ad, rfl, by subst h2; exact List.append_nil _⟩⟩)
      (fun r1 o ⟨A, h1, h2⟩ => EO.imp (eo_pd (pd_var 0 rfl)) fun r o' ⟨g1, g2⟩ => ⟨A, h1, g1, by rw [g2, h2]⟩)
      (fun r1 r2 o ⟨A, h1, h2, h3⟩ => EO.imp (eo_newL (pf_lst pds_nil) rfl) fun r o' ⟨p, g1, g2⟩ => ⟨A, p, h1, h2, g1, by rw [g2, h3]⟩)
      (fun r1 r2 r3 o ⟨A, lt, h1, h2, h3, h4⟩ => EO.imp eo_newT fun r o' ⟨p, g1, g2⟩ => ⟨A, lt, p, h1, h2, h3, g1, by rw [g2, h4]⟩) (by decide +kernel)
      fun r1 r2 r3 r4 o ⟨A, lt, lk, h1, h2, h3, h4, h5⟩ p => ⟨A, p, lt, lk, rfl, by rw [h1, h2, h3, h4, h5]⟩)
    (Pk := fun o => ∃ (A : HAd) (s lt lk : Addr), o = (2, s, .dk (ks4 A C lt lk)) :: (1500, lk, .dct []) :: (1500, lt, .lst []) :: hallOwn K 1000 A C (initS n)) (fun r o ⟨A, s, lt, lk, h1, h2⟩ => ?_) (fun o' σ' H' ⟨A, s, lt, lk, ho⟩ S => ?_) sc_law_hall.nd (by show 2 < 3; decide)
  · subst h2
    refine ⟨s, (2, s, .dk (ks4 A C lt lk)) :: (1500, lk, .dct []) :: (1500, lt, .lst []) :: hallOwn K 1000 A C (initS n), h1, fun p hp => ?_, fun p hp => ?_, fun nd => nd, A, s, lt, lk, rfl⟩
    · simp only [List.mem_cons, List.not_mem_nil, or_false] at hp
      rcases hp with rfl | rfl | rfl | rfl | rfl | rfl | rfl | rfl | rfl
      · exact (by decide : (1500 : Nat) ≠ 2)
      · exact (by decide : (1500 : Nat) ≠ 2)
      · exact (by decide : (1500 : Nat) ≠ 2)
      · exact (by decide : (1000 : Nat) ≠ 2)
      · exact (by decide : (1001 : Nat) ≠ 2)
      · exact (by decide : (1002 : Nat) ≠ 2)
      · exact (by decide : (1003 : Nat) ≠ 2)
      · exact (by decide : (1004 : Nat) ≠ 2)
      · exact (by decide : (1005 : Nat) ≠ 2)
    · rcases List.mem_cons.mp hp with rfl | hp
      · exact ⟨_, List.mem_cons_self, rfl, fun _ => .inr ⟨rfl, rfl⟩⟩
      · exact ⟨p, List.mem_cons_of_mem _ hp, rfl, fun _ => .inl rfl⟩
  · subst ho
    refine s_dropE S (eo_upd (i := 2) (aa := s) (Po := fun r o => ∃ L : LAd, o = (2, L.s, .dk (lawKs L C)) :: (1500, L.ll, .lst []) :: (1500, L.lh, .lst ((initS n).W.map encWo)) :: (1500, L.lk, .dct []) :: (1500, L.lt, .lst []) :: hallOwn K 1000 L.A C (initS n))
      (Pb := fun r o => ∃ b lh ll, r = .ref (.ref b) ∧ o = (1500, b, .dk [("had", .ref (.ref lh)), ("log", .ref (.ref ll))]) :: (1500, ll, .lst []) :: (1500, lh, .lst ((initS n).W.map encWo)) :: (2, s, .dk (ks4 A C lt lk)) :: (1500, lk, .dct []) :: (1500, lt, .lst []) :: hallOwn K 1000 A C (initS n))
      (rv_var (i := 2) List.mem_cons_self) (eo_disp2 (P1 := fun r o => ∃ lh, r = .ref (.ref lh) ∧ o = (1500, lh, .lst ((initS n).W.map encWo)) :: (2, s, .dk (ks4 A C lt lk)) :: (1500, lk, .dct []) :: (1500, lt, .lst []) :: hallOwn K 1000 A C (initS n))
        (P2 := fun r1 r o => ∃ lh ll, r1 = .ref (.ref lh) ∧ r = .ref (.ref ll) ∧ o = (1500, ll, .lst []) :: (1500, lh, .lst ((initS n).W.map encWo)) :: (2, s, .dk (ks4 A C lt lk)) :: (1500, lk, .dct []) :: (1500, lt, .lst []) :: hallOwn K 1000 A C (initS n))
        (EO.imp (eo_newL (ds := (initS n).W.map encWo) (PF.to (pf_rep (n := n) (pf_lst (pds_cons pd_non pds_nil)) (pd_var 1 rfl) (by omega)) (by show _ = (List.replicate n none).map encWo; rw [List.map_replicate]; rfl)) (fzA_map (fun o => by cases o <;> rfl) _)) fun r o ⟨p, h1, h2⟩ => ⟨p, h1, h2⟩)
        (fun r1 o ⟨lh, h1, h2⟩ => EO.imp (eo_newL (pf_lst pds_nil) rfl) fun r o' ⟨p, g1, g2⟩ => ⟨lh, p, h1, g1, by rw [g2, h2]⟩) (by decide +kernel) fun r1 r2 o ⟨lh, ll, h1, h2, h3⟩ p => ⟨p, lh, ll, rfl, by rw [h1, h2, h3]⟩) ?_ (hm := ⟨_, List.mem_cons_self⟩)) ?_
    · rintro v o ⟨b, lh, ll, rfl, rfl⟩
      refine ⟨ks4 A C lt lk, [("had", .ref (.ref lh)), ("log", .ref (.ref ll))], b, (1500, ll, .lst []) :: (1500, lh, .lst ((initS n).W.map encWo)) :: (1500, lk, .dct []) :: (1500, lt, .lst []) :: hallOwn K 1000 A C (initS n), rfl, ?_, by show (["hall", "contest", "tries", "known", "had", "log"] : List Str).Nodup; decide +kernel, by simp, ⟨s, lt, lk, lh, ll, A⟩, rfl⟩
      refine List.Perm.trans ?_ (List.Perm.swap _ _ _)
      refine List.Perm.cons _ ?_
      refine List.Perm.trans ?_ (List.perm_middle (l₁ := [(1500, ll, OC.lst []), (1500, lh, OC.lst ((initS n).W.map encWo))]))
      exact List.Perm.refl _
    · rintro r own' H' ⟨L, rfl⟩ S
      refine s_retE S (RV.eo (rv_var (i := 2) List.mem_cons_self)) fun v r own' B1 H1 ⟨h1, h2⟩ st oa fr z => ?_
      subst h1 h2
      have pm : ((lawOwn K 1000 L C (initS n) (initS n)).map (·.2)).Perm (((2, L.s, .dk (lawKs L C)) :: (1500, L.ll, .lst []) :: (1500, L.lh, .lst ((initS n).W.map encWo)) :: (1500, L.lk, .dct []) :: (1500, L.lt, .lst []) :: hallOwn K 1000 L.A C (initS n)).map (·.2)) := by
        refine List.Perm.cons _ ?_
        exact (List.reverse_perm [(L.ll, OC.lst []), (L.lh, OC.lst ((initS n).W.map encWo)), (L.lk, OC.dct []), (L.lt, OC.lst [])]).append_right ((hallOwn K 1000 L.A C (initS n)).map (·.2))
      refine hQ v _ (lawOwn K 1000 L C (initS n) (initS n)) B1 H1 ⟨L, rfl, rfl⟩ st (oa.relab pm) (fun p hp => ?_) z
      obtain ⟨q, q1, q2⟩ := List.mem_map.mp (pm.mem_iff.mp (List.mem_map.mpr ⟨p, hp, rfl⟩))
      have := fr q q1
      rw [q2] at this
      exact this
end
end JH
set_option Elab.async false
set_option linter.all false
set_option maxRecDepth 100000
set_option maxHeartbeats 4000000
/-! something that happens -/
namespace JH
open PySem PySem.Spec L2
open Evl (Ex Ex.refl Ex.trans Ex.new Ex.mut)
section
variable {X : Cx} {env : Ev} {own ownR : Own} {i j : Nat} {ld : Addr} {L : LAd} {C : Ct} {h g : HS} {pos p : Pos} {x : Str} {e : Expr} {args : List Expr} {k : Nat} {ps : List Str} {Pq : List Arg → Own → Prop} {Po : Post}
/-- a def of the law's that is handed s -/
theorem eo_lawC {R : SR} (F : Kn X.prog X.w X.K X.mg X.base x k ps (spO R)) (hr : Room k X.A) (ha : AO X env own (e :: args) Pq)
    (hh : ∀ as o, Pq as o → ∃ dd as' Pc, as = .ref (.ref L.s) :: as' ∧ o = diO i ld dd :: lawOwn X.K j L C h h ∧ R (.ref (.ref L.s) :: as') (lawOwn X.K 0 L C h h) Pc ∧ ∀ r o2, Pc r o2 → ∃ (L' : LAd) (h' : HS), L'.s = L.s ∧ o2 = lawOwn X.K 0 L' C h' h' ∧ Po r (diO i ld dd :: lawOwn X.K j L' C h' h')) (hg : Gl X x := by rfl)
    (he : starEach (e :: args) X.env = (false, eval e X.env) :: starEach args X.env := by rfl) (hpl : (backTo pos (starEach args X.env)).any (·.1) = false := by rfl) (hd : (x == ("__debug__" : Str)) = false := by decide) : EO X env own (.Call (.Name x p) (e :: args) [] pos) Po := by
  refine eo_callP F hr ha (fun as o hp => ?_) hg he hpl hd
  obtain ⟨dd, as', Pc, rfl, rfl, hR, tr⟩ := hh as o hp
  refine ⟨lawOwn X.K j L C h h ++ [diO i ld dd], List.perm_append_comm (l₁ := [diO i ld dd]), callTo_law hR rfl fun r o2 hp2 => ?_⟩
  obtain ⟨L', h', e1, e2, q⟩ := tr r o2 hp2
  exact ⟨L', h', h', e1, e2, _, List.perm_append_comm (l₂ := [diO i ld dd]), q⟩
theorem eo_dlawC {R : SR} (F : Kn X.prog X.w X.K X.mg X.base x k ps (spO R)) (hr : Room k X.A) (ha : AO X env own (e :: args) Pq)
    (hh : ∀ as o, Pq as o → ∃ dd as' Pc, as = .ref (.ref ld) :: .ref (.ref L.s) :: as' ∧ o = diO i ld dd :: lawOwn X.K j L C h h ∧ R (.ref (.ref ld) :: .ref (.ref L.s) :: as') (diO 0 ld dd :: lawOwn X.K 1 L C h h) Pc ∧ ∀ r o2, Pc r o2 → ∃ (dd' : List Int) (L' : LAd) (h' : HS), L'.s = L.s ∧ o2 = diO 0 ld dd' :: lawOwn X.K 1 L' C h' h' ∧ Po r (diO i ld dd' :: lawOwn X.K j L' C h' h')) (hg : Gl X x := by rfl)
    (he : starEach (e :: args) X.env = (false, eval e X.env) :: starEach args X.env := by rfl) (hpl : (backTo pos (starEach args X.env)).any (·.1) = false := by rfl) (hd : (x == ("__debug__" : Str)) = false := by decide) : EO X env own (.Call (.Name x p) (e :: args) [] pos) Po := by
  refine eo_call F hr ha (fun as o hp => ?_) hg he hpl hd
  obtain ⟨dd, as', Pc, rfl, rfl, hR, tr⟩ := hh as o hp
  refine callTo_dlaw (ownR := []) hR (by rw [List.append_nil]) fun r o2 hp2 => ?_
  obtain ⟨dd', L', h', e1, e2, q⟩ := tr r o2 hp2
  exact ⟨dd', L', h', h', e1, e2, by rw [List.append_nil]; exact q⟩
end
theorem Dc.at_ {X : Cx} {env : Ev} {own : Own} {i : Nat} {ld : Addr} {e : Expr} {Pd : PyData → Prop} {dd : List Int} (h : Dc X env i ld own e Pd) (ok : DiceOk dd) : EO X env (diO i ld dd :: own) e (fun r o => ∃ d dd', r = .dat d ∧ Pd d ∧ DiceOk dd' ∧ o = diO i ld dd' :: own) := h dd ok
/-- what stays true from one event to the next -/
structure GOk (C : Ct) (n : Nat) (h h' : HS) : Prop where
  lok : LOk C n h'
  evl : h'.ev.length ≤ h.ev.length + 1
  tl : h'.T.length ≤ 80
theorem GOk.same {C : Ct} {n : Nat} {h : HS} (o : LOk C n h) (t : h.T.length ≤ 80) : GOk C n h h := ⟨o, Nat.le_succ _, t⟩
theorem GOk.step {C : Ct} {n : Nat} {h h' : HS} {e : Ent} (o : LOk C n h) (hl : h.ev.length < 1000) (c : Can C h e h') (t : h'.T.length ≤ 80) : GOk C n h h' := ⟨o.step c hl, by rw [c.evs, List.length_append]; exact Nat.le_refl _, t⟩
def R_goes (K : PySem.W.Frag) : SR := fun as own Po => ∃ ld dd L C n h, DiceOk dd ∧ LOk C n h ∧ h.ev.length < 1000 ∧ h.T.length ≤ 80 ∧ as = [.ref (.ref ld), .ref (.ref L.s)] ∧ own = diO 0 ld dd :: lawOwn K 1 L C h h ∧
  Po = fun r o => r = .dat (.bool true) ∧ ∃ (dd' : List Int) (L' : LAd) (h' : HS), DiceOk dd' ∧ L'.s = L.s ∧ GOk C n h h' ∧ o = diO 0 ld dd' :: lawOwn K 1 L' C h' h'
section
variable {P : Program} {w : World} {K : PySem.W.Frag} {mg : Str → Option Value} {base : Heap}
theorem trials_pos {C : Ct} (v : Cv C) {k : Nat} (h : k < C.tasks.length) : 0 < trialsOf C k := by
  obtain ⟨g1, _, _, g4⟩ := v.groups h
  unfold trialsOf
  cases hg : C.groups k with
  | nil => rw [hg] at g1; exact absurd g1 (by decide)
  | cons g gs =>
    have := (g4 g (by rw [hg]; exact List.mem_cons_self)).1
    rw [List.map_cons, List.sum_cons]
    omega
theorem ok_law_goes_on (T : Tx w K mg) : Kn P w K mg base "_law_goes_on" 10 ["_law_d", "_law_s"] (spO (R_goes K)) := by
  obtain ⟨fd, F⟩ := T.d_law_goes_on
  refine ⟨_, fd, fn_O0 F sc_law_goes_on (fun as own Po ⟨_, _, _, _, _, _, _, _, _, _, e, _⟩ => by rw [e]; rfl) (by decide) ?_, T.g_law_goes_on, F.kp, F.bindsN b_law_goes_on⟩
  rintro cdv A outer s H0 E B0 own as Po vs Q hr ⟨ld, dd, L, C, n, h, okd, lok, he, ht, rfl, rfl, rfl⟩ S hQ
  have ok := lok.hok
  have v := ok.v
  have n1 := v.n1
  have n2 := v.n2
  have w1 := lok.n1
  have w5 := lok.n5
  have wl := lok.wl
  have so : ∀ {t : Nat}, t < 1000 → t ≠ 1 → ∀ p ∈ lawOwn K 1 L C h h, p.1 ≠ t := fun h1 h2 p hp => by rcases law_slots hp with ⟨h3, _⟩ | h3 <;> omega
  refine s_setD 2 S okd (dc_off (M := h.W.length) T (hr.mono (by decide)) (fun dd => rv_var (i := 0) List.mem_cons_self) (dc_show 1 List.mem_cons_self law_self (pd_blt cd_lenL T.f_len bb_len (pds_cons (pd_dk (d := .list (h.W.map encWo)) (rm1 hr) (pd_var 1 rfl) rfl) pds_nil)) rfl ⟨h.W.length, by omega, Nat.le_refl _, by rw [List.length_map]⟩) (by omega)) (fun d dd1 σ H' ⟨j, hj, hd⟩ ok1 S => ?_) (by decide) (so (by decide) (by decide)) sc_law_goes_on.nd
  subst hd
  refine s_setD 3 S ok1 (dc_offc (M := 40) T (hr.mono (by decide)) (fun dd => rv_var (i := 0) List.mem_cons_self) (by decide) (by decide)) (fun d dd2 σ H' ⟨kd, hkd, hd⟩ ok2 S => ?_) (by decide) (so (by decide) (by decide)) sc_law_goes_on.nd
  subst hd
  refine s_setD 4 S ok2 (dc_off (M := C.tasks.length) T (hr.mono (by decide)) (fun dd => rv_var (i := 0) List.mem_cons_self) (dc_show 1 List.mem_cons_self law_self (pd_blt cd_lenT T.f_len bb_len (pds_cons (pd_ixT (n := 4) (pd_dk (d := encC C) (rm1 hr) (pd_var 1 rfl) rfl) pd_int rfl) pds_nil)) rfl ⟨C.tasks.length, by omega, Nat.le_refl _, by rw [List.length_map]⟩) (by omega)) (fun d dd3 σ H' ⟨k, hk, hd⟩ ok3 S => ?_) (by decide) (so (by decide) (by decide)) sc_law_goes_on.nd
  subst hd
  have tsz := trials_pos v hk
  have tsl := trials_le v hk
  refine s_if S (PQ.tv (pq_cmp rd_eqI (pd_var 3 rfl) pd_int)) (fun _ H' S => ?_) fun _ H' S => s_nil ?_
  · refine s_retE S (eo_lawC (i := 0) (j := 1) (ld := ld) (L := L) (C := C) (h := h) (Po := fun r o => r = .dat (.bool true) ∧ ∃ (dd' : List Int) (L' : LAd) (h' : HS), DiceOk dd' ∧ L'.s = L.s ∧ GOk C n h h' ∧ o = diO 0 ld dd' :: lawOwn K 1 L' C h' h') (ok_law_mend T) (hr.mono (by decide))
      (ao_consO (RV.eo (rv_var (i := 1) (List.mem_cons_of_mem _ List.mem_cons_self))) (Pb := fun _ _ as o => ∃ dd' r, DiceOk dd' ∧ r < trialsOf C k ∧ as = [.dat (nI k), .dat (nI r)] ∧ o = diO 0 ld dd' :: lawOwn K 1 L C h h) fun r o ⟨_, ho⟩ => by
        subst ho
        exact AO.imp (ao_consO (eo_pd (pd_var 4 rfl)) (Pb := fun _ _ as o => ∃ dd' r, DiceOk dd' ∧ r < trialsOf C k ∧ as = [.dat (nI r)] ∧ o = diO 0 ld dd' :: lawOwn K 1 L C h h) fun r o ⟨_, ho⟩ => by
          subst ho
          exact AO.imp (ao_consO (Dc.at_ (dc_off (M := trialsOf C k) T (hr.mono (by decide)) (fun dd => rv_var (i := 0) List.mem_cons_self) (dc_show 1 List.mem_cons_self law_self (pd_fn (ok_law_size T) (hr.mono (by decide)) (pds_cons (pd_dk (d := encC C) (rm1 hr) (pd_var 1 rfl) rfl) (pds_cons (pd_var 4 rfl) pds_nil)) ⟨C, k, v, rfl, hk, rfl⟩) rfl ⟨trialsOf C k, tsz, Nat.le_refl _, rfl⟩) (by omega)) ok3) (Pb := fun _ o as o' => as = [] ∧ o' = o) fun _ _ _ => ao_nil)
            fun as o ⟨r, as', o1, e1, ⟨d, dd4, g1, ⟨z, g2, g3⟩, g4, g5⟩, e2, e3⟩ => ⟨dd4, z, g4, g2, by rw [e1, e2, g1, g3], by rw [e3, g5]⟩) fun as o ⟨r, as', o1, e1, ⟨g1, g2⟩, dd4, z, g3, g4, g5, g6⟩ => ⟨dd4, z, g3, g4, by rw [e1, g1, g5], g6⟩) ?_) hQ
    rintro as o ⟨r, as', o1, rfl, ⟨rfl, _⟩, dd4, z, g3, g4, rfl, rfl⟩
    refine ⟨dd4, _, _, rfl, rfl, ⟨L, C, h, k, z, ok, hk, g4, he, rfl, rfl, rfl⟩, fun r o2 ⟨h1, L', h2, h3⟩ => ⟨L', mendS h k z, h2, h3, h1, dd4, L', mendS h k z, g3, h2, ?_, rfl⟩⟩
    exact GOk.step lok he (Can.mend v hk g4 he (by omega)) ht
  refine s_if S (PQ.tv (pq_cmp rd_eqI (pd_var 3 rfl) pd_int)) (fun _ H' S => ?_) fun _ H' S => s_nil ?_
  · refine s_retE S (eo_lawC (i := 0) (j := 1) (ld := ld) (L := L) (C := C) (h := h) (Po := fun r o => r = .dat (.bool true) ∧ ∃ (dd' : List Int) (L' : LAd) (h' : HS), DiceOk dd' ∧ L'.s = L.s ∧ GOk C n h h' ∧ o = diO 0 ld dd' :: lawOwn K 1 L' C h' h') (ok_law_fall T) (hr.mono (by decide))
      (ao_consO (RV.eo (rv_var (i := 1) (List.mem_cons_of_mem _ List.mem_cons_self))) fun _ _ _ => ao_pds (pds_cons (pd_var 2 rfl) pds_nil)) ?_) hQ
    rintro as o ⟨r, as', o1, rfl, ⟨rfl, rfl⟩, rfl, rfl⟩
    refine ⟨dd3, _, _, rfl, rfl, ⟨L, C, h, j, hj, he, rfl, rfl, rfl⟩, fun r o2 ⟨h1, L', h2, h3⟩ => ⟨L', fallS h j, h2, h3, h1, dd3, L', fallS h j, ok3, h2, ?_, rfl⟩⟩
    exact GOk.step lok he (Can.fall hj he) ht
  refine s_ifE (Pt := fun b o => (b = true → h.T.length < 80) ∧ o = diO 0 ld dd3 :: lawOwn K 1 L C h h) S (TO.imp (to_show (k := decide ((kd : Int) = 2) && decide ((h.T.length : Int) < 80)) 1 (List.mem_cons_of_mem _ List.mem_cons_self) (law_self.cons _) (PQ.to (PQw.pq (pq_and (pq_cmp rd_eqI (pd_var 3 rfl) pd_int) fun _ => pq_and1 (pq_cmp rd_lt (pd_blt cd_lenL T.f_len bb_len (pds_cons (pd_dk (d := .list (h.T.map encTr)) (rm1 hr) (pd_var 1 rfl) rfl) pds_nil)) pd_int))) ?_)) fun b o ⟨h1, h2⟩ => ⟨fun hb => ?_, h2⟩) (fun own' H' ⟨hb, ho⟩ S => ?_) fun own' H' ⟨hb, ho⟩ S => s_nil ?_
  · rw [List.length_map]
  · rw [h1] at hb
    have := of_decide_eq_true (Bool.and_eq_true_iff.mp hb).2
    omega
  · subst ho
    have hb := hb rfl
    refine s_retE S (eo_dlawC (i := 0) (j := 1) (ld := ld) (L := L) (C := C) (h := h) (Po := fun r o => r = .dat (.bool true) ∧ ∃ (dd' : List Int) (L' : LAd) (h' : HS), DiceOk dd' ∧ L'.s = L.s ∧ GOk C n h h' ∧ o = diO 0 ld dd' :: lawOwn K 1 L' C h' h') (ok_law_offer T) (hr.mono (by decide))
      (ao_consO (RV.eo (rv_var (i := 0) List.mem_cons_self)) (Pb := fun _ o as o' => as = [.ref (.ref L.s)] ∧ o' = o) fun r o ⟨_, ho⟩ => by
        subst ho
        exact AO.imp (ao_consO (RV.eo (rv_var (i := 1) (List.mem_cons_of_mem _ List.mem_cons_self))) (Pb := fun _ o as o' => as = [] ∧ o' = o) fun _ _ _ => ao_nil) fun as o ⟨r, as', o1, e1, ⟨g1, g2⟩, e2, e3⟩ => ⟨by rw [e1, g1, e2], by rw [e3, g2]⟩) ?_) hQ
    rintro as o ⟨r, as', o1, rfl, ⟨rfl, rfl⟩, rfl, rfl⟩
    refine ⟨dd3, [], _, rfl, rfl, ⟨ld, dd3, L, C, h, ok3, ok, by omega, he, rfl, rfl, rfl⟩, fun r o2 ⟨h1, x, dd', L', h4, h5, h2, h3⟩ => ⟨dd', L', offerS h x, h2, h3, h1, dd', L', offerS h x, h5, h2, ?_, rfl⟩⟩
    exact GOk.step lok he (Can.offer h4) (by show (h.T ++ [x]).length ≤ 80; rw [List.length_append]; show h.T.length + 1 ≤ 80; omega)
  · subst ho
    obtain ⟨o, hw⟩ : ∃ o, h.W.getD j none = o := ⟨_, rfl⟩
    refine s_if S (tv_show (k := isN (encWo o)) 1 (List.mem_cons_of_mem _ List.mem_cons_self) (law_self.cons _) (pq_cmp rd_isN (pd_ixL (n := j) (pd_dk (d := .list (h.W.map encWo)) (rm1 hr) (pd_var 1 rfl) rfl) (pd_var 2 rfl) (w_at hj hw)) pd_non)) (fun hn H' S => ?_) fun hn H' S => s_nil ?_
    · cases o with
      | some p => cases hn
      | none =>
        refine s_retE S (eo_lawC (i := 0) (j := 1) (ld := ld) (L := L) (C := C) (h := h) (Po := fun r o => r = .dat (.bool true) ∧ ∃ (dd' : List Int) (L' : LAd) (h' : HS), DiceOk dd' ∧ L'.s = L.s ∧ GOk C n h h' ∧ o = diO 0 ld dd' :: lawOwn K 1 L' C h' h') (ok_law_take T) hr
          (ao_consO (RV.eo (rv_var (i := 1) (List.mem_cons_of_mem _ List.mem_cons_self))) fun _ _ _ => ao_pds (pds_cons (pd_var 2 rfl) pds_nil)) ?_) hQ
        rintro as o ⟨r, as', o1, rfl, ⟨rfl, rfl⟩, rfl, rfl⟩
        refine ⟨dd3, _, _, rfl, rfl, ⟨L, C, h, j, ok, hj, hw, he, rfl, rfl, rfl⟩, fun r o2 ⟨h1, L', h2, h3⟩ => ⟨L', (takeR C h j).2, h2, h3, h1, dd3, L', (takeR C h j).2, ok3, h2, ?_, rfl⟩⟩
        rw [takeR_eq]
        cases hf : freeOf C h with
        | nil => exact GOk.same lok ht
        | cons p f => exact GOk.step lok he (Can.take ok hj hw he hf) ht
    · cases o with
      | none => cases hn
      | some p =>
        have tl : h.t.length < 100000 := ok.vv.len
        refine s_retE S (eo_lawC (i := 0) (j := 1) (ld := ld) (L := L) (C := C) (h := h) (Po := fun r o => r = .dat (.bool true) ∧ ∃ (dd' : List Int) (L' : LAd) (h' : HS), DiceOk dd' ∧ L'.s = L.s ∧ GOk C n h h' ∧ o = diO 0 ld dd' :: lawOwn K 1 L' C h' h') (ok_law_tell T) (hr.mono (by decide))
          (ao_consO (RV.eo (rv_var (i := 1) (List.mem_cons_of_mem _ List.mem_cons_self))) (Pb := fun _ _ as o => ∃ dd' b, DiceOk dd' ∧ as = [.dat (nI j), .dat (.bool b)] ∧ o = diO 0 ld dd' :: lawOwn K 1 L C h h) fun r o ⟨_, ho⟩ => by
            subst ho
            exact AO.imp (ao_consO (eo_pd (pd_var 2 rfl)) (Pb := fun _ _ as o => ∃ dd' b, DiceOk dd' ∧ as = [.dat (.bool b)] ∧ o = diO 0 ld dd' :: lawOwn K 1 L C h h) fun r o ⟨_, ho⟩ => by
              subst ho
              exact AO.imp (ao_consO (Dc.at_ (dc_cmp (Pd := fun d => ∃ b, d = .bool b) (Pb := fun d => d = .int 0) (dc_offc (M := 3) T (hr.mono (by decide)) (fun dd => rv_var (i := 0) List.mem_cons_self) (by decide) (by decide)) (dc_pd pd_int rfl) (fun d1 d2 ⟨z, _, e1⟩ e2 => ⟨.bool (decide ((0 : Int) < (z : Int))), by rw [e1, e2]; exact rd_gt, _, rfl⟩)) ok3) (Pb := fun _ o as o' => as = [] ∧ o' = o) fun _ _ _ => ao_nil)
                fun as o ⟨r, as', o1, e1, ⟨d, dd4, g1, ⟨z, g3⟩, g4, g5⟩, e2, e3⟩ => ⟨dd4, z, g4, by rw [e1, e2, g1, g3], by rw [e3, g5]⟩) fun as o ⟨r, as', o1, e1, ⟨g1, g2⟩, dd4, z, g3, g5, g6⟩ => ⟨dd4, z, g3, by rw [e1, g1, g5], g6⟩) ?_) hQ
        rintro as o ⟨r, as', o1, rfl, ⟨rfl, _⟩, dd4, b, g3, rfl, rfl⟩
        refine ⟨dd4, _, _, rfl, rfl, ⟨L, C, h, j, p, b, hj, hw, he, tl, rfl, rfl, rfl⟩, fun r o2 ⟨h1, L', h2, h3⟩ => ⟨L', tellS h j p b, h2, h3, h1, dd4, L', tellS h j p b, g3, h2, ?_, rfl⟩⟩
        exact GOk.step lok he (Can.tell hj hw he tl) ht
end
end JH
set_option Elab.async false
set_option linter.all false
set_option maxRecDepth 100000
set_option maxHeartbeats 4000000
/-! the dice made of the script itself, which stands as the caller laid it -/
namespace JH
open PySem PySem.Spec L2
open Evl (Ex Ex.refl Ex.trans Ex.new Ex.mut)
theorem sq_ex {K : PySem.W.Frag} {B B' : Hp} {a : Addr} {xs : List V} (h : SqL K B a xs) (e : Ex B B') : SqL K B' a xs := h.elim (fun h => .inl (h.elim (fun h => .inl (e _ _ h)) fun ⟨o, h⟩ => .inr ⟨o, e _ _ h⟩)) .inr
theorem wkS {K : PySem.W.Frag} {G : Hp} {a : Addr} {ns : List Int} (h : SqL K G a (ns.map V.int)) : Wk (Itl K a) (ns.map PyData.int) G where
  go := fun i H hi e => ⟨_, .int (ns[i]'(by simpa using hi)), sq_ex h e, by rw [List.getElem?_map, List.getElem?_eq_getElem (by simpa using hi)]; rfl⟩
  stop := fun H e => ⟨_, sq_ex h e, by simp⟩
  yld := fun i B H x H' hi e eb y => by
    obtain ⟨rfl, y⟩ := y
    have y := y _ (sq_ex (sq_ex h e) eb)
    have hi : i < ns.length := by simpa using hi
    rw [List.getElem?_map, List.getElem?_eq_getElem hi] at y
    have y : V.int ns[i] = x := Option.some.inj y
    subst y
    exact ⟨.int ns[i], B, by rw [List.getElem?_map, List.getElem?_eq_getElem hi]; rfl, .refl eb, .int _⟩
def onlyA (H : Hp) (a : Addr) : Hp := fun b => if b = a then H b else none
theorem onlyA_ex {H : Hp} {a : Addr} : Ex (onlyA H a) H := fun b o h => by
  by_cases e : b = a
  · rw [onlyA, if_pos e] at h; exact h
  · rw [onlyA, if_neg e] at h; cases h
theorem onlyA_sq {K : PySem.W.Frag} {H : Hp} {a : Addr} {xs : List V} (h : SqL K H a xs) : SqL K (onlyA H a) a xs := h.elim (fun h => .inl (h.elim (fun h => .inl ((if_pos rfl).trans h)) fun ⟨o, h⟩ => .inr ⟨o, (if_pos rfl).trans h⟩)) .inr
section
variable {X : Cx} {B0 H0 H : Hp} {env : Ev} {own : Own} {σ : L2.St} {d : PyData} {e : Expr} {rest body : List Stmt} {D : Ends} {pos pos' : Pos} {x : Str}
/-- s_set that tells the slots -/
theorem s_setR (i : Nat) (S : Sta B0 H0 env own σ H) (h : EV X B0 H0 env own e d) (k : ∀ v H', Sta B0 H0 (env.set i (some d)) own (σ.set i (some v)) H' → WSs X rest D (σ.set i (some v)) H') (hN : X.N.Nodup) (ho : ∀ p ∈ own, p.1 ≠ i := by simp) (hi : X.N[i]? = some x := by rfl)
    (hx : Loc X.env.scope x := by first | exact Or.inl rfl | exact Or.inr rfl) (hs : swapsWith e (some (.Name x pos')) pos.line X.env = pure false := by rfl) (hf : X.fn x = true ∨ X.env.scope.names.lookup x = some .local := by first | exact .inl rfl | exact .inr rfl) : WSs X (.Assign [.Name x pos'] e pos :: rest) D σ H := by
  refine wss (pss_cons (ps_set hN hi hx smE hs hf) smSs) ?_
  exact h σ H S _ fun v H1 SV => k v H1 (StaV.set i SV ho)
/-- for c in s, s as the caller laid it -/
theorem s_forS {a : Addr} {ns : List Int} {tg : Expr} {ev : Nat → Ev} {nv : Nat → Int → Ev} {js : List Nat} {xi : Str} {pi : Pos} (S : Sta B0 H0 env [] σ H) (h0 : σ[0]? = some (some (.ref a))) (hq : SqL X.K B0 a (ns.map V.int)) (he : env = ev 0) (hg : ∀ k c, ns[k]? = some c → PGt X tg (ev k) (.int c) (nv k c) js) (hj : 0 ∉ js)
    (hb : ∀ k c σ H, ns[k]? = some c → Sta B0 H0 (nv k c) [] σ H → σ[0]? = some (some (.ref a)) → WSs X body { D with nx := fun σ' H' => Sta B0 H0 (ev (k + 1)) [] σ' H' ∧ σ'[0]? = some (some (.ref a)), ct := fun σ' H' => Sta B0 H0 (ev (k + 1)) [] σ' H' ∧ σ'[0]? = some (some (.ref a)), bk := WSs X rest D } σ H)
    (hd : ∀ σ H, Sta B0 H0 (ev ns.length) [] σ H → σ[0]? = some (some (.ref a)) → WSs X rest D σ H) (hp : PassesOwn (model X.prog X.w) X.A X.env X.xe) (hc : X.calm = true) (hN : X.N[0]? = some xi := by rfl) (hv : Vis X.env.scope xi := by first | exact Or.inl rfl | exact Or.inr (Or.inl rfl) | exact Or.inr (Or.inr rfl))
    (hdb : (xi == ("__debug__" : Str)) = false := by decide) (hcd : (xi == ("__classdict__" : Str)) = false := by decide) (hs : ∀ x, foldedSetIterable (.Name xi pi) X.env x = pure x := by intro _; rfl) : WSs X (.For tg (.Name xi pi) body [] pos :: rest) D σ H := by
  subst he
  refine wss (pss_cons (ps_for hp hc (pi_list smE) smG smSs hs) smSs) ?_
  refine we (pe_var hN hv hdb hcd) ⟨_, h0, a, rfl, ⟨ns.map V.int, ?_⟩, ?_⟩
  · obtain ⟨B, s, _, _⟩ := S
    exact sq_ex hq (s.bb.trans s.bh)
  refine ⟨fun i m σ' H' => m = ns.length - i ∧ i ≤ ns.length ∧ Sta B0 H0 (ev i) [] σ' H' ∧ σ'[0]? = some (some (.ref a)), ⟨ns.length, by simp, Nat.zero_le _, S, h0⟩, ?_⟩
  rintro k m σ' H' ⟨rfl, him, ⟨B', s', E', o'⟩, h1⟩
  have w := wkS (sq_ex hq s'.bb)
  by_cases hlt : k < ns.length
  · refine .inr ⟨w.go k H' (by rw [List.length_map]; exact hlt) s'.bh, fun σ2 H2 => Sta B0 H0 (ev (k + 1)) [] σ2 H2 ∧ σ2[0]? = some (some (.ref a)), fun σ2 H2 h2 => ⟨ns.length - (k + 1), by omega, rfl, hlt, h2⟩, fun x H2 y => ?_⟩
    obtain ⟨dd, B2, e1, st2, z2⟩ := w.yld k B' H' x H2 (by rw [List.length_map]; exact hlt) (.refl _) s'.bh y
    have hgt : ns[k]? = some ns[k] := List.getElem?_eq_getElem hlt
    rw [List.getElem?_map, hgt] at e1
    have e2 : PyData.int ns[k] = dd := Option.some.inj e1
    subst e2
    refine hg k _ hgt σ' B2 H2 x (E'.ex st2.bb) st2.bh z2 _ fun σ2 E2 l2 k2 => ?_
    exact hb k _ σ2 H2 hgt ⟨B2, s'.trans st2, E2, ⟨fun p hp => (nomatch hp), List.nodup_nil⟩⟩ ((k2 0 hj).trans h1)
  · have e : k = ns.length := by omega
    subst e
    exact .inl ⟨by have := w.stop H' s'.bh; rw [List.length_map] at this; exact this, hd σ' H' ⟨B', s', E', o'⟩ h1⟩
end
def spD (K : PySem.W.Frag) : Sp := fun vs H Q _ => ∃ (a : Addr) (ns : List Int), vs = [.ref a, .int 0] ∧ SqL K H a (ns.map V.int) ∧ ns.length ≤ 63 ∧ ∀ p H1, H p = none → ExN H H1 → H1 p = some (.lst ((diceOf ns).map V.int)) → Q (.ref p) H1
section
variable {P : Program} {w : World} {K : PySem.W.Frag} {mg : Str → Option Value} {base : Heap}
theorem ok_law_diceS (T : Tx w K mg) : Kn P w K mg base "_law_dice" 1 ["_law_script", "_law_k"] (spD K) := by
  obtain ⟨fd, F⟩ := T.d_law_dice
  refine ⟨_, fd, F.ok sc_law_dice (fun vs H Q E h => by obtain ⟨a, ns, rfl, _⟩ := h; rfl) (fun cdv A outer s H vs Q E hr h' => ?_), T.g_law_dice, F.kp, F.bindsN b_law_dice⟩
  obtain ⟨a, ns, rfl, hq, hl, q⟩ := h'
  refine ⟨_, PSs.nox smSs, ?_⟩
  have S : Sta (onlyA H a) H [none, some (.int 0), none, none] [] (L2.start N_law_dice [.ref a, .int 0]) H := by
    refine ⟨onlyA H a, .refl onlyA_ex, ⟨rfl, fun i d h => ?_⟩, ⟨fun p hp => (nomatch hp), List.nodup_nil⟩⟩
    rcases i with _ | _ | _ | _ | i
    · cases h
    · cases h; exact ⟨.int 0, rfl, .int 0⟩
    · cases h
    · cases h
    · cases h
  have hqB := onlyA_sq hq
  have hf := List.length_filter_le (fun c : Int => decide ((10 : Int) ^ (18 : Int).toNat ≤ c)) ns
  refine s_setR 2 S (PD.ev (pd_var 1 rfl)) (fun v H' S => ?_) sc_law_dice.nd
  refine s_forS (ns := ns) (ev := fun k => [none, some (.int 0), some (.int ((ns.take k).foldl dcStep 0)), none]) (nv := fun k c => [none, some (.int 0), some (.int ((ns.take k).foldl dcStep 0)), some (.int c)]) (js := [3]) S (by rw [List.getElem?_set_ne (by decide)]; rfl) hqB rfl (fun k c _ => pg_nm 3 sc_law_dice.nd) (by decide) ?_ ?_ PassesOwn.never rfl
  · rintro k c σ H hk S h0
    refine s_setR 2 S (d := .int ((ns.take (k + 1)).foldl dcStep 0)) (PD.ev (PD.to (pd_bin (rd_mod (by decide)) (pd_bin rd_add (pd_bin (rd_mul (.inr (by decide))) (pd_var 2 rfl) pd_int) (pd_blt cd_abs T.f_abs bb_abs (pds_cons (pd_var 3 rfl) pds_nil))) pd_int) ?_)) (fun v H' S => ?_) sc_law_dice.nd
    · rw [take_foldl _ _ hk]; rfl
    · exact s_nil ⟨S.fit rfl (by rintro (_ | _ | _ | _ | i) d h <;> first | exact h | (simp at h)), by rw [List.getElem?_set_ne (by decide)]; exact h0⟩
  · rintro σ H' ⟨B, st, E1, _⟩ h0
    rw [List.take_length] at E1
    refine wss (pss_cons (ps_ret smE) (pss_never)) ?_
    refine we (pe_op op_cat smE smE) ?_
    refine (pf_lst (pds_cons (pd_var 2 rfl) (pds_cons pd_int pds_nil))) σ B H' E1 st.bh _ fun p xs B1 H1 n1 s1 h1 z1 => ?_
    refine we (pe_lc rfl sc_law_dice.nd smI (blkOk_by (own := [("_law_cell", 3)]) (N := N_law_dice) (sc := defScope s_law_dice) (by decide +kernel)) smgB smtB smeB) ?_
    refine lc_readG (items := ns) (enc := .int) (cond := fun c => decide ((10 : Int) ^ (18 : Int).toNat ≤ c)) (f := .int) _ _ (by decide) (by omega) (fun c hc s H C' cl fp => ⟨pg_nm 3 sc_law_dice.nd, pqs_1 (pq_cmp rd_ge (pd_var 3 rfl) (pd_bin (rd_pow ⟨by decide, by decide, by decide⟩) pd_int pd_int)), fun _ => pd_var 3 rfl⟩) (E1.ex s1.bb) s1.bh (fun R k => ?_) fun r ys B2 H2 n2 s2 h2 z2 => ?_
    · refine wi (pi_list smE) (we (pe_var (i := 0) (x := "_law_script") rfl (Or.inl rfl)) ⟨_, h0, a, rfl, ⟨_, sq_ex hqB ((st.bb.trans s1.bb).trans s1.bh)⟩, k (Itl _ a) B1 H1 (.refl s1.bh) (wkS (sq_ex hqB (st.bb.trans s1.bb)))⟩)
    · have k1 : H2 p = some (.lst xs) := s2.bh _ _ (s2.bb _ _ h1)
      have e1 : xs = [ns.foldl dcStep 0, 0].map V.int := DzAll.ints (ns := [ns.foldl dcStep 0, 0]) z1
      have e2 : ys = (ns.filter fun c => decide ((10 : Int) ^ (18 : Int).toNat ≤ c)).map V.int := DzAll.ints z2
      refine ⟨p, r, xs, ys, rfl, rfl, k1, s2.bh _ _ h2, ?_, fun l hl => ?_⟩
      · refine sz ?_
        rw [e1, e2, List.length_map, List.length_map]
        simp only [List.length_cons, List.length_nil]
        omega
      · have st2 := (st.trans s1).trans s2
        refine q l _ (ex_h0 st2 hl) (st2.hh.trans (.of (Ex.new hl))) ?_
        rw [upd_same, e1, e2, ← List.map_append]
        rfl
end
end JH
set_option Elab.async false
set_option linter.all false
set_option maxRecDepth 100000
set_option maxHeartbeats 4000000
/-! the law -/
namespace JH
open PySem PySem.Spec L2
open Evl (Ex Ex.refl Ex.trans Ex.new Ex.mut)
/-- all that is own becomes what is known for good -/
theorem Sta.freezeAll {B0 H0 H : Hp} {env : Ev} {own : Own} {σ : L2.St} {i : Nat} {a : Addr} {c : OC} {d : PyData} (S : Sta B0 H0 env own σ H) (hm : (i, a, c) ∈ own) (hd : Reads1 own a d) (hi : i < 1000 := by decide) : Sta B0 H0 (env.set i (some d)) [] σ H := by
  obtain ⟨B, s, E, o⟩ := S
  have sh := shown_of s.bh o
  have E' := (E.ex sh.up).set i (hd _ sh.at_)
  rw [set_same ((o.all _ hm).1 hi)] at E'
  refine ⟨addO B H own, ⟨s.bb.trans sh.up, sh.le, s.hh, fun x hx hb => ?_⟩, E', ⟨fun p hp => (nomatch hp), List.nodup_nil⟩⟩
  have h1 : x ∉ own.map (·.2.1) := fun z => by
    obtain ⟨q, q1, q2⟩ := List.mem_map.mp z
    exact hx.ne (by rw [← q2]; exact (o.all q q1).2.2.1)
  rw [addO, if_neg h1]
  exact s.av x hx hb
section
variable {X : Cx} {B0 H0 : Hp} {env : Ev} {own : Own} {a b e : Expr} {k : Bool} {pos : Pos} {d1 d2 : PyData}
theorem tv_val (h : EV X B0 H0 env own a (.bool k)) (he : ∀ whole, isTrue a X.env whole = (do let v ← whole; standAt a.pos; holding [v] (truthy v)) := by intro _; rfl) : TV X B0 H0 env own a k := fun σ H S Q q => by
  refine wt (pt_val smE he) ?_
  exact h σ H S _ fun v H1 ⟨B, s, E, o, z⟩ => ⟨k, z.bl_inv, q H1 ⟨B, s, E, o⟩⟩
theorem tv_not (h : TV X B0 H0 env own a k) : TV X B0 H0 env own (.UnaryOp .Not a pos) (!k) := fun σ H S Q q => wt (pt_not smT) (h σ H S _ fun H1 S1 => q H1 S1)
theorem tv_or2 (ha : TV X B0 H0 env own a false) (hb : TV X B0 H0 env own b false) : TV X B0 H0 env own (.BoolOp .Or [a, b] pos) false := fun σ H S Q q pins s I =>
  (ww (X := X) (Q := Q) (pw_or smT (pw_or1 smT)) (ha σ H S _ fun H1 S1 => by rw [if_neg Bool.false_ne_true]; exact hb σ H1 S1 Q q)) _ pins s I
end
/-! what is told is plain -/
theorem placed_sc {ss : List (List Nat)} {r : Row} (h : r ∈ placed ss) : r.2.2 ∈ ss := by
  have h1 : r ∈ placedU ss := (List.mergeSort_perm _ _).mem_iff.mp h
  obtain ⟨p, h2, h3⟩ := List.mem_map.mp h1
  rw [← h3]
  obtain ⟨x, i⟩ := p
  obtain ⟨h4, h5⟩ := List.mem_zipIdx' h2
  show x ∈ ss
  rw [h5]
  exact List.getElem_mem h4
theorem pl_nIs {l : List Nat} (h : l.length ≤ 100000) : Pl 1 (.tuple (l.map nI)) := pl_T (fun d hd => by
  obtain ⟨a, _, rfl⟩ := List.mem_map.mp hd
  exact pl_nI _ _) (by rw [List.length_map]; exact h)
theorem pl_rows {C : Ct} (v : Cv C) (T : List Tr) (t : Tbl) : Pl 3 (.list ((allPlaced C T t).map encRow)) := by
  have h1 := placed_len ((List.range C.teams).map fun team => scoreOf C T t team (wholeU C))
  have h2 := v.t2
  refine pl_W (fun d hd => ?_) (by rw [List.length_map]; unfold allPlaced; rw [h1, List.length_map, List.length_range]; omega)
  obtain ⟨r, hr, rfl⟩ := List.mem_map.mp hd
  obtain ⟨team, _, e⟩ := List.mem_map.mp (placed_sc hr)
  have h3 := (scoreOf_ok C T t team (wholeU C)).2
  rw [e] at h3
  exact pl_T (pl_all3 (pl_nI _ _) (pl_nI _ _) (pl_nIs (by omega))) (by simp)
theorem pl_brows {C : Ct} (v : Cv C) (T : List Tr) (t : Tbl) : Pl 3 (.list ((rowsOf C T t (frozenU C)).map encB)) := by
  have h1 := placed_len ((List.range C.teams).map fun team => scoreOf C T t team ((frozenU C).getD team []))
  have h2 := v.t2
  have h4 := v.n2
  refine pl_W (fun d hd => ?_) (by rw [List.length_map]; unfold rowsOf; rw [List.length_map, h1, List.length_map, List.length_range]; omega)
  obtain ⟨b, hb, rfl⟩ := List.mem_map.mp hd
  obtain ⟨r, hr, rfl⟩ := List.mem_map.mp hb
  obtain ⟨team, _, e⟩ := List.mem_map.mp (placed_sc hr)
  have h3 := (scoreOf_ok C T t team ((frozenU C).getD team [])).2
  rw [e] at h3
  have h5 := hidden_len C T t r.2.1 ((frozenU C).getD r.2.1 [])
  exact pl_T (pl_all4 (pl_nI _ _) (pl_nI _ _) (pl_nIs (by show r.2.2.length ≤ 100000; omega)) (pl_nIs (by show (hiddenOf C T t r.2.1 ((frozenU C).getD r.2.1 [])).length ≤ 100000; omega))) (by simp)
end JH
set_option Elab.async false
set_option linter.all false
set_option maxRecDepth 100000
set_option maxHeartbeats 8000000
/-! the law walked -/
namespace JH
open PySem PySem.Spec L2
open Evl (Ex Ex.refl Ex.trans Ex.new Ex.mut)
def spLaw (K : PySem.W.Frag) : Sp := fun vs H Q _ => ∃ (a : Addr) (ns : List Int), vs = [.ref a] ∧ SqL K H a (ns.map V.int) ∧ ns.length ≤ 63 ∧ LamX.TabS H (tbA K) qL ∧ ∀ H', Q (.bl true) H'
abbrev enL (C : Ct) : Ev := [none, none, some (encC C), none, none, none, none, none, none, none, none]
abbrev LSt := List Int × LAd × HS × Nat
section
variable {P : Program} {w : World} {K : PySem.W.Frag} {mg : Str → Option Value} {base : Heap}
abbrev lawX (P : Program) (w : World) (K : PySem.W.Frag) (mg : Str → Option Value) (base : Heap) (cdv : Value) (A : Around) (outer : List Env) (s : Shared) (H : Hp) (E : XK) : Cx := (cxOf CX0 P w K mg base N_law "law" (defScope s_law) (He.ga K "law") cdv A outer s H E).nox
theorem lw_slots {K : PySem.W.Frag} {i : Nat} {L : LAd} {C : Ct} {h g : HS} {p : Addr} {dd : List Int} {t : Nat} (h1 : t < 1000) (h2 : t ≠ i) (h3 : t ≠ 1) : ∀ q ∈ diO 1 p dd :: lawOwn K i L C h g, q.1 ≠ t := fun q hq => by
  rcases List.mem_cons.mp hq with rfl | hq
  · exact fun z => h3 z.symm
  · rcases law_slots hq with ⟨h3, _⟩ | h3 <;> omega
/-- the end: what is told at the end, and the log judged -/
theorem law_end (T : Tx w K mg) (TB : LamX.TabB base mg (cdA K) (tbA K)) {cdv : Value} {A : Around} {outer : List Env} {s : Shared} {H0 : Hp} {E : XK} {Q : VK} {C : Ct} {n : Nat} {h : HS} {σ : L2.St} {H : Hp} (hr : Room 10 (lawX P w K mg base cdv A outer s H0 E).A) (Tb : TbOk K (fun _ => none) H0) (lok : LOk C n h) (q : ∀ H', Q (.bl true) H')
    (S : Sta (fun _ => none) H0 ((enL C).set 3 (some (lawD K C h h))) [] σ H) : WSs (lawX P w K mg base cdv A outer s H0 E) ((defBody s_law).drop 6) { nx := fun _ H' => Q .non H', rt := Q } σ H := by
  have ok := lok.hok
  have cv := ok.v
  have n1 := lok.n1
  have n5 := lok.n5
  have vv := vv_vds ok.vv
  refine s_par3 8 9 10 S (pds_cons (pd_dk (d := encTs h.T) (rm1 hr) (pd_var 3 rfl) rfl) (pds_cons (PF.pd (pf_fn (ok_law_known T) (hr.mono (by decide)) (pds_cons (pd_var 3 rfl) pds_nil) ⟨C, h, h, ok.vv.len, rfl, rfl⟩)) (pds_cons (pd_dk (d := hallD K C h) (rm1 hr) (pd_var 3 rfl) rfl) pds_nil))) (fun σ H S => ?_) rfl sc_law.nd
  refine s_if0 S (tv_or2 (tv_not (k := true) (PQ.tv (pq_val (pd_fn (ok_law_stands T) (hr.mono (by decide)) (pds_cons (pd_var 3 rfl) pds_nil) ⟨C, h, ok, rfl, rfl⟩)))) (tv_not (k := true) (tv_val (PDt.ev Tb (pdt_fn (ok_law_alike T 3) (hr.mono (by decide)) (pdst_cons (PFt.pd (pft_meth0 T (ok_h_standings T TB) (hr.mono (by decide)) (pd_var 10 rfl) ⟨C, h, ok, rfl, rfl⟩))
    (pdst_cons (PFt.pd (PFt.to (pft_fn (ok_standings T TB) (hr.mono (by decide)) (PDs.t (pds_cons (pd_var 2 rfl) (pds_cons (pd_var 8 rfl) (pds_cons (pd_var 9 rfl) pds_nil)))) ⟨C, h.T, vds h.t, cv, ok.tv, vv, rfl, rfl⟩) (by rw [cg_placed (look_vds h.t)]))) (PDs.t pds_nil))) ⟨_, pl_rows cv h.T h.t, rfl, rfl⟩))))) fun H S => ?_
  refine s_if0 S (tv_not (k := true) (tv_val (PDt.ev Tb (pdt_fn (ok_law_alike T 3) (hr.mono (by decide)) (pdst_cons (PFt.pd (pft_meth0 T (ok_h_board T TB) (hr.mono (by decide)) (pd_var 10 rfl) ⟨C, h, ok, rfl, rfl⟩))
    (pdst_cons (PFt.pd (PFt.to (pft_fn (ok_board T TB) (hr.mono (by decide)) (PDs.t (pds_cons (pd_var 2 rfl) (pds_cons (pd_var 8 rfl) (pds_cons (pd_var 9 rfl) pds_nil)))) ⟨C, h.T, vds h.t, cv, ok.tv, vv, rfl, rfl⟩) (by rw [cg_rows (look_vds h.t)]))) (PDs.t pds_nil))) ⟨_, pl_brows cv h.T h.t, rfl, rfl⟩)))) fun H S => ?_
  have hal := allOpen_len ok.rv h.t
  refine s_if0 S (PQ.tv (PQ.to (pq_not (k := true) (pq_val (pd_fn (ok_law_alike T 2) (hr.mono (by decide)) (pds_cons (PF.pd (pf_fn (ok_matter T) (hr.mono (by decide)) (pds_cons (pd_var 2 rfl) (pds_cons (pd_var 8 rfl) (pds_cons (pd_var 9 rfl) pds_nil))) ⟨C, h.T, vds h.t, cv, ok.tv, vv, rfl, rfl⟩)) (pds_cons (PF.pd (pf_fn (ok_law_matter T) (hr.mono (by decide)) (pds_cons (pd_var 2 rfl) (pds_cons (pd_var 8 rfl) (pds_cons (pd_var 9 rfl) pds_nil))) ⟨C, h.T, vds h.t, cv, ok.tv, vv, rfl, rfl⟩)) pds_nil))
    ⟨_, pl_map pl_encW (by rw [cg_open (look_vds h.t)]; omega), rfl, rfl⟩))) rfl)) fun H S => ?_
  refine s_ret S (d := .bool true) (PD.ev (PD.to (pd_cmp rd_isN (pd_fn (ok_judged T) hr (pds_cons (pd_var 2 rfl) (pds_cons (PD.to (pd_blt cd_lenL T.f_len bb_len (pds_cons (pd_dk (d := .list (h.W.map encWo)) (rm1 hr) (pd_var 3 rfl) rfl) pds_nil)) (d1 := nI n) (by rw [List.length_map, lok.wl])) (pds_cons (PF.pd (pf_meth0 T (ok_h_log T) (hr.mono (by decide)) (pd_var 10 rfl) ⟨C, h, rfl, rfl⟩)) pds_nil)))
    ⟨C, n, h.ev, h, cv, n1, n5, ok.el, ok.ek, lok.run, rfl, rfl⟩) pd_non) rfl)) fun v B1 H1 st z => ?_
  rw [z.bl_inv]
  exact q H1
end
end JH
set_option Elab.async false
set_option linter.all false
set_option maxRecDepth 100000
set_option maxHeartbeats 8000000
namespace JH
open PySem PySem.Spec L2
open Evl (Ex Ex.refl Ex.trans Ex.new Ex.mut)
abbrev E4 (C : Ct) (tm : Nat) : Ev := (enL C).set 4 (some (nI tm))
section
variable {P : Program} {w : World} {K : PySem.W.Frag} {mg : Str → Option Value} {base : Heap}
/-- the events -/
theorem law_events (T : Tx w K mg) (TB : LamX.TabB base mg (cdA K) (tbA K)) {cdv : Value} {A : Around} {outer : List Env} {s : Shared} {H0 : Hp} {E : XK} {Q : VK} {C : Ct} {n : Nat} {h : HS} {σ : L2.St} {H : Hp} {p : Addr} {dd : List Int} {L : LAd} {tm : Nat} (hr : Room 10 (lawX P w K mg base cdv A outer s H0 E).A) (Tb : TbOk K (fun _ => none) H0) (lok : LOk C n h) (okd : DiceOk dd)
    (ht : h.T.length ≤ 60) (he : h.ev.length ≤ 60) (q : ∀ H', Q (.bl true) H')
    (S : Sta (fun _ => none) H0 (E4 C tm) (diO 1 p dd :: lawOwn K 3 L C h h) σ H) : WSs (lawX P w K mg base cdv A outer s H0 E) ((defBody s_law).drop 5) { nx := fun _ H' => Q .non H', rt := Q } σ H := by
  refine s_forE (ι := List Int × LAd × HS) (Pi := fun m o => m ≤ 300 ∧ ∃ dd, DiceOk dd ∧ o = diO 1 p dd :: lawOwn K 3 L C h h) S (io_rng (Dc.at_ (dc_ixL (Pd := fun d => ∃ m, m ≤ 300 ∧ d = nI m) (ds := [nI 40, nI 300]) (PF.pd (pf_lst (pds_cons pd_int (pds_cons pd_int pds_nil)))) (dc_offc (M := 2) T (hr.mono (by decide)) (fun dd => rv_var (i := 1) List.mem_cons_self) (by decide) (by decide)) ?_) okd) (fun r o ⟨d, dd1, h1, ⟨m, m1, m2⟩, h3, h4⟩ => ⟨m, by rw [h1, m2], by omega, m1, dd1, h3, h4⟩) T.f_range)
    (fun _ _ => enL C) (fun _ x => diO 1 p x.1 :: lawOwn K 3 x.2.1 C x.2.2 x.2.2) (fun k _ => (enL C).set 7 (some (nI k))) [7] (fun m k x => m ≤ 300 ∧ DiceOk x.1 ∧ LOk C n x.2.2 ∧ x.2.2.T.length ≤ 80 ∧ x.2.2.ev.length ≤ 60 + k)
    (fun m o H' ⟨m1, dd1, h3, h4⟩ S => ⟨(dd1, L, h), ⟨m1, h3, lok, by show h.T.length ≤ 80; omega, by show h.ev.length ≤ 60 + 0; omega⟩, by
      rw [h4] at S
      exact S.fit rfl (by rintro (_ | _ | _ | _ | _ | i) d z <;> first | exact z | (simp at z))⟩) (fun k x => pg_nm 7 sc_law.nd) (fun k x q hq => by simpa using lw_slots (t := 7) (by decide) (by decide) (by decide) q hq) ?_ ?_ PassesOwn.never rfl
  · rintro r ⟨z, hz, rfl⟩
    rcases z with _ | _ | z
    · exact ⟨0, _, rfl, rfl, 40, by decide, rfl⟩
    · exact ⟨1, _, rfl, rfl, 300, by decide, rfl⟩
    · omega
  · rintro m k ⟨d0, L0, g⟩ σ H hlt ⟨m1, okd0, lok0, ht0, he0⟩ S
    have he1 : g.ev.length ≤ 60 + k := he0
    have ht0 : g.T.length ≤ 80 := ht0
    refine s_ifE S (to_not (to_val (Po := fun r o => r = .dat (.bool true) ∧ ∃ (dd' : List Int) (L' : LAd) (h' : HS), DiceOk dd' ∧ GOk C n g h' ∧ o = diO 1 p dd' :: lawOwn K 3 L' C h' h') (Pt := fun k o => k = true ∧ ∃ (dd' : List Int) (L' : LAd) (h' : HS), DiceOk dd' ∧ GOk C n g h' ∧ o = diO 1 p dd' :: lawOwn K 3 L' C h' h')
      (eo_dlawC (i := 1) (j := 3) (ld := p) (L := L0) (C := C) (h := g) (ok_law_goes_on T) hr (ao_consO (RV.eo (rv_var (i := 1) List.mem_cons_self)) (Pb := fun _ o as o' => as = [.ref (.ref L0.s)] ∧ o' = o) fun r o ⟨_, ho⟩ => by
        subst ho
        exact AO.imp (ao_consO (RV.eo (rv_var (i := 3) (List.mem_cons_of_mem _ List.mem_cons_self))) (Pb := fun _ o as o' => as = [] ∧ o' = o) fun _ _ _ => ao_nil) fun as o ⟨r, as', o1, e1, ⟨g1, g2⟩, e2, e3⟩ => ⟨by rw [e1, g1, e2], by rw [e3, g2]⟩) ?_) fun r o ⟨h1, h2⟩ => ⟨true, h1, rfl, h2⟩)) (fun own' H' z S => nomatch z.1) fun own' H' z S => s_nil ?_
    · rintro as o ⟨r, as', o1, rfl, ⟨rfl, rfl⟩, rfl, rfl⟩
      exact ⟨d0, [], _, rfl, rfl, ⟨p, d0, L0, C, n, g, okd0, lok0, by omega, ht0, rfl, rfl, rfl⟩, fun r o2 ⟨h1, dd', L', h', h2, h3, h4, h5⟩ => ⟨dd', L', h', h3, h5, h1, dd', L', h', h2, h4, rfl⟩⟩
    · obtain ⟨_, dd', L', h', h2, h4, rfl⟩ := z
      refine s_if0 S (tv_show 3 (List.mem_cons_of_mem _ List.mem_cons_self) (law_self.cons _) (PQ.to (PQw.pq (pq_and (pq_cmp rd_eqI (pd_bin (rd_mod (by decide)) (pd_var 7 rfl) pd_int) pd_int) fun _ => pq_and1 (pq_not (k := true) (pq_val (pd_fn (ok_law_stands T) (hr.mono (by decide)) (pds_cons (pd_var 3 rfl) pds_nil) ⟨C, h', h4.lok.hok, rfl, rfl⟩))))) (by simp))) fun H' S => s_nil ⟨(dd', L', h'), ⟨m1, h2, h4.lok, h4.tl, ?_⟩, ?_⟩
      · have := h4.evl
        show h'.ev.length ≤ 60 + (k + 1)
        omega
      · exact S.fit rfl (by rintro (_ | _ | _ | _ | _ | _ | _ | _ | i) d z <;> first | exact z | (simp at z))
  · rintro m ⟨d0, L0, g⟩ σ H ⟨m1, okd0, lok0, ht0, he0⟩ S
    exact law_end T TB hr Tb lok0 q (S.freezeAll (i := 3) (List.mem_cons_of_mem _ List.mem_cons_self) (law_self.cons _))
/-- the tries at first -/
theorem law_early (T : Tx w K mg) (TB : LamX.TabB base mg (cdA K) (tbA K)) {cdv : Value} {A : Around} {outer : List Env} {s : Shared} {H0 : Hp} {E : XK} {Q : VK} {C : Ct} {n : Nat} {σ : L2.St} {H : Hp} {p : Addr} {dd : List Int} {L : LAd} {tm : Nat} (hr : Room 10 (lawX P w K mg base cdv A outer s H0 E).A) (Tb : TbOk K (fun _ => none) H0) (cv : Cv C) (n1 : 1 ≤ n) (n5 : n ≤ 5) (okd : DiceOk dd) (htm : tm < 250)
    (q : ∀ H', Q (.bl true) H') (S : Sta (fun _ => none) H0 (E4 C tm) (diO 1 p dd :: lawOwn K 3 L C (initS n) (initS n)) σ H) : WSs (lawX P w K mg base cdv A outer s H0 E) ((defBody s_law).drop 4) { nx := fun _ H' => Q .non H', rt := Q } σ H := by
  have t1 := cv.t1
  have t2 := cv.t2
  have c1 := cv.n1
  have c2 := cv.n2
  refine s_forE (ι := LSt) (Pi := fun m o => m ≤ 60 ∧ ∃ dd, DiceOk dd ∧ o = diO 1 p dd :: lawOwn K 3 L C (initS n) (initS n)) S (io_rng (Dc.at_ (dc_plus (c := 1) (M := 60) (dc_offc (M := 60) T (hr.mono (by decide)) (fun dd => rv_var (i := 1) List.mem_cons_self) (by decide) (by decide))) okd) (fun r o ⟨d, dd1, h1, ⟨m, m0, m1, m2⟩, h3, h4⟩ => ⟨m, by rw [h1, m2], by omega, by omega, dd1, h3, h4⟩) T.f_range)
    (fun _ x => E4 C x.2.2.2) (fun _ x => diO 1 p x.1 :: lawOwn K 3 x.2.1 C x.2.2.1 x.2.2.1) (fun k x => (E4 C x.2.2.2).set 5 (some (nI k))) [5] (fun m k x => m ≤ 60 ∧ DiceOk x.1 ∧ LOk C n x.2.2.1 ∧ x.2.2.1.T.length = k ∧ x.2.2.1.ev.length = k ∧ lastT x.2.2.1.T ≤ x.2.2.2 ∧ x.2.2.2 ≤ 249 + k)
    (fun m o H' ⟨m1, dd1, h3, h4⟩ S => ⟨(dd1, L, initS n, tm), ⟨m1, h3, LOk.init cv n1 n5, rfl, rfl, Nat.zero_le _, by show tm ≤ 249 + 0; omega⟩, by rw [h4] at S; exact S⟩) (fun k x => pg_nm 5 sc_law.nd) (fun k x q hq => by simpa using lw_slots (t := 5) (by decide) (by decide) (by decide) q hq) ?_ ?_ PassesOwn.never rfl
  · rintro m k ⟨d0, L0, h, tm⟩ σ H hlt ⟨m1, okd0, lok, hTl, hel, hlast, htm⟩ S
    have hTl : h.T.length = k := hTl
    have hel : h.ev.length = k := hel
    have hlast : lastT h.T ≤ tm := hlast
    have htm : tm ≤ 249 + k := htm
    refine s_setD 4 S okd0 (Pd := fun d => ∃ b, b ≤ 1 ∧ d = nI (tm + b)) (dc_bin (Pa := fun d => d = nI tm) (Pb := fun d => ∃ b, b ≤ 1 ∧ d = nI b) (dc_pd (pd_var 4 rfl) rfl) (dc_ty T.f_int bt_int (dcl_cons (Pa := fun d => ∃ b, d = .bool b) (dc_cmp (Pb := fun d => d = .int 0) (dc_offc (M := 6) T (hr.mono (by decide)) (fun dd => rv_var (i := 1) List.mem_cons_self) (by decide) (by decide)) (dc_pd pd_int rfl) fun d1 d2 ⟨z, _, e1⟩ e2 => ⟨.bool (decide ((z : Int) = 0)), by rw [e1, e2]; exact rd_eqI, _, rfl⟩) dcl_nil) ?_)
      fun d1 d2 e1 ⟨b, hb, e2⟩ => ⟨nI (tm + b), by rw [e1, e2, nI_add]; exact rd_add, b, hb, rfl⟩) (fun d dd1 σ H' ⟨b, hb, hd⟩ ok1 S => ?_) (by decide) (fun q hq => lw_slots (dd := d0) (p := p) (by decide) (by decide) (by decide) q (List.mem_cons_of_mem _ hq)) sc_law.nd
    · rintro ds ⟨d, _, rfl, ⟨b, rfl⟩, rfl⟩
      exact ⟨_, cd_intB, if b then 1 else 0, by split <;> omega, by cases b <;> rfl⟩
    subst hd
    refine s_setD 6 S ok1 (Pd := fun d => ∃ x : Tr, OfOk C h x ∧ x.time = tm + b ∧ d = encTr x) (dc_tup (dcl_cons (dc_off (M := C.teams) T (hr.mono (by decide)) (fun dd => rv_var (i := 1) List.mem_cons_self) (dc_pd (pd_ixT (n := 1) (d := nI C.teams) (pd_var 2 rfl) pd_int rfl) ⟨C.teams, by omega, Nat.le_refl _, rfl⟩) (by omega))
      (dcl_cons (dc_off (M := C.tasks.length) T (hr.mono (by decide)) (fun dd => rv_var (i := 1) List.mem_cons_self) (dc_pd (pd_blt cd_lenT T.f_len bb_len (pds_cons (pd_ixT (n := 4) (pd_var 2 rfl) pd_int rfl) pds_nil)) ⟨C.tasks.length, by omega, Nat.le_refl _, by rw [List.length_map]⟩) (by omega)) (dcl_cons (Pa := fun d => d = nI (tm + b)) (dc_pd (pd_var 4 rfl) rfl) dcl_nil))) ?_) (fun d dd2 σ H' ⟨x, okx, hxt, hd⟩ ok2 S => ?_) (by decide) (fun q hq => lw_slots (dd := d0) (p := p) (by decide) (by decide) (by decide) q (List.mem_cons_of_mem _ hq)) sc_law.nd
    · rintro ds ⟨d1, _, rfl, ⟨a, a1, rfl⟩, d2, _, rfl, ⟨c, c1, rfl⟩, d3, _, rfl, rfl, rfl⟩
      exact ⟨by simp, ⟨a, c, tm + b⟩, ⟨⟨a1, c1, by show tm + b ≤ 999; omega⟩, by show lastT h.T ≤ tm + b; omega, by omega, by omega⟩, rfl, rfl⟩
    subst hd
    refine s_appR (own := [diO 1 p dd2] ++ lawOwn K 3 L0 C h h) (rv_s (ownR := [diO 1 p dd2]) (K := K) (rm1 hr) rfl rfl) (i := 1011) (own1 := [diO 1 p dd2, (3, L0.s, .dk (lawKs L0 C))]) (own2 := (1012, L0.lk, .dct h.t) :: (1013, L0.lh, .lst (h.W.map encWo)) :: (1014, L0.ll, .lst (h.ev.map encE)) :: hallOwn K 1000 L0.A C h) rfl S (d := encTr x) (PD.ev (pd_var 6 rfl)) (fun H' S => ?_) (by rw [List.length_map]; omega)
    rw [show h.T.map encTr ++ [encTr x] = (offerS h x).T.map encTr by simp [offerS]] at S
    have S : Sta (fun _ => none) _ _ ([diO 1 p dd2] ++ lawOwn K 3 L0 C { h with T := (offerS h x).T } h) _ H' := S
    refine s_appR (own := [diO 1 p dd2] ++ lawOwn K 3 L0 C { h with T := (offerS h x).T } h) (rv_s (ownR := [diO 1 p dd2]) (K := K) (rm1 hr) rfl rfl) (i := 1014) (own1 := [diO 1 p dd2, (3, L0.s, .dk (lawKs L0 C)), (1011, L0.lt, .lst ((offerS h x).T.map encTr)), (1012, L0.lk, .dct h.t), (1013, L0.lh, .lst (h.W.map encWo))]) (own2 := hallOwn K 1000 L0.A C h) rfl S (d := encE (.offer x)) (PD.ev (pd_bin (rd_catT (ds := [.str "offer"]) (es := [nI x.team, nI x.task, nI x.time]) (by simp)) (pd_tup (pds_cons pd_str pds_nil)) (pd_var 6 rfl))) (fun H' S => ?_) (by rw [List.length_map]; show h.ev.length < 100000; omega)
    rw [show h.ev.map encE ++ [encE (.offer x)] = (offerS h x).ev.map encE by simp [offerS]] at S
    have S : Sta (fun _ => none) _ _ ([diO 1 p dd2] ++ lawOwn K 3 L0 C (offerS h x) h) _ H' := S
    refine s_ifE S (to_not (to_val (Po := fun r o => r = .dat (.bool true) ∧ ∃ L' : LAd, o = diO 1 p dd2 :: lawOwn K 3 L' C (offerS h x) (offerS h x)) (Pt := fun k o => k = true ∧ ∃ L' : LAd, o = diO 1 p dd2 :: lawOwn K 3 L' C (offerS h x) (offerS h x)) (eo_alike (n := 1) (d := nI h.T.length) (Q := fun o => ∃ L' : LAd, o = diO 1 p dd2 :: lawOwn K 3 L' C (offerS h x) (offerS h x)) T (hr.mono (by decide)) (pl_nI 1 _)
      (eo_hallM T (ok_h_offer T) (hr.mono (by decide)) (rv_s (ownR := [diO 1 p dd2]) (K := K) (rm1 hr) rfl rfl) rfl (ao_pds (pds_cons (pd_ixT (n := 0) (ds := [nI x.team, nI x.task, nI x.time]) (pd_var 6 rfl) pd_int rfl) (pds_cons (pd_ixT (n := 1) (ds := [nI x.team, nI x.task, nI x.time]) (pd_var 6 rfl) pd_int rfl) (pds_cons (pd_ixT (n := 2) (ds := [nI x.team, nI x.task, nI x.time]) (pd_var 6 rfl) pd_int rfl) pds_nil)))) ?_)
      (fun o ho => EO.imp (eo_pd (PD.to (pd_var 5 rfl) (by rw [hTl]))) fun r o' ⟨h1, h2⟩ => ⟨h1, by rw [h2]; exact ho⟩)) fun r o ⟨h1, h2⟩ => ⟨true, h1, rfl, h2⟩)) (fun own' H' z S => nomatch z.1) fun own' H' z S => s_nil ?_
    · rintro as o ⟨rfl, rfl⟩
      exact ⟨_, rfl, ⟨L0.A, C, h, x, okx, rfl, rfl, rfl⟩, fun r o2 ⟨h1, h2⟩ => ⟨L0.A.lw, offerS h x, h2, h1, L0, rfl⟩⟩
    · obtain ⟨_, L', rfl⟩ := z
      refine s_nil ⟨(dd2, L', offerS h x, tm + b), ⟨m1, ok2, lok.step (Can.offer okx) (by omega), ?_, ?_, ?_, ?_⟩, ?_⟩
      · show (h.T ++ [x]).length = k + 1
        rw [List.length_append, hTl]
        rfl
      · show (h.ev ++ [_]).length = k + 1
        rw [List.length_append, hel]
        rfl
      · show lastT (h.T ++ [x]) ≤ tm + b
        unfold lastT
        rw [List.getLast?_append]
        show x.time ≤ tm + b
        omega
      · show tm + b ≤ 249 + (k + 1)
        omega
      · exact S.fit rfl (by rintro (_ | _ | _ | _ | _ | _ | _ | i) d z <;> first | exact z | (simp at z))
  · rintro m ⟨d0, L0, h, tm⟩ σ H ⟨m1, okd0, lok, hTl, hel, hlast, htm⟩ S
    have hTl : h.T.length = m := hTl
    have hel : h.ev.length = m := hel
    exact law_events T TB hr Tb lok okd0 (by omega) (by omega) q S
theorem ok_law {fd : FuncData} (T : Tx w K mg) (TB : LamX.TabB base mg (cdA K) (tbA K)) (F : FunD K "law" "law" (defArgs s_law) (defBody s_law) (defScope s_law) [] [] (He.ga K "law") fd) : FnOk P w K mg base CX0 11 (He.ga K "law") fd ["_law_script"] (spLaw K) := by
  refine F.ok sc_law (fun vs H Q E h => by obtain ⟨a, ns, rfl, _⟩ := h; rfl) (fun cdv A outer s H vs Q E hr h' => ?_)
  obtain ⟨a, ns, rfl, hq, hl, hT, q⟩ := h'
  refine ⟨_, PSs.nox smSs, ?_⟩
  obtain ⟨f1, fd1, F1, hm1, hk1, hb1⟩ := ok_law_diceS (P := P) (base := base) T
  refine wss (pss_cons (ps_set sc_law.nd (i := 1) rfl (Or.inl rfl) smE rfl (.inl rfl)) smSs) ?_
  refine we (pe_call F1 (hr.mono (by decide)) rfl hm1 hk1 hb1 .nil pass0 smA (by decide) rfl rfl) ?_
  refine wa (pa_cons smE smA rfl) (we (pe_var (i := 0) (x := "_law_script") rfl (Or.inl rfl)) ⟨.ref a, rfl, wa (pa_cons smE smA rfl) (we pe_int (wa pa_nil ?_))⟩)
  refine ⟨a, ns, rfl, hq, hl, fun p H1 hn ex h1 => ?_⟩
  have ok0 := dice_ok hl
  have Tb : TbOk K (fun _ => none) H := ⟨hT, rfl⟩
  have S : Sta (fun _ => none) H (List.replicate 11 none) [diO 1 p (diceOf ns)] ((L2.start N_law [.ref a]).set 1 (some (.ref p))) H1 := by
    refine ⟨fun _ => none, ⟨Ex.refl _, fun _ _ z => (nomatch z), ex, fun _ _ z => z⟩, ⟨rfl, fun i d z => ?_⟩, ⟨fun r hr => ?_, by simp⟩⟩
    · rw [List.getElem?_replicate] at z
      split at z <;> cases z
    · rw [List.mem_singleton.mp hr]
      exact ⟨fun _ => rfl, rfl, hn, _, h1, DzAll.of_ints _ _⟩
  refine s_setE 2 S (eo_call (Po := fun r o => ∃ C dd, Cv C ∧ DiceOk dd ∧ r = .dat (encC C) ∧ o = [diO 1 p dd]) (ok_law_small T) (hr.mono (by decide)) (ao_consO (RV.eo (rv_var (i := 1) List.mem_cons_self)) (Pb := fun _ o as o' => as = [] ∧ o' = o) fun _ _ _ => ao_nil) ?_) (fun d own' σ H2 ⟨C, dd, cv, okd, hd, ho⟩ S => ?_) (fun r o ⟨C, dd, _, _, h1, h2⟩ => ⟨⟨_, h1⟩, by rw [h2]; simp⟩) sc_law.nd
  · rintro as o ⟨r, as', o1, rfl, ⟨rfl, rfl⟩, rfl, rfl⟩
    refine ⟨[diO 0 p _], [diO 1 p _], [], _, rfl, rfl, fun r hr hi => by rw [List.mem_singleton.mp hr]; rfl, ⟨p, _, ok0, rfl, rfl, rfl⟩, ?_⟩
    rintro r o2 ⟨C, dd, cv, okd, rfl, rfl⟩
    exact ⟨[diO 1 p dd], rfl, fun r hr hi => by rw [List.mem_singleton.mp hr]; exact List.mem_cons_self, C, dd, cv, okd, rfl, rfl⟩
  cases hd
  subst ho
  refine s_setO 3 S (eo_call (Po := fun r o => ∃ (L : LAd) (dd : List Int) (n : Nat), DiceOk dd ∧ 1 ≤ n ∧ n ≤ 5 ∧ r = .ref (.ref L.s) ∧ o = lawOwn K 1000 L C (initS n) (initS n) ++ [diO 1 p dd]) (ok_law_hall T) (hr.mono (by decide)) (ao_consO (eo_pd (pd_var 2 rfl)) (Pb := fun _ _ as o => ∃ n dd, 1 ≤ n ∧ n ≤ 5 ∧ DiceOk dd ∧ as = [.dat (nI n)] ∧ o = [diO 1 p dd]) fun r o ⟨_, ho⟩ => by
      subst ho
      exact AO.imp (ao_consO (Dc.at_ (dc_plus (c := 1) (M := 5) (dc_offc (M := 5) T (hr.mono (by decide)) (fun dd => rv_var (i := 1) List.mem_cons_self) (by decide) (by decide))) okd) (Pb := fun _ o as o' => as = [] ∧ o' = o) fun _ _ _ => ao_nil) fun as o ⟨r, as', o1, e1, ⟨d, dd2, g1, ⟨n, n1, n2, n3⟩, g4, g5⟩, e2, e3⟩ => ⟨n, dd2, n1, by omega, g4, by rw [e1, e2, g1, n3], by rw [e3, g5]⟩) ?_)
    (Pk := fun o => ∃ (L : LAd) (dd : List Int) (n : Nat), DiceOk dd ∧ 1 ≤ n ∧ n ≤ 5 ∧ o = diO 1 p dd :: lawOwn K 3 L C (initS n) (initS n)) (fun r o ⟨L, dd, n, okd, n1, n5, h1, h2⟩ => ?_) (fun o' σ H' ⟨L, dd, n, okd, n1, n5, ho⟩ S => ?_) sc_law.nd (by show 3 < 11; decide)
  · rintro as o ⟨r, as', o1, rfl, ⟨rfl, _⟩, n, dd, n1, n5, okd, rfl, rfl⟩
    refine ⟨[], [], [diO 1 p dd], _, rfl, rfl, fun q hq => (nomatch hq), ⟨C, n, cv, n1, n5, rfl, rfl, rfl⟩, ?_⟩
    rintro r o2 ⟨L, rfl, rfl⟩
    exact ⟨lawOwn K 1000 L C (initS n) (initS n), rfl, fun q hq hi => by exfalso; rcases law_slots hq with ⟨h1, _⟩ | h1 <;> omega, L, dd, n, okd, n1, n5, rfl, rfl⟩
  · subst h2
    refine ⟨L.s, diO 1 p dd :: lawOwn K 3 L C (initS n) (initS n), h1, fun r hr => ?_, fun r hr => ?_, fun nd => ?_, L, dd, n, okd, n1, n5, rfl⟩
    · rcases List.mem_append.mp hr with hr | hr
      · rcases law_slots hr with ⟨h1, _⟩ | h1 <;> omega
      · rw [List.mem_singleton.mp hr]
        exact (by decide : (1 : Nat) ≠ 3)
    · rcases List.mem_cons.mp hr with rfl | hr
      · exact ⟨_, List.mem_append_right _ List.mem_cons_self, rfl, fun _ => .inl rfl⟩
      · rcases List.mem_cons.mp hr with rfl | hr
        · exact ⟨_, List.mem_append_left _ List.mem_cons_self, rfl, fun _ => .inr ⟨rfl, rfl⟩⟩
        · exact ⟨r, List.mem_append_left _ (List.mem_cons_of_mem _ hr), rfl, fun _ => .inl rfl⟩
    · rw [List.map_append] at nd
      have pm : (([diO 1 p dd] : Own).map (·.2.1) ++ (lawOwn K 3 L C (initS n) (initS n)).map (·.2.1)).Perm ((lawOwn K 1000 L C (initS n) (initS n)).map (·.2.1) ++ ([diO 1 p dd] : Own).map (·.2.1)) := List.perm_append_comm
      exact pm.nodup_iff.mpr nd
  · subst ho
    have S : Sta (fun _ => none) H (enL C) (diO 1 p dd :: lawOwn K 3 L C (initS n) (initS n)) σ H' := S
    refine s_setD 4 S okd (dc_offc (M := 250) T (hr.mono (by decide)) (fun dd => rv_var (i := 1) List.mem_cons_self) (by decide) (by decide)) (fun d dd1 σ H' ⟨tm, htm, hd⟩ ok1 S => ?_) (by decide) (fun q hq => lw_slots (dd := dd) (p := p) (by decide) (by decide) (by decide) q (List.mem_cons_of_mem _ hq)) sc_law.nd
    subst hd
    exact law_early T TB hr Tb cv n1 n5 ok1 htm q S
end
end JH
set_option Elab.async false
set_option linter.all false
set_option maxRecDepth 100000
set_option maxHeartbeats 0
namespace JH
open PySem PySem.Spec PyProof.Rows L2
theorem ends {P : Program} {w : World} {K : PySem.W.Frag} {h : Heap} {mg : Str → Option Value} {f : Addr} (X : K.In h) (G : h.Ns mainGlobals mg) (hfa : mg ("law" : Str) = some (.ref f)) (c : He.SaysX fa fn ts tf exB w h K) :
    ∃ fd : FuncData, (∀ (s : Shared) (v : Value), BindsTo s fd ⟨[v], []⟩ [("_law_script", v)]) ∧ ∀ base : Heap, K.In base → base.Ns mainGlobals mg → (∀ p ∈ [(cdA K, tbA K)], LamX.TabB base mg p.1 p.2) → FnOk P w K mg base CX0 11 f fd ["_law_script"] (spLaw K) := by
  have T : Tx w K mg := ⟨c.t, c.more, h, X, G⟩
  obtain ⟨fd, F⟩ := T.d_law
  have e := hfa.symm.trans T.g_law
  cases e
  have b := FunD.bindsA (ps := ["_law_script"]) F b_law
  exact ⟨fd, fun s v => b s [v] rfl, fun base _ _ TB => ok_law T (TB _ List.mem_cons_self) F⟩
end JH
open PySem PySem.W PySem.Calls PyProof.Rows
theorem PySem.Challenge.cw_judgehall_k20_whole_many_tries_judged_holds : PySem.Challenge.rw_judgehall_k20_whole_many_tries_judged.Holds := by
  w_on; o_law
  refine HandSHeadRun.head_any (r := OpenLaw.row PySem.Challenge.rw_judgehall_k20_whole_many_tries_judged) (q := view (OpenLaw.row PySem.Challenge.rw_judgehall_k20_whole_many_tries_judged).prog [96]) (H := JH.hk) (ob := JH.ob) (M := 8000) (loose := JH.loose) (d := HandSHeadRun.topDef (OpenLaw.row PySem.Challenge.rw_judgehall_k20_whole_many_tries_judged).prog 96) (kwd := []) JH.ob_eq
    (by kernel_rfl) (fun s => by kernel_rfl) JH.run (by kernel_rfl) (by kernel_rfl) (by kernel_rfl) (by rfl) (by first | assumption | decide +kernel) (by decide +kernel) ⟨rfl, rfl, rfl, rfl, rfl, by decide +kernel⟩ ?hw ?hc
  case hw => w_witness2
  case hc =>
    refine LamX.walk_ofTsE (l := PySem.Challenge.rw_judgehall_k20_whole_many_tries_judged) (n := 63) (k := 11) (x := "_law_script") (CX := fun _ => L2.CX0) rfl (by decide) (by kernel_rfl) ⟨rfl, by decide, by decide⟩ ?F (fun _ _ _ _ _ z => z)
    intro w mg fa h Y G hmg0
    obtain ⟨K, KX, c⟩ := Y
    have hmg : mg ("law" : PySem.Str) = some (.ref fa) := by
      have e : (HandSHeadRun.topDef (OpenLaw.row PySem.Challenge.rw_judgehall_k20_whole_many_tries_judged).prog 96).name = ("law" : PySem.Str) := by kernel_rfl
      rw [← e]
      exact hmg0
    obtain ⟨fd, hb, hF⟩ := JH.ends (P := (PySem.Challenge.rw_judgehall_k20_whole_many_tries_judged).prog) (w := w) KX G hmg c
    have hp : (("placed", none) : He.Defn) ∈ JH.tf := List.mem_cons_self
    refine ⟨K, KX, fd, [(JH.cdA K, JH.tbA K)], JH.spLaw K, fun p hq => ?_, fun p hq => ?_, fun p hq => ?_, hb, fun H a ns hl _ hH hS => ⟨a, ns, rfl, hS, hl, LamX.TabS.nil (hH _ List.mem_cons_self), fun _ => rfl⟩, hF⟩
    · rw [List.mem_singleton.mp hq]
      exact c.empty _ hp
    · rw [List.mem_singleton.mp hq]
      exact c.out _ hp
    · rw [List.mem_singleton.mp hq]
      exact PySem.W.codeHd_of_K KX (c.hd _ hp)
