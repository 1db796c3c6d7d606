import PyProof.Rows.All
import Wide.All
import OpenK.AllK
import Wide.FinOn
import KE.KStateDown
import Lean
import HandS.ForMost
import HandS.WordsExc
import HandS.Defaults
import HandS.Flow
import HandS.Deep
import HandS.IsInst
import HandS.Wide
import HandS.SortInts
import HandS.Style
import HandS.TupLe
import HandS.TupAny
import HandS.DictComp
import HandS.Star
import HandS.Zip
import HandS.Walk
import HandS.Conv
import HandS.Rev
import HandS.RevRange
import HandS.More
import HandS.Head0
import HandS.Head1
import HandS.Head2
import HandS.HeadEnd
import HandS.HeadHook1
import HandS.HeadHook2
import KE.SortData
import KE.KDictKeyed
import KE.KDictDisplayH
import KE.GoesMore
import KE.GoesEnum
import PyProof.Draws
import PyProof.ReprRoads
import PyProof.DictUpdate
import PySem.Challenge.RW_doublecut_k97_whole_common_and_least_ste

section
set_option Elab.async false
set_option linter.all false
set_option maxRecDepth 100000
set_option maxHeartbeats 4000000

namespace DC
open PySem PySem.Spec PyProof.Rows L2
def top (i : Nat) : Stmt := PySem.Challenge.pw_doublecut_k97_whole_common_and_least_ste.main.body.getD i (.Pass ⟨0, 0, 0, 0⟩)
abbrev s_is_whole : Stmt := top 10
abbrev s_is_joint : Stmt := top 11
abbrev s_wrong_place : Stmt := top 12
abbrev s_need_lay : Stmt := top 13
abbrev s_need_two : Stmt := top 14
abbrev s_need_link : Stmt := top 15
abbrev s_fellow_of : Stmt := top 16
abbrev s_joint_of : Stmt := top 17
abbrev s_mates_in : Stmt := top 18
abbrev s_free_in : Stmt := top 19
abbrev s_lay_with : Stmt := top 20
abbrev s_is_order : Stmt := top 21
abbrev s_renamed : Stmt := top 22
abbrev s_without : Stmt := top 23
abbrev s_beside : Stmt := top 24
abbrev s_doubles_of : Stmt := top 27
abbrev s_steps_in : Stmt := top 28
abbrev s_has_form : Stmt := top 29
abbrev s_is_step_in : Stmt := top 30
abbrev s_after : Stmt := top 31
abbrev s_step_between : Stmt := top 32
abbrev s_row_from : Stmt := top 38
abbrev s_rows_in : Stmt := top 39
abbrev s_kind_of : Stmt := top 40
abbrev s_pieces_in : Stmt := top 41
abbrev s_cost_of : Stmt := top 42
abbrev s_cost_in : Stmt := top 43
abbrev s_pieces : Stmt := top 44
abbrev s_least_steps : Stmt := top 46
abbrev s_is_between : Stmt := top 47
abbrev s_wrong_step : Stmt := top 50
abbrev s_need_history : Stmt := top 51
abbrev s_lays_in_turn : Stmt := top 52
abbrev s_end_of : Stmt := top 53
abbrev s_last_lay : Stmt := top 54
abbrev s_lays_along : Stmt := top 55
abbrev s_plain_history : Stmt := top 56
abbrev s_good_steps_in : Stmt := top 58
abbrev s_one_in : Stmt := top 60
abbrev s_a_least : Stmt := top 61
abbrev s_common : Stmt := top 63
abbrev s__law_mixed : Stmt := top 65
abbrev s__law_folded : Stmt := top 66
abbrev s__law_draw : Stmt := top 67
abbrev s__law_begun : Stmt := top 68
abbrev s__law_like : Stmt := top 69
abbrev s__law_of : Stmt := top 70
abbrev s__law_shuffled : Stmt := top 71
abbrev s__law_lay : Stmt := top 72
abbrev s__law_pair : Stmt := top 73
abbrev s__law_mates : Stmt := top 74
abbrev s__law_free : Stmt := top 75
abbrev s__law_steps : Stmt := top 76
abbrev s__law_after : Stmt := top 77
abbrev s__law_far : Stmt := top 78
abbrev s__law_between_right : Stmt := top 79
abbrev s__law_common_right : Stmt := top 80
abbrev s__law_moved_right : Stmt := top 81
abbrev s_law : Stmt := top 82
abbrev FnP (K : PySem.W.Frag) (x : Str) (st : Stmt) (f : Addr) (fd : FuncData) : Prop := FunD K x x (defArgs st) (defBody st) (defScope st) [] [] f fd
end DC
end

section
/-! The program's functions as plain functions over lists of numbers. -/
namespace DC
abbrev Jt := Nat × Nat
abbrev Lay := Nat × List Jt
abbrev Stp := List Jt × List Jt
/-- the joint of two ends -/
def jt (a b : Nat) : Jt := if a < b then (a, b) else (b, a)
/-- the order of joints -/
def leJ (a b : Jt) : Bool := decide (a.1 < b.1 ∨ (a.1 = b.1 ∧ a.2 ≤ b.2))
def sortJ (l : List Jt) : List Jt := l.mergeSort leJ
/-- the ends of joints -/
def ends : List Jt → List Nat
  | [] => []
  | j :: l => j.1 :: j.2 :: ends l
/-- joints of m ends: pairs that rise, no end twice, rising -/
structure GoodJ (m : Nat) (J : List Jt) : Prop where
  lt : ∀ j ∈ J, j.1 < j.2 ∧ j.2 < m
  nd : (ends J).Nodup
  up : J.Pairwise fun a b => a.1 < b.1
structure GoodL (l : Lay) : Prop where
  pos : 1 ≤ l.1
  few : l.1 ≤ 12
  j : GoodJ (2 * l.1) l.2
/-- the mates' list, as the program fills it -/
def putM (l : List (Option Nat)) (j : Jt) : List (Option Nat) := (l.set j.1 (some j.2)).set j.2 (some j.1)
def matesL (l : Lay) : List (Option Nat) := l.2.foldl putM (List.replicate (2 * l.1) none)
def freeL (l : Lay) : List Nat := (List.range (2 * l.1)).filter fun e => (matesL l)[e]? == some none
def layW (n : Nat) (J : List Jt) : Lay := (n, sortJ J)
/-! steps -/
def doublesL (a b : Jt) : List Stp := [([a, b], sortJ [jt a.1 b.1, jt a.2 b.2]), ([a, b], sortJ [jt a.1 b.2, jt a.2 b.1])]
def cutsL (free : List Nat) (a : Jt) : List Stp := ([a], []) :: (free.map fun z => ([a], [jt a.1 z])) ++ (free.map fun z => ([a], [jt a.2 z]))
def turnJ (free : List Nat) (J : List Jt) (i : Nat) : List Stp := match J[i]? with
  | none => []
  | some a => cutsL free a ++ (J.drop (i + 1)).flatMap (doublesL a)
def turnF (F : List Nat) (i : Nat) : List Stp := match F[i]? with
  | none => []
  | some a => (F.drop (i + 1)).map fun b => (([] : List Jt), [(a, b)])
def stepsL (l : Lay) : List Stp := (List.range l.2.length).flatMap (turnJ (freeL l) l.2) ++ (List.range (freeL l).length).flatMap (turnF (freeL l))
def afterL (l : Lay) (s : Stp) : Lay := (l.1, sortJ (l.2.filter (fun j => !decide (j ∈ s.1)) ++ s.2))
/-! histories -/
def laysL (l : Lay) : List Stp → List Lay
  | [] => [l]
  | s :: h => l :: laysL (afterL l s) h
def endL (l : Lay) : List Stp → Lay
  | [] => l
  | s :: h => endL (afterL l s) h
/-- each step is one of the lay there -/
def HistL (l : Lay) : List Stp → Prop
  | [] => True
  | s :: h => s ∈ stepsL l ∧ HistL (afterL l s) h
def cutL (a b : Lay) : List Jt := a.2.filter fun j => !decide (j ∈ b.2)
def plainL (a b : Lay) : List Stp := (cutL a b).map (fun j => ([j], [])) ++ (cutL b a).map (fun j => ([], [j]))
/-! webs -/
/-- the row from an end on: x was reached by the lay whose mates are ahead -/
def rowGo (b : Nat) : Nat → List (Option Nat) → List (Option Nat) → Option Nat → List Nat
  | 0, _, _, _ => []
  | _ + 1, _, _, none => []
  | k + 1, m, m', some x => if x = b then [] else x :: rowGo b k m' m ((m'[x]?).join)
/-- the row of b, first by m -/
def rowL (k : Nat) (m m' : List (Option Nat)) (b : Nat) : List Nat := b :: rowGo b k m m' ((m[b]?).join)
def isFree (m : List (Option Nat)) (e : Nat) : Bool := (m[e]?).join.isNone
/-- the row that rows_in begins with an end -/
def rowAt (m m' : List (Option Nat)) (e : Nat) : List Nat := if isFree m e then rowL (m.length + 1) m' m e else rowL (m.length + 1) m m' e
def rowsGo (m m' : List (Option Nat)) : List Nat → List Nat → List (List Nat) → List (List Nat)
  | [], _, acc => acc
  | e :: es, taken, acc => if e ∈ taken then rowsGo m m' es taken acc else rowsGo m m' es (taken ++ rowAt m m' e) (acc ++ [rowAt m m' e])
def lastsL (m m' : List (Option Nat)) (k : Nat) : List Nat := (List.range k).filter fun e => isFree m e || isFree m' e
def rowsL (a b : Lay) : List (List Nat) := rowsGo (matesL a) (matesL b) (lastsL (matesL a) (matesL b) (2 * a.1) ++ List.range (2 * a.1)) [] []
/-- kinds: 0 ring, 1 odd, 2 open, 3 shut -/
def kindL (m m' : List (Option Nat)) (r : List Nat) : Fin 4 := match r with
  | [] => 0
  | e :: _ => if !isFree m e && !isFree m' e then 0 else if r.length % 2 = 1 then 1 else if isFree m e then 2 else 3
def pieceL (a b : Lay) (r : List Nat) : Fin 4 × Nat := (kindL (matesL a) (matesL b) r, r.length)
def costP (p : Fin 4 × Nat) : Int := ((p.2 / 2 : Nat) : Int) - (if p.1 = 0 then 1 else 0)
def piecesL (a b : Lay) : List (Fin 4 × Nat) := (rowsL a b).map (pieceL a b)
def costL (a b : Lay) : Int := ((piecesL a b).map costP).sum
/-! what is in common -/
def commonL (a b : Lay) : Nat := 2 * (a.2.filter fun j => decide (j ∈ b.2)).length + ((freeL a).filter fun e => decide (e ∈ freeL b)).length
/-! renamed, without, beside -/
def nameE (o : List Int) (e : Nat) : Nat := match o[e / 2]? with
  | some z => let near := 2 * (z.natAbs - 1) + (if z < 0 then 1 else 0); if e % 2 = 0 then near else (if near % 2 = 0 then near + 1 else near - 1)
  | none => 0
def renameL (l : Lay) (o : List Int) : Lay := (l.1, sortJ (l.2.map fun j => jt (nameE o j.1) (nameE o j.2)))
def lowE (k e : Nat) : Nat := if 2 * k + 1 < e then e - 2 else e
def keptL (l : Lay) (k : Nat) : List Jt :=
  let kept := l.2.filter fun j => !(j.1 = 2 * k ∨ j.1 = 2 * k + 1 : Bool) && !(j.2 = 2 * k ∨ j.2 = 2 * k + 1 : Bool)
  match ((matesL l)[2 * k]?).join, ((matesL l)[2 * k + 1]?).join with
  | some x, some y => if x = 2 * k ∨ x = 2 * k + 1 then kept else kept ++ [jt x y]
  | _, _ => kept
def withoutL (l : Lay) (k : Nat) : Lay := (l.1 - 1, sortJ ((keptL l k).map fun j => (lowE k j.1, lowE k j.2)))
def besideL (a b : Lay) : Lay := (a.1 + b.1, sortJ (a.2 ++ b.2.map fun j => (j.1 + 2 * a.1, j.2 + 2 * a.1)))
end DC
end

section
set_option Elab.async false
set_option linter.all false
set_option maxRecDepth 100000
set_option maxHeartbeats 4000000
namespace DC
open PySem PySem.Spec PyProof.Rows L2
/-! ### data made of tuples: what a value reads as, over the abstract heap -/
mutual
inductive TD (H : Hp) : V → PyData → Prop
  | non : TD H .non .none
  | bl (b : Bool) : TD H (.bl b) (.bool b)
  | int (i : Int) : TD H (.int i) (.int i)
  | str (x : Str) : TD H (.str x) (.str x)
  | tup {a : Addr} {xs : List V} {ds : List PyData} : H a = some (.tup xs) → TDs H xs ds → TD H (.ref a) (.tuple ds)
inductive TDs (H : Hp) : List V → List PyData → Prop
  | nil : TDs H [] []
  | cons {v : V} {vs : List V} {d : PyData} {ds : List PyData} : TD H v d → TDs H vs ds → TDs H (v :: vs) (d :: ds)
end
/-- tuples stand -/
def TupS (H H' : Hp) : Prop := ∀ a xs, H a = some (.tup xs) → H' a = some (.tup xs)
theorem TupS.refl (H : Hp) : TupS H H := fun _ _ h => h
theorem TupS.trans {H H1 H2 : Hp} (a : TupS H H1) (b : TupS H1 H2) : TupS H H2 := fun x xs h => b x xs (a x xs h)
theorem sameTup {H H' : Hp} (s : Same H H') : TupS H H' := fun a xs h => s a _ h
theorem same_upd {H : Hp} {p : Addr} {o : HO} (h : H p = none) : Same H (upd H p o) := fun b x e => by
  rw [upd_ne (ne_of_none e h)]
  exact e
theorem tupS_upd {H : Hp} {p : Addr} {o : HO} (h : ∀ xs, H p ≠ some (.tup xs)) : TupS H (upd H p o) := fun b xs e => by
  have : b ≠ p := fun q => h xs (q ▸ e)
  rw [upd_ne this]
  exact e
theorem tupS_lst {H : Hp} {p : Addr} {o : HO} {ys : List V} (h : H p = some (.lst ys)) : TupS H (upd H p o) := tupS_upd fun xs q => by
  rw [h] at q
  cases q
/-- an object that is younger than H0 changes -/
theorem samePut {H0 H : Hp} {p : Addr} {o : HO} (s : Same H0 H) (h : H0 p = none) : Same H0 (upd H p o) := fun b x e => by
  rw [upd_ne (ne_of_none e h)]
  exact s b x e
mutual
theorem TD.mono {H H' : Hp} (t : TupS H H') : ∀ (d : PyData) (v : V), TD H v d → TD H' v d
  | .none, _, h => by cases h; exact .non
  | .bool _, _, h => by cases h; exact .bl _
  | .int _, _, h => by cases h; exact .int _
  | .str _, _, h => by cases h; exact .str _
  | .tuple ds, _, h => by
    cases h with
    | tup h1 h2 => exact .tup (t _ _ h1) (TDs.mono t ds _ h2)
  | .list _, _, h => by cases h
  | .dict _, _, h => by cases h
theorem TDs.mono {H H' : Hp} (t : TupS H H') : ∀ (ds : List PyData) (vs : List V), TDs H vs ds → TDs H' vs ds
  | [], _, h => by cases h; exact .nil
  | d :: ds, _, h => by
    cases h with
    | cons h1 h2 => exact .cons (TD.mono t d _ h1) (TDs.mono t ds _ h2)
end
theorem TD.to {H H' : Hp} {v : V} {d : PyData} (h : TD H v d) (t : TupS H H') : TD H' v d := TD.mono t d v h
theorem TDs.to {H H' : Hp} {vs : List V} {ds : List PyData} (h : TDs H vs ds) (t : TupS H H') : TDs H' vs ds := TDs.mono t ds vs h
theorem TD.by {H H' : Hp} {v : V} {d : PyData} (h : TD H v d) (t : Same H H') : TD H' v d := h.to (sameTup t)
theorem TDs.by {H H' : Hp} {vs : List V} {ds : List PyData} (h : TDs H vs ds) (t : Same H H') : TDs H' vs ds := h.to (sameTup t)
mutual
theorem TD.dp {K : PySem.W.Frag} {H : Hp} : ∀ (d : PyData) (v : V), TD H v d → Dp K H v d
  | .none, _, h => by cases h; exact .non
  | .bool _, _, h => by cases h; exact .bl _
  | .int _, _, h => by cases h; exact .int _
  | .str _, _, h => by cases h; exact .str _
  | .tuple ds, _, h => by
    cases h with
    | tup h1 h2 => exact .tup (SqT.of h1) (TDs.dps ds _ h2)
  | .list _, _, h => by cases h
  | .dict _, _, h => by cases h
theorem TDs.dps {K : PySem.W.Frag} {H : Hp} : ∀ (ds : List PyData) (vs : List V), TDs H vs ds → DpAll K H vs ds
  | [], _, h => by cases h; exact .nil
  | d :: ds, _, h => by
    cases h with
    | cons h1 h2 => exact .cons (TD.dp d _ h1) (TDs.dps ds _ h2)
end
theorem TD.tupI {H : Hp} {v : V} {ds : List PyData} (h : TD H v (.tuple ds)) : ∃ a xs, v = .ref a ∧ H a = some (.tup xs) ∧ TDs H xs ds := by
  cases h with
  | tup h1 h2 => exact ⟨_, _, rfl, h1, h2⟩
theorem TD.intI {H : Hp} {v : V} {i : Int} (h : TD H v (.int i)) : v = .int i := by cases h; rfl
theorem TD.strI {H : Hp} {v : V} {i : Str} (h : TD H v (.str i)) : v = .str i := by cases h; rfl
theorem TDs.nilI {H : Hp} {vs : List V} (h : TDs H vs []) : vs = [] := by cases h; rfl
theorem TDs.consI {H : Hp} {vs : List V} {d : PyData} {ds : List PyData} (h : TDs H vs (d :: ds)) : ∃ v r, vs = v :: r ∧ TD H v d ∧ TDs H r ds := by
  cases h with
  | cons h1 h2 => exact ⟨_, _, rfl, h1, h2⟩
theorem TDs.len {H : Hp} : ∀ {ds : List PyData} {vs : List V}, TDs H vs ds → vs.length = ds.length
  | [], _, h => by cases h; rfl
  | d :: ds, _, h => by
    cases h with
    | cons h1 h2 => rw [List.length_cons, List.length_cons, TDs.len h2]
theorem TDs.get {H : Hp} : ∀ {ds : List PyData} {vs : List V} {i : Nat} {x : V}, TDs H vs ds → vs[i]? = some x → ∃ d, ds[i]? = some d ∧ TD H x d
  | [], _, i, _, h, e => by cases h; simp at e
  | d :: ds, _, 0, _, h, e => by
    cases h with
    | cons h1 h2 =>
      simp at e
      subst e
      exact ⟨d, by simp, h1⟩
  | d :: ds, _, i + 1, _, h, e => by
    cases h with
    | cons h1 h2 =>
      simp at e
      obtain ⟨d', e1, e2⟩ := TDs.get h2 e
      exact ⟨d', by simpa using e1, e2⟩
theorem TDs.at {H : Hp} {ds : List PyData} {vs : List V} {i : Nat} {d : PyData} (h : TDs H vs ds) (e : ds[i]? = some d) : ∃ x, vs[i]? = some x ∧ TD H x d := by
  have hl := h.len
  obtain ⟨hi, _⟩ := List.getElem?_eq_some_iff.mp e
  have hx : vs[i]? = some (vs[i]'(by omega)) := List.getElem?_eq_getElem (by omega)
  obtain ⟨d', e1, e2⟩ := h.get hx
  rw [e] at e1
  cases e1
  exact ⟨_, hx, e2⟩
theorem TDs.app {H : Hp} : ∀ {ds es : List PyData} {vs us : List V}, TDs H vs ds → TDs H us es → TDs H (vs ++ us) (ds ++ es)
  | [], _, _, _, h, k => by cases h; exact k
  | d :: ds, _, _, _, h, k => by
    cases h with
    | cons h1 h2 => exact .cons h1 (TDs.app h2 k)
theorem TDs.one {H : Hp} {v : V} {d : PyData} (h : TD H v d) : TDs H [v] [d] := .cons h .nil
theorem TDs.snoc {H : Hp} {vs : List V} {ds : List PyData} {v : V} {d : PyData} (h : TDs H vs ds) (k : TD H v d) : TDs H (vs ++ [v]) (ds ++ [d]) := h.app (.one k)
theorem TDs.drop {H : Hp} : ∀ {ds : List PyData} {vs : List V} (n : Nat), TDs H vs ds → TDs H (vs.drop n) (ds.drop n)
  | _, _, 0, h => h
  | [], _, n + 1, h => by cases h; exact .nil
  | d :: ds, _, n + 1, h => by
    cases h with
    | cons h1 h2 => exact TDs.drop n h2
theorem TDs.take {H : Hp} : ∀ {ds : List PyData} {vs : List V} (n : Nat), TDs H vs ds → TDs H (vs.take n) (ds.take n)
  | _, _, 0, h => .nil
  | [], _, n + 1, h => by cases h; exact .nil
  | d :: ds, _, n + 1, h => by
    cases h with
    | cons h1 h2 => exact .cons h1 (TDs.take n h2)
theorem TDs.rev {H : Hp} : ∀ {ds : List PyData} {vs : List V}, TDs H vs ds → TDs H vs.reverse ds.reverse
  | [], _, h => by cases h; exact .nil
  | d :: ds, _, h => by
    cases h with
    | cons h1 h2 =>
      rw [List.reverse_cons, List.reverse_cons]
      exact h2.rev.snoc h1
theorem tds_ints {H : Hp} : ∀ ns : List Int, TDs H (ns.map V.int) (ns.map PyData.int)
  | [] => .nil
  | n :: ns => .cons (.int n) (tds_ints ns)
theorem tds_ints_inv {H : Hp} : ∀ {ns : List Int} {vs : List V}, TDs H vs (ns.map PyData.int) → vs = ns.map V.int
  | [], _, h => by cases h; rfl
  | n :: ns, _, h => by
    obtain ⟨v, r, rfl, h1, h2⟩ := TDs.consI h
    rw [h1.intI, tds_ints_inv h2]
    rfl

/-! ### encoders -/
/-- a type whose members are read as data by e: equal data are equal members, all are alike, of depth n at most -/
structure Enc {α : Type} [DecidableEq α] (e : α → PyData) (n : Nat) : Prop where
  eqv : ∀ a b, PyData.eqv (e a) (e b) = decide (a = b)
  alike : ∀ a b, PySem.W.alike (e a) (e b) = true
  lay : ∀ a, (e a).canLay0 = true
  dep : ∀ a, (e a).depth ≤ n
section
variable {α β : Type} [DecidableEq α] [DecidableEq β] {e : α → PyData} {f : β → PyData} {n m : Nat}
theorem Enc.mono (E : Enc e n) (h : n ≤ m) : Enc e m := ⟨E.eqv, E.alike, E.lay, fun a => Nat.le_trans (E.dep a) h⟩
theorem Enc.shaped (E : Enc e n) (h : n ≤ 64) (a : α) : SeqAt.shaped (e a) = true := by
  show ((e a).canLay0 && decide ((e a).depth ≤ 64)) = true
  rw [Bool.and_eq_true]
  exact ⟨E.lay a, decide_eq_true (Nat.le_trans (E.dep a) h)⟩
def eNat : Nat → PyData := fun n => .int n
def eInt : Int → PyData := .int
def eStr : Str → PyData := .str
def eP (e : α → PyData) (f : β → PyData) : α × β → PyData := fun p => .tuple [e p.1, f p.2]
def eT (e : α → PyData) : List α → PyData := fun l => .tuple (l.map e)
theorem enc_int : Enc eInt 0 := ⟨fun a b => by unfold eInt; simp only [PyData.eqv]; exact Bool.beq_eq_decide_eq a b, fun a b => by unfold eInt; simp [PySem.W.alike], fun a => by unfold eInt; simp [PyData.canLay0], fun a => by unfold eInt; simp [PyData.depth]⟩
theorem enc_nat : Enc eNat 0 := ⟨fun a b => by
  unfold eNat; simp only [PyData.eqv]
  rw [Bool.beq_eq_decide_eq]
  by_cases h : a = b
  · subst h; simp
  · have : ¬ ((a : Int) = (b : Int)) := fun q => h (by omega)
    rw [decide_eq_false h, decide_eq_false this], fun a b => by unfold eNat; simp [PySem.W.alike], fun a => by unfold eNat; simp [PyData.canLay0], fun a => by unfold eNat; simp [PyData.depth]⟩
theorem enc_P (E : Enc e n) (F : Enc f n) : Enc (eP e f) (n + 1) := by
  refine ⟨fun a b => ?_, fun a b => ?_, fun a => ?_, fun a => ?_⟩
  · unfold eP
    simp only [PyData.eqv, PyData.eqvAll, E.eqv, F.eqv, Bool.and_true]
    obtain ⟨a1, a2⟩ := a
    obtain ⟨b1, b2⟩ := b
    by_cases h1 : a1 = b1 <;> by_cases h2 : a2 = b2 <;> simp [h1, h2]
  · unfold eP
    simp only [PySem.W.alike, PySem.W.alikeAll, E.alike, F.alike, Bool.and_true]
  · unfold eP
    simp only [PyData.canLay0, PyData.canLayAll0, E.lay, F.lay, Bool.and_true]
  · unfold eP
    have h1 := E.dep a.1
    have h2 := F.dep a.2
    simp only [PyData.depth, PyData.depthAll]
    omega
theorem eqvAll_map (E : Enc e n) : ∀ a b : List α, PyData.eqvAll (a.map e) (b.map e) = decide (a = b)
  | [], [] => by simp [PyData.eqvAll]
  | [], _ :: _ => by simp [PyData.eqvAll]
  | _ :: _, [] => by simp [PyData.eqvAll]
  | x :: a, y :: b => by
    simp only [List.map_cons, PyData.eqvAll, E.eqv, eqvAll_map E a b]
    by_cases h1 : x = y <;> by_cases h2 : a = b <;> simp [h1, h2]
theorem alikeAll_map (E : Enc e n) : ∀ a b : List α, PySem.W.alikeAll (a.map e) (b.map e) = true
  | [], _ => by simp [PySem.W.alikeAll]
  | _ :: _, [] => by simp [PySem.W.alikeAll]
  | x :: a, y :: b => by
    simp only [List.map_cons, PySem.W.alikeAll, E.alike, alikeAll_map E a b, Bool.and_true]
theorem layAll_map (E : Enc e n) : ∀ a : List α, PyData.canLayAll0 (a.map e) = true
  | [] => by simp [PyData.canLayAll0]
  | x :: a => by simp only [List.map_cons, PyData.canLayAll0, E.lay, layAll_map E a, Bool.and_true]
theorem depthAll_map (E : Enc e n) : ∀ a : List α, PyData.depthAll (a.map e) ≤ n
  | [] => by simp [PyData.depthAll]
  | x :: a => by
    have h1 := E.dep x
    have h2 := depthAll_map E a
    simp only [List.map_cons, PyData.depthAll]
    omega
theorem enc_T (E : Enc e n) : Enc (eT e) (n + 1) := by
  refine ⟨fun a b => ?_, fun a b => ?_, fun a => ?_, fun a => ?_⟩
  · unfold eT
    simp only [PyData.eqv]
    exact eqvAll_map E a b
  · unfold eT
    simp only [PySem.W.alike]
    exact alikeAll_map E a b
  · unfold eT
    simp only [PyData.canLay0]
    exact layAll_map E a
  · unfold eT
    have h2 := depthAll_map E a
    simp only [PyData.depth]
    omega
theorem any_eqv (E : Enc e n) (b : α) : ∀ l : List α, ((l.map e).any fun z => PyData.eqv z (e b)) = decide (b ∈ l)
  | [] => by simp
  | x :: l => by
    simp only [List.map_cons, List.any_cons, any_eqv E b l, E.eqv]
    by_cases h1 : x = b
    · subst h1; simp
    · have h2 : b ≠ x := fun q => h1 q.symm
      simp [h1, h2]
theorem allAlike_map (E : Enc e n) (l : List α) : PySem.W.AllAlike (l.map e) := PySem.W.AllAlike.of E.alike
end

/-! ### joints, lays, steps, histories -/
def eJ : Jt → PyData := eP eNat eNat
def eJs : List Jt → PyData := eT eJ
def eL : Lay → PyData := eP eNat eJs
def eS : Stp → PyData := eP eJs eJs
def eH : List Stp → PyData := eT eS
def eRow : List Nat → PyData := eT eNat
theorem enc_J : Enc eJ 1 := enc_P enc_nat enc_nat
theorem enc_Js : Enc eJs 2 := enc_T enc_J
theorem enc_L : Enc eL 3 := enc_P (enc_nat.mono (by omega)) enc_Js
theorem enc_S : Enc eS 3 := enc_P enc_Js enc_Js
theorem enc_H : Enc eH 4 := enc_T enc_S
theorem enc_Row : Enc eRow 1 := enc_T enc_nat
theorem srt_J (l : List Jt) : PySem.W.Sortable (l.map eJ) := .inl fun d hd => by
  obtain ⟨b, _, rfl⟩ := List.mem_map.mp hd
  exact ⟨_, _, rfl⟩
theorem srt_S (l : List Stp) : PySem.W.Sortable (l.map eS) := .inl fun d hd => by
  obtain ⟨b, _, rfl⟩ := List.mem_map.mp hd
  exact ⟨_, _, rfl⟩

/-! ### sorted(xs), xs a list of data -/
def rSortedE (K : PySem.W.Frag) {α : Type} (e : α → PyData) : List V → Hp → VK → Prop := fun vs H Q => ∃ (a : Addr) (xs : List V) (l : List α), vs = [V.ref a] ∧ SqL K H a xs ∧ TDs H xs (l.map e) ∧ PySem.W.Sortable (l.map e) ∧
  ∀ (ys : List V) (p : Addr), H p = none → TDs H ys ((l.mergeSort (PySem.W.dataLe false e)).map e) → Q (.ref p) (upd H p (.lst ys))
theorem each_of {K : PySem.W.Frag} {X : Cx} {pins : List (Addr × Obj)} {σ : L2.St} {H : Hp} {s : Shared} {α : Type} {e : α → PyData} : ∀ {l : List α} {xs : List V} {its : List Value}, TDs H xs (l.map e) → Vals xs its →
    PySem.W.EachIs (fun v (b : α) => ∃ x : V, RelV x v ∧ TD H x (e b)) its l
  | [], _, _, h, r => by
    cases h
    cases r
    exact .nil
  | b :: l, _, _, h, r => by
    obtain ⟨v, rr, rfl, h1, h2⟩ := TDs.consI h
    cases r with
    | cons r1 r2 => exact .cons ⟨v, r1, h1⟩ (each_of (K := K) (X := X) (pins := pins) (σ := σ) (s := s) h2 r2)
theorem of_each {H : Hp} {α : Type} {e : α → PyData} : ∀ {l : List α} {its : List Value}, PySem.W.EachIs (fun v (b : α) => ∃ x : V, RelV x v ∧ TD H x (e b)) its l → ∃ ys : List V, Vals ys its ∧ TDs H ys (l.map e)
  | _, _, .nil => ⟨[], .nil, .nil⟩
  | _, _, .cons ⟨x, r, t⟩ h => by
    obtain ⟨ys, h1, h2⟩ := of_each h
    exact ⟨x :: ys, .cons r h1, .cons t h2⟩
theorem cr_sortedE {X : Cx} {α : Type} [DecidableEq α] {e : α → PyData} {n : Nat} (E : Enc e n) (hn : n ≤ 8) (hu : X.A.units + 64 < cLine) : CallR X (.builtin "sorted") (rSortedE X.K e) := by
  intro pins s σ H vs us Q I r h
  obtain ⟨a, xs, l, rfl, hs, ht, hk, q⟩ := h
  obtain ⟨its, rv, hl, hz⟩ := I.list hs
  rw [Vals.ref1 r]
  have hlen : l.length ≤ sizeLine := by
    have := ht.len
    rw [List.length_map] at this
    omega
  have ea := each_of (K := X.K) (X := X) (pins := pins) (σ := σ) (s := s) ht rv
  refine PySem.W.sorted_data (enc := e) (R := fun v (b : α) => ∃ x : V, RelV x v ∧ TD H x (e b)) hl.isList ea (ea.mono fun v b ⟨x, rx, tx⟩ => Dp.reads I _ x v (TD.dp _ _ tx) rx) (allAlike_map E l) hk hlen (fun b _ => ?_) fun out ho eo => ?_
  · have := E.dep b
    omega
  · obtain ⟨ys, h1, h2⟩ := of_each eo
    obtain ⟨ep, he'⟩ := PyProof.Rows.sortedAll_at s.heap its out.toArray
    have hz2 : ys.length ≤ sizeLine := by
      rw [h1.length, ho]
      exact hlen
    exact ⟨.ref _, upd H (s.heap.objs.size + 1) (.lst ys), I.laid (t' := s.toks) (fun _ _ => PyProof.Rows.sortedAll_old) (Nat.le_succ _) ⟨hz2, out, ep, h1, he'⟩, rfl, q _ _ (I.hok.fresh (Nat.le_succ _)) h2⟩

/-! ### x in t, x not in t: t a tuple or a list of data -/
def rInE (K : PySem.W.Frag) {α : Type} [DecidableEq α] (e : α → PyData) : R2 := fun x y H Q => ∃ (a : Addr) (xs : List V) (l : List α) (b : α), y = .ref a ∧ (SqT K H a xs ∨ SqL K H a xs) ∧ TDs H xs (l.map e) ∧ TD H x (e b) ∧ ∃ k : Bool, (k = true ↔ b ∈ l) ∧ Q (.bl k) H
def rNotInE (K : PySem.W.Frag) {α : Type} [DecidableEq α] (e : α → PyData) : R2 := fun x y H Q => ∃ (a : Addr) (xs : List V) (l : List α) (b : α), y = .ref a ∧ (SqT K H a xs ∨ SqL K H a xs) ∧ TDs H xs (l.map e) ∧ TD H x (e b) ∧ ∃ k : Bool, (k = true ↔ ¬ b ∈ l) ∧ Q (.bl k) H
theorem bool_of {k : Bool} {p : Prop} [Decidable p] (h : k = true ↔ p) : k = decide p := by
  by_cases hp : p
  · rw [h.mpr hp, decide_eq_true hp]
  · rw [decide_eq_false hp]
    cases k with
    | false => rfl
    | true => exact absurd (h.mp rfl) hp
theorem bool_not {k : Bool} {p : Prop} [Decidable p] (h : k = true ↔ ¬ p) : k = !decide p := by
  by_cases hp : p
  · rw [decide_eq_true hp]
    cases k with
    | false => rfl
    | true => exact absurd hp (h.mp rfl)
  · rw [decide_eq_false hp]
    exact h.mpr hp
theorem op_inE {X : Cx} {α : Type} [DecidableEq α] {e : α → PyData} {n : Nat} (E : Enc e n) (hn : n ≤ 8) (hu : X.A.units + 65 < cLine) : OpR X (compareOp .In) (rInE X.K e) := by
  intro pins s σ H x y v u Q I rx ry h
  obtain ⟨a, xs, l, b, rfl, hs, ht, hb, k, hk, q⟩ := h
  obtain ⟨as, r1⟩ := Dp.reads I _ x v (TD.dp _ _ hb) rx
  have ql : Q (.bl ((l.map e).any fun z => PyData.eqv z (e b))) H := by
    rw [any_eqv E]
    rw [bool_of hk] at q
    exact q
  rcases hs with hs | hs
  · obtain ⟨bs, r2⟩ := Dp.reads I (.tuple (l.map e)) (.ref a) u (.tup hs (TDs.dps _ _ ht)) ry
    exact SeqAt.in_tuple_reads r2 r1 (layAll_map E l) (E.lay b) (room_in_shaped (E.shaped (by omega) b) hu) ⟨.bl _, H, I, rfl, ql⟩
  · obtain ⟨bs, r2⟩ := Dp.reads I (.list (l.map e)) (.ref a) u (.lst hs (TDs.dps _ _ ht)) ry
    exact SeqAt.in_list_reads r2 r1 (layAll_map E l) (E.lay b) (room_in_shaped (E.shaped (by omega) b) hu) ⟨.bl _, H, I, rfl, ql⟩
theorem op_notInE {X : Cx} {α : Type} [DecidableEq α] {e : α → PyData} {n : Nat} (E : Enc e n) (hn : n ≤ 8) (hu : X.A.units + 65 < cLine) : OpR X (compareOp .NotIn) (rNotInE X.K e) := by
  intro pins s σ H x y v u Q I rx ry h
  obtain ⟨a, xs, l, b, rfl, hs, ht, hb, k, hk, q⟩ := h
  obtain ⟨as, r1⟩ := Dp.reads I _ x v (TD.dp _ _ hb) rx
  have ql : Q (.bl (!(l.map e).any fun z => PyData.eqv z (e b))) H := by
    rw [any_eqv E]
    rw [bool_not hk] at q
    exact q
  rcases hs with hs | hs
  · obtain ⟨bs, r2⟩ := Dp.reads I (.tuple (l.map e)) (.ref a) u (.tup hs (TDs.dps _ _ ht)) ry
    exact SeqAt.notIn_tuple_reads r2 r1 (layAll_map E l) (E.lay b) (room_in_shaped (E.shaped (by omega) b) hu) ⟨.bl _, H, I, rfl, ql⟩
  · obtain ⟨bs, r2⟩ := Dp.reads I (.list (l.map e)) (.ref a) u (.lst hs (TDs.dps _ _ ht)) ry
    exact SeqAt.notIn_list_reads r2 r1 (layAll_map E l) (E.lay b) (room_in_shaped (E.shaped (by omega) b) hu) ⟨.bl _, H, I, rfl, ql⟩
/-! ### == and != of data -/
def rEqE {α : Type} [DecidableEq α] (e : α → PyData) : R2 := fun x y H Q => ∃ a b : α, TD H x (e a) ∧ TD H y (e b) ∧ ∃ k : Bool, (k = true ↔ a = b) ∧ Q (.bl k) H
def rNeE {α : Type} [DecidableEq α] (e : α → PyData) : R2 := fun x y H Q => ∃ a b : α, TD H x (e a) ∧ TD H y (e b) ∧ ∃ k : Bool, (k = true ↔ ¬ a = b) ∧ Q (.bl k) H
theorem op_eqE {X : Cx} {α : Type} [DecidableEq α] {e : α → PyData} {n : Nat} (E : Enc e n) (hn : n ≤ 8) (hu : X.A.units + 64 < cLine) : OpR X (compareOp .Eq) (rEqE e) := by
  intro pins s σ H x y v u Q I rx ry h
  obtain ⟨a, b, ha, hb, k, hk, q⟩ := h
  refine op_eqD hu pins s σ H x y v u Q I rx ry ⟨_, _, TD.dp _ _ ha, TD.dp _ _ hb, E.shaped (by omega) a, E.shaped (by omega) b, ?_⟩
  rw [E.eqv]
  rw [bool_of hk] at q
  exact q
theorem op_neE {X : Cx} {α : Type} [DecidableEq α] {e : α → PyData} {n : Nat} (E : Enc e n) (hn : n ≤ 8) (hu : X.A.units + 64 < cLine) : OpR X (compareOp .NotEq) (rNeE e) := by
  intro pins s σ H x y v u Q I rx ry h
  obtain ⟨a, b, ha, hb, k, hk, q⟩ := h
  refine op_neD hu pins s σ H x y v u Q I rx ry ⟨_, _, TD.dp _ _ ha, TD.dp _ _ hb, E.shaped (by omega) a, E.shaped (by omega) b, ?_⟩
  rw [E.eqv]
  rw [bool_not hk] at q
  exact q
end DC
end

section
set_option Elab.async false
set_option linter.all false
set_option maxRecDepth 100000
set_option maxHeartbeats 4000000
namespace DC
open PySem PySem.Spec PyProof.Rows L2
/-! ### enumerate(t), t a tuple -/
set_option maxHeartbeats 1000000 in
theorem meets_enum_new1 {v : Value} {o : Obj} {Hq : Heap → Prop} (B : Begins v o Hq) :
    Meets (Builtin.«enumerate.__new__» ⟨[.type "enumerate", v], []⟩) (fun _ R s => Hq s.heap ∧
      R (.ok (.ret (.ref (s.heap.push o).objs.size)))
        { s with heap := (s.heap.push o).push { cls := .type "enumerate", data := .fields #[.none, .bool false, .ref s.heap.objs.size, rawInt 0, .none, .none] } }) :=
  .of_wp fun prog w A R s h => by
    obtain ⟨hp, g, d, tk, os⟩ := s
    obtain ⟨h1, h⟩ := h
    have hsub := sub_enumerate
    have q1 : ∀ {A' : Around} {E' : Value → Shared → Prop} {Q' : Value → Shared → Prop}, Q' (.ref hp.objs.size) ⟨hp.push o, g, d, tk, os⟩ → wpAny (model prog w) A' (pyIter v) Q' E' ⟨hp, g, d, tk, os⟩ :=
      fun q => B.iter prog w _ _ ⟨hp, g, d, tk, os⟩ _ h1 q
    wp_walk using q1
    refine wpAny_stack_any fun st => wpAny_pure ?_
    split
    · rename_i c _ _ _ _ _
      cases (c == Value.type "enumerate") <;> (wp_walk using q1; exact ⟨_, rfl, h⟩)
    · wp_walk using q1
      exact ⟨_, rfl, h⟩
section
variable {prog : Program} {w : World} {A : Around} {E : Value → Shared → Prop} {s : Shared}
theorem enum_begins1 {v : Value} {o : Obj} {Hq : Heap → Prop} {Q : Value → Shared → Prop} (B : Begins v o Hq) (h1 : Hq s.heap)
    (h : ∀ h', IsEnum h' (s.heap.objs.size + 1) s.heap.objs.size 0 .none → h'.get? s.heap.objs.size = some o →
      (∀ b u, s.heap.get? b = some u → h'.get? b = some u) → Q (.ref (s.heap.objs.size + 1)) { s with heap := h' }) :
    wpAny (model prog w) A (call (.type "enumerate") [v]) Q E s := by
  refine callType_new F.called_enumerate (by decide) (F.typeCall_enumerate_1 _) (F.newCall_enumerate_1 _) (fun obj => F.args_object_init_2 obj _) F.entry_enumerate_new
    (meets_enum_new1 B) ⟨h1, ?_⟩
  have hz : (s.heap.push o).objs.size = s.heap.objs.size + 1 := Heap.size_push ..
  show _ ∧ _
  rw [hz]
  have he := Heap.get?_push_size (s.heap.push o) (o := { cls := .type "enumerate", data := .fields #[.none, .bool false, .ref s.heap.objs.size, rawInt 0, .none, .none] }) rfl
  rw [hz] at he
  exact ⟨⟨_, he, rfl⟩, h _ he (Heap.get?_push_of_some _ (Heap.get?_push_size _ B.free)) fun b u x => Heap.get?_push_of_some _ (Heap.get?_push_of_some _ x)⟩
end
/-- the tracked tuple at a, its items in new pairs -/
def ItetG (xs : List V) (a : Addr) : It :=
  ⟨fun i H => H a = some (.tup xs) ∧ i < xs.length, fun i H v H' => ∃ T x, v = .ref T ∧ H T = none ∧ H' = upd H T (.tup [.int (i : Nat), x]) ∧ xs[i]? = some x, fun i H => H a = some (.tup xs) ∧ xs.length ≤ i⟩
theorem turn_enumT {P : Program} {w : World} {K : PySem.W.Frag} {elts : List Expr} {kk : Nat} {tpos : Pos} (xs : List V) (a e it : Addr) :
    Turn P w K (.Tuple elts kk tpos) (ItetG xs a) [e, it] e (fun i h => (∃ old, IsEnum h e it ((i : Nat) : Int) old) ∧ h.IsTupleIter it a i ∧ e ≠ it) where
  mem := by simp
  obj := fun i h st b hb => by
    obtain ⟨⟨old, he⟩, ⟨o, ho, hc, hd⟩, _⟩ := st
    rcases (by simpa using hb : b = e ∨ b = it) with rfl | rfl
    · exact ⟨_, he, fun v q => nomatch q⟩
    · exact ⟨o, ho, fun v q => by rw [hd] at q; cases q⟩
  keep := fun i h h' st k => let ⟨⟨old, he⟩, hi, hne⟩ := st; ⟨⟨old, k e (by simp) _ he⟩, hi.at fun o q => k it (by simp) o q, hne⟩
  item := by
    intro X hP hw hK hc i pins s σ H E I hf st hg
    subst hP hw hK
    obtain ⟨⟨old, he⟩, hit, hne⟩ := st
    obtain ⟨hq, hlt⟩ := hg
    obtain ⟨its, rv, p, hz⟩ := I.tuple (SqT.of hq)
    have hel : e < s.heap.objs.size := Heap.lt_size he
    have hil : it < s.heap.objs.size := by obtain ⟨_, q, _⟩ := hit; exact Heap.lt_size q
    have nae : a ≠ e := ne_of_none hq (hf e (by simp)).1
    have nai : a ≠ it := ne_of_none hq (hf it (by simp)).1
    have hl := rv.length
    refine wpAny_pyNext_enum_itemD (Draws.tuple (prog := X.prog) (w := X.w) (A := X.A.in1) (I.ok.hd hc) it a nai its.toArray) he ⟨hit, p⟩ (by simp; omega) hne (by simp; exact ⟨hne, fun q => nae q.symm⟩) fun u h' tk hu ho hit' hT hsz hk => ?_
    obtain ⟨x, hx, ru⟩ : ∃ x, xs[i]? = some x ∧ RelV x u := by
      obtain ⟨u', hu', ru'⟩ := rv.get (i := i) (x := xs[i]) (by simp [hlt])
      have : u' = u := by
        have e1 : its.toArray[i]? = some u' := by simpa using hu'
        rw [hu] at e1
        exact (Option.some.inj e1).symm
      subst this
      exact ⟨_, by simp [hlt], ru'⟩
    refine ⟨_, rfl, wpAny_letOwnedTupleGo_enum (s := { s with heap := h', toks := tk + 1 }) ho fun h'' he' sb => ?_⟩
    have hT2 : h''.get? s.heap.objs.size = some { cls := .type "tuple", data := .seq #[.int i tk, u] } := (sb.2 _ (Nat.ne_of_gt hel)).trans hT
    have new : ObjOk X.prog X.w (upd H s.heap.objs.size (.tup [.int (i : Nat), x])) h'' s.heap.objs.size (.tup [.int (i : Nat), x]) :=
      ⟨by show 2 ≤ sizeLine; decide, [.int i tk, u], .cons ⟨_, rfl⟩ (.cons ru .nil), ⟨_, hT2, rfl, _, rfl⟩⟩
    have I1 : Inv X pins σ (upd H s.heap.objs.size (.tup [.int (i : Nat), x])) { s with heap := h'', toks := tk + 1 } :=
      I.turnedNew (ch := [e, it]) (fun b ob hb q => (sb.2 b (fun z => hb (by simp [z]))).trans (hk b ob (fun z => hb (by simp [z])) (fun z => hb (by simp [z])) q)) hf (Nat.le_refl _) new
    refine ⟨.ref s.heap.objs.size, _, I1, rfl, ⟨_, x, rfl, I.hok.fresh (Nat.le_refl _), rfl, hx⟩, ⟨⟨u, ?_⟩, hit'.1.at fun o q => (sb.2 it (Ne.symm hne)).trans q, hne⟩, fun b hb => ?_⟩
    · have e1 : ((i + 1 : Nat) : Int) = (i : Int) + 1 := by omega
      rw [e1]
      exact he'
    · have hb' : b < s.heap.objs.size := by
        rcases (by simpa using hb : b = e ∨ b = it) with z | z
        · exact z ▸ hel
        · exact z ▸ hil
      rw [upd_ne (Nat.ne_of_lt hb')]
      exact (hf b hb).1
  done := by
    intro X hP hw hK hc i pins s σ H E I hf st hg
    subst hP hw hK
    obtain ⟨⟨old, he⟩, hit, hne⟩ := st
    obtain ⟨hq, hle⟩ := hg
    obtain ⟨its, rv, p, hz⟩ := I.tuple (SqT.of hq)
    have nai : a ≠ it := ne_of_none hq (hf it (by simp)).1
    obtain ⟨f0, f1, f2, f3, f4, f5⟩ := hf it (by simp)
    have hl := rv.length
    unfold pyNext
    refine wpAny_bind (wpAny_attempt (wpAny_callSpecial?_slot (name := Str.ofString "__next__") (show s.TypeIs (.ref e) "enumerate" from ⟨_, he, rfl⟩) F.slot_enumerate_next
      (wpAny_call_entry F.slot_enumerate_next (show s.TypeIs (.ref e) "enumerate" from ⟨_, he, rfl⟩) F.entry_enumerate_next ?_ (F.args_enumerate_next_1 _))))
    show wpAny _ _ (field (.ref e) 2 >>= _) _ _ _
    refine wpAny_bind (wpAny_field he rfl (x := .ref it) rfl ?_)
    refine wpAny_bind (wpAny_nextOf_tuple_end (A := X.A.in1) (I.ok.hd hc) hit p (Array.getElem?_eq_none (by simp; omega)) fun h' x he' hx' => ?_)
    obtain ⟨o, ho, hcl⟩ := hx'
    refine wpAny_bind (wpAny_isInstance (T := "StopIteration") (b := true) ⟨o, ho, hcl⟩ isSubtype_stop ?_)
    exact wpAny_pure ⟨rfl, I.turned (t' := s.toks) (fun b o hb q => he' b o hb q) f0 f1 f3 f4 f5⟩
  self := fun A i s Q E st h => let ⟨⟨_, he⟩, _⟩ := st; wpAny_pyIter_enum he h
def iEnumT (ta : TA) : TI := fun σ H R => ta σ H fun vs H1 => ∃ a xs, vs = [.ref a] ∧ H1 a = some (.tup xs) ∧ R (ItetG xs a) H1
theorem pi_enumT {X : Cx} {e : Expr} {ta : TA} {p pos tpos : Pos} {elts : List Expr} {kk : Nat} (hg : Gl X "enumerate") (hm : X.mg "enumerate" = none) (ha : PA X [e] ta) (hs : starEach [e] X.env = [(false, eval e X.env)] := by rfl) :
    PI X (.Tuple elts kk tpos) (.Call (.Name "enumerate" p) [e] [] pos) (iEnumT ta) := by
  refine ⟨fun pins s σ H R I h => ?_⟩
  refine Call_ (ld_blt I hg hm boot_enumerate (PyProof.Rows.callWith_type1 (thn (ha.run pos pins s σ H _ I h) fun us s1 ⟨vs, H1, I1, r1, q1⟩ => ?_) hs rfl))
  obtain ⟨a, xs, rfl, hq, q⟩ := q1
  cases r1 with
  | cons r rr =>
    cases rr
    cases r
    obtain ⟨its, rv, p', hz⟩ := I1.tuple (SqT.of hq)
    refine enum_begins1 (begins_tuple a its.toArray) p' fun h' he hit hk => wpAny_pyIter_enum he ?_
    have I2 : Inv X pins σ H1 { s1 with heap := h' } := I1.kept (t' := s1.toks) hk
    refine ⟨s1.heap.objs.size + 1, [s1.heap.objs.size + 1, s1.heap.objs.size], _, _, H1, rfl, I2, turn_enumT xs a (s1.heap.objs.size + 1) s1.heap.objs.size, ⟨⟨.none, he⟩, ⟨_, hit, rfl, rfl⟩, Nat.succ_ne_self _⟩, fun b hb => ?_, q⟩
    have hle : s1.heap.objs.size ≤ b := by
      rcases (by simpa using hb : b = s1.heap.objs.size + 1 ∨ b = s1.heap.objs.size) with z | z
      · exact z ▸ Nat.le_add_right _ _
      · exact Nat.le_of_eq z.symm
    exact I1.fpOk hle (I1.hok.fresh hle)
theorem walk_enumT {xs : List V} {a : Addr} : Walk (ItetG xs a) xs.length (fun H => H a = some (.tup xs)) (YPair (fun i => some (.int (i : Nat))) (fun i => xs[i]?)) := by
  refine ⟨fun i _ hi q => ⟨q, hi⟩, fun _ q => ⟨q, Nat.le_refl _⟩, fun i H v H' _ q y => ?_⟩
  obtain ⟨T, x, h1, h2, h3, h4⟩ := y
  exact ⟨T, .int (i : Nat), x, h1, h2, h3, rfl, h4⟩

/-! ### d.update(d2), both with int and text keys -/
def rUpdK : V → List V → Hp → VK → Prop := fun x xs H Q => ∃ (a b : Addr) (ks ls : List (Key × V)), x = .ref a ∧ xs = [.ref b] ∧ a ≠ b ∧ H a = some (.dK ks) ∧ H b = some (.dK ls) ∧ ks.length + ls.length ≤ sizeLine ∧ Q .non (upd H a (.dK (mergeK ks ls)))
theorem mt_update {X : Cx} : MtR X "dict.update" rUpdK := by
  intro pins s σ H x xs v us Q I rx rxs h
  obtain ⟨a, b, ks, ls, rfl, rfl, hab, ha, hb, hz, q⟩ := h
  cases rx
  cases rxs with
  | cons r rr =>
    cases rr
    cases r
    obtain ⟨z1, d1, vs, k1, o1⟩ := dk_of I.hok ha
    obtain ⟨z2, d2, ws, k2, o2⟩ := dk_of I.hok hb
    refine call_meetsIn F.slot_dict_update o1.typeIs F.entry_dict_update (F.args_dict_update_2 _ _) (meets_dict_update (mixKind X.prog X.w) a b hab d2)
      ⟨vs, ws, o1, o2, by rw [← k1.length, ← k2.length]; exact hz, fun h' o1' o2' sb => ?_⟩
    have he : ∃ u, h'.get? a = some u := let ⟨u, _, _, hu, _⟩ := o1'; ⟨u, hu⟩
    have hl : (mergeK ks ls).length ≤ sizeLine := Nat.le_trans (length_mergeK ls ks) hz
    exact ⟨.non, _, d_write I (t' := s.toks) (by rw [ha]; exact True.intro) sb he (dk_new hl d1 (k2.merge k1) o1'), rfl, q⟩

/-! ### p[::-1], p a pair -/
section
variable {prog : Program} {w : World} {A : Around} {E : Value → Shared → Prop} {s : Shared}
theorem pair_rev_get {t sl : Addr} {u v vl vu vs : Value} {Q : Value → Shared → Prop} (ht : IsTup s.heap t #[u, v]) (hs : s.heap.IsSliceOf sl vl vu vs) (pl : IsPart vl none) (pu : IsPart vu none) (ps : IsPart vs (some (-1)))
    (h : Q (.ref s.heap.objs.size) { s with heap := s.heap.push { cls := .type "tuple", data := .seq #[v, u] } }) : wpAny (model prog w) A (getItem (.ref t) (.ref sl)) Q E s := by
  obtain ⟨os, hos, hcs, hds⟩ := id hs
  have hTs : s.TypeIs (.ref sl) "slice" := ⟨os, hos, hcs⟩
  have hz : sizeOk (.seq #[v, u]) := by show 2 ≤ sizeLine; decide
  unfold getItem
  try with_reducible refine wpAny_holding ?_
  first | refine wpAny_bind (wpAny_pure ?_) | skip
  refine wpAny_bind (wpAny_sequenceKey ht.typeIs (by decide) ?_)
  refine wpAny_bind (wpAny_callSpecial?_slot (name := Str.ofString "__getitem__") ht.typeIs PyProof.Rows.slot_tuple_getitem
    (wpAny_call_entry PyProof.Rows.slot_tuple_getitem ht.typeIs entry_tuple_getitem ?_ (args_tuple_getitem _ _)))
  show wpAny _ _ (Builtin.Tuple.tupleItemsOf (.ref t) >>= _) _ _ s
  refine wpAny_bind (PyProof.Rows.tupleItemsOf_ ht ?_)
  refine wpAny_bind (wpAny_typeOf hTs ?_)
  rw [if_pos (by decide)]
  have ap : ∀ {Q' : Int × Int × Nat → Shared → Prop} {A' : Around} {E' : Value → Shared → Prop}, Q' (1, -1, 2) s → wpAny (model prog w) A' (Builtin.Slice.sliceApplied (.ref sl) (pure (2 : Int))) Q' E' s := by
    intro Q' A' E' hq
    unfold Builtin.Slice.sliceApplied Builtin.Slice.sliceFields
    refine wpAny_bind (wpAny_bind (wpAny_field hos hds (x := vl) rfl (wpAny_bind (wpAny_field hos hds (x := vu) rfl (wpAny_bind (wpAny_field hos hds (x := vs) rfl (wpAny_pure ?_)))))))
    refine wpAny_bind (HT.slicePart_ ps ?_)
    show wpAny _ _ (if ((-1 : Int) == 0) = true then _ else _) _ _ s
    rw [if_neg (by decide)]
    exact wpAny_bind (HT.slicePart_ pl (wpAny_bind (HT.slicePart_ pu (wpAny_bind (wpAny_pure (wpAny_pure hq))))))
  refine wpAny_bind (ap ?_)
  show wpAny _ _ (if ((1 : Int) == 0 && (-1 : Int) == 1 && (2 : Nat) == 2) = true then _ else _) _ _ s
  rw [if_neg (by decide)]
  show wpAny _ _ _ _ _ s
  first
    | exact wpAny_bind (m := Builtin.Tuple.tupleExact _) (wpAny_newObj_type (wpAny_pure ⟨_, rfl, wpAny_pure h⟩) hz)
    | exact wpAny_bind (m := Builtin.Tuple.tupleExact _) (wpAny_newObj_type (wpAny_bind (wpAny_pure (wpAny_pure ⟨_, rfl, wpAny_pure h⟩))) hz)
    | exact wpAny_bind (wpAny_bind (m := Builtin.Tuple.tupleExact _) (wpAny_newObj_type (wpAny_pure (wpAny_pure ⟨_, rfl, wpAny_pure h⟩)) hz))
    | exact wpAny_bind (wpAny_bind (m := Builtin.Tuple.tupleExact _) (wpAny_newObj_type (wpAny_pure ⟨_, rfl, wpAny_pure h⟩) hz))
end
def tRevP (K : PySem.W.Frag) (te : TE) : TE := fun σ H Q => te σ H fun x H1 => ∃ a y z, x = .ref a ∧ SqT K H1 a [y, z] ∧ ∀ p, H1 p = none → Q (.ref p) (upd H1 p (.tup [z, y]))
theorem pe_revP {X : Cx} {e : Expr} {te : TE} {k : Nat} {p1 p2 p3 pos : Pos} (he : PE X e te) : PE X (.Subscript e (.Slice none none (some (.UnaryOp .USub (.Constant (.int 1) k p1) p2)) p3) pos) (tRevP X.K te) := by
  refine ⟨fun pins s σ H Q I h => ?_⟩
  refine Subscript_ (thn (he.run pins s σ H _ I h) fun v s1 ⟨x, H1, I1, r1, q1⟩ => ?_)
  obtain ⟨a, y, z, rfl, hx, q⟩ := q1
  cases r1
  have hst : PO X (some (.UnaryOp .USub (.Constant (.int 1) k p1) p2)) (tPart (tUn (rU fun i => .int (-i)) (tC (.int 1)))) := po_some (pe_un un_neg pe_int)
  refine wpAny_Slice (thn (po_none.run pins s1 σ H1 (fun o H2 => o = none ∧ H2 = H1) I1 ⟨rfl, rfl⟩) fun vl s2 ⟨l, H2, I2, pl, el, e2⟩ => ?_)
  subst el e2
  refine thn (po_none.run pins s2 σ H2 (fun o H3 => o = none ∧ H3 = H2) I2 ⟨rfl, rfl⟩) fun vu s3 ⟨u, H3, I3, pu, eu, e3⟩ => ?_
  subst eu e3
  refine thn (hst.run pins s3 σ H3 (fun o H4 => o = some (-1) ∧ H4 = H3) I3 ⟨1, rfl, -1, rfl, rfl, rfl⟩) fun vs s4 ⟨o, H4, I4, ps, eo, e4⟩ => ?_
  subst eo e4
  have I5 : Inv X pins σ H4 { s4 with heap := s4.heap.push { cls := .type "slice", data := .fields #[vl, vu, vs] } } := I4.kept (t' := s4.toks) fun b ob q => Heap.get?_push_of_some _ q
  obtain ⟨its, r, ht, hz⟩ := I5.tuple hx
  obtain ⟨u1, u2, rfl, ru1, ru2⟩ := vals2 r
  show wpAny (model X.prog X.w) X.A (subscriptTail e (.Slice none none (some (.UnaryOp .USub (.Constant (.int 1) k p1) p2)) p3) (.ref a) (.ref s4.heap.objs.size)) (EP X pins σ Q) X.xe { s4 with heap := s4.heap.push { cls := .type "slice", data := .fields #[vl, vu, vs] } }
  refine tail_any (ops := [.ref a, .ref s4.heap.objs.size]) ht.typeIs (PyProof.Rows.slot_tuple_getitem.lookup) ?_ (by with_unfolding_all rfl)
  refine pair_rev_get ht (Heap.IsSliceOf.new _ vl vu vs) pl pu ps ?_
  refine ⟨.ref _, _, I5.laid (t' := s4.toks) (o := .tup [z, y]) (fun b ob q => Heap.get?_push_of_some _ q) (Nat.le_refl _) ?_, rfl, q _ (I5.hok.fresh (Nat.le_refl _))⟩
  exact ⟨by show 2 ≤ sizeLine; decide, [u2, u1], .cons ru2 (.cons ru1 .nil), IsTup.new _ _⟩
end DC
end

section
set_option Elab.async false
set_option linter.all false
set_option maxRecDepth 100000
set_option maxHeartbeats 4000000
namespace DC
open PySem PySem.Spec PyProof.Rows L2
/-! ### a dict whose keys are lays -/
mutual
def nk : PyData → NestedKey
  | .none => .none
  | .bool b => .num (if b = true then 1 else 0)
  | .int i => .num i
  | .str x => .text x
  | .tuple ds => .tup (nks ds)
  | .list _ => .none
  | .dict _ => .none
def nks : List PyData → List NestedKey
  | [] => []
  | d :: ds => nk d :: nks ds
end
mutual
theorem TD.nested {X : Cx} {pins : List (Addr × Obj)} {σ : L2.St} {H : Hp} {s : Shared} (I : Inv X pins σ H s) : ∀ (d : PyData) (v : V) (u : Value), TD H v d → RelV v u → NestedIs s.heap (nk d) u
  | .none, _, _, h, r => by
    cases h
    cases r
    exact .none
  | .bool b, _, _, h, r => by
    cases h
    cases r
    exact .bool rfl
  | .int i, _, _, h, r => by
    cases h
    obtain ⟨t, rfl⟩ := r
    exact .int i t
  | .str x, _, _, h, r => by
    cases h
    obtain ⟨t, rfl⟩ := r
    exact .text x t
  | .tuple ds, _, _, h, r => by
    cases h with
    | tup h1 h2 =>
      cases r
      obtain ⟨its, rv, ⟨o, ho, hc, n, hd⟩, _⟩ := I.tuple (SqT.of h1)
      exact .tup ho hc hd (TDs.nested I ds _ its h2 rv)
  | .list _, _, _, h, _ => by cases h
  | .dict _, _, _, h, _ => by cases h
theorem TDs.nested {X : Cx} {pins : List (Addr × Obj)} {σ : L2.St} {H : Hp} {s : Shared} (I : Inv X pins σ H s) : ∀ (ds : List PyData) (vs : List V) (us : List Value), TDs H vs ds → Vals vs us → NestedAll s.heap (nks ds) us
  | [], _, _, h, r => by
    cases h
    cases r
    exact .nil
  | d :: ds, _, _, h, r => by
    cases h with
    | cons h1 h2 =>
      cases r with
      | cons r1 r2 => exact .cons (TD.nested I d _ _ h1 r1) (TDs.nested I ds _ _ h2 r2)
end
def kJ (j : Jt) : NestedKey := .tup [.num j.1, .num j.2]
def kJs (l : List Jt) : NestedKey := .tup (l.map kJ)
def kL (l : Lay) : NestedKey := .tup [.num l.1, kJs l.2]
theorem nks_J : ∀ l : List Jt, nks (l.map eJ) = l.map kJ
  | [] => rfl
  | j :: l => by
    rw [List.map_cons, List.map_cons]
    show nk (eJ j) :: nks (l.map eJ) = _
    rw [nks_J l]
    rfl
theorem nk_L (l : Lay) : nk (eL l) = kL l := by
  show NestedKey.tup [.num l.1, .tup (nks (l.2.map eJ))] = _
  rw [nks_J]
  rfl
theorem kJ_inj {a b : Jt} (h : kJ a = kJ b) : a = b := by
  unfold kJ at h
  have h1 := NestedKey.tup.inj h
  injection h1 with h2 h3
  injection h3 with h4 _
  have e1 := NestedKey.num.inj h2
  have e2 := NestedKey.num.inj h4
  obtain ⟨a1, a2⟩ := a
  obtain ⟨b1, b2⟩ := b
  simp only at e1 e2
  rw [show a1 = b1 by omega, show a2 = b2 by omega]
theorem kJs_inj : ∀ {a b : List Jt}, a.map kJ = b.map kJ → a = b
  | [], [], _ => rfl
  | [], _ :: _, h => by simp at h
  | _ :: _, [], h => by simp at h
  | x :: a, y :: b, h => by
    rw [List.map_cons, List.map_cons] at h
    injection h with h1 h2
    rw [kJ_inj h1, kJs_inj h2]
theorem kL_inj {a b : Lay} (h : kL a = kL b) : a = b := by
  unfold kL kJs at h
  have h1 := NestedKey.tup.inj h
  injection h1 with h2 h3
  injection h3 with h4 _
  have e1 := NestedKey.num.inj h2
  have e2 := kJs_inj (NestedKey.tup.inj h4)
  obtain ⟨a1, a2⟩ := a
  obtain ⟨b1, b2⟩ := b
  simp only at e1 e2
  rw [show a1 = b1 by omega, e2]
theorem depth_kJs : ∀ l : List Jt, NestedKey.depthAll (l.map kJ) ≤ 1
  | [] => by simp [NestedKey.depthAll]
  | j :: l => by
    have := depth_kJs l
    simp only [List.map_cons, NestedKey.depthAll, kJ, NestedKey.depth]
    omega
theorem depth_kL (l : Lay) : (kL l).depth ≤ 8 := by
  have := depth_kJs l.2
  simp only [kL, kJs, NestedKey.depth, NestedKey.depthAll]
  omega
theorem lay_is {X : Cx} {pins : List (Addr × Obj)} {σ : L2.St} {H : Hp} {s : Shared} (I : Inv X pins σ H s) {b : Addr} {l : Lay} (h : TD H (.ref b) (eL l)) : (nestedKind X.prog X.w).is s.heap (kL l) b := by
  have q := TD.nested I (eL l) (.ref b) (.ref b) h rfl
  rw [nk_L] at q
  exact ⟨q, depth_kL l⟩
/-- what is known of the dict's object -/
def SeenO (P : Program) (w : World) (a : Addr) (xs : List (NestedKey × Addr × Value)) : HO := .ext fun h => ∃ o es ep, h.get? a = some o ∧ o.ExactDict ∧ o.data = .dict es ep ∧ es.toList = xs.map (entryOfKey (nestedKind P w))
/-- at a stands a dict with the lays ls as keys -/
def SeenAt (P : Program) (w : World) (H : Hp) (a : Addr) (ls : List Lay) : Prop := ∃ xs : List (NestedKey × Addr × Value), H a = some (SeenO P w a xs) ∧ (a == sysModules) = false ∧ xs.map (·.1) = ls.map kL ∧ ls.Nodup ∧
  ∀ x ∈ xs, ∃ l, x.1 = kL l ∧ TD H (.ref x.2.1) (eL l)
theorem SeenAt.to {P : Program} {w : World} {H H' : Hp} {a : Addr} {ls : List Lay} (h : SeenAt P w H a ls) (t : TupS H H') (e : H' a = H a) : SeenAt P w H' a ls := by
  obtain ⟨xs, h1, h2, h3, h4, h5⟩ := h
  exact ⟨xs, by rw [e]; exact h1, h2, h3, h4, fun x hx => let ⟨l, q1, q2⟩ := h5 x hx; ⟨l, q1, q2.to t⟩⟩
theorem SeenAt.by {P : Program} {w : World} {H H' : Hp} {a : Addr} {ls : List Lay} (h : SeenAt P w H a ls) (t : Same H H') : SeenAt P w H' a ls := by
  have h' := h
  obtain ⟨xs, h1, _⟩ := h'
  exact h.to (sameTup t) (by rw [t _ _ h1, h1])
theorem atKey_kL : ∀ {xs : List (NestedKey × Addr × Value)} {ls : List Lay}, xs.map (·.1) = ls.map kL → ∀ l : Lay, (atKey xs (kL l)).isSome = decide (l ∈ ls)
  | [], [], _, l => by simp [atKey]
  | [], _ :: _, h, _ => by simp at h
  | _ :: _, [], h, _ => by simp at h
  | x :: xs, m :: ls, h, l => by
    rw [List.map_cons, List.map_cons] at h
    injection h with h1 h2
    have ih := atKey_kL h2 l
    by_cases e : m = l
    · subst e
      simp [atKey, h1]
    · have e1 : ¬ (x.1 = kL l) := fun q => e (kL_inj (h1.symm.trans q))
      have e2 : ¬ l = m := fun q => e q.symm
      have e3 : atKey (x :: xs) (kL l) = atKey xs (kL l) := by
        unfold atKey
        rw [List.find?_cons_of_neg (by simpa using e1)]
      rw [e3, ih]
      simp [e2]
section
variable {X : Cx} {pins : List (Addr × Obj)} {σ : L2.St} {H : Hp} {s : Shared} {a b : Addr} {l : Lay} {ls : List Lay}
theorem SeenAt.dict (I : Inv X pins σ H s) {xs : List (NestedKey × Addr × Value)} (h1 : H a = some (SeenO X.prog X.w a xs)) (h3 : xs.map (·.1) = ls.map kL) (h4 : ls.Nodup) (h5 : ∀ x ∈ xs, ∃ l, x.1 = kL l ∧ TD H (.ref x.2.1) (eL l)) :
    s.heap.DictOfH (nestedKind X.prog X.w) a xs := by
  obtain ⟨⟨o, es, ep, e1, e2, e3, e4⟩, _, _⟩ := (show ObjOk X.prog X.w H s.heap a (SeenO X.prog X.w a xs) from I.hok a _ h1)
  refine ⟨o, es, ep, e1, e2, e3, e4, fun x hx => ?_, ?_⟩
  · obtain ⟨m, q1, q2⟩ := h5 x hx
    rw [q1]
    exact lay_is I q2
  · rw [h3]
    exact (List.nodup_iff_pairwise_ne.mp h4 |>.map kL fun x y hne q => hne (kL_inj q))
theorem room_nested (hr : X.A.units + 64 < cLine) : (nestedKind X.prog X.w).room X.A.in1 := by
  show X.A.units + 1 + 8 < cLine
  omega
end
def tSeenIn (P : Program) (w : World) (ty td : TE) : TE := fun σ H Q => ty σ H fun y H1 => td σ H1 fun x H2 => ∃ a b l ls, x = .ref a ∧ y = .ref b ∧ SeenAt P w H2 a ls ∧ TD H2 (.ref b) (eL l) ∧ ∃ k : Bool, (k = true ↔ l ∈ ls) ∧ Q (.bl k) H2
def tSeenNot (P : Program) (w : World) (ty td : TE) : TE := fun σ H Q => ty σ H fun y H1 => td σ H1 fun x H2 => ∃ a b l ls, x = .ref a ∧ y = .ref b ∧ SeenAt P w H2 a ls ∧ TD H2 (.ref b) (eL l) ∧ ∃ k : Bool, (k = true ↔ ¬ l ∈ ls) ∧ Q (.bl k) H2
section
variable {X : Cx} {i o : Expr} {ty td tv : TE} {pos pos' : Pos} {value : Expr}
theorem pc_seen (hu : X.A.units + 64 < cLine) (hi : PE X i ty) (ho : PE X o td) : PC X .In i o (tSeenIn X.prog X.w ty td) := by
  refine ⟨fun pins s σ H Q I h => ?_⟩
  refine thn (hi.run pins s σ H _ I h) fun iv s1 ⟨y, H1, I1, ry, q1⟩ => thn (ho.run pins s1 σ H1 _ I1 q1) fun u s2 ⟨x, H2, I2, rx, a, b, l, ls, ex, ey, g, tb, k, hk, q2⟩ => ?_
  subst ex ey
  obtain rfl : u = Value.ref a := rx
  obtain rfl : iv = Value.ref b := ry
  obtain ⟨xs, h1, h2, h3, h4, h5⟩ := g
  refine wpAny_in_heap (room_nested hu) (lay_is I2 tb) h2 (SeenAt.dict I2 h1 h3 h4 h5) ?_
  rw [atKey_kL h3]
  rw [bool_of hk] at q2
  exact ⟨.bl _, H2, I2.tok _, rfl, q2⟩
theorem pc_notSeen (hu : X.A.units + 64 < cLine) (hi : PE X i ty) (ho : PE X o td) : PC X .NotIn i o (tSeenNot X.prog X.w ty td) := by
  refine ⟨fun pins s σ H Q I h => ?_⟩
  refine thn (hi.run pins s σ H _ I h) fun iv s1 ⟨y, H1, I1, ry, q1⟩ => thn (ho.run pins s1 σ H1 _ I1 q1) fun u s2 ⟨x, H2, I2, rx, a, b, l, ls, ex, ey, g, tb, k, hk, q2⟩ => ?_
  subst ex ey
  obtain rfl : u = Value.ref a := rx
  obtain rfl : iv = Value.ref b := ry
  obtain ⟨xs, h1, h2, h3, h4, h5⟩ := g
  refine wpAny_notIn_heap (room_nested hu) (lay_is I2 tb) h2 (SeenAt.dict I2 h1 h3 h4 h5) ?_
  rw [atKey_kL h3]
  rw [bool_not hk] at q2
  exact ⟨.bl _, H2, I2.tok _, rfl, q2⟩
/-- seen[l] = v, l not yet in it -/
def sSeenPut (P : Program) (w : World) (td ty tv : TE) : TS := fun D σ H => tv σ H fun v H1 => td σ H1 fun x H2 => ty σ H2 fun y H3 => ∃ a b l ls, x = .ref a ∧ y = .ref b ∧ SeenAt P w H3 a ls ∧ TD H3 (.ref b) (eL l) ∧ l ∉ ls ∧ ls.length < sizeLine ∧
  ∀ H4, (∀ c, c ≠ a → H4 c = H3 c) → SeenAt P w H4 a (ls ++ [l]) → D.nx σ H4
theorem ps_seenPut (hu : X.A.units + 64 < cLine) (ho : PE X o td) (hi : PE X i ty) (hv : PE X value tv) (hs : swapsWith value (some (.Subscript o i pos')) pos.line X.env = pure false := by rfl) :
    PS X (.Assign [.Subscript o i pos'] value pos) (sSeenPut X.prog X.w td ty tv) := by
  refine ⟨fun pins s σ H D I h => ?_⟩
  refine wpAny_Assign_Subscript (thn (hv.run pins s σ H _ I h) fun r s1 ⟨v, H1, I1, rv, q1⟩ => thn (ho.run pins s1 σ H1 _ I1 q1) fun u s2 ⟨x, H2, I2, rx, q2⟩ => thn (hi.run pins s2 σ H2 _ I2 q2) fun iv s3 ⟨y, H3, I3, ry, a, b, l, ls, ex, ey, g, tb, hn, hz, q3⟩ => ?_) hs
  subst ex ey
  obtain rfl : u = Value.ref a := rx
  obtain rfl : iv = Value.ref b := ry
  obtain ⟨xs, h1, h2, h3, h4, h5⟩ := g
  have hlx : xs.length = ls.length := by
    have := congrArg List.length h3
    rw [List.length_map, List.length_map] at this
    exact this
  have hno : atKey xs (kL l) = none := by
    have q := atKey_kL h3 l
    rw [decide_eq_false hn] at q
    cases e : atKey xs (kL l) with
    | none => rfl
    | some _ => rw [e] at q; cases q
  refine wpAny_setItem_heap (hsz := by omega) (room_nested hu) (lay_is I3 tb) (SeenAt.dict I3 h1 h3 h4 h5) fun h' dd' sb => ?_
  rw [storedH_new hno] at dd'
  obtain ⟨od, es, ep, e1, e2, e3, e4, _, _⟩ := dd'
  have new : ∀ H' : Hp, ObjOk X.prog X.w H' h' a (SeenO X.prog X.w a (xs ++ [(kL l, b, r)])) := fun H' => ⟨⟨od, es, ep, e1, e2, e3, e4⟩, ⟨od, e1⟩, fun g1 g2 ⟨o', es', ep', f1, f2⟩ k => ⟨o', es', ep', k _ f1, f2⟩⟩
  have I4 := d_write I3 (t' := s3.toks + (nestedKind X.prog X.w).draws (kL l)) (ob := SeenO X.prog X.w a (xs ++ [(kL l, b, r)])) (by rw [h1]; exact True.intro) sb ⟨od, e1⟩ (new _)
  have tu : TupS H3 (upd H3 a (SeenO X.prog X.w a (xs ++ [(kL l, b, r)]))) := tupS_upd fun ys q => by
    rw [h1] at q
    cases q
  refine ⟨σ, _, I4, q3 _ (fun c hc => upd_ne hc) ⟨xs ++ [(kL l, b, r)], upd_same, h2, ?_, ?_, fun x hx => ?_⟩⟩
  · rw [List.map_append, List.map_append, h3]
    rfl
  · rw [List.nodup_append]
    refine ⟨h4, by simp, fun p hp q hq => ?_⟩
    rw [List.mem_singleton] at hq
    subst hq
    exact fun e => hn (e ▸ hp)
  · rcases List.mem_append.mp hx with hx | hx
    · obtain ⟨m, q1, q2⟩ := h5 x hx
      exact ⟨m, q1, q2.to tu⟩
    · rw [List.mem_singleton] at hx
      subst hx
      exact ⟨l, rfl, tb.to tu⟩
/-- {l: v} -/
def tSeenNew (P : Program) (w : World) (tk tv : TE) : TE := fun σ H Q => ∀ p, H p = none → tPairs [(tk, tv)] σ (upd H p (.dK [])) fun ps H2 => ∃ b y l, ps = [(.ref b, y)] ∧ H2 p = some (.dK []) ∧ TD H2 (.ref b) (eL l) ∧
  ∀ H3, (∀ c, c ≠ p → H3 c = H2 c) → SeenAt P w H3 p [l] → Q (.ref p) H3
theorem pe_seenNew {k v : Expr} {tk : TE} (hu : X.A.units + 64 < cLine) (hk : PE X k tk) (hv : PE X v tv) : PE X (.Dict [some k] [v] pos) (tSeenNew X.prog X.w tk tv) := by
  refine ⟨fun pins s σ H Q I q => ?_⟩
  have hn := I.hok.fresh (Nat.le_refl s.heap.objs.size)
  have I1 := I.laid (a := s.heap.objs.size) (o := .dK []) (h' := s.heap.push { cls := .type "dict", data := .dict #[] }) (t' := s.toks) (fun _ _ q => Heap.get?_push_of_some _ q) (Nat.le_refl _) (dk_empty s.heap I.big)
  have pp : PPs X pos [some k] [v] [(tk, tv)] := pps_cons hk hv pps_nil
  have run := pp.run pins _ σ _ _ I1 (q _ hn)
  rw [arm_eval_Dict, zip_pairTrees [some k] [v] X.env pos rfl rfl, dictDisplay_pairs _ (by intro z; cases z) (by rw [pairTrees_length _ _ _ _ rfl rfl]; exact (by decide : 1 < 17))]
  refine wpAny_bind (wpAny_standAt (wpAny_bind (wpAny_subDictH (knd := nestedKind X.prog X.w) (by show X.A.units + 8 < cLine; omega) (by rw [pairTrees_length _ _ _ _ rfl rfl]; exact (by decide : 1 ≤ 15)) (thn run fun ws s2 hq => ?_))))
  obtain ⟨ps, H2, I2, rel, b, y, l, rfl, e, tb, q2⟩ := hq
  cases rel with
  | @cons p0 pq ps0 qs0 r1 r2 =>
    cases r2
    obtain ⟨rx, ry⟩ := r1
    obtain ⟨u1, u2⟩ := pq
    obtain rfl : u1 = Value.ref b := rx
    obtain ⟨z, hd, vs0, r0, dd⟩ := dk_of I2.hok e
    cases r0
    refine ⟨[(kL l, b, u2)], ⟨rfl, rfl, lay_is I2 tb, trivial⟩, ?_, fun h' tk' dd' sb => wpAny_pure ?_⟩
    · obtain ⟨od, es, ep, e1, e2, e3, _, e4, _⟩ := dd
      refine ⟨od, es, ep, e1, e2, e3, ?_, fun x hx => (nomatch hx), List.nodup_nil⟩
      show es.toList = []
      generalize es.toList = l0 at e4
      cases l0 with
      | nil => rfl
      | cons a b => exact nomatch e4
    · obtain ⟨od, es, ep, e1, e2, e3, e4, _, _⟩ := dd'
      have e4' : es.toList = [(kL l, b, u2)].map (entryOfKey (nestedKind X.prog X.w)) := e4
      have new : ∀ H' : Hp, ObjOk X.prog X.w H' h' s.heap.objs.size (SeenO X.prog X.w s.heap.objs.size [(kL l, b, u2)]) := fun H' => ⟨⟨od, es, ep, e1, e2, e3, e4'⟩, ⟨od, e1⟩, fun g1 g2 ⟨o', es', ep', f1, f2⟩ k => ⟨o', es', ep', k _ f1, f2⟩⟩
      have I4 := d_write I2 (t' := tk') (ob := SeenO X.prog X.w s.heap.objs.size [(kL l, b, u2)]) (by rw [e]; exact True.intro) sb ⟨od, e1⟩ (new _)
      have tu : TupS H2 (upd H2 s.heap.objs.size (SeenO X.prog X.w s.heap.objs.size [(kL l, b, u2)])) := tupS_upd fun ys q => by
        rw [e] at q
        cases q
      refine ⟨.ref _, _, I4, rfl, q2 _ (fun c hc => upd_ne hc) ⟨_, upd_same, hd, rfl, by simp, fun x hx => ?_⟩⟩
      rw [List.mem_singleton] at hx
      subst hx
      exact ⟨l, rfl, tb.to tu⟩
end
end DC
end

section
set_option Elab.async false
set_option linter.all false
set_option maxRecDepth 100000
set_option maxHeartbeats 4000000
namespace DC
open PySem PySem.Spec PyProof.Rows L2
/-! ### defs by their names -/
def Ok (P : Program) (w : World) (K : PySem.W.Frag) (mg : Str → Option Value) (base : Heap) (k : Nat) (f : Str) (ps : List Str) (sp : Sp) : Prop :=
  ∃ fd, FnOk P w K mg base CX0 k (He.ga K f) fd ps sp ∧ Binds K fd ps [] ∧ PySem.W.keepIn K (.ref (He.ga K f)) = true ∧ mg f = some (.ref (He.ga K f))
theorem pe_callD {X : Cx} {k : Nat} {f : Str} {ps : List Str} {sp : Sp} {p pos : Pos} {e : Expr} {es : List Expr} {t : TA} (G : Ok X.prog X.w X.K X.mg X.base k f ps sp) (hr : Room k X.A) (ha : PA X (e :: es) t) (hg : Gl X f := by rfl) (hdb : (f == ("__debug__" : Str)) = false := by decide)
    (he : starEach (e :: es) X.env = (false, eval e X.env) :: starEach es X.env := by rfl) (hpl : (backTo pos (starEach es X.env)).any (·.1) = false := by rfl) : PE X (.Call (.Name f p) (e :: es) [] pos) (tCall sp [] E0 t) := by
  obtain ⟨fd, G, b, kp, m⟩ := G
  exact pe_call G hr hg m kp b .nil pass0 ha hdb he hpl
section
variable {P : Program} {w : World} {K : PySem.W.Frag} {mg : Str → Option Value} {base : Heap}
theorem ok_of {f : Str} {st : Stmt} {N ps : List Str} {k : Nat} {sp : Sp} (F : (∃ fd, FnP K f st (He.ga K f) fd) ∧ mg f = some (.ref (He.ga K f))) (S : FnScope N ps (defScope st))
    (hb : ∀ (kV doc pm : Value) (an : Option Addr) (cdv ct : Value) (us : List Value), us.length = ps.length → bindArgs (PySem.W.fnOf f f (defArgs st) (defBody st) (defScope st) .none kV doc pm an cdv ct) ⟨us, []⟩ = pure (ps.zip us))
    (len : ∀ vs H Q E, sp vs H Q E → vs.length = ps.length)
    (hbody : ∀ (cdv : Value) (A : Around) (outer : List Env) (s : Shared) (H : Hp) (vs : List V) (Q : VK) (E : XK), Room k (A.deeper (envOfC f (defScope st) s.heap.objs.size (He.ga K f) cdv)) → sp vs H Q E →
      ∃ t, PSs (cxOf CX0 P w K mg base N f (defScope st) (He.ga K f) cdv A outer s H E).nox (defBody st) t ∧ t { nx := fun _ H' => Q .non H', rt := Q } (start N vs) H) : Ok P w K mg base (k + 1) f ps sp := by
  obtain ⟨⟨fd, F⟩, m⟩ := F
  refine ⟨fd, F.ok S len fun cdv A outer s H vs Q E hr h => ?_, F.bindsN hb, F.kp, m⟩
  obtain ⟨t, q1, q2⟩ := hbody cdv A outer s H vs Q E hr h
  exact ⟨t, q1.nox, q2⟩
end
theorem hu64 {A : Around} {k : Nat} (hr : Room k A) : A.units + 64 < cLine := hr.units
theorem hu65 {A : Around} {k : Nat} (hr : Room k A) : A.units + 65 < cLine := by
  have := hr.un
  omega

/-! ### lists of numbers -/
def vN (n : Nat) : V := .int n
theorem tds_nats {H : Hp} : ∀ ns : List Nat, TDs H (ns.map vN) (ns.map eNat)
  | [] => .nil
  | n :: ns => .cons (.int n) (tds_nats ns)
theorem tds_nats_inv {H : Hp} : ∀ {ns : List Nat} {vs : List V}, TDs H vs (ns.map eNat) → vs = ns.map vN
  | [], _, h => by cases h; rfl
  | n :: ns, _, h => by
    obtain ⟨v, r, rfl, h1, h2⟩ := TDs.consI h
    rw [TD.intI h1, tds_nats_inv h2]
    rfl
theorem tds_bools_inv {H : Hp} : ∀ {ns : List Bool} {vs : List V}, TDs H vs (ns.map PyData.bool) → vs = ns.map V.bl
  | [], _, h => by cases h; rfl
  | n :: ns, _, h => by
    obtain ⟨v, r, rfl, h1, h2⟩ := TDs.consI h
    cases h1
    rw [tds_bools_inv h2]
    rfl
theorem TD.pairI {α β : Type} {e : α → PyData} {f : β → PyData} {H : Hp} {v : V} {p : α × β} (h : TD H v (eP e f p)) : ∃ a x y, v = .ref a ∧ H a = some (.tup [x, y]) ∧ TD H x (e p.1) ∧ TD H y (f p.2) := by
  obtain ⟨a, xs, rfl, h1, h2⟩ := TD.tupI h
  obtain ⟨x, r, rfl, q1, q2⟩ := TDs.consI h2
  obtain ⟨y, r2, rfl, q3, q4⟩ := TDs.consI q2
  rw [TDs.nilI q4] at h1
  exact ⟨a, x, y, rfl, h1, q1, q3⟩
theorem TD.listI {α : Type} {e : α → PyData} {H : Hp} {v : V} {l : List α} (h : TD H v (eT e l)) : ∃ a xs, v = .ref a ∧ H a = some (.tup xs) ∧ TDs H xs (l.map e) := TD.tupI h
/-- a joint's value -/
theorem TD.jI {H : Hp} {v : V} {j : Jt} (h : TD H v (eJ j)) : ∃ a, v = .ref a ∧ H a = some (.tup [.int j.1, .int j.2]) := by
  obtain ⟨a, x, y, rfl, h1, h2, h3⟩ := TD.pairI h
  rw [TD.intI h2, TD.intI h3] at h1
  exact ⟨a, rfl, h1⟩
theorem TD.jM {H : Hp} {a : Addr} {i j : Nat} (h : H a = some (.tup [.int i, .int j])) : TD H (.ref a) (eJ (i, j)) := .tup h (.cons (.int _) (.cons (.int _) .nil))
/-- a lay's value -/
theorem TD.lI {H : Hp} {v : V} {l : Lay} (h : TD H v (eL l)) : ∃ a b xs, v = .ref a ∧ H a = some (.tup [.int l.1, .ref b]) ∧ H b = some (.tup xs) ∧ TDs H xs (l.2.map eJ) := by
  obtain ⟨a, x, y, rfl, h1, h2, h3⟩ := TD.pairI h
  obtain ⟨b, xs, rfl, q1, q2⟩ := TD.listI h3
  rw [TD.intI h2] at h1
  exact ⟨a, b, xs, rfl, h1, q1, q2⟩
theorem TD.lM {H : Hp} {a b : Addr} {xs : List V} {n : Nat} {J : List Jt} (h : H a = some (.tup [.int n, .ref b])) (h1 : H b = some (.tup xs)) (h2 : TDs H xs (J.map eJ)) : TD H (.ref a) (eL (n, J)) := .tup h (.cons (.int _) (.cons (.tup h1 h2) .nil))
/-- a step's value -/
theorem TD.sI {H : Hp} {v : V} {l : Stp} (h : TD H v (eS l)) : ∃ a b c xs ys, v = .ref a ∧ H a = some (.tup [.ref b, .ref c]) ∧ H b = some (.tup xs) ∧ TDs H xs (l.1.map eJ) ∧ H c = some (.tup ys) ∧ TDs H ys (l.2.map eJ) := by
  obtain ⟨a, x, y, rfl, h1, h2, h3⟩ := TD.pairI h
  obtain ⟨b, xs, rfl, q1, q2⟩ := TD.listI h2
  obtain ⟨c, ys, rfl, q3, q4⟩ := TD.listI h3
  exact ⟨a, b, c, xs, ys, rfl, h1, q1, q2, q3, q4⟩

/-! ### comprehensions over anything walked: f tells what a turn gives -/
theorem filterMap_range_succ {β : Type} (f : Nat → Option β) (i : Nat) : (List.range (i + 1)).filterMap f = (List.range i).filterMap f ++ (match f i with | some z => [z] | none => []) := by
  rw [List.range_succ, List.filterMap_append]
  congr 1
  cases h : f i <;> simp [h]
theorem filterMap_range_le {β : Type} (f : Nat → Option β) (i : Nat) : ((List.range i).filterMap f).length ≤ i := by
  have := List.length_filterMap_le f (List.range i)
  rw [List.length_range] at this
  exact this
section
variable {J : It} {n : Nat} {G : Hp → Prop} {Y : Nat → Hp → V → Hp → Prop}
theorem lc_fm (w : Walk J n G Y) {β : Type} (e : β → PyData) (f : Nat → Option β) {g : TG} {tt : TT} {te : TE} {vs : List Nat} {σ : L2.St} {H1 : Hp} {D : Addr} {Qd : Hp → Prop} (hD : H1 D = none) (hn : n < sizeLine) (hG : ∀ H, Same H1 H → G H)
    (hs : ∀ (i : Nat) (x : V) (H H' : Hp) (N : V → Hp → Prop) (M : Hp → Prop), i < n → Same H1 H → Y i H x H' → (∀ y H4 z, f i = some z → Same H H4 → TD H4 y (e z) → N y H4) → (∀ H3, f i = none → Same H H3 → M H3) →
      g x (wipe σ vs) H' fun σ2 H2 => wipe σ2 vs = wipe σ vs ∧ tt σ2 H2 fun b H3 => if b = true then te σ2 H3 N else M H3)
    (hd : ∀ H ys, Same H1 H → H D = some (.lst ys) → TDs H ys (((List.range n).filterMap f).map e) → Qd H) :
    ∃ W : Nat → Nat → Hp → Prop, (∃ m, W 0 m (upd H1 D (.lst []))) ∧ ∀ i m H, W i m H →
      (J.stop i H ∧ Qd H) ∨ (J.go i H ∧ ∃ Nx : Hp → Prop, (∀ H', Nx H' → ∃ m', m' < m ∧ W (i + 1) m' H') ∧ ∀ x H', J.yld i H x H' → g x (wipe σ vs) H' fun σ2 H2 => wipe σ2 vs = wipe σ vs ∧ tt σ2 H2 fun b H3 =>
        if b = true then te σ2 H3 fun y H4 => ∃ acc, H4 D = some (.lst acc) ∧ acc.length < sizeLine ∧ Nx (upd H4 D (.lst (acc ++ [y]))) else Nx H3) := by
  refine lc_it w (fun i H => Same H1 H ∧ ∃ ys, H D = some (.lst ys) ∧ TDs H ys (((List.range i).filterMap f).map e)) ⟨same_upd hD, [], upd_same, .nil⟩ (fun i H _ p => hG H p.1) (fun i x H H' hi p y => ?_) (fun H p => ?_)
  · obtain ⟨s, ys, hy, ht⟩ := p
    refine hs i x H H' _ _ hi s y (fun v H4 z hz s4 tv => ?_) (fun H3 hz s3 => ?_)
    · have hl : ys.length < sizeLine := by
        have h1 := ht.len
        rw [List.length_map] at h1
        have h2 := filterMap_range_le f i
        omega
      refine ⟨ys, s4 _ _ hy, hl, samePut (s.trans s4) hD, _, upd_same, ?_⟩
      rw [filterMap_range_succ, hz, List.map_append]
      exact ((ht.by s4).snoc tv).to (tupS_lst (s4 _ _ hy))
    · refine ⟨s.trans s3, ys, s3 _ _ hy, ?_⟩
      rw [filterMap_range_succ, hz, List.append_nil]
      exact ht.by s3
  · obtain ⟨s, ys, hy, ht⟩ := p
    exact hd H ys s hy ht
end
theorem filterMap_get {α β : Type} (f : α → Option β) : ∀ l : List α, (List.range l.length).filterMap (fun i => (l[i]?).bind f) = l.filterMap f
  | [] => rfl
  | a :: l => by
    have ih := filterMap_get f l
    rw [List.length_cons, List.range_succ_eq_map, List.filterMap_cons, List.filterMap_map]
    have e1 : ((fun i => ((a :: l)[i]?).bind f) ∘ Nat.succ) = fun i => (l[i]?).bind f := by
      funext i
      simp
    rw [e1, ih, List.filterMap_cons]
    simp
/-- the walked things read as the members of l -/
theorem lc_src {J : It} {G : Hp → Prop} {xs : List V} (w : Walk J xs.length G (YAt xs)) {α β : Type} {e0 : α → PyData} {l : List α} (e : β → PyData) (f : α → Option β) {g : TG} {tt : TT} {te : TE} {vs : List Nat} {σ : L2.St} {H1 : Hp} {D : Addr} {Qd : Hp → Prop} (hD : H1 D = none)
    (hn : l.length < sizeLine) (hx : TDs H1 xs (l.map e0)) (hG : ∀ H, Same H1 H → G H)
    (hs : ∀ (a : α) (x : V) (H : Hp) (N : V → Hp → Prop) (M : Hp → Prop), a ∈ l → Same H1 H → TD H x (e0 a) → (∀ y H4 z, f a = some z → Same H H4 → TD H4 y (e z) → N y H4) → (∀ H3, f a = none → Same H H3 → M H3) →
      g x (wipe σ vs) H fun σ2 H2 => wipe σ2 vs = wipe σ vs ∧ tt σ2 H2 fun b H3 => if b = true then te σ2 H3 N else M H3)
    (hd : ∀ H ys, Same H1 H → H D = some (.lst ys) → TDs H ys ((l.filterMap f).map e) → Qd H) :
    ∃ W : Nat → Nat → Hp → Prop, (∃ m, W 0 m (upd H1 D (.lst []))) ∧ ∀ i m H, W i m H →
      (J.stop i H ∧ Qd H) ∨ (J.go i H ∧ ∃ Nx : Hp → Prop, (∀ H', Nx H' → ∃ m', m' < m ∧ W (i + 1) m' H') ∧ ∀ x H', J.yld i H x H' → g x (wipe σ vs) H' fun σ2 H2 => wipe σ2 vs = wipe σ vs ∧ tt σ2 H2 fun b H3 =>
        if b = true then te σ2 H3 fun y H4 => ∃ acc, H4 D = some (.lst acc) ∧ acc.length < sizeLine ∧ Nx (upd H4 D (.lst (acc ++ [y]))) else Nx H3) := by
  have hl : xs.length = l.length := by
    have := hx.len
    rw [List.length_map] at this
    exact this
  refine lc_fm w e (fun i => (l[i]?).bind f) hD (by omega) hG (fun i x H H' N M hi s y kN kM => ?_) (fun H ys s hy ht => hd H ys s hy ?_)
  · obtain ⟨rfl, hxi⟩ := y
    obtain ⟨d, hd1, hd2⟩ := hx.get hxi
    rw [List.getElem?_map] at hd1
    cases ha : l[i]? with
    | none => rw [ha] at hd1; cases hd1
    | some a =>
      rw [ha] at hd1 kN kM
      have e1 : e0 a = d := Option.some.inj hd1
      subst e1
      exact hs a x H' N M (List.mem_of_getElem? ha) s (hd2.by s) kN kM
  · rw [hl, filterMap_get] at ht
    exact ht
end DC
end

section
set_option Elab.async false
set_option linter.all false
set_option maxRecDepth 100000
set_option maxHeartbeats 4000000
namespace DC
open PySem PySem.Spec PyProof.Rows L2
/-! ### what the top holds, by names -/
theorem bt_isinstance : bootBuiltins "isinstance" = some (.builtin "isinstance") := by decide +kernel
theorem bt_len : bootBuiltins "len" = some (.builtin "len") := by decide +kernel
theorem bt_all : bootBuiltins "all" = some (.builtin "all") := by decide +kernel
theorem bt_enumerate : bootBuiltins "enumerate" = some (.type "enumerate") := by decide +kernel
theorem bt_sorted : bootBuiltins "sorted" = some (.builtin "sorted") := by decide +kernel
theorem bt_list : bootBuiltins "list" = some (.type "list") := by decide +kernel
theorem bt_range : bootBuiltins "range" = some (.type "range") := by decide +kernel
theorem bt_tuple : bootBuiltins "tuple" = some (.type "tuple") := by decide +kernel
theorem bt_abs : bootBuiltins "abs" = some (.builtin "abs") := by decide +kernel
theorem bt_min : bootBuiltins "min" = some (.builtin "min") := by decide +kernel
theorem bt_max : bootBuiltins "max" = some (.builtin "max") := by decide +kernel
theorem bt_sum : bootBuiltins "sum" = some (.builtin "sum") := by decide +kernel
theorem bt_repr : bootBuiltins "repr" = some (.builtin "repr") := by decide +kernel
theorem bt_int : bootBuiltins "int" = some (.type "int") := by decide +kernel
theorem bt_bool : bootBuiltins "bool" = some (.type "bool") := by decide +kernel
structure TX (K : PySem.W.Frag) (mg : Str → Option Value) : Prop where
  f_is_whole : (∃ fd, FnP K "is_whole" s_is_whole (He.ga K "is_whole") fd) ∧ mg "is_whole" = some (.ref (He.ga K "is_whole"))
  f_is_joint : (∃ fd, FnP K "is_joint" s_is_joint (He.ga K "is_joint") fd) ∧ mg "is_joint" = some (.ref (He.ga K "is_joint"))
  f_wrong_place : (∃ fd, FnP K "wrong_place" s_wrong_place (He.ga K "wrong_place") fd) ∧ mg "wrong_place" = some (.ref (He.ga K "wrong_place"))
  f_need_lay : (∃ fd, FnP K "need_lay" s_need_lay (He.ga K "need_lay") fd) ∧ mg "need_lay" = some (.ref (He.ga K "need_lay"))
  f_need_two : (∃ fd, FnP K "need_two" s_need_two (He.ga K "need_two") fd) ∧ mg "need_two" = some (.ref (He.ga K "need_two"))
  f_need_link : (∃ fd, FnP K "need_link" s_need_link (He.ga K "need_link") fd) ∧ mg "need_link" = some (.ref (He.ga K "need_link"))
  f_fellow_of : (∃ fd, FnP K "fellow_of" s_fellow_of (He.ga K "fellow_of") fd) ∧ mg "fellow_of" = some (.ref (He.ga K "fellow_of"))
  f_joint_of : (∃ fd, FnP K "joint_of" s_joint_of (He.ga K "joint_of") fd) ∧ mg "joint_of" = some (.ref (He.ga K "joint_of"))
  f_mates_in : (∃ fd, FnP K "mates_in" s_mates_in (He.ga K "mates_in") fd) ∧ mg "mates_in" = some (.ref (He.ga K "mates_in"))
  f_free_in : (∃ fd, FnP K "free_in" s_free_in (He.ga K "free_in") fd) ∧ mg "free_in" = some (.ref (He.ga K "free_in"))
  f_lay_with : (∃ fd, FnP K "lay_with" s_lay_with (He.ga K "lay_with") fd) ∧ mg "lay_with" = some (.ref (He.ga K "lay_with"))
  f_is_order : (∃ fd, FnP K "is_order" s_is_order (He.ga K "is_order") fd) ∧ mg "is_order" = some (.ref (He.ga K "is_order"))
  f_renamed : (∃ fd, FnP K "renamed" s_renamed (He.ga K "renamed") fd) ∧ mg "renamed" = some (.ref (He.ga K "renamed"))
  f_without : (∃ fd, FnP K "without" s_without (He.ga K "without") fd) ∧ mg "without" = some (.ref (He.ga K "without"))
  f_beside : (∃ fd, FnP K "beside" s_beside (He.ga K "beside") fd) ∧ mg "beside" = some (.ref (He.ga K "beside"))
  f_doubles_of : (∃ fd, FnP K "doubles_of" s_doubles_of (He.ga K "doubles_of") fd) ∧ mg "doubles_of" = some (.ref (He.ga K "doubles_of"))
  f_steps_in : (∃ fd, FnP K "steps_in" s_steps_in (He.ga K "steps_in") fd) ∧ mg "steps_in" = some (.ref (He.ga K "steps_in"))
  f_has_form : (∃ fd, FnP K "has_form" s_has_form (He.ga K "has_form") fd) ∧ mg "has_form" = some (.ref (He.ga K "has_form"))
  f_is_step_in : (∃ fd, FnP K "is_step_in" s_is_step_in (He.ga K "is_step_in") fd) ∧ mg "is_step_in" = some (.ref (He.ga K "is_step_in"))
  f_after : (∃ fd, FnP K "after" s_after (He.ga K "after") fd) ∧ mg "after" = some (.ref (He.ga K "after"))
  f_step_between : (∃ fd, FnP K "step_between" s_step_between (He.ga K "step_between") fd) ∧ mg "step_between" = some (.ref (He.ga K "step_between"))
  f_row_from : (∃ fd, FnP K "row_from" s_row_from (He.ga K "row_from") fd) ∧ mg "row_from" = some (.ref (He.ga K "row_from"))
  f_rows_in : (∃ fd, FnP K "rows_in" s_rows_in (He.ga K "rows_in") fd) ∧ mg "rows_in" = some (.ref (He.ga K "rows_in"))
  f_kind_of : (∃ fd, FnP K "kind_of" s_kind_of (He.ga K "kind_of") fd) ∧ mg "kind_of" = some (.ref (He.ga K "kind_of"))
  f_pieces_in : (∃ fd, FnP K "pieces_in" s_pieces_in (He.ga K "pieces_in") fd) ∧ mg "pieces_in" = some (.ref (He.ga K "pieces_in"))
  f_cost_of : (∃ fd, FnP K "cost_of" s_cost_of (He.ga K "cost_of") fd) ∧ mg "cost_of" = some (.ref (He.ga K "cost_of"))
  f_cost_in : (∃ fd, FnP K "cost_in" s_cost_in (He.ga K "cost_in") fd) ∧ mg "cost_in" = some (.ref (He.ga K "cost_in"))
  f_pieces : (∃ fd, FnP K "pieces" s_pieces (He.ga K "pieces") fd) ∧ mg "pieces" = some (.ref (He.ga K "pieces"))
  f_least_steps : (∃ fd, FnP K "least_steps" s_least_steps (He.ga K "least_steps") fd) ∧ mg "least_steps" = some (.ref (He.ga K "least_steps"))
  f_is_between : (∃ fd, FnP K "is_between" s_is_between (He.ga K "is_between") fd) ∧ mg "is_between" = some (.ref (He.ga K "is_between"))
  f_wrong_step : (∃ fd, FnP K "wrong_step" s_wrong_step (He.ga K "wrong_step") fd) ∧ mg "wrong_step" = some (.ref (He.ga K "wrong_step"))
  f_need_history : (∃ fd, FnP K "need_history" s_need_history (He.ga K "need_history") fd) ∧ mg "need_history" = some (.ref (He.ga K "need_history"))
  f_lays_in_turn : (∃ fd, FnP K "lays_in_turn" s_lays_in_turn (He.ga K "lays_in_turn") fd) ∧ mg "lays_in_turn" = some (.ref (He.ga K "lays_in_turn"))
  f_end_of : (∃ fd, FnP K "end_of" s_end_of (He.ga K "end_of") fd) ∧ mg "end_of" = some (.ref (He.ga K "end_of"))
  f_last_lay : (∃ fd, FnP K "last_lay" s_last_lay (He.ga K "last_lay") fd) ∧ mg "last_lay" = some (.ref (He.ga K "last_lay"))
  f_lays_along : (∃ fd, FnP K "lays_along" s_lays_along (He.ga K "lays_along") fd) ∧ mg "lays_along" = some (.ref (He.ga K "lays_along"))
  f_plain_history : (∃ fd, FnP K "plain_history" s_plain_history (He.ga K "plain_history") fd) ∧ mg "plain_history" = some (.ref (He.ga K "plain_history"))
  f_good_steps_in : (∃ fd, FnP K "good_steps_in" s_good_steps_in (He.ga K "good_steps_in") fd) ∧ mg "good_steps_in" = some (.ref (He.ga K "good_steps_in"))
  f_one_in : (∃ fd, FnP K "one_in" s_one_in (He.ga K "one_in") fd) ∧ mg "one_in" = some (.ref (He.ga K "one_in"))
  f_a_least : (∃ fd, FnP K "a_least" s_a_least (He.ga K "a_least") fd) ∧ mg "a_least" = some (.ref (He.ga K "a_least"))
  f_common : (∃ fd, FnP K "common" s_common (He.ga K "common") fd) ∧ mg "common" = some (.ref (He.ga K "common"))
  f__law_mixed : (∃ fd, FnP K "_law_mixed" s__law_mixed (He.ga K "_law_mixed") fd) ∧ mg "_law_mixed" = some (.ref (He.ga K "_law_mixed"))
  f__law_folded : (∃ fd, FnP K "_law_folded" s__law_folded (He.ga K "_law_folded") fd) ∧ mg "_law_folded" = some (.ref (He.ga K "_law_folded"))
  f__law_draw : (∃ fd, FnP K "_law_draw" s__law_draw (He.ga K "_law_draw") fd) ∧ mg "_law_draw" = some (.ref (He.ga K "_law_draw"))
  f__law_begun : (∃ fd, FnP K "_law_begun" s__law_begun (He.ga K "_law_begun") fd) ∧ mg "_law_begun" = some (.ref (He.ga K "_law_begun"))
  f__law_like : (∃ fd, FnP K "_law_like" s__law_like (He.ga K "_law_like") fd) ∧ mg "_law_like" = some (.ref (He.ga K "_law_like"))
  f__law_of : (∃ fd, FnP K "_law_of" s__law_of (He.ga K "_law_of") fd) ∧ mg "_law_of" = some (.ref (He.ga K "_law_of"))
  f__law_shuffled : (∃ fd, FnP K "_law_shuffled" s__law_shuffled (He.ga K "_law_shuffled") fd) ∧ mg "_law_shuffled" = some (.ref (He.ga K "_law_shuffled"))
  f__law_lay : (∃ fd, FnP K "_law_lay" s__law_lay (He.ga K "_law_lay") fd) ∧ mg "_law_lay" = some (.ref (He.ga K "_law_lay"))
  f__law_pair : (∃ fd, FnP K "_law_pair" s__law_pair (He.ga K "_law_pair") fd) ∧ mg "_law_pair" = some (.ref (He.ga K "_law_pair"))
  f__law_mates : (∃ fd, FnP K "_law_mates" s__law_mates (He.ga K "_law_mates") fd) ∧ mg "_law_mates" = some (.ref (He.ga K "_law_mates"))
  f__law_free : (∃ fd, FnP K "_law_free" s__law_free (He.ga K "_law_free") fd) ∧ mg "_law_free" = some (.ref (He.ga K "_law_free"))
  f__law_steps : (∃ fd, FnP K "_law_steps" s__law_steps (He.ga K "_law_steps") fd) ∧ mg "_law_steps" = some (.ref (He.ga K "_law_steps"))
  f__law_after : (∃ fd, FnP K "_law_after" s__law_after (He.ga K "_law_after") fd) ∧ mg "_law_after" = some (.ref (He.ga K "_law_after"))
  f__law_far : (∃ fd, FnP K "_law_far" s__law_far (He.ga K "_law_far") fd) ∧ mg "_law_far" = some (.ref (He.ga K "_law_far"))
  f__law_between_right : (∃ fd, FnP K "_law_between_right" s__law_between_right (He.ga K "_law_between_right") fd) ∧ mg "_law_between_right" = some (.ref (He.ga K "_law_between_right"))
  f__law_common_right : (∃ fd, FnP K "_law_common_right" s__law_common_right (He.ga K "_law_common_right") fd) ∧ mg "_law_common_right" = some (.ref (He.ga K "_law_common_right"))
  f__law_moved_right : (∃ fd, FnP K "_law_moved_right" s__law_moved_right (He.ga K "_law_moved_right") fd) ∧ mg "_law_moved_right" = some (.ref (He.ga K "_law_moved_right"))
  f_law : (∃ fd, FnP K "law" s_law (He.ga K "law") fd) ∧ mg "law" = some (.ref (He.ga K "law"))
  z_isinstance : mg "isinstance" = none
  z_len : mg "len" = none
  z_all : mg "all" = none
  z_enumerate : mg "enumerate" = none
  z_sorted : mg "sorted" = none
  z_list : mg "list" = none
  z_range : mg "range" = none
  z_tuple : mg "tuple" = none
  z_abs : mg "abs" = none
  z_min : mg "min" = none
  z_max : mg "max" = none
  z_sum : mg "sum" = none
  z_repr : mg "repr" = none
  z_int : mg "int" = none
  z_bool : mg "bool" = none
  c_MOST_LINKS : ∃ t, mg "MOST_LINKS" = some (.int 12 t)
  c_MOST_JOINTS : ∃ t, mg "MOST_JOINTS" = some (.int 2 t)
  c_RING : ∃ t, mg "RING" = some (.str "ring" t)
  c_ODD : ∃ t, mg "ODD" = some (.str "odd" t)
  c_OPEN : ∃ t, mg "OPEN" = some (.str "open" t)
  c_SHUT : ∃ t, mg "SHUT" = some (.str "shut" t)
  c_MOST_STEPS : ∃ t, mg "MOST_STEPS" = some (.int 60 t)
theorem pe_gInt {X : Cx} {x : Str} {i : Int} {pos : Pos} (h : ∃ t, X.mg x = some (.int i t)) (hg : Gl X x := by rfl) (hd : (x == ("__debug__" : Str)) = false := by decide) : PE X (.Name x pos) (tC (.int i)) := by
  obtain ⟨t, h⟩ := h
  exact pe_glob hg h ⟨_, rfl⟩ hd
theorem pe_gStr {X : Cx} {x i : Str} {pos : Pos} (h : ∃ t, X.mg x = some (.str i t)) (hg : Gl X x := by rfl) (hd : (x == ("__debug__" : Str)) = false := by decide) : PE X (.Name x pos) (tC (.str i)) := by
  obtain ⟨t, h⟩ := h
  exact pe_glob hg h ⟨_, rfl⟩ hd
abbrev N_is_whole : List Str := ["value", "least", "most"]
theorem sc_is_whole : FnScope N_is_whole ["value", "least", "most"] (defScope s_is_whole) := ⟨rfl, rfl, rfl, by decide +kernel, rfl, by decide +kernel, by decide +kernel⟩
abbrev N_is_joint : List Str := ["links", "value", "end"]
theorem sc_is_joint : FnScope N_is_joint ["links", "value"] (defScope s_is_joint) := ⟨rfl, rfl, rfl, by decide +kernel, rfl, by decide +kernel, by decide +kernel⟩
abbrev N_wrong_place : List Str := ["value", "used", "last", "number", "joint"]
theorem sc_wrong_place : FnScope N_wrong_place ["value"] (defScope s_wrong_place) := ⟨rfl, rfl, rfl, by decide +kernel, rfl, by decide +kernel, by decide +kernel⟩
abbrev N_need_lay : List Str := ["lay", "place"]
theorem sc_need_lay : FnScope N_need_lay ["lay"] (defScope s_need_lay) := ⟨rfl, rfl, rfl, by decide +kernel, rfl, by decide +kernel, by decide +kernel⟩
abbrev N_need_two : List Str := ["one", "other"]
theorem sc_need_two : FnScope N_need_two ["one", "other"] (defScope s_need_two) := ⟨rfl, rfl, rfl, by decide +kernel, rfl, by decide +kernel, by decide +kernel⟩
abbrev N_need_link : List Str := ["lay", "link"]
theorem sc_need_link : FnScope N_need_link ["lay", "link"] (defScope s_need_link) := ⟨rfl, rfl, rfl, by decide +kernel, rfl, by decide +kernel, by decide +kernel⟩
abbrev N_fellow_of : List Str := ["end"]
theorem sc_fellow_of : FnScope N_fellow_of ["end"] (defScope s_fellow_of) := ⟨rfl, rfl, rfl, by decide +kernel, rfl, by decide +kernel, by decide +kernel⟩
abbrev N_joint_of : List Str := ["one", "other"]
theorem sc_joint_of : FnScope N_joint_of ["one", "other"] (defScope s_joint_of) := ⟨rfl, rfl, rfl, by decide +kernel, rfl, by decide +kernel, by decide +kernel⟩
abbrev N_mates_in : List Str := ["lay", "found", "one", "other"]
theorem sc_mates_in : FnScope N_mates_in ["lay"] (defScope s_mates_in) := ⟨rfl, rfl, rfl, by decide +kernel, rfl, by decide +kernel, by decide +kernel⟩
abbrev N_free_in : List Str := ["lay", "end", "mate"]
theorem sc_free_in : FnScope N_free_in ["lay"] (defScope s_free_in) := ⟨rfl, rfl, rfl, by decide +kernel, rfl, by decide +kernel, by decide +kernel⟩
abbrev N_lay_with : List Str := ["links", "joints"]
theorem sc_lay_with : FnScope N_lay_with ["links", "joints"] (defScope s_lay_with) := ⟨rfl, rfl, rfl, by decide +kernel, rfl, by decide +kernel, by decide +kernel⟩
abbrev N_is_order : List Str := ["links", "value", "name"]
theorem sc_is_order : FnScope N_is_order ["links", "value"] (defScope s_is_order) := ⟨rfl, rfl, rfl, by decide +kernel, rfl, by decide +kernel, by decide +kernel⟩
abbrev N_renamed : List Str := ["lay", "order", "names", "link", "name", "near", "one", "other"]
theorem sc_renamed : FnScope N_renamed ["lay", "order"] (defScope s_renamed) := ⟨rfl, rfl, rfl, by decide +kernel, rfl, by decide +kernel, by decide +kernel⟩
abbrev N_without : List Str := ["lay", "link", "ends", "mates", "kept", "near", "far", "lower", "joint", "end"]
theorem sc_without : FnScope N_without ["lay", "link"] (defScope s_without) := ⟨rfl, rfl, rfl, by decide +kernel, rfl, by decide +kernel, by decide +kernel⟩
abbrev N_beside : List Str := ["one", "other", "more", "near", "far"]
theorem sc_beside : FnScope N_beside ["one", "other"] (defScope s_beside) := ⟨rfl, rfl, rfl, by decide +kernel, rfl, by decide +kernel, by decide +kernel⟩
abbrev N_doubles_of : List Str := ["one", "other", "near", "far", "found", "end", "rest", "made"]
theorem sc_doubles_of : FnScope N_doubles_of ["one", "other"] (defScope s_doubles_of) := ⟨rfl, rfl, rfl, by decide +kernel, rfl, by decide +kernel, by decide +kernel⟩
abbrev N_steps_in : List Str := ["lay", "joints", "free", "found", "place", "one", "end", "other"]
theorem sc_steps_in : FnScope N_steps_in ["lay"] (defScope s_steps_in) := ⟨rfl, rfl, rfl, by decide +kernel, rfl, by decide +kernel, by decide +kernel⟩
abbrev N_has_form : List Str := ["lay", "value", "side", "joint"]
theorem sc_has_form : FnScope N_has_form ["lay", "value"] (defScope s_has_form) := ⟨rfl, rfl, rfl, by decide +kernel, rfl, by decide +kernel, by decide +kernel⟩
abbrev N_is_step_in : List Str := ["lay", "value"]
theorem sc_is_step_in : FnScope N_is_step_in ["lay", "value"] (defScope s_is_step_in) := ⟨rfl, rfl, rfl, by decide +kernel, rfl, by decide +kernel, by decide +kernel⟩
abbrev N_after : List Str := ["lay", "step", "cut", "made", "joint"]
theorem sc_after : FnScope N_after ["lay", "step"] (defScope s_after) := ⟨rfl, rfl, rfl, by decide +kernel, rfl, by decide +kernel, by decide +kernel⟩
abbrev N_step_between : List Str := ["one", "other", "cut", "made", "joint"]
theorem sc_step_between : FnScope N_step_between ["one", "other"] (defScope s_step_between) := ⟨rfl, rfl, rfl, by decide +kernel, rfl, by decide +kernel, by decide +kernel⟩
abbrev N_row_from : List Str := ["mates", "begin", "turn", "found", "here"]
theorem sc_row_from : FnScope N_row_from ["mates", "begin", "turn"] (defScope s_row_from) := ⟨rfl, rfl, rfl, by decide +kernel, rfl, by decide +kernel, by decide +kernel⟩
abbrev N_rows_in : List Str := ["one", "other", "mates", "taken", "found", "end", "lasts", "row", "here"]
theorem sc_rows_in : FnScope N_rows_in ["one", "other"] (defScope s_rows_in) := ⟨rfl, rfl, rfl, by decide +kernel, rfl, by decide +kernel, by decide +kernel⟩
abbrev N_kind_of : List Str := ["one", "other", "row", "mates"]
theorem sc_kind_of : FnScope N_kind_of ["one", "other", "row"] (defScope s_kind_of) := ⟨rfl, rfl, rfl, by decide +kernel, rfl, by decide +kernel, by decide +kernel⟩
abbrev N_pieces_in : List Str := ["one", "other", "row"]
theorem sc_pieces_in : FnScope N_pieces_in ["one", "other"] (defScope s_pieces_in) := ⟨rfl, rfl, rfl, by decide +kernel, rfl, by decide +kernel, by decide +kernel⟩
abbrev N_cost_of : List Str := ["piece"]
theorem sc_cost_of : FnScope N_cost_of ["piece"] (defScope s_cost_of) := ⟨rfl, rfl, rfl, by decide +kernel, rfl, by decide +kernel, by decide +kernel⟩
abbrev N_cost_in : List Str := ["one", "other", "piece"]
theorem sc_cost_in : FnScope N_cost_in ["one", "other"] (defScope s_cost_in) := ⟨rfl, rfl, rfl, by decide +kernel, rfl, by decide +kernel, by decide +kernel⟩
abbrev N_pieces : List Str := ["one", "other"]
theorem sc_pieces : FnScope N_pieces ["one", "other"] (defScope s_pieces) := ⟨rfl, rfl, rfl, by decide +kernel, rfl, by decide +kernel, by decide +kernel⟩
abbrev N_least_steps : List Str := ["one", "other"]
theorem sc_least_steps : FnScope N_least_steps ["one", "other"] (defScope s_least_steps) := ⟨rfl, rfl, rfl, by decide +kernel, rfl, by decide +kernel, by decide +kernel⟩
abbrev N_is_between : List Str := ["one", "third", "other", "lay"]
theorem sc_is_between : FnScope N_is_between ["one", "third", "other"] (defScope s_is_between) := ⟨rfl, rfl, rfl, by decide +kernel, rfl, by decide +kernel, by decide +kernel⟩
abbrev N_wrong_step : List Str := ["lay", "value", "number", "step"]
theorem sc_wrong_step : FnScope N_wrong_step ["lay", "value"] (defScope s_wrong_step) := ⟨rfl, rfl, rfl, by decide +kernel, rfl, by decide +kernel, by decide +kernel⟩
abbrev N_need_history : List Str := ["lay", "history", "number"]
theorem sc_need_history : FnScope N_need_history ["lay", "history"] (defScope s_need_history) := ⟨rfl, rfl, rfl, by decide +kernel, rfl, by decide +kernel, by decide +kernel⟩
abbrev N_lays_in_turn : List Str := ["lay", "history", "found", "step"]
theorem sc_lays_in_turn : FnScope N_lays_in_turn ["lay", "history"] (defScope s_lays_in_turn) := ⟨rfl, rfl, rfl, by decide +kernel, rfl, by decide +kernel, by decide +kernel⟩
abbrev N_end_of : List Str := ["lay", "history"]
theorem sc_end_of : FnScope N_end_of ["lay", "history"] (defScope s_end_of) := ⟨rfl, rfl, rfl, by decide +kernel, rfl, by decide +kernel, by decide +kernel⟩
abbrev N_last_lay : List Str := ["lay", "history"]
theorem sc_last_lay : FnScope N_last_lay ["lay", "history"] (defScope s_last_lay) := ⟨rfl, rfl, rfl, by decide +kernel, rfl, by decide +kernel, by decide +kernel⟩
abbrev N_lays_along : List Str := ["lay", "history"]
theorem sc_lays_along : FnScope N_lays_along ["lay", "history"] (defScope s_lays_along) := ⟨rfl, rfl, rfl, by decide +kernel, rfl, by decide +kernel, by decide +kernel⟩
abbrev N_plain_history : List Str := ["one", "other", "cuts", "joint"]
theorem sc_plain_history : FnScope N_plain_history ["one", "other"] (defScope s_plain_history) := ⟨rfl, rfl, rfl, by decide +kernel, rfl, by decide +kernel, by decide +kernel⟩
abbrev N_good_steps_in : List Str := ["one", "other", "due", "step"]
theorem sc_good_steps_in : FnScope N_good_steps_in ["one", "other"] (defScope s_good_steps_in) := ⟨rfl, rfl, rfl, by decide +kernel, rfl, by decide +kernel, by decide +kernel⟩
abbrev N_one_in : List Str := ["one", "other", "here", "found", "step"]
theorem sc_one_in : FnScope N_one_in ["one", "other"] (defScope s_one_in) := ⟨rfl, rfl, rfl, by decide +kernel, rfl, by decide +kernel, by decide +kernel⟩
abbrev N_a_least : List Str := ["one", "other"]
theorem sc_a_least : FnScope N_a_least ["one", "other"] (defScope s_a_least) := ⟨rfl, rfl, rfl, by decide +kernel, rfl, by decide +kernel, by decide +kernel⟩
abbrev N_common : List Str := ["one", "other", "joints", "free", "joint", "end"]
theorem sc_common : FnScope N_common ["one", "other"] (defScope s_common) := ⟨rfl, rfl, rfl, by decide +kernel, rfl, by decide +kernel, by decide +kernel⟩
abbrev N__law_mixed : List Str := ["_law_cell", "_law_n", "_law_blend"]
theorem sc__law_mixed : FnScope N__law_mixed ["_law_cell", "_law_n"] (defScope s__law_mixed) := ⟨rfl, rfl, rfl, by decide +kernel, rfl, by decide +kernel, by decide +kernel⟩
abbrev N__law_folded : List Str := ["_law_script", "_law_n", "_law_found", "_law_cell"]
theorem sc__law_folded : FnScope N__law_folded ["_law_script"] (defScope s__law_folded) := ⟨rfl, rfl, rfl, by decide +kernel, rfl, by decide +kernel, by decide +kernel⟩
abbrev N__law_draw : List Str := ["_law_m", "_law_limit", "_law_n", "_law_lot", "_law_here", "_law_cell"]
theorem sc__law_draw : FnScope N__law_draw ["_law_m", "_law_limit"] (defScope s__law_draw) := ⟨rfl, rfl, rfl, by decide +kernel, rfl, by decide +kernel, by decide +kernel⟩
abbrev N__law_begun : List Str := ["_law_script", "_law_m", "_law_cell"]
theorem sc__law_begun : FnScope N__law_begun ["_law_script"] (defScope s__law_begun) := ⟨rfl, rfl, rfl, by decide +kernel, rfl, by decide +kernel, by decide +kernel⟩
abbrev N__law_like : List Str := ["_law_got", "_law_due"]
theorem sc__law_like : FnScope N__law_like ["_law_got", "_law_due"] (defScope s__law_like) := ⟨rfl, rfl, rfl, by decide +kernel, rfl, by decide +kernel, by decide +kernel⟩
abbrev N__law_of : List Str := ["_law_m", "_law_some"]
theorem sc__law_of : FnScope N__law_of ["_law_m", "_law_some"] (defScope s__law_of) := ⟨rfl, rfl, rfl, by decide +kernel, rfl, by decide +kernel, by decide +kernel⟩
abbrev N__law_shuffled : List Str := ["_law_m", "_law_many", "_law_left", "_law_found"]
theorem sc__law_shuffled : FnScope N__law_shuffled ["_law_m", "_law_many"] (defScope s__law_shuffled) := ⟨rfl, rfl, rfl, by decide +kernel, rfl, by decide +kernel, by decide +kernel⟩
abbrev N__law_lay : List Str := ["_law_m", "_law_many", "_law_left", "_law_found", "_law_one"]
theorem sc__law_lay : FnScope N__law_lay ["_law_m", "_law_many"] (defScope s__law_lay) := ⟨rfl, rfl, rfl, by decide +kernel, rfl, by decide +kernel, by decide +kernel⟩
abbrev N__law_pair : List Str := ["_law_one", "_law_other"]
theorem sc__law_pair : FnScope N__law_pair ["_law_one", "_law_other"] (defScope s__law_pair) := ⟨rfl, rfl, rfl, by decide +kernel, rfl, by decide +kernel, by decide +kernel⟩
abbrev N__law_mates : List Str := ["_law_lay_here", "_law_found", "_law_one", "_law_other"]
theorem sc__law_mates : FnScope N__law_mates ["_law_lay_here"] (defScope s__law_mates) := ⟨rfl, rfl, rfl, by decide +kernel, rfl, by decide +kernel, by decide +kernel⟩
abbrev N__law_free : List Str := ["_law_lay_here", "_law_end", "_law_mate"]
theorem sc__law_free : FnScope N__law_free ["_law_lay_here"] (defScope s__law_free) := ⟨rfl, rfl, rfl, by decide +kernel, rfl, by decide +kernel, by decide +kernel⟩
abbrev N__law_steps : List Str := ["_law_lay_here", "_law_found", "_law_free_here", "_law_at", "_law_one", "_law_end", "_law_far_here", "_law_near", "_law_rest", "_law_made"]
theorem sc__law_steps : FnScope N__law_steps ["_law_lay_here"] (defScope s__law_steps) := ⟨rfl, rfl, rfl, by decide +kernel, rfl, by decide +kernel, by decide +kernel⟩
abbrev N__law_after : List Str := ["_law_lay_here", "_law_step", "_law_left", "_law_joint"]
theorem sc__law_after : FnScope N__law_after ["_law_lay_here", "_law_step"] (defScope s__law_after) := ⟨rfl, rfl, rfl, by decide +kernel, rfl, by decide +kernel, by decide +kernel⟩
abbrev N__law_far : List Str := ["_law_lay_here", "_law_goal", "_law_most", "_law_seen", "_law_last", "_law_turn", "_law_fresh", "_law_here", "_law_step", "_law_there"]
theorem sc__law_far : FnScope N__law_far ["_law_lay_here", "_law_goal", "_law_most"] (defScope s__law_far) := ⟨rfl, rfl, rfl, by decide +kernel, rfl, by decide +kernel, by decide +kernel⟩
abbrev N__law_between_right : List Str := ["_law_m", "_law_one", "_law_other", "_law_due", "_law_third", "_law_here", "_law_there", "_law_row", "_law_every", "_law_numbers", "_law_lay_here"]
theorem sc__law_between_right : FnScope N__law_between_right ["_law_m", "_law_one", "_law_other", "_law_due"] (defScope s__law_between_right) := ⟨rfl, rfl, rfl, by decide +kernel, rfl, by decide +kernel, by decide +kernel⟩
abbrev N__law_common_right : List Str := ["_law_one", "_law_other", "_law_due", "_law_size", "_law_big", "_law_row", "_law_alone", "_law_pair_here", "_law_joint"]
theorem sc__law_common_right : FnScope N__law_common_right ["_law_one", "_law_other", "_law_due"] (defScope s__law_common_right) := ⟨rfl, rfl, rfl, by decide +kernel, rfl, by decide +kernel, by decide +kernel⟩
abbrev N__law_moved_right : List Str := ["_law_m", "_law_one", "_law_other", "_law_due", "_law_order", "_law_near", "_law_far_here", "_law_link", "_law_small", "_law_both", "_law_name"]
theorem sc__law_moved_right : FnScope N__law_moved_right ["_law_m", "_law_one", "_law_other", "_law_due"] (defScope s__law_moved_right) := ⟨rfl, rfl, rfl, by decide +kernel, rfl, by decide +kernel, by decide +kernel⟩
abbrev N_law : List Str := ["_law_script", "_law_m", "_law_turn", "_law_many", "_law_one", "_law_other", "_law_due"]
theorem sc_law : FnScope N_law ["_law_script"] (defScope s_law) := ⟨rfl, rfl, rfl, by decide +kernel, rfl, by decide +kernel, by decide +kernel⟩
end DC
end

section
set_option Elab.async false
set_option linter.all false
set_option maxRecDepth 100000
set_option maxHeartbeats 4000000
namespace DC
open PySem PySem.Spec PyProof.Rows L2
theorem sqlSame {K : PySem.W.Frag} {H H' : Hp} {a : Addr} {xs : List V} (h : SqL K H a xs) (s : Same H H') : SqL K H' a xs := by
  rcases h with h | h
  · left
    rcases h with h | ⟨o, h⟩
    · exact .inl (s _ _ h)
    · exact .inr ⟨o, s _ _ h⟩
  · exact .inr h
/-! ### promises where no repr is under way -/
structure FnG (P : Program) (w : World) (K : PySem.W.Frag) (mg : Str → Option Value) (base : Heap) (CX : CXT) (k : Nat) (f : Addr) (fd : FuncData) (ps : List Str) (sp : Sp) : Prop where
  len : ∀ vs H Q E, sp vs H Q E → vs.length = ps.length
  run : ∀ (A : Around) (outer : List Env) (s : Shared) (H : Hp) (args : Args) (us : List Value) (vs : List V) (Q : VK) (E : XK), Room k A → A.guards = some [] → Env0 P w K mg base A outer s H → BindsTo s fd args (ps.zip us) → Vals vs us → sp vs H Q E →
    codeAny (model P w) A (.call (.ref f) args) (CR CX outer P w H s Q E) s
section
variable {P : Program} {w : World} {K : PySem.W.Frag} {mg : Str → Option Value} {base : Heap}
theorem fnG_of {CX : CXT} {k : Nat} {f : Addr} {name qual : Str} {params : Arguments} {body : List Stmt} {scope : Scope} {dV kV doc pm cdv ct oc : Value} {an od : Option Addr}
    {osl : Array (Option Value)} {N ps : List Str} {sp : Sp} (lk : K.lookup f = some ⟨oc, od, .func (PySem.W.fnOf name qual params body scope dV kV doc pm an cdv ct), osl⟩) (hcd : PySem.W.codeIn K cdv qual = true) (S : FnScope N ps scope)
    (len : ∀ vs H Q E, sp vs H Q E → vs.length = ps.length)
    (hb2 : ∀ (A : Around) (outer : List Env) (s : Shared) (H : Hp) (vs : List V) (Q : VK) (E : XK), Room k (A.deeper (envOfC qual scope s.heap.objs.size f cdv)) → A.guards = some [] → sp vs H Q E →
      ∃ t, PSs (cxOf CX P w K mg base N qual scope f cdv A outer s H E) body t ∧ t { nx := fun _ H' => Q .non H', rt := Q } (start N vs) H) :
    FnG P w K mg base CX (k + 1) f (PySem.W.fnOf name qual params body scope dV kV doc pm an cdv ct) ps sp := by
  refine ⟨len, fun A outer s H args us vs Q E hr hgd e0 hb r hsp => ?_⟩
  have hl2 := len _ _ _ _ hsp
  have KX2 : K.In s.heap := e0.mod.kin.keeps fun b o e => (e0.bs b o e).1
  have lim2 : s.heap.NoLimit := e0.mod.nolimit.keeps fun b o e => (e0.bs b o e).1
  have hk2 : ∀ y ∈ ps.zip us, scope.names.lookup y.1 = some .local ∨ (scope.names.lookup y.1 = some .cell ∧ ((cellsFrom (s.heap.objs.size + 1) scope.names []).lookup y.1).isSome = true) := fun ⟨n, v⟩ hy => by
    rcases S.par n (List.of_mem_zip hy).1 with q | q
    · exact .inl q
    · exact .inr ⟨q, PySem.W.cellsFrom_some _ _ _ (.inl q)⟩
  refine codeAny_call_function hr.depth (KX2 _ _ lk) rfl S.co S.gen rfl (PySem.W.codeRec_of KX2 hcd) (hb _ _ _ _ ?_)
  refine wpAny_newFunctionEnv_cells S.kind hk2 fun env he s1 x => ?_
  subst he
  refine ⟨lim2.keeps x.toInCall.keep, codeAny_func ?_⟩
  obtain ⟨t, ht, hq⟩ := hb2 A outer s H vs Q E (hr.deeper _) hgd hsp
  have I2 : Inv (cxOf CX P w K mg base N qual scope f cdv A outer s H E) [] (start N vs) H s1 := inv_start S hr.hd e0 hl2 r x
  refine wpAny_mono (ht.run [] s1 (start N vs) H _ I2 hq) (fun fl s' hs => ?_) fun e s' hs => hs
  have fin2 : ∀ {σ' : L2.St} {H' : Hp} {v : V} {u : Value}, Inv (cxOf CX P w K mg base N qual scope f cdv A outer s H E) [] σ' H' s' → RelV v u → Q v H' → CE outer P w H s Q u s' :=
    fun {σ' H' v u} J rv q => ⟨v, H', J.os, J.bare, J.base, J.hok, rv, q⟩
  cases fl with
  | ret u =>
    obtain ⟨v, σ', H', J, rv, q⟩ := hs
    exact fin2 J rv q
  | next =>
    obtain ⟨σ', H', J, q⟩ := hs
    exact fin2 (v := V.non) (u := Value.none) J rfl q
  | brk => exact hs.elim fun _ z => z.elim fun _ z => z.elim fun _ z => False.elim z
  | cont => exact hs.elim fun _ z => z.elim fun _ z => z.elim fun _ z => False.elim z
def OkG (P : Program) (w : World) (K : PySem.W.Frag) (mg : Str → Option Value) (base : Heap) (k : Nat) (f : Str) (ps : List Str) (sp : Sp) : Prop :=
  ∃ fd, FnG P w K mg base CX0 k (He.ga K f) fd ps sp ∧ Binds K fd ps [] ∧ PySem.W.keepIn K (.ref (He.ga K f)) = true ∧ mg f = some (.ref (He.ga K f))
theorem okG_of2 {f : Str} {st : Stmt} {N ps : List Str} {k : Nat} {sp : Sp} {fd : FuncData} (F : FnP K f st (He.ga K f) fd) (S : FnScope N ps (defScope st))
    (len : ∀ vs H Q E, sp vs H Q E → vs.length = ps.length)
    (hbody : ∀ (cdv : Value) (A : Around) (outer : List Env) (s : Shared) (H : Hp) (vs : List V) (Q : VK) (E : XK), Room k (A.deeper (envOfC f (defScope st) s.heap.objs.size (He.ga K f) cdv)) → A.guards = some [] → sp vs H Q E →
      ∃ t, PSs (cxOf CX0 P w K mg base N f (defScope st) (He.ga K f) cdv A outer s H E).nox (defBody st) t ∧ t { nx := fun _ H' => Q .non H', rt := Q } (start N vs) H) : FnG P w K mg base CX0 (k + 1) (He.ga K f) fd ps sp := by
  obtain ⟨oc, od, dV, kV, doc, pm, an, cdv, ct, osl, rfl, lk, hcd, _, _⟩ := F.ex
  refine fnG_of lk hcd S len fun A outer s H vs Q E hr hg h => ?_
  obtain ⟨t, q1, q2⟩ := hbody cdv A outer s H vs Q E hr hg h
  exact ⟨t, q1.nox, q2⟩
theorem okG_of {f : Str} {st : Stmt} {N ps : List Str} {k : Nat} {sp : Sp} (F : (∃ fd, FnP K f st (He.ga K f) fd) ∧ mg f = some (.ref (He.ga K f))) (S : FnScope N ps (defScope st))
    (hb : ∀ (kV doc pm : Value) (an : Option Addr) (cdv ct : Value) (us : List Value), us.length = ps.length → bindArgs (PySem.W.fnOf f f (defArgs st) (defBody st) (defScope st) .none kV doc pm an cdv ct) ⟨us, []⟩ = pure (ps.zip us))
    (len : ∀ vs H Q E, sp vs H Q E → vs.length = ps.length)
    (hbody : ∀ (cdv : Value) (A : Around) (outer : List Env) (s : Shared) (H : Hp) (vs : List V) (Q : VK) (E : XK), Room k (A.deeper (envOfC f (defScope st) s.heap.objs.size (He.ga K f) cdv)) → A.guards = some [] → sp vs H Q E →
      ∃ t, PSs (cxOf CX0 P w K mg base N f (defScope st) (He.ga K f) cdv A outer s H E).nox (defBody st) t ∧ t { nx := fun _ H' => Q .non H', rt := Q } (start N vs) H) : OkG P w K mg base (k + 1) f ps sp := by
  obtain ⟨⟨fd, F⟩, m⟩ := F
  exact ⟨fd, okG_of2 F S len hbody, F.bindsN hb, F.kp, m⟩
theorem Ok.g {k : Nat} {f : Str} {ps : List Str} {sp : Sp} (h : Ok P w K mg base k f ps sp) : OkG P w K mg base k f ps sp := by
  obtain ⟨fd, F, r⟩ := h
  exact ⟨fd, ⟨F.len, fun A outer s H args us vs Q E hr _ e0 hb hv hs => F.run A outer s H args us vs Q E hr e0 hb hv hs⟩, r⟩
end
section
variable {X : Cx} {k : Nat} {f : Str} {ps : List Str} {sp : Sp} {p pos : Pos} {e : Expr} {es : List Expr} {t : TA}
theorem pe_callGD (G : OkG X.prog X.w X.K X.mg X.base k f ps sp) (hr : Room k X.A) (gd : X.A.guards = some []) (ha : PA X (e :: es) t) (hg : Gl X f := by rfl) (hdb : (f == ("__debug__" : Str)) = false := by decide)
    (he : starEach (e :: es) X.env = (false, eval e X.env) :: starEach es X.env := by rfl) (hpl : (backTo pos (starEach es X.env)).any (·.1) = false := by rfl) : PE X (.Call (.Name f p) (e :: es) [] pos) (tCall sp [] E0 t) := by
  obtain ⟨fd, F, bd, kp, m⟩ := G
  refine ⟨fun pins s σ H Q I h => ?_⟩
  refine wpAny_Call_Name_kw (ld_glob I hg m ?_ hdb)
  refine PySem.W.callWith_K (h₀ := X.base) I.ok.mod.kin kp (thn (ha.run pos pins s σ H _ I h) fun us s1 ⟨vs, H1, I1, r, q⟩ => ⟨I1.kIn, ?_⟩) he hpl
  have q : sp (vs ++ []) H1 Q (E0 ) := q
  rw [List.append_nil] at q
  have hl : us.length = ps.length := by rw [← r.length]; exact F.len _ _ _ _ q
  have bb := bd s1 us I1.kIn (by rw [List.append_nil]; exact hl)
  rw [List.append_nil] at bb
  refine wpAny_call (codeAny_mono (F.run X.A X.stack s1 H1 ⟨us, []⟩ us vs Q E0 hr gd I1.env0 bb r q) fun rr s' hq => ?_)
  cases rr with
  | error e => exact pass0 pins σ H1 s1 e s' I1 hq
  | ok fl =>
    cases fl with
    | ret u => exact I1.after hq
    | next => exact hq.elim
    | brk => exact hq.elim
    | cont => exact hq.elim
/-! ### repr -/
def rRepr (K : PySem.W.Frag) : List V → Hp → VK → Prop := fun xs H Q => (∃ b : Bool, xs = [.bl b] ∧ Q (.str (if b then "True" else "False")) H) ∨
  ∃ (a : Addr) (ns : List Int), xs = [.ref a] ∧ SqL K H a (ns.map V.int) ∧ (PyData.list (ns.map PyData.int)).showable = true ∧ (PyData.list (ns.map PyData.int)).shown.length ≤ sizeLine ∧ Q (.str (PyData.list (ns.map PyData.int)).shown) H
theorem depth_ints : ∀ ns : List Int, PyData.depthAll (ns.map PyData.int) ≤ 0
  | [] => by simp [PyData.depthAll]
  | n :: ns => by
    have := depth_ints ns
    simp only [List.map_cons, PyData.depthAll, PyData.depth]
    omega
theorem noDict_ints : ∀ ns : List Int, PyData.hasDictAll (ns.map PyData.int) = false
  | [] => by simp [PyData.hasDictAll]
  | n :: ns => by
    have := noDict_ints ns
    simp only [List.map_cons, PyData.hasDictAll, PyData.hasDict, this, Bool.or_false]
theorem cr_repr (gd : X.A.guards = some []) (hu : X.A.units + 64 < cLine) : CallR X (.builtin "repr") (rRepr X.K) := by
  intro pins s σ H xs us Q I r h
  rcases h with ⟨b, rfl, q⟩ | ⟨a, ns, rfl, hs, h1, h2, q⟩
  · obtain ⟨u, rfl, rx⟩ := vals1 r
    cases (show u = Value.bool b from rx)
    refine PySem.P.repr_of_bool ?_
    exact ⟨.str (if b then "True" else "False"), H, I.kept (t' := s.toks + 1) fun _ _ e => e, ⟨_, rfl⟩, q⟩
  · obtain ⟨u, rfl, rx⟩ := vals1 r
    obtain rfl : u = Value.ref a := rx
    obtain ⟨as, rd⟩ := Dp.reads I (.list (ns.map PyData.int)) (.ref a) (.ref a) (.lst hs (TDs.dps _ _ (tds_ints ns))) rfl
    have hd := depth_ints ns
    refine PySem.repr_of_reads' rd h1 (fun z => by simp [PyData.hasDict, noDict_ints] at z) gd ?_ (fun _ _ e => e) (fun h' u tk hk => ?_) h2
    · simp only [PyData.depth]
      omega
    · exact ⟨.str _, H, I.kept (t' := tk) hk, ⟨_, rfl⟩, q⟩
end
end DC
end

section
set_option Elab.async false
set_option linter.all false
set_option maxRecDepth 100000
set_option maxHeartbeats 4000000
namespace DC
open PySem PySem.Spec PyProof.Rows L2
/-! ### the law's call, from a promise that asks that no repr is under way -/
/-- one choice of what is tracked when the law begins: at most the script, as it lies -/
theorem start_G {P : Program} {w : World} {K : PySem.W.Frag} {mg mb : Str → Option Value} {k : Nat} {fa a : Addr} {fd : FuncData} {x : Str} {sp : Sp} {s : Shared} {vs : List Value}
    (inK : K.In s.heap) (gl : s.heap.Ns mainGlobals mg) (bl : s.heap.Ns builtinsNs mb) (bs : ∀ z : Str, z ≠ "__name__" → mb z = bootBuiltins z) (nol : s.heap.NoLimit) (gens : s.gens = #[])
    (ha : s.heap.get? a = some { cls := .type "list", data := .seq vs.toArray }) (room : Room k callerA)
    (F : ∀ base : Heap, K.In base → base.Ns mainGlobals mg → FnG P w K mg base CX0 k fa fd [x] sp) (bind : ∀ (s : Shared) (u : Value), BindsTo s fd ⟨[u], []⟩ [(x, u)])
    (H : Hp) (only : ∀ b u, H b = some u → b = a ∧ ∃ o xs, u = .frz o (.lst xs)) (ok : HOk P w H s.heap) (apart : H a ≠ none → K.lookup a = none)
    (hsp : sp [.ref a] H (fun v _ => v = .bl true) fun _ _ _ => False) :
    codeAny (model P w) callerA (.call (.ref fa) ⟨[.ref a], []⟩) (fun r s' => r = .ok (.ret (.bool true)) ∧ OldK s.heap s'.heap ∧ s'.os = s.os ∧ AllBare s'.gens) s := by
  have off : ∀ b, b ≠ a → H b = none := fun b n => by
    cases q : H b with
    | none => rfl
    | some u => exact absurd (only b u q).1 n
  have left : ∀ {b : Addr} {o : Obj}, s.heap.get? b = some o → b ≠ a → (hidT s.heap H).get? b = some o := fun e n => hidT_get e (off _ n)
  have dicts : ∀ {b : Addr} {m : Str → Option Value}, s.heap.Ns b m → (hidT s.heap H).Ns b m := fun {b m} ⟨o, es, ep, e, d, r⟩ => by
    refine ⟨o, es, ep, left e fun z => ?_, d, r⟩
    subst z
    rw [ha] at e
    cases e
    cases d
  have kin : K.In (hidT s.heap H) := fun b o e => by
    by_cases n : H b = none
    · exact hidT_get (inK b o e) n
    · cases q : H b with
      | none => exact absurd q n
      | some u =>
        have z := (only b u q).1
        subst z
        rw [apart n] at e
        cases e
  obtain ⟨mc, n1, n2⟩ := nol
  have env : Env0 P w K mg (hidT s.heap H) callerA [] s H := ⟨rfl, ⟨kin, dicts gl, ⟨mb, dicts bl, bs⟩, ⟨mc, dicts n1, n2⟩⟩, fun b o e => of_hidT e, Nat.le_of_eq (hidT_size _ _), trivial, fun b hb => (nomatch hb), ok, .of_eq gens⟩
  refine codeAny_mono ((F _ kin (dicts gl)).run callerA [] s H ⟨[.ref a], []⟩ [.ref a] [.ref a] _ _ room rfl env (bind s (.ref a)) (.cons rfl .nil) hsp) fun r s' h => ?_
  match r, h with
  | .error e, h => exact False.elim h
  | .ok .next, h => exact h.elim
  | .ok .brk, h => exact h.elim
  | .ok .cont, h => exact h.elim
  | .ok (.ret u), ⟨v, H', os, bare, un, ok', rel, q⟩ =>
    have ev : v = .bl true := q
    subst ev
    cases (show u = Value.bool true from rel)
    refine ⟨rfl, OldK.of_keep fun b o e => ?_, os, bare⟩
    cases hb : H b with
    | none => exact un.keep b o e hb (fun z => (nomatch z)) (fun z => (nomatch z))
    | some u =>
      obtain ⟨_, ob, xs, rfl⟩ := only b u hb
      have e1 := (ok b _ hb).1
      have e2 := (ok' b _ (un.frzs b ob _ hb)).1
      rw [e] at e1
      rw [Option.some.inj e1]
      exact e2
theorem walk_G {l : PySem.W.OpenLaw} {n k : Nat} {q : Program} {loose : List Str} {XP : (Str → Option Value) → Heap → Prop} {YP : World → Heap → Prop} {d : DefRec} {x : Str}
    (hn : l.most = some n) (hn2 : n ≤ sizeLine) (hdf : d.params.defaults = []) (room : Room k callerA)
    (F : ∀ (w : World) (mg : Str → Option Value) (fa : Addr) (h : Heap), YP w h → h.Ns mainGlobals mg → mg d.name = some (.ref fa) →
      ∃ (K : PySem.W.Frag) (fd : FuncData) (sp : Sp), K.In h ∧ (∀ (s : Shared) (u : Value), BindsTo s fd ⟨[u], []⟩ [(x, u)]) ∧
        (∀ (H : Hp) (a : Addr) (ns : List Int), ns.length ≤ n → SqL K H a (ns.map V.int) → sp [.ref a] H (fun v _ => v = .bl true) fun _ _ _ => False) ∧
        ∀ base : Heap, K.In base → base.Ns mainGlobals mg → FnG l.prog w K mg base CX0 k fa fd [x] sp) :
    PySem.W.WalkO q loose XP YP l.row.toRowW d [] (fun f vs => PySem.call f vs) := by
  refine Att.attach_call hn hdf fun w s0 s mg mb fa o pm cd doc a vs ns G Y ho hd hcd hmg hobj hints hlen hg => ?_
  obtain ⟨K, fd, sp, KX, bind, hsp, hF⟩ := F w mg fa _ Y G.T.g hmg
  have rv := vals_ints hints
  have lv := hints.length
  cases hk : K.lookup a with
  | some o =>
    have e := KX a o hk
    rw [hobj] at e
    cases e
    refine start_G KX G.T.g G.T.b G.T.builtins G.T.nolimit hg hobj room hF bind (fun _ => none) (fun b u z => (nomatch z)) (fun b u z => (nomatch z)) (fun z => absurd rfl z) ?_
    exact hsp _ a ns hlen (.inr ⟨_, vs.toArray, _, hk, rfl, rfl, rfl, by rw [List.size_toArray, lv]; omega, by simpa using rv⟩)
  | none =>
    have at_ : ∀ b u, (fun b => if b = a then some (HO.frz { cls := .type "list", data := .seq vs.toArray } (.lst (ns.map V.int))) else none) b = some u → b = a ∧ u = .frz { cls := .type "list", data := .seq vs.toArray } (.lst (ns.map V.int)) := fun b u z => by
      by_cases hb : b = a
      · have z' := (if_pos hb).symm.trans z
        exact ⟨hb, (Option.some.inj z').symm⟩
      · have z' := (if_neg hb).symm.trans z
        cases z'
    refine start_G KX G.T.g G.T.b G.T.builtins G.T.nolimit hg hobj room hF bind (fun b => if b = a then some (HO.frz { cls := .type "list", data := .seq vs.toArray } (.lst (ns.map V.int))) else none) (fun b u z => ?_) (fun b u z => ?_) (fun _ => hk) ?_
    · obtain ⟨h1, h2⟩ := at_ b u z
      exact ⟨h1, _, _, h2⟩
    · obtain ⟨h1, h2⟩ := at_ b u z
      subst h1 h2
      exact ⟨hobj, by rw [List.length_map]; omega, vs, _, rv, hobj⟩
    · exact hsp _ a ns hlen (.inl (.inr ⟨_, if_pos rfl⟩))
end DC
end

section
set_option Elab.async false
set_option linter.all false
set_option maxRecDepth 100000
set_option maxHeartbeats 0

namespace DC
open PySem PySem.Spec PyProof.Rows L2
def d_is_whole : He.DefD := ⟨("is_whole", none), "is_whole", "is_whole", defArgs s_is_whole, defBody s_is_whole, defScope s_is_whole, [], []⟩
def d_is_joint : He.DefD := ⟨("is_joint", none), "is_joint", "is_joint", defArgs s_is_joint, defBody s_is_joint, defScope s_is_joint, [], []⟩
def d_wrong_place : He.DefD := ⟨("wrong_place", none), "wrong_place", "wrong_place", defArgs s_wrong_place, defBody s_wrong_place, defScope s_wrong_place, [], []⟩
def d_need_lay : He.DefD := ⟨("need_lay", none), "need_lay", "need_lay", defArgs s_need_lay, defBody s_need_lay, defScope s_need_lay, [], []⟩
def d_need_two : He.DefD := ⟨("need_two", none), "need_two", "need_two", defArgs s_need_two, defBody s_need_two, defScope s_need_two, [], []⟩
def d_need_link : He.DefD := ⟨("need_link", none), "need_link", "need_link", defArgs s_need_link, defBody s_need_link, defScope s_need_link, [], []⟩
def d_fellow_of : He.DefD := ⟨("fellow_of", none), "fellow_of", "fellow_of", defArgs s_fellow_of, defBody s_fellow_of, defScope s_fellow_of, [], []⟩
def d_joint_of : He.DefD := ⟨("joint_of", none), "joint_of", "joint_of", defArgs s_joint_of, defBody s_joint_of, defScope s_joint_of, [], []⟩
def d_mates_in : He.DefD := ⟨("mates_in", none), "mates_in", "mates_in", defArgs s_mates_in, defBody s_mates_in, defScope s_mates_in, [], []⟩
def d_free_in : He.DefD := ⟨("free_in", none), "free_in", "free_in", defArgs s_free_in, defBody s_free_in, defScope s_free_in, [], []⟩
def d_lay_with : He.DefD := ⟨("lay_with", none), "lay_with", "lay_with", defArgs s_lay_with, defBody s_lay_with, defScope s_lay_with, [], []⟩
def d_is_order : He.DefD := ⟨("is_order", none), "is_order", "is_order", defArgs s_is_order, defBody s_is_order, defScope s_is_order, [], []⟩
def d_renamed : He.DefD := ⟨("renamed", none), "renamed", "renamed", defArgs s_renamed, defBody s_renamed, defScope s_renamed, [], []⟩
def d_without : He.DefD := ⟨("without", none), "without", "without", defArgs s_without, defBody s_without, defScope s_without, [], []⟩
def d_beside : He.DefD := ⟨("beside", none), "beside", "beside", defArgs s_beside, defBody s_beside, defScope s_beside, [], []⟩
def d_doubles_of : He.DefD := ⟨("doubles_of", none), "doubles_of", "doubles_of", defArgs s_doubles_of, defBody s_doubles_of, defScope s_doubles_of, [], []⟩
def d_steps_in : He.DefD := ⟨("steps_in", none), "steps_in", "steps_in", defArgs s_steps_in, defBody s_steps_in, defScope s_steps_in, [], []⟩
def d_has_form : He.DefD := ⟨("has_form", none), "has_form", "has_form", defArgs s_has_form, defBody s_has_form, defScope s_has_form, [], []⟩
def d_is_step_in : He.DefD := ⟨("is_step_in", none), "is_step_in", "is_step_in", defArgs s_is_step_in, defBody s_is_step_in, defScope s_is_step_in, [], []⟩
def d_after : He.DefD := ⟨("after", none), "after", "after", defArgs s_after, defBody s_after, defScope s_after, [], []⟩
def d_step_between : He.DefD := ⟨("step_between", none), "step_between", "step_between", defArgs s_step_between, defBody s_step_between, defScope s_step_between, [], []⟩
def d_row_from : He.DefD := ⟨("row_from", none), "row_from", "row_from", defArgs s_row_from, defBody s_row_from, defScope s_row_from, [], []⟩
def d_rows_in : He.DefD := ⟨("rows_in", none), "rows_in", "rows_in", defArgs s_rows_in, defBody s_rows_in, defScope s_rows_in, [], []⟩
def d_kind_of : He.DefD := ⟨("kind_of", none), "kind_of", "kind_of", defArgs s_kind_of, defBody s_kind_of, defScope s_kind_of, [], []⟩
def d_pieces_in : He.DefD := ⟨("pieces_in", none), "pieces_in", "pieces_in", defArgs s_pieces_in, defBody s_pieces_in, defScope s_pieces_in, [], []⟩
def d_cost_of : He.DefD := ⟨("cost_of", none), "cost_of", "cost_of", defArgs s_cost_of, defBody s_cost_of, defScope s_cost_of, [], []⟩
def d_cost_in : He.DefD := ⟨("cost_in", none), "cost_in", "cost_in", defArgs s_cost_in, defBody s_cost_in, defScope s_cost_in, [], []⟩
def d_pieces : He.DefD := ⟨("pieces", none), "pieces", "pieces", defArgs s_pieces, defBody s_pieces, defScope s_pieces, [], []⟩
def d_least_steps : He.DefD := ⟨("least_steps", none), "least_steps", "least_steps", defArgs s_least_steps, defBody s_least_steps, defScope s_least_steps, [], []⟩
def d_is_between : He.DefD := ⟨("is_between", none), "is_between", "is_between", defArgs s_is_between, defBody s_is_between, defScope s_is_between, [], []⟩
def d_wrong_step : He.DefD := ⟨("wrong_step", none), "wrong_step", "wrong_step", defArgs s_wrong_step, defBody s_wrong_step, defScope s_wrong_step, [], []⟩
def d_need_history : He.DefD := ⟨("need_history", none), "need_history", "need_history", defArgs s_need_history, defBody s_need_history, defScope s_need_history, [], []⟩
def d_lays_in_turn : He.DefD := ⟨("lays_in_turn", none), "lays_in_turn", "lays_in_turn", defArgs s_lays_in_turn, defBody s_lays_in_turn, defScope s_lays_in_turn, [], []⟩
def d_end_of : He.DefD := ⟨("end_of", none), "end_of", "end_of", defArgs s_end_of, defBody s_end_of, defScope s_end_of, [], []⟩
def d_last_lay : He.DefD := ⟨("last_lay", none), "last_lay", "last_lay", defArgs s_last_lay, defBody s_last_lay, defScope s_last_lay, [], []⟩
def d_lays_along : He.DefD := ⟨("lays_along", none), "lays_along", "lays_along", defArgs s_lays_along, defBody s_lays_along, defScope s_lays_along, [], []⟩
def d_plain_history : He.DefD := ⟨("plain_history", none), "plain_history", "plain_history", defArgs s_plain_history, defBody s_plain_history, defScope s_plain_history, [], []⟩
def d_good_steps_in : He.DefD := ⟨("good_steps_in", none), "good_steps_in", "good_steps_in", defArgs s_good_steps_in, defBody s_good_steps_in, defScope s_good_steps_in, [], []⟩
def d_one_in : He.DefD := ⟨("one_in", none), "one_in", "one_in", defArgs s_one_in, defBody s_one_in, defScope s_one_in, [], []⟩
def d_a_least : He.DefD := ⟨("a_least", none), "a_least", "a_least", defArgs s_a_least, defBody s_a_least, defScope s_a_least, [], []⟩
def d_common : He.DefD := ⟨("common", none), "common", "common", defArgs s_common, defBody s_common, defScope s_common, [], []⟩
def d__law_mixed : He.DefD := ⟨("_law_mixed", none), "_law_mixed", "_law_mixed", defArgs s__law_mixed, defBody s__law_mixed, defScope s__law_mixed, [], []⟩
def d__law_folded : He.DefD := ⟨("_law_folded", none), "_law_folded", "_law_folded", defArgs s__law_folded, defBody s__law_folded, defScope s__law_folded, [], []⟩
def d__law_draw : He.DefD := ⟨("_law_draw", none), "_law_draw", "_law_draw", defArgs s__law_draw, defBody s__law_draw, defScope s__law_draw, [], []⟩
def d__law_begun : He.DefD := ⟨("_law_begun", none), "_law_begun", "_law_begun", defArgs s__law_begun, defBody s__law_begun, defScope s__law_begun, [], []⟩
def d__law_like : He.DefD := ⟨("_law_like", none), "_law_like", "_law_like", defArgs s__law_like, defBody s__law_like, defScope s__law_like, [], []⟩
def d__law_of : He.DefD := ⟨("_law_of", none), "_law_of", "_law_of", defArgs s__law_of, defBody s__law_of, defScope s__law_of, [], []⟩
def d__law_shuffled : He.DefD := ⟨("_law_shuffled", none), "_law_shuffled", "_law_shuffled", defArgs s__law_shuffled, defBody s__law_shuffled, defScope s__law_shuffled, [], []⟩
def d__law_lay : He.DefD := ⟨("_law_lay", none), "_law_lay", "_law_lay", defArgs s__law_lay, defBody s__law_lay, defScope s__law_lay, [], []⟩
def d__law_pair : He.DefD := ⟨("_law_pair", none), "_law_pair", "_law_pair", defArgs s__law_pair, defBody s__law_pair, defScope s__law_pair, [], []⟩
def d__law_mates : He.DefD := ⟨("_law_mates", none), "_law_mates", "_law_mates", defArgs s__law_mates, defBody s__law_mates, defScope s__law_mates, [], []⟩
def d__law_free : He.DefD := ⟨("_law_free", none), "_law_free", "_law_free", defArgs s__law_free, defBody s__law_free, defScope s__law_free, [], []⟩
def d__law_steps : He.DefD := ⟨("_law_steps", none), "_law_steps", "_law_steps", defArgs s__law_steps, defBody s__law_steps, defScope s__law_steps, [], []⟩
def d__law_after : He.DefD := ⟨("_law_after", none), "_law_after", "_law_after", defArgs s__law_after, defBody s__law_after, defScope s__law_after, [], []⟩
def d__law_far : He.DefD := ⟨("_law_far", none), "_law_far", "_law_far", defArgs s__law_far, defBody s__law_far, defScope s__law_far, [], []⟩
def d__law_between_right : He.DefD := ⟨("_law_between_right", none), "_law_between_right", "_law_between_right", defArgs s__law_between_right, defBody s__law_between_right, defScope s__law_between_right, [], []⟩
def d__law_common_right : He.DefD := ⟨("_law_common_right", none), "_law_common_right", "_law_common_right", defArgs s__law_common_right, defBody s__law_common_right, defScope s__law_common_right, [], []⟩
def d__law_moved_right : He.DefD := ⟨("_law_moved_right", none), "_law_moved_right", "_law_moved_right", defArgs s__law_moved_right, defBody s__law_moved_right, defScope s__law_moved_right, [], []⟩
def d_law : He.DefD := ⟨("law", none), "law", "law", defArgs s_law, defBody s_law, defScope s_law, [], []⟩
def fn : List He.DefD := [d_is_whole, d_is_joint, d_wrong_place, d_need_lay, d_need_two, d_need_link, d_fellow_of, d_joint_of, d_mates_in, d_free_in, d_lay_with, d_is_order, d_renamed, d_without, d_beside, d_doubles_of, d_steps_in, d_has_form, d_is_step_in, d_after, d_step_between, d_row_from, d_rows_in, d_kind_of, d_pieces_in, d_cost_of, d_cost_in, d_pieces, d_least_steps, d_is_between] ++ [d_wrong_step, d_need_history, d_lays_in_turn, d_end_of, d_last_lay, d_lays_along, d_plain_history, d_good_steps_in, d_one_in, d_a_least, d_common, d__law_mixed, d__law_folded, d__law_draw, d__law_begun, d__law_like, d__law_of, d__law_shuffled, d__law_lay, d__law_pair, d__law_mates, d__law_free, d__law_steps, d__law_after, d__law_far, d__law_between_right, d__law_common_right, d__law_moved_right, d_law]
def fa : List He.Fa := ([.glo "is_whole", .glo "is_joint", .glo "wrong_place", .glo "need_lay", .glo "need_two", .glo "need_link", .glo "fellow_of", .glo "joint_of", .glo "mates_in", .glo "free_in", .glo "lay_with", .glo "is_order", .glo "renamed", .glo "without", .glo "beside", .glo "doubles_of", .glo "steps_in", .glo "has_form", .glo "is_step_in", .glo "after", .glo "step_between", .glo "row_from", .glo "rows_in", .glo "kind_of", .glo "pieces_in", .glo "cost_of", .glo "cost_in", .glo "pieces", .glo "least_steps", .glo "is_between"] : List He.Fa) ++ ([.glo "wrong_step", .glo "need_history", .glo "lays_in_turn", .glo "end_of", .glo "last_lay", .glo "lays_along", .glo "plain_history", .glo "good_steps_in", .glo "one_in", .glo "a_least", .glo "common", .glo "_law_mixed", .glo "_law_folded", .glo "_law_draw", .glo "_law_begun", .glo "_law_like", .glo "_law_of", .glo "_law_shuffled", .glo "_law_lay", .glo "_law_pair", .glo "_law_mates", .glo "_law_free", .glo "_law_steps", .glo "_law_after", .glo "_law_far", .glo "_law_between_right", .glo "_law_common_right", .glo "_law_moved_right", .glo "law", .free "isinstance"] : List He.Fa) ++ ([.free "len", .free "all", .free "enumerate", .free "sorted", .free "list", .free "range", .free "tuple", .free "abs", .free "min", .free "max", .free "sum", .free "repr", .free "int", .free "bool", .int "MOST_LINKS" 12, .int "MOST_JOINTS" 2, .str "RING" "ring", .str "ODD" "odd", .str "OPEN" "open", .str "SHUT" "shut", .int "MOST_STEPS" 60] : List He.Fa)
def loose : List PySem.Str := (["ChainError", "BadLay", "BadLink", "BadNumber", "BadHistory", "Unlike", "TooGreat", "MOST_LINKS", "MOST_JOINTS", "RING", "ODD", "OPEN", "SHUT", "MOST_STEPS", "is_whole", "is_joint", "wrong_place", "need_lay", "need_two", "need_link", "fellow_of", "joint_of", "mates_in", "free_in", "lay_with", "is_order", "renamed", "without", "beside", "doubles_of"] : List PySem.Str) ++ (["steps_in", "has_form", "is_step_in", "after", "step_between", "row_from", "rows_in", "kind_of", "pieces_in", "cost_of", "cost_in", "pieces", "least_steps", "is_between", "wrong_step", "need_history", "lays_in_turn", "end_of", "last_lay", "lays_along", "plain_history", "good_steps_in", "one_in", "a_least", "common", "_law_mixed", "_law_folded", "_law_draw", "_law_begun", "_law_like"] : List PySem.Str) ++ (["_law_of", "_law_shuffled", "_law_lay", "_law_pair", "_law_mates", "_law_free", "_law_steps", "_law_after", "_law_far", "_law_between_right", "_law_common_right", "_law_moved_right"] : List PySem.Str)
abbrev R : PySem.W.OpenRow := PySem.W.OpenLaw.row PySem.Challenge.rw_doublecut_k97_whole_common_and_least_ste
abbrev hk : PySem.W.Hook := He.hookD 4 fa fn
def ob (s : PySem.W.SharedT) : He.AlD := He.obsDG 4 fa fn (HandSHeadRun.getT s)
theorem ob_eq (s : PySem.W.SharedT) : ob s = hk.obs s.abs := He.obsDG_eq (HandSHeadRun.getT_eq s)
theorem run (w : World) : HandSHeadRun.RunEq R (PySem.W.view R.prog [82]) hk ob 6000 loose w := by
  intro os
  kernel_rfl
end DC
open PySem PySem.W PySem.Calls PyProof.Rows
open L2 in
theorem DC.head_of (F : ∀ (w : World) (mg : PySem.Str → Option Value) (fa : Addr) (h : Heap), DC.hk.says w h → h.Ns mainGlobals mg → mg ("law" : PySem.Str) = some (.ref fa) → ∃ (K : PySem.W.Frag) (fd : FuncData) (sp : L2.Sp), K.In h ∧ (∀ (s : Shared) (u : Value), BindsTo s fd ⟨[u], []⟩ [("_law_script", u)]) ∧
        (∀ (H : L2.Hp) (a : Addr) (ns : List Int), ns.length ≤ 63 → L2.SqL K H a (ns.map L2.V.int) → sp [.ref a] H (fun v _ => v = .bl true) fun _ _ _ => False) ∧
        ∀ base : Heap, K.In base → base.Ns mainGlobals mg → DC.FnG (PySem.Challenge.rw_doublecut_k97_whole_common_and_least_ste).prog w K mg base L2.CX0 9 fa fd ["_law_script"] sp) : PySem.Challenge.rw_doublecut_k97_whole_common_and_least_ste.Holds := by
  w_on; o_law
  refine HandSHeadRun.head_any (r := OpenLaw.row PySem.Challenge.rw_doublecut_k97_whole_common_and_least_ste) (q := view (OpenLaw.row PySem.Challenge.rw_doublecut_k97_whole_common_and_least_ste).prog [82]) (H := DC.hk) (ob := DC.ob) (M := 6000) (loose := DC.loose) (d := HandSHeadRun.topDef (OpenLaw.row PySem.Challenge.rw_doublecut_k97_whole_common_and_least_ste).prog 82) (kwd := []) DC.ob_eq
    (by kernel_rfl) (fun s => by kernel_rfl) DC.run (by kernel_rfl) (by kernel_rfl) (by kernel_rfl) (by rfl) (by first | assumption | decide +kernel) (by decide +kernel) ⟨rfl, rfl, rfl, rfl, rfl, by decide +kernel⟩ ?hw ?hc
  case hw => w_witness2
  case hc =>
    refine DC.walk_G (l := PySem.Challenge.rw_doublecut_k97_whole_common_and_least_ste) (n := 63) (k := 9) (x := "_law_script") rfl (by decide) (by kernel_rfl) ⟨rfl, by decide, by decide⟩ ?F
    intro w mg fa h Y G hmg0
    have hmg : mg ("law" : PySem.Str) = some (.ref fa) := by
      have e : (HandSHeadRun.topDef (OpenLaw.row PySem.Challenge.rw_doublecut_k97_whole_common_and_least_ste).prog 82).name = ("law" : PySem.Str) := by kernel_rfl
      rw [← e]
      exact hmg0
    exact F w mg fa h Y G hmg
end

section
set_option Elab.async false
set_option linter.all false
set_option maxRecDepth 100000
set_option maxHeartbeats 4000000
namespace DC
open PySem PySem.Spec PyProof.Rows L2
/-! ### lists of data compared -/
def rEqLE (K : PySem.W.Frag) {α : Type} [DecidableEq α] (e : α → PyData) : R2 := fun x y H Q => ∃ (a b : Addr) (xs ys : List V) (l m : List α), x = .ref a ∧ y = .ref b ∧ SqL K H a xs ∧ SqL K H b ys ∧ TDs H xs (l.map e) ∧ TDs H ys (m.map e) ∧ ∃ k : Bool, (k = true ↔ l = m) ∧ Q (.bl k) H
def rNeLE (K : PySem.W.Frag) {α : Type} [DecidableEq α] (e : α → PyData) : R2 := fun x y H Q => ∃ (a b : Addr) (xs ys : List V) (l m : List α), x = .ref a ∧ y = .ref b ∧ SqL K H a xs ∧ SqL K H b ys ∧ TDs H xs (l.map e) ∧ TDs H ys (m.map e) ∧ ∃ k : Bool, (k = true ↔ ¬ l = m) ∧ Q (.bl k) H
theorem Enc.shapedL {α : Type} [DecidableEq α] {e : α → PyData} {n : Nat} (E : Enc e n) (h : n ≤ 8) (l : List α) : SeqAt.shaped (.list (l.map e)) = true := by
  show ((PyData.list (l.map e)).canLay0 && decide ((PyData.list (l.map e)).depth ≤ 64)) = true
  rw [Bool.and_eq_true]
  refine ⟨?_, decide_eq_true ?_⟩
  · simp only [PyData.canLay0]
    exact layAll_map E l
  · have h2 := depthAll_map E l
    simp only [PyData.depth]
    omega
theorem op_eqLE {X : Cx} {α : Type} [DecidableEq α] {e : α → PyData} {n : Nat} (E : Enc e n) (hn : n ≤ 8) (hu : X.A.units + 64 < cLine) : OpR X (compareOp .Eq) (rEqLE X.K e) := by
  intro pins s σ H x y v u Q I rx ry h
  obtain ⟨a, b, xs, ys, l, m, rfl, rfl, ha, hb, hx, hy, k, hk, q⟩ := h
  refine op_eqD hu pins s σ H _ _ v u Q I rx ry ⟨.list (l.map e), .list (m.map e), .lst ha (TDs.dps _ _ hx), .lst hb (TDs.dps _ _ hy), E.shapedL hn l, E.shapedL hn m, ?_⟩
  have ev : PyData.eqv (.list (l.map e)) (.list (m.map e)) = decide (l = m) := by
    simp only [PyData.eqv]
    exact eqvAll_map E l m
  rw [ev]
  rw [bool_of hk] at q
  exact q
theorem op_neLE {X : Cx} {α : Type} [DecidableEq α] {e : α → PyData} {n : Nat} (E : Enc e n) (hn : n ≤ 8) (hu : X.A.units + 64 < cLine) : OpR X (compareOp .NotEq) (rNeLE X.K e) := by
  intro pins s σ H x y v u Q I rx ry h
  obtain ⟨a, b, xs, ys, l, m, rfl, rfl, ha, hb, hx, hy, k, hk, q⟩ := h
  refine op_neD hu pins s σ H _ _ v u Q I rx ry ⟨.list (l.map e), .list (m.map e), .lst ha (TDs.dps _ _ hx), .lst hb (TDs.dps _ _ hy), E.shapedL hn l, E.shapedL hn m, ?_⟩
  have ev : PyData.eqv (.list (l.map e)) (.list (m.map e)) = decide (l = m) := by
    simp only [PyData.eqv]
    exact eqvAll_map E l m
  rw [ev]
  rw [bool_not hk] at q
  exact q
/-! ### list(range(n, -1, -1)) -/
def downV (n : Nat) : List V := (List.range (n + 1)).map fun i => V.int ((n : Int) + (i : Nat) * (-1))
def tLstDn (ta : TA) : TE := fun σ H Q => ta σ H fun vs H1 => ∃ n : Nat, vs = [.int n, .int (-1), .int (-1)] ∧ n < 1000 ∧ ∀ q, H1 q = none → Q (.ref q) (upd H1 q (.lst (downV n)))
theorem downs_of_get : ∀ (us : List Value) (f : Nat → V), (∀ j u, us[j]? = some u → RelV (f j) u) → Vals ((List.range us.length).map f) us := vals_of_get
theorem pe_listDn {X : Cx} {a b c : Expr} {ta : TA} {p p2 pos pos2 : Pos} (hc : X.calm = true) (hg : Gl X "list") (hm : X.mg "list" = none) (hg2 : Gl X "range") (hm2 : X.mg "range" = none) (ha : PA X [a, b, c] ta)
    (na : starEach [Expr.Call (.Name "range" p2) [a, b, c] [] pos2] X.env = (false, eval (Expr.Call (.Name "range" p2) [a, b, c] [] pos2) X.env) :: starEach [] X.env := by rfl)
    (hs : starEach [a, b, c] X.env = (false, eval a X.env) :: starEach [b, c] X.env := by rfl) (hpl : (backTo pos2 (starEach [b, c] X.env)).any (·.1) = false := by rfl) :
    PE X (.Call (.Name "list" p) [Expr.Call (.Name "range" p2) [a, b, c] [] pos2] [] pos) (tLstDn ta) := by
  refine ⟨fun pins s σ H Q I h => ?_⟩
  refine Call_ (ld_blt I hg hm boot_list (PyProof.Rows.callWith_type1 (args_cons ?_ na) na))
  refine Call_ (ld_blt I hg2 hm2 boot_range (PyProof.Rows.callWith_type1 (thn (ha.run pos2 pins s σ H _ I h) fun us s1 ⟨vs, H1, I1, r1, q1⟩ => ?_) hs hpl))
  obtain ⟨n, e, hn, q⟩ := q1
  subst e
  cases r1 with
  | cons r rr =>
    cases rr with
    | cons r' rr =>
      cases rr with
      | cons r'' rr =>
        cases rr
        obtain ⟨t, rfl⟩ := r
        obtain ⟨t', rfl⟩ := r'
        obtain ⟨t'', rfl⟩ := r''
        refine call_range_3 (by decide) ?_ (.inl (PyProof.noPylong_small (by decide)))
        have I2 : Inv X pins σ H1 { s1 with heap := s1.heap.push { cls := .type "range", data := .fields #[.int n t, .int (-1) t', .int (-1) t''] } } := I1.kept (t' := s1.toks) fun b o e => Heap.get?_push_of_some _ e
        refine args_nil ?_
        refine call_list_range (n := n + 1) (I2.ok.hd hc) (IsRange.new ..) (PySem.W.small_down (by omega) (by omega) (by omega) (by omega)) ?_ (by omega) fun h' tk acc c' hk e' hi => ?_
        · rw [PySem.W.rangeSize_downNat]
          omega
        · have el : acc.toList.length = n + 1 := by rw [Array.length_toList]; exact hi.1
          have rv : Vals (downV n) acc.toList := by
            unfold downV
            rw [← el]
            refine vals_of_get acc.toList _ fun j u hj => ?_
            obtain ⟨t, rfl⟩ := hi.2 j u (by rw [← hj, Array.getElem?_toList])
            exact ⟨t, rfl⟩
          refine ⟨.ref _, upd H1 _ (.lst (downV n)), I2.laid hk (Nat.le_refl _) (show ObjOk X.prog X.w _ _ _ (.lst (downV n)) from ⟨?_, acc.toList, c', rv, ?_⟩), rfl, q _ (I2.hok.fresh (Nat.le_refl _))⟩
          · unfold downV
            rw [List.length_map, List.length_range, sizeLine_eq]
            omega
          · rw [Array.toArray_toList]
            exact e'
/-! ### ints sorted -/
theorem srt_I (l : List Int) : PySem.W.Sortable (l.map eInt) := .inr fun d hd => by
  obtain ⟨b, _, rfl⟩ := List.mem_map.mp hd
  exact ⟨fun z => (nomatch z), fun xs z => (nomatch z)⟩
theorem int_data (l : List Int) : l.mergeSort (PySem.W.dataLe false eInt) = l.mergeSort fun a b => decide (a ≤ b) := by
  have e : (eInt : Int → PyData) = fun b => .int (id b) := rfl
  rw [e, PySem.W.dataLe_int]
  rfl
/-! ### pieces: a kind's name and a length -/
def kStr (k : Fin 4) : Str := if k = 0 then "ring" else if k = 1 then "odd" else if k = 2 then "open" else "shut"
def eK : Fin 4 → PyData := fun k => .str (kStr k)
theorem kStr_inj : ∀ a b : Fin 4, (kStr a == kStr b) = decide (a = b) := by decide +kernel
theorem kStr_ok : ∀ a : Fin 4, PyData.strOk (kStr a) = true := by decide +kernel
theorem enc_K : Enc eK 0 := ⟨fun a b => by unfold eK; simp only [PyData.eqv]; exact kStr_inj a b, fun a b => by unfold eK; simp [PySem.W.alike], fun a => by unfold eK; simp only [PyData.canLay0]; exact kStr_ok a, fun a => by unfold eK; simp [PyData.depth]⟩
abbrev Pc := Fin 4 × Nat
def ePc : Pc → PyData := eP eK eNat
theorem enc_Pc : Enc ePc 1 := enc_P enc_K enc_nat
theorem srt_Pc (l : List Pc) : PySem.W.Sortable (l.map ePc) := .inl fun d hd => by
  obtain ⟨b, _, rfl⟩ := List.mem_map.mp hd
  exact ⟨_, _, rfl⟩
/-! ### a dict comprehension over anything walked -/
section
variable {J : It} {n : Nat} {G : Hp → Prop} {Y : Nat → Hp → V → Hp → Prop}
theorem dc_it (w : Walk J n G Y) {g : TG} {tt : TT} {tk tv : TE} {vs : List Nat} {σ : L2.St} {H1 : Hp} {D : Addr} {Qd : Hp → Prop} (Pv : Nat → Hp → Prop) (h0 : Pv 0 (upd H1 D (.dK []))) (hG : ∀ i H, i ≤ n → Pv i H → G H)
    (hs : ∀ i x H H', i < n → Pv i H → Y i H x H' → g x (wipe σ vs) H' fun σ2 H2 => wipe σ2 vs = wipe σ vs ∧ tt σ2 H2 fun b H3 =>
      if b = true then tk σ2 H3 fun y H4 => tv σ2 H4 fun z H5 => ∃ kvs k, y = kV k ∧ H5 D = some (.dK kvs) ∧ kvs.length < sizeLine ∧ Pv (i + 1) (upd H5 D (.dK (putK kvs k z))) else Pv (i + 1) H3) (hd : ∀ H, Pv n H → Qd H) :
    ∃ W : Nat → Nat → Hp → Prop, (∃ m, W 0 m (upd H1 D (.dK []))) ∧ ∀ i m H, W i m H →
      (J.stop i H ∧ Qd H) ∨ (J.go i H ∧ ∃ Nx : Hp → Prop, (∀ H', Nx H' → ∃ m', m' < m ∧ W (i + 1) m' H') ∧ ∀ x H', J.yld i H x H' → g x (wipe σ vs) H' fun σ2 H2 => wipe σ2 vs = wipe σ vs ∧ tt σ2 H2 fun b H3 =>
        if b = true then tk σ2 H3 fun y H4 => tv σ2 H4 fun z H5 => ∃ kvs k, y = kV k ∧ H5 D = some (.dK kvs) ∧ kvs.length < sizeLine ∧ Nx (upd H5 D (.dK (putK kvs k z))) else Nx H3) := by
  refine ⟨fun i m H => m = n - i ∧ i ≤ n ∧ Pv i H, ⟨n, by simp, Nat.zero_le _, h0⟩, ?_⟩
  rintro i m H ⟨rfl, hi, p⟩
  have q := hG i H hi p
  by_cases hlt : i < n
  · refine .inr ⟨w.goes i H hlt q, Pv (i + 1), fun H' p' => ⟨n - (i + 1), by omega, rfl, hlt, p'⟩, fun x H' y => hs i x H H' hlt p (w.yields i H x H' hlt q y)⟩
  · have e : i = n := by omega
    subst e
    exact .inl ⟨w.stops H q, hd H p⟩
end
end DC
end

section
/-! mates of good joints -/
namespace DC
theorem ends_mem {J : List Jt} {e : Nat} : e ∈ ends J ↔ ∃ j ∈ J, e = j.1 ∨ e = j.2 := by
  induction J with
  | nil => simp [ends]
  | cons j J ih =>
    simp only [ends, List.mem_cons, ih]
    constructor
    · rintro (h | h | ⟨k, hk, h⟩)
      · exact ⟨j, .inl rfl, .inl h⟩
      · exact ⟨j, .inl rfl, .inr h⟩
      · exact ⟨k, .inr hk, h⟩
    · rintro ⟨k, rfl | hk, h⟩
      · rcases h with h | h
        · exact .inl h
        · exact .inr (.inl h)
      · exact .inr (.inr ⟨k, hk, h⟩)
theorem ends_app (a b : List Jt) : ends (a ++ b) = ends a ++ ends b := by
  induction a with
  | nil => rfl
  | cons j a ih => simp [ends, ih]
theorem ends_len (a : List Jt) : (ends a).length = 2 * a.length := by
  induction a with
  | nil => rfl
  | cons j a ih => simp [ends, ih]; omega
theorem GoodJ.nil (m : Nat) : GoodJ m [] := ⟨fun _ h => (nomatch h), .nil, .nil⟩
theorem GoodJ.cons {m : Nat} {j : Jt} {J : List Jt} (h : GoodJ m (j :: J)) : GoodJ m J := by
  refine ⟨fun k hk => h.lt k (List.mem_cons_of_mem _ hk), ?_, (List.pairwise_cons.mp h.up).2⟩
  have := h.nd
  simp only [ends, List.nodup_cons] at this
  exact this.2.2
theorem GoodJ.pre {m : Nat} {a b : List Jt} (h : GoodJ m (a ++ b)) : GoodJ m a := by
  refine ⟨fun k hk => h.lt k (List.mem_append_left _ hk), ?_, (List.pairwise_append.mp h.up).1⟩
  have := h.nd
  rw [ends_app] at this
  exact (List.nodup_append.mp this).1
/-- a list of numbers below m without doubles has at most m -/
theorem nodup_len : ∀ (m : Nat) (l : List Nat), l.Nodup → (∀ x ∈ l, x < m) → l.length ≤ m
  | 0, l, _, h => by
    cases l with
    | nil => exact Nat.le_refl _
    | cons x l => exact absurd (h x List.mem_cons_self) (Nat.not_lt_zero _)
  | m + 1, l, hn, h => by
    have h1 : (l.filter (fun x => decide (x ≠ m))).length ≤ m := nodup_len m _ (hn.filter _) (fun x hx => by
      obtain ⟨a, b⟩ := List.mem_filter.mp hx
      have := h x a
      have b' : x ≠ m := of_decide_eq_true b
      omega)
    have h2 : l.length ≤ (l.filter (fun x => decide (x ≠ m))).length + 1 := by
      have key : ∀ l : List Nat, l.Nodup → l.length ≤ (l.filter (fun x => decide (x ≠ m))).length + 1 := by
        intro l
        induction l with
        | nil => intro _; exact Nat.zero_le _
        | cons a l ih =>
          intro hn
          obtain ⟨ha, hl⟩ := List.nodup_cons.mp hn
          by_cases e : a = m
          · subst e
            have hf : l.filter (fun x => decide (x ≠ a)) = l := List.filter_eq_self.mpr fun x hx => decide_eq_true fun q => ha (q ▸ hx)
            rw [List.filter_cons_of_neg (by simp), hf, List.length_cons]
            exact Nat.le_refl _
          · rw [List.filter_cons_of_pos (by simpa using e), List.length_cons, List.length_cons]
            have := ih hl
            omega
      exact key l hn
    omega
theorem GoodJ.few {m : Nat} {J : List Jt} (h : GoodJ m J) : 2 * J.length ≤ m := by
  rw [← ends_len]
  exact nodup_len m _ h.nd fun x hx => by
    obtain ⟨j, hj, e⟩ := ends_mem.mp hx
    have := h.lt j hj
    rcases e with e | e <;> omega
theorem GoodL.len {l : Lay} (h : GoodL l) : l.2.length ≤ 12 := by
  have h1 := h.j.few
  have h2 := h.few
  omega
theorem GoodL.links {l : Lay} (h : GoodL l) : 2 * l.1 ≤ 24 := by
  have h2 := h.few
  omega
theorem putM_len (l : List (Option Nat)) (j : Jt) : (putM l j).length = l.length := by simp [putM]
theorem foldM_len : ∀ (J : List Jt) (l : List (Option Nat)), (J.foldl putM l).length = l.length
  | [], _ => rfl
  | j :: J, l => by
    rw [List.foldl_cons, foldM_len J, putM_len]
theorem matesL_len (l : Lay) : (matesL l).length = 2 * l.1 := by
  unfold matesL
  rw [foldM_len, List.length_replicate]
theorem freeL_len (l : Lay) : (freeL l).length ≤ 2 * l.1 := by
  unfold freeL
  refine Nat.le_trans (List.length_filter_le _ _) ?_
  rw [List.length_range]
  exact Nat.le_refl _
theorem cutsL_len (F : List Nat) (a : Jt) : (cutsL F a).length = 1 + 2 * F.length := by
  simp [cutsL]
  omega
theorem doubles_len (a : Jt) : ∀ l : List Jt, (l.flatMap (doublesL a)).length = 2 * l.length
  | [] => rfl
  | b :: l => by
    rw [List.flatMap_cons, List.length_append, doubles_len a l]
    show 2 + 2 * l.length = 2 * (l.length + 1)
    omega
theorem turnJ_len (F : List Nat) (J : List Jt) (i : Nat) : (turnJ F J i).length ≤ 1 + 2 * F.length + 2 * J.length := by
  unfold turnJ
  cases J[i]? with
  | none => exact Nat.zero_le _
  | some a =>
    show (cutsL F a ++ (J.drop (i + 1)).flatMap (doublesL a)).length ≤ _
    rw [List.length_append, cutsL_len, doubles_len, List.length_drop]
    omega
theorem turnF_len (F : List Nat) (i : Nat) : (turnF F i).length ≤ F.length := by
  unfold turnF
  cases F[i]? with
  | none => exact Nat.zero_le _
  | some a =>
    show ((F.drop (i + 1)).map fun b => (([] : List Jt), [(a, b)])).length ≤ _
    rw [List.length_map, List.length_drop]
    omega
theorem flat_len {α : Type} (f : Nat → List α) (c : Nat) (h : ∀ i, (f i).length ≤ c) : ∀ n : Nat, ((List.range n).flatMap f).length ≤ c * n
  | 0 => Nat.zero_le _
  | n + 1 => by
    rw [List.range_succ, List.flatMap_append, List.length_append]
    have h1 := flat_len f c h n
    have h2 := h n
    have h3 : ([n].flatMap f).length ≤ c := by simpa using h2
    rw [Nat.mul_succ]
    omega
theorem flat_succ {α : Type} (f : Nat → List α) (n : Nat) : (List.range (n + 1)).flatMap f = (List.range n).flatMap f ++ f n := by
  rw [List.range_succ, List.flatMap_append]
  simp
theorem fm_filter {α : Type} (p : α → Bool) : ∀ l : List α, l.filterMap (fun a => if p a = true then some a else none) = l.filter p
  | [] => rfl
  | a :: l => by
    rw [List.filterMap_cons, List.filter_cons, fm_filter p l]
    by_cases h : p a = true
    · rw [if_pos h, if_pos h]
    · rw [if_neg h, if_neg h]
end DC
end

section
/-! Mates as a partial involution. -/
namespace DC
def partner : List Jt → Nat → Option Nat
  | [], _ => none
  | j :: J, e => if e = j.1 then some j.2 else if e = j.2 then some j.1 else partner J e
theorem partner_none {J : List Jt} {e : Nat} (h : e ∉ ends J) : partner J e = none := by
  induction J with
  | nil => rfl
  | cons j J ih =>
    have h1 : e ≠ j.1 := fun z => h (by rw [z]; exact List.mem_cons_self)
    have h2 : e ≠ j.2 := fun z => h (by rw [z]; exact List.mem_cons_of_mem _ List.mem_cons_self)
    have h3 : e ∉ ends J := fun z => h (List.mem_cons_of_mem _ (List.mem_cons_of_mem _ z))
    unfold partner
    rw [if_neg h1, if_neg h2, ih h3]
theorem partner_mem {J : List Jt} {e x : Nat} (h : partner J e = some x) : (e, x) ∈ J ∨ (x, e) ∈ J := by
  induction J with
  | nil => cases h
  | cons j J ih =>
    unfold partner at h
    by_cases h1 : e = j.1
    · rw [if_pos h1] at h
      cases h
      subst h1
      exact .inl List.mem_cons_self
    · rw [if_neg h1] at h
      by_cases h2 : e = j.2
      · rw [if_pos h2] at h
        cases h
        subst h2
        exact .inr List.mem_cons_self
      · rw [if_neg h2] at h
        rcases ih h with z | z
        · exact .inl (List.mem_cons_of_mem _ z)
        · exact .inr (List.mem_cons_of_mem _ z)
theorem partner_of {J : List Jt} (nd : (ends J).Nodup) {e x : Nat} (h : (e, x) ∈ J ∨ (x, e) ∈ J) : partner J e = some x := by
  induction J with
  | nil => rcases h with h | h <;> cases h
  | cons j J ih =>
    have nd' : (j.1 :: j.2 :: ends J).Nodup := nd
    obtain ⟨n1, nd2⟩ := List.nodup_cons.mp nd'
    obtain ⟨n2, nd3⟩ := List.nodup_cons.mp nd2
    have n12 : j.1 ≠ j.2 := fun z => n1 (by rw [z]; exact List.mem_cons_self)
    have n1' : j.1 ∉ ends J := fun z => n1 (List.mem_cons_of_mem _ z)
    unfold partner
    have inJ : (e, x) ∈ J ∨ (x, e) ∈ J → e ∈ ends J := fun z => by
      rcases z with z | z
      · exact ends_mem.mpr ⟨_, z, .inl rfl⟩
      · exact ends_mem.mpr ⟨_, z, .inr rfl⟩
    by_cases hj : (e, x) = j
    · subst hj
      rw [if_pos rfl]
    · by_cases hj2 : (x, e) = j
      · subst hj2
        have : e ≠ x := fun z => n12 z.symm
        rw [if_neg this, if_pos rfl]
      · have h' : (e, x) ∈ J ∨ (x, e) ∈ J := by
          rcases h with h | h
          · rcases List.mem_cons.mp h with z | z
            · exact absurd z hj
            · exact .inl z
          · rcases List.mem_cons.mp h with z | z
            · exact absurd z hj2
            · exact .inr z
        have he := inJ h'
        have e1 : e ≠ j.1 := fun z => n1' (z ▸ he)
        have e2 : e ≠ j.2 := fun z => n2 (z ▸ he)
        rw [if_neg e1, if_neg e2]
        exact ih nd3 h'
theorem foldM_get : ∀ (J : List Jt) (M : List (Option Nat)), (ends J).Nodup → (∀ j ∈ J, j.1 < M.length ∧ j.2 < M.length) → ∀ e, (J.foldl putM M)[e]? = match partner J e with
    | some x => some (some x)
    | none => M[e]?
  | [], M, _, _, e => rfl
  | j :: J, M, nd, hb, e => by
    have nd' : (j.1 :: j.2 :: ends J).Nodup := nd
    obtain ⟨n1, nd2⟩ := List.nodup_cons.mp nd'
    obtain ⟨n2, nd3⟩ := List.nodup_cons.mp nd2
    have n12 : j.1 ≠ j.2 := fun z => n1 (by rw [z]; exact List.mem_cons_self)
    have n1' : j.1 ∉ ends J := fun z => n1 (List.mem_cons_of_mem _ z)
    obtain ⟨b1, b2⟩ := hb j List.mem_cons_self
    rw [List.foldl_cons, foldM_get J (putM M j) nd3 (fun k hk => by rw [putM_len]; exact hb k (List.mem_cons_of_mem _ hk)) e]
    show _ = match (if e = j.1 then some j.2 else if e = j.2 then some j.1 else partner J e) with
      | some x => some (some x)
      | none => M[e]?
    by_cases e1 : e = j.1
    · subst e1
      rw [partner_none n1', if_pos rfl]
      show ((M.set j.1 (some j.2)).set j.2 (some j.1))[j.1]? = _
      rw [List.getElem?_set_ne (Ne.symm n12), List.getElem?_set_self b1]
    · rw [if_neg e1]
      by_cases e2 : e = j.2
      · subst e2
        rw [partner_none n2, if_pos rfl]
        show ((M.set j.1 (some j.2)).set j.2 (some j.1))[j.2]? = _
        rw [List.getElem?_set_self (by rw [List.length_set]; exact b2)]
      · rw [if_neg e2]
        cases partner J e with
        | some x => rfl
        | none =>
          show ((M.set j.1 (some j.2)).set j.2 (some j.1))[e]? = _
          rw [List.getElem?_set_ne (Ne.symm e2), List.getElem?_set_ne (Ne.symm e1)]
theorem mates_get {l : Lay} (g : GoodL l) (e : Nat) : (matesL l)[e]? = if e < 2 * l.1 then some (partner l.2 e) else none := by
  have hb : ∀ j ∈ l.2, j.1 < (List.replicate (2 * l.1) (none : Option Nat)).length ∧ j.2 < (List.replicate (2 * l.1) (none : Option Nat)).length := fun j hj => by
    have := g.j.lt j hj
    rw [List.length_replicate]
    omega
  unfold matesL
  rw [foldM_get l.2 _ g.j.nd hb e]
  by_cases he : e < 2 * l.1
  · rw [if_pos he]
    cases hp : partner l.2 e with
    | some x => rfl
    | none =>
      show (List.replicate (2 * l.1) none)[e]? = _
      rw [List.getElem?_replicate, if_pos he]
  · rw [if_neg he]
    cases hp : partner l.2 e with
    | some x =>
      exfalso
      rcases partner_mem hp with z | z
      · have := g.j.lt _ z; exact he (by simp at this; omega)
      · have := g.j.lt _ z; exact he (by simp at this; omega)
    | none =>
      show (List.replicate (2 * l.1) none)[e]? = _
      rw [List.getElem?_replicate, if_neg he]
/-- a partial involution of ends below N, without fixed ends -/
structure Inv2 (N : Nat) (f : Nat → Option Nat) : Prop where
  lt : ∀ {e x}, f e = some x → e < N
  sym : ∀ {e x}, f e = some x → f x = some e
  ne : ∀ {e x}, f e = some x → e ≠ x
theorem Inv2.lt2 {N : Nat} {f : Nat → Option Nat} (h : Inv2 N f) {e x : Nat} (q : f e = some x) : x < N := h.lt (h.sym q)
theorem inv_of {m : Nat} {J : List Jt} (g : GoodJ m J) : Inv2 m (partner J) := by
  refine ⟨fun {e x} h => ?_, fun {e x} h => partner_of g.nd (partner_mem h).symm, fun {e x} h => ?_⟩
  · rcases partner_mem h with z | z
    · have := g.lt _ z; simp at this; omega
    · have := g.lt _ z; simp at this; omega
  · rcases partner_mem h with z | z
    · have := g.lt _ z; simp at this; omega
    · have := g.lt _ z; simp at this; omega
theorem mates_join {l : Lay} (g : GoodL l) (e : Nat) : ((matesL l)[e]?).join = partner l.2 e := by
  rw [mates_get g e]
  by_cases he : e < 2 * l.1
  · rw [if_pos he]
    rfl
  · rw [if_neg he]
    cases hp : partner l.2 e with
    | none => rfl
    | some x => exact absurd ((inv_of g.j).lt hp) he
theorem isFree_iff {l : Lay} (g : GoodL l) (e : Nat) : isFree (matesL l) e = (partner l.2 e).isNone := by
  unfold isFree
  rw [mates_join g e]
theorem mem_free {l : Lay} (g : GoodL l) {e : Nat} : e ∈ freeL l ↔ e < 2 * l.1 ∧ partner l.2 e = none := by
  unfold freeL
  rw [List.mem_filter, List.mem_range, mates_get g e]
  constructor
  · rintro ⟨h1, h2⟩
    rw [if_pos h1] at h2
    refine ⟨h1, ?_⟩
    cases hp : partner l.2 e with
    | none => rfl
    | some x => rw [hp] at h2; simp at h2
  · rintro ⟨h1, h2⟩
    rw [if_pos h1, h2]
    exact ⟨h1, by simp⟩
/-- a lay is told by its mates -/
theorem joint_iff {m : Nat} {J : List Jt} (g : GoodJ m J) {j : Jt} : j ∈ J ↔ j.1 < j.2 ∧ partner J j.1 = some j.2 := by
  constructor
  · intro h
    exact ⟨(g.lt j h).1, partner_of g.nd (.inl h)⟩
  · rintro ⟨h1, h2⟩
    rcases partner_mem h2 with z | z
    · exact z
    · have := g.lt _ z
      simp at this
      omega
end DC
end

section
/-! Rows end. -/
namespace DC
/-- the row behind b: x was reached by m -/
inductive RowR (b : Nat) : List (Option Nat) → List (Option Nat) → Option Nat → List Nat → Prop
  | none {m m' : List (Option Nat)} : RowR b m m' .none []
  | back {m m' : List (Option Nat)} : RowR b m m' (some b) []
  | step {m m' : List (Option Nat)} {x : Nat} {R : List Nat} {o : Option Nat} : x ≠ b → m'[x]? = some o → RowR b m' m o R → RowR b m m' (some x) (x :: R)
/-- the row of each end is found -/
def RowOk (m m' : List (Option Nat)) (e : Nat) : Prop := ∃ (o : Option Nat) (R : List Nat), (cond (isFree m e) m' m)[e]? = some o ∧ RowR e (cond (isFree m e) m' m) (cond (isFree m e) m m') o R ∧ R.length ≤ 100 ∧ rowAt m m' e = e :: R
/-- what stands while a row is walked: V is walked (the last first), the next is reached by p -/
structure Trail (N e : Nat) (p q : Nat → Option Nat) (V : List Nat) : Prop where
  nd : V.Nodup
  e_notin : e ∉ V
  lt : ∀ z ∈ V, z < N
  old : ∀ z ∈ V, ∃ w, w ∈ e :: V ∧ q z = some w
  inner : ∀ z ∈ V, z ≠ V.headD e → ∃ w, w ∈ e :: V ∧ p z = some w ∧ w ≠ V.headD e
theorem Trail.start {N e : Nat} {p q : Nat → Option Nat} : Trail N e p q [] := ⟨.nil, fun z => (nomatch z), fun _ z => (nomatch z), fun _ z => (nomatch z), fun _ z => (nomatch z)⟩
theorem headD_mem (e : Nat) : ∀ V : List Nat, V.headD e ∈ e :: V
  | [] => List.mem_cons_self
  | _ :: _ => List.mem_cons_of_mem _ List.mem_cons_self
theorem Trail.next {N e y : Nat} {p q : Nat → Option Nat} {V : List Nat} (hp : Inv2 N p) (t : Trail N e p q V) (hy : p (V.headD e) = some y) (hne : y ≠ e) : Trail N e q p (y :: V) ∧ y ∉ V := by
  have hsym := hp.sym hy
  have hyV : y ∉ V := fun h => by
    by_cases z : y = V.headD e
    · exact hp.ne hy z.symm
    · obtain ⟨w, _, h2, h3⟩ := t.inner y h z
      rw [hsym] at h2
      exact h3 (Option.some.inj h2).symm
  refine ⟨⟨List.nodup_cons.mpr ⟨hyV, t.nd⟩, fun h => ?_, fun z h => ?_, fun z h => ?_, fun z h hz => ?_⟩, hyV⟩
  · rcases List.mem_cons.mp h with h | h
    · exact hne h.symm
    · exact t.e_notin h
  · rcases List.mem_cons.mp h with rfl | h
    · exact hp.lt2 hy
    · exact t.lt z h
  · have sub : ∀ w, w ∈ e :: V → w ∈ e :: y :: V := fun w hw => by
      rcases List.mem_cons.mp hw with rfl | hw
      · exact List.mem_cons_self
      · exact List.mem_cons_of_mem _ (List.mem_cons_of_mem _ hw)
    rcases List.mem_cons.mp h with rfl | h
    · exact ⟨_, sub _ (headD_mem e V), hsym⟩
    · by_cases z2 : z = V.headD e
      · rw [z2]
        exact ⟨y, List.mem_cons_of_mem _ List.mem_cons_self, hy⟩
      · obtain ⟨w, h1, h2, _⟩ := t.inner z h z2
        exact ⟨w, sub w h1, h2⟩
  · have hz2 : z ≠ y := hz
    rcases List.mem_cons.mp h with h | h
    · exact absurd h hz2
    · obtain ⟨w, h1, h2⟩ := t.old z h
      refine ⟨w, ?_, h2, ?_⟩
      · rcases List.mem_cons.mp h1 with rfl | h1
        · exact List.mem_cons_self
        · exact List.mem_cons_of_mem _ (List.mem_cons_of_mem _ h1)
      · show w ≠ y
        intro z3
        subst z3
        rcases List.mem_cons.mp h1 with h1 | h1
        · exact hne h1
        · exact hyV h1
theorem Trail.len {N e : Nat} {p q : Nat → Option Nat} {V : List Nat} (t : Trail N e p q V) (he : e < N) : V.length + 1 ≤ N := by
  have := nodup_len N (e :: V) (List.nodup_cons.mpr ⟨t.e_notin, t.nd⟩) (fun x hx => by
    rcases List.mem_cons.mp hx with rfl | hx
    · exact he
    · exact t.lt x hx)
  exact this
theorem row_ends {N e : Nat} (he : e < N) : ∀ (k : Nat) (p q : Nat → Option Nat) (P Q : List (Option Nat)) (V : List Nat), Inv2 N p → Inv2 N q → (∀ z, z < N → P[z]? = some (p z)) → (∀ z, z < N → Q[z]? = some (q z)) →
    Trail N e p q V → N + 1 ≤ k + V.length → RowR e P Q (p (V.headD e)) (rowGo e k P Q (p (V.headD e))) ∧ (rowGo e k P Q (p (V.headD e))).length + V.length + 1 ≤ N
  | 0, p, q, P, Q, V, _, _, _, _, t, hk => by
    have := t.len he
    omega
  | k + 1, p, q, P, Q, V, hp, hq, hP, hQ, t, hk => by
    have tl := t.len he
    cases hy : p (V.headD e) with
    | none => exact ⟨.none, by show 0 + V.length + 1 ≤ N; omega⟩
    | some y =>
      by_cases hne : y = e
      · subst hne
        have e1 : rowGo y (k + 1) P Q (some y) = [] := by
          unfold rowGo
          rw [if_pos rfl]
        rw [e1]
        exact ⟨.back, by show 0 + V.length + 1 ≤ N; omega⟩
      · have e1 : rowGo e (k + 1) P Q (some y) = y :: rowGo e k Q P ((Q[y]?).join) := by
          rw [rowGo, if_neg hne]
        obtain ⟨t2, hyV⟩ := t.next hp hy hne
        have hyN := hp.lt2 hy
        have e2 : (Q[y]?).join = q y := by rw [hQ y hyN]; rfl
        rw [e1, e2]
        have ih := row_ends he k q p Q P (y :: V) hq hp hQ hP t2 (by rw [List.length_cons]; omega)
        have e3 : (y :: V).headD e = y := rfl
        rw [e3, List.length_cons] at ih
        exact ⟨.step hne (hQ y hyN) ih.1, by rw [List.length_cons]; omega⟩
theorem mates_at {l : Lay} (g : GoodL l) : ∀ z, z < 2 * l.1 → (matesL l)[z]? = some (partner l.2 z) := fun z hz => by rw [mates_get g z, if_pos hz]
theorem rowOk {a b : Lay} (ga : GoodL a) (gb : GoodL b) (h : a.1 = b.1) : ∀ e, e < 2 * a.1 → RowOk (matesL a) (matesL b) e := by
  intro e he
  have h24 := ga.links
  have ia := inv_of ga.j
  have ib := inv_of gb.j
  rw [← h] at ib
  have ma := mates_at ga
  have mb := mates_at gb
  rw [← h] at mb
  have hml := matesL_len a
  unfold RowOk rowAt rowL
  cases hf : isFree (matesL a) e with
  | true =>
    have r := row_ends he (2 * a.1 + 1) (partner b.2) (partner a.2) (matesL b) (matesL a) [] ib ia mb ma Trail.start (Nat.le_refl _)
    rw [hml]
    have e2 : ((matesL b)[e]?).join = partner b.2 e := by rw [mb e he]; rfl
    refine ⟨partner b.2 e, _, mb e he, r.1, ?_, ?_⟩
    · have := r.2
      simp only [List.length_nil] at this
      omega
    · rw [if_pos rfl, e2]
      rfl
  | false =>
    have r := row_ends he (2 * a.1 + 1) (partner a.2) (partner b.2) (matesL a) (matesL b) [] ia ib ma mb Trail.start (Nat.le_refl _)
    rw [hml]
    have e2 : ((matesL a)[e]?).join = partner a.2 e := by rw [ma e he]; rfl
    refine ⟨partner a.2 e, _, ma e he, r.1, ?_, ?_⟩
    · have := r.2
      simp only [List.length_nil] at this
      omega
    · rw [if_neg (by simp), e2]
      rfl
/-! every row of the list begins below 2n -/
theorem rowsGo_ok {N : Nat} (m m' : List (Option Nat)) : ∀ (es taken : List Nat) (acc : List (List Nat)), (∀ e ∈ es, e < N) → (∀ r ∈ acc, ∃ e r', r = e :: r' ∧ e < N) →
    (rowsGo m m' es taken acc).length ≤ acc.length + es.length ∧ ∀ r ∈ rowsGo m m' es taken acc, ∃ e r', r = e :: r' ∧ e < N
  | [], taken, acc, _, h => ⟨Nat.le_refl _, h⟩
  | e :: es, taken, acc, hes, h => by
    unfold rowsGo
    by_cases ht : e ∈ taken
    · rw [if_pos ht]
      have := rowsGo_ok m m' es taken acc (fun x hx => hes x (List.mem_cons_of_mem _ hx)) h
      exact ⟨by rw [List.length_cons]; omega, this.2⟩
    · rw [if_neg ht]
      have := rowsGo_ok m m' es (taken ++ rowAt m m' e) (acc ++ [rowAt m m' e]) (fun x hx => hes x (List.mem_cons_of_mem _ hx)) (fun r hr => by
        rcases List.mem_append.mp hr with hr | hr
        · exact h r hr
        · rw [List.mem_singleton] at hr
          subst hr
          unfold rowAt rowL
          split
          · exact ⟨e, _, rfl, hes e List.mem_cons_self⟩
          · exact ⟨e, _, rfl, hes e List.mem_cons_self⟩)
      exact ⟨by rw [List.length_cons]; rw [List.length_append, List.length_singleton] at this; omega, this.2⟩
theorem rowsL_ok {a b : Lay} (ga : GoodL a) (gb : GoodL b) (h : a.1 = b.1) : (rowsL a b).length ≤ 48 ∧ ∀ r ∈ rowsL a b, ∃ e r', r = e :: r' ∧ e < 2 * a.1 := by
  have h24 := ga.links
  have hl : (lastsL (matesL a) (matesL b) (2 * a.1)).length ≤ 2 * a.1 := by
    have : (lastsL (matesL a) (matesL b) (2 * a.1)).length ≤ (List.range (2 * a.1)).length := List.length_filter_le _ _
    rw [List.length_range] at this
    exact this
  have := rowsGo_ok (N := 2 * a.1) (matesL a) (matesL b) (lastsL (matesL a) (matesL b) (2 * a.1) ++ List.range (2 * a.1)) [] [] (fun e he => by
    rcases List.mem_append.mp he with he | he
    · exact List.mem_range.mp (List.mem_filter.mp he).1
    · exact List.mem_range.mp he) (fun r hr => (nomatch hr))
  refine ⟨?_, this.2⟩
  have h2 := this.1
  rw [List.length_append, List.length_range, List.length_nil] at h2
  exact Nat.le_trans h2 (by omega)
end DC
end

section
/-! Components of two partial involutions. -/
namespace DC
open Classical
def Clo (f g : Nat → Option Nat) (S : Nat → Prop) : Prop := ∀ e x, S e → (f e = some x ∨ g e = some x) → S x
def Cl (f g : Nat → Option Nat) (e x : Nat) : Prop := ∀ S : Nat → Prop, Clo f g S → S e → S x
section
variable {N : Nat} {f g : Nat → Option Nat}
theorem Cl.refl (e : Nat) : Cl f g e e := fun _ _ h => h
theorem Cl.trans {a b c : Nat} (h : Cl f g a b) (k : Cl f g b c) : Cl f g a c := fun S hS ha => k S hS (h S hS ha)
theorem Cl.clo (e : Nat) : Clo f g (Cl f g e) := fun a x h hx S hS he => hS a x (h S hS he) hx
theorem Cl.one {a x : Nat} (h : f a = some x ∨ g a = some x) : Cl f g a x := Cl.clo a a x (Cl.refl a) h
theorem Cl.symm (hf : Inv2 N f) (hg : Inv2 N g) {a b : Nat} (h : Cl f g a b) : Cl f g b a := by
  refine h (fun z => Cl f g z a) (fun z x hz hx => ?_) (Cl.refl a)
  have : Cl f g x z := Cl.one (hx.imp (fun q => hf.sym q) (fun q => hg.sym q))
  exact this.trans hz
theorem Cl.lt (hf : Inv2 N f) (hg : Inv2 N g) {a b : Nat} (h : Cl f g a b) (ha : a < N) : b < N :=
  h (fun z => z < N) (fun z x _ hx => hx.elim (fun q => hf.lt2 q) (fun q => hg.lt2 q)) ha
theorem Cl.swap {a b : Nat} (h : Cl f g a b) : Cl g f a b := fun S hS ha => h S (fun z x hz hx => hS z x hz hx.symm) ha
/-- the members of a component -/
noncomputable def mem (f g : Nat → Option Nat) (N e : Nat) : List Nat := (List.range N).filter fun x => decide (Cl f g e x)
theorem mem_mem {e x : Nat} : x ∈ mem f g N e ↔ x < N ∧ Cl f g e x := by
  unfold mem
  rw [List.mem_filter, List.mem_range, decide_eq_true_eq]
theorem mem_congr (hf : Inv2 N f) (hg : Inv2 N g) {a b : Nat} (h : Cl f g a b) : mem f g N a = mem f g N b := by
  unfold mem
  refine List.filter_congr fun x _ => ?_
  exact decide_eq_decide.mpr ⟨fun z => (h.symm hf hg).trans z, fun z => h.trans z⟩
theorem mem_nodup (e : Nat) : (mem f g N e).Nodup := (List.nodup_range).sublist List.filter_sublist
/-- a ring: no member is free in f or in g -/
def Ring (f g : Nat → Option Nat) (e : Nat) : Prop := ∀ x, Cl f g e x → f x ≠ none ∧ g x ≠ none
noncomputable def cst (f g : Nat → Option Nat) (N e : Nat) : Int := (((mem f g N e).length / 2 : Nat) : Int) - (if Ring f g e then 1 else 0)
theorem ring_congr (hf : Inv2 N f) (hg : Inv2 N g) {a b : Nat} (h : Cl f g a b) : Ring f g a ↔ Ring f g b :=
  ⟨fun r x hx => r x (h.trans hx), fun r x hx => r x ((h.symm hf hg).trans hx)⟩
theorem cst_congr (hf : Inv2 N f) (hg : Inv2 N g) {a b : Nat} (h : Cl f g a b) : cst f g N a = cst f g N b := by
  unfold cst
  rw [mem_congr hf hg h]
  by_cases r : Ring f g b
  · rw [if_pos ((ring_congr hf hg h).mpr r), if_pos r]
  · rw [if_neg (fun z => r ((ring_congr hf hg h).mp z)), if_neg r]
end
/-! a number that all sizes up to N divide -/
def fact : Nat → Nat
  | 0 => 1
  | n + 1 => (n + 1) * fact n
theorem fact_pos : ∀ n, 0 < fact n
  | 0 => Nat.one_pos
  | n + 1 => Nat.mul_pos (Nat.succ_pos n) (fact_pos n)
theorem dvd_fact : ∀ {k n : Nat}, 0 < k → k ≤ n → k ∣ fact n
  | k, 0, h0, h => absurd h (by omega)
  | k, n + 1, h0, h => by
    by_cases e : k = n + 1
    · subst e
      exact Nat.dvd_mul_right _ _
    · exact Nat.dvd_trans (dvd_fact h0 (by omega)) (Nat.dvd_mul_left _ _)
section
variable {N : Nat} {f g : Nat → Option Nat}
/-- an end's share of its component's cost, times fact N -/
noncomputable def share (f g : Nat → Option Nat) (N e : Nat) : Int := cst f g N e * ((fact N / (mem f g N e).length : Nat) : Int)
noncomputable def costW (f g : Nat → Option Nat) (N : Nat) : Int := ((List.range N).map (share f g N)).sum
theorem sum_const (c : Int) : ∀ l : List Nat, (l.map fun _ => c).sum = (l.length : Int) * c
  | [] => by simp
  | x :: l => by
    rw [List.map_cons, List.sum_cons, sum_const c l, List.length_cons, Int.natCast_add, Int.add_mul]
    show c + (l.length : Int) * c = (l.length : Int) * c + 1 * c
    rw [Int.one_mul, Int.add_comm]
theorem mem_len (e : Nat) : (mem f g N e).length ≤ N := by
  have := List.length_filter_le (fun x => decide (Cl f g e x)) (List.range N)
  rw [List.length_range] at this
  exact this
/-- a component's shares -/
theorem share_sum (hf : Inv2 N f) (hg : Inv2 N g) {e : Nat} (he : e < N) : ((mem f g N e).map (share f g N)).sum = cst f g N e * (fact N : Int) := by
  have h1 : (mem f g N e).map (share f g N) = (mem f g N e).map fun _ => share f g N e := by
    refine List.map_congr_left fun x hx => ?_
    have hc := (mem_mem.mp hx).2
    unfold share
    rw [← cst_congr hf hg hc, ← mem_congr hf hg hc]
  have hpos : 0 < (mem f g N e).length := List.length_pos_of_mem (mem_mem.mpr ⟨he, Cl.refl e⟩)
  have hd := Nat.mul_div_cancel' (dvd_fact hpos (mem_len (f := f) (g := g) (N := N) e))
  rw [h1, sum_const]
  unfold share
  rw [Int.mul_left_comm, ← Int.natCast_mul, hd]
end
end DC
end

section
/-! A system of rows gives the cost. -/
namespace DC
open Classical
theorem sumP {l m : List Int} (h : l.Perm m) : l.sum = m.sum := by
  induction h with
  | nil => rfl
  | cons x _ ih => rw [List.sum_cons, List.sum_cons, ih]
  | swap x y l => rw [List.sum_cons, List.sum_cons, List.sum_cons, List.sum_cons]; omega
  | trans _ _ h1 h2 => rw [h1, h2]
theorem sum_app (l m : List Int) : (l ++ m).sum = l.sum + m.sum := by
  induction l with
  | nil => simp
  | cons x l ih => rw [List.cons_append, List.sum_cons, List.sum_cons, ih]; omega
section
variable {N : Nat} {f g : Nat → Option Nat}
theorem system_cost (hf : Inv2 N f) (hg : Inv2 N g) {Rs : List (List Nat)} {c : List Nat → Int} (hp : Rs.flatten.Perm (List.range N)) (h : ∀ r ∈ Rs, ∃ e, e < N ∧ r.Perm (mem f g N e) ∧ c r = cst f g N e) : (Rs.map c).sum * (fact N : Int) = costW f g N := by
  have key : ∀ Rs : List (List Nat), (∀ r ∈ Rs, ∃ e, e < N ∧ r.Perm (mem f g N e) ∧ c r = cst f g N e) → (Rs.flatten.map (share f g N)).sum = (Rs.map c).sum * (fact N : Int) := by
    intro Rs
    induction Rs with
    | nil => intro _; simp
    | cons r Rs ih =>
      intro h
      obtain ⟨e, he, hr, hc⟩ := h r List.mem_cons_self
      rw [List.flatten_cons, List.map_append, sum_app, ih (fun r' hr' => h r' (List.mem_cons_of_mem _ hr')), List.map_cons, List.sum_cons, Int.add_mul, hc, sumP (hr.map _), share_sum hf hg he]
  rw [← key Rs h]
  exact sumP (hp.map _)
/-- the shares of the ends in a set that is closed -/
theorem costW_split (p : Nat → Bool) : costW f g N = (((List.range N).filter p).map (share f g N)).sum + (((List.range N).filter fun x => !p x).map (share f g N)).sum := by
  unfold costW
  have : ∀ l : List Nat, (l.map (share f g N)).sum = ((l.filter p).map (share f g N)).sum + ((l.filter fun x => !p x).map (share f g N)).sum := by
    intro l
    induction l with
    | nil => simp
    | cons x l ih =>
      rw [List.map_cons, List.sum_cons, ih, List.filter_cons, List.filter_cons]
      cases p x <;> simp <;> omega
  exact this _
theorem costW_swap : costW f g N = costW g f N := by
  unfold costW
  congr 1
  refine List.map_congr_left fun e _ => ?_
  have hm : mem f g N e = mem g f N e := List.filter_congr fun x _ => decide_eq_decide.mpr ⟨Cl.swap, Cl.swap⟩
  have hr : Ring f g e ↔ Ring g f e := ⟨fun r x hx => (r x hx.swap).symm, fun r x hx => (r x hx.swap).symm⟩
  unfold share cst
  rw [hm]
  by_cases r : Ring g f e
  · rw [if_pos (hr.mpr r), if_pos r]
  · rw [if_neg (fun z => r (hr.mp z)), if_neg r]
end
end DC
end

section
/-! The program's rows are the components. -/
namespace DC
open Classical
theorem even_of : ∀ (n : Nat) (L : List Nat) (h : Nat → Option Nat), L.length = n → L.Nodup → (∀ {e x}, h e = some x → h x = some e) → (∀ {e x}, h e = some x → e ≠ x) → (∀ z ∈ L, ∃ w ∈ L, h z = some w) → n % 2 = 0
  | 0, _, _, _, _, _, _, _ => rfl
  | 1, L, h, hl, nd, sy, ne, tot => by
    match L, hl with
    | [z], _ =>
      obtain ⟨w, hw, e⟩ := tot z List.mem_cons_self
      rw [List.mem_singleton] at hw
      subst hw
      exact absurd rfl (ne e)
  | n + 2, L, h, hl, nd, sy, ne, tot => by
    match L, hl, nd, tot with
    | z :: L, hl, nd, tot =>
      obtain ⟨w, hw, e⟩ := tot z List.mem_cons_self
      have hw2 : w ∈ L := by
        rcases List.mem_cons.mp hw with rfl | hw
        · exact absurd rfl (ne e)
        · exact hw
      obtain ⟨n1, n2⟩ := List.nodup_cons.mp nd
      have hl2 : (L.erase w).length = n := by
        rw [List.length_erase_of_mem hw2]
        rw [List.length_cons] at hl
        omega
      have ih := even_of n (L.erase w) h hl2 (n2.erase w) sy ne (fun y hy => by
        have hyL := List.mem_of_mem_erase hy
        have hyw : y ≠ w := fun q => by
          subst q
          exact (List.Nodup.not_mem_erase n2) hy
        obtain ⟨v, hv, ev⟩ := tot y (List.mem_cons_of_mem _ hyL)
        have hvz : v ≠ z := fun q => by
          subst q
          have := sy ev
          rw [e] at this
          exact hyw (Option.some.inj this).symm
        have hvw : v ≠ w := fun q => by
          subst q
          have h1 := sy ev
          have h2 := sy e
          rw [h2] at h1
          have : z = y := Option.some.inj h1
          subst this
          exact n1 hyL
        refine ⟨v, ?_, ev⟩
        rcases List.mem_cons.mp hv with q | hv
        · exact absurd q hvz
        · exact (List.mem_erase_of_ne hvw).mpr hv)
      omega
/-- a walked row with what was walked is closed, but for the begin -/
theorem row_closed {N e : Nat} (he : e < N) : ∀ (k : Nat) (p q : Nat → Option Nat) (P Q : List (Option Nat)) (V : List Nat), Inv2 N p → Inv2 N q → (∀ z, z < N → P[z]? = some (p z)) → (∀ z, z < N → Q[z]? = some (q z)) →
    Trail N e p q V → N + 1 ≤ k + V.length → (∀ z ∈ V, Cl p q e z) →
    (V ++ rowGo e k P Q (p (V.headD e))).Nodup ∧ (∀ z ∈ V ++ rowGo e k P Q (p (V.headD e)), z ≠ e ∧ z < N ∧ Cl p q e z ∧ ∀ x, (p z = some x ∨ q z = some x) → x = e ∨ x ∈ V ++ rowGo e k P Q (p (V.headD e)))
  | 0, p, q, P, Q, V, _, _, _, _, t, hk, _ => by
    have := t.len he
    omega
  | k + 1, p, q, P, Q, V, hp, hq, hP, hQ, t, hk, hc => by
    have tl := t.len he
    have base : (∀ x, p (V.headD e) = some x → x = e) → V.Nodup ∧ (∀ z ∈ V, z ≠ e ∧ z < N ∧ Cl p q e z ∧ ∀ x, (p z = some x ∨ q z = some x) → x = e ∨ x ∈ V) := fun hl => by
      refine ⟨t.nd, fun z hz => ⟨fun q => t.e_notin (q ▸ hz), t.lt z hz, hc z hz, fun x hx => ?_⟩⟩
      rcases hx with hx | hx
      · by_cases z2 : z = V.headD e
        · rw [z2] at hx
          exact .inl (hl x hx)
        · obtain ⟨w, h1, h2, _⟩ := t.inner z hz z2
          rw [h2] at hx
          cases hx
          exact List.mem_cons.mp h1
      · obtain ⟨w, h1, h2⟩ := t.old z hz
        rw [h2] at hx
        cases hx
        exact List.mem_cons.mp h1
    cases hy : p (V.headD e) with
    | none =>
      have e0 : rowGo e (k + 1) P Q none = [] := rfl
      rw [e0, List.append_nil]
      exact base (fun x hx => by rw [hy] at hx; cases hx)
    | some y =>
      by_cases hne : y = e
      · have e1 : rowGo e (k + 1) P Q (some y) = [] := by
          unfold rowGo
          rw [if_pos hne]
        rw [e1, List.append_nil]
        refine base (fun x hx => ?_)
        rw [hy] at hx
        cases hx
        exact hne
      · have e1 : rowGo e (k + 1) P Q (some y) = y :: rowGo e k Q P ((Q[y]?).join) := by
          rw [rowGo, if_neg hne]
        obtain ⟨t2, hyV⟩ := t.next hp hy hne
        have hyN := hp.lt2 hy
        have e2 : (Q[y]?).join = q y := by rw [hQ y hyN]; rfl
        have hcy : Cl p q e y := by
          rcases List.mem_cons.mp (headD_mem e V) with z | z
          · rw [z] at hy
            exact Cl.one (.inl hy)
          · exact (hc _ z).trans (Cl.one (.inl hy))
        rw [e1, e2]
        have ih := row_closed he k q p Q P (y :: V) hq hp hQ hP t2 (by rw [List.length_cons]; omega) (fun z hz => by
          rcases List.mem_cons.mp hz with rfl | hz
          · exact hcy.swap
          · exact (hc z hz).swap)
        have e3 : (y :: V).headD e = y := rfl
        rw [e3, List.cons_append] at ih
        have pm : (V ++ y :: rowGo e k Q P (q y)).Perm (y :: (V ++ rowGo e k Q P (q y))) := List.perm_middle
        refine ⟨pm.nodup_iff.mpr ih.1, fun z hz => ?_⟩
        obtain ⟨h1, h2, h3, h4⟩ := ih.2 z (pm.mem_iff.mp hz)
        exact ⟨h1, h2, h3.swap, fun x hx => (h4 x hx.symm).imp id fun w => pm.mem_iff.mpr w⟩
/-- the row of e is e's component, if e is a slot by h0 or the component is a ring; p: the row's first function -/
theorem row_comp {N e : Nat} (he : e < N) {p q : Nat → Option Nat} {P Q : List (Option Nat)} (hp : Inv2 N p) (hq : Inv2 N q) (hP : ∀ z, z < N → P[z]? = some (p z)) (hQ : ∀ z, z < N → Q[z]? = some (q z)) (hor : q e = none ∨ Ring p q e) :
    (e :: rowGo e (N + 1) P Q (p e)).Perm (mem p q N e) := by
  obtain ⟨nd, cl⟩ := row_closed he (N + 1) p q P Q [] hp hq hP hQ Trail.start (Nat.le_refl _) (fun z h => (nomatch h))
  rw [List.nil_append] at nd cl
  have e0 : ([] : List Nat).headD e = e := rfl
  rw [e0] at nd cl
  have first : ∀ x, p e = some x → x ∈ rowGo e (N + 1) P Q (p e) := fun x hx => by
    rw [hx, rowGo, if_neg (fun z => hp.ne hx z.symm)]
    exact List.mem_cons_self
  generalize hR : rowGo e (N + 1) P Q (p e) = R at *
  have en : e ∉ R := fun h => (cl e h).1 rfl
  have ndT : (e :: R).Nodup := List.nodup_cons.mpr ⟨en, nd⟩
  have sub : ∀ z ∈ e :: R, Cl p q e z := fun z hz => by
    rcases List.mem_cons.mp hz with rfl | hz
    · exact Cl.refl _
    · exact (cl z hz).2.2.1
  have second : ∀ x, q e = some x → x ∈ e :: R := fun x hx => by
    rcases hor with h | h
    · rw [h] at hx
      cases hx
    · refine Classical.byContradiction fun hn => ?_
      have even1 := even_of (e :: R).length (e :: R) p rfl ndT hp.sym hp.ne (fun z hz => by
        cases hz2 : p z with
        | none => exact absurd hz2 (h z (sub z hz)).1
        | some w =>
          refine ⟨w, ?_, rfl⟩
          rcases List.mem_cons.mp hz with rfl | hz
          · exact List.mem_cons_of_mem _ (first w hz2)
          · exact List.mem_cons.mpr ((cl z hz).2.2.2 w (.inl hz2)))
      have even2 := even_of R.length R q rfl nd hq.sym hq.ne (fun z hz => by
        cases hz2 : q z with
        | none => exact absurd hz2 (h z (sub z (List.mem_cons_of_mem _ hz))).2
        | some w =>
          refine ⟨w, ?_, rfl⟩
          rcases (cl z hz).2.2.2 w (.inr hz2) with q1 | q1
          · subst q1
            exact absurd (List.mem_cons_of_mem _ (by
              have := hq.sym hz2
              rw [hx] at this
              rw [Option.some.inj this]
              exact hz)) hn
          · exact q1)
      rw [List.length_cons] at even1
      omega
  have closed : Clo p q (fun z => z ∈ e :: R) := fun z x hz hx => by
    rcases List.mem_cons.mp hz with rfl | hz
    · rcases hx with hx | hx
      · exact List.mem_cons_of_mem _ (first x hx)
      · exact second x hx
    · exact List.mem_cons.mpr ((cl z hz).2.2.2 x hx)
  have sub2 : ∀ z, z ∈ mem p q N e ↔ z ∈ e :: R := fun z => by
    rw [mem_mem]
    constructor
    · rintro ⟨_, h⟩
      exact h _ closed List.mem_cons_self
    · intro h
      refine ⟨?_, sub z h⟩
      exact (sub z h).lt hp hq he
  rw [List.perm_iff_count]
  intro z
  rw [(mem_nodup e).count, ndT.count]
  by_cases h : z ∈ e :: R
  · rw [if_pos h, if_pos ((sub2 z).mpr h)]
  · rw [if_neg h, if_neg (fun q => h ((sub2 z).mp q))]
end DC
end

section
/-! costL by components. -/
namespace DC
open Classical
theorem mem_swap {N : Nat} {f g : Nat → Option Nat} (e : Nat) : mem f g N e = mem g f N e := List.filter_congr fun x _ => decide_eq_decide.mpr ⟨Cl.swap, Cl.swap⟩
structure Sys (a b : Lay) (acc : List (List Nat)) : Prop where
  nd : acc.flatten.Nodup
  row : ∀ r ∈ acc, ∃ e, e < 2 * a.1 ∧ r.Perm (mem (partner a.2) (partner b.2) (2 * a.1) e) ∧ costP (pieceL a b r) = cst (partner a.2) (partner b.2) (2 * a.1) e
def Slot (a b : Lay) (e : Nat) : Prop := partner a.2 e = none ∨ partner b.2 e = none
theorem kind_ring {a b : Lay} (ga : GoodL a) (gb : GoodL b) (e : Nat) (R : List Nat) : kindL (matesL a) (matesL b) (e :: R) = 0 ↔ ¬ Slot a b e := by
  show (if (!isFree (matesL a) e && !isFree (matesL b) e) = true then (0 : Fin 4) else if (e :: R).length % 2 = 1 then 1 else if isFree (matesL a) e = true then 2 else 3) = 0 ↔ _
  rw [isFree_iff ga, isFree_iff gb]
  unfold Slot
  cases hx : partner a.2 e <;> cases hy : partner b.2 e
  · simp
    split
    · decide
    · decide
  · simp
    split
    · decide
    · decide
  · simp
    split
    · decide
    · decide
  · simp
theorem sys_step {a b : Lay} (ga : GoodL a) (gb : GoodL b) (h : a.1 = b.1) {acc : List (List Nat)} (hs : Sys a b acc) {e : Nat} (he : e < 2 * a.1) (hor : Slot a b e ∨ ∀ s, s < 2 * a.1 → Slot a b s → s ∈ acc.flatten) (hn : e ∉ acc.flatten) :
    Sys a b (acc ++ [rowAt (matesL a) (matesL b) e]) ∧ e ∈ rowAt (matesL a) (matesL b) e := by
  have ia := inv_of ga.j
  have ib := inv_of gb.j
  rw [← h] at ib
  have ma := mates_at ga
  have mb := mates_at gb
  rw [← h] at mb
  have hml := matesL_len a
  have back : ∀ x, Cl (partner a.2) (partner b.2) e x → x < 2 * a.1 → x ∉ acc.flatten := fun x hx hlt hxm => by
    obtain ⟨r, hr, hxr⟩ := List.mem_flatten.mp hxm
    obtain ⟨e0, he0, pm, _⟩ := hs.row r hr
    have h1 := (mem_mem.mp (pm.mem_iff.mp hxr)).2
    have h2 := h1.trans (hx.symm ia ib)
    exact hn (List.mem_flatten.mpr ⟨r, hr, pm.mem_iff.mpr (mem_mem.mpr ⟨he, h2⟩)⟩)
  have ring : ¬ Slot a b e → Ring (partner a.2) (partner b.2) e := fun hne x hx => by
    rcases hor with h1 | h1
    · exact absurd h1 hne
    · have hlt := hx.lt ia ib he
      exact ⟨fun z => back x hx hlt (h1 x hlt (.inl z)), fun z => back x hx hlt (h1 x hlt (.inr z))⟩
  obtain ⟨R, hR, pm⟩ : ∃ R, rowAt (matesL a) (matesL b) e = e :: R ∧ (e :: R).Perm (mem (partner a.2) (partner b.2) (2 * a.1) e) := by
    unfold rowAt rowL
    rw [hml]
    have e1 : ((matesL b)[e]?).join = partner b.2 e := by rw [mb e he]; rfl
    have e2 : ((matesL a)[e]?).join = partner a.2 e := by rw [ma e he]; rfl
    cases hf : isFree (matesL a) e with
    | true =>
      rw [if_pos rfl, e1]
      rw [isFree_iff ga] at hf
      refine ⟨_, rfl, ?_⟩
      rw [mem_swap]
      exact row_comp he ib ia mb ma (.inl (Option.isNone_iff_eq_none.mp hf))
    | false =>
      rw [if_neg (by simp), e2]
      refine ⟨_, rfl, ?_⟩
      refine row_comp he ia ib ma mb ?_
      by_cases hsl : Slot a b e
      · rcases hsl with z | z
        · rw [isFree_iff ga, z] at hf
          cases hf
        · exact .inl z
      · exact .inr (ring hsl)
  rw [hR]
  refine ⟨⟨?_, fun r hr => ?_⟩, List.mem_cons_self⟩
  · rw [List.flatten_append, List.flatten_singleton]
    refine List.nodup_append.mpr ⟨hs.nd, pm.nodup_iff.mpr (mem_nodup e), fun x hx y hy hxy => ?_⟩
    subst hxy
    have := mem_mem.mp (pm.mem_iff.mp hy)
    exact back x this.2 this.1 hx
  · rcases List.mem_append.mp hr with hr | hr
    · exact hs.row r hr
    · rw [List.mem_singleton] at hr
      subst hr
      refine ⟨e, he, pm, ?_⟩
      unfold costP cst pieceL
      rw [pm.length_eq]
      have hk := kind_ring ga gb e R
      by_cases hsl : Slot a b e
      · have h1 : ¬ kindL (matesL a) (matesL b) (e :: R) = 0 := fun z => (hk.mp z) hsl
        have h2 : ¬ Ring (partner a.2) (partner b.2) e := fun z => by
          have := z e (Cl.refl e)
          rcases hsl with q | q
          · exact this.1 q
          · exact this.2 q
        show _ - (if kindL (matesL a) (matesL b) (e :: R) = 0 then (1 : Int) else 0) = _
        rw [if_neg h1, if_neg h2]
      · show _ - (if kindL (matesL a) (matesL b) (e :: R) = 0 then (1 : Int) else 0) = _
        rw [if_pos (hk.mpr hsl), if_pos (ring hsl)]
theorem sys_go {a b : Lay} (ga : GoodL a) (gb : GoodL b) (h : a.1 = b.1) : ∀ (es : List Nat) (acc : List (List Nat)), Sys a b acc → (∀ e ∈ es, e < 2 * a.1 ∧ (Slot a b e ∨ ∀ s, s < 2 * a.1 → Slot a b s → s ∈ acc.flatten)) →
    ∃ acc', rowsGo (matesL a) (matesL b) es acc.flatten acc = acc' ∧ Sys a b acc' ∧ (∀ x ∈ acc.flatten, x ∈ acc'.flatten) ∧ (∀ e ∈ es, e ∈ acc'.flatten) ∧ ∀ es2, rowsGo (matesL a) (matesL b) (es ++ es2) acc.flatten acc = rowsGo (matesL a) (matesL b) es2 acc'.flatten acc'
  | [], acc, hs, _ => ⟨acc, rfl, hs, fun _ hx => hx, fun _ he => (nomatch he), fun _ => rfl⟩
  | e :: es, acc, hs, he => by
    obtain ⟨he1, he2⟩ := he e List.mem_cons_self
    by_cases hin : e ∈ acc.flatten
    · obtain ⟨acc', q1, q2, q3, q4, q5⟩ := sys_go ga gb h es acc hs (fun x hx => he x (List.mem_cons_of_mem _ hx))
      refine ⟨acc', ?_, q2, q3, fun x hx => ?_, fun es2 => ?_⟩
      · rw [rowsGo, if_pos hin]
        exact q1
      · rcases List.mem_cons.mp hx with rfl | hx
        · exact q3 _ hin
        · exact q4 x hx
      · rw [List.cons_append, rowsGo, if_pos hin]
        exact q5 es2
    · obtain ⟨s1, s2⟩ := sys_step ga gb h hs he1 he2 hin
      have efl : (acc ++ [rowAt (matesL a) (matesL b) e]).flatten = acc.flatten ++ rowAt (matesL a) (matesL b) e := by rw [List.flatten_append, List.flatten_singleton]
      obtain ⟨acc', q1, q2, q3, q4, q5⟩ := sys_go ga gb h es (acc ++ [rowAt (matesL a) (matesL b) e]) s1 (fun x hx => ⟨(he x (List.mem_cons_of_mem _ hx)).1, (he x (List.mem_cons_of_mem _ hx)).2.imp id fun z s h1 h2 => by rw [efl]; exact List.mem_append_left _ (z s h1 h2)⟩)
      rw [efl] at q1 q3 q5
      refine ⟨acc', ?_, q2, fun x hx => q3 x (List.mem_append_left _ hx), fun x hx => ?_, fun es2 => ?_⟩
      · rw [rowsGo, if_neg hin]
        exact q1
      · rcases List.mem_cons.mp hx with rfl | hx
        · exact q3 _ (List.mem_append_right _ s2)
        · exact q4 x hx
      · rw [List.cons_append, rowsGo, if_neg hin]
        exact q5 es2
theorem rows_sys {a b : Lay} (ga : GoodL a) (gb : GoodL b) (h : a.1 = b.1) : Sys a b (rowsL a b) ∧ (rowsL a b).flatten.Perm (List.range (2 * a.1)) := by
  have s0 : Sys a b [] := ⟨.nil, fun r hr => (nomatch hr)⟩
  have hsl : ∀ e, e ∈ lastsL (matesL a) (matesL b) (2 * a.1) ↔ e < 2 * a.1 ∧ Slot a b e := fun e => by
    unfold lastsL Slot
    rw [List.mem_filter, List.mem_range, Bool.or_eq_true, isFree_iff ga, isFree_iff gb, Option.isNone_iff_eq_none, Option.isNone_iff_eq_none]
  obtain ⟨acc, q1, q2, q3, q4, q5⟩ := sys_go ga gb h (lastsL (matesL a) (matesL b) (2 * a.1)) [] s0 (fun e he => ⟨((hsl e).mp he).1, .inl ((hsl e).mp he).2⟩)
  obtain ⟨acc', r1, r2, r3, r4, r5⟩ := sys_go ga gb h (List.range (2 * a.1)) acc q2 (fun e he => ⟨List.mem_range.mp he, .inr fun s h1 h2 => q4 s ((hsl s).mpr ⟨h1, h2⟩)⟩)
  have e : rowsL a b = acc' := by
    unfold rowsL
    have := q5 (List.range (2 * a.1))
    exact this.trans r1
  rw [e]
  refine ⟨r2, ?_⟩
  rw [List.perm_iff_count]
  intro z
  rw [r2.nd.count, (List.nodup_range).count]
  have : z ∈ acc'.flatten ↔ z ∈ List.range (2 * a.1) := ⟨fun hz => by
    obtain ⟨r, hr, hzr⟩ := List.mem_flatten.mp hz
    obtain ⟨e0, _, pm, _⟩ := r2.row r hr
    exact List.mem_range.mpr (mem_mem.mp (pm.mem_iff.mp hzr)).1, fun hz => r4 z hz⟩
  by_cases hz : z ∈ List.range (2 * a.1)
  · rw [if_pos hz, if_pos (this.mpr hz)]
  · rw [if_neg hz, if_neg (fun q => hz (this.mp q))]
/-- the cost by components -/
theorem costL_W {a b : Lay} (ga : GoodL a) (gb : GoodL b) (h : a.1 = b.1) : costL a b * (fact (2 * a.1) : Int) = costW (partner a.2) (partner b.2) (2 * a.1) := by
  have ia := inv_of ga.j
  have ib := inv_of gb.j
  rw [← h] at ib
  obtain ⟨s, pm⟩ := rows_sys ga gb h
  have := system_cost ia ib (c := fun r => costP (pieceL a b r)) pm s.row
  rw [← this]
  unfold costL piecesL
  rw [List.map_map]
  rfl
theorem cost_symm {a b : Lay} (ga : GoodL a) (gb : GoodL b) (h : a.1 = b.1) : costL b a = costL a b := by
  have h1 := costL_W ga gb h
  have h2 := costL_W gb ga h.symm
  rw [← h, costW_swap, ← h1] at h2
  have := fact_pos (2 * a.1)
  exact Int.eq_of_mul_eq_mul_right (by omega) h2
end DC
end

section
/-! First facts of the cost. -/
namespace DC
open Classical
section
variable {N : Nat} {f g : Nat → Option Nat}
theorem two_mem (hf : Inv2 N f) (hg : Inv2 N g) {e x : Nat} (he : e < N) (h : f e = some x ∨ g e = some x) : 2 ≤ (mem f g N e).length := by
  have hx : Cl f g e x := Cl.one h
  have hne : e ≠ x := h.elim (fun q => hf.ne q) (fun q => hg.ne q)
  have nd : [e, x].Nodup := List.nodup_cons.mpr ⟨fun z => hne (List.mem_singleton.mp z), List.nodup_cons.mpr ⟨fun z => (nomatch z), .nil⟩⟩
  have sub : [e, x] ⊆ mem f g N e := fun z hz => by
    rcases List.mem_cons.mp hz with rfl | hz
    · exact mem_mem.mpr ⟨he, Cl.refl _⟩
    · rw [List.mem_singleton] at hz
      subst hz
      exact mem_mem.mpr ⟨hx.lt hf hg he, hx⟩
  exact nd.length_le_of_subset sub
theorem cst_nonneg (hf : Inv2 N f) (hg : Inv2 N g) {e : Nat} (he : e < N) : 0 ≤ cst f g N e := by
  unfold cst
  by_cases r : Ring f g e
  · rw [if_pos r]
    cases h : f e with
    | none => exact absurd h (r e (Cl.refl e)).1
    | some x =>
      have := two_mem hf hg he (.inl h)
      omega
  · rw [if_neg r]
    omega
end
theorem sum_nonneg : ∀ l : List Int, (∀ x ∈ l, 0 ≤ x) → 0 ≤ l.sum
  | [], _ => by simp
  | x :: l, h => by
    have h1 := h x List.mem_cons_self
    have h2 := sum_nonneg l fun y hy => h y (List.mem_cons_of_mem _ hy)
    rw [List.sum_cons]
    omega
theorem sum_zero : ∀ l : List Int, (∀ x ∈ l, 0 ≤ x) → l.sum = 0 → ∀ x ∈ l, x = 0
  | [], _, _, x, hx => (nomatch hx)
  | y :: l, h, hs, x, hx => by
    have h1 := h y List.mem_cons_self
    have h2 := sum_nonneg l fun z hz => h z (List.mem_cons_of_mem _ hz)
    rw [List.sum_cons] at hs
    rcases List.mem_cons.mp hx with rfl | hx
    · omega
    · exact sum_zero l (fun z hz => h z (List.mem_cons_of_mem _ hz)) (by omega) x hx
theorem costs_nonneg {a b : Lay} (ga : GoodL a) (gb : GoodL b) (h : a.1 = b.1) : ∀ x ∈ (piecesL a b).map costP, 0 ≤ x := by
  have ia := inv_of ga.j
  have ib := inv_of gb.j
  rw [← h] at ib
  intro x hx
  obtain ⟨p, hp, rfl⟩ := List.mem_map.mp hx
  obtain ⟨r, hr, rfl⟩ := List.mem_map.mp hp
  obtain ⟨e, he, _, hc⟩ := (rows_sys ga gb h).1.row r hr
  rw [hc]
  exact cst_nonneg ia ib he
theorem cost_nonneg {a b : Lay} (ga : GoodL a) (gb : GoodL b) (h : a.1 = b.1) : 0 ≤ costL a b := sum_nonneg _ (costs_nonneg ga gb h)
theorem cost_few {a b : Lay} (ga : GoodL a) (gb : GoodL b) (h : a.1 = b.1) : costL a b ≤ a.1 := by
  have pm := (rows_sys ga gb h).2.length_eq
  rw [List.length_range] at pm
  have key : ∀ Rs : List (List Nat), 2 * ((Rs.map (pieceL a b)).map costP).sum ≤ (Rs.flatten.length : Int) := by
    intro Rs
    induction Rs with
    | nil => simp
    | cons r Rs ih =>
      rw [List.map_cons, List.map_cons, List.sum_cons, List.flatten_cons, List.length_append]
      have : costP (pieceL a b r) ≤ ((r.length / 2 : Nat) : Int) := by
        unfold costP pieceL
        show ((r.length / 2 : Nat) : Int) - _ ≤ _
        split <;> omega
      omega
  have := key (rowsL a b)
  rw [pm] at this
  have e : costL a b = (((rowsL a b).map (pieceL a b)).map costP).sum := rfl
  rw [e]
  omega
theorem cost_le {a b : Lay} (ga : GoodL a) (gb : GoodL b) (h : a.1 = b.1) : costL a b ≤ 24 := by
  have := cost_few ga gb h
  have := ga.few
  omega
section
variable {N : Nat} {f g : Nat → Option Nat}
/-- no cost, no difference -/
theorem cst_same (hf : Inv2 N f) (hg : Inv2 N g) {e : Nat} (he : e < N) (h : cst f g N e = 0) : f e = g e := by
  unfold cst at h
  cases hfe : f e with
  | none =>
    have nr : ¬ Ring f g e := fun r => (r e (Cl.refl e)).1 hfe
    rw [if_neg nr] at h
    cases hge : g e with
    | none => rfl
    | some y =>
      have := two_mem hf hg he (.inr hge)
      omega
  | some x =>
    have h2 := two_mem hf hg he (.inl hfe)
    have r : Ring f g e := Classical.byContradiction fun nr => by
      rw [if_neg nr] at h
      omega
    rw [if_pos r] at h
    cases hge : g e with
    | none => exact absurd hge (r e (Cl.refl e)).2
    | some y =>
      refine Classical.byContradiction fun hne => ?_
      have hxy : x ≠ y := fun z => hne (by rw [z])
      have ev := even_of (mem f g N e).length (mem f g N e) f rfl (mem_nodup e) hf.sym hf.ne (fun z hz => by
        have hc := (mem_mem.mp hz).2
        cases hz2 : f z with
        | none => exact absurd hz2 (r z hc).1
        | some w => exact ⟨w, mem_mem.mpr ⟨hf.lt2 hz2, hc.trans (Cl.one (.inl hz2))⟩, rfl⟩)
      have nd : [e, x, y].Nodup := by
        have n1 := hf.ne hfe
        have n2 := hg.ne hge
        simp [n1, n2, hxy]
      have sub : [e, x, y] ⊆ mem f g N e := fun z hz => by
        rcases List.mem_cons.mp hz with rfl | hz
        · exact mem_mem.mpr ⟨he, Cl.refl _⟩
        · rcases List.mem_cons.mp hz with rfl | hz
          · exact mem_mem.mpr ⟨hf.lt2 hfe, Cl.one (.inl hfe)⟩
          · rw [List.mem_singleton] at hz
            subst hz
            exact mem_mem.mpr ⟨hg.lt2 hge, Cl.one (.inr hge)⟩
      have := nd.length_le_of_subset sub
      simp only [List.length_cons, List.length_nil] at this
      omega
theorem cst_self (hf : Inv2 N f) {e : Nat} (he : e < N) : cst f f N e = 0 := by
  have h0 := cst_nonneg hf hf he
  cases hfe : f e with
  | none =>
    have cl : Clo f f (fun z => z = e) := fun z x hz hx => by
      subst hz
      rw [hfe] at hx
      rcases hx with hx | hx <;> cases hx
    have sub : mem f f N e ⊆ [e] := fun z hz => List.mem_singleton.mpr ((mem_mem.mp hz).2 _ cl rfl)
    have := (mem_nodup e).length_le_of_subset sub
    unfold cst at h0 ⊢
    simp only [List.length_cons, List.length_nil] at this
    have : (mem f f N e).length / 2 = 0 := by omega
    rw [this] at h0 ⊢
    split at h0 <;> simp_all
  | some x =>
    have hxe := hf.sym hfe
    have cl : Clo f f (fun z => z = e ∨ z = x) := fun z y hz hy => by
      have hy : f z = some y := hy.elim id id
      rcases hz with rfl | rfl
      · rw [hfe] at hy
        cases hy
        exact .inr rfl
      · rw [hxe] at hy
        cases hy
        exact .inl rfl
    have sub : mem f f N e ⊆ [e, x] := fun z hz => by
      rcases (mem_mem.mp hz).2 _ cl (.inl rfl) with rfl | rfl <;> simp
    have hl := (mem_nodup e).length_le_of_subset sub
    have r : Ring f f e := fun z hz => by
      have hz2 : f z ≠ none := by
        rcases hz _ cl (.inl rfl) with rfl | rfl
        · rw [hfe]; exact fun q => (nomatch q)
        · rw [hxe]; exact fun q => (nomatch q)
      exact ⟨hz2, hz2⟩
    unfold cst at h0 ⊢
    simp only [List.length_cons, List.length_nil] at hl
    rw [if_pos r] at h0 ⊢
    omega
end
end DC
end

section
/-! No cost: the same lay. -/
namespace DC
open Classical
theorem joints_ext {m : Nat} {J K : List Jt} (gj : GoodJ m J) (gk : GoodJ m K) (h : ∀ e, partner J e = partner K e) : J = K := by
  have mem : ∀ j, j ∈ J ↔ j ∈ K := fun j => by
    rw [joint_iff gj, joint_iff gk, h]
  have nd : ∀ {J : List Jt}, GoodJ m J → J.Nodup := fun {J} g => g.up.imp fun {a b} q z => by
    subst z
    omega
  have pm : J.Perm K := by
    rw [List.perm_iff_count]
    intro j
    rw [(nd gj).count, (nd gk).count]
    by_cases hj : j ∈ J
    · rw [if_pos hj, if_pos ((mem j).mp hj)]
    · rw [if_neg hj, if_neg (fun q => hj ((mem j).mpr q))]
  exact List.Perm.eq_of_pairwise (le := fun a b : Jt => a.1 < b.1) (fun a b _ _ h1 h2 => by omega) gj.up gk.up pm
theorem lay_ext {a b : Lay} (ga : GoodL a) (gb : GoodL b) (h : a.1 = b.1) (hp : ∀ e, partner a.2 e = partner b.2 e) : a = b := by
  have gj : GoodJ (2 * a.1) b.2 := by rw [h]; exact gb.j
  have := joints_ext ga.j gj hp
  exact Prod.ext h this
theorem cost_zero {a b : Lay} (ga : GoodL a) (gb : GoodL b) (h : a.1 = b.1) : costL a b = 0 ↔ a = b := by
  have ia := inv_of ga.j
  have ib := inv_of gb.j
  rw [← h] at ib
  obtain ⟨s, pm⟩ := rows_sys ga gb h
  constructor
  · intro h0
    have hz := sum_zero _ (costs_nonneg ga gb h) h0
    refine lay_ext ga gb h fun e => ?_
    by_cases he : e < 2 * a.1
    · obtain ⟨r, hr, her⟩ := List.mem_flatten.mp (pm.mem_iff.mpr (List.mem_range.mpr he))
      obtain ⟨e0, he0, pr, hc⟩ := s.row r hr
      have hc0 := hz (costP (pieceL a b r)) (List.mem_map.mpr ⟨_, List.mem_map.mpr ⟨r, hr, rfl⟩, rfl⟩)
      rw [hc0] at hc
      have hcl := (mem_mem.mp (pr.mem_iff.mp her)).2
      rw [cst_congr ia ib hcl] at hc
      exact cst_same ia ib he hc.symm
    · have n1 : partner a.2 e = none := by
        cases q : partner a.2 e with
        | none => rfl
        | some x => exact absurd (ia.lt q) he
      have n2 : partner b.2 e = none := by
        cases q : partner b.2 e with
        | none => rfl
        | some x => exact absurd (ib.lt q) he
      rw [n1, n2]
  · intro e
    subst e
    have key : ∀ Rs : List (List Nat), (∀ r ∈ Rs, r ∈ rowsL a a) → ((Rs.map (pieceL a a)).map costP).sum = 0 := by
      intro Rs
      induction Rs with
      | nil => intro _; rfl
      | cons r Rs ih =>
        intro hm
        obtain ⟨e0, he0, _, hc⟩ := s.row r (hm r List.mem_cons_self)
        rw [List.map_cons, List.map_cons, List.sum_cons, hc, cst_self ia he0, ih fun r' hr' => hm r' (List.mem_cons_of_mem _ hr')]
        rfl
    exact key _ fun r hr => hr
end DC
end

section
/-! The steps of a lay, kind by kind. -/
namespace DC
def StepK (l : Lay) (s : Stp) : Prop := (∃ a ∈ l.2, s = ([a], [])) ∨ (∃ a ∈ l.2, ∃ z ∈ freeL l, s = ([a], [jt a.1 z]) ∨ s = ([a], [jt a.2 z])) ∨
  (∃ a ∈ l.2, ∃ b ∈ l.2, a.1 < b.1 ∧ (s = ([a, b], sortJ [jt a.1 b.1, jt a.2 b.2]) ∨ s = ([a, b], sortJ [jt a.1 b.2, jt a.2 b.1]))) ∨ ∃ u ∈ freeL l, ∃ v ∈ freeL l, u < v ∧ s = ([], [(u, v)])
theorem free_up (l : Lay) : (freeL l).Pairwise fun a b => a < b := by
  unfold freeL
  exact List.Pairwise.sublist List.filter_sublist List.pairwise_lt_range
theorem mem_cuts {F : List Nat} {a : Jt} {s : Stp} : s ∈ cutsL F a ↔ s = ([a], []) ∨ ∃ z ∈ F, s = ([a], [jt a.1 z]) ∨ s = ([a], [jt a.2 z]) := by
  unfold cutsL
  rw [List.mem_append, List.mem_cons, List.mem_map, List.mem_map]
  constructor
  · rintro ((h | ⟨z, h1, h2⟩) | ⟨z, h1, h2⟩)
    · exact .inl h
    · exact .inr ⟨z, h1, .inl h2.symm⟩
    · exact .inr ⟨z, h1, .inr h2.symm⟩
  · rintro (h | ⟨z, h1, h2 | h2⟩)
    · exact .inl (.inl h)
    · exact .inl (.inr ⟨z, h1, h2.symm⟩)
    · exact .inr ⟨z, h1, h2.symm⟩
theorem mem_doubles {a b : Jt} {s : Stp} : s ∈ doublesL a b ↔ s = ([a, b], sortJ [jt a.1 b.1, jt a.2 b.2]) ∨ s = ([a, b], sortJ [jt a.1 b.2, jt a.2 b.1]) := by
  unfold doublesL
  rw [List.mem_cons, List.mem_singleton]
theorem pair_at {α : Type} {lt : α → α → Prop} {L : List α} (up : L.Pairwise lt) {i : Nat} {a b : α} (hi : L[i]? = some a) (hb : b ∈ L.drop (i + 1)) : b ∈ L ∧ lt a b := by
  refine ⟨List.mem_of_mem_drop hb, ?_⟩
  obtain ⟨k, hk⟩ := List.mem_iff_getElem?.mp hb
  rw [List.getElem?_drop] at hk
  obtain ⟨h1, e1⟩ := List.getElem?_eq_some_iff.mp hi
  obtain ⟨h2, e2⟩ := List.getElem?_eq_some_iff.mp hk
  have := List.pairwise_iff_getElem.mp up i (i + 1 + k) h1 h2 (by omega)
  rw [e1, e2] at this
  exact this
theorem at_pair {α : Type} {lt : α → α → Prop} (ir : ∀ x y, lt x y → ¬ lt y x) (irr : ∀ x, ¬ lt x x) {L : List α} (up : L.Pairwise lt) {a b : α} (ha : a ∈ L) (hb : b ∈ L) (hab : lt a b) : ∃ i, L[i]? = some a ∧ i < L.length ∧ b ∈ L.drop (i + 1) := by
  obtain ⟨i, hi⟩ := List.mem_iff_getElem?.mp ha
  obtain ⟨j, hj⟩ := List.mem_iff_getElem?.mp hb
  obtain ⟨h1, e1⟩ := List.getElem?_eq_some_iff.mp hi
  obtain ⟨h2, e2⟩ := List.getElem?_eq_some_iff.mp hj
  refine ⟨i, hi, h1, List.mem_iff_getElem?.mpr ?_⟩
  have hij : i < j := by
    rcases Nat.lt_trichotomy i j with z | z | z
    · exact z
    · subst z
      rw [hi] at hj
      cases hj
      exact absurd hab (irr a)
    · have := List.pairwise_iff_getElem.mp up j i h2 h1 z
      rw [e1, e2] at this
      exact absurd this (ir _ _ hab)
  exact ⟨j - (i + 1), by rw [List.getElem?_drop, show i + 1 + (j - (i + 1)) = j by omega]; exact hj⟩
theorem mem_steps {l : Lay} (g : GoodL l) {s : Stp} : s ∈ stepsL l ↔ StepK l s := by
  unfold stepsL StepK
  rw [List.mem_append, List.mem_flatMap, List.mem_flatMap]
  constructor
  · rintro (⟨i, _, hi⟩ | ⟨i, _, hi⟩)
    · unfold turnJ at hi
      cases hj : l.2[i]? with
      | none => rw [hj] at hi; cases hi
      | some a =>
        rw [hj] at hi
        have ha := List.mem_of_getElem? hj
        rcases List.mem_append.mp hi with hi | hi
        · rcases mem_cuts.mp hi with h | ⟨z, h1, h2⟩
          · exact .inl ⟨a, ha, h⟩
          · exact .inr (.inl ⟨a, ha, z, h1, h2⟩)
        · obtain ⟨b, hb, hs⟩ := List.mem_flatMap.mp hi
          obtain ⟨q1, q2⟩ := pair_at g.j.up hj hb
          exact .inr (.inr (.inl ⟨a, ha, b, q1, q2, mem_doubles.mp hs⟩))
    · unfold turnF at hi
      cases hj : (freeL l)[i]? with
      | none => rw [hj] at hi; cases hi
      | some u =>
        rw [hj] at hi
        obtain ⟨v, hv, hs⟩ := List.mem_map.mp hi
        obtain ⟨q1, q2⟩ := pair_at (free_up l) hj hv
        exact .inr (.inr (.inr ⟨u, List.mem_of_getElem? hj, v, q1, q2, hs.symm⟩))
  · have atJ : ∀ a ∈ l.2, ∃ i, i < l.2.length ∧ l.2[i]? = some a := fun a ha => by
      obtain ⟨i, hi⟩ := List.mem_iff_getElem?.mp ha
      exact ⟨i, (List.getElem?_eq_some_iff.mp hi).1, hi⟩
    rintro (⟨a, ha, h⟩ | ⟨a, ha, z, hz, h⟩ | ⟨a, ha, b, hb, hab, h⟩ | ⟨u, hu, v, hv, huv, h⟩)
    · obtain ⟨i, h1, h2⟩ := atJ a ha
      refine .inl ⟨i, List.mem_range.mpr h1, ?_⟩
      unfold turnJ
      rw [h2]
      exact List.mem_append_left _ (mem_cuts.mpr (.inl h))
    · obtain ⟨i, h1, h2⟩ := atJ a ha
      refine .inl ⟨i, List.mem_range.mpr h1, ?_⟩
      unfold turnJ
      rw [h2]
      exact List.mem_append_left _ (mem_cuts.mpr (.inr ⟨z, hz, h⟩))
    · obtain ⟨i, h1, h2, h3⟩ := at_pair (lt := fun x y : Jt => x.1 < y.1) (fun x y q => by omega) (fun x => by omega) g.j.up ha hb hab
      refine .inl ⟨i, List.mem_range.mpr h2, ?_⟩
      unfold turnJ
      rw [h1]
      exact List.mem_append_right _ (List.mem_flatMap.mpr ⟨b, h3, mem_doubles.mpr h⟩)
    · obtain ⟨i, h1, h2, h3⟩ := at_pair (lt := fun x y : Nat => x < y) (fun x y q => by omega) (fun x => by omega) (free_up l) hu hv huv
      refine .inr ⟨i, List.mem_range.mpr h2, ?_⟩
      unfold turnF
      rw [h1]
      exact List.mem_map.mpr ⟨v, h3, h.symm⟩
theorem steps_len {l : Lay} (g : GoodL l) : (stepsL l).length ≤ 3000 := by
  have hl := g.len
  have hk := g.links
  have hF := freeL_len l
  have h1 := flat_len (turnJ (freeL l) l.2) 80 (fun i => by have := turnJ_len (freeL l) l.2 i; omega) l.2.length
  have h2 := flat_len (turnF (freeL l)) 24 (fun i => by have := turnF_len (freeL l) i; omega) (freeL l).length
  unfold stepsL
  rw [List.length_append]
  have h3 : 80 * l.2.length ≤ 80 * 12 := Nat.mul_le_mul_left _ hl
  have h4 : 24 * (freeL l).length ≤ 24 * 24 := Nat.mul_le_mul_left _ (by omega)
  omega
end DC
end

section
/-! Sorted joints. -/
namespace DC
theorem ends_perm {J K : List Jt} (h : J.Perm K) : (ends J).Perm (ends K) := by
  induction h with
  | nil => exact List.Perm.refl _
  | cons x _ ih => exact (ih.cons _).cons _
  | swap x y l =>
    show (y.1 :: y.2 :: x.1 :: x.2 :: ends l).Perm (x.1 :: x.2 :: y.1 :: y.2 :: ends l)
    have : (([y.1, y.2] ++ [x.1, x.2]) ++ ends l).Perm (([x.1, x.2] ++ [y.1, y.2]) ++ ends l) := List.Perm.append_right _ List.perm_append_comm
    exact this
  | trans _ _ h1 h2 => exact h1.trans h2
theorem partner_perm {J K : List Jt} (h : J.Perm K) (nd : (ends J).Nodup) (e : Nat) : partner J e = partner K e := by
  have nd2 := (ends_perm h).nodup_iff.mp nd
  cases hk : partner K e with
  | some x =>
    exact partner_of nd ((partner_mem hk).imp (fun z => h.mem_iff.mpr z) (fun z => h.mem_iff.mpr z))
  | none =>
    cases hj : partner J e with
    | none => rfl
    | some x =>
      have := partner_of nd2 ((partner_mem hj).imp (fun z => h.mem_iff.mp z) (fun z => h.mem_iff.mp z))
      rw [hk] at this
      cases this
theorem sortJ_perm (K : List Jt) : (sortJ K).Perm K := List.mergeSort_perm K leJ
theorem first_mem {J : List Jt} {j : Jt} (h : j ∈ J) : j.1 ∈ ends J := ends_mem.mpr ⟨j, h, .inl rfl⟩
theorem sortJ_good {m : Nat} {K : List Jt} (lt : ∀ j ∈ K, j.1 < j.2 ∧ j.2 < m) (nd : (ends K).Nodup) : GoodJ m (sortJ K) := by
  have pm := sortJ_perm K
  have nds := (ends_perm pm).nodup_iff.mpr nd
  refine ⟨fun j hj => lt j (pm.mem_iff.mp hj), nds, ?_⟩
  have s1 : (sortJ K).Pairwise fun a b => leJ a b = true := by
    refine List.pairwise_mergeSort (fun a b c h1 h2 => ?_) (fun a b => ?_) K
    · unfold leJ at h1 h2 ⊢
      have h1 := of_decide_eq_true h1
      have h2 := of_decide_eq_true h2
      exact decide_eq_true (by omega)
    · unfold leJ
      rw [Bool.or_eq_true, decide_eq_true_eq, decide_eq_true_eq]
      omega
  have key : ∀ L : List Jt, (ends L).Nodup → L.Pairwise (fun a b => leJ a b = true) → L.Pairwise fun a b => a.1 < b.1 := by
    intro L
    induction L with
    | nil => intro _ _; exact .nil
    | cons a L ih =>
      intro hn hp
      have hn' : (a.1 :: a.2 :: ends L).Nodup := hn
      obtain ⟨n1, n2⟩ := List.nodup_cons.mp hn'
      obtain ⟨_, n3⟩ := List.nodup_cons.mp n2
      obtain ⟨p1, p2⟩ := List.pairwise_cons.mp hp
      refine List.pairwise_cons.mpr ⟨fun b hb => ?_, ih n3 p2⟩
      have h1 := of_decide_eq_true (p1 b hb)
      have h2 : a.1 ≠ b.1 := fun z => n1 (List.mem_cons_of_mem _ (z ▸ first_mem hb))
      omega
  exact key _ nds s1
theorem jt_mem {u v : Nat} (h : u ≠ v) : (jt u v).1 < (jt u v).2 ∧ (((jt u v).1 = u ∧ (jt u v).2 = v) ∨ ((jt u v).1 = v ∧ (jt u v).2 = u)) := by
  unfold jt
  by_cases h1 : u < v
  · rw [if_pos h1]
    exact ⟨h1, .inl ⟨rfl, rfl⟩⟩
  · rw [if_neg h1]
    exact ⟨by show v < u; omega, .inr ⟨rfl, rfl⟩⟩
theorem ends_jt (u v : Nat) : (ends [jt u v]).Perm [u, v] := by
  unfold jt
  split
  · exact List.Perm.refl _
  · exact List.Perm.swap _ _ _
end DC
end

section
/-! The lay behind a step. -/
namespace DC
structure StepOk (l : Lay) (s : Stp) : Prop where
  cut : ∀ j ∈ s.1, j ∈ l.2
  cnd : s.1.Nodup
  lt : ∀ j ∈ s.2, j.1 < j.2
  from_ : ∀ e ∈ ends s.2, e ∈ ends s.1 ∨ e ∈ freeL l
  nd : (ends s.2).Nodup
  few : s.1.length ≤ 2 ∧ s.2.length ≤ 2
theorem free_not {l : Lay} (g : GoodL l) {e : Nat} (h : e ∈ freeL l) : e ∉ ends l.2 := fun z => by
  obtain ⟨j, hj, q⟩ := ends_mem.mp z
  have hp := ((mem_free g).mp h).2
  rcases q with rfl | rfl
  · rw [partner_of g.j.nd (e := j.1) (x := j.2) (.inl hj)] at hp
    cases hp
  · rw [partner_of g.j.nd (e := j.2) (x := j.1) (.inr hj)] at hp
    cases hp
theorem joints_nd {m : Nat} {J : List Jt} (g : GoodJ m J) : J.Nodup := g.up.imp fun {a b} q z => by
  subst z
  omega
theorem split_perm {L C : List Jt} (hL : L.Nodup) (hC : C.Nodup) (sub : ∀ x ∈ C, x ∈ L) : (L.filter (fun x => !decide (x ∈ C)) ++ C).Perm L := by
  have nd : (L.filter (fun x => !decide (x ∈ C)) ++ C).Nodup := by
    refine List.nodup_append.mpr ⟨hL.sublist List.filter_sublist, hC, fun x hx y hy hxy => ?_⟩
    subst hxy
    have := (List.mem_filter.mp hx).2
    simp [hy] at this
  rw [List.perm_iff_count]
  intro x
  rw [nd.count, hL.count]
  have : x ∈ L.filter (fun x => !decide (x ∈ C)) ++ C ↔ x ∈ L := by
    rw [List.mem_append, List.mem_filter]
    constructor
    · rintro (h | h)
      · exact h.1
      · exact sub x h
    · intro h
      by_cases hc : x ∈ C
      · exact .inr hc
      · exact .inl ⟨h, by simp [hc]⟩
  by_cases h : x ∈ L
  · rw [if_pos h, if_pos (this.mpr h)]
  · rw [if_neg h, if_neg (fun q => h (this.mp q))]
theorem after_good {l : Lay} {s : Stp} (g : GoodL l) (k : StepOk l s) : GoodL (afterL l s) := by
  refine ⟨g.pos, g.few, ?_⟩
  show GoodJ (2 * l.1) (sortJ _)
  have pm := split_perm (joints_nd g.j) k.cnd k.cut
  have pe := ends_perm pm
  rw [ends_app] at pe
  have nd0 := pe.nodup_iff.mpr g.j.nd
  obtain ⟨n1, n2, n3⟩ := List.nodup_append.mp nd0
  have below : ∀ e, e ∈ ends l.2 → e < 2 * l.1 := fun e he => by
    obtain ⟨j, hj, q⟩ := ends_mem.mp he
    have := g.j.lt j hj
    omega
  refine sortJ_good (fun j hj => ?_) ?_
  · rcases List.mem_append.mp hj with hj | hj
    · exact g.j.lt j (List.mem_filter.mp hj).1
    · refine ⟨k.lt j hj, ?_⟩
      rcases k.from_ j.2 (ends_mem.mpr ⟨j, hj, .inr rfl⟩) with h | h
      · exact below _ (pe.mem_iff.mp (List.mem_append_right _ h))
      · exact ((mem_free g).mp h).1
  · rw [ends_app]
    refine List.nodup_append.mpr ⟨n1, k.nd, fun x hx y hy hxy => ?_⟩
    subst hxy
    rcases k.from_ x hy with h | h
    · exact n3 x hx x h rfl
    · exact free_not g h (pe.mem_iff.mp (List.mem_append_left _ hx))
end DC
end

section
namespace DC
theorem two_ends {l : Lay} (g : GoodL l) {a b : Jt} (ha : a ∈ l.2) (hb : b ∈ l.2) (hab : a.1 < b.1) : (ends [a, b]).Nodup := by
  have nab : [a, b].Nodup := List.nodup_cons.mpr ⟨fun z => by
    have := List.mem_singleton.mp z
    subst this
    omega, List.nodup_cons.mpr ⟨fun z => (nomatch z), .nil⟩⟩
  have pm := split_perm (joints_nd g.j) nab (fun x hx => by
    rcases List.mem_cons.mp hx with rfl | hx
    · exact ha
    · rw [List.mem_singleton] at hx
      subst hx
      exact hb)
  have pe := ends_perm pm
  rw [ends_app] at pe
  exact (List.nodup_append.mp (pe.nodup_iff.mpr g.j.nd)).2.1
theorem ends_two (a b c d : Nat) : (ends [jt a b, jt c d]).Perm [a, b, c, d] := by
  have : ends [jt a b, jt c d] = ends [jt a b] ++ ends [jt c d] := ends_app [jt a b] [jt c d]
  rw [this]
  exact (ends_jt a b).append (ends_jt c d)
theorem stepK_ok {l : Lay} {s : Stp} (g : GoodL l) (h : StepK l s) : StepOk l s := by
  have one : ∀ {a : Jt}, [a].Nodup := List.nodup_cons.mpr ⟨fun z => (nomatch z), .nil⟩
  have shift : ∀ {a : Jt} {u z : Nat}, a ∈ l.2 → z ∈ freeL l → u ∈ ends [a] → StepOk l ([a], [jt u z]) := fun {a u z} ha hz hu => by
    have huL : u ∈ ends l.2 := by
      obtain ⟨j, hj, q⟩ := ends_mem.mp hu
      rw [List.mem_singleton] at hj
      subst hj
      exact ends_mem.mpr ⟨_, ha, q⟩
    have hne : u ≠ z := fun q => free_not g hz (q ▸ huL)
    refine ⟨fun j hj => ?_, one, fun j hj => ?_, fun e he => ?_, ?_, by simp⟩
    · rw [List.mem_singleton] at hj
      subst hj
      exact ha
    · rw [List.mem_singleton] at hj
      subst hj
      exact (jt_mem hne).1
    · have := (ends_jt u z).mem_iff.mp he
      rcases List.mem_cons.mp this with rfl | this
      · exact .inl hu
      · rw [List.mem_singleton] at this
        subst this
        exact .inr hz
    · exact (ends_jt u z).nodup_iff.mpr (List.nodup_cons.mpr ⟨fun q => hne (List.mem_singleton.mp q), List.nodup_cons.mpr ⟨fun q => (nomatch q), .nil⟩⟩)
  have double : ∀ {a b : Jt} {p q r t : Nat}, a ∈ l.2 → b ∈ l.2 → a.1 < b.1 → [p, q, r, t].Perm (ends [a, b]) → StepOk l ([a, b], sortJ [jt p q, jt r t]) := fun {a b p q r t} ha hb hab pm => by
    have nd2 := two_ends g ha hb hab
    have nd4 := pm.nodup_iff.mpr nd2
    have npq : p ≠ q := fun z => by subst z; simp at nd4
    have nrt : r ≠ t := fun z => by subst z; simp at nd4
    have sp := sortJ_perm [jt p q, jt r t]
    have pe := (ends_perm sp).trans (ends_two p q r t)
    refine ⟨fun j hj => ?_, ?_, fun j hj => ?_, fun e he => .inl (pm.mem_iff.mp (pe.mem_iff.mp he)), pe.nodup_iff.mpr nd4, by rw [sp.length_eq]; simp⟩
    · rcases List.mem_cons.mp hj with rfl | hj
      · exact ha
      · rw [List.mem_singleton] at hj
        subst hj
        exact hb
    · exact List.nodup_cons.mpr ⟨fun z => by
        have := List.mem_singleton.mp z
        subst this
        omega, one⟩
    · have := sp.mem_iff.mp hj
      rcases List.mem_cons.mp this with rfl | this
      · exact (jt_mem npq).1
      · rw [List.mem_singleton] at this
        subst this
        exact (jt_mem nrt).1
  rcases h with ⟨a, ha, rfl⟩ | ⟨a, ha, z, hz, rfl | rfl⟩ | ⟨a, ha, b, hb, hab, rfl | rfl⟩ | ⟨u, hu, v, hv, huv, rfl⟩
  · refine ⟨fun j hj => ?_, one, fun j hj => (nomatch hj), fun e he => (nomatch he), .nil, by simp⟩
    rw [List.mem_singleton] at hj
    subst hj
    exact ha
  · exact shift ha hz List.mem_cons_self
  · exact shift ha hz (List.mem_cons_of_mem _ List.mem_cons_self)
  · refine double ha hb hab ?_
    show [a.1, b.1, a.2, b.2].Perm [a.1, a.2, b.1, b.2]
    exact List.Perm.cons _ (List.Perm.swap _ _ _)
  · refine double ha hb hab ?_
    show [a.1, b.2, a.2, b.1].Perm [a.1, a.2, b.1, b.2]
    exact List.Perm.cons _ ((List.Perm.swap _ _ _).trans (List.Perm.cons _ (List.Perm.swap _ _ _)))
  · have hne : u ≠ v := by omega
    refine ⟨fun j hj => (nomatch hj), .nil, fun j hj => ?_, fun e he => ?_, ?_, by simp⟩
    · rw [List.mem_singleton] at hj
      subst hj
      exact huv
    · have he : e ∈ [u, v] := he
      rcases List.mem_cons.mp he with rfl | he
      · exact .inr hu
      · rw [List.mem_singleton] at he
        subst he
        exact .inr hv
    · show [u, v].Nodup
      exact List.nodup_cons.mpr ⟨fun q => hne (List.mem_singleton.mp q), List.nodup_cons.mpr ⟨fun q => (nomatch q), .nil⟩⟩
theorem good_after {l : Lay} {s : Stp} (g : GoodL l) (h : s ∈ stepsL l) : GoodL (afterL l s) := after_good g (stepK_ok g ((mem_steps g).mp h))
theorem step_form {l : Lay} {s : Stp} (g : GoodL l) (h : s ∈ stepsL l) : (∀ j, j ∈ s.1 ∨ j ∈ s.2 → j.1 < j.2 ∧ j.2 < 2 * l.1) ∧ s.1.length ≤ 2 ∧ s.2.length ≤ 2 := by
  have k := stepK_ok g ((mem_steps g).mp h)
  refine ⟨fun j hj => ?_, k.few⟩
  rcases hj with hj | hj
  · exact g.j.lt j (k.cut j hj)
  · refine ⟨k.lt j hj, ?_⟩
    rcases k.from_ j.2 (ends_mem.mpr ⟨j, hj, .inr rfl⟩) with z | z
    · obtain ⟨i, hi, q⟩ := ends_mem.mp z
      have := g.j.lt i (k.cut i hi)
      omega
    · exact ((mem_free g).mp z).1
end DC
end

section
namespace DC
theorem steps_ne {a : Lay} (ga : GoodL a) : stepsL a ≠ [] := by
  have : ∃ s, StepK a s := by
    cases h : a.2 with
    | cons j J => exact ⟨([j], []), .inl ⟨j, by rw [h]; exact List.mem_cons_self, rfl⟩⟩
    | nil =>
      have hp := ga.pos
      have fr : ∀ e, e < 2 * a.1 → e ∈ freeL a := fun e he => (mem_free ga).mpr ⟨he, by rw [h]; rfl⟩
      exact ⟨([], [(0, 1)]), .inr (.inr (.inr ⟨0, fr 0 (by omega), 1, fr 1 (by omega), by omega, rfl⟩))⟩
  obtain ⟨s, hs⟩ := this
  intro h
  have := (mem_steps ga).mpr hs
  rw [h] at this
  cases this
theorem both_len {α : Type} [DecidableEq α] {L M : List α} (hL : L.Nodup) (hM : M.Nodup) : (L.filter fun x => decide (x ∈ M)).length = (M.filter fun x => decide (x ∈ L)).length := by
  refine Nat.le_antisymm ?_ ?_
  · refine (hL.sublist List.filter_sublist).length_le_of_subset fun x hx => ?_
    obtain ⟨h1, h2⟩ := List.mem_filter.mp hx
    exact List.mem_filter.mpr ⟨of_decide_eq_true h2, decide_eq_true h1⟩
  · refine (hM.sublist List.filter_sublist).length_le_of_subset fun x hx => ?_
    obtain ⟨h1, h2⟩ := List.mem_filter.mp hx
    exact List.mem_filter.mpr ⟨of_decide_eq_true h2, decide_eq_true h1⟩
theorem both_lenJ {L M : List Jt} (hL : L.Nodup) (hM : M.Nodup) : (L.filter fun x => decide (x ∈ M)).length = (M.filter fun x => decide (x ∈ L)).length := by
  refine Nat.le_antisymm ?_ ?_
  · refine (hL.sublist List.filter_sublist).length_le_of_subset fun x hx => ?_
    obtain ⟨h1, h2⟩ := List.mem_filter.mp hx
    exact List.mem_filter.mpr ⟨of_decide_eq_true h2, decide_eq_true h1⟩
  · refine (hM.sublist List.filter_sublist).length_le_of_subset fun x hx => ?_
    obtain ⟨h1, h2⟩ := List.mem_filter.mp hx
    exact List.mem_filter.mpr ⟨of_decide_eq_true h2, decide_eq_true h1⟩
theorem free_nd (l : Lay) : (freeL l).Nodup := (free_up l).imp fun {a b} q z => by omega
theorem common_symm {a b : Lay} (ga : GoodL a) (gb : GoodL b) (h : a.1 = b.1) : commonL b a = commonL a b := by
  unfold commonL
  rw [both_lenJ (joints_nd ga.j) (joints_nd gb.j), both_len (free_nd a) (free_nd b)]
end DC
end

section
namespace DC
def allL (O : List (Option Nat)) : Nat → List (List (Option Nat))
  | 0 => [[]]
  | k + 1 => O.flatMap fun o => (allL O k).map fun l => o :: l
theorem allL_len (O : List (Option Nat)) : ∀ k, (allL O k).length = O.length ^ k
  | 0 => rfl
  | k + 1 => by
    have key : ∀ P : List (Option Nat), (P.flatMap fun o => (allL O k).map fun l => o :: l).length = P.length * O.length ^ k := by
      intro P
      induction P with
      | nil => simp
      | cons o P ih =>
        rw [List.flatMap_cons, List.length_append, ih, List.length_map, allL_len O k, List.length_cons, Nat.add_mul, Nat.one_mul, Nat.add_comm]
    show (O.flatMap fun o => (allL O k).map fun l => o :: l).length = _
    rw [key O, Nat.pow_succ, Nat.mul_comm]
theorem mem_allL {O : List (Option Nat)} : ∀ L : List (Option Nat), (∀ o ∈ L, o ∈ O) → L ∈ allL O L.length
  | [], _ => List.mem_singleton.mpr rfl
  | o :: L, h => List.mem_flatMap.mpr ⟨o, h o List.mem_cons_self, List.mem_map.mpr ⟨L, mem_allL L fun x hx => h x (List.mem_cons_of_mem _ hx), rfl⟩⟩
def opts (m : Nat) : List (Option Nat) := none :: (List.range m).map some
theorem few_lays {n : Nat} (h : n ≤ 3) (S : List Lay) (hn : S.Nodup) (hS : ∀ x ∈ S, GoodL x ∧ x.1 = n) : S.length ≤ 200000 := by
  have nd : ∀ S : List Lay, S.Nodup → (∀ x ∈ S, GoodL x ∧ x.1 = n) → (S.map fun x => (List.range (2 * n)).map (partner x.2)).Nodup := by
    intro S
    induction S with
    | nil => intro _ _; exact .nil
    | cons x S ih =>
      intro hn hS
      obtain ⟨n1, n2⟩ := List.nodup_cons.mp hn
      refine List.nodup_cons.mpr ⟨fun hm => ?_, ih n2 fun y hy => hS y (List.mem_cons_of_mem _ hy)⟩
      obtain ⟨y, hy, e⟩ := List.mem_map.mp hm
      obtain ⟨gx, ex⟩ := hS x List.mem_cons_self
      obtain ⟨gy, ey⟩ := hS y (List.mem_cons_of_mem _ hy)
      have : y = x := lay_ext gy gx (ey.trans ex.symm) fun z => by
        by_cases hz : z < 2 * n
        · have := List.map_inj_left.mp e z (List.mem_range.mpr hz)
          exact this
        · have n1 : partner y.2 z = none := by
            cases q : partner y.2 z with
            | none => rfl
            | some w => exact absurd ((inv_of gy.j).lt q) (by omega)
          have n2 : partner x.2 z = none := by
            cases q : partner x.2 z with
            | none => rfl
            | some w => exact absurd ((inv_of gx.j).lt q) (by omega)
          rw [n1, n2]
      subst this
      exact n1 hy
  have sub : (S.map fun x => (List.range (2 * n)).map (partner x.2)) ⊆ allL (opts (2 * n)) (2 * n) := fun L hL => by
    obtain ⟨x, hx, rfl⟩ := List.mem_map.mp hL
    obtain ⟨gx, ex⟩ := hS x hx
    have := mem_allL (O := opts (2 * n)) ((List.range (2 * n)).map (partner x.2)) fun o ho => by
      obtain ⟨z, _, rfl⟩ := List.mem_map.mp ho
      cases q : partner x.2 z with
      | none => exact List.mem_cons_self
      | some w =>
        have := (inv_of gx.j).lt2 q
        exact List.mem_cons_of_mem _ (List.mem_map.mpr ⟨w, List.mem_range.mpr (by omega), rfl⟩)
    rw [List.length_map, List.length_range] at this
    exact this
  have l1 := (nd S hn hS).length_le_of_subset sub
  rw [List.length_map, allL_len] at l1
  have l2 : (opts (2 * n)).length = 2 * n + 1 := by
    unfold opts
    rw [List.length_cons, List.length_map, List.length_range]
  rw [l2] at l1
  have : n = 0 ∨ n = 1 ∨ n = 2 ∨ n = 3 := by omega
  rcases this with rfl | rfl | rfl | rfl
  · exact Nat.le_trans l1 (by decide)
  · exact Nat.le_trans l1 (by decide)
  · exact Nat.le_trans l1 (by decide)
  · exact Nat.le_trans l1 (by decide)
end DC
end

section
namespace DC
theorem partner_app {A B : List Jt} (e : Nat) (h : e ∉ ends A) : partner (A ++ B) e = partner B e := by
  induction A with
  | nil => rfl
  | cons j A ih =>
    have h1 : e ≠ j.1 := fun z => h (by rw [z]; exact List.mem_cons_self)
    have h2 : e ≠ j.2 := fun z => h (by rw [z]; exact List.mem_cons_of_mem _ List.mem_cons_self)
    have h3 : e ∉ ends A := fun z => h (List.mem_cons_of_mem _ (List.mem_cons_of_mem _ z))
    rw [List.cons_append, partner, if_neg h1, if_neg h2, ih h3]
theorem partner_app2 {A B : List Jt} (e : Nat) (h : e ∈ ends A) : partner (A ++ B) e = partner A e := by
  induction A with
  | nil => cases h
  | cons j A ih =>
    rw [List.cons_append, partner, partner]
    by_cases h1 : e = j.1
    · rw [if_pos h1, if_pos h1]
    · rw [if_neg h1, if_neg h1]
      by_cases h2 : e = j.2
      · rw [if_pos h2, if_pos h2]
      · rw [if_neg h2, if_neg h2]
        refine ih ?_
        rcases List.mem_cons.mp h with z | z
        · exact absurd z h1
        · rcases List.mem_cons.mp z with z | z
          · exact absurd z h2
          · exact z
/-- the mates behind a step -/
theorem partner_after {l : Lay} {s : Stp} (g : GoodL l) (k : StepOk l s) (e : Nat) : partner (afterL l s).2 e = if e ∈ ends s.2 then partner s.2 e else if e ∈ ends s.1 then none else partner l.2 e := by
  have gA := after_good g k
  have pm := split_perm (joints_nd g.j) k.cnd k.cut
  have pe := ends_perm pm
  rw [ends_app] at pe
  obtain ⟨n1, n2, n3⟩ := List.nodup_append.mp (pe.nodup_iff.mpr g.j.nd)
  have sp := sortJ_perm (l.2.filter (fun j => !decide (j ∈ s.1)) ++ s.2)
  have e0 : partner (afterL l s).2 e = partner (l.2.filter (fun j => !decide (j ∈ s.1)) ++ s.2) e := partner_perm sp gA.j.nd e
  have e1 : partner (l.2.filter (fun j => !decide (j ∈ s.1)) ++ s.1) e = partner l.2 e := partner_perm pm ((ends_perm pm).nodup_iff.mpr g.j.nd) e
  rw [e0]
  by_cases h2 : e ∈ ends s.2
  · rw [if_pos h2]
    refine partner_app e fun hA => ?_
    rcases k.from_ e h2 with z | z
    · exact n3 e hA e z rfl
    · exact free_not g z (pe.mem_iff.mp (List.mem_append_left _ hA))
  · rw [if_neg h2]
    by_cases h1 : e ∈ ends s.1
    · rw [if_pos h1]
      rw [partner_app e fun hA => n3 e hA e h1 rfl]
      exact partner_none h2
    · rw [if_neg h1, ← e1]
      by_cases hA : e ∈ ends (l.2.filter (fun j => !decide (j ∈ s.1)))
      · rw [partner_app2 e hA, partner_app2 e hA]
      · rw [partner_app e hA, partner_app e hA, partner_none h2, partner_none h1]
end DC
end

section
/-! A component with a slot has two of them. -/
namespace DC
open Classical
/-- behind a walk from e: who is no slot -/
theorem row_slots {N e : Nat} (he : e < N) : ∀ (k : Nat) (p q : Nat → Option Nat) (P Q : List (Option Nat)) (V : List Nat), Inv2 N p → Inv2 N q → (∀ z, z < N → P[z]? = some (p z)) → (∀ z, z < N → Q[z]? = some (q z)) →
    Trail N e p q V → N + 1 ≤ k + V.length →
    (∃ t ∈ e :: (V ++ rowGo e k P Q (p (V.headD e))), (∀ z ∈ V ++ rowGo e k P Q (p (V.headD e)), z ≠ t → p z ≠ none ∧ q z ≠ none) ∧ (t = e → V ++ rowGo e k P Q (p (V.headD e)) = [] ∧ p e = none) ∧ (t ≠ e → (p t = none ∧ q t ≠ none) ∨ (p t ≠ none ∧ q t = none))) ∨
    (∀ z ∈ V ++ rowGo e k P Q (p (V.headD e)), p z ≠ none ∧ q z ≠ none) ∧ V ++ rowGo e k P Q (p (V.headD e)) ≠ []
  | 0, p, q, P, Q, V, _, _, _, _, t, hk => by
    have := t.len he
    omega
  | k + 1, p, q, P, Q, V, hp, hq, hP, hQ, t, hk => by
    have some_ne : ∀ {h : Nat → Option Nat} {z w : Nat}, h z = some w → h z ≠ none := fun hw z => by rw [hw] at z; cases z
    cases hy : p (V.headD e) with
    | none =>
      have e0 : rowGo e (k + 1) P Q none = [] := rfl
      rw [e0, List.append_nil]
      refine .inl ⟨V.headD e, headD_mem e V, fun z hz hne => ?_, fun ht => ?_, fun ht => ?_⟩
      · obtain ⟨w, _, h2⟩ := t.old z hz
        obtain ⟨w2, _, h4, _⟩ := t.inner z hz hne
        exact ⟨some_ne h4, some_ne h2⟩
      · cases V with
        | nil => exact ⟨rfl, hy⟩
        | cons y V => exact absurd (show y = e from ht) (fun z => t.e_notin (z ▸ List.mem_cons_self))
      · cases V with
        | nil => exact absurd rfl ht
        | cons y V =>
          obtain ⟨w, _, h2⟩ := t.old y List.mem_cons_self
          exact .inl ⟨hy, some_ne h2⟩
    | some y =>
      by_cases hne : y = e
      · have e1 : rowGo e (k + 1) P Q (some y) = [] := by
          unfold rowGo
          rw [if_pos hne]
        rw [e1, List.append_nil]
        refine .inr ⟨fun z hz => ?_, fun hV => ?_⟩
        · obtain ⟨w, _, h2⟩ := t.old z hz
          refine ⟨?_, some_ne h2⟩
          by_cases hz2 : z = V.headD e
          · rw [hz2]
            exact some_ne hy
          · obtain ⟨w2, _, h4, _⟩ := t.inner z hz hz2
            exact some_ne h4
        · subst hV
          subst hne
          exact hp.ne hy rfl
      · have e1 : rowGo e (k + 1) P Q (some y) = y :: rowGo e k Q P ((Q[y]?).join) := by
          rw [rowGo, if_neg hne]
        obtain ⟨t2, hyV⟩ := t.next hp hy hne
        have hyN := hp.lt2 hy
        have e2 : (Q[y]?).join = q y := by rw [hQ y hyN]; rfl
        rw [e1, e2]
        have ih := row_slots he k q p Q P (y :: V) hq hp hQ hP t2 (by rw [List.length_cons]; omega)
        have e3 : (y :: V).headD e = y := rfl
        rw [e3, List.cons_append] at ih
        have pm : (V ++ y :: rowGo e k Q P (q y)).Perm (y :: (V ++ rowGo e k Q P (q y))) := List.perm_middle
        rcases ih with ⟨s, hs, h1, h2, h3⟩ | ⟨h1, h2⟩
        · refine .inl ⟨s, ?_, fun z hz hzs => (h1 z (pm.mem_iff.mp hz) hzs).symm, fun hse => ?_, fun hse => ?_⟩
          · rcases List.mem_cons.mp hs with z | z
            · rw [z]
              exact List.mem_cons_self
            · exact List.mem_cons_of_mem _ (pm.mem_iff.mpr z)
          · have := (h2 hse).1
            cases this
          · rcases h3 hse with ⟨z1, z2⟩ | ⟨z1, z2⟩
            · exact .inr ⟨z2, z1⟩
            · exact .inl ⟨z2, z1⟩
        · refine .inr ⟨fun z hz => (h1 z (pm.mem_iff.mp hz)).symm, fun z => ?_⟩
          have := congrArg List.length z
          simp at this
/-- the other slot of e's component, when e is a slot by q -/
theorem two_slots {N e : Nat} (he : e < N) {p q : Nat → Option Nat} (hp : Inv2 N p) (hq : Inv2 N q) (hs : q e = none) :
    ∃ t, Cl p q e t ∧ (∀ z, Cl p q e z → z ≠ e → z ≠ t → p z ≠ none ∧ q z ≠ none) ∧ (t = e → p e = none) ∧ (t ≠ e → p e ≠ none ∧ ((p t = none ∧ q t ≠ none) ∨ (p t ≠ none ∧ q t = none))) := by
  have hP : ∀ z, z < N → ((List.range N).map p)[z]? = some (p z) := fun z hz => by rw [List.getElem?_map, List.getElem?_range hz]; rfl
  have hQ : ∀ z, z < N → ((List.range N).map q)[z]? = some (q z) := fun z hz => by rw [List.getElem?_map, List.getElem?_range hz]; rfl
  have pm := row_comp he hp hq hP hQ (.inl hs)
  have sl := row_slots he (N + 1) p q _ _ [] hp hq hP hQ Trail.start (Nat.le_refl _)
  have e0 : ([] : List Nat).headD e = e := rfl
  rw [e0, List.nil_append] at sl
  generalize rowGo e (N + 1) ((List.range N).map p) ((List.range N).map q) (p e) = R at *
  have inT : ∀ z, Cl p q e z ↔ z ∈ e :: R := fun z => by
    rw [pm.mem_iff, mem_mem]
    exact ⟨fun h => ⟨h.lt hp hq he, h⟩, fun h => h.2⟩
  have ndT := pm.nodup_iff.mpr (mem_nodup (f := p) (g := q) e)
  obtain ⟨n1, n2⟩ := List.nodup_cons.mp ndT
  have clT : ∀ z x, z ∈ e :: R → (p z = some x ∨ q z = some x) → x ∈ e :: R := fun z x hz hx => (inT x).mp (((inT z).mpr hz).trans (Cl.one hx))
  rcases sl with ⟨t, ht, h1, h2, h3⟩ | ⟨h1, h2⟩
  · refine ⟨t, (inT t).mpr ht, fun z hz hze hzt => ?_, fun h => (h2 h).2, fun h => ⟨fun hpe => ?_, h3 h⟩⟩
    · rcases List.mem_cons.mp ((inT z).mp hz) with q1 | q1
      · exact absurd q1 hze
      · exact h1 z q1 hzt
    · -- p e = none: the component is e alone
      have cl1 : Clo p q (fun z => z = e) := fun z x hz hx => by
        subst hz
        rcases hx with hx | hx
        · rw [hpe] at hx; cases hx
        · rw [hs] at hx; cases hx
      exact h ((inT t).mpr ht _ cl1 rfl)
  · exfalso
    -- q is total on R, p on the whole
    have pe : p e ≠ none := fun hpe => by
      have cl1 : Clo p q (fun z => z = e) := fun z x hz hx => by
        subst hz
        rcases hx with hx | hx
        · rw [hpe] at hx; cases hx
        · rw [hs] at hx; cases hx
      cases R with
      | nil => exact h2 rfl
      | cons y R =>
        have : y = e := (inT y).mpr (List.mem_cons_of_mem _ List.mem_cons_self) _ cl1 rfl
        exact n1 (this ▸ List.mem_cons_self)
    have ev1 := even_of (e :: R).length (e :: R) p rfl ndT hp.sym hp.ne (fun z hz => by
      have hz3 : p z ≠ none := by
        rcases List.mem_cons.mp hz with q1 | q1
        · rw [q1]; exact pe
        · exact (h1 z q1).1
      cases hz2 : p z with
      | none => exact absurd hz2 hz3
      | some w => exact ⟨w, clT z w hz (.inl hz2), rfl⟩)
    have ev2 := even_of R.length R q rfl n2 hq.sym hq.ne (fun z hz => by
      cases hz2 : q z with
      | none => exact absurd hz2 (h1 z hz).2
      | some w =>
        refine ⟨w, ?_, rfl⟩
        rcases List.mem_cons.mp (clT z w (List.mem_cons_of_mem _ hz) (.inr hz2)) with q1 | q1
        · subst q1
          rw [hq.sym hz2] at hs
          cases hs
        · exact q1)
    rw [List.length_cons] at ev1
    omega
end DC
end

section
/-! Two free ends are joined: what the cost does. -/
namespace DC
open Classical
def addE (f : Nat → Option Nat) (u v : Nat) : Nat → Option Nat := fun e => if e = u then some v else if e = v then some u else f e
section
variable {N : Nat} {f g : Nat → Option Nat} {u v : Nat}
theorem addE_u : addE f u v u = some v := if_pos rfl
theorem addE_v (h : u ≠ v) : addE f u v v = some u := by
  unfold addE
  rw [if_neg (Ne.symm h), if_pos rfl]
theorem addE_off {e : Nat} (h1 : e ≠ u) (h2 : e ≠ v) : addE f u v e = f e := by
  unfold addE
  rw [if_neg h1, if_neg h2]
theorem addE_swap (h : u ≠ v) : addE f u v = addE f v u := by
  funext e
  by_cases h1 : e = u
  · subst h1
    rw [addE_u, addE_v (Ne.symm h)]
  · by_cases h2 : e = v
    · subst h2
      rw [addE_u, addE_v h]
    · rw [addE_off h1 h2, addE_off h2 h1]
theorem addE_inv (hf : Inv2 N f) (hu : u < N) (hv : v < N) (hne : u ≠ v) (fu : f u = none) (fv : f v = none) : Inv2 N (addE f u v) := by
  have cases_ : ∀ {e x}, addE f u v e = some x → (e = u ∧ x = v) ∨ (e = v ∧ x = u) ∨ (e ≠ u ∧ e ≠ v ∧ f e = some x) := fun {e x} h => by
    by_cases h1 : e = u
    · subst h1
      rw [addE_u] at h
      exact .inl ⟨rfl, (Option.some.inj h).symm⟩
    · by_cases h2 : e = v
      · subst h2
        rw [addE_v hne] at h
        exact .inr (.inl ⟨rfl, (Option.some.inj h).symm⟩)
      · rw [addE_off h1 h2] at h
        exact .inr (.inr ⟨h1, h2, h⟩)
  refine ⟨fun {e x} h => ?_, fun {e x} h => ?_, fun {e x} h => ?_⟩
  · rcases cases_ h with ⟨rfl, _⟩ | ⟨rfl, _⟩ | ⟨_, _, h⟩
    · exact hu
    · exact hv
    · exact hf.lt h
  · rcases cases_ h with ⟨rfl, rfl⟩ | ⟨rfl, rfl⟩ | ⟨_, _, h⟩
    · exact addE_v hne
    · exact addE_u
    · have hs := hf.sym h
      have h1 : x ≠ u := fun z => by
        subst z
        rw [fu] at hs
        cases hs
      have h2 : x ≠ v := fun z => by
        subst z
        rw [fv] at hs
        cases hs
      rw [addE_off h1 h2]
      exact hs
  · rcases cases_ h with ⟨rfl, rfl⟩ | ⟨rfl, rfl⟩ | ⟨_, _, h⟩
    · exact hne
    · exact Ne.symm hne
    · exact hf.ne h
theorem clo_add (fu : f u = none) (fv : f v = none) {S : Nat → Prop} (hne : u ≠ v) : Clo (addE f u v) g S ↔ Clo f g S ∧ (S u ↔ S v) := by
  constructor
  · intro h
    refine ⟨fun e x he hx => ?_, fun hu => h u v hu (.inl addE_u), fun hv => h v u hv (.inl (addE_v hne))⟩
    refine h e x he (hx.imp (fun q => ?_) id)
    have h1 : e ≠ u := fun z => by
      subst z
      rw [fu] at q
      cases q
    have h2 : e ≠ v := fun z => by
      subst z
      rw [fv] at q
      cases q
    rw [addE_off h1 h2]
    exact q
  · rintro ⟨h, huv⟩ e x he hx
    rcases hx with hx | hx
    · by_cases h1 : e = u
      · subst h1
        rw [addE_u] at hx
        cases hx
        exact huv.mp he
      · by_cases h2 : e = v
        · subst h2
          rw [addE_v hne] at hx
          cases hx
          exact huv.mpr he
        · rw [addE_off h1 h2] at hx
          exact h e x he (.inl hx)
    · exact h e x he (.inr hx)
theorem cl_up (fu : f u = none) (fv : f v = none) (hne : u ≠ v) {a b : Nat} (h : Cl f g a b) : Cl (addE f u v) g a b := fun S hS ha => h S ((clo_add fu fv hne).mp hS).1 ha
theorem cl_off (fu : f u = none) (fv : f v = none) (hne : u ≠ v) {e x : Nat} (h1 : ¬ Cl f g e u) (h2 : ¬ Cl f g e v) : Cl (addE f u v) g e x ↔ Cl f g e x := by
  refine ⟨fun h => ?_, cl_up fu fv hne⟩
  exact h (Cl f g e) ((clo_add fu fv hne).mpr ⟨Cl.clo e, fun z => absurd z h1, fun z => absurd z h2⟩) (Cl.refl e)
theorem cl_on (hf : Inv2 N f) (hg : Inv2 N g) (fu : f u = none) (fv : f v = none) (hne : u ≠ v) {e x : Nat} (h : Cl f g e u ∨ Cl f g e v) : Cl (addE f u v) g e x ↔ Cl f g u x ∨ Cl f g v x := by
  have uv : Cl (addE f u v) g u v := Cl.one (.inl addE_u)
  have vu : Cl (addE f u v) g v u := Cl.one (.inl (addE_v hne))
  constructor
  · intro hx
    refine hx (fun z => Cl f g u z ∨ Cl f g v z) ((clo_add fu fv hne).mpr ⟨fun a b ha hb => ?_, fun _ => .inr (Cl.refl v), fun _ => .inl (Cl.refl u)⟩) ?_
    · exact ha.imp (fun z => z.trans (Cl.one hb)) (fun z => z.trans (Cl.one hb))
    · exact h.imp (fun z => z.symm hf hg) (fun z => z.symm hf hg)
  · intro hx
    have eu : Cl (addE f u v) g e u := by
      rcases h with h | h
      · exact cl_up fu fv hne h
      · exact (cl_up fu fv hne h).trans vu
    rcases hx with hx | hx
    · exact eu.trans (cl_up fu fv hne hx)
    · exact (eu.trans uv).trans (cl_up fu fv hne hx)
/-- the change -/
noncomputable def delta (f g : Nat → Option Nat) (N u v : Nat) : Int := if Cl f g u v then -1 else if (mem f g N u).length % 2 = 1 ∧ (mem f g N v).length % 2 = 1 then 1 else 0
theorem ring_same (hf : Inv2 N f) (hg : Inv2 N g) (hu : u < N) (fu : f u = none) (fv : f v = none) (hne : u ≠ v) (h : Cl f g u v) : Ring (addE f u v) g u := by
  obtain ⟨t, ht, h1, h2, h3⟩ := two_slots hu hg hf fu
  have htv : v = t := Classical.byContradiction fun z => (h1 v h.swap (Ne.symm hne) z).2 fv
  subst htv
  obtain ⟨q1, q2⟩ := h3 (Ne.symm hne)
  have gv : g v ≠ none := by
    rcases q2 with ⟨_, z⟩ | ⟨z, _⟩
    · exact absurd fv z
    · exact z
  intro x hx
  have hx' := (cl_on hf hg fu fv hne (.inl (Cl.refl u))).mp hx
  have hxu : Cl f g u x := hx'.elim id fun z => h.trans z
  by_cases xu : x = u
  · subst xu
    rw [addE_u]
    exact ⟨fun z => (nomatch z), q1⟩
  · by_cases xv : x = v
    · subst xv
      rw [addE_v hne]
      exact ⟨fun z => (nomatch z), gv⟩
    · rw [addE_off xu xv]
      exact (h1 x hxu.swap xu xv).symm
theorem ring_diff (hf : Inv2 N f) (hg : Inv2 N g) (hu : u < N) (fu : f u = none) (fv : f v = none) (hne : u ≠ v) (h : ¬ Cl f g u v) : ¬ Ring (addE f u v) g u := by
  obtain ⟨t, ht, h1, h2, h3⟩ := two_slots hu hg hf fu
  intro r
  have htu : Cl f g u t := ht.swap
  have hr := r t (cl_up fu fv hne htu)
  by_cases e : t = u
  · subst e
    exact hr.2 (h2 rfl)
  · have tv : t ≠ v := fun z => h (z ▸ htu)
    rw [addE_off e tv] at hr
    rcases (h3 e).2 with ⟨z, _⟩ | ⟨_, z⟩
    · exact hr.2 z
    · exact hr.1 z
theorem not_ring_slot {e : Nat} (h : f e = none) : ¬ Ring f g e := fun r => (r e (Cl.refl e)).1 h
theorem make_law (hf : Inv2 N f) (hg : Inv2 N g) (hu : u < N) (hv : v < N) (fu : f u = none) (fv : f v = none) (hne : u ≠ v) : costW (addE f u v) g N = costW f g N + delta f g N u v * (fact N : Int) := by
  have hf' := addE_inv hf hu hv hne fu fv
  let p : Nat → Bool := fun x => decide (Cl f g u x ∨ Cl f g v x)
  have mplus : (List.range N).filter p = mem (addE f u v) g N u := by
    unfold mem
    exact List.filter_congr fun x _ => decide_eq_decide.mpr (cl_on hf hg fu fv hne (.inl (Cl.refl u))).symm
  have off : ∀ x ∈ (List.range N).filter (fun x => !p x), share (addE f u v) g N x = share f g N x := fun x hx => by
    have hp : ¬ (Cl f g u x ∨ Cl f g v x) := by
      have := (List.mem_filter.mp hx).2
      simpa [p] using this
    have h1 : ¬ Cl f g x u := fun z => hp (.inl (z.symm hf hg))
    have h2 : ¬ Cl f g x v := fun z => hp (.inr (z.symm hf hg))
    have hm : mem (addE f u v) g N x = mem f g N x := List.filter_congr fun y _ => decide_eq_decide.mpr (cl_off fu fv hne h1 h2)
    have hr : Ring (addE f u v) g x ↔ Ring f g x := by
      unfold Ring
      refine ⟨fun r y hy => ?_, fun r y hy => ?_⟩
      · have := r y ((cl_off fu fv hne h1 h2).mpr hy)
        have y1 : y ≠ u := fun z => h1 (z ▸ hy)
        have y2 : y ≠ v := fun z => h2 (z ▸ hy)
        rw [addE_off y1 y2] at this
        exact this
      · have hy' := (cl_off fu fv hne h1 h2).mp hy
        have y1 : y ≠ u := fun z => h1 (z ▸ hy')
        have y2 : y ≠ v := fun z => h2 (z ▸ hy')
        rw [addE_off y1 y2]
        exact r y hy'
    unfold share cst
    rw [hm]
    by_cases r : Ring f g x
    · rw [if_pos r, if_pos (hr.mpr r)]
    · rw [if_neg r, if_neg (fun z => r (hr.mp z))]
  have s1 := costW_split (f := addE f u v) (g := g) (N := N) p
  have s2 := costW_split (f := f) (g := g) (N := N) p
  rw [List.map_congr_left off] at s1
  rw [mplus, share_sum hf' hg hu] at s1
  unfold delta
  by_cases hs : Cl f g u v
  · rw [if_pos hs]
    have mold : (List.range N).filter p = mem f g N u := by
      unfold mem
      exact List.filter_congr fun x _ => decide_eq_decide.mpr ⟨fun z => z.elim id fun w => hs.trans w, fun z => .inl z⟩
    rw [mold, share_sum hf hg hu] at s2
    have hm : mem (addE f u v) g N u = mem f g N u := mplus.symm.trans mold
    have c1 : cst (addE f u v) g N u = cst f g N u - 1 := by
      unfold cst
      rw [hm, if_pos (ring_same hf hg hu fu fv hne hs), if_neg (not_ring_slot fu)]
      omega
    rw [s1, s2, c1, Int.sub_mul]
    omega
  · rw [if_neg hs]
    have pm : ((List.range N).filter p).Perm (mem f g N u ++ mem f g N v) := by
      have nd : (mem f g N u ++ mem f g N v).Nodup := List.nodup_append.mpr ⟨mem_nodup u, mem_nodup v, fun x hx y hy hxy => by
        subst hxy
        exact hs ((mem_mem.mp hx).2.trans ((mem_mem.mp hy).2.symm hf hg))⟩
      rw [List.perm_iff_count]
      intro x
      rw [(List.nodup_range.sublist List.filter_sublist).count, nd.count]
      have : x ∈ (List.range N).filter p ↔ x ∈ mem f g N u ++ mem f g N v := by
        rw [List.mem_filter, List.mem_range, List.mem_append, mem_mem, mem_mem]
        show _ ∧ decide (Cl f g u x ∨ Cl f g v x) = true ↔ _
        rw [decide_eq_true_eq]
        exact ⟨fun ⟨a, b⟩ => b.imp (fun z => ⟨a, z⟩) (fun z => ⟨a, z⟩), fun z => z.elim (fun w => ⟨w.1, .inl w.2⟩) (fun w => ⟨w.1, .inr w.2⟩)⟩
      by_cases hx : x ∈ (List.range N).filter p
      · rw [if_pos hx, if_pos (this.mp hx)]
      · rw [if_neg hx, if_neg (fun q => hx (this.mpr q))]
    have o1 : (((List.range N).filter p).map (share f g N)).sum = cst f g N u * (fact N : Int) + cst f g N v * (fact N : Int) := by
      rw [sumP (pm.map _), List.map_append, sum_app, share_sum hf hg hu, share_sum hf hg hv]
    rw [o1] at s2
    have hl : (mem (addE f u v) g N u).length = (mem f g N u).length + (mem f g N v).length := by
      rw [← mplus, pm.length_eq, List.length_append]
    have c1 : cst (addE f u v) g N u = cst f g N u + cst f g N v + (if (mem f g N u).length % 2 = 1 ∧ (mem f g N v).length % 2 = 1 then 1 else 0) := by
      unfold cst
      rw [hl, if_neg (ring_diff hf hg hu fu fv hne hs), if_neg (not_ring_slot fu), if_neg (not_ring_slot fv)]
      split <;> omega
    rw [s1, s2, c1, Int.add_mul, Int.add_mul]
    omega
end
end DC
end

section
/-! Two joints are made: how the second sees the first. -/
namespace DC
open Classical
section
variable {N : Nat} {f g : Nat → Option Nat}
/-- no three slots of one function in a component -/
theorem slot_two (hf : Inv2 N f) (hg : Inv2 N g) {u v w : Nat} (hu : u < N) (fu : f u = none) (fv : f v = none) (fw : f w = none) (hv : Cl f g u v) (hw : Cl f g u w) (h1 : v ≠ u) (h2 : w ≠ u) : v = w := by
  obtain ⟨t, _, q, _, _⟩ := two_slots hu hg hf fu
  have hvt : v = t := Classical.byContradiction fun z => (q v hv.swap h1 z).2 fv
  have hwt : w = t := Classical.byContradiction fun z => (q w hw.swap h2 z).2 fw
  rw [hvt, hwt]
theorem slot_even (hf : Inv2 N f) (hg : Inv2 N g) {u v : Nat} (hu : u < N) (fu : f u = none) (fv : f v = none) (hv : Cl f g u v) (h1 : v ≠ u) : (mem f g N u).length % 2 = 0 := by
  have uin : u ∈ mem f g N u := mem_mem.mpr ⟨hu, Cl.refl u⟩
  have vin : v ∈ (mem f g N u).erase u := (List.mem_erase_of_ne h1).mpr (mem_mem.mpr ⟨hv.lt hf hg hu, hv⟩)
  have nd := mem_nodup (N := N) (f := f) (g := g) u
  have l1 := List.length_erase_of_mem uin
  have l2 := List.length_erase_of_mem vin
  have p1 := List.length_pos_of_mem uin
  have p2 := List.length_pos_of_mem vin
  have ev := even_of ((((mem f g N u).erase u).erase v).length) (((mem f g N u).erase u).erase v) f rfl ((nd.erase u).erase v) hf.sym hf.ne (fun z hz => by
    have zv : z ≠ v := fun q => by
      subst q
      exact (List.Nodup.not_mem_erase (nd.erase u)) hz
    have hz1 := List.mem_of_mem_erase hz
    have zu : z ≠ u := fun q => by
      subst q
      exact (List.Nodup.not_mem_erase nd) hz1
    have hz2 := (mem_mem.mp (List.mem_of_mem_erase hz1)).2
    cases hfz : f z with
    | none => exact absurd (slot_two hf hg hu fu fv hfz hv hz2 h1 zu).symm zv
    | some w =>
      have hs := hf.sym hfz
      have wu : w ≠ u := fun q => by
        subst q
        rw [fu] at hs
        cases hs
      have wv : w ≠ v := fun q => by
        subst q
        rw [fv] at hs
        cases hs
      exact ⟨w, (List.mem_erase_of_ne wv).mpr ((List.mem_erase_of_ne wu).mpr (mem_mem.mpr ⟨hf.lt2 hfz, hz2.trans (Cl.one (.inl hfz))⟩)), rfl⟩)
  omega
theorem len_congr (hf : Inv2 N f) (hg : Inv2 N g) {a b : Nat} (h : Cl f g a b) : (mem f g N a).length = (mem f g N b).length := by rw [mem_congr hf hg h]
theorem filter_or {l : List Nat} {p q : Nat → Bool} (h : ∀ x ∈ l, ¬ (p x = true ∧ q x = true)) : (l.filter fun x => p x || q x).length = (l.filter p).length + (l.filter q).length := by
  induction l with
  | nil => rfl
  | cons x l ih =>
    have ih := ih fun y hy => h y (List.mem_cons_of_mem _ hy)
    have hx := h x List.mem_cons_self
    rw [List.filter_cons, List.filter_cons, List.filter_cons]
    cases hp : p x <;> cases hq : q x
    · simpa using ih
    · simp [ih]
      omega
    · simp [ih]
      omega
    · exact absurd ⟨hp, hq⟩ hx
theorem same_after {u v x y : Nat} (hf : Inv2 N f) (hg : Inv2 N g) (fu : f u = none) (fv : f v = none) (hne : u ≠ v) : Cl (addE f u v) g x y ↔ if Cl f g u x ∨ Cl f g v x then Cl f g u y ∨ Cl f g v y else Cl f g x y := by
  by_cases h : Cl f g u x ∨ Cl f g v x
  · rw [if_pos h]
    exact cl_on hf hg fu fv hne (h.imp (fun z => z.symm hf hg) (fun z => z.symm hf hg))
  · rw [if_neg h]
    exact cl_off fu fv hne (fun z => h (.inl (z.symm hf hg))) (fun z => h (.inr (z.symm hf hg)))
theorem len_after {u v x : Nat} (hf : Inv2 N f) (hg : Inv2 N g) (fu : f u = none) (fv : f v = none) (hne : u ≠ v) : (mem (addE f u v) g N x).length = if Cl f g u x ∨ Cl f g v x then (if Cl f g u v then (mem f g N u).length else (mem f g N u).length + (mem f g N v).length) else (mem f g N x).length := by
  by_cases h : Cl f g u x ∨ Cl f g v x
  · rw [if_pos h]
    have e : mem (addE f u v) g N x = (List.range N).filter fun y => decide (Cl f g u y ∨ Cl f g v y) := List.filter_congr fun y _ => decide_eq_decide.mpr (cl_on hf hg fu fv hne (h.imp (fun z => z.symm hf hg) (fun z => z.symm hf hg)))
    rw [e]
    by_cases huv : Cl f g u v
    · rw [if_pos huv]
      congr 1
      exact List.filter_congr fun y _ => decide_eq_decide.mpr ⟨fun z => z.elim id fun w => huv.trans w, .inl⟩
    · rw [if_neg huv]
      have := filter_or (l := List.range N) (p := fun y => decide (Cl f g u y)) (q := fun y => decide (Cl f g v y)) (fun y _ hy => huv ((of_decide_eq_true hy.1).trans ((of_decide_eq_true hy.2).symm hf hg)))
      refine Eq.trans ?_ this
      congr 1
      exact List.filter_congr fun y _ => by simp
  · rw [if_neg h]
    congr 1
    exact List.filter_congr fun y _ => decide_eq_decide.mpr (cl_off fu fv hne (fun z => h (.inl (z.symm hf hg))) (fun z => h (.inr (z.symm hf hg))))
end
/-- the change by what is the same and by sizes -/
noncomputable def dl (s : Prop) (a b : Nat) : Int := if s then -1 else if a % 2 = 1 ∧ b % 2 = 1 then 1 else 0
theorem delta_dl {f g : Nat → Option Nat} {N u v : Nat} : delta f g N u v = dl (Cl f g u v) (mem f g N u).length (mem f g N v).length := rfl
theorem dl_arith {uv ux uy vx vy xy : Prop} {a b c d : Nat} (n1 : ¬ (uv ∧ ux)) (n2 : ¬ (uv ∧ uy)) (n3 : ¬ (ux ∧ uy)) (n4 : ¬ (uv ∧ vx)) (n5 : ¬ (uv ∧ vy)) (n6 : ¬ (vx ∧ vy)) (n7 : ¬ (ux ∧ vx)) (n8 : ¬ (ux ∧ xy)) (n9 : ¬ (vx ∧ xy)) (n10 : ¬ (uy ∧ vy)) (n11 : ¬ (uy ∧ xy)) (n12 : ¬ (vy ∧ xy))
    (e1 : uv → a % 2 = 0 ∧ b % 2 = 0) (e2 : ux → a % 2 = 0 ∧ c % 2 = 0) (e3 : uy → a % 2 = 0 ∧ d % 2 = 0) (e4 : vx → b % 2 = 0 ∧ c % 2 = 0) (e5 : vy → b % 2 = 0 ∧ d % 2 = 0) (e6 : xy → c % 2 = 0 ∧ d % 2 = 0) :
    let D1 := dl uv a b + dl (if ux ∨ vx then uy ∨ vy else xy) (if ux ∨ vx then (if uv then a else a + b) else c) (if uy ∨ vy then (if uv then a else a + b) else d)
    let D2 := dl ux a c + dl (if uv ∨ vx then uy ∨ xy else vy) (if uv ∨ vx then (if ux then a else a + c) else b) (if uy ∨ xy then (if ux then a else a + c) else d)
    D1 ≤ D2 + 1 ∧ D2 ≤ D1 + 1 := by
  intro D1 D2
  unfold D1 D2 dl
  by_cases h1 : uv <;> by_cases h2 : ux <;> (try (exfalso; apply n1; constructor <;> assumption)) <;> by_cases h3 : uy <;> (try (exfalso; apply n2; constructor <;> assumption)) <;> (try (exfalso; apply n3; constructor <;> assumption)) <;>
    by_cases h4 : vx <;> (try (exfalso; apply n4; constructor <;> assumption)) <;> (try (exfalso; apply n7; constructor <;> assumption)) <;>
    by_cases h5 : vy <;> (try (exfalso; apply n5; constructor <;> assumption)) <;> (try (exfalso; apply n6; constructor <;> assumption)) <;> (try (exfalso; apply n10; constructor <;> assumption)) <;>
    by_cases h6 : xy <;> (try (exfalso; apply n8; constructor <;> assumption)) <;> (try (exfalso; apply n9; constructor <;> assumption)) <;> (try (exfalso; apply n11; constructor <;> assumption)) <;> (try (exfalso; apply n12; constructor <;> assumption)) <;>
    simp only [h1, h2, h3, h4, h5, h6, true_implies, false_implies] at e1 e2 e3 e4 e5 e6 <;>
    simp only [h1, h2, h3, h4, h5, h6, if_true, if_false, or_true, true_or, or_self, or_false, false_or] <;> (repeat' split) <;> omega
end DC
end

section
/-! A step's cost: at most one up, at most one down. -/
namespace DC
open Classical
section
variable {N : Nat} {f g : Nat → Option Nat}
theorem two_law {u v x y : Nat} (hf : Inv2 N f) (hg : Inv2 N g) (hu : u < N) (hv : v < N) (hx : x < N) (hy : y < N) (fu : f u = none) (fv : f v = none) (fx : f x = none) (fy : f y = none) (uv : u ≠ v) (ux : u ≠ x) (uy : u ≠ y) (vx : v ≠ x) (vy : v ≠ y) (xy : x ≠ y) :
    delta f g N u v + delta (addE f u v) g N x y ≤ delta f g N u x + delta (addE f u x) g N v y + 1 ∧ delta f g N u x + delta (addE f u x) g N v y ≤ delta f g N u v + delta (addE f u v) g N x y + 1 := by
  have no3 : ∀ {p q r : Nat}, p < N → f p = none → f q = none → f r = none → q ≠ p → r ≠ p → q ≠ r → ¬ (Cl f g p q ∧ Cl f g p r) := fun hp fp fq fr h1 h2 h3 h => h3 (slot_two hf hg hp fp fq fr h.1 h.2 h1 h2)
  have ev : ∀ {p q : Nat}, p < N → f p = none → f q = none → q ≠ p → Cl f g p q → (mem f g N p).length % 2 = 0 ∧ (mem f g N q).length % 2 = 0 := fun hp fp fq hne h => by
    have e := slot_even hf hg hp fp fq h hne
    exact ⟨e, by rw [← len_congr hf hg h]; exact e⟩
  have sy : ∀ {p q : Nat}, Cl f g p q → Cl f g q p := fun h => h.symm hf hg
  have key := dl_arith (uv := Cl f g u v) (ux := Cl f g u x) (uy := Cl f g u y) (vx := Cl f g v x) (vy := Cl f g v y) (xy := Cl f g x y) (a := (mem f g N u).length) (b := (mem f g N v).length) (c := (mem f g N x).length) (d := (mem f g N y).length)
    (no3 hu fu fv fx uv.symm ux.symm vx) (no3 hu fu fv fy uv.symm uy.symm vy) (no3 hu fu fx fy ux.symm uy.symm xy)
    (fun h => no3 hv fv fu fx uv vx.symm ux ⟨sy h.1, h.2⟩) (fun h => no3 hv fv fu fy uv vy.symm uy ⟨sy h.1, h.2⟩) (no3 hv fv fx fy vx.symm vy.symm xy)
    (fun h => no3 hx fx fu fv ux vx uv ⟨sy h.1, sy h.2⟩) (fun h => no3 hx fx fu fy ux xy.symm uy ⟨sy h.1, h.2⟩) (fun h => no3 hx fx fv fy vx xy.symm vy ⟨sy h.1, h.2⟩)
    (fun h => no3 hy fy fu fv uy vy uv ⟨sy h.1, sy h.2⟩) (fun h => no3 hy fy fu fx uy xy ux ⟨sy h.1, sy h.2⟩) (fun h => no3 hy fy fv fx vy xy vx ⟨sy h.1, sy h.2⟩)
    (ev hu fu fv uv.symm) (ev hu fu fx ux.symm) (ev hu fu fy uy.symm) (ev hv fv fx vx.symm) (ev hv fv fy vy.symm) (ev hx fx fy xy.symm)
  have q1 : Cl (addE f u v) g x y = (if Cl f g u x ∨ Cl f g v x then Cl f g u y ∨ Cl f g v y else Cl f g x y) := propext (same_after hf hg fu fv uv)
  have xv : Cl f g x v = Cl f g v x := propext ⟨sy, sy⟩
  have q2 : Cl (addE f u x) g v y = (if Cl f g u v ∨ Cl f g v x then Cl f g u y ∨ Cl f g x y else Cl f g v y) := by
    rw [← xv]
    exact propext (same_after hf hg fu fx ux)
  have l1 : (mem (addE f u v) g N x).length = if Cl f g u x ∨ Cl f g v x then (if Cl f g u v then (mem f g N u).length else (mem f g N u).length + (mem f g N v).length) else (mem f g N x).length := len_after hf hg fu fv uv
  have l2 : (mem (addE f u v) g N y).length = if Cl f g u y ∨ Cl f g v y then (if Cl f g u v then (mem f g N u).length else (mem f g N u).length + (mem f g N v).length) else (mem f g N y).length := len_after hf hg fu fv uv
  have l3 : (mem (addE f u x) g N v).length = if Cl f g u v ∨ Cl f g v x then (if Cl f g u x then (mem f g N u).length else (mem f g N u).length + (mem f g N x).length) else (mem f g N v).length := by
    rw [← xv]
    exact len_after hf hg fu fx ux
  have l4 : (mem (addE f u x) g N y).length = if Cl f g u y ∨ Cl f g x y then (if Cl f g u x then (mem f g N u).length else (mem f g N u).length + (mem f g N x).length) else (mem f g N y).length := len_after hf hg fu fx ux
  rw [delta_dl, delta_dl, delta_dl, delta_dl, q1, q2, l1, l2, l3, l4]
  exact key
theorem make2 {u v x y : Nat} (hf : Inv2 N f) (hg : Inv2 N g) (hu : u < N) (hv : v < N) (hx : x < N) (hy : y < N) (fu : f u = none) (fv : f v = none) (fx : f x = none) (fy : f y = none) (uv : u ≠ v) (ux : u ≠ x) (uy : u ≠ y) (vx : v ≠ x) (vy : v ≠ y) (xy : x ≠ y) :
    costW (addE (addE f u v) x y) g N = costW f g N + (delta f g N u v + delta (addE f u v) g N x y) * (fact N : Int) := by
  have gx : addE f u v x = none := by rw [addE_off ux.symm vx.symm, fx]
  have gy : addE f u v y = none := by rw [addE_off uy.symm vy.symm, fy]
  rw [make_law (addE_inv hf hu hv uv fu fv) hg hx hy gx gy xy, make_law hf hg hu hv fu fv uv, Int.add_mul, Int.add_assoc]
theorem delta_abs {u v : Nat} : -1 ≤ delta f g N u v ∧ delta f g N u v ≤ 1 := by
  unfold delta
  split
  · omega
  · split <;> omega
theorem shift_law {u v z : Nat} (hf : Inv2 N f) (hg : Inv2 N g) (hu : u < N) (fu : f u = none) (fv : f v = none) (uv : u ≠ v) (h : delta f g N u v = -1) : delta f g N u z ≤ 0 := by
  have huv : Cl f g u v := Classical.byContradiction fun q => by
    unfold delta at h
    rw [if_neg q] at h
    split at h <;> omega
  have e := slot_even hf hg hu fu fv huv uv.symm
  unfold delta
  split
  · omega
  · rw [if_neg (by omega)]
    omega
theorem shift_abs {u v z : Nat} (hf : Inv2 N f) (hg : Inv2 N g) (hu : u < N) (fu : f u = none) (fv : f v = none) (fz : f z = none) (uv : u ≠ v) (uz : u ≠ z) : delta f g N u v ≤ delta f g N u z + 1 ∧ delta f g N u z ≤ delta f g N u v + 1 := by
  have a1 := delta_abs (f := f) (g := g) (N := N) (u := u) (v := v)
  have a2 := delta_abs (f := f) (g := g) (N := N) (u := u) (v := z)
  by_cases h : delta f g N u v = -1
  · have := shift_law (z := z) hf hg hu fu fv uv h
    omega
  · by_cases h2 : delta f g N u z = -1
    · have := shift_law (z := v) hf hg hu fu fz uz h2
      omega
    · omega
end
/-! the mates without some joints -/
def off (C : List Jt) (p : Nat → Option Nat) : Nat → Option Nat := fun e => if e ∈ ends C then none else p e
theorem off_in {C : List Jt} {p : Nat → Option Nat} {e : Nat} (h : e ∈ ends C) : off C p e = none := if_pos h
theorem off_out {C : List Jt} {p : Nat → Option Nat} {e : Nat} (h : e ∉ ends C) : off C p e = p e := if_neg h
theorem off_none {C : List Jt} {p : Nat → Option Nat} {e : Nat} (h : p e = none) : off C p e = none := by
  by_cases he : e ∈ ends C
  · exact off_in he
  · rw [off_out he, h]
theorem off_nil {p : Nat → Option Nat} : off [] p = p := by
  funext e
  exact off_out (fun z => (nomatch z))
theorem off_inv {l : Lay} {C : List Jt} (g : GoodL l) (h : ∀ j ∈ C, j ∈ l.2) : Inv2 (2 * l.1) (off C (partner l.2)) := by
  have i := inv_of g.j
  have some_ : ∀ {e x : Nat}, off C (partner l.2) e = some x → e ∉ ends C ∧ partner l.2 e = some x := fun {e x} q => by
    by_cases he : e ∈ ends C
    · rw [off_in he] at q
      cases q
    · rw [off_out he] at q
      exact ⟨he, q⟩
  refine ⟨fun q => i.lt (some_ q).2, fun {e x} q => ?_, fun q => i.ne (some_ q).2⟩
  obtain ⟨q1, q2⟩ := some_ q
  have q3 := i.sym q2
  rw [off_out, q3]
  intro hx
  obtain ⟨j, hj, hh⟩ := ends_mem.mp hx
  rcases hh with rfl | rfl
  · rw [partner_of g.j.nd (e := j.1) (x := j.2) (.inl (h j hj))] at q3
    have : j.2 = e := Option.some.inj q3
    exact q1 (ends_mem.mpr ⟨j, hj, .inr this.symm⟩)
  · rw [partner_of g.j.nd (e := j.2) (x := j.1) (.inr (h j hj))] at q3
    have : j.1 = e := Option.some.inj q3
    exact q1 (ends_mem.mpr ⟨j, hj, .inl this.symm⟩)
theorem mem_two {a b e : Nat} : e ∈ [a, b] ↔ e = a ∨ e = b := by simp
theorem mem_four {a b c d e : Nat} : e ∈ [a, b, c, d] ↔ e = a ∨ e = b ∨ e = c ∨ e = d := by simp
theorem off_one {l : Lay} {j : Jt} (g : GoodL l) (h : j ∈ l.2) : partner l.2 = addE (off [j] (partner l.2)) j.1 j.2 := by
  have hlt := (g.j.lt j h).1
  have hne : j.1 ≠ j.2 := by omega
  funext e
  by_cases h1 : e = j.1
  · subst h1
    rw [addE_u]
    exact partner_of g.j.nd (.inl h)
  · by_cases h2 : e = j.2
    · subst h2
      rw [addE_v hne]
      exact partner_of g.j.nd (.inr h)
    · rw [addE_off h1 h2, off_out]
      intro z
      have z : e ∈ [j.1, j.2] := z
      rcases mem_two.mp z with z | z
      · exact h1 z
      · exact h2 z
theorem off_two {l : Lay} {j k : Jt} (g : GoodL l) (h : j ∈ l.2) (h' : k ∈ l.2) : partner l.2 = addE (addE (off [j, k] (partner l.2)) j.1 j.2) k.1 k.2 := by
  have hlt := (g.j.lt j h).1
  have hne : j.1 ≠ j.2 := by omega
  have hlt' := (g.j.lt k h').1
  have hne' : k.1 ≠ k.2 := by omega
  funext e
  by_cases h3 : e = k.1
  · subst h3
    rw [addE_u]
    exact partner_of g.j.nd (.inl h')
  · by_cases h4 : e = k.2
    · subst h4
      rw [addE_v hne']
      exact partner_of g.j.nd (.inr h')
    · rw [addE_off h3 h4]
      by_cases h1 : e = j.1
      · subst h1
        rw [addE_u]
        exact partner_of g.j.nd (.inl h)
      · by_cases h2 : e = j.2
        · subst h2
          rw [addE_v hne]
          exact partner_of g.j.nd (.inr h)
        · rw [addE_off h1 h2, off_out]
          intro z
          have z : e ∈ [j.1, j.2, k.1, k.2] := z
          rcases mem_four.mp z with z | z | z | z
          · exact h1 z
          · exact h2 z
          · exact h3 z
          · exact h4 z
theorem jt_in (u z : Nat) : (u, z) = jt u z ∨ (z, u) = jt u z := by
  unfold jt
  split
  · exact .inl rfl
  · exact .inr rfl
theorem after_none {l : Lay} {C : List Jt} (g : GoodL l) (k : StepOk l (C, [])) : partner (afterL l (C, [])).2 = off C (partner l.2) := by
  funext e
  rw [partner_after g k e]
  exact if_neg (fun z => (nomatch z))
theorem after_one {l : Lay} {C : List Jt} {u z : Nat} (g : GoodL l) (k : StepOk l (C, [jt u z])) (hne : u ≠ z) : partner (afterL l (C, [jt u z])).2 = addE (off C (partner l.2)) u z := by
  funext e
  rw [partner_after g k e]
  have me : e ∈ ends [jt u z] ↔ e = u ∨ e = z := (ends_jt u z).mem_iff.trans mem_two
  have nd : (ends [jt u z]).Nodup := k.nd
  by_cases h1 : e = u
  · rw [if_pos (me.mpr (.inl h1)), h1, addE_u]
    exact partner_of nd ((jt_in u z).imp (fun q => List.mem_singleton.mpr q) (fun q => List.mem_singleton.mpr q))
  · by_cases h2 : e = z
    · rw [if_pos (me.mpr (.inr h2)), h2, addE_v hne]
      exact partner_of nd ((jt_in u z).symm.imp (fun q => List.mem_singleton.mpr q) (fun q => List.mem_singleton.mpr q))
    · rw [if_neg (fun q => (me.mp q).elim h1 h2), addE_off h1 h2]
      rfl
theorem after_two {l : Lay} {C : List Jt} {p q r t : Nat} (g : GoodL l) (k : StepOk l (C, sortJ [jt p q, jt r t])) (pq : p ≠ q) (rt : r ≠ t) : partner (afterL l (C, sortJ [jt p q, jt r t])).2 = addE (addE (off C (partner l.2)) p q) r t := by
  funext e
  rw [partner_after g k e]
  have sp := sortJ_perm [jt p q, jt r t]
  have me : e ∈ ends (sortJ [jt p q, jt r t]) ↔ e = p ∨ e = q ∨ e = r ∨ e = t := ((ends_perm sp).trans (ends_two p q r t)).mem_iff.trans mem_four
  have nd : (ends (sortJ [jt p q, jt r t])).Nodup := k.nd
  have in1 : ∀ {j : Jt}, j = jt p q → j ∈ sortJ [jt p q, jt r t] := fun h => sp.mem_iff.mpr (h ▸ List.mem_cons_self)
  have in2 : ∀ {j : Jt}, j = jt r t → j ∈ sortJ [jt p q, jt r t] := fun h => sp.mem_iff.mpr (List.mem_cons_of_mem _ (List.mem_singleton.mpr h))
  by_cases h3 : e = r
  · rw [if_pos (me.mpr (.inr (.inr (.inl h3)))), h3, addE_u]
    exact partner_of nd ((jt_in r t).imp in2 in2)
  · by_cases h4 : e = t
    · rw [if_pos (me.mpr (.inr (.inr (.inr h4)))), h4, addE_v rt]
      exact partner_of nd ((jt_in r t).symm.imp in2 in2)
    · rw [addE_off h3 h4]
      by_cases h1 : e = p
      · rw [if_pos (me.mpr (.inl h1)), h1, addE_u]
        exact partner_of nd ((jt_in p q).imp in1 in1)
      · by_cases h2 : e = q
        · rw [if_pos (me.mpr (.inr (.inl h2))), h2, addE_v pq]
          exact partner_of nd ((jt_in p q).symm.imp in1 in1)
        · rw [addE_off h1 h2, if_neg (fun z => by
            rcases me.mp z with z | z | z | z
            · exact h1 z
            · exact h2 z
            · exact h3 z
            · exact h4 z)]
          rfl
/-- costs from weights -/
theorem cost_of_W {c1 c2 d1 d2 W0 : Int} {F : Nat} (hF : 0 < F) (h1 : c1 * (F : Int) = W0 + d1 * (F : Int)) (h2 : c2 * (F : Int) = W0 + d2 * (F : Int)) : c2 - c1 = d2 - d1 := by
  have : (c2 - c1) * (F : Int) = (d2 - d1) * (F : Int) := by
    rw [Int.sub_mul, Int.sub_mul]
    omega
  exact Int.eq_of_mul_eq_mul_right (by omega) this
theorem cost_move {a b : Lay} {s : Stp} {W0 d1 d2 : Int} (ga : GoodL a) (gb : GoodL b) (h : a.1 = b.1) (k : StepOk a s) (h1 : costW (partner a.2) (partner b.2) (2 * a.1) = W0 + d1 * (fact (2 * a.1) : Int)) (h2 : costW (partner (afterL a s).2) (partner b.2) (2 * a.1) = W0 + d2 * (fact (2 * a.1) : Int)) : costL (afterL a s) b = costL a b + (d2 - d1) := by
  have gA := after_good ga k
  have w1 := costL_W ga gb h
  have w2 : costL (afterL a s) b * (fact (2 * a.1) : Int) = costW (partner (afterL a s).2) (partner b.2) (2 * a.1) := costL_W gA gb h
  have := cost_of_W (fact_pos (2 * a.1)) (w1.trans h1) (w2.trans h2)
  omega
theorem cost_step {a b : Lay} {s : Stp} (ga : GoodL a) (gb : GoodL b) (h : a.1 = b.1) (hs : s ∈ stepsL a) : costL (afterL a s) b ≤ costL a b + 1 ∧ costL a b ≤ costL (afterL a s) b + 1 := by
  have k0 := (mem_steps ga).mp hs
  have k := stepK_ok ga k0
  have ia := inv_of ga.j
  have ib := inv_of gb.j
  rw [← h] at ib
  have i0 := off_inv ga k.cut
  suffices hh : ∃ W0 d1 d2 : Int, costW (partner a.2) (partner b.2) (2 * a.1) = W0 + d1 * (fact (2 * a.1) : Int) ∧ costW (partner (afterL a s).2) (partner b.2) (2 * a.1) = W0 + d2 * (fact (2 * a.1) : Int) ∧ d1 ≤ d2 + 1 ∧ d2 ≤ d1 + 1 by
    obtain ⟨W0, d1, d2, h1, h2, h3, h4⟩ := hh
    have := cost_move ga gb h k h1 h2
    omega
  have frees : ∀ {z : Nat}, z ∈ freeL a → z < 2 * a.1 ∧ partner a.2 z = none ∧ z ∉ ends a.2 := fun hz => ⟨((mem_free ga).mp hz).1, ((mem_free ga).mp hz).2, free_not ga hz⟩
  rcases k0 with ⟨j, hj, rfl⟩ | ⟨j, hj, z, hz, rfl | rfl⟩ | ⟨i, hi, j, hj, hij, rfl | rfl⟩ | ⟨u, hu, v, hv, huv, rfl⟩
  · have hlt := ga.j.lt j hj
    have m := make_law (u := j.1) (v := j.2) i0 ib (by omega) hlt.2 (off_in List.mem_cons_self) (off_in (List.mem_cons_of_mem _ List.mem_cons_self)) (by omega)
    rw [← off_one ga hj] at m
    have m : _ = _ + delta (off [j] (partner a.2)) (partner b.2) (2 * a.1) j.1 j.2 * _ := m
    refine ⟨_, _, 0, m, ?_, ?_⟩
    · rw [after_none ga k, Int.zero_mul, Int.add_zero]
    · have := delta_abs (f := off [j] (partner a.2)) (g := partner b.2) (N := 2 * a.1) (u := j.1) (v := j.2)
      omega
  · have hlt := ga.j.lt j hj
    obtain ⟨z1, z2, z3⟩ := frees hz
    have uz : j.1 ≠ z := fun q => z3 (ends_mem.mpr ⟨j, hj, .inl q.symm⟩)
    have f1 : off [j] (partner a.2) j.1 = none := off_in List.mem_cons_self
    have f2 : off [j] (partner a.2) j.2 = none := off_in (List.mem_cons_of_mem _ List.mem_cons_self)
    have f3 : off [j] (partner a.2) z = none := off_none z2
    have m := make_law (u := j.1) (v := j.2) i0 ib (by omega) hlt.2 f1 f2 (by omega)
    have m2 := make_law (u := j.1) (v := z) i0 ib (by omega) z1 f1 f3 uz
    rw [← off_one ga hj] at m
    have m2 : costW (addE (off [j] (partner a.2)) j.1 z) (partner b.2) (2 * a.1) = _ := m2
    rw [← after_one ga k uz] at m2
    exact ⟨_, _, _, m, m2, shift_abs i0 ib (by omega) f1 f2 f3 (by omega) uz⟩
  · have hlt := ga.j.lt j hj
    obtain ⟨z1, z2, z3⟩ := frees hz
    have uz : j.2 ≠ z := fun q => z3 (ends_mem.mpr ⟨j, hj, .inr q.symm⟩)
    have f1 : off [j] (partner a.2) j.1 = none := off_in List.mem_cons_self
    have f2 : off [j] (partner a.2) j.2 = none := off_in (List.mem_cons_of_mem _ List.mem_cons_self)
    have f3 : off [j] (partner a.2) z = none := off_none z2
    have m := make_law (u := j.2) (v := j.1) i0 ib hlt.2 (by omega) f2 f1 (by omega)
    have m2 := make_law (u := j.2) (v := z) i0 ib hlt.2 z1 f2 f3 uz
    have sw : addE (off [j] (partner a.2)) j.2 j.1 = partner a.2 := (addE_swap (by omega)).trans (off_one ga hj).symm
    have m : costW (addE (off [j] (partner a.2)) j.2 j.1) (partner b.2) (2 * a.1) = _ := m
    rw [sw] at m
    have m2 : costW (addE (off [j] (partner a.2)) j.2 z) (partner b.2) (2 * a.1) = _ := m2
    rw [← after_one ga k uz] at m2
    exact ⟨_, _, _, m, m2, shift_abs i0 ib hlt.2 f2 f1 f3 (by omega) uz⟩
  · have l1 := ga.j.lt i hi
    have l2 := ga.j.lt j hj
    have nd4 : [i.1, i.2, j.1, j.2].Nodup := two_ends ga hi hj hij
    simp only [List.nodup_cons, List.mem_cons, List.not_mem_nil, or_false, not_or, not_false_eq_true, List.nodup_nil, and_true] at nd4
    obtain ⟨⟨uv, ux, uy⟩, ⟨vx, vy⟩, xy⟩ := nd4
    have fu : off [i, j] (partner a.2) i.1 = none := off_in (by simp [ends])
    have fv : off [i, j] (partner a.2) i.2 = none := off_in (by simp [ends])
    have fx : off [i, j] (partner a.2) j.1 = none := off_in (by simp [ends])
    have fy : off [i, j] (partner a.2) j.2 = none := off_in (by simp [ends])
    have m1 := make2 i0 ib (by omega) l1.2 (by omega) l2.2 fu fv fx fy uv ux uy vx vy xy
    have m2 := make2 i0 ib (by omega) (by omega) l1.2 l2.2 fu fx fv fy ux uv uy (fun q => vx q.symm) xy vy
    have t2 := two_law i0 ib (by omega) l1.2 (by omega) l2.2 fu fv fx fy uv ux uy vx vy xy
    have m1 : costW (addE (addE (off [i, j] (partner a.2)) i.1 i.2) j.1 j.2) (partner b.2) (2 * a.1) = _ := m1
    rw [← off_two ga hi hj] at m1
    have m2 : costW (addE (addE (off [i, j] (partner a.2)) i.1 j.1) i.2 j.2) (partner b.2) (2 * a.1) = _ := m2
    rw [← after_two ga k ux vy] at m2
    exact ⟨_, _, _, m1, m2, t2⟩
  · have l1 := ga.j.lt i hi
    have l2 := ga.j.lt j hj
    have nd4 : [i.1, i.2, j.1, j.2].Nodup := two_ends ga hi hj hij
    simp only [List.nodup_cons, List.mem_cons, List.not_mem_nil, or_false, not_or, not_false_eq_true, List.nodup_nil, and_true] at nd4
    obtain ⟨⟨uv, uy, ux⟩, ⟨vy, vx⟩, yx⟩ := nd4
    have xy : j.2 ≠ j.1 := fun q => yx q.symm
    have fu : off [i, j] (partner a.2) i.1 = none := off_in (by simp [ends])
    have fv : off [i, j] (partner a.2) i.2 = none := off_in (by simp [ends])
    have fy : off [i, j] (partner a.2) j.1 = none := off_in (by simp [ends])
    have fx : off [i, j] (partner a.2) j.2 = none := off_in (by simp [ends])
    have m1 := make2 i0 ib (by omega) l1.2 l2.2 (by omega) fu fv fx fy uv ux uy vx vy xy
    have m2 := make2 i0 ib (by omega) l2.2 l1.2 (by omega) fu fx fv fy ux uv uy (fun q => vx q.symm) xy vy
    have t2 := two_law i0 ib (by omega) l1.2 l2.2 (by omega) fu fv fx fy uv ux uy vx vy xy
    have m1 : costW (addE (addE (off [i, j] (partner a.2)) i.1 i.2) j.2 j.1) (partner b.2) (2 * a.1) = _ := m1
    rw [addE_swap xy, ← off_two ga hi hj] at m1
    have m2 : costW (addE (addE (off [i, j] (partner a.2)) i.1 j.2) i.2 j.1) (partner b.2) (2 * a.1) = _ := m2
    rw [← after_two ga k ux vy] at m2
    exact ⟨_, _, _, m1, m2, t2⟩
  · obtain ⟨u1, u2, _⟩ := frees hu
    obtain ⟨v1, v2, _⟩ := frees hv
    have hne : u ≠ v := by omega
    have m := make_law ia ib u1 v1 u2 v2 hne
    have ej : jt u v = (u, v) := if_pos huv
    rw [← ej] at k
    have e := after_one ga k hne
    rw [off_nil, ej] at e
    rw [← e] at m
    refine ⟨_, 0, _, ?_, m, ?_⟩
    · rw [Int.zero_mul, Int.add_zero]
    · have := delta_abs (f := partner a.2) (g := partner b.2) (N := 2 * a.1) (u := u) (v := v)
      omega
end DC
end

section
/-! A joint of the goal is made: the cost falls by one. -/
namespace DC
open Classical
/-- the joint (x, y) made, what was joined to both is joined -/
noncomputable def tie (f : Nat → Option Nat) (x y : Nat) : Nat → Option Nat := fun e => if e = x then some y else if e = y then some x else if f e = some x then f y else if f e = some y then f x else f e
section
variable {N : Nat} {f g : Nat → Option Nat}
theorem tie_swap {x y : Nat} (h : x ≠ y) : tie f x y = tie f y x := by
  funext e
  unfold tie
  by_cases h1 : e = x
  · rw [if_pos h1, if_neg (fun z => h (h1.symm.trans z)), if_pos h1]
  · rw [if_neg h1, if_neg h1]
    by_cases h2 : e = y
    · rw [if_pos h2, if_pos h2]
    · rw [if_neg h2, if_neg h2]
      by_cases h3 : f e = some x
      · have h4 : f e ≠ some y := fun z => by
          rw [h3] at z
          exact h (Option.some.inj z)
        rw [if_pos h3, if_neg h4, if_pos h3]
      · rw [if_neg h3, if_neg h3]
theorem tie_same {x y : Nat} (hf : Inv2 N f) (h : f x = some y) : tie f x y = f := by
  have h' := hf.sym h
  funext e
  unfold tie
  by_cases h1 : e = x
  · rw [if_pos h1, h1, h]
  · rw [if_neg h1]
    by_cases h2 : e = y
    · rw [if_pos h2, h2, h']
    · rw [if_neg h2, if_neg, if_neg]
      · intro z
        have := hf.sym z
        rw [h'] at this
        exact h1 (Option.some.inj this).symm
      · intro z
        have := hf.sym z
        rw [h] at this
        exact h2 (Option.some.inj this).symm
theorem delta_joined {x y : Nat} (h : g x = some y) : delta f g N x y = -1 := if_pos (Cl.one (.inr h))
theorem sh_cost {x y u : Nat} (hf : Inv2 N f) (hg : Inv2 N g) (fx : f x = none) (fy : f y = none) (fu : f u = none) (h : g x = some y) (xu : x ≠ u) (uy : u ≠ y) : delta f g N x u = 0 := by
  have hx := hg.lt h
  have hxy : Cl f g x y := Cl.one (.inr h)
  have e := slot_even hf hg hx fx fy hxy (hg.ne h).symm
  have n : ¬ Cl f g x u := fun z => uy (slot_two hf hg hx fx fu fy z hxy xu.symm (hg.ne h).symm)
  unfold delta
  rw [if_neg n, if_neg (by omega)]
theorem db_cost {x y u v : Nat} (hf : Inv2 N f) (hg : Inv2 N g) (fx : f x = none) (fy : f y = none) (fu : f u = none) (fv : f v = none) (h : g x = some y) (xu : x ≠ u) (uy : u ≠ y) (xv : x ≠ v) (vy : v ≠ y) (uv : u ≠ v) :
    delta f g N x y + delta (addE f x y) g N u v = delta f g N x u + delta (addE f x u) g N y v - 1 := by
  have hx := hg.lt h
  have xy := hg.ne h
  have hxy : Cl f g x y := Cl.one (.inr h)
  have sy : ∀ {p q : Nat}, Cl f g p q → Cl f g q p := fun h => h.symm hf hg
  have e := slot_even hf hg hx fx fy hxy xy.symm
  have nxu : ¬ Cl f g x u := fun z => uy (slot_two hf hg hx fx fu fy z hxy xu.symm xy.symm)
  have nxv : ¬ Cl f g x v := fun z => vy (slot_two hf hg hx fx fv fy z hxy xv.symm xy.symm)
  have nyu : ¬ Cl f g y u := fun z => nxu (hxy.trans z)
  have nyv : ¬ Cl f g y v := fun z => nxv (hxy.trans z)
  rw [delta_joined h, sh_cost hf hg fx fy fu h xu uy, delta_dl, delta_dl]
  have q1 : Cl (addE f x y) g u v = Cl f g u v := propext ((same_after hf hg fx fy xy).trans (by rw [if_neg (fun z => z.elim nxu nyu)]))
  have q2 : Cl (addE f x u) g y v = Cl f g u v := propext ((same_after hf hg fx fu xu).trans (by rw [if_pos (.inl hxy)]; exact ⟨fun z => z.elim (fun w => absurd w nxv) id, .inr⟩))
  have l1 : (mem (addE f x y) g N u).length = (mem f g N u).length := (len_after hf hg fx fy xy).trans (if_neg (fun z => z.elim nxu nyu))
  have l2 : (mem (addE f x y) g N v).length = (mem f g N v).length := (len_after hf hg fx fy xy).trans (if_neg (fun z => z.elim nxv nyv))
  have l3 : (mem (addE f x u) g N y).length = (mem f g N x).length + (mem f g N u).length := (len_after hf hg fx fu xu).trans ((if_pos (.inl hxy)).trans (if_neg nxu))
  rw [q1, q2, l1, l2, l3]
  unfold dl
  by_cases huv : Cl f g u v
  · rw [if_pos huv, if_pos huv]
    rfl
  · have l4 : (mem (addE f x u) g N v).length = (mem f g N v).length := (len_after hf hg fx fu xu).trans (if_neg (fun z => z.elim nxv huv))
    rw [if_neg huv, if_neg huv, l4]
    split <;> split <;> omega
end
theorem joint_of {l : Lay} (g : GoodL l) {x u : Nat} (h : partner l.2 x = some u) : jt x u ∈ l.2 := by
  have i := inv_of g.j
  have hne := i.ne h
  unfold jt
  by_cases hlt : x < u
  · rw [if_pos hlt]
    exact (joint_iff g.j).mpr ⟨hlt, h⟩
  · rw [if_neg hlt]
    exact (joint_iff g.j).mpr ⟨by show u < x; omega, i.sym h⟩
theorem of_joint {l : Lay} (g : GoodL l) {x u : Nat} (h : jt x u ∈ l.2) : partner l.2 x = some u := by
  refine partner_of g.j.nd ?_
  rcases jt_in x u with q | q
  · exact .inl (q ▸ h)
  · exact .inr (q ▸ h)
theorem jt_ends {x u e : Nat} : e ∈ ends [jt x u] ↔ e = x ∨ e = u := (ends_jt x u).mem_iff.trans mem_two
theorem off_jt {l : Lay} (g : GoodL l) {x u : Nat} (h : partner l.2 x = some u) : partner l.2 = addE (off [jt x u] (partner l.2)) x u := by
  have hne := (inv_of g.j).ne h
  have e := off_one g (joint_of g h)
  rcases jt_in x u with q | q
  · have e1 : (jt x u).1 = x := by rw [← q]
    have e2 : (jt x u).2 = u := by rw [← q]
    rw [e1, e2] at e
    exact e
  · have e1 : (jt x u).1 = u := by rw [← q]
    have e2 : (jt x u).2 = x := by rw [← q]
    rw [e1, e2] at e
    exact e.trans (addE_swap hne.symm)
/-- a joint's end is moved to a free end -/
theorem shift_ex {l : Lay} (g : GoodL l) {x u y : Nat} (h : partner l.2 x = some u) (hy : y < 2 * l.1) (fy : partner l.2 y = none) : StepK l ([jt x u], [jt x y]) := by
  have hz : y ∈ freeL l := (mem_free g).mpr ⟨hy, fy⟩
  refine .inr (.inl ⟨jt x u, joint_of g h, y, hz, ?_⟩)
  rcases jt_in x u with q | q
  · refine .inl ?_
    rw [← q]
  · refine .inr ?_
    rw [← q]
theorem make_ex {l : Lay} (g : GoodL l) {x y : Nat} (hx : x < 2 * l.1) (hy : y < 2 * l.1) (fx : partner l.2 x = none) (fy : partner l.2 y = none) (hne : x ≠ y) : StepK l ([], [jt x y]) := by
  have zx : x ∈ freeL l := (mem_free g).mpr ⟨hx, fx⟩
  have zy : y ∈ freeL l := (mem_free g).mpr ⟨hy, fy⟩
  refine .inr (.inr (.inr ?_))
  unfold jt
  by_cases h : x < y
  · rw [if_pos h]
    exact ⟨x, zx, y, zy, h, rfl⟩
  · rw [if_neg h]
    exact ⟨y, zy, x, zx, by omega, rfl⟩
theorem dbl_ex {l : Lay} (g : GoodL l) {x u y v : Nat} (hx : partner l.2 x = some u) (hy : partner l.2 y = some v) (hlt : (jt x u).1 < (jt y v).1) :
    ∃ s, StepK l s ∧ (∀ e, e ∈ ends s.1 ↔ e = x ∨ e = u ∨ e = y ∨ e = v) ∧ (∀ e, e ∈ ends s.2 ↔ e = x ∨ e = y ∨ e = u ∨ e = v) ∧ ((x, y) ∈ s.2 ∨ (y, x) ∈ s.2) ∧ ((u, v) ∈ s.2 ∨ (v, u) ∈ s.2) := by
  have jx := joint_of g hx
  have jy := joint_of g hy
  have e1 : ∀ e, e ∈ ends [jt x u, jt y v] ↔ e = x ∨ e = u ∨ e = y ∨ e = v := fun e => (ends_two x u y v).mem_iff.trans mem_four
  have made : ∀ s2 : List Jt, (s2 = sortJ [jt x y, jt u v] ∨ s2 = sortJ [jt u v, jt x y]) → (∀ e, e ∈ ends s2 ↔ e = x ∨ e = y ∨ e = u ∨ e = v) ∧ ((x, y) ∈ s2 ∨ (y, x) ∈ s2) ∧ ((u, v) ∈ s2 ∨ (v, u) ∈ s2) := fun s2 h => by
    have pm : s2.Perm [jt x y, jt u v] := by
      rcases h with rfl | rfl
      · exact sortJ_perm _
      · exact (sortJ_perm _).trans (List.Perm.swap _ _ _)
    have in1 : ∀ {j : Jt}, j = jt x y → j ∈ s2 := fun h => pm.mem_iff.mpr (h ▸ List.mem_cons_self)
    have in2 : ∀ {j : Jt}, j = jt u v → j ∈ s2 := fun h => pm.mem_iff.mpr (List.mem_cons_of_mem _ (List.mem_singleton.mpr h))
    exact ⟨fun e => ((ends_perm pm).trans (ends_two x y u v)).mem_iff.trans mem_four, (jt_in x y).imp in1 in1, (jt_in u v).imp in2 in2⟩
  have jsw : ∀ {p q : Nat}, p ≠ q → jt p q = jt q p := fun {p q} h => by
    unfold jt
    by_cases h1 : p < q
    · rw [if_pos h1, if_neg (by omega)]
    · rw [if_neg h1, if_pos (by omega)]
  rcases jt_in x u with q1 | q1 <;> rcases jt_in y v with q2 | q2
  · refine ⟨([jt x u, jt y v], sortJ [jt x y, jt u v]), .inr (.inr (.inl ⟨_, jx, _, jy, hlt, .inl ?_⟩)), e1, made _ (.inl rfl)⟩
    rw [← q1, ← q2]
  · refine ⟨([jt x u, jt y v], sortJ [jt x y, jt u v]), .inr (.inr (.inl ⟨_, jx, _, jy, hlt, .inr ?_⟩)), e1, made _ (.inl rfl)⟩
    rw [← q1, ← q2]
  · refine ⟨([jt x u, jt y v], sortJ [jt u v, jt x y]), .inr (.inr (.inl ⟨_, jx, _, jy, hlt, .inr ?_⟩)), e1, made _ (.inr rfl)⟩
    rw [← q1, ← q2]
  · refine ⟨([jt x u, jt y v], sortJ [jt u v, jt x y]), .inr (.inr (.inl ⟨_, jx, _, jy, hlt, .inl ?_⟩)), e1, made _ (.inr rfl)⟩
    rw [← q1, ← q2]
end DC
end

section
namespace DC
open Classical
/-- a step that makes (x, y), and what it does to the costs -/
def MakeS (a : Lay) (x y : Nat) : Prop := ∃ s ∈ stepsL a, partner (afterL a s).2 = tie (partner a.2) x y ∧ ∀ b, GoodL b → a.1 = b.1 → partner b.2 x = some y → costL (afterL a s) b = costL a b - 1
theorem make_none {a : Lay} {x y : Nat} (ga : GoodL a) (hx : x < 2 * a.1) (hy : y < 2 * a.1) (hne : x ≠ y) (px : partner a.2 x = none) (py : partner a.2 y = none) : MakeS a x y := by
  have ia := inv_of ga.j
  have k0 := make_ex ga hx hy px py hne
  have k := stepK_ok ga k0
  have e := after_one ga k hne
  rw [off_nil] at e
  refine ⟨_, (mem_steps ga).mpr k0, ?_, fun b gb h q => ?_⟩
  · rw [e]
    funext z
    by_cases h1 : z = x
    · rw [h1, addE_u, tie, if_pos rfl]
    · by_cases h2 : z = y
      · rw [h2, addE_v hne, tie, if_neg hne.symm, if_pos rfl]
      · have n1 : partner a.2 z ≠ some x := fun w => by
          have := ia.sym w
          rw [px] at this
          cases this
        have n2 : partner a.2 z ≠ some y := fun w => by
          have := ia.sym w
          rw [py] at this
          cases this
        rw [addE_off h1 h2, tie, if_neg h1, if_neg h2, if_neg n1, if_neg n2]
  · have ib := inv_of gb.j
    rw [← h] at ib
    have m := make_law ia ib hx hy px py hne
    rw [← e, delta_joined q] at m
    have := cost_move (d1 := 0) ga gb h k (by rw [Int.zero_mul, Int.add_zero]) m
    omega
theorem make_one {a : Lay} {x y u : Nat} (ga : GoodL a) (hy : y < 2 * a.1) (hne : x ≠ y) (px : partner a.2 x = some u) (py : partner a.2 y = none) : MakeS a x y := by
  have ia := inv_of ga.j
  have pu := ia.sym px
  have hx := ia.lt px
  have hu := ia.lt2 px
  have xu := ia.ne px
  have uy : u ≠ y := fun z => by
    rw [z, py] at pu
    cases pu
  have k0 := shift_ex ga px hy py
  have k := stepK_ok ga k0
  have i0 := off_inv ga k.cut
  have i0 : Inv2 (2 * a.1) (off [jt x u] (partner a.2)) := i0
  have e := after_one ga k hne
  have f1 : off [jt x u] (partner a.2) x = none := off_in (jt_ends.mpr (.inl rfl))
  have f2 : off [jt x u] (partner a.2) u = none := off_in (jt_ends.mpr (.inr rfl))
  have f3 : off [jt x u] (partner a.2) y = none := off_none py
  refine ⟨_, (mem_steps ga).mpr k0, ?_, fun b gb h q => ?_⟩
  · rw [e]
    funext z
    by_cases h1 : z = x
    · rw [h1, addE_u, tie, if_pos rfl]
    · by_cases h2 : z = y
      · rw [h2, addE_v hne, tie, if_neg hne.symm, if_pos rfl]
      · rw [addE_off h1 h2, tie, if_neg h1, if_neg h2]
        by_cases h3 : z = u
        · rw [h3, f2, if_pos pu, py]
        · have n1 : partner a.2 z ≠ some x := fun w => by
            have := ia.sym w
            rw [px] at this
            exact h3 (Option.some.inj this).symm
          have n2 : partner a.2 z ≠ some y := fun w => by
            have := ia.sym w
            rw [py] at this
            cases this
          rw [if_neg n1, if_neg n2]
          exact off_out (fun w => (jt_ends.mp w).elim h1 h3)
  · have ib := inv_of gb.j
    rw [← h] at ib
    have m := make_law i0 ib hx hu f1 f2 xu
    have m2 := make_law i0 ib hx hy f1 f3 hne
    rw [← off_jt ga px, sh_cost i0 ib f1 f3 f2 q xu uy] at m
    rw [← e, delta_joined q] at m2
    have := cost_move ga gb h k m m2
    omega
theorem make_two {a : Lay} {x y u v : Nat} (ga : GoodL a) (hne : x ≠ y) (px : partner a.2 x = some u) (py : partner a.2 y = some v) (uy : u ≠ y) : MakeS a x y := by
  have ia := inv_of ga.j
  have pu := ia.sym px
  have pv := ia.sym py
  have hx := ia.lt px
  have hu := ia.lt2 px
  have hy := ia.lt py
  have hv := ia.lt2 py
  have xu := ia.ne px
  have yv := ia.ne py
  have xv : x ≠ v := fun z => by
    rw [← z, px] at pv
    exact uy (Option.some.inj pv)
  have uv : u ≠ v := fun z => by
    rw [z, pv] at pu
    exact hne (Option.some.inj pu).symm
  have ex : ∃ s, StepK a s ∧ (∀ e, e ∈ ends s.1 ↔ e = x ∨ e = u ∨ e = y ∨ e = v) ∧ (∀ e, e ∈ ends s.2 ↔ e = x ∨ e = y ∨ e = u ∨ e = v) ∧ ((x, y) ∈ s.2 ∨ (y, x) ∈ s.2) ∧ ((u, v) ∈ s.2 ∨ (v, u) ∈ s.2) := by
    have j1 := (jt_mem xu).2
    have j2 := (jt_mem yv).2
    rcases Nat.lt_trichotomy (jt x u).1 (jt y v).1 with q | q | q
    · exact dbl_ex ga px py q
    · exfalso
      rcases j1 with ⟨w1, _⟩ | ⟨w1, _⟩ <;> rcases j2 with ⟨w2, _⟩ | ⟨w2, _⟩ <;> rw [w1, w2] at q
      · exact hne q
      · exact xv q
      · exact uy q
      · exact uv q
    · obtain ⟨s, s1, s2, s3, s4, s5⟩ := dbl_ex ga py px q
      refine ⟨s, s1, fun e => (s2 e).trans ?_, fun e => (s3 e).trans ?_, s4.symm, s5.symm⟩
      · constructor
        · rintro (h | h | h | h)
          · exact .inr (.inr (.inl h))
          · exact .inr (.inr (.inr h))
          · exact .inl h
          · exact .inr (.inl h)
        · rintro (h | h | h | h)
          · exact .inr (.inr (.inl h))
          · exact .inr (.inr (.inr h))
          · exact .inl h
          · exact .inr (.inl h)
      · constructor
        · rintro (h | h | h | h)
          · exact .inr (.inl h)
          · exact .inl h
          · exact .inr (.inr (.inr h))
          · exact .inr (.inr (.inl h))
        · rintro (h | h | h | h)
          · exact .inr (.inl h)
          · exact .inl h
          · exact .inr (.inr (.inr h))
          · exact .inr (.inr (.inl h))
  obtain ⟨s, k0, h1, h2, m1, m2⟩ := ex
  have k := stepK_ok ga k0
  have i0 := off_inv ga k.cut
  have f1 : off s.1 (partner a.2) x = none := off_in ((h1 x).mpr (.inl rfl))
  have f2 : off s.1 (partner a.2) u = none := off_in ((h1 u).mpr (.inr (.inl rfl)))
  have f3 : off s.1 (partner a.2) y = none := off_in ((h1 y).mpr (.inr (.inr (.inl rfl))))
  have f4 : off s.1 (partner a.2) v = none := off_in ((h1 v).mpr (.inr (.inr (.inr rfl))))
  have old : partner a.2 = addE (addE (off s.1 (partner a.2)) x u) y v := by
    funext e
    by_cases q3 : e = y
    · rw [q3, addE_u, py]
    · by_cases q4 : e = v
      · rw [q4, addE_v yv, pv]
      · rw [addE_off q3 q4]
        by_cases q1 : e = x
        · rw [q1, addE_u, px]
        · by_cases q2 : e = u
          · rw [q2, addE_v xu, pu]
          · rw [addE_off q1 q2, off_out]
            intro w
            rcases (h1 e).mp w with w | w | w | w
            · exact q1 w
            · exact q2 w
            · exact q3 w
            · exact q4 w
  have new : partner (afterL a s).2 = addE (addE (off s.1 (partner a.2)) x y) u v := by
    funext e
    rw [partner_after ga k e]
    by_cases q3 : e = u
    · rw [q3, addE_u, if_pos ((h2 u).mpr (.inr (.inr (.inl rfl))))]
      exact partner_of k.nd m2
    · by_cases q4 : e = v
      · rw [q4, addE_v uv, if_pos ((h2 v).mpr (.inr (.inr (.inr rfl))))]
        exact partner_of k.nd m2.symm
      · rw [addE_off q3 q4]
        by_cases q1 : e = x
        · rw [q1, addE_u, if_pos ((h2 x).mpr (.inl rfl))]
          exact partner_of k.nd m1
        · by_cases q2 : e = y
          · rw [q2, addE_v hne, if_pos ((h2 y).mpr (.inr (.inl rfl)))]
            exact partner_of k.nd m1.symm
          · rw [addE_off q1 q2, if_neg]
            · rfl
            · intro w
              rcases (h2 e).mp w with w | w | w | w
              · exact q1 w
              · exact q2 w
              · exact q3 w
              · exact q4 w
  refine ⟨s, (mem_steps ga).mpr k0, ?_, fun b gb h q => ?_⟩
  · rw [new]
    funext z
    by_cases q1 : z = x
    · rw [q1, addE_off xu xv, addE_u, tie, if_pos rfl]
    · by_cases q2 : z = y
      · rw [q2, addE_off uy.symm yv, addE_v hne, tie, if_neg hne.symm, if_pos rfl]
      · rw [tie, if_neg q1, if_neg q2]
        by_cases q3 : z = u
        · rw [q3, addE_u, if_pos pu, py]
        · by_cases q4 : z = v
          · have n1 : partner a.2 v ≠ some x := fun w => by
              rw [pv] at w
              exact hne (Option.some.inj w).symm
            rw [q4, addE_v uv, if_neg n1, if_pos pv, px]
          · have n1 : partner a.2 z ≠ some x := fun w => by
              have := ia.sym w
              rw [px] at this
              exact q3 (Option.some.inj this).symm
            have n2 : partner a.2 z ≠ some y := fun w => by
              have := ia.sym w
              rw [py] at this
              exact q4 (Option.some.inj this).symm
            rw [addE_off q3 q4, addE_off q1 q2, if_neg n1, if_neg n2]
            refine off_out (fun w => ?_)
            rcases (h1 z).mp w with w | w | w | w
            · exact q1 w
            · exact q3 w
            · exact q2 w
            · exact q4 w
  · have ib := inv_of gb.j
    rw [← h] at ib
    have w1 := make2 i0 ib hx hu hy hv f1 f2 f3 f4 xu hne xv uy uv yv
    have w2 := make2 i0 ib hx hy hu hv f1 f3 f2 f4 hne xu xv uy.symm yv uv
    rw [← old] at w1
    rw [← new, db_cost i0 ib f1 f3 f2 f4 q xu uy xv yv.symm uv] at w2
    have := cost_move ga gb h k w1 w2
    omega
theorem make_step {a : Lay} {x y : Nat} (ga : GoodL a) (hx : x < 2 * a.1) (hy : y < 2 * a.1) (hne : x ≠ y) (hn : partner a.2 x ≠ some y) : MakeS a x y := by
  cases px : partner a.2 x with
  | none =>
    cases py : partner a.2 y with
    | none => exact make_none ga hx hy hne px py
    | some v =>
      obtain ⟨s, hs, e, c⟩ := make_one ga hx hne.symm py px
      refine ⟨s, hs, e.trans (tie_swap hne.symm), fun b gb h q => c b gb h ((inv_of gb.j).sym q)⟩
  | some u =>
    cases py : partner a.2 y with
    | none => exact make_one ga hy hne px py
    | some v =>
      refine make_two ga hne px py fun z => hn ?_
      rw [px, z]
theorem good_step {a b : Lay} (ga : GoodL a) (gb : GoodL b) (h : a.1 = b.1) (hne : a ≠ b) : ∃ s ∈ stepsL a, costL (afterL a s) b = costL a b - 1 := by
  have ia := inv_of ga.j
  have ib := inv_of gb.j
  rw [← h] at ib
  by_cases hb : ∃ x y, partner b.2 x = some y ∧ partner a.2 x ≠ some y
  · obtain ⟨x, y, q, n⟩ := hb
    obtain ⟨s, hs, _, c⟩ := make_step ga (ib.lt q) (ib.lt2 q) (ib.ne q) n
    exact ⟨s, hs, c b gb h q⟩
  · have sub : ∀ x y, partner b.2 x = some y → partner a.2 x = some y := fun x y q => Classical.byContradiction fun n => hb ⟨x, y, q, n⟩
    obtain ⟨x, hx⟩ : ∃ x, partner a.2 x ≠ partner b.2 x := Classical.byContradiction fun n => hne (lay_ext ga gb h fun e => Classical.byContradiction fun w => n ⟨e, w⟩)
    have qx : partner b.2 x = none := by
      cases q : partner b.2 x with
      | none => rfl
      | some y => exact absurd ((sub x y q).trans q.symm) hx
    obtain ⟨y, px⟩ : ∃ y, partner a.2 x = some y := by
      cases q : partner a.2 x with
      | none => exact absurd (q.trans qx.symm) hx
      | some y => exact ⟨y, rfl⟩
    have xy := ia.ne px
    have qy : partner b.2 y = none := by
      cases q : partner b.2 y with
      | none => rfl
      | some z =>
        have p2 := sub y z q
        rw [ia.sym px] at p2
        have : x = z := Option.some.inj p2
        subst this
        have := ib.sym q
        rw [qx] at this
        cases this
    have k0 : StepK a ([jt x y], []) := .inl ⟨jt x y, joint_of ga px, rfl⟩
    have k := stepK_ok ga k0
    have i0 : Inv2 (2 * a.1) (off [jt x y] (partner a.2)) := off_inv ga k.cut
    have f1 : off [jt x y] (partner a.2) x = none := off_in (jt_ends.mpr (.inl rfl))
    have f2 : off [jt x y] (partner a.2) y = none := off_in (jt_ends.mpr (.inr rfl))
    have alone : ∀ {e z : Nat}, off [jt x y] (partner a.2) e = none → partner b.2 e = none → Cl (off [jt x y] (partner a.2)) (partner b.2) e z → z = e := fun {e z} p1 p2 c => c (fun w => w = e) (fun w v hw hv => by
      have hw : w = e := hw
      subst hw
      rcases hv with hv | hv
      · rw [p1] at hv
        cases hv
      · rw [p2] at hv
        cases hv) rfl
    have single : ∀ {e : Nat}, e < 2 * a.1 → off [jt x y] (partner a.2) e = none → partner b.2 e = none → (mem (off [jt x y] (partner a.2)) (partner b.2) (2 * a.1) e).length = 1 := fun {e} he p1 p2 => by
      have sub1 : mem (off [jt x y] (partner a.2)) (partner b.2) (2 * a.1) e ⊆ [e] := fun z hz => List.mem_singleton.mpr (alone p1 p2 (mem_mem.mp hz).2)
      have l1 := (mem_nodup e).length_le_of_subset sub1
      have l2 := List.length_pos_of_mem (mem_mem.mpr ⟨he, Cl.refl (f := off [jt x y] (partner a.2)) (g := partner b.2) e⟩)
      rw [List.length_singleton] at l1
      omega
    have d : delta (off [jt x y] (partner a.2)) (partner b.2) (2 * a.1) x y = 1 := by
      unfold delta
      rw [if_neg (fun c => xy (alone f1 qx c).symm), if_pos]
      rw [single (ia.lt px) f1 qx, single (ia.lt2 px) f2 qy]
      exact ⟨rfl, rfl⟩
    refine ⟨_, (mem_steps ga).mpr k0, ?_⟩
    have m := make_law i0 ib (ia.lt px) (ia.lt2 px) f1 f2 xy
    rw [← off_jt ga px, d] at m
    have := cost_move (d2 := 0) ga gb h k m (by rw [after_none ga k, Int.zero_mul, Int.add_zero])
    omega
end DC
end

section
/-! One step apart; the plain history. -/
namespace DC
theorem sorted_ext {L M : List Jt} (hL : L.Pairwise fun a b => a.1 < b.1) (hM : M.Pairwise fun a b => a.1 < b.1) (h : ∀ j, j ∈ L ↔ j ∈ M) : L = M := by
  have nd : ∀ {J : List Jt}, J.Pairwise (fun a b => a.1 < b.1) → J.Nodup := fun {J} g => g.imp fun {a b} q z => by
    subst z
    omega
  have pm : L.Perm M := by
    rw [List.perm_iff_count]
    intro j
    rw [(nd hL).count, (nd hM).count]
    by_cases hj : j ∈ L
    · rw [if_pos hj, if_pos ((h j).mp hj)]
    · rw [if_neg hj, if_neg (fun q => hj ((h j).mpr q))]
  exact List.Perm.eq_of_pairwise (le := fun a b : Jt => a.1 < b.1) (fun a b _ _ h1 h2 => by omega) hL hM pm
theorem lay_mem_ext {a b : Lay} (ga : GoodL a) (gb : GoodL b) (h : a.1 = b.1) (hm : ∀ j, j ∈ a.2 ↔ j ∈ b.2) : a = b := Prod.ext h (sorted_ext ga.j.up gb.j.up hm)
theorem mem_after {l : Lay} {s : Stp} {j : Jt} : j ∈ (afterL l s).2 ↔ (j ∈ l.2 ∧ j ∉ s.1) ∨ j ∈ s.2 := by
  show j ∈ sortJ _ ↔ _
  rw [(sortJ_perm _).mem_iff, List.mem_append, List.mem_filter]
  simp
theorem mem_cutL {a b : Lay} {j : Jt} : j ∈ cutL a b ↔ j ∈ a.2 ∧ j ∉ b.2 := by
  unfold cutL
  rw [List.mem_filter]
  simp
theorem cut_up {a b : Lay} (ga : GoodL a) : (cutL a b).Pairwise fun x y => x.1 < y.1 := ga.j.up.sublist List.filter_sublist
theorem step_up {l : Lay} {s : Stp} (g : GoodL l) (h : StepK l s) : s.1.Pairwise (fun x y => x.1 < y.1) ∧ s.2.Pairwise (fun x y => x.1 < y.1) ∧ ∀ j ∈ s.2, j ∉ l.2 := by
  have k := stepK_ok g h
  have i := inv_of g.j
  have one : ∀ {j : Jt}, [j].Pairwise fun x y => x.1 < y.1 := List.pairwise_cons.mpr ⟨fun z hz => (nomatch hz), .nil⟩
  have srt : ∀ {K : List Jt}, (ends (sortJ K)).Nodup → (∀ j ∈ sortJ K, j.1 < j.2) → (sortJ K).Pairwise fun x y => x.1 < y.1 := fun {K} nd lt => by
    have pm := sortJ_perm K
    have : GoodJ ((ends K).sum + 1) (sortJ K) := by
      refine sortJ_good (fun j hj => ⟨lt j (pm.mem_iff.mpr hj), ?_⟩) ((ends_perm pm).nodup_iff.mp nd)
      have hm : j.2 ∈ ends K := ends_mem.mpr ⟨j, hj, .inr rfl⟩
      have : ∀ (L : List Nat) (x : Nat), x ∈ L → x ≤ L.sum := by
        intro L
        induction L with
        | nil => intro x hx; cases hx
        | cons y L ih =>
          intro x hx
          rw [List.sum_cons]
          rcases List.mem_cons.mp hx with rfl | hx
          · omega
          · have := ih x hx
            omega
      have := this _ _ hm
      omega
    exact this.up
  have frees : ∀ {u z : Nat}, z ∈ freeL l → jt u z ∉ l.2 := fun {u z} hz hj => free_not g hz (ends_mem.mpr ⟨_, hj, by
    rcases jt_in u z with q | q
    · exact .inr (by rw [← q])
    · exact .inl (by rw [← q])⟩)
  have two : ∀ {x y : Jt}, x.1 < y.1 → [x, y].Pairwise fun x y => x.1 < y.1 := fun {x y} hxy => List.pairwise_cons.mpr ⟨fun z hz => by
    rw [List.mem_singleton] at hz
    subst hz
    exact hxy, one⟩
  rcases h with ⟨a, ha, rfl⟩ | ⟨a, ha, z, hz, rfl | rfl⟩ | ⟨a, ha, b, hb, hab, rfl | rfl⟩ | ⟨u, hu, v, hv, huv, rfl⟩
  · exact ⟨one, .nil, fun j hj => (nomatch hj)⟩
  · refine ⟨one, one, fun j hj => ?_⟩
    rw [List.mem_singleton] at hj
    subst hj
    exact frees hz
  · refine ⟨one, one, fun j hj => ?_⟩
    rw [List.mem_singleton] at hj
    subst hj
    exact frees hz
  · have nd4 : [a.1, a.2, b.1, b.2].Nodup := two_ends g ha hb hab
    simp only [List.nodup_cons, List.mem_cons, List.not_mem_nil, or_false, not_or, not_false_eq_true, List.nodup_nil, and_true] at nd4
    obtain ⟨⟨uv, ux, uy⟩, ⟨vx, vy⟩, xy⟩ := nd4
    refine ⟨two hab, srt k.nd k.lt, fun j hj hl => ?_⟩
    have pa : partner l.2 a.1 = some a.2 := partner_of g.j.nd (.inl ha)
    have pb : partner l.2 b.2 = some b.1 := partner_of g.j.nd (.inr hb)
    have hq := (sortJ_perm _).mem_iff.mp hj
    rw [List.mem_cons, List.mem_singleton] at hq
    rcases hq with q | q
    · rw [q] at hl
      have := of_joint g hl
      rw [pa] at this
      exact vx (Option.some.inj this)
    · rw [q] at hl
      have := i.sym (of_joint g hl)
      rw [pb] at this
      exact vx (Option.some.inj this).symm
  · have nd4 : [a.1, a.2, b.1, b.2].Nodup := two_ends g ha hb hab
    simp only [List.nodup_cons, List.mem_cons, List.not_mem_nil, or_false, not_or, not_false_eq_true, List.nodup_nil, and_true] at nd4
    obtain ⟨⟨uv, ux, uy⟩, ⟨vx, vy⟩, xy⟩ := nd4
    refine ⟨two hab, srt k.nd k.lt, fun j hj hl => ?_⟩
    have pa : partner l.2 a.1 = some a.2 := partner_of g.j.nd (.inl ha)
    have pb : partner l.2 b.1 = some b.2 := partner_of g.j.nd (.inl hb)
    have hq := (sortJ_perm _).mem_iff.mp hj
    rw [List.mem_cons, List.mem_singleton] at hq
    rcases hq with q | q
    · rw [q] at hl
      have := of_joint g hl
      rw [pa] at this
      exact vy (Option.some.inj this)
    · rw [q] at hl
      have := i.sym (of_joint g hl)
      rw [pb] at this
      exact vy (Option.some.inj this).symm
  · refine ⟨.nil, one, fun j hj => ?_⟩
    rw [List.mem_singleton] at hj
    subst hj
    have : jt u v = (u, v) := if_pos huv
    rw [← this]
    exact frees hv
theorem step_one {a b : Lay} (ga : GoodL a) (gb : GoodL b) (h : a.1 = b.1) : ((cutL a b).length ≤ 2 ∧ (cutL b a).length ≤ 2) ∧ (cutL a b, cutL b a) ∈ stepsL a ↔ costL a b = 1 := by
  constructor
  · rintro ⟨_, hs⟩
    have gA := good_after ga hs
    have e : afterL a (cutL a b, cutL b a) = b := lay_mem_ext gA gb h fun j => by
      rw [mem_after, mem_cutL, mem_cutL]
      by_cases h1 : j ∈ a.2 <;> by_cases h2 : j ∈ b.2 <;> simp [h1, h2]
    have c := cost_step ga gb h hs
    rw [e, (cost_zero gb gb rfl).mpr rfl] at c
    have n := cost_nonneg ga gb h
    have nz : costL a b ≠ 0 := fun z => by
      have hab := (cost_zero ga gb h).mp z
      subst hab
      have ce : cutL a a = [] := List.eq_nil_iff_forall_not_mem.mpr fun j hj => (mem_cutL.mp hj).2 (mem_cutL.mp hj).1
      rw [ce] at hs
      rcases (mem_steps ga).mp hs with ⟨j, _, q⟩ | ⟨j, _, z, _, q | q⟩ | ⟨i, _, j, _, _, q | q⟩ | ⟨u, _, v, _, _, q⟩ <;> cases q
    omega
  · intro hc
    have hne : a ≠ b := fun z => by
      rw [(cost_zero ga gb h).mpr z] at hc
      omega
    obtain ⟨s, hs, c⟩ := good_step ga gb h hne
    have gA := good_after ga hs
    have k0 := (mem_steps ga).mp hs
    have k := stepK_ok ga k0
    have e : afterL a s = b := (cost_zero gA gb h).mp (by omega)
    obtain ⟨u1, u2, dj⟩ := step_up ga k0
    have mb : ∀ j, j ∈ b.2 ↔ (j ∈ a.2 ∧ j ∉ s.1) ∨ j ∈ s.2 := fun j => by rw [← e, mem_after]
    have e1 : cutL a b = s.1 := sorted_ext (cut_up ga) u1 fun j => by
      rw [mem_cutL, mb]
      constructor
      · rintro ⟨q1, q2⟩
        exact Classical.byContradiction fun q => q2 (.inl ⟨q1, q⟩)
      · intro q
        exact ⟨k.cut j q, fun w => w.elim (fun z => z.2 q) (fun z => dj j z (k.cut j q))⟩
    have e2 : cutL b a = s.2 := sorted_ext (cut_up gb) u2 fun j => by
      rw [mem_cutL, mb]
      constructor
      · rintro ⟨q1, q2⟩
        exact q1.elim (fun z => absurd z.1 q2) id
      · intro q
        exact ⟨.inr q, dj j q⟩
    rw [e1, e2]
    exact ⟨k.few, hs⟩
theorem hist_app : ∀ (h1 : List Stp) (l : Lay) (h2 : List Stp), (HistL l (h1 ++ h2) ↔ HistL l h1 ∧ HistL (endL l h1) h2) ∧ endL l (h1 ++ h2) = endL (endL l h1) h2
  | [], l, h2 => ⟨⟨fun h => ⟨trivial, h⟩, fun h => h.2⟩, rfl⟩
  | s :: h1, l, h2 => by
    have ih := hist_app h1 (afterL l s) h2
    refine ⟨?_, ih.2⟩
    show (s ∈ stepsL l ∧ HistL (afterL l s) (h1 ++ h2)) ↔ (s ∈ stepsL l ∧ HistL (afterL l s) h1) ∧ HistL (endL (afterL l s) h1) h2
    rw [ih.1, and_assoc]
theorem cut_hist : ∀ (C : List Jt) (l : Lay), GoodL l → C.Nodup → (∀ j ∈ C, j ∈ l.2) → HistL l (C.map fun j => ([j], [])) ∧ GoodL (endL l (C.map fun j => ([j], []))) ∧ (endL l (C.map fun j => ([j], []))).1 = l.1 ∧ ∀ j, j ∈ (endL l (C.map fun j => ([j], []))).2 ↔ j ∈ l.2 ∧ j ∉ C
  | [], l, g, _, _ => ⟨trivial, g, rfl, fun j => ⟨fun h => ⟨h, fun z => (nomatch z)⟩, fun h => h.1⟩⟩
  | c :: C, l, g, nd, sub => by
    obtain ⟨n1, n2⟩ := List.nodup_cons.mp nd
    have k0 : StepK l ([c], []) := .inl ⟨c, sub c List.mem_cons_self, rfl⟩
    have hs := (mem_steps g).mpr k0
    have ih := cut_hist C (afterL l ([c], [])) (good_after g hs) n2 (fun j hj => mem_after.mpr (.inl ⟨sub j (List.mem_cons_of_mem _ hj), fun z => by
      have z : j ∈ [c] := z
      rw [List.mem_singleton] at z
      subst z
      exact n1 hj⟩))
    refine ⟨⟨hs, ih.1⟩, ih.2.1, ih.2.2.1, fun j => (ih.2.2.2 j).trans ?_⟩
    rw [mem_after]
    show ((j ∈ l.2 ∧ j ∉ [c]) ∨ j ∈ ([] : List Jt)) ∧ j ∉ C ↔ j ∈ l.2 ∧ j ∉ c :: C
    simp [and_assoc]
theorem make_hist : ∀ (M : List Jt) (l : Lay), GoodL l → (ends M).Nodup → (∀ j ∈ M, j.1 < j.2 ∧ j.2 < 2 * l.1) → (∀ e ∈ ends M, e ∉ ends l.2) → HistL l (M.map fun j => ([], [j])) ∧ GoodL (endL l (M.map fun j => ([], [j]))) ∧ (endL l (M.map fun j => ([], [j]))).1 = l.1 ∧ ∀ j, j ∈ (endL l (M.map fun j => ([], [j]))).2 ↔ j ∈ l.2 ∨ j ∈ M
  | [], l, g, _, _, _ => ⟨trivial, g, rfl, fun j => ⟨.inl, fun h => h.elim id fun z => (nomatch z)⟩⟩
  | m :: M, l, g, nd, lt, fr => by
    have nd' : (m.1 :: m.2 :: ends M).Nodup := nd
    obtain ⟨n1, n2⟩ := List.nodup_cons.mp nd'
    obtain ⟨n3, n4⟩ := List.nodup_cons.mp n2
    have hlt := lt m List.mem_cons_self
    have free : ∀ e, e < 2 * l.1 → e ∈ ends (m :: M) → e ∈ freeL l := fun e h1 h2 => (mem_free g).mpr ⟨h1, partner_none (fr e h2)⟩
    have k0 : StepK l ([], [m]) := .inr (.inr (.inr ⟨m.1, free m.1 (by omega) List.mem_cons_self, m.2, free m.2 hlt.2 (List.mem_cons_of_mem _ List.mem_cons_self), hlt.1, rfl⟩))
    have hs := (mem_steps g).mpr k0
    have ih := make_hist M (afterL l ([], [m])) (good_after g hs) n4 (fun j hj => lt j (List.mem_cons_of_mem _ hj)) (fun e he hm => by
      obtain ⟨j, hj, q⟩ := ends_mem.mp hm
      rcases mem_after.mp hj with w | w
      · exact fr e (List.mem_cons_of_mem _ (List.mem_cons_of_mem _ he)) (ends_mem.mpr ⟨j, w.1, q⟩)
      · have w : j ∈ [m] := w
        rw [List.mem_singleton] at w
        subst w
        rcases q with rfl | rfl
        · exact n1 (List.mem_cons_of_mem _ he)
        · exact n3 he)
    refine ⟨⟨hs, ih.1⟩, ih.2.1, ih.2.2.1, fun j => (ih.2.2.2 j).trans ?_⟩
    rw [mem_after]
    show ((j ∈ l.2 ∧ j ∉ ([] : List Jt)) ∨ j ∈ [m]) ∨ j ∈ M ↔ j ∈ l.2 ∨ j ∈ m :: M
    simp [or_assoc]
theorem ends_sub {L M : List Jt} (h : L.Sublist M) : (ends L).Sublist (ends M) := by
  induction h with
  | slnil => exact List.Sublist.refl _
  | cons j _ ih => exact (ih.cons _).cons _
  | cons_cons j _ ih => exact (ih.cons_cons _).cons_cons _
theorem joint_uniq {m : Nat} {J : List Jt} (g : GoodJ m J) {j k : Jt} {e : Nat} (hj : j ∈ J) (hk : k ∈ J) (ej : e = j.1 ∨ e = j.2) (ek : e = k.1 ∨ e = k.2) : j = k := by
  have l1 := (g.lt j hj).1
  have l2 := (g.lt k hk).1
  have pj : partner J e = some (if e = j.1 then j.2 else j.1) := by
    by_cases q : e = j.1
    · rw [if_pos q, q]
      exact partner_of g.nd (.inl hj)
    · rw [if_neg q, ej.resolve_left q]
      exact partner_of g.nd (.inr hj)
  have pk : partner J e = some (if e = k.1 then k.2 else k.1) := by
    by_cases q : e = k.1
    · rw [if_pos q, q]
      exact partner_of g.nd (.inl hk)
    · rw [if_neg q, ek.resolve_left q]
      exact partner_of g.nd (.inr hk)
  have q := Option.some.inj (pj.symm.trans pk)
  by_cases q1 : e = j.1 <;> by_cases q2 : e = k.1
  · rw [if_pos q1, if_pos q2] at q
    exact Prod.ext (q1.symm.trans q2) q
  · rw [if_pos q1, if_neg q2] at q
    have := ek.resolve_left q2
    omega
  · rw [if_neg q1, if_pos q2] at q
    have := ej.resolve_left q1
    omega
  · rw [if_neg q1, if_neg q2] at q
    have e1 := ej.resolve_left q1
    have e2 := ek.resolve_left q2
    exact Prod.ext q (e1.symm.trans e2)
theorem plain_hist {a b : Lay} (ga : GoodL a) (gb : GoodL b) (h : a.1 = b.1) : HistL a (plainL a b) ∧ endL a (plainL a b) = b := by
  have c := cut_hist (cutL a b) a ga ((joints_nd ga.j).sublist List.filter_sublist) (fun j hj => (mem_cutL.mp hj).1)
  have m := make_hist (cutL b a) (endL a ((cutL a b).map fun j => ([j], []))) c.2.1 (gb.j.nd.sublist (ends_sub List.filter_sublist)) (fun j hj => by
    rw [c.2.2.1, h]
    exact gb.j.lt j (mem_cutL.mp hj).1) (fun e he hm => by
    obtain ⟨j, hj, ej⟩ := ends_mem.mp he
    obtain ⟨k, hk, ek⟩ := ends_mem.mp hm
    obtain ⟨k1, k2⟩ := (c.2.2.2 k).mp hk
    have kb : k ∈ b.2 := Classical.byContradiction fun n => k2 (mem_cutL.mpr ⟨k1, n⟩)
    obtain ⟨j1, j2⟩ := mem_cutL.mp hj
    exact j2 (joint_uniq gb.j j1 kb ej ek ▸ k1))
  have ap := hist_app ((cutL a b).map fun j => ([j], [])) a ((cutL b a).map fun j => ([], [j]))
  unfold plainL
  refine ⟨ap.1.mpr ⟨c.1, m.1⟩, ap.2.trans ?_⟩
  refine lay_mem_ext m.2.1 gb (m.2.2.1.trans (c.2.2.1.trans h)) fun j => ?_
  rw [m.2.2.2, c.2.2.2, mem_cutL, mem_cutL]
  by_cases h1 : j ∈ a.2 <;> by_cases h2 : j ∈ b.2 <;> simp [h1, h2]
end DC
end

section
/-! The big pieces. -/
namespace DC
open Classical
def bigL (a b : Lay) : List (Fin 4 × Nat) := (piecesL a b).filter fun p => !decide (p ∈ [((0 : Fin 4), 2), (1, 1)])
theorem row_plain {a b : Lay} (ga : GoodL a) (gb : GoodL b) (h : a.1 = b.1) {r : List Nat} (hr : r ∈ rowsL a b) : (pieceL a b r ∈ [((0 : Fin 4), 2), (1, 1)] ∧ costP (pieceL a b r) = 0 ∧ ∀ x ∈ r, partner a.2 x = partner b.2 x) ∨ (pieceL a b r ∉ [((0 : Fin 4), 2), (1, 1)] ∧ (r.length : Int) ≤ 4 * costP (pieceL a b r) ∧ 2 * costP (pieceL a b r) ≤ (r.length : Int) ∧ ∀ x ∈ r, partner a.2 x ≠ partner b.2 x) := by
  have ia := inv_of ga.j
  have ib := inv_of gb.j
  rw [← h] at ib
  obtain ⟨e0, he0, pm, hc⟩ := (rows_sys ga gb h).1.row r hr
  obtain ⟨e, R, hR, he⟩ := (rowsL_ok ga gb h).2 r hr
  have inr : ∀ {x : Nat}, x ∈ r ↔ x < 2 * a.1 ∧ Cl (partner a.2) (partner b.2) e0 x := pm.mem_iff.trans mem_mem
  have er : e ∈ r := by
    rw [hR]
    exact List.mem_cons_self
  -- one plain end makes the piece plain
  have plain : ∀ x ∈ r, partner a.2 x = partner b.2 x → pieceL a b r ∈ [((0 : Fin 4), 2), (1, 1)] := fun x hx hp => by
    have cx := (inr.mp hx).2
    have ce : Cl (partner a.2) (partner b.2) x e := (cx.symm ia ib).trans (inr.mp er).2
    have hm : mem (partner a.2) (partner b.2) (2 * a.1) e0 = mem (partner a.2) (partner b.2) (2 * a.1) x := mem_congr ia ib cx
    have nd : r.Nodup := pm.nodup_iff.mpr (mem_nodup e0)
    cases px : partner a.2 x with
    | none =>
      have only : ∀ z, Cl (partner a.2) (partner b.2) x z → z = x := fun z c => c (fun w => w = x) (fun w v hw hv => by
        have hw : w = x := hw
        subst hw
        rw [← hp, px] at hv
        rcases hv with hv | hv <;> cases hv) rfl
      have sub : r ⊆ [x] := fun z hz => List.mem_singleton.mpr (only z ((cx.symm ia ib).trans (inr.mp hz).2))
      have l1 := nd.length_le_of_subset sub
      rw [hR, List.length_cons, List.length_singleton] at l1
      have hR0 : R = [] := List.length_eq_zero_iff.mp (by omega)
      have ex : e = x := only e ce
      have k : kindL (matesL a) (matesL b) [e] = 1 := by
        show (if (!isFree (matesL a) e && !isFree (matesL b) e) = true then (0 : Fin 4) else if [e].length % 2 = 1 then 1 else if isFree (matesL a) e = true then 2 else 3) = 1
        rw [isFree_iff ga, ex, px]
        rfl
      rw [hR, hR0]
      unfold pieceL
      rw [k]
      exact List.mem_cons_of_mem _ List.mem_cons_self
    | some y =>
      have py := ia.sym px
      have qx : partner b.2 x = some y := by rw [← hp, px]
      have qy := ib.sym qx
      have only : ∀ z, Cl (partner a.2) (partner b.2) x z → z = x ∨ z = y := fun z c => c (fun w => w = x ∨ w = y) (fun w v hw hv => by
        rcases hw with hw | hw
        · rw [hw, qx, px] at hv
          exact .inr (hv.elim (fun q => (Option.some.inj q).symm) (fun q => (Option.some.inj q).symm))
        · rw [hw, qy, py] at hv
          exact .inl (hv.elim (fun q => (Option.some.inj q).symm) (fun q => (Option.some.inj q).symm))) (.inl rfl)
      have sub : r ⊆ [x, y] := fun z hz => mem_two.mpr (only z ((cx.symm ia ib).trans (inr.mp hz).2))
      have l1 := nd.length_le_of_subset sub
      have l2 := two_mem (N := 2 * a.1) ia ib (ia.lt px) (.inl px)
      rw [← hm, ← pm.length_eq] at l2
      have l3 : r.length = 2 := by
        simp only [List.length_cons, List.length_nil] at l1
        omega
      have k : kindL (matesL a) (matesL b) r = 0 := by
        rw [hR]
        refine (kind_ring ga gb e R).mpr fun s => ?_
        rcases only e ce with w | w
        · rw [w] at s
          rcases s with s | s
          · rw [px] at s
            cases s
          · rw [qx] at s
            cases s
        · rw [w] at s
          rcases s with s | s
          · rw [py] at s
            cases s
          · rw [qy] at s
            cases s
      unfold pieceL
      rw [k, l3]
      exact List.mem_cons_self
  have zero : cst (partner a.2) (partner b.2) (2 * a.1) e0 = 0 → ∀ x ∈ r, partner a.2 x = partner b.2 x := fun hz x hx => by
    obtain ⟨x1, x2⟩ := inr.mp hx
    rw [cst_congr ia ib x2] at hz
    exact cst_same ia ib x1 hz
  by_cases hp : pieceL a b r ∈ [((0 : Fin 4), 2), (1, 1)]
  · have c0 : costP (pieceL a b r) = 0 := by
      rcases List.mem_cons.mp hp with q | q
      · rw [q]; rfl
      · rw [List.mem_singleton] at q
        rw [q]; rfl
    exact .inl ⟨hp, c0, zero (by rw [← hc, c0])⟩
  · have hn : ∀ x ∈ r, partner a.2 x ≠ partner b.2 x := fun x hx q => hp (plain x hx q)
    have c1 : cst (partner a.2) (partner b.2) (2 * a.1) e0 ≠ 0 := fun z => hn e er (zero z e er)
    have c2 := cst_nonneg (N := 2 * a.1) ia ib he0
    refine .inr ⟨hp, ?_⟩
    rw [hc, pm.length_eq]
    suffices hh : ((mem (partner a.2) (partner b.2) (2 * a.1) e0).length : Int) ≤ 4 * cst (partner a.2) (partner b.2) (2 * a.1) e0 ∧ 2 * cst (partner a.2) (partner b.2) (2 * a.1) e0 ≤ ((mem (partner a.2) (partner b.2) (2 * a.1) e0).length : Int) from ⟨hh.1, hh.2, hn⟩
    unfold cst at c1 c2 ⊢
    by_cases ri : Ring (partner a.2) (partner b.2) e0
    · rw [if_pos ri] at c1 c2 ⊢
      have ev := even_of (mem (partner a.2) (partner b.2) (2 * a.1) e0).length (mem (partner a.2) (partner b.2) (2 * a.1) e0) (partner a.2) rfl (mem_nodup e0) ia.sym ia.ne (fun z hz => by
        have hcz := (mem_mem.mp hz).2
        cases hz2 : partner a.2 z with
        | none => exact absurd hz2 (ri z hcz).1
        | some w => exact ⟨w, mem_mem.mpr ⟨ia.lt2 hz2, hcz.trans (Cl.one (.inl hz2))⟩, rfl⟩)
      omega
    · rw [if_neg ri] at c1 c2 ⊢
      omega
theorem len_split {α : Type} (p : α → Bool) : ∀ l : List α, (l.filter p).length + (l.filter fun x => !p x).length = l.length
  | [] => rfl
  | x :: l => by
    have ih := len_split p l
    rw [List.filter_cons, List.filter_cons]
    cases p x
    · simp
      omega
    · simp
      omega
theorem len_same {L M : List Nat} (hL : L.Nodup) (hM : M.Nodup) (h : ∀ x, x ∈ L ↔ x ∈ M) : L.length = M.length := Nat.le_antisymm (hL.length_le_of_subset fun x hx => (h x).mp hx) (hM.length_le_of_subset fun x hx => (h x).mpr hx)
/-- what is in common, counted by ends -/
theorem common_len {a b : Lay} (ga : GoodL a) (gb : GoodL b) (h : a.1 = b.1) : commonL a b = ((List.range (2 * a.1)).filter fun x => decide (partner a.2 x = partner b.2 x)).length := by
  have ia := inv_of ga.j
  have ib := inv_of gb.j
  rw [← h] at ib
  have s := len_split (fun x => (partner a.2 x).isNone) ((List.range (2 * a.1)).filter fun x => decide (partner a.2 x = partner b.2 x))
  have nd : ((List.range (2 * a.1)).filter fun x => decide (partner a.2 x = partner b.2 x)).Nodup := List.nodup_range.sublist List.filter_sublist
  have s1 : (((List.range (2 * a.1)).filter fun x => decide (partner a.2 x = partner b.2 x)).filter fun x => (partner a.2 x).isNone).length = ((freeL a).filter fun e => decide (e ∈ freeL b)).length := by
    refine len_same (nd.sublist List.filter_sublist) ((free_nd a).sublist List.filter_sublist) fun x => ?_
    rw [List.mem_filter, List.mem_filter, List.mem_filter, List.mem_range, decide_eq_true_eq, decide_eq_true_eq, mem_free ga, mem_free gb, ← h, Option.isNone_iff_eq_none]
    constructor
    · rintro ⟨⟨q1, q2⟩, q3⟩
      exact ⟨⟨q1, q3⟩, q1, q2.symm.trans q3⟩
    · rintro ⟨⟨q1, q3⟩, _, q2⟩
      exact ⟨⟨q1, q3.trans q2.symm⟩, q3⟩
  have s2 : (((List.range (2 * a.1)).filter fun x => decide (partner a.2 x = partner b.2 x)).filter fun x => !(partner a.2 x).isNone).length = (ends (a.2.filter fun j => decide (j ∈ b.2))).length := by
    refine len_same (nd.sublist List.filter_sublist) (ga.j.nd.sublist (ends_sub List.filter_sublist)) fun x => ?_
    rw [List.mem_filter, List.mem_filter, List.mem_range, decide_eq_true_eq, ends_mem]
    constructor
    · rintro ⟨⟨q1, q2⟩, q3⟩
      cases px : partner a.2 x with
      | none =>
        rw [px] at q3
        cases q3
      | some y =>
        refine ⟨jt x y, List.mem_filter.mpr ⟨joint_of ga px, decide_eq_true (joint_of gb (q2.symm.trans px))⟩, ?_⟩
        rcases jt_in x y with q | q
        · exact .inl (by rw [← q])
        · exact .inr (by rw [← q])
    · rintro ⟨j, hj, q⟩
      obtain ⟨j1, j2⟩ := List.mem_filter.mp hj
      have j2 := of_decide_eq_true j2
      rcases q with rfl | rfl
      · have p1 := partner_of ga.j.nd (e := j.1) (x := j.2) (.inl j1)
        have p2 := partner_of gb.j.nd (e := j.1) (x := j.2) (.inl j2)
        refine ⟨⟨ia.lt p1, p1.trans p2.symm⟩, ?_⟩
        rw [p1]
        rfl
      · have p1 := partner_of ga.j.nd (e := j.2) (x := j.1) (.inr j1)
        have p2 := partner_of gb.j.nd (e := j.2) (x := j.1) (.inr j2)
        refine ⟨⟨ia.lt p1, p1.trans p2.symm⟩, ?_⟩
        rw [p1]
        rfl
  rw [s1, s2, ends_len] at s
  unfold commonL
  omega
theorem big_rows {a b : Lay} (ga : GoodL a) (gb : GoodL b) (h : a.1 = b.1) : ∀ Rs : List (List Nat), (∀ r ∈ Rs, r ∈ rowsL a b) →
    ((((Rs.map (pieceL a b)).filter fun p => !decide (p ∈ [((0 : Fin 4), 2), (1, 1)])).map (·.2)).sum = (Rs.flatten.filter fun x => !decide (partner a.2 x = partner b.2 x)).length) ∧
    (((((Rs.map (pieceL a b)).filter fun p => !decide (p ∈ [((0 : Fin 4), 2), (1, 1)])).map (·.2)).sum : Nat) : Int) ≤ 4 * ((Rs.map (pieceL a b)).map costP).sum ∧
    2 * ((Rs.map (pieceL a b)).map costP).sum ≤ (((((Rs.map (pieceL a b)).filter fun p => !decide (p ∈ [((0 : Fin 4), 2), (1, 1)])).map (·.2)).sum : Nat) : Int)
  | [], _ => ⟨rfl, by simp, by simp⟩
  | r :: Rs, hr => by
    obtain ⟨ih1, ih2, ih3⟩ := big_rows ga gb h Rs fun x hx => hr x (List.mem_cons_of_mem _ hx)
    rw [List.map_cons, List.map_cons, List.sum_cons, List.flatten_cons, List.filter_append, List.length_append]
    rcases row_plain ga gb h (hr r List.mem_cons_self) with ⟨p1, p2, p3⟩ | ⟨p1, p2, p3, p4⟩
    · have e0 : r.filter (fun x => !decide (partner a.2 x = partner b.2 x)) = [] := List.filter_eq_nil_iff.mpr fun x hx => by simp [p3 x hx]
      rw [List.filter_cons_of_neg (by rw [decide_eq_true p1]; decide), e0, p2]
      refine ⟨by rw [ih1]; simp, by omega, by omega⟩
    · have e0 : r.filter (fun x => !decide (partner a.2 x = partner b.2 x)) = r := List.filter_eq_self.mpr fun x hx => by simp [p4 x hx]
      rw [List.filter_cons_of_pos (by rw [decide_eq_false p1]; rfl), e0, List.map_cons, List.sum_cons]
      have e1 : (pieceL a b r).2 = r.length := rfl
      rw [e1]
      refine ⟨by rw [ih1], by omega, by omega⟩
theorem big_sum {a b : Lay} (ga : GoodL a) (gb : GoodL b) (h : a.1 = b.1) : ((bigL a b).map (·.2)).sum + commonL a b = 2 * a.1 := by
  have r1 := (big_rows ga gb h (rowsL a b) fun r hr => hr).1
  have pm := (rows_sys ga gb h).2
  rw [(pm.filter _).length_eq] at r1
  have s := len_split (fun x => decide (partner a.2 x = partner b.2 x)) (List.range (2 * a.1))
  rw [← common_len ga gb h, List.length_range] at s
  have : ((bigL a b).map (·.2)).sum = _ := r1
  omega
theorem big_le {a b : Lay} (ga : GoodL a) (gb : GoodL b) (h : a.1 = b.1) : ((2 * a.1 : Nat) : Int) - commonL a b ≤ 4 * costL a b ∧ 2 * costL a b ≤ ((2 * a.1 : Nat) : Int) - commonL a b := by
  obtain ⟨_, r2, r3⟩ := big_rows ga gb h (rowsL a b) fun r hr => hr
  have s := big_sum ga gb h
  have r2 : ((((bigL a b).map (·.2)).sum : Nat) : Int) ≤ 4 * costL a b := r2
  have r3 : 2 * costL a b ≤ ((((bigL a b).map (·.2)).sum : Nat) : Int) := r3
  omega
end DC
end

section
/-! Lays carried into others. -/
namespace DC
open Classical
structure Emb (N N' : Nat) (m : Nat → Nat) : Prop where
  lt : ∀ e, e < N → m e < N'
  inj : ∀ e x, e < N → x < N → m e = m x → e = x
def Carry (N : Nat) (m : Nat → Nat) (f f' : Nat → Option Nat) : Prop := ∀ e, e < N → f' (m e) = (f e).map m
section
variable {N N' : Nat} {m : Nat → Nat} {f g f' g' : Nat → Option Nat}
theorem emb_cl (hf : Inv2 N f) (hg : Inv2 N g) (cf : Carry N m f f') (cg : Carry N m g g') {e z : Nat} (he : e < N) : Cl f' g' (m e) z ↔ ∃ x, Cl f g e x ∧ z = m x := by
  constructor
  · intro h
    refine h (fun z => ∃ x, Cl f g e x ∧ z = m x) (fun z w hz hw => ?_) ⟨e, Cl.refl e, rfl⟩
    obtain ⟨x, hx, rfl⟩ := hz
    have xN := hx.lt hf hg he
    rcases hw with hw | hw
    · rw [cf x xN] at hw
      obtain ⟨y, hy, rfl⟩ := Option.map_eq_some_iff.mp hw
      exact ⟨y, hx.trans (Cl.one (.inl hy)), rfl⟩
    · rw [cg x xN] at hw
      obtain ⟨y, hy, rfl⟩ := Option.map_eq_some_iff.mp hw
      exact ⟨y, hx.trans (Cl.one (.inr hy)), rfl⟩
  · rintro ⟨x, hx, rfl⟩
    refine hx (fun w => Cl f' g' (m e) (m w)) (fun w v hw hv => hw.trans ?_) (Cl.refl _)
    rcases hv with hv | hv
    · refine Cl.one (.inl ?_)
      rw [cf w (hf.lt hv), hv]
      rfl
    · refine Cl.one (.inr ?_)
      rw [cg w (hg.lt hv), hv]
      rfl
theorem nodup_map_on {l : List Nat} (h : ∀ x ∈ l, ∀ y ∈ l, m x = m y → x = y) (nd : l.Nodup) : (l.map m).Nodup := by
  unfold List.Nodup
  rw [List.pairwise_map]
  exact List.Pairwise.imp_of_mem (fun ha hb hne q => hne (h _ ha _ hb q)) nd
theorem emb_len (em : Emb N N' m) (hf : Inv2 N f) (hg : Inv2 N g) (cf : Carry N m f f') (cg : Carry N m g g') {e : Nat} (he : e < N) : (mem f' g' N' (m e)).length = (mem f g N e).length := by
  rw [← List.length_map (as := mem f g N e) m]
  refine len_same (mem_nodup _) (nodup_map_on (fun x hx y hy => em.inj x y (mem_mem.mp hx).1 (mem_mem.mp hy).1) (mem_nodup e)) fun z => ?_
  rw [mem_mem, emb_cl hf hg cf cg he, List.mem_map]
  constructor
  · rintro ⟨_, x, hx, rfl⟩
    exact ⟨x, mem_mem.mpr ⟨hx.lt hf hg he, hx⟩, rfl⟩
  · rintro ⟨x, hx, rfl⟩
    obtain ⟨x1, x2⟩ := mem_mem.mp hx
    exact ⟨em.lt x x1, x, x2, rfl⟩
theorem emb_ring (hf : Inv2 N f) (hg : Inv2 N g) (cf : Carry N m f f') (cg : Carry N m g g') {e : Nat} (he : e < N) : Ring f' g' (m e) ↔ Ring f g e := by
  constructor
  · intro r x hx
    have xN := hx.lt hf hg he
    have := r (m x) ((emb_cl hf hg cf cg he).mpr ⟨x, hx, rfl⟩)
    rw [cf x xN, cg x xN] at this
    exact ⟨fun z => this.1 (by rw [z]; rfl), fun z => this.2 (by rw [z]; rfl)⟩
  · intro r z hz
    obtain ⟨x, hx, rfl⟩ := (emb_cl hf hg cf cg he).mp hz
    have xN := hx.lt hf hg he
    have := r x hx
    rw [cf x xN, cg x xN]
    exact ⟨fun z => this.1 (Option.map_eq_none_iff.mp z), fun z => this.2 (Option.map_eq_none_iff.mp z)⟩
theorem emb_cst (em : Emb N N' m) (hf : Inv2 N f) (hg : Inv2 N g) (cf : Carry N m f f') (cg : Carry N m g g') {e : Nat} (he : e < N) : cst f' g' N' (m e) = cst f g N e := by
  unfold cst
  rw [emb_len em hf hg cf cg he]
  by_cases r : Ring f g e
  · rw [if_pos r, if_pos ((emb_ring hf hg cf cg he).mpr r)]
  · rw [if_neg r, if_neg (fun z => r ((emb_ring hf hg cf cg he).mp z))]
theorem emb_share (em : Emb N N' m) (hf : Inv2 N f) (hg : Inv2 N g) (cf : Carry N m f f') (cg : Carry N m g g') {e : Nat} (he : e < N) : share f' g' N' (m e) * (fact N : Int) = share f g N e * (fact N' : Int) := by
  have l := emb_len em hf hg cf cg he
  have p : 0 < (mem f g N e).length := List.length_pos_of_mem (mem_mem.mpr ⟨he, Cl.refl e⟩)
  have d1 := Nat.div_mul_cancel (dvd_fact p (mem_len (f := f) (g := g) (N := N) e))
  have d2 := Nat.div_mul_cancel (dvd_fact p (by rw [← l]; exact mem_len (m e)) : (mem f g N e).length ∣ fact N')
  unfold share
  rw [emb_cst em hf hg cf cg he, l, Int.mul_assoc, Int.mul_assoc]
  congr 1
  rw [← Int.natCast_mul, ← Int.natCast_mul]
  congr 1
  generalize hk1 : fact N / (mem f g N e).length = k1 at *
  generalize hk2 : fact N' / (mem f g N e).length = k2 at *
  rw [← d1, ← d2, Nat.mul_left_comm]
theorem sum_mul (c : Int) : ∀ l : List Int, (l.map fun x => x * c).sum = l.sum * c
  | [] => by simp
  | x :: l => by
    rw [List.map_cons, List.sum_cons, List.sum_cons, sum_mul c l, Int.add_mul]
/-- the shares of what was carried -/
theorem emb_sum (em : Emb N N' m) (hf : Inv2 N f) (hg : Inv2 N g) (cf : Carry N m f f') (cg : Carry N m g g') {c : Int} (hc : c * (fact N : Int) = costW f g N) : (((List.range N).map m).map (share f' g' N')).sum = c * (fact N' : Int) := by
  have e1 : (((List.range N).map m).map (share f' g' N')).sum * (fact N : Int) = costW f g N * (fact N' : Int) := by
    unfold costW
    rw [← sum_mul, ← sum_mul, List.map_map, List.map_map, List.map_map]
    congr 1
    refine List.map_congr_left fun e he => ?_
    exact emb_share em hf hg cf cg (List.mem_range.mp he)
  rw [← hc] at e1
  have p := fact_pos N
  refine Int.eq_of_mul_eq_mul_right (a := (fact N : Int)) (by omega) ?_
  rw [e1, Int.mul_right_comm]
end
end DC
end

section
/-! Renamed lays. -/
namespace DC
open Classical
def OrderN (n : Nat) (o : List Int) : Prop := o.length = n ∧ (o.map Int.natAbs).Perm ((List.range n).map (· + 1))
theorem ends_map (m : Nat → Nat) : ∀ L : List Jt, (ends (L.map fun j => jt (m j.1) (m j.2))).Perm ((ends L).map m)
  | [] => List.Perm.refl _
  | j :: L => by
    have h : ends ((j :: L).map fun j => jt (m j.1) (m j.2)) = ends [jt (m j.1) (m j.2)] ++ ends (L.map fun j => jt (m j.1) (m j.2)) := ends_app [jt (m j.1) (m j.2)] _
    rw [h]
    exact (ends_jt (m j.1) (m j.2)).append (ends_map m L)
theorem ends_partner {L : List Jt} (nd : (ends L).Nodup) {e : Nat} (h : e ∈ ends L) : ∃ x, partner L e = some x := by
  obtain ⟨j, hj, q⟩ := ends_mem.mp h
  rcases q with rfl | rfl
  · exact ⟨_, partner_of nd (.inl hj)⟩
  · exact ⟨_, partner_of nd (.inr hj)⟩
theorem map_ends {m : Nat → Nat} {L : List Jt} {S : Nat → Prop} (nd : (ends L).Nodup) (hS : ∀ e ∈ ends L, S e) (inj : ∀ e x, S e → S x → m e = m x → e = x) : (ends (L.map fun j => jt (m j.1) (m j.2))).Nodup :=
  (ends_map m L).nodup_iff.mpr (nodup_map_on (fun x hx y hy => inj x y (hS x hx) (hS y hy)) nd)
theorem map_partner {m : Nat → Nat} {L : List Jt} {S : Nat → Prop} (nd : (ends L).Nodup) (hS : ∀ e ∈ ends L, S e) (inj : ∀ e x, S e → S x → m e = m x → e = x) {e : Nat} (he : S e) : partner (L.map fun j => jt (m j.1) (m j.2)) (m e) = (partner L e).map m := by
  have nd2 := map_ends nd hS inj
  cases h : partner L e with
  | some x =>
    refine partner_of nd2 ?_
    have put : ∀ {u v : Nat}, (u, v) ∈ L → jt (m u) (m v) ∈ L.map fun j => jt (m j.1) (m j.2) := fun h => List.mem_map.mpr ⟨_, h, rfl⟩
    have as : ∀ {i j : Jt}, i = j → j ∈ (L.map fun j => jt (m j.1) (m j.2)) → i ∈ L.map fun j => jt (m j.1) (m j.2) := fun h w => h ▸ w
    rcases partner_mem h with q | q
    · exact (jt_in (m e) (m x)).imp (fun w => as w (put q)) (fun w => as w (put q))
    · exact (jt_in (m x) (m e)).symm.imp (fun w => as w (put q)) (fun w => as w (put q))
  | none =>
    refine partner_none fun hm => ?_
    have := (ends_map m L).mem_iff.mp hm
    obtain ⟨x, hx, q⟩ := List.mem_map.mp this
    have := inj x e (hS x hx) he q
    subst this
    obtain ⟨y, hy⟩ := ends_partner nd hx
    rw [hy] at h
    cases h
theorem nameE_form {n : Nat} {o : List Int} (ho : OrderN n o) {e : Nat} (he : e < 2 * n) : ∃ z : Int, o[e / 2]? = some z ∧ 1 ≤ z.natAbs ∧ z.natAbs ≤ n ∧ nameE o e / 2 = z.natAbs - 1 ∧ nameE o e % 2 = if z < 0 then 1 - e % 2 else e % 2 := by
  obtain ⟨hl, hp⟩ := ho
  have hlt : e / 2 < o.length := by omega
  have hz : o[e / 2]? = some o[e / 2] := List.getElem?_eq_getElem hlt
  have hm : (o[e / 2]).natAbs ∈ (List.range n).map (· + 1) := hp.mem_iff.mp (List.mem_map.mpr ⟨_, List.getElem_mem hlt, rfl⟩)
  obtain ⟨i, hi, hq⟩ := List.mem_map.mp hm
  have hi := List.mem_range.mp hi
  refine ⟨o[e / 2], hz, by omega, by omega, ?_⟩
  unfold nameE
  rw [hz]
  generalize o[e / 2] = z at *
  show (let near := 2 * (z.natAbs - 1) + (if z < 0 then 1 else 0); if e % 2 = 0 then near else (if near % 2 = 0 then near + 1 else near - 1)) / 2 = _ ∧ (let near := 2 * (z.natAbs - 1) + (if z < 0 then 1 else 0); if e % 2 = 0 then near else (if near % 2 = 0 then near + 1 else near - 1)) % 2 = _
  simp only []
  by_cases hneg : z < 0
  · rw [if_pos hneg, if_pos hneg]
    by_cases h2 : e % 2 = 0
    · rw [if_pos h2]
      omega
    · rw [if_neg h2, if_neg (by omega)]
      omega
  · rw [if_neg hneg, if_neg hneg]
    by_cases h2 : e % 2 = 0
    · rw [if_pos h2]
      omega
    · rw [if_neg h2, if_pos (by omega)]
      omega
theorem nameE_emb {n : Nat} {o : List Int} (ho : OrderN n o) : Emb (2 * n) (2 * n) (nameE o) := by
  refine ⟨fun e he => ?_, fun e x he hx hq => ?_⟩
  · obtain ⟨z, _, h1, h2, h3, _⟩ := nameE_form ho he
    omega
  · obtain ⟨z, z1, h1, h2, h3, h4⟩ := nameE_form ho he
    obtain ⟨w, w1, k1, k2, k3, k4⟩ := nameE_form ho hx
    rw [← hq] at k3 k4
    have nd : (o.map Int.natAbs).Nodup := ho.2.nodup_iff.mpr (nodup_map_on (fun x _ y _ q => by omega) List.nodup_range)
    have ii : e / 2 = x / 2 := by
      have hlt : e / 2 < (o.map Int.natAbs).length := by
        rw [List.length_map, ho.1]
        omega
      refine (List.getElem?_inj (l := o.map Int.natAbs) (i := e / 2) (j := x / 2) hlt nd).mp ?_
      rw [List.getElem?_map, List.getElem?_map, z1, w1]
      show some z.natAbs = some w.natAbs
      congr 1
      omega
    rw [ii, w1] at z1
    have : w = z := Option.some.inj z1
    subst this
    by_cases hneg : w < 0
    · rw [if_pos hneg] at h4 k4
      omega
    · rw [if_neg hneg] at h4 k4
      omega
theorem emb_perm {N : Nat} {m : Nat → Nat} (em : Emb N N m) : ((List.range N).map m).Perm (List.range N) := by
  have nd : ((List.range N).map m).Nodup := nodup_map_on (fun x hx y hy => em.inj x y (List.mem_range.mp hx) (List.mem_range.mp hy)) List.nodup_range
  have sub : ∀ z ∈ (List.range N).map m, z < N := fun z hz => by
    obtain ⟨x, hx, rfl⟩ := List.mem_map.mp hz
    exact em.lt x (List.mem_range.mp hx)
  rw [List.perm_iff_count]
  intro z
  rw [nd.count, (List.nodup_range).count]
  have : z ∈ (List.range N).map m ↔ z ∈ List.range N := ⟨fun h => List.mem_range.mpr (sub z h), fun h => Classical.byContradiction fun n => by
    have := nodup_len N (z :: (List.range N).map m) (List.nodup_cons.mpr ⟨n, nd⟩) (fun x hx => by
      rcases List.mem_cons.mp hx with rfl | hx
      · exact List.mem_range.mp h
      · exact sub x hx)
    rw [List.length_cons, List.length_map, List.length_range] at this
    omega⟩
  by_cases h : z ∈ List.range N
  · rw [if_pos h, if_pos (this.mpr h)]
  · rw [if_neg h, if_neg (fun q => h (this.mp q))]
section
variable {a b : Lay} {o : List Int}
theorem below_ends {m : Nat} {J : List Jt} (g : GoodJ m J) : ∀ e ∈ ends J, e < m := fun e he => by
  obtain ⟨j, hj, q⟩ := ends_mem.mp he
  have := g.lt j hj
  omega
theorem rename_good (ga : GoodL a) (ho : OrderN a.1 o) : GoodL (renameL a o) := by
  have em := nameE_emb ho
  refine ⟨ga.pos, ga.few, ?_⟩
  refine sortJ_good (fun j hj => ?_) (map_ends (S := fun e => e < 2 * a.1) ga.j.nd (below_ends ga.j) em.inj)
  obtain ⟨i, hi, rfl⟩ := List.mem_map.mp hj
  have hl := ga.j.lt i hi
  have hne : nameE o i.1 ≠ nameE o i.2 := fun q => by
    have := em.inj i.1 i.2 (by omega) hl.2 q
    omega
  have h1 := em.lt i.1 (by omega)
  have h2 := em.lt i.2 hl.2
  obtain ⟨q1, q2⟩ := jt_mem hne
  refine ⟨q1, ?_⟩
  show (jt (nameE o i.1) (nameE o i.2)).2 < 2 * a.1
  rcases q2 with ⟨_, w⟩ | ⟨_, w⟩ <;> rw [w] <;> assumption
theorem rename_carry (ga : GoodL a) (ho : OrderN a.1 o) : Carry (2 * a.1) (nameE o) (partner a.2) (partner (renameL a o).2) := fun e he => by
  have em := nameE_emb ho
  have g := rename_good ga ho
  rw [← map_partner (S := fun e => e < 2 * a.1) ga.j.nd (below_ends ga.j) em.inj he]
  exact partner_perm (sortJ_perm _) g.j.nd _
theorem rename_cost (ga : GoodL a) (gb : GoodL b) (h : a.1 = b.1) (ho : OrderN a.1 o) : costL (renameL a o) (renameL b o) = costL a b := by
  have ho' := ho
  rw [h] at ho'
  have ia := inv_of ga.j
  have ib := inv_of gb.j
  have em := nameE_emb ho
  have ca := rename_carry ga ho
  have cb := rename_carry gb ho'
  have w := costL_W (rename_good ga ho) (rename_good gb ho') h
  have w : costL (renameL a o) (renameL b o) * (fact (2 * a.1) : Int) = costW (partner (renameL a o).2) (partner (renameL b o).2) (2 * a.1) := w
  rw [← h] at ib cb
  have s := emb_sum em ia ib ca cb (costL_W ga gb h)
  rw [sumP ((emb_perm em).map _)] at s
  have p := fact_pos (2 * a.1)
  exact Int.eq_of_mul_eq_mul_right (a := (fact (2 * a.1) : Int)) (by omega) (w.trans s)
theorem rename_common (ga : GoodL a) (gb : GoodL b) (h : a.1 = b.1) (ho : OrderN a.1 o) : commonL (renameL a o) (renameL b o) = commonL a b := by
  have ho' := ho
  rw [h] at ho'
  have ia := inv_of ga.j
  have ib := inv_of gb.j
  have em := nameE_emb ho
  have ca := rename_carry ga ho
  have cb := rename_carry gb ho'
  rw [← h] at ib cb
  rw [common_len ga gb h, common_len (rename_good ga ho) (rename_good gb ho') h]
  show ((List.range (2 * a.1)).filter fun x => decide (partner (renameL a o).2 x = partner (renameL b o).2 x)).length = _
  rw [← ((emb_perm em).filter _).length_eq, List.filter_map, List.length_map]
  congr 1
  refine List.filter_congr fun x hx => ?_
  have hx := List.mem_range.mp hx
  refine decide_eq_decide.mpr ?_
  rw [ca x hx, cb x hx]
  refine ⟨fun q => ?_, fun q => by rw [q]⟩
  cases p1 : partner a.2 x with
  | none =>
    rw [p1] at q
    cases p2 : partner b.2 x with
    | none => rfl
    | some w =>
      rw [p2] at q
      cases q
  | some v =>
    rw [p1] at q
    cases p2 : partner b.2 x with
    | none =>
      rw [p2] at q
      cases q
    | some w =>
      rw [p2] at q
      rw [em.inj v w (ia.lt2 p1) (ib.lt2 p2) (Option.some.inj q)]
end
end DC
end

section
/-! Two lays beside. -/
namespace DC
open Classical
section
variable {a b : Lay}
def upJ (c : Nat) (J : List Jt) : List Jt := J.map fun j => (j.1 + c, j.2 + c)
theorem upJ_jt {m c : Nat} {J : List Jt} (g : GoodJ m J) : upJ c J = J.map fun j => jt (j.1 + c) (j.2 + c) := by
  unfold upJ
  refine List.map_congr_left fun j hj => ?_
  have := (g.lt j hj).1
  exact (if_pos (show j.1 + c < j.2 + c by omega)).symm
theorem upJ_ends {m c : Nat} {J : List Jt} (g : GoodJ m J) : (ends (upJ c J)).Nodup ∧ ∀ e ∈ ends (upJ c J), c ≤ e ∧ e < m + c := by
  rw [upJ_jt g]
  refine ⟨map_ends (m := fun e => e + c) (S := fun _ => True) g.nd (fun _ _ => trivial) (fun e x _ _ q => by omega), fun e he => ?_⟩
  have := (ends_map (fun e => e + c) J).mem_iff.mp he
  obtain ⟨x, hx, rfl⟩ := List.mem_map.mp this
  have := below_ends g x hx
  omega
theorem beside_ends (ga : GoodL a) (gb : GoodL b) : (ends (a.2 ++ upJ (2 * a.1) b.2)).Nodup := by
  obtain ⟨u1, u2⟩ := upJ_ends (c := 2 * a.1) gb.j
  rw [ends_app]
  refine List.nodup_append.mpr ⟨ga.j.nd, u1, fun x hx y hy q => ?_⟩
  have h1 := below_ends ga.j x hx
  have h2 := u2 y hy
  omega
theorem beside_good (ga : GoodL a) (gb : GoodL b) (h : a.1 + b.1 ≤ 12) : GoodL (besideL a b) := by
  have p := ga.pos
  refine ⟨by show 1 ≤ a.1 + b.1; omega, h, ?_⟩
  refine sortJ_good (fun j hj => ?_) (beside_ends ga gb)
  show j.1 < j.2 ∧ j.2 < 2 * (a.1 + b.1)
  rcases List.mem_append.mp hj with hj | hj
  · have := ga.j.lt j hj
    omega
  · obtain ⟨i, hi, rfl⟩ := List.mem_map.mp hj
    have := gb.j.lt i hi
    exact ⟨by show i.1 + _ < i.2 + _; omega, by show i.2 + _ < _; omega⟩
theorem beside_partner (ga : GoodL a) (gb : GoodL b) (e : Nat) : partner (besideL a b).2 e = partner (a.2 ++ upJ (2 * a.1) b.2) e := by
  have sp := sortJ_perm (a.2 ++ upJ (2 * a.1) b.2)
  exact partner_perm sp ((ends_perm sp).nodup_iff.mpr (beside_ends ga gb)) e
theorem beside_one (ga : GoodL a) (gb : GoodL b) : Carry (2 * a.1) id (partner a.2) (partner (besideL a b).2) := fun e he => by
  show partner (besideL a b).2 e = (partner a.2 e).map id
  rw [beside_partner ga gb, Option.map_id]
  obtain ⟨u1, u2⟩ := upJ_ends (c := 2 * a.1) gb.j
  by_cases q : e ∈ ends a.2
  · rw [partner_app2 e q]
    rfl
  · rw [partner_app e q, partner_none q, partner_none (fun w => by
      have := u2 e w
      omega)]
    rfl
theorem beside_two (ga : GoodL a) (gb : GoodL b) : Carry (2 * b.1) (fun e => e + 2 * a.1) (partner b.2) (partner (besideL a b).2) := fun e he => by
  show partner (besideL a b).2 (e + 2 * a.1) = _
  rw [beside_partner ga gb, partner_app _ (fun w => by
    have := below_ends ga.j _ w
    omega), upJ_jt gb.j]
  exact map_partner (m := fun e => e + 2 * a.1) (S := fun _ => True) gb.j.nd (fun _ _ => trivial) (fun e x _ _ q => by omega) trivial
end
theorem beside_cost {a b c d : Lay} (ga : GoodL a) (gb : GoodL b) (gc : GoodL c) (gd : GoodL d) (h : a.1 = b.1) (h2 : c.1 = d.1) (h3 : a.1 + c.1 ≤ 12) : costL (besideL a c) (besideL b d) = costL a b + costL c d := by
  have ia := inv_of ga.j
  have ib := inv_of gb.j
  have ic := inv_of gc.j
  have id_ := inv_of gd.j
  rw [← h] at ib
  rw [← h2] at id_
  have b1 := beside_one ga gc
  have b2 := beside_one gb gd
  have b3 := beside_two ga gc
  have b4 := beside_two gb gd
  rw [← h] at b2 b4
  rw [← h2] at b4
  have g1 := beside_good ga gc h3
  have g2 := beside_good gb gd (by omega)
  have e1 : Emb (2 * a.1) (2 * (a.1 + c.1)) id := ⟨fun e he => by show e < _; omega, fun e x _ _ q => q⟩
  have e2 : Emb (2 * c.1) (2 * (a.1 + c.1)) (fun e => e + 2 * a.1) := ⟨fun e he => by show e + _ < _; omega, fun e x _ _ q => by omega⟩
  have s1 := emb_sum e1 ia ib b1 b2 (costL_W ga gb h)
  have s2 := emb_sum e2 ic id_ b3 b4 (costL_W gc gd h2)
  have w : costL (besideL a c) (besideL b d) * (fact (2 * (a.1 + c.1)) : Int) = costW (partner (besideL a c).2) (partner (besideL b d).2) (2 * (a.1 + c.1)) := costL_W g1 g2 (by show a.1 + c.1 = b.1 + d.1; omega)
  have er : List.range (2 * (a.1 + c.1)) = (List.range (2 * a.1)).map id ++ (List.range (2 * c.1)).map (fun e => e + 2 * a.1) := by
    rw [Nat.mul_add, List.range_add, List.map_id]
    congr 1
    exact List.map_congr_left fun e _ => Nat.add_comm _ _
  unfold costW at w
  rw [er, List.map_append, sum_app, s1, s2, ← Int.add_mul] at w
  have p := fact_pos (2 * (a.1 + c.1))
  exact Int.eq_of_mul_eq_mul_right (a := (fact (2 * (a.1 + c.1)) : Int)) (by omega) w
end DC
end

section
/-! A link taken away. -/
namespace DC
open Classical
section
variable {l : Lay} {k : Nat}
def restJ (l : Lay) (k : Nat) : List Jt := l.2.filter fun j => !(j.1 = 2 * k ∨ j.1 = 2 * k + 1 : Bool) && !(j.2 = 2 * k ∨ j.2 = 2 * k + 1 : Bool)
def Sk (k e : Nat) : Prop := e ≠ 2 * k ∧ e ≠ 2 * k + 1
theorem mem_rest {j : Jt} : j ∈ restJ l k ↔ j ∈ l.2 ∧ Sk k j.1 ∧ Sk k j.2 := by
  unfold restJ Sk
  rw [List.mem_filter]
  simp [not_or]
theorem rest_nd (g : GoodL l) : (ends (restJ l k)).Nodup := g.j.nd.sublist (ends_sub List.filter_sublist)
theorem rest_ends {e : Nat} (g : GoodL l) (he : Sk k e) : e ∈ ends (restJ l k) ↔ ∃ w, partner l.2 e = some w ∧ Sk k w := by
  rw [ends_mem]
  constructor
  · rintro ⟨j, hj, q⟩
    obtain ⟨j1, j2, j3⟩ := mem_rest.mp hj
    rcases q with rfl | rfl
    · exact ⟨j.2, partner_of g.j.nd (.inl j1), j3⟩
    · exact ⟨j.1, partner_of g.j.nd (.inr j1), j2⟩
  · rintro ⟨w, hw, sw⟩
    have hj := joint_of g hw
    rcases jt_in e w with q | q
    · rw [← q] at hj
      exact ⟨_, mem_rest.mpr ⟨hj, he, sw⟩, .inl rfl⟩
    · rw [← q] at hj
      exact ⟨_, mem_rest.mpr ⟨hj, sw, he⟩, .inr rfl⟩
theorem rest_some {e w : Nat} (g : GoodL l) (he : Sk k e) (hw : partner l.2 e = some w) (sw : Sk k w) : partner (restJ l k) e = some w := by
  have hj := joint_of g hw
  refine partner_of (rest_nd g) ?_
  rcases jt_in e w with q | q
  · rw [← q] at hj
    exact .inl (mem_rest.mpr ⟨hj, he, sw⟩)
  · rw [← q] at hj
    exact .inr (mem_rest.mpr ⟨hj, sw, he⟩)
/-- what stays is as before -/
theorem rest_tie {e : Nat} (g : GoodL l) (he : Sk k e) (n1 : partner l.2 e ≠ some (2 * k)) (n2 : partner l.2 e ≠ some (2 * k + 1)) : partner (restJ l k) e = partner l.2 e := by
  cases h : partner l.2 e with
  | none =>
    refine partner_none fun w => ?_
    obtain ⟨x, hx, _⟩ := (rest_ends g he).mp w
    rw [h] at hx
    cases hx
  | some w =>
    rw [h] at n1 n2
    exact rest_some g he h ⟨fun q => n1 (by rw [q]), fun q => n2 (by rw [q])⟩
theorem rest_gone {e w : Nat} (g : GoodL l) (he : Sk k e) (hw : partner l.2 e = some w) (sw : ¬ Sk k w) : e ∉ ends (restJ l k) := fun h => by
  obtain ⟨x, hx, sx⟩ := (rest_ends g he).mp h
  rw [hw] at hx
  exact sw (Option.some.inj hx ▸ sx)
theorem kept_form (g : GoodL l) : keptL l k = match partner l.2 (2 * k), partner l.2 (2 * k + 1) with
    | some x, some y => if x = 2 * k ∨ x = 2 * k + 1 then restJ l k else restJ l k ++ [jt x y]
    | _, _ => restJ l k := by
  unfold keptL
  rw [mates_join g, mates_join g]
  rfl
structure Kept (l : Lay) (k : Nat) (K : List Jt) : Prop where
  nd : (ends K).Nodup
  lt : ∀ j ∈ K, j.1 < j.2 ∧ j.2 < 2 * l.1
  off : ∀ e ∈ ends K, Sk k e
  tie : ∀ e, Sk k e → partner K e = tie (partner l.2) (2 * k) (2 * k + 1) e
theorem tie_off {f : Nat → Option Nat} {e : Nat} (he : Sk k e) : tie f (2 * k) (2 * k + 1) e = if f e = some (2 * k) then f (2 * k + 1) else if f e = some (2 * k + 1) then f (2 * k) else f e := by
  unfold tie
  rw [if_neg he.1, if_neg he.2]
theorem rest_kept (g : GoodL l) (h : partner l.2 (2 * k) = none ∨ partner l.2 (2 * k + 1) = none ∨ partner l.2 (2 * k) = some (2 * k + 1)) : Kept l k (restJ l k) := by
  have i := inv_of g.j
  refine ⟨rest_nd g, fun j hj => g.j.lt j (mem_rest.mp hj).1, fun e he => ?_, fun e he => ?_⟩
  · obtain ⟨j, hj, q⟩ := ends_mem.mp he
    obtain ⟨_, j2, j3⟩ := mem_rest.mp hj
    rcases q with rfl | rfl
    · exact j2
    · exact j3
  · rw [tie_off he]
    by_cases q1 : partner l.2 e = some (2 * k)
    · rw [if_pos q1, partner_none (rest_gone g he q1 fun s => s.1 rfl)]
      have := i.sym q1
      rcases h with h | h | h
      · rw [h] at this
        cases this
      · exact h.symm
      · rw [h] at this
        exact absurd (Option.some.inj this).symm he.2
    · rw [if_neg q1]
      by_cases q2 : partner l.2 e = some (2 * k + 1)
      · rw [if_pos q2, partner_none (rest_gone g he q2 fun s => s.2 rfl)]
        have := i.sym q2
        rcases h with h | h | h
        · exact h.symm
        · rw [h] at this
          cases this
        · rw [i.sym h] at this
          exact absurd (Option.some.inj this).symm he.1
      · rw [if_neg q2]
        exact rest_tie g he q1 q2
theorem two_kept {u v : Nat} (g : GoodL l) (hu : partner l.2 (2 * k) = some u) (hv : partner l.2 (2 * k + 1) = some v) (hn : ¬ (u = 2 * k ∨ u = 2 * k + 1)) : Kept l k (restJ l k ++ [jt u v]) := by
  have i := inv_of g.j
  have pu := i.sym hu
  have pv := i.sym hv
  have su : Sk k u := ⟨fun q => hn (.inl q), fun q => hn (.inr q)⟩
  have sv : Sk k v := ⟨fun q => by
    rw [q, hu] at pv
    exact su.2 (Option.some.inj pv), fun q => i.ne hv q.symm⟩
  have uv : u ≠ v := fun q => by
    rw [q, pv] at pu
    have := Option.some.inj pu
    omega
  have gu := rest_gone g su pu (fun s => s.1 rfl)
  have gv := rest_gone g sv pv (fun s => s.2 rfl)
  have nj : (ends [jt u v]).Nodup := (ends_jt u v).nodup_iff.mpr (List.nodup_cons.mpr ⟨fun q => uv (List.mem_singleton.mp q), List.nodup_cons.mpr ⟨fun q => (nomatch q), .nil⟩⟩)
  refine ⟨?_, fun j hj => ?_, fun e he => ?_, fun e he => ?_⟩
  · rw [ends_app]
    refine List.nodup_append.mpr ⟨rest_nd g, nj, fun x hx y hy q => ?_⟩
    subst q
    rcases jt_ends.mp hy with w | w
    · exact gu (w ▸ hx)
    · exact gv (w ▸ hx)
  · rcases List.mem_append.mp hj with hj | hj
    · exact g.j.lt j (mem_rest.mp hj).1
    · rw [List.mem_singleton] at hj
      subst hj
      obtain ⟨q1, q2⟩ := jt_mem uv
      refine ⟨q1, ?_⟩
      have := i.lt pu
      have := i.lt pv
      omega
  · rw [ends_app] at he
    rcases List.mem_append.mp he with he | he
    · obtain ⟨j, hj, q⟩ := ends_mem.mp he
      obtain ⟨_, j2, j3⟩ := mem_rest.mp hj
      rcases q with rfl | rfl
      · exact j2
      · exact j3
    · rcases jt_ends.mp he with w | w
      · exact w ▸ su
      · exact w ▸ sv
  · rw [tie_off he]
    by_cases e1 : e = u
    · subst e1
      rw [if_pos pu, hv, partner_app e gu]
      exact partner_of nj ((jt_in e v).imp (fun q => List.mem_singleton.mpr q) (fun q => List.mem_singleton.mpr q))
    · by_cases e2 : e = v
      · subst e2
        have n1 : partner l.2 e ≠ some (2 * k) := fun w => by
          rw [pv] at w
          have := Option.some.inj w
          omega
        rw [if_neg n1, if_pos pv, hu, partner_app e gv]
        exact partner_of nj ((jt_in u e).symm.imp (fun q => List.mem_singleton.mpr q) (fun q => List.mem_singleton.mpr q))
      · have n1 : partner l.2 e ≠ some (2 * k) := fun w => by
          have := i.sym w
          rw [hu] at this
          exact e1 (Option.some.inj this).symm
        have n2 : partner l.2 e ≠ some (2 * k + 1) := fun w => by
          have := i.sym w
          rw [hv] at this
          exact e2 (Option.some.inj this).symm
        rw [if_neg n1, if_neg n2, ← rest_tie g he n1 n2]
        by_cases q : e ∈ ends (restJ l k)
        · exact partner_app2 e q
        · rw [partner_app e q, partner_none q]
          exact partner_none fun w => (jt_ends.mp w).elim e1 e2
theorem kept_ok (g : GoodL l) : Kept l k (keptL l k) := by
  rw [kept_form g]
  cases hu : partner l.2 (2 * k) with
  | none => exact rest_kept g (.inl hu)
  | some u =>
    cases hv : partner l.2 (2 * k + 1) with
    | none => exact rest_kept g (.inr (.inl hv))
    | some v =>
      show Kept l k (if u = 2 * k ∨ u = 2 * k + 1 then restJ l k else restJ l k ++ [jt u v])
      by_cases h : u = 2 * k ∨ u = 2 * k + 1
      · rw [if_pos h]
        refine rest_kept g (.inr (.inr ?_))
        rcases h with h | h
        · exact absurd h.symm ((inv_of g.j).ne hu)
        · rw [hu, h]
      · rw [if_neg h]
        exact two_kept g hu hv h
theorem low_inj : ∀ e x, Sk k e → Sk k x → lowE k e = lowE k x → e = x := fun e x he hx q => by
  unfold Sk at he hx
  unfold lowE at q
  split at q <;> split at q <;> omega
theorem low_jt {K : List Jt} (h : Kept l k K) : (K.map fun j => (lowE k j.1, lowE k j.2)) = K.map fun j => jt (lowE k j.1) (lowE k j.2) := by
  refine List.map_congr_left fun j hj => ?_
  have h1 := h.off j.1 (ends_mem.mpr ⟨j, hj, .inl rfl⟩)
  have h2 := h.off j.2 (ends_mem.mpr ⟨j, hj, .inr rfl⟩)
  have h3 := (h.lt j hj).1
  refine (if_pos ?_).symm
  unfold Sk at h1 h2
  unfold lowE
  split <;> split <;> omega
theorem low_ends (g : GoodL l) : (ends ((keptL l k).map fun j => (lowE k j.1, lowE k j.2))).Nodup := by
  have h := kept_ok (k := k) g
  rw [low_jt h]
  exact map_ends (m := lowE k) (S := Sk k) h.nd h.off low_inj
theorem without_good (g : GoodL l) (h1 : 1 < l.1) (hk : k < l.1) : GoodL (withoutL l k) := by
  have h := kept_ok (k := k) g
  have := g.few
  refine ⟨by show 1 ≤ l.1 - 1; omega, by show l.1 - 1 ≤ 12; omega, ?_⟩
  refine sortJ_good (fun j hj => ?_) (low_ends g)
  obtain ⟨i, hi, rfl⟩ := List.mem_map.mp hj
  have h1 := h.off i.1 (ends_mem.mpr ⟨i, hi, .inl rfl⟩)
  have h2 := h.off i.2 (ends_mem.mpr ⟨i, hi, .inr rfl⟩)
  have h3 := h.lt i hi
  show lowE k i.1 < lowE k i.2 ∧ lowE k i.2 < 2 * (l.1 - 1)
  unfold Sk at h1 h2
  unfold lowE
  split <;> split <;> omega
def upE (k e : Nat) : Nat := if e < 2 * k then e else e + 2
theorem up_low {e : Nat} (h : Sk k e) : upE k (lowE k e) = e := by
  unfold Sk at h
  unfold upE lowE
  split <;> split <;> omega
theorem low_up {e : Nat} : lowE k (upE k e) = e := by
  unfold upE lowE
  split <;> split <;> omega
theorem up_off {e : Nat} : Sk k (upE k e) := by
  unfold Sk upE
  split <;> omega
theorem without_carry (g : GoodL l) (h1 : 1 < l.1) (hk : k < l.1) : Carry (2 * (l.1 - 1)) (upE k) (partner (withoutL l k).2) (tie (partner l.2) (2 * k) (2 * k + 1)) := fun e he => by
  have h := kept_ok (k := k) g
  have sp := sortJ_perm ((keptL l k).map fun j => (lowE k j.1, lowE k j.2))
  have e1 : partner (withoutL l k).2 e = partner ((keptL l k).map fun j => (lowE k j.1, lowE k j.2)) e := partner_perm sp ((ends_perm sp).nodup_iff.mpr (low_ends g)) e
  have e2 := map_partner (m := lowE k) (S := Sk k) h.nd h.off low_inj (up_off (k := k) (e := e))
  rw [low_up, ← low_jt h, ← e1] at e2
  rw [← h.tie _ up_off, e2]
  cases q : partner (keptL l k) (upE k e) with
  | none => rfl
  | some w =>
    have : Sk k w := by
      rcases partner_mem q with z | z
      · exact h.off w (ends_mem.mpr ⟨_, z, .inr rfl⟩)
      · exact h.off w (ends_mem.mpr ⟨_, z, .inl rfl⟩)
    show some w = some (upE k (lowE k w))
    rw [up_low this]
theorem up_emb {n : Nat} (hk : k < n) : Emb (2 * (n - 1)) (2 * n) (upE k) := by
  refine ⟨fun e he => ?_, fun e x _ _ q => ?_⟩
  · unfold upE
    split <;> omega
  · rw [← low_up (k := k) (e := e), q, low_up]
theorem up_perm {n : Nat} (hk : k < n) : (List.range (2 * n)).Perm ((List.range (2 * (n - 1))).map (upE k) ++ [2 * k, 2 * k + 1]) := by
  have em := up_emb hk
  have nd : ((List.range (2 * (n - 1))).map (upE k) ++ [2 * k, 2 * k + 1]).Nodup := by
    refine List.nodup_append.mpr ⟨nodup_map_on (fun x hx y hy => em.inj x y (List.mem_range.mp hx) (List.mem_range.mp hy)) List.nodup_range, by simp, fun x hx y hy q => ?_⟩
    obtain ⟨e, _, rfl⟩ := List.mem_map.mp hx
    have := up_off (k := k) (e := e)
    unfold Sk at this
    have := mem_two.mp hy
    omega
  rw [List.perm_iff_count]
  intro z
  rw [nd.count, (List.nodup_range).count]
  have : z ∈ List.range (2 * n) ↔ z ∈ (List.range (2 * (n - 1))).map (upE k) ++ [2 * k, 2 * k + 1] := by
    rw [List.mem_append, mem_two, List.mem_map, List.mem_range]
    constructor
    · intro hz
      by_cases s : Sk k z
      · refine .inl ⟨lowE k z, ?_, up_low s⟩
        rw [List.mem_range]
        unfold Sk at s
        unfold lowE
        split <;> omega
      · refine .inr ?_
        unfold Sk at s
        omega
    · rintro (⟨e, he, rfl⟩ | h)
      · exact em.lt e (List.mem_range.mp he)
      · omega
  by_cases h : z ∈ List.range (2 * n)
  · rw [if_pos h, if_pos (this.mp h)]
  · rw [if_neg h, if_neg (fun q => h (this.mpr q))]
end
theorem cst_two {N x y : Nat} {f g : Nat → Option Nat} (hf : Inv2 N f) (hg : Inv2 N g) (h1 : f x = some y) (h2 : g x = some y) : cst f g N x = 0 := by
  have h3 := hf.sym h1
  have h4 := hg.sym h2
  have only : ∀ z, Cl f g x z → z = x ∨ z = y := fun z c => c (fun w => w = x ∨ w = y) (fun w v hw hv => by
    rcases hw with hw | hw
    · rw [hw, h1, h2] at hv
      exact .inr (hv.elim (fun q => (Option.some.inj q).symm) (fun q => (Option.some.inj q).symm))
    · rw [hw, h3, h4] at hv
      exact .inl (hv.elim (fun q => (Option.some.inj q).symm) (fun q => (Option.some.inj q).symm))) (.inl rfl)
  have sub : mem f g N x ⊆ [x, y] := fun z hz => mem_two.mpr (only z (mem_mem.mp hz).2)
  have l1 := (mem_nodup x).length_le_of_subset sub
  have l2 := two_mem hf hg (hf.lt h1) (.inl h1)
  have r : Ring f g x := fun z hz => by
    rcases only z hz with rfl | rfl
    · rw [h1, h2]
      exact ⟨fun q => (nomatch q), fun q => (nomatch q)⟩
    · rw [h3, h4]
      exact ⟨fun q => (nomatch q), fun q => (nomatch q)⟩
  simp only [List.length_cons, List.length_nil] at l1
  unfold cst
  rw [if_pos r]
  omega
theorem tied {a : Lay} {x y : Nat} (ga : GoodL a) (hx : x < 2 * a.1) (hy : y < 2 * a.1) (hne : x ≠ y) : ∃ A, GoodL A ∧ A.1 = a.1 ∧ partner A.2 = tie (partner a.2) x y ∧ ((A = a ∧ partner a.2 x = some y) ∨ ((∀ b, GoodL b → a.1 = b.1 → costL A b ≤ costL a b + 1) ∧ ∀ b, GoodL b → a.1 = b.1 → partner b.2 x = some y → costL A b = costL a b - 1)) := by
  by_cases h : partner a.2 x = some y
  · exact ⟨a, ga, rfl, (tie_same (inv_of ga.j) h).symm, .inl ⟨rfl, h⟩⟩
  · obtain ⟨s, hs, e, c⟩ := make_step ga hx hy hne h
    exact ⟨afterL a s, good_after ga hs, rfl, e, .inr ⟨fun b gb hb => (cost_step ga gb hb hs).1, c⟩⟩
theorem tied_cost {a b : Lay} {x y : Nat} (ga : GoodL a) (gb : GoodL b) (h : a.1 = b.1) (hx : x < 2 * a.1) (hy : y < 2 * a.1) (hne : x ≠ y) : ∃ A B, GoodL A ∧ GoodL B ∧ A.1 = a.1 ∧ B.1 = b.1 ∧ partner A.2 = tie (partner a.2) x y ∧ partner B.2 = tie (partner b.2) x y ∧ costL A B ≤ costL a b := by
  obtain ⟨A, gA, hA, eA, cA⟩ := tied ga hx hy hne
  obtain ⟨B, gB, hB, eB, cB⟩ := tied gb (by omega) (by omega) hne
  refine ⟨A, B, gA, gB, hA, hB, eA, eB, ?_⟩
  have BX : partner B.2 x = some y := by
    rw [eB]
    exact if_pos rfl
  rcases cA with ⟨rfl, pa⟩ | ⟨_, a2⟩
  · rcases cB with ⟨rfl, _⟩ | ⟨_, b2⟩
    · exact Int.le_refl _
    · have := b2 A ga h.symm pa
      rw [cost_symm gA gB (by omega), cost_symm ga gb h] at this
      omega
  · have e1 := a2 B gB (by omega) BX
    rcases cB with ⟨rfl, _⟩ | ⟨b1, _⟩
    · omega
    · have := b1 a ga h.symm
      rw [cost_symm ga gB (by omega), cost_symm ga gb h] at this
      omega
theorem without_cost {a b : Lay} {k : Nat} (ga : GoodL a) (gb : GoodL b) (h : a.1 = b.1) (h1 : 1 < a.1) (hk : k < a.1) : costL (withoutL a k) (withoutL b k) ≤ costL a b := by
  obtain ⟨A, B, gA, gB, hA, hB, eA, eB, c⟩ := tied_cost (x := 2 * k) (y := 2 * k + 1) ga gb h (by omega) (by omega) (by omega)
  refine Int.le_trans (Int.le_of_eq ?_) c
  have w1 := without_good ga h1 hk
  have w2 := without_good gb (by omega) (show k < b.1 by omega)
  have i1 := inv_of w1.j
  have i2 := inv_of w2.j
  have c1 := without_carry ga h1 hk
  have c2 := without_carry gb (by omega) (show k < b.1 by omega)
  rw [← eA] at c1
  rw [← eB] at c2
  have i1 : Inv2 (2 * (a.1 - 1)) (partner (withoutL a k).2) := i1
  have i2 : Inv2 (2 * (b.1 - 1)) (partner (withoutL b k).2) := i2
  rw [← h] at i2 c2
  have hw : (withoutL a k).1 = (withoutL b k).1 := by show a.1 - 1 = b.1 - 1; omega
  have s := emb_sum (up_emb hk) i1 i2 c1 c2 (costL_W w1 w2 hw)
  have W := costL_W gA gB (by omega)
  have iA := inv_of gA.j
  have iB := inv_of gB.j
  rw [hA] at W iA
  rw [hB, ← h] at iB
  have z1 : share (partner A.2) (partner B.2) (2 * a.1) (2 * k) = 0 := by
    unfold share
    rw [cst_two iA iB (y := 2 * k + 1) (by rw [eA]; exact if_pos rfl) (by rw [eB]; exact if_pos rfl), Int.zero_mul]
  have z2 : share (partner A.2) (partner B.2) (2 * a.1) (2 * k + 1) = 0 := by
    unfold share
    rw [cst_two iA iB (y := 2 * k) (iA.sym (by rw [eA]; exact if_pos rfl)) (iB.sym (by rw [eB]; exact if_pos rfl)), Int.zero_mul]
  unfold costW at W
  rw [sumP ((up_perm hk).map _), List.map_append, sum_app, s, List.map_cons, List.map_cons, List.sum_cons, List.sum_cons, z1, z2] at W
  have p := fact_pos (2 * a.1)
  refine Int.eq_of_mul_eq_mul_right (a := (fact (2 * a.1) : Int)) (by omega) ?_
  rw [W]
  simp
end DC
end

section
set_option Elab.async false
set_option linter.all false
set_option maxRecDepth 100000
set_option maxHeartbeats 4000000
namespace DC
open PySem PySem.Spec PyProof.Rows L2
/-! ### sorted(t), t a tuple of data -/
mutual
theorem TD.reads0 {X : Cx} {pins : List (Addr × Obj)} {σ : L2.St} {H : Hp} {s : Shared} (I : Inv X pins σ H s) : ∀ (d : PyData) (v : V) (u : Value), TD H v d → RelV v u → Reads s.heap u d []
  | .none, _, _, h, r => by
    cases h
    cases r
    exact .none
  | .bool b, _, _, h, r => by
    cases h
    cases r
    exact .bool b
  | .int i, _, _, h, r => by
    cases h
    obtain ⟨t, rfl⟩ := r
    exact .int i t
  | .str x, _, _, h, r => by
    cases h
    obtain ⟨t, rfl⟩ := r
    exact .str x t
  | .tuple ds, _, _, h, r => by
    cases h with
    | tup h1 h2 =>
      cases r
      obtain ⟨its, rv, ⟨o, ho, hc, n, hd⟩, _⟩ := I.tuple (SqT.of h1)
      exact .tuple ho hc hd (TDs.reads0 I ds _ its h2 rv)
  | .list _, _, _, h, _ => by cases h
  | .dict _, _, _, h, _ => by cases h
theorem TDs.reads0 {X : Cx} {pins : List (Addr × Obj)} {σ : L2.St} {H : Hp} {s : Shared} (I : Inv X pins σ H s) : ∀ (ds : List PyData) (vs : List V) (us : List Value), TDs H vs ds → Vals vs us → ReadsAll s.heap us ds []
  | [], _, _, h, r => by
    cases h
    cases r
    exact .nil
  | d :: ds, _, _, h, r => by
    cases h with
    | cons h1 h2 =>
      cases r with
      | cons r1 r2 => exact ReadsAll.cons (as := []) (bs := []) (TD.reads0 I d _ _ h1 r1) (TDs.reads0 I ds _ _ h2 r2)
end
def rSortedTE (K : PySem.W.Frag) {α : Type} (e : α → PyData) : List V → Hp → VK → Prop := fun vs H Q => ∃ (a : Addr) (xs : List V) (l : List α), vs = [V.ref a] ∧ SqT K H a xs ∧ TDs H xs (l.map e) ∧ PySem.W.Sortable (l.map e) ∧
  ∀ (ys : List V) (p : Addr), H p = none → TDs H ys ((l.mergeSort (PySem.W.dataLe false e)).map e) → Q (.ref p) (upd H p (.lst ys))
theorem cr_sortedTE {X : Cx} {α : Type} [DecidableEq α] {e : α → PyData} {n : Nat} (E : Enc e n) (hn : n ≤ 8) (hu : X.A.units + 64 < cLine) : CallR X (.builtin "sorted") (rSortedTE X.K e) := by
  intro pins s σ H vs us Q I r h
  obtain ⟨a, xs, l, rfl, hs, ht, hk, q⟩ := h
  obtain ⟨its, rv, ⟨o, ho, hc, no, hd⟩, hz⟩ := I.tuple hs
  rw [Vals.ref1 r]
  have hlen : l.length ≤ sizeLine := by
    have := ht.len
    rw [List.length_map] at this
    omega
  have hl2 : its.length ≤ sizeLine := by rw [← rv.length]; exact hz
  refine Calls.call_function_entry kind_sorted plain_sorted entry_sorted (args_sorted1 _) ?_
  unfold Builtin.«sorted»
  refine wpAny_bind (m := checkCount "sorted" 1 1 _) (wpAny_pure ?_)
  refine wpAny_bind (wpAny_collect_seq a (.inr rfl) ho hc hd (fun h' kp => ?_) (by simpa using hl2))
  refine wpAny_bind (wpAny_newList ?_ hl2)
  have I1 : Inv X pins σ H { s with heap := h' } := I.kept (t' := s.toks) kp
  have hn1 : H h'.objs.size = none := I1.hok.fresh (Nat.le_refl _)
  have hget : (h'.push (seqObj "list" its.toArray 0)).get? h'.objs.size = some (seqObj "list" its.toArray 0) := Heap.get?_push_size _ rfl
  have I2 : Inv X pins σ (upd H h'.objs.size (.lst xs)) { s with heap := h'.push (seqObj "list" its.toArray 0) } :=
    I1.laid (t' := s.toks) (fun _ _ e => Heap.get?_push_of_some _ e) (Nat.le_refl _) ⟨hz, its, 0, rv, hget⟩
  have ht2 : TDs (upd H h'.objs.size (.lst xs)) xs (l.map e) := ht.by (same_upd hn1)
  have ea : PySem.W.EachIs (fun v (b : α) => ∃ x : V, RelV x v ∧ TD (upd H h'.objs.size (.lst xs)) x (e b)) its l := each_of (K := X.K) (X := X) (pins := pins) (σ := σ) (s := s) ht2 rv
  show wpAny _ _ _ _ _ { s with heap := h'.push (seqObj "list" its.toArray 0) }
  refine wpAny_bind (wpAny_holding ?_)
  refine PySem.W.list_sort_data (A := X.A.in1) (s := { s with heap := h'.push (seqObj "list" its.toArray 0) }) (enc := e) (bs := l) (R := fun v (b : α) => ∃ x : V, RelV x v ∧ TD (upd H h'.objs.size (.lst xs)) x (e b)) hget ea (ea.mono fun v b ⟨x, rx, tx⟩ => ⟨[], TD.reads0 I2 _ x v tx rx, by simp⟩) (allAlike_map E l) hk hlen (fun b _ => ?_) fun out hout eo => ?_
  · have := E.dep b
    show X.A.units + 1 + 1 + (e b).depth < cLine
    omega
  · obtain ⟨ys, h1, h2⟩ := of_each eo
    obtain ⟨ep, he'⟩ := PyProof.Rows.sortedHeap_at (vs := its) (out := out.toArray) hget
    have hz2 : ys.length ≤ sizeLine := by
      rw [h1.length, hout]
      exact hlen
    refine wpAny_pure ⟨_, rfl, .ref h'.objs.size, upd H h'.objs.size (.lst ys), ?_, rfl, q _ _ hn1 (h2.to fun b zs hb => ?_)⟩
    · refine I1.laid (t' := s.toks) (fun b u e' => ?_) (Nat.le_refl _) ⟨hz2, out, ep, h1, he'⟩
      have hb : b ≠ h'.objs.size := Nat.ne_of_lt (Heap.lt_size e')
      rw [PyProof.Rows.sortedHeap_old hb (by rw [Heap.size_push]; exact Nat.lt_succ_of_lt (Heap.lt_size e'))]
      exact Heap.get?_push_of_some _ e'
    · by_cases e1 : b = h'.objs.size
      · subst e1
        rw [upd_same] at hb
        cases hb
      · rw [upd_ne e1] at hb
        exact hb
/-! ### rules with the written part named (within a comprehension's block) -/
section
variable {X : Cx} {K : PySem.W.Frag}
theorem ix_tupK (hK : X.K = K) : IxR X (rIxT K) := by
  subst hK
  exact ix_tup
theorem ix_listK (hK : X.K = K) : IxR X (rIxL K) := by
  subst hK
  exact ix_list
def rLenK (K : PySem.W.Frag) : List V → Hp → VK → Prop := fun xs H Q => ∃ p ys, xs = [.ref p] ∧ (SqL K H p ys ∨ SqT K H p ys) ∧ Q (.int ys.length) H
theorem pi_tupK {tg l : Expr} {tl : TE} (hK : X.K = K) (hl : PE X l tl) : PI X tg l (iTup K tl) := by
  subst hK
  exact pi_tup hl
theorem pi_listK {tg l : Expr} {tl : TE} (hK : X.K = K) (hl : PE X l tl) : PI X tg l (iList K tl) := by
  subst hK
  exact pi_list hl
theorem call_lenK (hK : X.K = K) : CallR X (.builtin "len") (rLenK K) := by
  subst hK
  exact call_len_seq
def rTupK (K : PySem.W.Frag) : List V → Hp → VK → Prop := fun xs H Q => ∃ p ys, xs = [.ref p] ∧ ((SqL K H p ys ∧ ∀ l, H l = none → Q (.ref l) (upd H l (.tup ys))) ∨ (SqT K H p ys ∧ Q (.ref p) H))
theorem call_tupleK (hK : X.K = K) : CallR X (.type "tuple") (rTupK K) := by
  subst hK
  exact call_tuple_of
theorem op_in_seqK (hK : X.K = K) : OpR X (compareOp .In) (rIn K false) := by
  subst hK
  exact op_in_seq
theorem op_notIn_seqK (hK : X.K = K) : OpR X (compareOp .NotIn) (rIn K true) := by
  subst hK
  exact op_notIn_seq
theorem op_inEK {α : Type} [DecidableEq α] {e : α → PyData} {n : Nat} (E : Enc e n) (hn : n ≤ 8) (hu : X.A.units + 65 < cLine) (hK : X.K = K) : OpR X (compareOp .In) (rInE K e) := by
  subst hK
  exact op_inE E hn hu
theorem op_notInEK {α : Type} [DecidableEq α] {e : α → PyData} {n : Nat} (E : Enc e n) (hn : n ≤ 8) (hu : X.A.units + 65 < cLine) (hK : X.K = K) : OpR X (compareOp .NotIn) (rNotInE K e) := by
  subst hK
  exact op_notInE E hn hu
theorem cr_sortedTEK {α : Type} [DecidableEq α] {e : α → PyData} {n : Nat} (E : Enc e n) (hn : n ≤ 8) (hu : X.A.units + 64 < cLine) (hK : X.K = K) : CallR X (.builtin "sorted") (rSortedTE K e) := by
  subst hK
  exact cr_sortedTE E hn hu
end
end DC
end

section
set_option Elab.async false
set_option linter.all false
set_option maxRecDepth 100000
set_option maxHeartbeats 4000000
namespace DC
open PySem PySem.Spec PyProof.Rows L2
section
variable {P : Program} {w : World} {K : PySem.W.Frag} {mg : Str → Option Value} {base : Heap}
theorem qbl {Q : VK} {b c : Bool} {H : Hp} (e : b = c) (q : Q (.bl c) H) : Q (.bl b) H := by
  rw [e]
  exact q
theorem valV_none {kvs : List (Key × V)} {k : Key} (h : ∀ p ∈ kvs, p.1 ≠ k) : valV kvs k = none := by
  unfold valV
  rw [List.find?_eq_none.mpr fun p hp => by simpa using h p hp]
  rfl
theorem mem_putK {kvs : List (Key × V)} {k : Key} {v : V} {p : Key × V} (h : p ∈ putK kvs k v) : p.1 = k ∨ ∃ p' ∈ kvs, p'.1 = p.1 := by
  unfold putK at h
  split at h
  · obtain ⟨p', h1, h2⟩ := List.mem_map.mp h
    by_cases e : p'.1 = k
    · rw [if_pos e] at h2
      exact .inl (by rw [← h2]; exact e)
    · rw [if_neg e] at h2
      exact .inr ⟨p', h1, by rw [h2]⟩
  · rcases List.mem_append.mp h with h | h
    · exact .inr ⟨p, h, rfl⟩
    · rw [List.mem_singleton] at h
      exact .inl (by rw [h])
theorem mem_mergeK : ∀ {ls ks : List (Key × V)} {p : Key × V}, p ∈ mergeK ks ls → (∃ q ∈ ks, q.1 = p.1) ∨ ∃ q ∈ ls, q.1 = p.1
  | [], ks, p, h => .inl ⟨p, h, rfl⟩
  | (k, v) :: ls, ks, p, h => by
    rcases mem_mergeK (ls := ls) (ks := putK ks k v) h with ⟨q, h1, h2⟩ | ⟨q, h1, h2⟩
    · rcases mem_putK h1 with e | ⟨q', h3, h4⟩
      · exact .inr ⟨(k, v), List.mem_cons_self, by rw [← h2, e]⟩
      · exact .inl ⟨q', h3, by rw [h4, h2]⟩
    · exact .inr ⟨q, List.mem_cons_of_mem _ h1, h2⟩
def sp_is_whole : Sp := fun vs H Q _ => ∃ v l m : Int, vs = [.int v, .int l, .int m] ∧ Q (.bl (decide (l ≤ v ∧ v ≤ m))) H
theorem ok_is_whole (T : TX K mg) : Ok P w K mg base 1 "is_whole" ["value", "least", "most"] sp_is_whole := by
  refine ok_of (k := 0) T.f_is_whole sc_is_whole (fun _ _ _ _ _ _ us hl => match us, hl with | [_, _, _], _ => rfl) (fun vs H Q E h => ?_) (fun cdv A outer s H vs Q E hr h => ?_)
  · obtain ⟨v, l, m, rfl, _⟩ := h
    rfl
  · obtain ⟨v, l, m, rfl, q⟩ := h
    refine ⟨_, (pss_one (ps_ret (pe_and (pe_callB call_isi (by rfl) T.z_isinstance bt_isinstance (pa_cons (pv 0) (pa_cons (pe_bltn (v := .ty "int") (by rfl) T.z_int bt_int rfl) pa_nil))) (pe_and (pe_not (pe_callB call_isi (by rfl) T.z_isinstance bt_isinstance (pa_cons (pv 0) (pa_cons (pe_bltn (v := .ty "bool") (by rfl) T.z_bool bt_bool rfl) pa_nil)))) (pe_one (pe_chain op_le op_le (pv 1) (pv 0) (pv 2))))))), ?_⟩
    refine ⟨_, rfl, _, _, _, _, true, rfl, .ty "int", .base (.int v), kit_ty (by decide +kernel), true, rfl, ?_⟩
    refine ⟨_, rfl, _, _, _, _, false, rfl, .ty "bool", .base (.int v), kit_ty (by decide +kernel), false, rfl, true, rfl, ?_⟩
    refine ⟨_, rfl, _, rfl, _, _, rfl, rfl, _, rfl, ?_⟩
    refine ite2 (fun e => ?_) (fun e => ?_)
    · refine ⟨_, rfl, _, _, rfl, rfl, ?_⟩
      have e1 : l ≤ v := of_decide_eq_true e
      have : decide (v ≤ m) = decide (l ≤ v ∧ v ≤ m) := by simp [e1]
      show Q (.bl (decide (v ≤ m))) H
      rw [this]
      exact q
    · have e1 : ¬ l ≤ v := fun z => e (decide_eq_true z)
      have : false = decide (l ≤ v ∧ v ≤ m) := by simp [e1]
      show Q (.bl false) H
      rw [this]
      exact q
def sp_joint_of : Sp := fun vs H Q _ => ∃ a b : Nat, vs = [vN a, vN b] ∧ ∀ H' v, Same H H' → TD H' v (eJ (jt a b)) → Q v H'
theorem ok_joint_of (T : TX K mg) : Ok P w K mg base 1 "joint_of" ["one", "other"] sp_joint_of := by
  refine ok_of (k := 0) T.f_joint_of sc_joint_of (fun _ _ _ _ _ _ us hl => match us, hl with | [_, _], _ => rfl) (fun vs H Q E h => ?_) (fun cdv A outer s H vs Q E hr h => ?_)
  · obtain ⟨a, b, rfl, _⟩ := h
    rfl
  · obtain ⟨a, b, rfl, q⟩ := h
    refine ⟨_, (pss_one (ps_ret (pe_ifExp (pt_cmpR op_lt (pv 0) (pv 1) (nomark _)) (pe_tup (pa_cons (pv 0) (pa_cons (pv 1) pa_nil))) (pe_tup (pa_cons (pv 1) (pa_cons (pv 0) pa_nil)))))), ?_⟩
    refine ⟨_, rfl, _, rfl, _, _, rfl, rfl, _, rfl, ?_⟩
    refine ite2 (fun e => ?_) (fun e => ?_)
    · have e1 : a < b := by
        have := of_decide_eq_true e
        omega
      refine ⟨_, rfl, _, rfl, (by show 2 ≤ sizeLine; decide), fun p hp => q _ _ (same_upd hp) ?_⟩
      unfold jt
      rw [if_pos e1]
      exact TD.jM upd_same
    · have e1 : ¬ a < b := fun z => e (decide_eq_true (by omega))
      refine ⟨_, rfl, _, rfl, (by show 2 ≤ sizeLine; decide), fun p hp => q _ _ (same_upd hp) ?_⟩
      unfold jt
      rw [if_neg e1]
      exact TD.jM upd_same
/-- a joint as a value -/
def sp_is_joint : Sp := fun vs H Q _ => ∃ (n : Nat) (v : V) (j : Jt), vs = [vN n, v] ∧ TD H v (eJ j) ∧ j.1 < j.2 ∧ j.2 < 2 * n ∧ n ≤ 12 ∧ ∀ H', Same H H' → Q (.bl true) H'
theorem ok_is_joint (T : TX K mg) : Ok P w K mg base 2 "is_joint" ["links", "value"] sp_is_joint := by
  have G_is_whole := ok_is_whole (P := P) (w := w) (base := base) T
  refine ok_of (k := 1) T.f_is_joint sc_is_joint (fun _ _ _ _ _ _ us hl => match us, hl with | [_, _], _ => rfl) (fun vs H Q E h => ?_) (fun cdv A outer s H vs Q E hr h => ?_)
  · obtain ⟨a, b, j, rfl, _⟩ := h
    rfl
  · obtain ⟨n, v, j, rfl, tj, h1, h2, h3, q⟩ := h
    obtain ⟨a, rfl, ha⟩ := tj.jI
    refine ⟨_, (pss_cons (ps_if (PW.pt (pw_or (pt_not (pt_val (pe_callB call_isi (by rfl) T.z_isinstance bt_isinstance (pa_cons (pv 1) (pa_cons (pe_bltn (v := .ty "tuple") (by rfl) T.z_tuple bt_tuple rfl) pa_nil))))) (pw_or1 (pt_cmpR op_ne (pe_callB call_len_seq (by rfl) T.z_len bt_len (pa_cons (pv 1) pa_nil)) pe_int (nomark _))))) (pss_one (ps_ret pe_bl)) pss_nil)
      (pss_one (ps_ret (pe_and (pe_callB (cr_all rfl) (by rfl) T.z_all bt_all (pa_cons (pe_lc (own := [("end", 2)]) (g := (gName 2)) (by rfl) sc_is_joint.nd (pi_tup (pv 1)) (blkOk_by (own := [("end", 2)]) (N := N_is_joint) (sc := defScope s_is_joint) (by decide +kernel)) (fun _ _ _ _ _ => (pg_name (i := 2) sc_is_joint.nd rfl (Or.inl rfl))) (fun _ _ _ _ _ => pts_nil) (fun _ _ _ _ _ => (pe_callD G_is_whole (hr.mono (by decide)) (pa_cons (pv 2) (pa_cons pe_int (pa_cons (pe_op op_sub (pe_op op_mul pe_int (pv 0)) pe_int) pa_nil)))))) pa_nil)) (pe_one (pe_cmpR op_lt (pe_ix ix_tup (pv 1) pe_int (fun _ _ => rfl)) (pe_ix ix_tup (pv 1) pe_int (fun _ _ => rfl)) (nomark _))))))), ?_⟩
    refine ⟨_, rfl, _, _, _, _, true, rfl, .ty "tuple", .base (.tup ha), kit_ty (by decide +kernel), true, rfl, ?_⟩
    refine ⟨_, rfl, _, _, rfl, .inr (SqT.of ha), rfl, _, rfl, iteNS rfl ?_⟩
    refine ⟨_, rfl, a, rfl, ⟨_, SqT.of ha⟩, fun D hD => ?_⟩
    refine lc_src (walk_tup (K := K) (a := a)) (e0 := eNat) (l := [j.1, j.2]) (fun b => PyData.bool b) (fun _ => some true) hD (small1000 (by simp)) (tds_nats [j.1, j.2]) (fun H s => SqT.of (s _ _ ha)) (fun z x H' N M hz s tx kN kM => ?_) (fun H' ys s hy ht => ?_)
    · have hx : x = vN z := TD.intI tx
      subst hx
      have hz' : z < 2 * n := by
        rcases List.mem_cons.mp hz with rfl | hz
        · omega
        · rw [List.mem_singleton] at hz
          omega
      refine ⟨rfl, ?_⟩
      refine ⟨_, rfl, _, rfl, (2 : Int), _, rfl, rfl, .inl ⟨by decide, by decide⟩, _, _, rfl, rfl, ?_⟩
      refine ⟨_, _, _, rfl, ?_⟩
      have e1 : decide ((0 : Int) ≤ (z : Int) ∧ (z : Int) ≤ 2 * (n : Int) - 1) = true := decide_eq_true (by omega)
      refine kN _ _ _ rfl (Same.refl _) ?_
      rw [e1]
      exact .bl true
    · rw [List.filterMap_cons, List.filterMap_cons] at ht
      have ey : ys = [true, true].map V.bl := tds_bools_inv ht
      subst ey
      refine ⟨D, [true, true], rfl, SqL.of hy, ?_⟩
      refine ⟨true, rfl, ?_⟩
      refine ⟨_, rfl, a, _, _, _, rfl, rfl, SqT.of (s _ _ ha), atI_nat (j := 0) rfl, ?_⟩
      refine ⟨_, rfl, a, _, _, _, rfl, rfl, SqT.of (s _ _ ha), atI_nat (j := 1) rfl, ?_⟩
      refine ⟨_, _, rfl, rfl, ?_⟩
      have e1 : decide ((j.1 : Int) < (j.2 : Int)) = true := decide_eq_true (by omega)
      exact qbl (Q := Q) e1 (q _ s)
/-- the path to what is wrong: none of a lay -/
def sp_wrong_place : Sp := fun vs H Q _ => ∃ (v : V) (l : Lay), vs = [v] ∧ TD H v (eL l) ∧ GoodL l ∧ ∀ H', Same H H' → Q .non H'
theorem ok_wrong_place (T : TX K mg) : Ok P w K mg base 3 "wrong_place" ["value"] sp_wrong_place := by
  have G_is_whole := ok_is_whole (P := P) (w := w) (base := base) T
  have G_is_joint := ok_is_joint (P := P) (w := w) (base := base) T
  refine ok_of (k := 2) T.f_wrong_place sc_wrong_place (fun _ _ _ _ _ _ us hl => match us, hl with | [_], _ => rfl) (fun vs H Q E h => ?_) (fun cdv A outer s H vs Q E hr h => ?_)
  · obtain ⟨v, l, rfl, _⟩ := h
    rfl
  · obtain ⟨v, l, rfl, tl, g, q⟩ := h
    obtain ⟨a, b, xs, rfl, ha, hb, hx⟩ := tl.lI
    have hlx : xs.length = l.2.length := by
      have := hx.len
      rw [List.length_map] at this
      exact this
    have hl12 := g.len
    refine ⟨_, (pss_cons (ps_if (PW.pt (pw_or (pt_not (pt_val (pe_callB call_isi (by rfl) T.z_isinstance bt_isinstance (pa_cons (pv 0) (pa_cons (pe_bltn (v := .ty "tuple") (by rfl) T.z_tuple bt_tuple rfl) pa_nil))))) (pw_or1 (pt_cmpR op_ne (pe_callB call_len_seq (by rfl) T.z_len bt_len (pa_cons (pv 0) pa_nil)) pe_int (nomark _))))) (pss_one ps_never) pss_nil)
      (pss_cons (ps_if (pt_not (pt_val (pe_callD G_is_whole (hr.mono (by decide)) (pa_cons (pe_ix ix_tup (pv 0) pe_int (fun _ _ => rfl)) (pa_cons pe_int (pa_cons (pe_gInt T.c_MOST_LINKS) pa_nil)))))) (pss_one ps_never) pss_nil)
      (pss_cons (ps_if (pt_not (pt_val (pe_callB call_isi (by rfl) T.z_isinstance bt_isinstance (pa_cons (pe_ix ix_tup (pv 0) pe_int (fun _ _ => rfl)) (pa_cons (pe_bltn (v := .ty "tuple") (by rfl) T.z_tuple bt_tuple rfl) pa_nil))))) (pss_one ps_never) pss_nil)
      (pss_cons (ps_par (i := 1) (j := 2) (by rfl) sc_wrong_place.nd rfl rfl (by decide) rfl rfl (pa_cons pe_dnewK (pa_cons (pe_tup pa_nil) pa_nil)) (by rfl))
      (pss_cons (ps_for PassesOwn.never rfl (pi_enumT rfl T.z_enumerate (pa_cons (pe_ix ix_tup (pv 0) pe_int (fun _ _ => rfl)) pa_nil)) (pg_tup (by rfl) (pgs_cons (pg_name (i := 3) sc_wrong_place.nd rfl (Or.inl rfl)) (pgs_cons (pg_name (i := 4) sc_wrong_place.nd rfl (Or.inl rfl)) pgs_nil))) (pss_cons (ps_if (PW.pt (pw_or (pt_not (pt_val (pe_callD G_is_joint (hr.mono (by decide)) (pa_cons (pe_ix ix_tup (pv 0) pe_int (fun _ _ => rfl)) (pa_cons (pv 4) pa_nil))))) (pw_or (pt_not (pt_cmpR (op_ltT hr.units0) (pv 2) (pv 4) (nomark _))) (pw_or (pt_cmp (pc_din (hu_of hr) (pe_ix ix_tup (pv 4) pe_int (fun _ _ => rfl)) (pv 1))) (pw_or1 (pt_cmp (pc_din (hu_of hr) (pe_ix ix_tup (pv 4) pe_int (fun _ _ => rfl)) (pv 1)))))))) (pss_one ps_never) pss_nil)
      (pss_cons (ps_expr (pe_bm PySem.F.plainAttrs_dict PySem.F.slot_dict_update PySem.F.type_dict_update mt_update (pv 1) (pa_cons (pe_disp (pps_cons (pe_ix ix_tup (pv 4) pe_int (fun _ _ => rfl)) pe_bl (pps_cons (pe_ix ix_tup (pv 4) pe_int (fun _ _ => rfl)) pe_bl pps_nil)) (by rfl) (by rfl) (fun z => by cases z) (by decide)) pa_nil)))
      (pss_one (ps_set (i := 2) sc_wrong_place.nd rfl (Or.inl rfl) (pv 4))))))
      (pss_one (ps_ret pe_non))))))), ?_⟩
    refine ⟨_, rfl, _, _, _, _, true, rfl, .ty "tuple", .base (.tup ha), kit_ty (by decide +kernel), true, rfl, ?_⟩
    refine ⟨_, rfl, _, _, rfl, .inr (SqT.of ha), rfl, _, rfl, iteNS rfl ?_⟩
    refine ⟨_, rfl, a, _, _, _, rfl, rfl, SqT.of ha, atI_nat (j := 0) rfl, ?_⟩
    refine ⟨_, _, _, rfl, _, rfl, ?_⟩
    have e1 : decide ((1 : Int) ≤ (l.1 : Int) ∧ (l.1 : Int) ≤ 12) = true := by
      have := g.pos
      have := g.few
      exact decide_eq_true (by omega)
    rw [e1]
    refine ⟨_, rfl, a, _, _, _, rfl, rfl, SqT.of ha, atI_nat (j := 1) rfl, ?_⟩
    refine ⟨_, _, _, _, true, rfl, .ty "tuple", .base (.tup hb), kit_ty (by decide +kernel), true, rfl, ?_⟩
    refine fun du hdu => ⟨Nat.zero_le _, fun pl hpl => ⟨_, _, rfl, ?_⟩⟩
    have s1 : Same H (upd H du (.dK [])) := same_upd hdu
    have s2 : Same H (upd (upd H du (.dK [])) pl (.tup [])) := s1.trans (same_upd hpl)
    have hul : du ≠ pl := fun z => by
      subst z
      rw [upd_same] at hpl
      cases hpl
    have hple : H pl = none := s1.free hpl
    refine ⟨_, rfl, a, _, _, _, rfl, rfl, SqT.of (s2 _ _ ha), atI_nat (j := 1) rfl, b, xs, rfl, s2 _ _ hb, ?_⟩
    refine for_it walk_enumT (fun i σ H' => ∃ (y3 y4 : Option V) (kvs : List (Key × V)) (lp : Addr) (ln : List Int), σ = [some (.ref a), some (.ref du), some (.ref lp), y3, y4] ∧ Same H H' ∧ H' du = some (.dK kvs) ∧ kvs.length ≤ 2 * i ∧
      (∀ p ∈ kvs, ∃ e, e ∈ ends (l.2.take i) ∧ p.1 = Sum.inl (e : Int)) ∧ H' lp = some (.tup (ln.map V.int)) ∧ ((i = 0 ∧ ln = []) ∨ ∃ j, 0 < i ∧ l.2[i - 1]? = some j ∧ ln = [(j.1 : Int), (j.2 : Int)]))
      ⟨none, none, [], pl, [], rfl, s2, by rw [upd_ne hul, upd_same], Nat.zero_le _, fun p hp => (nomatch hp), upd_same, .inl ⟨rfl, rfl⟩⟩ (fun i σ H' _ p => ?_) (fun i x σ H' H'' hi p y => ?_) (fun σ H' p => ?_)
    · obtain ⟨_, _, _, _, _, _, s', _⟩ := p
      exact s' _ _ hb
    · obtain ⟨y3, y4, kvs, lp, ln, rfl, s', hu, hkl, hk, hp', hln⟩ := p
      obtain ⟨Tp, x0, x1, rfl, nT, rfl, ex0, ex1⟩ := y
      cases ex0
      have sT : Same H' (upd H' Tp (.tup [.int (i : Nat), x1])) := same_upd nT
      have s'' := s'.trans sT
      obtain ⟨d, hd1, hd2⟩ := (hx.by s').get ex1
      rw [List.getElem?_map] at hd1
      cases hj : l.2[i]? with
      | none => rw [hj] at hd1; cases hd1
      | some j =>
        rw [hj] at hd1
        have : eJ j = d := Option.some.inj hd1
        subst this
        obtain ⟨c, rfl, hc⟩ := (hd2.by sT).jI
        have hjm : j ∈ l.2 := List.mem_of_getElem? hj
        have hjl := g.j.lt j hjm
        have hun : ∀ e : Nat, (e = j.1 ∨ e = j.2) → ∀ p ∈ kvs, p.1 ≠ Sum.inl (e : Int) := fun e he p hp z => by
          obtain ⟨e', h1, h2⟩ := hk p hp
          rw [h2] at z
          have z1 : (e' : Int) = (e : Int) := Sum.inl.inj z
          have z2 : e' = e := by omega
          subst z2
          have hnd := g.j.nd
          rw [← List.take_append_drop i l.2, ends_app] at hnd
          have hmem : e' ∈ ends (l.2.drop i) := ends_mem.mpr ⟨j, by
            rw [List.mem_iff_getElem?]
            exact ⟨0, by rw [List.getElem?_drop]; simpa using hj⟩, he⟩
          exact (List.nodup_append.mp hnd).2.2 e' h1 e' hmem rfl
        refine ⟨Tp, _, rfl, SqT.of upd_same, rfl, _, _, rfl, _, _, rfl, rfl, ?_⟩
        refine ⟨_, rfl, a, _, _, _, rfl, rfl, SqT.of (s'' _ _ ha), atI_nat (j := 0) rfl, _, rfl, ?_⟩
        refine ⟨l.1, .ref c, j, rfl, hd2.by sT, hjl.1, hjl.2, g.few, fun H3 s3 => ?_⟩
        have t3 := s''.trans s3
        have t3' := sT.trans s3
        refine ⟨true, rfl, ?_⟩
        refine ⟨_, rfl, _, rfl, lp, c, ln, [(j.1 : Int), (j.2 : Int)], rfl, rfl, SqT.of (t3' _ _ hp'), SqT.of (s3 _ _ hc), ?_⟩
        have e2 : HT.lexLt ln [(j.1 : Int), (j.2 : Int)] = true := by
          rcases hln with ⟨_, rfl⟩ | ⟨j0, hi0, hj0, rfl⟩
          · rfl
          · have up := g.j.up
            have : j0.1 < j.1 := by
              obtain ⟨h1, e1⟩ := List.getElem?_eq_some_iff.mp hj0
              obtain ⟨h2, e2⟩ := List.getElem?_eq_some_iff.mp hj
              have := List.pairwise_iff_getElem.mp up (i - 1) i h1 h2 (by omega)
              rw [e1, e2] at this
              exact this
            have hne : ¬ ((j0.1 : Int) = (j.1 : Int)) := by omega
            rw [HT.lexLt_cons, if_neg hne]
            exact decide_eq_true (by omega)
        rw [e2]
        refine ⟨true, rfl, ?_⟩
        have hu3 : H3 du = some (.dK kvs) := t3' _ _ hu
        refine ⟨_, rfl, c, _, _, _, rfl, rfl, SqT.of (s3 _ _ hc), atI_nat (j := 0) rfl, _, rfl, du, _, rfl, DGet.k (k := Sum.inl (j.1 : Int)) hu3, ?_⟩
        rw [valV_none (hun j.1 (.inl rfl))]
        refine ⟨_, rfl, ?_⟩
        refine ⟨_, rfl, c, _, _, _, rfl, rfl, SqT.of (s3 _ _ hc), atI_nat (j := 1) rfl, _, rfl, du, _, rfl, DGet.k (k := Sum.inl (j.2 : Int)) hu3, ?_⟩
        rw [valV_none (hun j.2 (.inr rfl))]
        refine ⟨_, rfl, ?_⟩
        have nuc : ∀ u : Addr, H3 u = none → du ≠ u := fun u hu' z => by
          subst z
          rw [hu3] at hu'
          cases hu'
        refine ⟨_, rfl, .inr (.inr (.inl ⟨rfl, .inl ⟨_, hu3⟩⟩)), fun d2 hd2 => ?_⟩
        have sd : Same H3 (upd H3 d2 (.dK [])) := same_upd hd2
        refine ⟨_, rfl, c, _, _, _, rfl, rfl, SqT.of ((s3.trans sd) _ _ hc), atI_nat (j := 0) rfl, ?_⟩
        refine ⟨_, rfl, c, _, _, _, rfl, rfl, SqT.of ((s3.trans sd) _ _ hc), atI_nat (j := 1) rfl, ?_⟩
        refine ⟨upd_same, [(Sum.inl (j.1 : Int), V.bl true), (Sum.inl (j.2 : Int), V.bl true)], rfl, by simp, ?_⟩
        have hkl2 : kvs.length ≤ 24 := by omega
        have ml := length_mergeK [(Sum.inl (j.1 : Int), V.bl true), (Sum.inl (j.2 : Int), V.bl true)] []
        refine ⟨du, d2, kvs, _, rfl, rfl, nuc d2 hd2, ?_, upd_same, ?_, ?_⟩
        · rw [upd_ne (nuc d2 hd2), upd_ne (nuc d2 hd2)]
          exact hu3
        · refine Nat.le_of_lt (small1000 ?_)
          simp only [List.length_cons, List.length_nil] at ml
          omega
        · refine ⟨_, rfl, ?_⟩
          have sF : Same H (upd (upd (upd H3 d2 (.dK [])) d2 (.dK (mergeK [] [(Sum.inl (j.1 : Int), V.bl true), (Sum.inl (j.2 : Int), V.bl true)]))) du (.dK (mergeK kvs (mergeK [] [(Sum.inl (j.1 : Int), V.bl true), (Sum.inl (j.2 : Int), V.bl true)])))) :=
            samePut (samePut (t3.trans sd) (t3.free hd2)) hdu
          have ndc : c ≠ du := ne_of (s3 _ _ hc) hu3 (by intro z; cases z)
          have ndc2 : c ≠ d2 := ne_of_none (s3 _ _ hc) hd2
          refine ⟨_, _, _, c, [(j.1 : Int), (j.2 : Int)], rfl, sF, upd_same, ?_, fun p hp => ?_, by rw [upd_ne ndc, upd_ne ndc2, upd_ne ndc2]; exact s3 _ _ hc, .inr ⟨j, Nat.succ_pos _, hj, rfl⟩⟩
          · have m2 := length_mergeK (mergeK [] [(Sum.inl (j.1 : Int), V.bl true), (Sum.inl (j.2 : Int), V.bl true)]) kvs
            simp only [List.length_cons, List.length_nil] at ml
            omega
          · have hsub : ∀ e, e ∈ ends (l.2.take i) → e ∈ ends (l.2.take (i + 1)) := fun e he => by
              rw [List.take_add_one, ends_app]
              exact List.mem_append_left _ he
            have hj2 : ∀ e, (e = j.1 ∨ e = j.2) → e ∈ ends (l.2.take (i + 1)) := fun e he => by
              rw [List.take_add_one, hj, ends_app]
              exact List.mem_append_right _ (ends_mem.mpr ⟨j, by simp, he⟩)
            rcases mem_mergeK hp with ⟨q1, h1, h2⟩ | ⟨q1, h1, h2⟩
            · obtain ⟨e, h3, h4⟩ := hk q1 h1
              exact ⟨e, hsub e h3, by rw [← h2, h4]⟩
            · rcases mem_mergeK h1 with ⟨q2, h3, h4⟩ | ⟨q2, h3, h4⟩
              · cases h3
              · rcases List.mem_cons.mp h3 with rfl | h3
                · exact ⟨j.1, hj2 _ (.inl rfl), by rw [← h2, ← h4]⟩
                · rw [List.mem_singleton] at h3
                  subst h3
                  exact ⟨j.2, hj2 _ (.inr rfl), by rw [← h2, ← h4]⟩
    · obtain ⟨_, _, _, _, _, rfl, s', _⟩ := p
      exact q _ s'
end
end DC
end

section
set_option Elab.async false
set_option linter.all false
set_option maxRecDepth 100000
set_option maxHeartbeats 4000000
namespace DC
open PySem PySem.Spec PyProof.Rows L2
section
variable {P : Program} {w : World} {K : PySem.W.Frag} {mg : Str → Option Value} {base : Heap}
/-- a lay is handed back -/
def sp_need_lay : Sp := fun vs H Q _ => ∃ (v : V) (l : Lay), vs = [v] ∧ TD H v (eL l) ∧ GoodL l ∧ ∀ H', Same H H' → Q v H'
theorem ok_need_lay (T : TX K mg) : Ok P w K mg base 4 "need_lay" ["lay"] sp_need_lay := by
  have G_wrong_place := ok_wrong_place (P := P) (w := w) (base := base) T
  refine ok_of (k := 3) T.f_need_lay sc_need_lay (fun _ _ _ _ _ _ us hl => match us, hl with | [_], _ => rfl) (fun vs H Q E h => ?_) (fun cdv A outer s H vs Q E hr h => ?_)
  · obtain ⟨v, l, rfl, _⟩ := h
    rfl
  · obtain ⟨v, l, rfl, tl, g, q⟩ := h
    refine ⟨_, (pss_cons (ps_set (i := 1) sc_need_lay.nd rfl (Or.inl rfl) (pe_callD G_wrong_place (hr.mono (by decide)) (pa_cons (pv 0) pa_nil)))
      (pss_cons (ps_if (pt_cmpR op_notN (pv 1) pe_non (nomark _)) (pss_one ps_never) pss_nil)
      (pss_one (ps_ret (pv 0))))), ?_⟩
    refine ⟨_, rfl, v, l, rfl, tl, g, fun H1 s1 => ?_⟩
    refine ⟨_, rfl, rfl, false, rfl, ?_⟩
    exact ⟨v, rfl, q _ s1⟩
def sp_need_two : Sp := fun vs H Q _ => ∃ (v u : V) (a b : Lay), vs = [v, u] ∧ TD H v (eL a) ∧ TD H u (eL b) ∧ GoodL a ∧ GoodL b ∧ a.1 = b.1 ∧ ∀ H' r, Same H H' → Q r H'
theorem ok_need_two (T : TX K mg) : Ok P w K mg base 5 "need_two" ["one", "other"] sp_need_two := by
  have G_need_lay := ok_need_lay (P := P) (w := w) (base := base) T
  refine ok_of (k := 4) T.f_need_two sc_need_two (fun _ _ _ _ _ _ us hl => match us, hl with | [_, _], _ => rfl) (fun vs H Q E h => ?_) (fun cdv A outer s H vs Q E hr h => ?_)
  · obtain ⟨v, u, a, b, rfl, _⟩ := h
    rfl
  · obtain ⟨v, u, a, b, rfl, ta, tb, ga, gb, e, q⟩ := h
    refine ⟨_, (pss_cons (ps_expr (pe_callD G_need_lay (hr.mono (by decide)) (pa_cons (pv 0) pa_nil)))
      (pss_cons (ps_expr (pe_callD G_need_lay (hr.mono (by decide)) (pa_cons (pv 1) pa_nil)))
      (pss_cons (ps_if (pt_cmpR op_ne (pe_ix ix_tup (pv 0) pe_int (fun _ _ => rfl)) (pe_ix ix_tup (pv 1) pe_int (fun _ _ => rfl)) (nomark _)) (pss_one ps_never) pss_nil)
      (pss_one (ps_ret (pe_tup (pa_cons (pv 0) (pa_cons (pv 1) pa_nil)))))))), ?_⟩
    refine ⟨_, rfl, v, a, rfl, ta, ga, fun H1 s1 => ?_⟩
    refine ⟨_, rfl, u, b, rfl, tb.by s1, gb, fun H2 s2 => ?_⟩
    have s12 := s1.trans s2
    obtain ⟨a1, a2, xs, rfl, ha1, ha2, hx⟩ := (ta.by s12).lI
    obtain ⟨b1, b2, ys, rfl, hb1, hb2, hy⟩ := (tb.by s12).lI
    refine ⟨_, rfl, a1, _, _, _, rfl, rfl, SqT.of ha1, atI_nat (j := 0) rfl, ?_⟩
    refine ⟨_, rfl, b1, _, _, _, rfl, rfl, SqT.of hb1, atI_nat (j := 0) rfl, rfl, _, rfl, ?_⟩
    rw [e]
    refine iteNS rfl ?_
    exact ⟨_, rfl, _, rfl, by show 2 ≤ sizeLine; decide, fun p hp => q _ _ (s12.trans (same_upd hp))⟩
def sp_need_link : Sp := fun vs H Q _ => ∃ (v : V) (l : Lay) (k : Nat), vs = [v, vN k] ∧ TD H v (eL l) ∧ k < l.1 ∧ Q .non H
theorem ok_need_link (T : TX K mg) : Ok P w K mg base 2 "need_link" ["lay", "link"] sp_need_link := by
  have G_is_whole := ok_is_whole (P := P) (w := w) (base := base) T
  refine ok_of (k := 1) T.f_need_link sc_need_link (fun _ _ _ _ _ _ us hl => match us, hl with | [_, _], _ => rfl) (fun vs H Q E h => ?_) (fun cdv A outer s H vs Q E hr h => ?_)
  · obtain ⟨v, l, k, rfl, _⟩ := h
    rfl
  · obtain ⟨v, l, k, rfl, tl, hk, q⟩ := h
    obtain ⟨a, b, xs, rfl, ha, hb, hx⟩ := tl.lI
    refine ⟨_, (pss_one (ps_if (pt_not (pt_val (pe_callD G_is_whole (hr.mono (by decide)) (pa_cons (pv 1) (pa_cons pe_int (pa_cons (pe_op op_sub (pe_ix ix_tup (pv 0) pe_int (fun _ _ => rfl)) pe_int) pa_nil)))))) (pss_one ps_never) pss_nil)), ?_⟩
    refine ⟨_, rfl, _, rfl, a, _, _, _, rfl, rfl, SqT.of ha, atI_nat (j := 0) rfl, _, _, rfl, rfl, ?_⟩
    refine ⟨_, _, _, rfl, ?_⟩
    have e1 : decide ((0 : Int) ≤ (k : Int) ∧ (k : Int) ≤ (l.1 : Int) - 1) = true := decide_eq_true (by omega)
    rw [e1]
    exact ⟨true, rfl, q⟩
theorem ixN_nat {n k : Nat} (h : k < n) : ixN n (k : Int) = some k := by
  unfold ixN
  rw [if_pos (by omega), if_pos (by omega)]
  simp
/-- mates as values -/
def oV : Option Nat → V
  | none => .non
  | some n => vN n
theorem set_oV (l : List (Option Nat)) (i : Nat) (x : Option Nat) : (l.map oV).set i (oV x) = (l.set i x).map oV := by rw [List.map_set]
def sp_mates_in : Sp := fun vs H Q _ => ∃ (v : V) (l : Lay), vs = [v] ∧ TD H v (eL l) ∧ GoodL l ∧ ∀ H' p, Same H H' → H p = none → H' p = some (.lst ((matesL l).map oV)) → Q (.ref p) H'
theorem ok_mates_in (T : TX K mg) : Ok P w K mg base 1 "mates_in" ["lay"] sp_mates_in := by
  refine ok_of (k := 0) T.f_mates_in sc_mates_in (fun _ _ _ _ _ _ us hl => match us, hl with | [_], _ => rfl) (fun vs H Q E h => ?_) (fun cdv A outer s H vs Q E hr h => ?_)
  · obtain ⟨v, l, rfl, _⟩ := h
    rfl
  · obtain ⟨v, l, rfl, tl, g, q⟩ := h
    obtain ⟨a, b, xs, rfl, ha, hb, hx⟩ := tl.lI
    have hlx : xs.length = l.2.length := by
      have := hx.len
      rw [List.length_map] at this
      exact this
    have hl24 := g.links
    refine ⟨_, (pss_cons (ps_set (i := 1) sc_mates_in.nd rfl (Or.inl rfl) (pe_op op_rep (pe_lst (pa_cons pe_non pa_nil)) (pe_op op_mul pe_int (pe_ix ix_tup (pv 0) pe_int (fun _ _ => rfl)))))
      (pss_cons (ps_for PassesOwn.never rfl (pi_tup (pe_ix ix_tup (pv 0) pe_int (fun _ _ => rfl))) (pg_tup (by rfl) (pgs_cons (pg_name (i := 2) sc_mates_in.nd rfl (Or.inl rfl)) (pgs_cons (pg_name (i := 3) sc_mates_in.nd rfl (Or.inl rfl)) pgs_nil))) (pss_cons (ps_asg (pv 3) (pg_sub (pv 1) (pv 2) set_list))
      (pss_one (ps_asg (pv 2) (pg_sub (pv 1) (pv 3) set_list)))))
      (pss_one (ps_ret (pv 1))))), ?_⟩
    refine ⟨by show 1 ≤ sizeLine; decide, fun p0 hp0 => ?_⟩
    have s0 : Same H (upd H p0 (.lst [V.non])) := same_upd hp0
    refine ⟨_, rfl, a, _, _, _, rfl, rfl, SqT.of (s0 _ _ ha), atI_nat (j := 0) rfl, (2 : Int), _, rfl, rfl, .inl ⟨by decide, by decide⟩, ?_⟩
    refine ⟨p0, _, _, rfl, rfl, upd_same, by omega, by omega, ?_, fun p hp => ?_⟩
    · refine Nat.le_of_lt (small1000 ?_)
      show 1 * (2 * (l.1 : Int)).toNat ≤ 1000
      omega
    have hpH : H p = none := s0.free hp
    refine ⟨_, rfl, a, _, _, _, rfl, rfl, SqT.of (s0.trans (same_upd hp) _ _ ha), atI_nat (j := 1) rfl, b, rfl, ⟨xs, SqT.of (s0.trans (same_upd hp) _ _ hb)⟩, ?_⟩
    refine for_tup (K := K) (a := b) (xs := xs) (fun i σ H' => ∃ y2 y3 : Option V, σ = [some (.ref a), some (.ref p), y2, y3] ∧ Same H H' ∧ H' p = some (.lst (((l.2.take i).foldl putM (List.replicate (2 * l.1) none)).map oV)))
      ⟨none, none, rfl, ?_, ?_⟩ (fun i σ H' _ p => ?_) (fun i x σ H' hi p => ?_) (fun σ H' p => ?_)
    · refine samePut s0 hpH
    · rw [upd_same]
      have e1 : (2 * (l.1 : Int)).toNat = 2 * l.1 := by omega
      rw [e1, List.flatten_replicate_singleton, List.take_zero, List.foldl_nil, List.map_replicate]
      rfl
    · obtain ⟨_, _, _, s', _⟩ := p
      exact SqT.of (s' _ _ hb)
    · obtain ⟨y2, y3, rfl, s', hp'⟩ := p
      obtain ⟨d, hd1, hd2⟩ := (hx.by s').get hi
      rw [List.getElem?_map] at hd1
      cases hj : l.2[i]? with
      | none => rw [hj] at hd1; cases hd1
      | some j =>
        rw [hj] at hd1
        have : eJ j = d := Option.some.inj hd1
        subst this
        obtain ⟨c, rfl, hc⟩ := hd2.jI
        have hjl := g.j.lt j (List.mem_of_getElem? hj)
        have hlen : (((l.2.take i).foldl putM (List.replicate (2 * l.1) none)).map oV).length = 2 * l.1 := by rw [List.length_map, foldM_len, List.length_replicate]
        refine ⟨c, _, rfl, SqT.of hc, rfl, _, _, rfl, _, _, rfl, rfl, ?_⟩
        refine ⟨_, rfl, _, rfl, _, rfl, p, _, (j.1 : Int), j.1, rfl, rfl, hp', ?_, ?_⟩
        · rw [hlen]
          exact ixN_nat (by omega)
        refine ⟨_, rfl, _, rfl, _, rfl, p, _, (j.2 : Int), j.2, rfl, rfl, upd_same, ?_, ?_⟩
        · rw [List.length_set, hlen]
          exact ixN_nat (by omega)
        refine ⟨_, _, rfl, samePut (samePut s' hpH) hpH, ?_⟩
        rw [upd_same, List.take_add_one, hj, List.foldl_append]
        show some (HO.lst ((List.set _ j.1 (oV (some j.2))).set j.2 (oV (some j.1)))) = _
        rw [set_oV, set_oV]
        rfl
    · obtain ⟨_, _, rfl, s', hp'⟩ := p
      refine ⟨_, rfl, q _ _ s' hpH ?_⟩
      rw [hp']
      unfold matesL
      rw [hlx, List.take_length]
/-- the free ends -/
def sp_free_in : Sp := fun vs H Q _ => ∃ (v : V) (l : Lay), vs = [v] ∧ TD H v (eL l) ∧ GoodL l ∧ ∀ H' p, Same H H' → H p = none → H' p = some (.lst ((freeL l).map vN)) → Q (.ref p) H'
theorem oV_none (o : Option Nat) : decide (oV o = V.non) = o.isNone := by
  cases o with
  | none => rfl
  | some n => rfl
theorem freeL_fm (l : Lay) : (List.range (matesL l).length).filterMap (fun i => if ((matesL l)[i]?).join.isNone then some i else none) = freeL l := by
  rw [matesL_len]
  unfold freeL
  have key : ∀ L : List Nat, (∀ i ∈ L, i < (matesL l).length) → L.filterMap (fun i => if ((matesL l)[i]?).join.isNone then some i else none) = L.filter fun e => (matesL l)[e]? == some none := by
    intro L
    induction L with
    | nil => intro _; rfl
    | cons a L ih =>
      intro h
      have ha := h a List.mem_cons_self
      have ih' := ih fun i hi => h i (List.mem_cons_of_mem _ hi)
      rw [List.filterMap_cons, List.filter_cons, ih', List.getElem?_eq_getElem ha]
      cases (matesL l)[a] <;> rfl
  exact key _ fun i hi => by
    rw [matesL_len]
    exact List.mem_range.mp hi
theorem ok_free_in (T : TX K mg) : Ok P w K mg base 2 "free_in" ["lay"] sp_free_in := by
  have G_mates_in := ok_mates_in (P := P) (w := w) (base := base) T
  refine ok_of (k := 1) T.f_free_in sc_free_in (fun _ _ _ _ _ _ us hl => match us, hl with | [_], _ => rfl) (fun vs H Q E h => ?_) (fun cdv A outer s H vs Q E hr h => ?_)
  · obtain ⟨v, l, rfl, _⟩ := h
    rfl
  · obtain ⟨v, l, rfl, tl, g, q⟩ := h
    have hl24 := g.links
    refine ⟨_, (pss_one (ps_ret (pe_lc (own := [("end", 1), ("mate", 2)]) (g := (gTup K 2 (gCons (gName 1) (gCons (gName 2) gNil)))) (by rfl) sc_free_in.nd (pi_enum rfl T.z_enumerate (pa_cons (pe_callD G_mates_in (hr.mono (by decide)) (pa_cons (pv 0) pa_nil)) pa_nil)) (blkOk_by (own := [("end", 1), ("mate", 2)]) (N := N_free_in) (sc := defScope s_free_in) (by decide +kernel)) (fun _ _ _ _ _ => (pg_tup (by rfl) (pgs_cons (pg_name (i := 1) sc_free_in.nd rfl (Or.inl rfl)) (pgs_cons (pg_name (i := 2) sc_free_in.nd rfl (Or.inl rfl)) pgs_nil)))) (fun _ _ _ _ _ => pts_one (pt_cmpR op_isN (pv 2) pe_non (nomark _))) (fun _ _ _ _ _ => (pv 1))))), ?_⟩
    refine ⟨_, rfl, v, l, rfl, tl, g, fun H1 p s1 hp hp1 => ?_⟩
    refine ⟨p, _, rfl, SqL.of hp1, fun D hD => ?_⟩
    have hw : Walk (Ite K p) (matesL l).length (fun H => SqL K H p ((matesL l).map oV)) (YPair (fun i => some (.int (i : Nat))) (fun i => ((matesL l).map oV)[i]?)) := by
      have := walk_enum (K := K) (a := p) (xs := (matesL l).map oV)
      rw [List.length_map] at this
      exact this
    refine lc_fm hw eNat (fun i => if ((matesL l)[i]?).join.isNone then some i else none) hD (by rw [matesL_len]; exact small1000 (by omega)) (fun H s => SqL.of (s _ _ hp1)) (fun i x H2 H3 N M hi s y kN kM => ?_) (fun H2 ys s hy ht => ?_)
    · obtain ⟨Tp, x0, x1, rfl, nT, rfl, ex0, ex1⟩ := y
      cases ex0
      have ex1 : ((matesL l).map oV)[i]? = some x1 := ex1
      rw [List.getElem?_map, List.getElem?_eq_getElem hi] at ex1
      have e1 : x1 = oV (matesL l)[i] := (Option.some.inj ex1).symm
      subst e1
      have sT := same_upd (o := .tup [.int (i : Nat), oV (matesL l)[i]]) nT
      refine ⟨Tp, _, rfl, SqT.of upd_same, rfl, _, _, rfl, _, _, rfl, rfl, rfl, ?_⟩
      refine ⟨_, rfl, rfl, _, rfl, ?_⟩
      rw [oV_none]
      have ej : ((matesL l)[i]?).join = (matesL l)[i] := by
        rw [List.getElem?_eq_getElem hi]
        rfl
      rw [ej] at kN kM
      refine ite2 (fun e => ?_) (fun e => ?_)
      · exact ⟨_, rfl, kN _ _ i (if_pos e) sT (.int _)⟩
      · exact kM _ (if_neg e) sT
    · rw [freeL_fm] at ht
      rw [tds_nats_inv ht] at hy
      exact q _ _ (s1.trans s) (s1.free hD) hy
theorem sortJ_data (l : List Jt) : l.mergeSort (PySem.W.dataLe false eJ) = sortJ l := by
  have e : (eJ : Jt → PyData) = fun b => .tuple [.int ((fun p : Jt => (p.1 : Int)) b), .int ((fun p : Jt => (p.2 : Int)) b)] := rfl
  rw [e, PySem.W.dataLe_ii]
  refine PySem.W.sort_congr fun a _ b _ => ?_
  unfold leJ
  by_cases h : a.1 < b.1 ∨ (a.1 = b.1 ∧ a.2 ≤ b.2)
  · rw [decide_eq_true h, decide_eq_true (by omega)]
  · rw [decide_eq_false h, decide_eq_false (by omega)]
/-- a lay of joints in a list -/
def sp_lay_with (K : PySem.W.Frag) : Sp := fun vs H Q _ => ∃ (n : Nat) (a : Addr) (xs : List V) (J : List Jt), vs = [vN n, .ref a] ∧ SqL K H a xs ∧ TDs H xs (J.map eJ) ∧ ∀ H' v, Same H H' → TD H' v (eL (layW n J)) → Q v H'
theorem ok_lay_with (T : TX K mg) : Ok P w K mg base 1 "lay_with" ["links", "joints"] (sp_lay_with K) := by
  refine ok_of (k := 0) T.f_lay_with sc_lay_with (fun _ _ _ _ _ _ us hl => match us, hl with | [_, _], _ => rfl) (fun vs H Q E h => ?_) (fun cdv A outer s H vs Q E hr h => ?_)
  · obtain ⟨n, a, xs, J, rfl, _⟩ := h
    rfl
  · obtain ⟨n, a, xs, J, rfl, ha, hx, q⟩ := h
    refine ⟨_, (pss_one (ps_ret (pe_tup (pa_cons (pv 0) (pa_cons (pe_callTy call_tuple_of (by rfl) T.z_tuple bt_tuple (pa_cons (pe_callB (cr_sortedE enc_J (by decide) (hu64 hr)) (by rfl) T.z_sorted bt_sorted (pa_cons (pv 1) pa_nil)) pa_nil)) pa_nil))))), ?_⟩
    refine ⟨_, rfl, _, rfl, a, xs, J, rfl, ha, hx, srt_J J, fun ys p hp ht => ?_⟩
    rw [sortJ_data] at ht
    refine ⟨p, ys, rfl, .inl ⟨SqL.of upd_same, fun t nt => ?_⟩⟩
    refine ⟨by show 2 ≤ sizeLine; decide, fun r nr => ?_⟩
    have s1 := same_upd (H := H) (o := .lst ys) hp
    have s2 := same_upd (o := .tup ys) nt
    have s3 := same_upd (o := .tup [vN n, .ref t]) nr
    refine q _ _ ((s1.trans s2).trans s3) (TD.lM upd_same (s3 _ _ upd_same) (ht.by ((s1.trans s2).trans s3)))
end
end DC
end

section
set_option Elab.async false
set_option linter.all false
set_option maxRecDepth 100000
set_option maxHeartbeats 4000000
namespace DC
open PySem PySem.Spec PyProof.Rows L2
section
variable {P : Program} {w : World} {K : PySem.W.Frag} {mg : Str → Option Value} {base : Heap}
/-- the lay behind a step -/
def sp_after (K : PySem.W.Frag) : Sp := fun vs H Q _ => ∃ (v u : V) (l : Lay) (s : Stp), vs = [v, u] ∧ TD H v (eL l) ∧ TD H u (eS s) ∧ GoodL l ∧ s.2.length ≤ 100 ∧ ∀ H' r, Same H H' → TD H' r (eL (afterL l s)) → Q r H'
theorem ok_after (T : TX K mg) : Ok P w K mg base 2 "after" ["lay", "step"] (sp_after K) := by
  have G_lay_with := ok_lay_with (P := P) (w := w) (base := base) T
  refine ok_of (k := 1) T.f_after sc_after (fun _ _ _ _ _ _ us hl => match us, hl with | [_, _], _ => rfl) (fun vs H Q E h => ?_) (fun cdv A outer s H vs Q E hr h => ?_)
  · obtain ⟨v, u, l, s, rfl, _⟩ := h
    rfl
  · obtain ⟨v, u, l, st, rfl, tl, ts, g, hs2, q⟩ := h
    obtain ⟨a, b, xs, rfl, ha, hb, hx⟩ := tl.lI
    obtain ⟨c, d, e, ys, zs, rfl, hc, hd, hy, he, hz⟩ := ts.sI
    have hl12 := g.len
    refine ⟨_, (pss_cons (ps_asg (pv 1) (pg_tup (by rfl) (pgs_cons (pg_name (i := 2) sc_after.nd rfl (Or.inr rfl)) (pgs_cons (pg_name (i := 3) sc_after.nd rfl (Or.inl rfl)) pgs_nil))))
      (pss_one (ps_ret (pe_callD G_lay_with (hr.mono (by decide)) (pa_cons (pe_ix ix_tup (pv 0) pe_int (fun _ _ => rfl)) (pa_cons (pe_lst (StX.pa_star (pe_lc (own := [("joint", 4)]) (g := (gName 4)) (by rfl) sc_after.nd (pi_tup (pe_ix ix_tup (pv 0) pe_int (fun _ _ => rfl))) (blkOk_by (own := [("joint", 4)]) (N := N_after) (sc := defScope s_after) (by decide +kernel)) (fun _ _ _ _ _ => (pg_name (i := 4) sc_after.nd rfl (Or.inl rfl))) (fun _ _ _ _ _ => pts_one (pt_cmpR (op_notInEK (K := K) enc_J (by decide) (hu65 hr) rfl) (pv 4) (pv 2) (by rfl))) (fun _ _ _ _ _ => (pv 4))) (StX.pa_star (pv 3) pa_nil))) pa_nil)))))), ?_⟩
    refine ⟨_, rfl, c, _, rfl, SqT.of hc, rfl, _, _, rfl, _, _, rfl, rfl, ?_⟩
    refine ⟨_, rfl, a, _, _, _, rfl, rfl, SqT.of ha, atI_nat (j := 0) rfl, ?_⟩
    refine ⟨_, rfl, a, _, _, _, rfl, rfl, SqT.of ha, atI_nat (j := 1) rfl, b, rfl, ⟨_, SqT.of hb⟩, fun D hD => ?_⟩
    refine lc_src (walk_tup (K := K) (a := b)) eJ (fun j => if (!decide (j ∈ st.1)) = true then some j else none) hD (small1000 (by omega)) hx (fun H s => SqT.of (s _ _ hb)) (fun j x H' N M hj s tx kN kM => ?_) (fun H' ws s hw ht => ?_)
    · refine ⟨rfl, _, rfl, _, rfl, d, ys, st.1, j, rfl, .inl (SqT.of (s _ _ hd)), hy.by s, tx, !decide (j ∈ st.1), by simp, _, rfl, ?_⟩
      refine ite2 (fun e => ?_) (fun e => ?_)
      · exact ⟨_, rfl, kN _ _ j (if_pos e) (Same.refl _) tx⟩
      · exact kM _ (if_neg e) (Same.refl _)
    · rw [fm_filter] at ht
      refine ⟨D, ws, rfl, .inr (SqL.of hw), _, rfl, e, zs, rfl, .inl (SqT.of (s _ _ he)), ?_⟩
      have hl1 := ht.len
      have hl2 := hz.len
      rw [List.length_map] at hl1 hl2
      have hf := List.length_filter_le (fun j => !decide (j ∈ st.1)) l.2
      refine ⟨?_, fun p hp => ?_⟩
      · refine Nat.le_of_lt (small1000 ?_)
        rw [List.append_nil, List.length_append]
        omega
      · have sp := same_upd (o := .lst (ws ++ (zs ++ []))) hp
        refine ⟨l.1, p, _, l.2.filter (fun j => !decide (j ∈ st.1)) ++ st.2, rfl, SqL.of upd_same, ?_, fun H2 r s2 tr => q _ _ ((s.trans sp).trans s2) tr⟩
        rw [List.map_append]
        refine (ht.by sp).app ?_
        rw [List.append_nil] at sp ⊢
        exact hz.by (s.trans sp)
/-- the pairs of joints that take the place of two -/
def prs (a b : Jt) : List (List Jt) := [[jt a.1 b.1, jt a.2 b.2], [jt a.1 b.2, jt a.2 b.1]]
def sp_doubles_of : Sp := fun vs H Q _ => ∃ (v u : V) (a b : Jt), vs = [v, u] ∧ TD H v (eJ a) ∧ TD H u (eJ b) ∧ ∀ H' p ys, Same H H' → H p = none → H' p = some (.lst ys) → TDs H' ys ((doublesL a b).map eS) → Q (.ref p) H'
theorem ok_doubles_of (T : TX K mg) : Ok P w K mg base 2 "doubles_of" ["one", "other"] sp_doubles_of := by
  have G_joint_of := ok_joint_of (P := P) (w := w) (base := base) T
  refine ok_of (k := 1) T.f_doubles_of sc_doubles_of (fun _ _ _ _ _ _ us hl => match us, hl with | [_, _], _ => rfl) (fun vs H Q E h => ?_) (fun cdv A outer s H vs Q E hr h => ?_)
  · obtain ⟨v, u, l, s, rfl, _⟩ := h
    rfl
  · obtain ⟨v, u, a, b, rfl, ta, tb, q⟩ := h
    obtain ⟨c, rfl, hc⟩ := ta.jI
    obtain ⟨d, rfl, hd⟩ := tb.jI
    refine ⟨_, (pss_cons (ps_asg (pv 0) (pg_tup (by rfl) (pgs_cons (pg_name (i := 2) sc_doubles_of.nd rfl (Or.inl rfl)) (pgs_cons (pg_name (i := 3) sc_doubles_of.nd rfl (Or.inl rfl)) pgs_nil))))
      (pss_cons (ps_set (i := 4) sc_doubles_of.nd rfl (Or.inl rfl) (pe_lst pa_nil))
      (pss_cons (ps_for PassesOwn.never rfl (pi_tup (pe_tup (pa_cons (pv 1) (pa_cons (pe_revP (pv 1)) pa_nil)))) (pg_tup (by rfl) (pgs_cons (pg_name (i := 5) sc_doubles_of.nd rfl (Or.inl rfl)) (pgs_cons (pg_name (i := 6) sc_doubles_of.nd rfl (Or.inl rfl)) pgs_nil))) (pss_one (ps_expr (pe_bm PySem.F.plainAttrs_list PySem.F.slot_list_append PySem.F.type_list_append mt_append (pv 4) (pa_cons (pe_tup (pa_cons (pe_callD G_joint_of (hr.mono (by decide)) (pa_cons (pv 2) (pa_cons (pv 5) pa_nil))) (pa_cons (pe_callD G_joint_of (hr.mono (by decide)) (pa_cons (pv 3) (pa_cons (pv 6) pa_nil))) pa_nil))) pa_nil)))))
      (pss_one (ps_ret (pe_lc (own := [("made", 7)]) (g := (gName 7)) (by rfl) sc_doubles_of.nd (pi_list (pv 4)) (blkOk_by (own := [("made", 7)]) (N := N_doubles_of) (sc := defScope s_doubles_of) (by decide +kernel)) (fun _ _ _ _ _ => (pg_name (i := 7) sc_doubles_of.nd rfl (Or.inl rfl))) (fun _ _ _ _ _ => pts_nil) (fun _ _ _ _ _ => (pe_tup (pa_cons (pe_tup (pa_cons (pv 0) (pa_cons (pv 1) pa_nil))) (pa_cons (pe_callTy (call_tupleK (K := K) rfl) (by rfl) T.z_tuple bt_tuple (pa_cons (pe_callB (cr_sortedTEK (K := K) enc_J (by decide) (hu64 hr) rfl) (by rfl) T.z_sorted bt_sorted (pa_cons (pv 7) pa_nil)) pa_nil)) pa_nil)))))))))), ?_⟩
    refine ⟨_, rfl, c, _, rfl, SqT.of hc, rfl, _, _, rfl, _, _, rfl, rfl, ?_⟩
    refine ⟨Nat.zero_le _, fun f hf => ?_⟩
    have s1 : Same H (upd H f (.lst [])) := same_upd hf
    refine ⟨_, rfl, _, rfl, d, _, _, rfl, SqT.of (s1 _ _ hd), fun r hr' => ?_⟩
    have s2 := s1.trans (same_upd (o := .tup [V.int b.2, V.int b.1]) hr')
    refine ⟨by show 2 ≤ sizeLine; decide, fun t ht => ?_⟩
    have s3 := s2.trans (same_upd (o := .tup [V.ref d, V.ref r]) ht)
    have nfr : f ≠ r := fun z => by
      subst z
      rw [upd_same] at hr'
      cases hr'
    have nft : f ≠ t := fun z => by
      subst z
      rw [upd_ne nfr, upd_same] at ht
      cases ht
    have nrt : r ≠ t := fun z => by
      subst z
      rw [upd_same] at ht
      cases ht
    have hfree : H f = none := hf
    refine ⟨t, rfl, ⟨_, SqT.of upd_same⟩, ?_⟩
    refine for_tup (K := K) (a := t) (xs := [V.ref d, V.ref r]) (fun i σ H' => ∃ y5 y6 y7 ys, σ = [some (.ref c), some (.ref d), some (vN a.1), some (vN a.2), some (.ref f), y5, y6, y7] ∧ Same H H' ∧ H' t = some (.tup [V.ref d, V.ref r]) ∧ H' r = some (.tup [vN b.2, vN b.1]) ∧ H' f = some (.lst ys) ∧ TDs H' ys (((prs a b).take i).map (eT eJ)))
      ⟨none, none, none, [], rfl, s3, upd_same, by rw [upd_ne nrt, upd_same]; rfl, by rw [upd_ne nft, upd_ne nfr, upd_same], .nil⟩ (fun i σ H' _ p => ?_) (fun i x σ H' hi p => ?_) (fun σ H' p => ?_)
    · obtain ⟨_, _, _, _, _, _, h3, _⟩ := p
      exact SqT.of h3
    · obtain ⟨y5, y6, y7, ys, rfl, s', h3, h4, h5, h6⟩ := p
      have hl := h6.len
      rw [List.length_map, List.length_take] at hl
      have hi2 : i < 2 := (List.getElem?_eq_some_iff.mp hi).1
      have hys : ys.length < sizeLine := small1000 (by omega)
      obtain ⟨x1, x2, z, rfl, hz, hp⟩ : ∃ (x1 x2 : Nat) (z : Addr), x = .ref z ∧ H' z = some (.tup [vN x1, vN x2]) ∧ (prs a b)[i]? = some [jt a.1 x1, jt a.2 x2] := by
        match i, hi with
        | 0, hi => exact ⟨b.1, b.2, d, (Option.some.inj hi).symm, s' _ _ hd, rfl⟩
        | 1, hi => exact ⟨b.2, b.1, r, (Option.some.inj hi).symm, h4, rfl⟩
        | i + 2, hi => exact absurd hi2 (by omega)
      refine ⟨z, _, rfl, SqT.of hz, rfl, _, _, rfl, _, _, rfl, rfl, ?_⟩
      refine ⟨_, rfl, .inl ⟨rfl, _, SqL.of h5⟩, ?_⟩
      refine ⟨_, rfl, _, rfl, a.1, x1, rfl, fun H1 v1 s1' t1 => ?_⟩
      refine ⟨_, rfl, _, rfl, a.2, x2, rfl, fun H2 v2 s2' t2 => ?_⟩
      refine ⟨by show 2 ≤ sizeLine; decide, fun m hm => ?_⟩
      have s4 := (s1'.trans s2').trans (same_upd (o := .tup [v1, v2]) hm)
      refine ⟨f, _, _, rfl, rfl, s4 _ _ h5, hys, ?_⟩
      have tu : TupS (upd H2 m (.tup [v1, v2])) (upd (upd H2 m (.tup [v1, v2])) f (.lst (ys ++ [.ref m]))) := tupS_lst (s4 _ _ h5)
      refine ⟨_, _, _, _, rfl, samePut (s'.trans s4) hfree, tu _ _ (s4 _ _ h3), tu _ _ (s4 _ _ h4), upd_same, ?_⟩
      rw [List.take_add_one, hp, List.map_append]
      refine ((h6.by s4).snoc ?_).to tu
      exact .tup upd_same (.cons (t1.by (s2'.trans (same_upd hm))) (.cons (t2.by (same_upd hm)) .nil))
    · obtain ⟨y5, y6, y7, ys, rfl, s', h3, h4, h5, h6⟩ := p
      refine ⟨_, rfl, f, rfl, ⟨_, SqL.of h5⟩, fun D hD => ?_⟩
      refine lc_src (walk_list (K := K) (a := f)) (e0 := eT eJ) (l := prs a b) eS (fun m => some ([a, b], sortJ m)) hD (small1000 (by show 2 ≤ 1000; decide)) h6 (fun H s => SqL.of (s _ _ h5)) (fun m x H2 N M hm s tx kN kM => ?_) (fun H2 ws s hw ht => ?_)
      · obtain ⟨m0, ms, rfl, hm0, hms⟩ := tx.listI
        refine ⟨rfl, ?_⟩
        refine ⟨_, rfl, _, rfl, by show 2 ≤ sizeLine; decide, fun p1 hp1 => ?_⟩
        have k1 := same_upd (o := .tup [V.ref c, V.ref d]) hp1
        refine ⟨_, rfl, m0, ms, m, rfl, SqT.of (k1 _ _ hm0), hms.by k1, srt_J m, fun zs p2 hp2 ht2 => ?_⟩
        have k2 := same_upd (o := .lst zs) hp2
        refine ⟨p2, zs, rfl, .inl ⟨SqL.of upd_same, fun p3 hp3 => ?_⟩⟩
        have k3 := same_upd (o := .tup zs) hp3
        refine ⟨by show 2 ≤ sizeLine; decide, fun p4 hp4 => ?_⟩
        have k4 := same_upd (o := .tup [V.ref p1, V.ref p3]) hp4
        refine kN _ _ _ rfl (((k1.trans k2).trans k3).trans k4) ?_
        have ss := s'.trans s
        rw [sortJ_data] at ht2
        have q1 : TD (upd H2 p1 (.tup [V.ref c, V.ref d])) (.ref p1) (eJs [a, b]) := .tup upd_same (.cons (ta.by (ss.trans k1)) (.cons (tb.by (ss.trans k1)) .nil))
        exact .tup upd_same (.cons (q1.by ((k2.trans k3).trans k4)) (.cons (.tup (k4 _ _ upd_same) (ht2.by ((k2.trans k3).trans k4))) .nil))
      · exact q _ D ws (s'.trans s) (s'.free hD) hw ht
/-- a step's form: at most two joints are cut, at most two made -/
def sp_has_form : Sp := fun vs H Q _ => ∃ (v u : V) (l : Lay) (st : Stp), vs = [v, u] ∧ TD H v (eL l) ∧ TD H u (eS st) ∧ l.1 ≤ 12 ∧ (∀ j, j ∈ st.1 ∨ j ∈ st.2 → j.1 < j.2 ∧ j.2 < 2 * l.1) ∧ st.1.length ≤ 100 ∧ st.2.length ≤ 100 ∧
  ∀ H' k, Same H H' → (k = true ↔ st.1.length ≤ 2 ∧ st.2.length ≤ 2) → Q (.bl k) H'
theorem ok_has_form (T : TX K mg) : Ok P w K mg base 3 "has_form" ["lay", "value"] sp_has_form := by
  have G_is_joint := ok_is_joint (P := P) (w := w) (base := base) T
  refine ok_of (k := 2) T.f_has_form sc_has_form (fun _ _ _ _ _ _ us hl => match us, hl with | [_, _], _ => rfl) (fun vs H Q E h => ?_) (fun cdv A outer s H vs Q E hr h => ?_)
  · obtain ⟨v, u, l, s, rfl, _⟩ := h
    rfl
  · obtain ⟨v, u, l, st, rfl, tl, ts, hl, hj, hn1, hn2, q⟩ := h
    obtain ⟨a, a2, xs, rfl, ha, _, _⟩ := tl.lI
    obtain ⟨c, d, e, ys, zs, rfl, hc, hd, hy, he, hz⟩ := ts.sI
    have hly := hy.len
    have hlz := hz.len
    rw [List.length_map] at hly hlz
    refine ⟨_, (pss_cons (ps_if (PW.pt (pw_or (pt_not (pt_val (pe_callB call_isi (by rfl) T.z_isinstance bt_isinstance (pa_cons (pv 1) (pa_cons (pe_bltn (v := .ty "tuple") (by rfl) T.z_tuple bt_tuple rfl) pa_nil))))) (pw_or1 (pt_cmpR op_ne (pe_callB call_len_seq (by rfl) T.z_len bt_len (pa_cons (pv 1) pa_nil)) pe_int (nomark _))))) (pss_one (ps_ret pe_bl)) pss_nil)
      (pss_cons (ps_for PassesOwn.never rfl (pi_tup (pv 1)) (pg_name (i := 2) sc_has_form.nd rfl (Or.inl rfl)) (pss_cons (ps_if (PW.pt (pw_or (pt_not (pt_val (pe_callB call_isi (by rfl) T.z_isinstance bt_isinstance (pa_cons (pv 2) (pa_cons (pe_bltn (v := .ty "tuple") (by rfl) T.z_tuple bt_tuple rfl) pa_nil))))) (pw_or1 (pt_cmpR op_gt (pe_callB call_len_seq (by rfl) T.z_len bt_len (pa_cons (pv 2) pa_nil)) (pe_gInt T.c_MOST_JOINTS) (nomark _))))) (pss_one (ps_ret pe_bl)) pss_nil)
      (pss_one (ps_if (pt_not (pt_val (pe_callB (cr_all rfl) (by rfl) T.z_all bt_all (pa_cons (pe_lc (own := [("joint", 3)]) (g := (gName 3)) (by rfl) sc_has_form.nd (pi_tup (pv 2)) (blkOk_by (own := [("joint", 3)]) (N := N_has_form) (sc := defScope s_has_form) (by decide +kernel)) (fun _ _ _ _ _ => (pg_name (i := 3) sc_has_form.nd rfl (Or.inl rfl))) (fun _ _ _ _ _ => pts_nil) (fun _ _ _ _ _ => (pe_callD G_is_joint (hr.mono (by decide)) (pa_cons (pe_ix (ix_tupK (K := K) rfl) (pv 0) pe_int (fun _ _ => rfl)) (pa_cons (pv 3) pa_nil))))) pa_nil)))) (pss_one (ps_ret pe_bl)) pss_nil))))
      (pss_one (ps_ret pe_bl)))), ?_⟩
    refine ⟨_, rfl, _, _, _, _, true, rfl, .ty "tuple", .base (.tup hc), kit_ty (by decide +kernel), true, rfl, ?_⟩
    refine ⟨_, rfl, _, _, rfl, .inr (SqT.of hc), rfl, _, rfl, iteNS rfl ?_⟩
    refine ⟨_, rfl, c, rfl, ⟨_, SqT.of hc⟩, ?_⟩
    refine for_tup (K := K) (a := c) (xs := [V.ref d, V.ref e]) (fun i σ H' => ∃ y2 y3, σ = [some (.ref a), some (.ref c), y2, y3] ∧ Same H H' ∧ (0 < i → st.1.length ≤ 2) ∧ (1 < i → st.2.length ≤ 2))
      ⟨none, none, rfl, Same.refl _, fun z => absurd z (by omega), fun z => absurd z (by omega)⟩ (fun i σ H' _ p => ?_) (fun i x σ H' hi p => ?_) (fun σ H' p => ?_)
    · obtain ⟨_, _, _, s', _⟩ := p
      exact SqT.of (s' _ _ hc)
    · obtain ⟨y2, y3, rfl, s', h0, h1⟩ := p
      have hi2 : i < 2 := (List.getElem?_eq_some_iff.mp hi).1
      obtain ⟨z, ws, L, rfl, hzw, htw, hL, hLj, hLn⟩ : ∃ (z : Addr) (ws : List V) (L : List Jt), x = .ref z ∧ H' z = some (.tup ws) ∧ TDs H' ws (L.map eJ) ∧ ((i = 0 ∧ L = st.1) ∨ (i = 1 ∧ L = st.2)) ∧ (∀ j ∈ L, j.1 < j.2 ∧ j.2 < 2 * l.1) ∧ L.length ≤ 100 := by
        match i, hi with
        | 0, hi => exact ⟨d, ys, st.1, (Option.some.inj hi).symm, s' _ _ hd, hy.by s', .inl ⟨rfl, rfl⟩, fun j h => hj j (.inl h), hn1⟩
        | 1, hi => exact ⟨e, zs, st.2, (Option.some.inj hi).symm, s' _ _ he, hz.by s', .inr ⟨rfl, rfl⟩, fun j h => hj j (.inr h), hn2⟩
        | i + 2, hi => exact absurd hi2 (by omega)
      have hlw := htw.len
      rw [List.length_map] at hlw
      refine ⟨_, rfl, _, _, _, _, true, rfl, .ty "tuple", .base (.tup hzw), kit_ty (by decide +kernel), true, rfl, ?_⟩
      refine ⟨_, rfl, _, _, rfl, .inr (SqT.of hzw), _, _, rfl, rfl, _, rfl, ?_⟩
      refine ite2 (fun e2 => ?_) (fun e2 => ?_)
      · have e3 : ¬ L.length ≤ 2 := by
          have := of_decide_eq_true e2
          omega
        refine q _ _ s' ⟨fun z => (nomatch z), fun z => ?_⟩
        rcases hL with ⟨_, rfl⟩ | ⟨_, rfl⟩
        · exact absurd z.1 e3
        · exact absurd z.2 e3
      · have e3 : L.length ≤ 2 := by
          have : ¬ (2 : Int) < ws.length := fun z => e2 (decide_eq_true z)
          omega
        refine ⟨_, rfl, z, rfl, ⟨_, SqT.of hzw⟩, fun D hD => ?_⟩
        refine lc_src (walk_tup (K := K) (a := z)) (fun b => PyData.bool b) (fun _ : Jt => some true) hD (small1000 (by omega)) htw (fun H s => SqT.of (s _ _ hzw)) (fun j x H2 N M hm s tx kN kM => ?_) (fun H2 bs s hw ht => ?_)
        · refine ⟨rfl, ?_⟩
          refine ⟨_, rfl, a, _, _, _, rfl, rfl, SqT.of (s _ _ (s' _ _ ha)), atI_nat (j := 0) rfl, ?_⟩
          refine ⟨_, rfl, l.1, x, j, rfl, tx, (hLj j hm).1, (hLj j hm).2, hl, fun H3 s3 => ?_⟩
          exact kN _ _ true rfl s3 (.bl true)
        · have hall : L.filterMap (fun _ : Jt => some true) = L.map fun _ => true := by
            rw [List.filterMap_eq_map']
          rw [hall] at ht
          have ey := tds_bools_inv ht
          subst ey
          have eall : (L.map fun _ : Jt => true).all id = true := by simp
          refine ⟨D, L.map fun _ => true, rfl, SqL.of hw, ?_⟩
          rw [eall]
          refine ⟨true, rfl, ?_⟩
          refine ⟨_, _, rfl, s'.trans s, fun _ => ?_, fun h2 => ?_⟩
          · rcases hL with ⟨_, rfl⟩ | ⟨h3, _⟩
            · exact e3
            · exact h0 (by omega)
          · rcases hL with ⟨h3, _⟩ | ⟨_, rfl⟩
            · exact absurd h2 (by omega)
            · exact e3
    · obtain ⟨y2, y3, rfl, s', h0, h1⟩ := p
      exact q _ _ s' ⟨fun _ => ⟨h0 (by show 0 < 2; decide), h1 (by show 1 < 2; decide)⟩, fun _ => rfl⟩
end
end DC
end

section
set_option Elab.async false
set_option linter.all false
set_option maxRecDepth 100000
set_option maxHeartbeats 4000000
namespace DC
open PySem PySem.Spec PyProof.Rows L2
/-! ### a list that a def fills -/
/-- behind H0 (in which f was new) the list at f reads as ds -/
def Fnd (H0 : Hp) (f : Addr) (ds : List PyData) (H : Hp) : Prop := Same H0 H ∧ H0 f = none ∧ ∃ ys, H f = some (.lst ys) ∧ TDs H ys ds
theorem Fnd.new {H0 : Hp} {f : Addr} (h : H0 f = none) : Fnd H0 f [] (upd H0 f (.lst [])) := ⟨same_upd h, h, [], upd_same, .nil⟩
theorem Fnd.by {H0 H H' : Hp} {f : Addr} {ds : List PyData} (h : Fnd H0 f ds H) (s : Same H H') : Fnd H0 f ds H' := by
  obtain ⟨h1, h2, ys, h3, h4⟩ := h
  exact ⟨h1.trans s, h2, ys, s _ _ h3, h4.by s⟩
theorem Fnd.more {H0 H : Hp} {f : Addr} {ds es : List PyData} {ys zs : List V} (h : Fnd H0 f ds H) (hy : H f = some (.lst ys)) (t : TDs H zs es) : Fnd H0 f (ds ++ es) (upd H f (.lst (ys ++ zs))) := by
  obtain ⟨h1, h2, ws, h3, h4⟩ := h
  rw [hy] at h3
  cases h3
  exact ⟨samePut h1 h2, h2, _, upd_same, (h4.app t).to (tupS_lst hy)⟩
theorem cutV_drop (xs : List V) (i : Nat) (h : i + 1 ≤ xs.length) : cutV xs (some ((i : Int) + 1)) none = xs.drop (i + 1) := by
  unfold cutV
  have e : ((i : Int) + 1) = ((i + 1 : Nat) : Int) := by omega
  rw [e, HT.sIx_nat, HT.sIx_none, Nat.min_eq_left h]
  exact List.take_of_length_le (by rw [List.length_drop]; exact Nat.le_refl _)
theorem not_whole (n i : Nat) (h : i + 1 ≤ n) : ¬ (HT.sIx n 0 (some ((i : Int) + 1)) = 0 ∧ HT.sIx n n none = n) := by
  have e : ((i : Int) + 1) = ((i + 1 : Nat) : Int) := by omega
  rw [e, HT.sIx_nat, Nat.min_eq_left h]
  intro q
  omega
def shiftsP (F : List Nat) (j : Jt) (es : List Nat) : List Stp := es.flatMap fun e => F.map fun z => ([j], [jt e z])
theorem cutsL_eq (F : List Nat) (j : Jt) : cutsL F j = ([j], []) :: shiftsP F j [j.1, j.2] := by
  unfold cutsL shiftsP
  simp
theorem fm_some {α β : Type} (f : α → β) (l : List α) : l.filterMap (fun a => some (f a)) = l.map f := by
  rw [List.filterMap_eq_map']
section
variable {P : Program} {w : World} {K : PySem.W.Frag} {mg : Str → Option Value} {base : Heap}
def sp_steps_in : Sp := fun vs H Q _ => ∃ (v : V) (l : Lay), vs = [v] ∧ TD H v (eL l) ∧ GoodL l ∧ ∀ (H' : Hp) (p : Addr) (ys : List V) (ss : List Stp), Same H H' → H p = none → H' p = some (.lst ys) → TDs H' ys (ss.map eS) → ss.Perm (stepsL l) → Q (.ref p) H'
theorem ok_steps_in (T : TX K mg) : Ok P w K mg base 3 "steps_in" ["lay"] sp_steps_in := by
  have G_free_in := ok_free_in (P := P) (w := w) (base := base) T
  have G_joint_of := ok_joint_of (P := P) (w := w) (base := base) T
  have G_doubles_of := ok_doubles_of (P := P) (w := w) (base := base) T
  refine ok_of (k := 2) T.f_steps_in sc_steps_in (fun _ _ _ _ _ _ us hl => match us, hl with | [_], _ => rfl) (fun vs H Q E h => ?_) (fun cdv A outer s H vs Q E hr h => ?_)
  · obtain ⟨v, l, rfl, _⟩ := h
    rfl
  · obtain ⟨v, l, rfl, tl, g, q⟩ := h
    obtain ⟨a, b, xs, rfl, ha, hb, hx⟩ := tl.lI
    have hlx := hx.len
    rw [List.length_map] at hlx
    have hl12 := g.len
    have hl24 := g.links
    have hF24 := freeL_len l
    have hTJ : ∀ i, (turnJ (freeL l) l.2 i).length ≤ 80 := fun i => by
      have := turnJ_len (freeL l) l.2 i
      omega
    have hTF : ∀ i, (turnF (freeL l) i).length ≤ 80 := fun i => by
      have := turnF_len (freeL l) i
      omega
    refine ⟨_, (pss_cons (ps_par3 (i := 1) (j := 2) (l := 3) (by rfl) sc_steps_in.nd rfl rfl rfl (by decide) (by decide) (by decide) rfl rfl rfl (pa_cons (pe_ix ix_tup (pv 0) pe_int (fun _ _ => rfl)) (pa_cons (pe_callD G_free_in (hr.mono (by decide)) (pa_cons (pv 0) pa_nil)) (pa_cons (pe_lst pa_nil) pa_nil))) (by rfl))
      (pss_cons (ps_for PassesOwn.never rfl (pi_enumT rfl T.z_enumerate (pa_cons (pv 1) pa_nil)) (pg_tup (by rfl) (pgs_cons (pg_name (i := 4) sc_steps_in.nd rfl (Or.inl rfl)) (pgs_cons (pg_name (i := 5) sc_steps_in.nd rfl (Or.inr rfl)) pgs_nil))) (pss_cons (ps_expr (pe_bm PySem.F.plainAttrs_list PySem.F.slot_list_append PySem.F.type_list_append mt_append (pv 3) (pa_cons (pe_tup (pa_cons (pe_tup (pa_cons (pv 5) pa_nil)) (pa_cons (pe_tup pa_nil) pa_nil))) pa_nil)))
      (pss_cons (ps_for PassesOwn.never rfl (pi_tup (pv 5)) (pg_name (i := 6) sc_steps_in.nd rfl (Or.inr rfl)) (pss_one (ps_expr (pe_bm PySem.F.plainAttrs_list PySem.F.slot_list_extend PySem.F.type_list_extend mt_extend (pv 3) (pa_cons (pe_lc (own := [("other", 7)]) (g := (gName 7)) (by rfl) sc_steps_in.nd (pi_list (pv 2)) (blkOk_by (own := [("other", 7)]) (N := N_steps_in) (sc := defScope s_steps_in) (by decide +kernel)) (fun _ _ _ _ _ => (pg_name (i := 7) sc_steps_in.nd rfl (Or.inl rfl))) (fun _ _ _ _ _ => pts_nil) (fun _ _ _ _ _ => (pe_tup (pa_cons (pe_tup (pa_cons (pv 5) pa_nil)) (pa_cons (pe_tup (pa_cons (pe_callD G_joint_of (hr.mono (by decide)) (pa_cons (pv 6) (pa_cons (pv 7) pa_nil))) pa_nil)) pa_nil))))) pa_nil)))))
      (pss_one (ps_for PassesOwn.never rfl (pi_tup (pe_slice sl_tup (pv 1) (po_some (pe_op op_add (pv 4) pe_int)) po_none)) (pg_name (i := 7) sc_steps_in.nd rfl (Or.inl rfl)) (pss_one (ps_expr (pe_bm PySem.F.plainAttrs_list PySem.F.slot_list_extend PySem.F.type_list_extend mt_extend (pv 3) (pa_cons (pe_callD G_doubles_of (hr.mono (by decide)) (pa_cons (pv 5) (pa_cons (pv 7) pa_nil))) pa_nil)))))))))
      (pss_cons (ps_for PassesOwn.never rfl (pi_enum rfl T.z_enumerate (pa_cons (pv 2) pa_nil)) (pg_tup (by rfl) (pgs_cons (pg_name (i := 4) sc_steps_in.nd rfl (Or.inl rfl)) (pgs_cons (pg_name (i := 5) sc_steps_in.nd rfl (Or.inr rfl)) pgs_nil))) (pss_one (ps_expr (pe_bm PySem.F.plainAttrs_list PySem.F.slot_list_extend PySem.F.type_list_extend mt_extend (pv 3) (pa_cons (pe_lc (own := [("other", 7)]) (g := (gName 7)) (by rfl) sc_steps_in.nd (pi_list (pe_slice sl_list (pv 2) (po_some (pe_op op_add (pv 4) pe_int)) po_none)) (blkOk_by (own := [("other", 7)]) (N := N_steps_in) (sc := defScope s_steps_in) (by decide +kernel)) (fun _ _ _ _ _ => (pg_name (i := 7) sc_steps_in.nd rfl (Or.inl rfl))) (fun _ _ _ _ _ => pts_nil) (fun _ _ _ _ _ => (pe_tup (pa_cons (pe_tup pa_nil) (pa_cons (pe_tup (pa_cons (pe_tup (pa_cons (pv 5) (pa_cons (pv 7) pa_nil))) pa_nil)) pa_nil))))) pa_nil)))))
      (pss_one (ps_ret (pe_callB (cr_sortedE enc_S (by decide) (hu64 hr)) (by rfl) T.z_sorted bt_sorted (pa_cons (pv 3) pa_nil))))))), ?_⟩
    refine ⟨_, rfl, a, _, _, _, rfl, rfl, SqT.of ha, atI_nat (j := 1) rfl, ?_⟩
    refine ⟨_, rfl, .ref a, l, rfl, tl, g, fun H1 pf s1 hpf hF => ?_⟩
    refine ⟨Nat.zero_le _, fun f hf => ⟨_, _, _, rfl, ?_⟩⟩
    refine ⟨_, rfl, b, xs, rfl, (s1.trans (same_upd hf)) _ _ hb, ?_⟩
    refine for_it walk_enumT (fun i σ H' => ∃ y4 y5 y6 y7, σ = [some (.ref a), some (.ref b), some (.ref pf), some (.ref f), y4, y5, y6, y7] ∧ Fnd H1 f (((List.range i).flatMap (turnJ (freeL l) l.2)).map eS) H')
      ⟨none, none, none, none, rfl, Fnd.new hf⟩ (fun i σ H' _ p => ?_) (fun i x σ H' H'' hi p y => ?_) (fun σ H' p => ?_)
    · obtain ⟨_, _, _, _, _, p⟩ := p
      exact p.1 _ _ (s1 _ _ hb)
    · obtain ⟨y4, y5, y6, y7, rfl, fd⟩ := p
      obtain ⟨Tp, x0, x1, rfl, nT, rfl, ex0, ex1⟩ := y
      cases ex0
      have ex1 : xs[i]? = some x1 := ex1
      have sT : Same H' (upd H' Tp (.tup [.int (i : Nat), x1])) := same_upd nT
      have fT := fd.by sT
      obtain ⟨d, hd1, hd2⟩ := (hx.by (s1.trans fd.1)).get ex1
      rw [List.getElem?_map] at hd1
      cases hj : l.2[i]? with
      | none => rw [hj] at hd1; cases hd1
      | some j =>
        rw [hj] at hd1
        have : eJ j = d := Option.some.inj hd1
        subst this
        obtain ⟨c, rfl, hc⟩ := hd2.jI
        have hil : i < l.2.length := (List.getElem?_eq_some_iff.mp hj).1
        have hb1 := flat_len _ 80 hTJ i
        have hbt : ((List.range i).flatMap (turnJ (freeL l) l.2)).length ≤ 960 := by
          have : 80 * i ≤ 80 * 12 := Nat.mul_le_mul_left _ (by omega)
          omega
        refine ⟨Tp, _, rfl, SqT.of upd_same, rfl, _, _, rfl, _, _, rfl, rfl, ?_⟩
        -- found.append(((one,), ()))
        obtain ⟨_, _, ys, hys, htys⟩ := fT
        have hly := htys.len
        rw [List.length_map] at hly
        refine ⟨_, rfl, .inl ⟨rfl, _, SqL.of hys⟩, _, rfl, by show 1 ≤ sizeLine; decide, fun p1 hp1 => ⟨Nat.zero_le _, fun p2 hp2 => ⟨by show 2 ≤ sizeLine; decide, fun p3 hp3 => ?_⟩⟩⟩
        have k1 := same_upd (o := .tup [V.ref c]) hp1
        have k2 := same_upd (o := .tup []) hp2
        have k3 := same_upd (o := .tup [V.ref p1, V.ref p2]) hp3
        have kk := (k1.trans k2).trans k3
        refine ⟨f, _, _, rfl, rfl, kk _ _ hys, small1000 (by omega), ?_⟩
        have tc : TD H' (.ref c) (eJ j) := hd2
        have f1 := ((fd.by sT).by kk).more (zs := [V.ref p3]) (es := [eS ([j], [])]) (kk _ _ hys) (.cons (.tup upd_same (.cons (.tup (k3 _ _ (k2 _ _ upd_same)) (.cons (tc.by (sT.trans kk)) .nil)) (.cons (.tup (k3 _ _ upd_same) .nil) .nil))) .nil)
        -- for end in one
        have tu1 : TupS H' (upd (upd (upd (upd (upd H' Tp (.tup [.int (i : Nat), .ref c])) p1 (.tup [V.ref c])) p2 (.tup [])) p3 (.tup [V.ref p1, V.ref p2])) f (.lst (ys ++ [V.ref p3]))) := (sameTup (sT.trans kk)).trans (tupS_lst (kk _ _ hys))
        refine ⟨_, rfl, c, rfl, ⟨_, SqT.of (tu1 _ _ hc)⟩, ?_⟩
        refine for_tup (K := K) (a := c) (xs := [vN j.1, vN j.2]) (fun k σ H2 => ∃ y6 y7, σ = [some (.ref a), some (.ref b), some (.ref pf), some (.ref f), some (.int (i : Nat)), some (.ref c), y6, y7] ∧ TupS H' H2 ∧
            Fnd H1 f (((List.range i).flatMap (turnJ (freeL l) l.2)).map eS ++ [eS ([j], [])] ++ (shiftsP (freeL l) j ([j.1, j.2].take k)).map eS) H2)
          ⟨y6, y7, rfl, tu1, by simpa [shiftsP] using f1⟩ (fun k σ H2 _ p => ?_) (fun k x σ H2 hk p => ?_) (fun σ H2 p => ?_)
        · obtain ⟨_, _, _, t2, _⟩ := p
          exact SqT.of (t2 _ _ hc)
        · obtain ⟨z6, z7, rfl, t2, f2⟩ := p
          obtain ⟨e, rfl, hek⟩ : ∃ e : Nat, x = vN e ∧ [j.1, j.2][k]? = some e := by
            match k, hk with
            | 0, hk => exact ⟨j.1, (Option.some.inj hk).symm, rfl⟩
            | 1, hk => exact ⟨j.2, (Option.some.inj hk).symm, rfl⟩
            | k + 2, hk => exact absurd (List.getElem?_eq_some_iff.mp hk).1 (by simp)
          have hk2 : k < 2 := (List.getElem?_eq_some_iff.mp hek).1
          obtain ⟨_, _, zs, hzs, htz⟩ := id f2
          have hlz := htz.len
          have hsh : (shiftsP (freeL l) j ([j.1, j.2].take k)).length ≤ 48 := by
            unfold shiftsP
            match k, hk2 with
            | 0, _ => simp
            | 1, _ => simp; omega
          rw [List.length_append, List.length_append, List.length_map, List.length_map, List.length_singleton] at hlz
          refine ⟨_, rfl, .inl ⟨rfl, _, SqL.of hzs⟩, ?_⟩
          refine ⟨_, rfl, pf, rfl, ⟨_, SqL.of (f2.1 _ _ hF)⟩, fun D hD => ?_⟩
          refine lc_src (walk_list (K := K) (a := pf) (xs := (freeL l).map vN)) (l := freeL l) eS (fun z => some ([j], [jt e z])) hD (small1000 (by omega)) (tds_nats _) (fun H3 s3 => SqL.of (s3 _ _ (f2.1 _ _ hF))) (fun z x H3 N M hz s3 tx kN kM => ?_) (fun H3 ws s3 hw ht => ?_)
          · have hxz : x = vN z := TD.intI tx
            subst hxz
            refine ⟨rfl, ?_⟩
            refine ⟨_, rfl, by show 1 ≤ sizeLine; decide, fun q1 hq1 => ?_⟩
            have m1 := same_upd (o := .tup [V.ref c]) hq1
            refine ⟨_, rfl, _, rfl, e, z, rfl, fun H4 v4 s4 t4 => ?_⟩
            refine ⟨by show 1 ≤ sizeLine; decide, fun q2 hq2 => ⟨by show 2 ≤ sizeLine; decide, fun q3 hq3 => ?_⟩⟩
            have m2 := same_upd (o := .tup [v4]) hq2
            have m3 := same_upd (o := .tup [V.ref q1, V.ref q2]) hq3
            have tcj : TD H3 (.ref c) (eJ j) := (tc.to t2).by s3
            refine kN _ _ _ rfl (((m1.trans s4).trans m2).trans m3) ?_
            exact .tup upd_same (.cons (.tup (m3 _ _ (m2 _ _ (s4 _ _ upd_same))) (.cons (tcj.by (((m1.trans s4).trans m2).trans m3)) .nil)) (.cons (.tup (m3 _ _ upd_same) (.cons (t4.by (m2.trans m3)) .nil)) .nil))
          · rw [fm_some] at ht
            have hlw := ht.len
            rw [List.length_map, List.length_map] at hlw
            refine ⟨f, D, zs, ws, rfl, rfl, s3 _ _ hzs, hw, Nat.le_of_lt (small1000 (by omega)), ?_⟩
            refine ⟨_, _, rfl, t2.trans ((sameTup s3).trans (tupS_lst (s3 _ _ hzs))), ?_⟩
            have f3 := (f2.by s3).more (s3 _ _ hzs) ht
            have e1 : shiftsP (freeL l) j ([j.1, j.2].take (k + 1)) = shiftsP (freeL l) j ([j.1, j.2].take k) ++ (freeL l).map fun z => ([j], [jt e z]) := by
              rw [List.take_add_one, hek]
              unfold shiftsP
              rw [List.flatMap_append]
              simp
            rw [e1, List.map_append, ← List.append_assoc]
            exact f3
        · obtain ⟨z6, z7, rfl, t2, f2⟩ := p
          -- for other in joints[place + 1:]
          have hbx2 := f2.1 _ _ (s1 _ _ hb)
          refine ⟨_, rfl, _, rfl, _, _, rfl, rfl, _, rfl, b, xs, rfl, SqT.of hbx2, not_whole _ _ (by omega), fun sp hsp => ?_⟩
          rw [cutV_drop xs i (by omega)]
          have m0 := same_upd (o := .tup (xs.drop (i + 1))) hsp
          refine ⟨sp, rfl, ⟨_, SqT.of upd_same⟩, ?_⟩
          have e2 : ((List.range i).flatMap (turnJ (freeL l) l.2)).map eS ++ [eS ([j], [])] ++ (shiftsP (freeL l) j ([j.1, j.2].take 2)).map eS = ((List.range i).flatMap (turnJ (freeL l) l.2) ++ cutsL (freeL l) j).map eS := by
            rw [cutsL_eq, List.map_append, List.map_cons, List.append_assoc]
            rfl
          have f2' : Fnd H1 f (((List.range i).flatMap (turnJ (freeL l) l.2) ++ cutsL (freeL l) j).map eS) H2 := by
            rw [← e2]
            exact f2
          refine for_tup (K := K) (a := sp) (xs := xs.drop (i + 1)) (fun k σ H3 => ∃ y7, σ = [some (.ref a), some (.ref b), some (.ref pf), some (.ref f), some (.int (i : Nat)), some (.ref c), z6, y7] ∧ TupS H' H3 ∧ H3 sp = some (.tup (xs.drop (i + 1))) ∧
              Fnd H1 f (((List.range i).flatMap (turnJ (freeL l) l.2) ++ cutsL (freeL l) j ++ ((l.2.drop (i + 1)).take k).flatMap (doublesL j)).map eS) H3)
            ⟨z7, rfl, t2.trans (sameTup m0), upd_same, by simpa using f2'.by m0⟩ (fun k σ H3 _ p => ?_) (fun k x σ H3 hk p => ?_) (fun σ H3 p => ?_)
          · obtain ⟨_, _, _, h3, _⟩ := p
            exact SqT.of h3
          · obtain ⟨y7, rfl, t3, hsp3, f3⟩ := p
            have hx3 : TDs H3 (xs.drop (i + 1)) ((l.2.drop (i + 1)).map eJ) := by
              rw [List.map_drop]
              exact ((hx.by (s1.trans fd.1)).to t3).drop (i + 1)
            obtain ⟨d2, hd2, hd3⟩ := hx3.get hk
            rw [List.getElem?_map] at hd2
            cases hj2 : (l.2.drop (i + 1))[k]? with
            | none => rw [hj2] at hd2; cases hd2
            | some j2 =>
              rw [hj2] at hd2
              have : eJ j2 = d2 := Option.some.inj hd2
              subst this
              obtain ⟨_, _, zs, hzs, htz⟩ := id f3
              have hlz := htz.len
              have hdl := doubles_len j ((l.2.drop (i + 1)).take k)
              have hcl := cutsL_len (freeL l) j
              rw [List.length_map, List.length_append, List.length_append, hdl, hcl, List.length_take, List.length_drop] at hlz
              refine ⟨_, rfl, .inl ⟨rfl, _, SqL.of hzs⟩, ?_⟩
              refine ⟨_, rfl, _, rfl, .ref c, x, j, j2, rfl, tc.to t3, hd3, fun H4 p ws s4 hp hp' ht => ?_⟩
              have hlw := ht.len
              rw [List.length_map] at hlw
              have hlw2 : ws.length = 2 := hlw
              refine ⟨f, p, zs, ws, rfl, rfl, s4 _ _ hzs, hp', Nat.le_of_lt (small1000 (by omega)), ?_⟩
              have tf := tupS_lst (o := .lst (zs ++ ws)) (s4 _ _ hzs)
              refine ⟨_, rfl, t3.trans ((sameTup s4).trans tf), tf _ _ (s4 _ _ hsp3), ?_⟩
              have f4 := (f3.by s4).more (s4 _ _ hzs) ht
              rw [List.take_add_one, hj2, List.flatMap_append, ← List.append_assoc, List.map_append]
              simpa using f4
          · obtain ⟨y7, rfl, t3, hsp3, f3⟩ := p
            refine ⟨_, _, _, _, rfl, ?_⟩
            have e3 : (l.2.drop (i + 1)).take (xs.drop (i + 1)).length = l.2.drop (i + 1) := List.take_of_length_le (by rw [List.length_drop, List.length_drop]; omega)
            rw [e3] at f3
            rw [flat_succ]
            have e4 : turnJ (freeL l) l.2 i = cutsL (freeL l) j ++ (l.2.drop (i + 1)).flatMap (doublesL j) := by
              unfold turnJ
              rw [hj]
            rw [e4, ← List.append_assoc]
            exact f3
    · obtain ⟨y4, y5, y6, y7, rfl, fd⟩ := p
      have hbt : ((List.range xs.length).flatMap (turnJ (freeL l) l.2)).length ≤ 960 := by
        have hb1 := flat_len _ 80 hTJ xs.length
        have : 80 * xs.length ≤ 80 * 12 := Nat.mul_le_mul_left _ (by omega)
        omega
      have hw : Walk (Ite K pf) (freeL l).length (fun H => SqL K H pf ((freeL l).map vN)) (YPair (fun i => some (.int (i : Nat))) (fun i => ((freeL l).map vN)[i]?)) := by
        have := walk_enum (K := K) (a := pf) (xs := (freeL l).map vN)
        rw [List.length_map] at this
        exact this
      refine ⟨_, rfl, pf, _, rfl, SqL.of (fd.1 _ _ hF), ?_⟩
      refine for_it hw (fun i σ H' => ∃ y4 y5, σ = [some (.ref a), some (.ref b), some (.ref pf), some (.ref f), y4, y5, y6, y7] ∧ Fnd H1 f (((List.range xs.length).flatMap (turnJ (freeL l) l.2) ++ (List.range i).flatMap (turnF (freeL l))).map eS) H')
        ⟨y4, y5, rfl, by simpa using fd⟩ (fun i σ H' _ p => ?_) (fun i x σ H' H'' hi p y => ?_) (fun σ H' p => ?_)
      · obtain ⟨_, _, _, p⟩ := p
        exact SqL.of (p.1 _ _ hF)
      · obtain ⟨z4, z5, rfl, f2⟩ := p
        obtain ⟨Tp, x0, x1, rfl, nT, rfl, ex0, ex1⟩ := y
        cases ex0
        have ex1 : ((freeL l).map vN)[i]? = some x1 := ex1
        rw [List.getElem?_map] at ex1
        cases he : (freeL l)[i]? with
        | none => rw [he] at ex1; cases ex1
        | some e =>
          rw [he] at ex1
          have hx1 : x1 = vN e := (Option.some.inj ex1).symm
          subst hx1
          have sT : Same H' (upd H' Tp (.tup [.int (i : Nat), vN e])) := same_upd nT
          refine ⟨Tp, _, rfl, SqT.of upd_same, rfl, _, _, rfl, _, _, rfl, rfl, ?_⟩
          have fT := f2.by sT
          obtain ⟨_, _, zs, hzs, htz⟩ := id fT
          have hlz := htz.len
          have hb2 := flat_len _ 80 hTF i
          have hb3 : 80 * i ≤ 80 * 24 := Nat.mul_le_mul_left _ (by omega)
          rw [List.length_map, List.length_append] at hlz
          refine ⟨_, rfl, .inl ⟨rfl, _, SqL.of hzs⟩, ?_⟩
          refine ⟨_, rfl, _, rfl, _, _, rfl, rfl, _, rfl, pf, _, rfl, SqL.of (fT.1 _ _ hF), fun sp hsp => ?_⟩
          rw [cutV_drop _ i (by rw [List.length_map]; omega)]
          have m0 := same_upd (o := .lst (((freeL l).map vN).drop (i + 1))) hsp
          refine ⟨sp, rfl, ⟨_, SqL.of upd_same⟩, fun D hD => ?_⟩
          refine lc_src (walk_list (K := K) (a := sp)) (e0 := eNat) (l := (freeL l).drop (i + 1)) eS (fun z => some ([], [(e, z)])) hD (by rw [List.length_drop]; exact small1000 (by omega)) (by rw [← List.map_drop]; exact tds_nats _) (fun H3 s3 => SqL.of (s3 _ _ upd_same)) (fun z x H3 N M hz s3 tx kN kM => ?_) (fun H3 ws s3 hw ht => ?_)
          · have hxz : x = vN z := TD.intI tx
            subst hxz
            refine ⟨rfl, ?_⟩
            refine ⟨Nat.zero_le _, fun q1 hq1 => ?_⟩
            have m1 := same_upd (o := .tup []) hq1
            refine ⟨_, rfl, _, rfl, by show 2 ≤ sizeLine; decide, fun q2 hq2 => ⟨by show 1 ≤ sizeLine; decide, fun q3 hq3 => ⟨by show 2 ≤ sizeLine; decide, fun q4 hq4 => ?_⟩⟩⟩
            have m2 := same_upd (o := .tup [vN e, vN z]) hq2
            have m3 := same_upd (o := .tup [V.ref q2]) hq3
            have m4 := same_upd (o := .tup [V.ref q1, V.ref q3]) hq4
            refine kN _ _ _ rfl (((m1.trans m2).trans m3).trans m4) ?_
            exact .tup upd_same (.cons (.tup (m4 _ _ (m3 _ _ (m2 _ _ upd_same))) .nil) (.cons (.tup (m4 _ _ upd_same) (.cons (TD.jM (m4 _ _ (m3 _ _ upd_same))) .nil)) .nil))
          · rw [fm_some] at ht
            have hlw := ht.len
            rw [List.length_map, List.length_map, List.length_drop] at hlw
            have ss := m0.trans s3
            refine ⟨f, D, zs, ws, rfl, rfl, ss _ _ hzs, hw, (by rw [sizeLine_eq]; omega), ?_⟩
            have f3 := (fT.by ss).more (ss _ _ hzs) ht
            refine ⟨_, _, rfl, ?_⟩
            rw [flat_succ, ← List.append_assoc, List.map_append]
            have e4 : turnF (freeL l) i = ((freeL l).drop (i + 1)).map fun z => (([] : List Jt), [(e, z)]) := by
              unfold turnF
              rw [he]
            rw [e4]
            exact f3
      · obtain ⟨z4, z5, rfl, f2⟩ := p
        obtain ⟨h1, h2, zs, hzs, htz⟩ := f2
        rw [hlx] at htz
        refine ⟨_, rfl, f, zs, _, rfl, SqL.of hzs, htz, srt_S _, fun ws p hp ht => ?_⟩
        exact q _ _ _ _ ((s1.trans h1).trans (same_upd hp)) ((s1.trans h1).free hp) upd_same (ht.by (same_upd hp)) (List.mergeSort_perm _ _)
end
end DC
end

section
set_option Elab.async false
set_option linter.all false
set_option maxRecDepth 100000
set_option maxHeartbeats 4000000
namespace DC
open PySem PySem.Spec PyProof.Rows L2
section
variable {P : Program} {w : World} {K : PySem.W.Frag} {mg : Str → Option Value} {base : Heap}
/-- a step's joints are joints of n links, few -/
def FormS (n : Nat) (st : Stp) : Prop := (∀ j, j ∈ st.1 ∨ j ∈ st.2 → j.1 < j.2 ∧ j.2 < 2 * n) ∧ st.1.length ≤ 100 ∧ st.2.length ≤ 100
def IsS (l : Lay) (st : Stp) : Prop := (st.1.length ≤ 2 ∧ st.2.length ≤ 2) ∧ st ∈ stepsL l
instance (l : Lay) (st : Stp) : Decidable (IsS l st) := inferInstanceAs (Decidable (_ ∧ _))
def sp_is_step_in : Sp := fun vs H Q _ => ∃ (v u : V) (l : Lay) (st : Stp), vs = [v, u] ∧ TD H v (eL l) ∧ TD H u (eS st) ∧ GoodL l ∧ FormS l.1 st ∧ ∀ H', Same H H' → Q (.bl (decide (IsS l st))) H'
theorem ok_is_step_in (T : TX K mg) : Ok P w K mg base 4 "is_step_in" ["lay", "value"] sp_is_step_in := by
  have G_has_form := ok_has_form (P := P) (w := w) (base := base) T
  have G_steps_in := ok_steps_in (P := P) (w := w) (base := base) T
  refine ok_of (k := 3) T.f_is_step_in sc_is_step_in (fun _ _ _ _ _ _ us hl => match us, hl with | [_, _], _ => rfl) (fun vs H Q E h => ?_) (fun cdv A outer s H vs Q E hr h => ?_)
  · obtain ⟨v, u, l, s, rfl, _⟩ := h
    rfl
  · obtain ⟨v, u, l, st, rfl, tl, ts, g, ⟨hj, h1, h2⟩, q⟩ := h
    refine ⟨_, (pss_one (ps_ret (pe_and (pe_callD G_has_form (hr.mono (by decide)) (pa_cons (pv 0) (pa_cons (pv 1) pa_nil))) (pe_one (pe_cmpR (op_inE enc_S (by decide) (hu65 hr)) (pv 1) (pe_callD G_steps_in (hr.mono (by decide)) (pa_cons (pv 0) pa_nil)) (by rfl)))))), ?_⟩
    refine ⟨_, rfl, _, rfl, v, u, l, st, rfl, tl, ts, g.few, hj, h1, h2, fun H1 k s1 hk => ?_⟩
    refine ⟨_, rfl, ?_⟩
    refine ite2 (fun e => ?_) (fun e => ?_)
    · refine ⟨_, rfl, _, rfl, v, l, rfl, tl.by s1, g, fun H2 p ys ss s2 _ hp ht pm => ?_⟩
      refine ⟨p, ys, ss, st, rfl, .inr (SqL.of hp), ht, ts.by (s1.trans s2), decide (st ∈ ss), by simp, ?_⟩
      refine qbl (Q := Q) ?_ (q _ (s1.trans s2))
      refine decide_eq_decide.mpr ?_
      rw [pm.mem_iff]
      exact ⟨fun z => ⟨hk.mp e, z⟩, fun z => z.2⟩
    · refine qbl (Q := Q) ?_ (q _ s1)
      have : ¬ IsS l st := fun z => e (hk.mpr z.1)
      rw [decide_eq_false this]
def stepB (a b : Lay) : Stp := (cutL a b, cutL b a)
def sp_step_between : Sp := fun vs H Q _ => ∃ (v u : V) (a b : Lay), vs = [v, u] ∧ TD H v (eL a) ∧ TD H u (eL b) ∧ GoodL a ∧ GoodL b ∧ a.1 = b.1 ∧
  (IsS a (stepB a b) → ∀ H' r, Same H H' → TD H' r (eS (stepB a b)) → Q r H') ∧ (¬ IsS a (stepB a b) → ∀ H', Same H H' → Q .non H')
theorem cutL_len (a b : Lay) : (cutL a b).length ≤ a.2.length := List.length_filter_le _ _
theorem ok_step_between (T : TX K mg) : Ok P w K mg base 6 "step_between" ["one", "other"] sp_step_between := by
  have G_need_two := ok_need_two (P := P) (w := w) (base := base) T
  have G_is_step_in := ok_is_step_in (P := P) (w := w) (base := base) T
  refine ok_of (k := 5) T.f_step_between sc_step_between (fun _ _ _ _ _ _ us hl => match us, hl with | [_, _], _ => rfl) (fun vs H Q E h => ?_) (fun cdv A outer s H vs Q E hr h => ?_)
  · obtain ⟨v, u, l, s, rfl, _⟩ := h
    rfl
  · obtain ⟨v, u, a, b, rfl, ta, tb, ga, gb, hab, q1, q2⟩ := h
    obtain ⟨c, c2, xs, rfl, hc, hc2, hx⟩ := ta.lI
    obtain ⟨d, d2, ys, rfl, hd, hd2, hy⟩ := tb.lI
    have la := ga.len
    have lb := gb.len
    have l1 := cutL_len a b
    have l2 := cutL_len b a
    refine ⟨_, (pss_cons (ps_expr (pe_callD G_need_two (hr.mono (by decide)) (pa_cons (pv 0) (pa_cons (pv 1) pa_nil))))
      (pss_cons (ps_set (i := 2) sc_step_between.nd rfl (Or.inl rfl) (pe_callTy call_tuple_of (by rfl) T.z_tuple bt_tuple (pa_cons (pe_lc (own := [("joint", 4)]) (g := (gName 4)) (by rfl) sc_step_between.nd (pi_tup (pe_ix ix_tup (pv 0) pe_int (fun _ _ => rfl))) (blkOk_by (own := [("joint", 4)]) (N := N_step_between) (sc := defScope s_step_between) (by decide +kernel)) (fun _ _ _ _ _ => (pg_name (i := 4) sc_step_between.nd rfl (Or.inl rfl))) (fun _ _ _ _ _ => pts_one (pt_cmpR (op_notInEK (K := K) enc_J (by decide) (hu65 hr) rfl) (pv 4) (pe_ix (ix_tupK (K := K) rfl) (pv 1) pe_int (fun _ _ => rfl)) (by rfl))) (fun _ _ _ _ _ => (pv 4))) pa_nil)))
      (pss_cons (ps_set (i := 3) sc_step_between.nd rfl (Or.inl rfl) (pe_callTy call_tuple_of (by rfl) T.z_tuple bt_tuple (pa_cons (pe_lc (own := [("joint", 4)]) (g := (gName 4)) (by rfl) sc_step_between.nd (pi_tup (pe_ix ix_tup (pv 1) pe_int (fun _ _ => rfl))) (blkOk_by (own := [("joint", 4)]) (N := N_step_between) (sc := defScope s_step_between) (by decide +kernel)) (fun _ _ _ _ _ => (pg_name (i := 4) sc_step_between.nd rfl (Or.inl rfl))) (fun _ _ _ _ _ => pts_one (pt_cmpR (op_notInEK (K := K) enc_J (by decide) (hu65 hr) rfl) (pv 4) (pe_ix (ix_tupK (K := K) rfl) (pv 0) pe_int (fun _ _ => rfl)) (by rfl))) (fun _ _ _ _ _ => (pv 4))) pa_nil)))
      (pss_one (ps_ret (pe_ifExp (pt_val (pe_callD G_is_step_in (hr.mono (by decide)) (pa_cons (pv 0) (pa_cons (pe_tup (pa_cons (pv 2) (pa_cons (pv 3) pa_nil))) pa_nil)))) (pe_tup (pa_cons (pv 2) (pa_cons (pv 3) pa_nil))) pe_non)))))), ?_⟩
    refine ⟨_, rfl, _, rfl, .ref c, .ref d, a, b, rfl, ta, tb, ga, gb, hab, fun H1 r1 s1 => ?_⟩
    refine ⟨_, rfl, c, _, _, _, rfl, rfl, SqT.of (s1 _ _ hc), atI_nat (j := 1) rfl, c2, rfl, ⟨_, SqT.of (s1 _ _ hc2)⟩, fun D hD => ?_⟩
    refine lc_src (walk_tup (K := K) (a := c2)) eJ (fun j => if (!decide (j ∈ b.2)) = true then some j else none) hD (small1000 (by omega)) (hx.by s1) (fun H s => SqT.of ((s1.trans s) _ _ hc2)) (fun j x H' N M hj s tx kN kM => ?_) (fun H2 ws s2 hw ht => ?_)
    · refine ⟨rfl, _, rfl, _, rfl, d, _, _, _, rfl, rfl, SqT.of ((s1.trans s) _ _ hd), atI_nat (j := 1) rfl, ?_⟩
      refine ⟨d2, ys, b.2, j, rfl, .inl (SqT.of ((s1.trans s) _ _ hd2)), hy.by (s1.trans s), tx, !decide (j ∈ b.2), by simp, _, rfl, ?_⟩
      refine ite2 (fun e => ?_) (fun e => ?_)
      · exact ⟨_, rfl, kN _ _ j (if_pos e) (Same.refl _) tx⟩
      · exact kM _ (if_neg e) (Same.refl _)
    · rw [fm_filter] at ht
      have t2 := s1.trans s2
      refine ⟨D, ws, rfl, .inl ⟨SqL.of hw, fun p hp => ?_⟩⟩
      have s3 := t2.trans (same_upd (o := .tup ws) hp)
      refine ⟨_, rfl, d, _, _, _, rfl, rfl, SqT.of (s3 _ _ hd), atI_nat (j := 1) rfl, d2, rfl, ⟨_, SqT.of (s3 _ _ hd2)⟩, fun D2 hD2 => ?_⟩
      refine lc_src (walk_tup (K := K) (a := d2)) eJ (fun j => if (!decide (j ∈ a.2)) = true then some j else none) hD2 (small1000 (by omega)) (hy.by s3) (fun H s => SqT.of ((s3.trans s) _ _ hd2)) (fun j x H' N M hj s tx kN kM => ?_) (fun H4 us s4 hu ht2 => ?_)
      · refine ⟨rfl, _, rfl, _, rfl, c, _, _, _, rfl, rfl, SqT.of ((s3.trans s) _ _ hc), atI_nat (j := 1) rfl, ?_⟩
        refine ⟨c2, xs, a.2, j, rfl, .inl (SqT.of ((s3.trans s) _ _ hc2)), hx.by (s3.trans s), tx, !decide (j ∈ a.2), by simp, _, rfl, ?_⟩
        refine ite2 (fun e => ?_) (fun e => ?_)
        · exact ⟨_, rfl, kN _ _ j (if_pos e) (Same.refl _) tx⟩
        · exact kM _ (if_neg e) (Same.refl _)
      · rw [fm_filter] at ht2
        have t4 := s3.trans s4
        refine ⟨D2, us, rfl, .inl ⟨SqL.of hu, fun p2 hp2 => ?_⟩⟩
        have s5 := t4.trans (same_upd (o := .tup us) hp2)
        have tp := (s4.trans (same_upd (o := .tup us) hp2))
        have hp5 : upd H4 p2 (.tup us) p = some (.tup ws) := tp _ _ upd_same
        have tw : TDs (upd H4 p2 (.tup us)) ws ((cutL a b).map eJ) := (ht.by (same_upd (o := .tup ws) hp)).by tp
        have tu : TDs (upd H4 p2 (.tup us)) us ((cutL b a).map eJ) := ht2.by (same_upd hp2)
        have tS : ∀ (H' : Hp) (r : Addr), Same (upd H4 p2 (.tup us)) H' → H' r = some (.tup [.ref p, .ref p2]) → TD H' (.ref r) (eS (stepB a b)) := fun H' r ss hr => .tup hr (.cons (.tup (ss _ _ hp5) (tw.by ss)) (.cons (.tup (ss _ _ upd_same) (tu.by ss)) .nil))
        refine ⟨_, rfl, _, rfl, _, rfl, by show 2 ≤ sizeLine; decide, fun r hr => ?_⟩
        have s6 := same_upd (o := .tup [V.ref p, V.ref p2]) hr
        refine ⟨.ref c, .ref r, a, stepB a b, rfl, ta.by (s5.trans s6), tS _ r s6 upd_same, ga, ⟨fun j hj => ?_, ?_, ?_⟩, fun H7 s7 => ?_⟩
        · rcases hj with hj | hj
          · exact ga.j.lt j (List.mem_filter.mp hj).1
          · rw [hab]
            exact gb.j.lt j (List.mem_filter.mp hj).1
        · show (cutL a b).length ≤ 100
          omega
        · show (cutL b a).length ≤ 100
          omega
        · have t7 := s6.trans s7
          refine ⟨_, rfl, ?_⟩
          refine ite2 (fun e => ?_) (fun e => ?_)
          · refine ⟨_, rfl, _, rfl, by show 2 ≤ sizeLine; decide, fun r2 hr2 => ?_⟩
            have s8 := t7.trans (same_upd (o := .tup [V.ref p, V.ref p2]) hr2)
            exact q1 (of_decide_eq_true e) _ _ (s5.trans s8) (tS _ r2 s8 upd_same)
          · exact q2 (fun z => e (decide_eq_true z)) _ (s5.trans t7)
end
end DC
end

section
set_option Elab.async false
set_option linter.all false
set_option maxRecDepth 100000
set_option maxHeartbeats 4000000
namespace DC
open PySem PySem.Spec PyProof.Rows L2
section
variable {P : Program} {w : World} {K : PySem.W.Frag} {mg : Str → Option Value} {base : Heap}
/-- the other end of an end's link -/
def fel (n : Nat) : Nat := if n % 2 = 0 then n + 1 else n - 1
theorem fel_xor : ∀ n : Fin 24, PySem.Builtin.bitXor (n.val : Int) 1 = ((fel n.val : Nat) : Int) := by decide +kernel
def sp_fellow_of : Sp := fun vs H Q _ => ∃ n : Nat, vs = [vN n] ∧ n < 24 ∧ Q (vN (fel n)) H
theorem ok_fellow_of (T : TX K mg) : Ok P w K mg base 1 "fellow_of" ["end"] sp_fellow_of := by
  refine ok_of (k := 0) T.f_fellow_of sc_fellow_of (fun _ _ _ _ _ _ us hl => match us, hl with | [_], _ => rfl) (fun vs H Q E h => ?_) (fun cdv A outer s H vs Q E hr h => ?_)
  · obtain ⟨n, rfl, _⟩ := h
    rfl
  · obtain ⟨n, rfl, hn, q⟩ := h
    refine ⟨_, (pss_one (ps_ret (pe_op op_xor (pv 0) pe_int))), ?_⟩
    refine ⟨_, rfl, _, _, rfl, rfl, ?_⟩
    have := fel_xor ⟨n, hn⟩
    have e : PySem.Builtin.bitXor (n : Int) 1 = ((fel n : Nat) : Int) := this
    show Q (.int (PySem.Builtin.bitXor (n : Int) 1)) H
    rw [e]
    exact q
/-- an order of n links, each with a sign -/
def Order (n : Nat) (o : List Int) : Prop := o.length = n ∧ (o.map Int.natAbs).Perm ((List.range n).map (· + 1))
theorem Order.abs {n : Nat} {o : List Int} (h : Order n o) {z : Int} (hz : z ∈ o) : 1 ≤ z.natAbs ∧ z.natAbs ≤ n := by
  have h1 : z.natAbs ∈ o.map Int.natAbs := List.mem_map.mpr ⟨z, hz, rfl⟩
  obtain ⟨i, hi, e⟩ := List.mem_map.mp (h.2.mem_iff.mp h1)
  have := List.mem_range.mp hi
  omega
def absL (o : List Int) : List Int := o.map fun z => ((z.natAbs : Nat) : Int)
theorem rgV_nat (n : Nat) : rgV 1 ((n : Int) + 1) = ((List.range n).map fun i : Nat => ((i : Int) + 1)).map V.int := by
  unfold rgV
  have e : (((n : Int) + 1) - 1).toNat = n := by omega
  rw [e, List.map_map]
  refine List.map_congr_left fun i _ => ?_
  show V.int (1 + (i : Int)) = V.int ((i : Int) + 1)
  rw [Int.add_comm]
theorem Order.sorted {n : Nat} {o : List Int} (h : Order n o) : (absL o).mergeSort (fun a b => decide (a ≤ b)) = (List.range n).map fun i : Nat => ((i : Int) + 1) := by
  have p1 : (absL o).Perm ((List.range n).map fun i : Nat => ((i : Int) + 1)) := by
    have := h.2.map (fun k : Nat => (k : Int))
    rw [List.map_map, List.map_map] at this
    exact this
  have p2 := (List.mergeSort_perm (absL o) fun a b => decide (a ≤ b)).trans p1
  refine List.Perm.eq_of_pairwise (le := fun a b => a ≤ b) (fun a b _ _ h1 h2 => Int.le_antisymm h1 h2) ?_ ?_ p2
  · refine (List.pairwise_mergeSort (fun a b c h1 h2 => ?_) (fun a b => ?_) (absL o)).imp fun z => of_decide_eq_true z
    · exact decide_eq_true (Int.le_trans (of_decide_eq_true h1) (of_decide_eq_true h2))
    · rw [Bool.or_eq_true, decide_eq_true_eq, decide_eq_true_eq]
      exact Int.le_total a b
  · rw [List.pairwise_map]
    exact (List.pairwise_lt_range (n := n)).imp fun z => by omega
def sp_is_order : Sp := fun vs H Q _ => ∃ (n : Nat) (v : V) (o : List Int), vs = [vN n, v] ∧ TD H v (eT eInt o) ∧ Order n o ∧ n ≤ 12 ∧ ∀ H', Same H H' → Q (.bl true) H'
theorem ok_is_order (T : TX K mg) : Ok P w K mg base 2 "is_order" ["links", "value"] sp_is_order := by
  have G_is_whole := ok_is_whole (P := P) (w := w) (base := base) T
  refine ok_of (k := 1) T.f_is_order sc_is_order (fun _ _ _ _ _ _ us hl => match us, hl with | [_, _], _ => rfl) (fun vs H Q E h => ?_) (fun cdv A outer s H vs Q E hr h => ?_)
  · obtain ⟨n, v, o, rfl, _⟩ := h
    rfl
  · obtain ⟨n, v, o, rfl, tv, ho, hn, q⟩ := h
    obtain ⟨a, xs, rfl, ha, hx⟩ := tv.listI
    have hlx := hx.len
    rw [List.length_map, ho.1] at hlx
    refine ⟨_, (pss_cons (ps_if (PW.pt (pw_or (pt_not (pt_val (pe_callB call_isi (by rfl) T.z_isinstance bt_isinstance (pa_cons (pv 1) (pa_cons (pe_bltn (v := .ty "tuple") (by rfl) T.z_tuple bt_tuple rfl) pa_nil))))) (pw_or1 (pt_cmpR op_ne (pe_callB call_len_seq (by rfl) T.z_len bt_len (pa_cons (pv 1) pa_nil)) (pv 0) (nomark _))))) (pss_one (ps_ret pe_bl)) pss_nil)
      (pss_cons (ps_if (pt_not (pt_val (pe_callB (cr_all rfl) (by rfl) T.z_all bt_all (pa_cons (pe_lc (own := [("name", 2)]) (g := (gName 2)) (by rfl) sc_is_order.nd (pi_tup (pv 1)) (blkOk_by (own := [("name", 2)]) (N := N_is_order) (sc := defScope s_is_order) (by decide +kernel)) (fun _ _ _ _ _ => (pg_name (i := 2) sc_is_order.nd rfl (Or.inl rfl))) (fun _ _ _ _ _ => pts_nil) (fun _ _ _ _ _ => (pe_callD G_is_whole (hr.mono (by decide)) (pa_cons (pv 2) (pa_cons (pe_un un_neg (pv 0)) (pa_cons (pv 0) pa_nil)))))) pa_nil)))) (pss_one (ps_ret pe_bl)) pss_nil)
      (pss_one (ps_ret (pe_cmpR (op_eqLE enc_int (by decide) (hu64 hr)) (pe_callB (cr_sortedE enc_int (by decide) (hu64 hr)) (by rfl) T.z_sorted bt_sorted (pa_cons (pe_lc (own := [("name", 2)]) (g := (gName 2)) (by rfl) sc_is_order.nd (pi_tup (pv 1)) (blkOk_by (own := [("name", 2)]) (N := N_is_order) (sc := defScope s_is_order) (by decide +kernel)) (fun _ _ _ _ _ => (pg_name (i := 2) sc_is_order.nd rfl (Or.inl rfl))) (fun _ _ _ _ _ => pts_nil) (fun _ _ _ _ _ => (pe_callB call_abs (by rfl) T.z_abs bt_abs (pa_cons (pv 2) pa_nil)))) pa_nil)) (pe_listRg rfl rfl T.z_list (prg_2 rfl T.z_range pe_int (pe_op op_add (pv 0) pe_int))) (nomark _)))))), ?_⟩
    refine ⟨_, rfl, _, _, _, _, true, rfl, .ty "tuple", .base (.tup ha), kit_ty (by decide +kernel), true, rfl, ?_⟩
    refine ⟨_, rfl, _, _, rfl, .inr (SqT.of ha), _, rfl, rfl, _, rfl, ?_⟩
    rw [hlx]
    refine iteNS (by simp [vN]) ?_
    refine ⟨_, rfl, a, rfl, ⟨_, SqT.of ha⟩, fun D hD => ?_⟩
    refine lc_src (walk_tup (K := K) (a := a)) (fun b => PyData.bool b) (fun _ : Int => some true) hD (by rw [ho.1]; exact small1000 (by omega)) hx (fun H s => SqT.of (s _ _ ha)) (fun z x H2 N M hm s tx kN kM => ?_) (fun H2 bs s hw ht => ?_)
    · have hxz : x = .int z := TD.intI tx
      subst hxz
      refine ⟨rfl, ?_⟩
      have hz := ho.abs hm
      refine ⟨_, rfl, _, rfl, _, rfl, _, rfl, z, -(n : Int), (n : Int), rfl, ?_⟩
      have e1 : decide (-(n : Int) ≤ z ∧ z ≤ (n : Int)) = true := decide_eq_true (by omega)
      rw [e1]
      exact kN _ _ true rfl (Same.refl _) (.bl true)
    · have hall : o.filterMap (fun _ : Int => some true) = o.map fun _ => true := by
        rw [List.filterMap_eq_map']
      rw [hall] at ht
      have ey := tds_bools_inv ht
      subst ey
      have eall : (o.map fun _ : Int => true).all id = true := by simp
      refine ⟨D, o.map fun _ => true, rfl, SqL.of hw, ?_⟩
      rw [eall]
      refine ⟨true, rfl, ?_⟩
      refine ⟨_, rfl, a, rfl, ⟨_, SqT.of (s _ _ ha)⟩, fun D2 hD2 => ?_⟩
      refine lc_src (walk_tup (K := K) (a := a)) eInt (fun z : Int => some ((z.natAbs : Nat) : Int)) hD2 (by rw [ho.1]; exact small1000 (by omega)) (hx.by s) (fun H s2 => SqT.of ((s.trans s2) _ _ ha)) (fun z x H3 N M hm s2 tx kN kM => ?_) (fun H3 bs s2 hw2 ht2 => ?_)
      · have hxz : x = .int z := TD.intI tx
        subst hxz
        refine ⟨rfl, ?_⟩
        refine ⟨_, rfl, z, rfl, ?_⟩
        have e1 : (if z < 0 then -z else z) = ((z.natAbs : Nat) : Int) := by omega
        rw [e1]
        exact kN _ _ _ rfl (Same.refl _) (.int _)
      · have hab : o.filterMap (fun z : Int => some ((z.natAbs : Nat) : Int)) = absL o := by
          rw [List.filterMap_eq_map']
          rfl
        rw [hab] at ht2
        refine ⟨D2, bs, absL o, rfl, SqL.of hw2, ht2, srt_I _, fun zs p hp tz => ?_⟩
        rw [int_data, ho.sorted] at tz
        have s3 := same_upd (o := .lst zs) hp
        refine ⟨_, rfl, n, 1, rfl, rfl, 1, _, rfl, rfl, RgOk.of_le (by decide) (by omega) (by decide) (by omega), fun p2 hp2 => ?_⟩
        have s4 := same_upd (o := .lst (rgV 1 ((n : Int) + 1))) hp2
        refine ⟨p, p2, zs, _, (List.range n).map fun i : Nat => ((i : Int) + 1), _, rfl, rfl, SqL.of (s4 _ _ upd_same), SqL.of upd_same, (tz.by s3).by s4, ?_, true, ⟨fun _ => rfl, fun _ => rfl⟩, ?_⟩
        · rw [rgV_nat]
          exact tds_ints _
        · exact q _ (((s.trans s2).trans s3).trans s4)
end
end DC
end

section
set_option Elab.async false
set_option linter.all false
set_option maxRecDepth 100000
set_option maxHeartbeats 4000000
namespace DC
open PySem PySem.Spec PyProof.Rows L2
section
variable {P : Program} {w : World} {K : PySem.W.Frag} {mg : Str → Option Value} {base : Heap}
theorem dget_of {H : Hp} {a : Addr} {kvs : List (Key × V)} {k : Key} {v : V} (e : H a = some (.dK kvs)) (h : valV kvs k = some v) : DGet H a (kV k) (some v) := h ▸ DGet.k e
theorem merge2 {kvs : List (Key × V)} {k1 k2 : Key} {v1 v2 : V} (h : k1 ≠ k2) : mergeK kvs (mergeK [] [(k1, v1), (k2, v2)]) = putK (putK kvs k1 v1) k2 v2 := by
  have e : mergeK [] [(k1, v1), (k2, v2)] = [(k1, v1), (k2, v2)] := by
    unfold mergeK
    show putK (putK [] k1 v1) k2 v2 = _
    rw [putK_new (kvs := []) v1 rfl]
    show putK [(k1, v1)] k2 v2 = _
    rw [putK_new (kvs := [(k1, v1)]) v2 (valV_neg (p := (k1, v1)) h)]
    rfl
  rw [e]
  rfl
theorem nameE_even (o : List Int) (i : Nat) {z : Int} (h : o[i]? = some z) : nameE o (2 * i) = 2 * (z.natAbs - 1) + (if z < 0 then 1 else 0) := by
  unfold nameE
  have e : 2 * i / 2 = i := by omega
  rw [e, h]
  simp
theorem nameE_odd (o : List Int) (i : Nat) {z : Int} (h : o[i]? = some z) : nameE o (2 * i + 1) = fel (2 * (z.natAbs - 1) + (if z < 0 then 1 else 0)) := by
  unfold nameE fel
  have e : (2 * i + 1) / 2 = i := by omega
  rw [e, h]
  have e2 : ¬ (2 * i + 1) % 2 = 0 := by omega
  simp only [e2, if_false]
def sp_renamed : Sp := fun vs H Q _ => ∃ (v u : V) (l : Lay) (o : List Int), vs = [v, u] ∧ TD H v (eL l) ∧ TD H u (eT eInt o) ∧ GoodL l ∧ Order l.1 o ∧ ∀ H' r, Same H H' → TD H' r (eL (renameL l o)) → Q r H'
theorem ok_renamed (T : TX K mg) : Ok P w K mg base 5 "renamed" ["lay", "order"] sp_renamed := by
  have G_need_lay := ok_need_lay (P := P) (w := w) (base := base) T
  have G_is_order := ok_is_order (P := P) (w := w) (base := base) T
  have G_fellow_of := ok_fellow_of (P := P) (w := w) (base := base) T
  have G_joint_of := ok_joint_of (P := P) (w := w) (base := base) T
  have G_lay_with := ok_lay_with (P := P) (w := w) (base := base) T
  refine ok_of (k := 4) T.f_renamed sc_renamed (fun _ _ _ _ _ _ us hl => match us, hl with | [_, _], _ => rfl) (fun vs H Q E h => ?_) (fun cdv A outer s H vs Q E hr h => ?_)
  · obtain ⟨v, u, l, o, rfl, _⟩ := h
    rfl
  · obtain ⟨v, u, l, o, rfl, tl, tu, g, ho, q⟩ := h
    obtain ⟨a, b, xs, rfl, ha, hb, hx⟩ := tl.lI
    obtain ⟨c, zs, rfl, hc, hz⟩ := tu.listI
    have hzs := tds_ints_inv hz
    subst hzs
    have hf := g.few
    have hlo := ho.1
    have hl12 := g.len
    have hlx := hx.len
    rw [List.length_map] at hlx
    refine ⟨_, (pss_cons (ps_expr (pe_callD G_need_lay (hr.mono (by decide)) (pa_cons (pv 0) pa_nil)))
      (pss_cons (ps_if (pt_not (pt_val (pe_callD G_is_order (hr.mono (by decide)) (pa_cons (pe_ix ix_tup (pv 0) pe_int (fun _ _ => rfl)) (pa_cons (pv 1) pa_nil))))) (pss_one ps_never) pss_nil)
      (pss_cons (ps_set (i := 2) sc_renamed.nd rfl (Or.inr rfl) pe_dnewK)
      (pss_cons (ps_for PassesOwn.never rfl (pi_enumT rfl T.z_enumerate (pa_cons (pv 1) pa_nil)) (pg_tup (by rfl) (pgs_cons (pg_name (i := 3) sc_renamed.nd rfl (Or.inl rfl)) (pgs_cons (pg_name (i := 4) sc_renamed.nd rfl (Or.inl rfl)) pgs_nil))) (pss_cons (ps_set (i := 5) sc_renamed.nd rfl (Or.inl rfl) (pe_op op_add (pe_op op_mul pe_int (pe_op op_sub (pe_callB call_abs (by rfl) T.z_abs bt_abs (pa_cons (pv 4) pa_nil)) pe_int)) (pe_ifExp (pt_cmpR op_lt (pv 4) pe_int (nomark _)) pe_int pe_int)))
      (pss_one (ps_expr (pe_bm PySem.F.plainAttrs_dict PySem.F.slot_dict_update PySem.F.type_dict_update mt_update (pv 2) (pa_cons (pe_disp (pps_cons (pe_op op_mul pe_int (pv 3)) (pv 5) (pps_cons (pe_op op_add (pe_op op_mul pe_int (pv 3)) pe_int) (pe_callD G_fellow_of (hr.mono (by decide)) (pa_cons (pv 5) pa_nil)) pps_nil)) (by rfl) (by rfl) (fun z => by cases z) (by decide)) pa_nil))))))
      (pss_one (ps_ret (pe_callD G_lay_with (hr.mono (by decide)) (pa_cons (pe_ix ix_tup (pv 0) pe_int (fun _ _ => rfl)) (pa_cons (pe_lc (own := [("one", 6), ("other", 7)]) (g := (gTup K 2 (gCons (gName 6) (gCons (gName 7) gNil)))) (by rfl) sc_renamed.nd (pi_tup (pe_ix ix_tup (pv 0) pe_int (fun _ _ => rfl))) (blkOk_by (own := [("one", 6), ("other", 7)]) (N := N_renamed) (sc := defScope s_renamed) (by decide +kernel)) (fun _ _ _ _ _ => (pg_tup (by rfl) (pgs_cons (pg_name (i := 6) sc_renamed.nd rfl (Or.inl rfl)) (pgs_cons (pg_name (i := 7) sc_renamed.nd rfl (Or.inl rfl)) pgs_nil)))) (fun _ _ _ _ _ => pts_nil) (fun _ _ _ _ _ => (pe_callD G_joint_of (hr.mono (by decide)) (pa_cons (pe_dget (hu_of hr) (pv 2) (pv 6) (fun _ _ => rfl)) (pa_cons (pe_dget (hu_of hr) (pv 2) (pv 7) (fun _ _ => rfl)) pa_nil))))) pa_nil))))))))), ?_⟩
    refine ⟨_, rfl, _, l, rfl, tl, g, fun H1 s1 => ?_⟩
    refine ⟨_, rfl, a, _, _, _, rfl, rfl, SqT.of (s1 _ _ ha), atI_nat (j := 0) rfl, _, rfl, ?_⟩
    refine ⟨l.1, _, o, rfl, tu.by s1, ho, hf, fun H2 s2 => ?_⟩
    refine ⟨true, rfl, fun du hdu => ?_⟩
    have s12 := s1.trans s2
    have s3 := s12.trans (same_upd (o := .dK []) hdu)
    have hdu0 : H du = none := s12.free hdu
    refine ⟨_, rfl, c, _, rfl, s3 _ _ hc, ?_⟩
    refine for_it walk_enumT (fun i σ H' => ∃ (y3 y4 y5 : Option V) (kvs : List (Key × V)), σ = [some (.ref a), some (.ref c), some (.ref du), y3, y4, y5, none, none] ∧ Same H H' ∧ H' du = some (.dK kvs) ∧ kvs.length ≤ 2 * i ∧
      ∀ e : Nat, e < 2 * i → valV kvs (.inl (e : Int)) = some (vN (nameE o e)))
      ⟨none, none, none, [], rfl, s3, upd_same, Nat.zero_le _, fun e he => absurd he (by omega)⟩ (fun i σ H' _ p => ?_) (fun i x σ H' H'' hi p y => ?_) (fun σ H' p => ?_)
    · obtain ⟨_, _, _, _, _, s', _⟩ := p
      exact s' _ _ hc
    · obtain ⟨y3, y4, y5, kvs, rfl, s', hu, hkl, hk⟩ := p
      obtain ⟨Tp, x0, x1, rfl, nT, rfl, ex0, ex1⟩ := y
      cases ex0
      have ex1 : (o.map V.int)[i]? = some x1 := ex1
      rw [List.getElem?_map] at ex1
      cases hoi : o[i]? with
      | none => rw [hoi] at ex1; cases ex1
      | some z =>
        rw [hoi] at ex1
        have ex2 : V.int z = x1 := Option.some.inj ex1
        subst ex2
        have hab := ho.abs (List.mem_of_getElem? hoi)
        have sT : Same H' (upd H' Tp (.tup [.int (i : Nat), V.int z])) := same_upd nT
        refine ⟨Tp, _, rfl, SqT.of upd_same, rfl, _, _, rfl, _, _, rfl, rfl, ?_⟩
        refine ⟨_, rfl, z, rfl, _, _, rfl, rfl, (2 : Int), _, rfl, rfl, .inl ⟨by decide, by decide⟩, ?_⟩
        refine ⟨_, rfl, _, _, rfl, rfl, _, rfl, ?_⟩
        have hil : i < o.length := (List.getElem?_eq_some_iff.mp hoi).1
        have cont : ∀ nr : Nat, nr = 2 * (z.natAbs - 1) + (if z < 0 then 1 else 0) → nr < 24 := fun nr e => by
          rw [e]
          split <;> omega
        have hu3 := sT _ _ hu
        have nuc : ∀ u : Addr, upd H' Tp (.tup [.int (i : Nat), V.int z]) u = none → du ≠ u := fun u hu' z => by
          subst z
          rw [hu3] at hu'
          cases hu'
        refine ite2 (fun e => ?_) (fun e => ?_)
        all_goals
          refine ⟨_, _, rfl, rfl, ?_⟩
          dsimp only
          first
          | rw [show (2 * ((if z < 0 then -z else z) - 1) + 1 : Int) = ((2 * (z.natAbs - 1) + (if z < 0 then 1 else 0) : Nat) : Int) by have := of_decide_eq_true e; rw [if_pos this, if_pos this]; omega]
          | rw [show (2 * ((if z < 0 then -z else z) - 1) + 0 : Int) = ((2 * (z.natAbs - 1) + (if z < 0 then 1 else 0) : Nat) : Int) by have : ¬ z < 0 := fun q => e (decide_eq_true q); rw [if_neg this, if_neg this]; omega]
          generalize hnr : 2 * (z.natAbs - 1) + (if z < 0 then 1 else 0) = nr
          have hn24 := cont nr hnr.symm
          refine ⟨_, rfl, .inr (.inr (.inl ⟨rfl, .inl ⟨_, hu3⟩⟩)), fun d2 hd2 => ?_⟩
          have sd := same_upd (o := .dK []) hd2
          refine ⟨_, rfl, (2 : Int), _, rfl, rfl, .inl ⟨by decide, by decide⟩, _, rfl, ?_⟩
          refine ⟨_, rfl, (2 : Int), _, rfl, rfl, .inl ⟨by decide, by decide⟩, _, _, rfl, rfl, ?_⟩
          refine ⟨_, rfl, nr, rfl, hn24, ?_⟩
          refine ⟨upd_same, [(Sum.inl (2 * (i : Int)), vN nr), (Sum.inl (2 * (i : Int) + 1), vN (fel nr))], rfl, by simp, ?_⟩
          have hne : (Sum.inl (2 * (i : Int)) : Key) ≠ Sum.inl (2 * (i : Int) + 1) := fun q => by
            have := Sum.inl.inj q
            omega
          have ml := length_mergeK [(Sum.inl (2 * (i : Int)), vN nr), (Sum.inl (2 * (i : Int) + 1), vN (fel nr))] []
          have m2 := length_mergeK (mergeK [] [(Sum.inl (2 * (i : Int)), vN nr), (Sum.inl (2 * (i : Int) + 1), vN (fel nr))]) kvs
          simp only [List.length_cons, List.length_nil] at ml
          refine ⟨du, d2, kvs, _, rfl, rfl, nuc d2 hd2, ?_, upd_same, ?_, ?_⟩
          · rw [upd_ne (nuc d2 hd2), upd_ne (nuc d2 hd2)]
            exact hu3
          · exact Nat.le_of_lt (small1000 (by omega))
          · refine ⟨_, _, _, _, rfl, ?_, upd_same, ?_, ?_⟩
            · exact samePut (samePut (s'.trans (sT.trans sd)) ((s'.trans sT).free hd2)) hdu0
            · omega
            · intro e' he'
              rw [merge2 hne, valV_put, valV_put]
              by_cases h1 : e' = 2 * i + 1
              · subst h1
                rw [if_pos (by rw [Int.natCast_add, Int.natCast_mul]; rfl), nameE_odd o i hoi, hnr]
              · have h1' : ¬ ((Sum.inl (e' : Int) : Key) = Sum.inl (2 * (i : Int) + 1)) := fun q => by
                  have := Sum.inl.inj q
                  omega
                rw [if_neg h1']
                by_cases h2 : e' = 2 * i
                · subst h2
                  rw [if_pos (by rw [Int.natCast_mul]; rfl), nameE_even o i hoi, hnr]
                · have h2' : ¬ ((Sum.inl (e' : Int) : Key) = Sum.inl (2 * (i : Int))) := fun q => by
                    have := Sum.inl.inj q
                    omega
                  rw [if_neg h2']
                  exact hk e' (by omega)
    · obtain ⟨y3, y4, y5, kvs, rfl, s', hu, hkl, hk⟩ := p
      rw [List.length_map, hlo] at hk
      refine ⟨_, rfl, a, _, _, _, rfl, rfl, SqT.of (s' _ _ ha), atI_nat (j := 0) rfl, ?_⟩
      refine ⟨_, rfl, a, _, _, _, rfl, rfl, SqT.of (s' _ _ ha), atI_nat (j := 1) rfl, b, rfl, ⟨_, SqT.of (s' _ _ hb)⟩, fun D hD => ?_⟩
      refine lc_src (walk_tup (K := K) (a := b)) eJ (fun j => some (jt (nameE o j.1) (nameE o j.2))) hD (small1000 (by omega)) (hx.by s') (fun H s => SqT.of ((s'.trans s) _ _ hb)) (fun j x H2 N M hj s tx kN kM => ?_) (fun H2 ws s hw ht => ?_)
      · obtain ⟨d, rfl, hd⟩ := tx.jI
        have hj2 := g.j.lt j hj
        refine ⟨d, _, rfl, SqT.of hd, rfl, _, _, rfl, _, _, rfl, rfl, rfl, ?_⟩
        refine ⟨_, rfl, _, rfl, du, _, rfl, dget_of (s _ _ hu) (hk j.1 (by omega)), ?_⟩
        refine ⟨_, rfl, _, rfl, du, _, rfl, dget_of (s _ _ hu) (hk j.2 (by omega)), ?_⟩
        exact ⟨_, _, rfl, fun H3 v s3 t3 => kN _ _ _ rfl s3 t3⟩
      · rw [fm_some] at ht
        refine ⟨l.1, D, ws, _, rfl, SqL.of hw, ht, fun H3 v s3 t3 => ?_⟩
        exact q _ _ ((s'.trans s).trans s3) t3
end
end DC
end

section
set_option Elab.async false
set_option linter.all false
set_option maxRecDepth 100000
set_option maxHeartbeats 4000000
namespace DC
open PySem PySem.Spec PyProof.Rows L2
section
variable {P : Program} {w : World} {K : PySem.W.Frag} {mg : Str → Option Value} {base : Heap}
theorem inV_two (x a b : Nat) : inV (vN x) [vN a, vN b] = (decide (x = a ∨ x = b) : Bool) := by
  have e : ∀ a : Nat, eqV (vN a) (vN x) = decide (x = a) := fun a => by
    show decide ((a : Int) = (x : Int)) = _
    exact decide_eq_decide.mpr ⟨fun z => by omega, fun z => by omega⟩
  unfold inV
  rw [List.any_cons, List.any_cons, List.any_nil, e, e, Bool.or_false]
  simp
theorem iteND {c A B : Prop} [Decidable c] (hc : ¬ c) (h : B) : if decide c = true then A else B := by
  rw [decide_eq_false hc]
  exact iteF h
theorem iteYD {c A B : Prop} [Decidable c] (hc : c) (h : A) : if decide c = true then A else B := by
  rw [decide_eq_true hc]
  exact iteT h
def sp_without : Sp := fun vs H Q _ => ∃ (v : V) (l : Lay) (k : Nat), vs = [v, vN k] ∧ TD H v (eL l) ∧ GoodL l ∧ 1 < l.1 ∧ k < l.1 ∧ ∀ H' r, Same H H' → TD H' r (eL (withoutL l k)) → Q r H'
/-- joints that leave a link's ends -/
def keptB (l : Lay) (k : Nat) : List Jt := l.2.filter fun j => !(j.1 = 2 * k ∨ j.1 = 2 * k + 1 : Bool) && !(j.2 = 2 * k ∨ j.2 = 2 * k + 1 : Bool)
theorem keptB_len (l : Lay) (k : Nat) : (keptB l k).length ≤ l.2.length := List.length_filter_le _ _
def keptO (B : List Jt) (k : Nat) : Option Nat → Option Nat → List Jt
  | some x, some y => if x = 2 * k ∨ x = 2 * k + 1 then B else B ++ [jt x y]
  | _, _ => B
theorem keptL_eq (l : Lay) (k : Nat) : keptL l k = keptO (keptB l k) k ((matesL l)[2 * k]?).join ((matesL l)[2 * k + 1]?).join := by
  unfold keptL
  generalize ((matesL l)[2 * k]?).join = a
  generalize ((matesL l)[2 * k + 1]?).join = b
  cases a <;> cases b <;> rfl
theorem keptL_len (l : Lay) (k : Nat) : (keptL l k).length ≤ l.2.length + 1 := by
  have h := keptB_len l k
  rw [keptL_eq]
  unfold keptO
  split
  · split
    · omega
    · rw [List.length_append, List.length_singleton]
      omega
  · omega
theorem ok_without (T : TX K mg) : Ok P w K mg base 5 "without" ["lay", "link"] sp_without := by
  have G_need_lay := ok_need_lay (P := P) (w := w) (base := base) T
  have G_need_link := ok_need_link (P := P) (w := w) (base := base) T
  have G_mates_in := ok_mates_in (P := P) (w := w) (base := base) T
  have G_joint_of := ok_joint_of (P := P) (w := w) (base := base) T
  have G_lay_with := ok_lay_with (P := P) (w := w) (base := base) T
  refine ok_of (k := 4) T.f_without sc_without (fun _ _ _ _ _ _ us hl => match us, hl with | [_, _], _ => rfl) (fun vs H Q E h => ?_) (fun cdv A outer s H vs Q E hr h => ?_)
  · obtain ⟨v, l, k, rfl, _⟩ := h
    rfl
  · obtain ⟨v, l, k, rfl, tl, g, h1, hk, q⟩ := h
    obtain ⟨a, b, xs, rfl, ha, hb, hx⟩ := tl.lI
    have hf := g.few
    have hl12 := g.len
    have hlx := hx.len
    rw [List.length_map] at hlx
    have hml := matesL_len l
    refine ⟨_, (pss_cons (ps_expr (pe_callD G_need_lay (hr.mono (by decide)) (pa_cons (pv 0) pa_nil)))
      (pss_cons (ps_expr (pe_callD G_need_link (hr.mono (by decide)) (pa_cons (pv 0) (pa_cons (pv 1) pa_nil))))
      (pss_cons (ps_if (pt_cmpR op_eq (pe_ix ix_tup (pv 0) pe_int (fun _ _ => rfl)) pe_int (nomark _)) (pss_one ps_never) pss_nil)
      (pss_cons (ps_asg (pe_tup (pa_cons (pe_tup (pa_cons (pe_op op_mul pe_int (pv 1)) (pa_cons (pe_op op_add (pe_op op_mul pe_int (pv 1)) pe_int) pa_nil))) (pa_cons (pe_callD G_mates_in (hr.mono (by decide)) (pa_cons (pv 0) pa_nil)) pa_nil))) (pg_tup (by rfl) (pgs_cons (pg_name (i := 2) sc_without.nd rfl (Or.inr rfl)) (pgs_cons (pg_name (i := 3) sc_without.nd rfl (Or.inl rfl)) pgs_nil))))
      (pss_cons (ps_setLc (i := 4) (own := [("joint", 8)]) (g := (gName 8)) (by rfl) sc_without.nd rfl rfl (sw_true rfl rfl rfl (by decide +kernel)) (pi_tup (pe_ix ix_tup (pv 0) pe_int (fun _ _ => rfl))) (blkOk_by (own := [("joint", 8)]) (N := N_without) (sc := defScope s_without) (by decide +kernel)) (fun _ _ _ _ _ => (pg_name (i := 8) sc_without.nd rfl (Or.inl rfl))) (fun _ _ _ _ _ => pts_one (PW.pt (pw_and (pt_cmpR (op_notIn_seqK (K := K) rfl) (pe_ix (ix_tupK (K := K) rfl) (pv 8) pe_int (fun _ _ => rfl)) (pv 2) (by rfl)) (pw_and1 (pt_cmpR (op_notIn_seqK (K := K) rfl) (pe_ix (ix_tupK (K := K) rfl) (pv 8) pe_int (fun _ _ => rfl)) (pv 2) (by rfl)))))) (fun _ _ _ _ _ => (pv 8)))
      (pss_cons (ps_par (i := 5) (j := 6) (by rfl) sc_without.nd rfl rfl (by decide) rfl rfl (pa_cons (pe_ix ix_list (pv 3) (pe_ix ix_tup (pv 2) pe_int (fun _ _ => rfl)) (fun _ _ => rfl)) (pa_cons (pe_ix ix_list (pv 3) (pe_ix ix_tup (pv 2) pe_int (fun _ _ => rfl)) (fun _ _ => rfl)) pa_nil)) (by rfl))
      (pss_cons (ps_if (PW.pt (pw_and (pt_cmpR op_notN (pv 5) pe_non (nomark _)) (pw_and (pt_cmpR op_notN (pv 6) pe_non (nomark _)) (pw_and1 (pt_cmpR op_notIn_seq (pv 5) (pv 2) (by rfl)))))) (pss_one (ps_expr (pe_bm PySem.F.plainAttrs_list PySem.F.slot_list_append PySem.F.type_list_append mt_append (pv 4) (pa_cons (pe_callD G_joint_of (hr.mono (by decide)) (pa_cons (pv 5) (pa_cons (pv 6) pa_nil))) pa_nil)))) pss_nil)
      (pss_cons (ps_setLc (i := 7) (own := [("joint", 8)]) (g := (gName 8)) (by rfl) sc_without.nd rfl rfl (sw_true rfl rfl rfl (by decide +kernel)) (pi_list (pv 4)) (blkOk_by (own := [("joint", 8)]) (N := N_without) (sc := defScope s_without) (by decide +kernel)) (fun _ _ _ _ _ => (pg_name (i := 8) sc_without.nd rfl (Or.inl rfl))) (fun _ _ _ _ _ => pts_nil) (fun _ _ _ _ _ => (pe_callTy (call_tupleK (K := K) rfl) (by rfl) T.z_tuple bt_tuple (pa_cons (pe_lc (own := [("end", 9)]) (g := (gName 9)) (by rfl) sc_without.nd (pi_tupK (K := K) rfl (pv 8)) (blkOk_by (own := [("end", 9)]) (N := N_without) (sc := { kind := .function, names := [(".0", .local), ("joint", .local), ("tuple", .globalImplicit), ("ends", .cell)], isGenerator := false, isCoroutine := false }) (by decide +kernel)) (fun _ _ _ _ _ => (pg_name (i := 9) sc_without.nd rfl (Or.inl rfl))) (fun _ _ _ _ _ => pts_nil) (fun _ _ _ _ _ => (pe_ifExp (pt_cmpR op_gt (pv 9) (pe_ix (ix_tupK (K := K) rfl) (pv 2) pe_int (fun _ _ => rfl)) (nomark _)) (pe_op op_sub (pv 9) pe_int) (pv 9)))) pa_nil))))
      (pss_one (ps_ret (pe_callD G_lay_with (hr.mono (by decide)) (pa_cons (pe_op op_sub (pe_ix ix_tup (pv 0) pe_int (fun _ _ => rfl)) pe_int) (pa_cons (pv 7) pa_nil))))))))))))), ?_⟩
    refine ⟨_, rfl, _, l, rfl, tl, g, fun H1 s1 => ?_⟩
    refine ⟨_, rfl, _, rfl, _, l, k, rfl, tl.by s1, hk, ?_⟩
    refine ⟨_, rfl, a, _, _, _, rfl, rfl, SqT.of (s1 _ _ ha), atI_nat (j := 0) rfl, rfl, _, rfl, ?_⟩
    refine iteND (fun z => by have : (l.1 : Int) = 1 := V.int.inj z; omega) ?_
    refine ⟨_, rfl, (2 : Int), _, rfl, rfl, .inl ⟨by decide, by decide⟩, ?_⟩
    refine ⟨_, rfl, (2 : Int), _, rfl, rfl, .inl ⟨by decide, by decide⟩, _, _, rfl, rfl, ?_⟩
    refine ⟨by show 2 ≤ sizeLine; decide, fun e he => ?_⟩
    have s2 := s1.trans (same_upd (o := .tup [V.int (2 * (k : Int)), V.int (2 * (k : Int) + 1)]) he)
    refine ⟨_, rfl, _, l, rfl, tl.by s2, g, fun H3 p s3 hp hp3 => ?_⟩
    have he3 : H3 e = some (.tup [vN (2 * k), vN (2 * k + 1)]) := s3 _ _ upd_same
    refine ⟨by show 2 ≤ sizeLine; decide, fun t ht => ?_⟩
    have s4 := same_upd (o := .tup [V.ref e, V.ref p]) ht
    refine ⟨t, _, rfl, SqT.of upd_same, rfl, _, _, rfl, _, _, rfl, rfl, ?_⟩
    have t4 := (s2.trans s3).trans s4
    have he4 := s4 _ _ he3
    have hp4 := s4 _ _ hp3
    generalize upd H3 t (HO.tup [V.ref e, V.ref p]) = H4 at *
    refine ⟨_, rfl, a, _, _, _, rfl, rfl, SqT.of (t4 _ _ ha), atI_nat (j := 1) rfl, b, rfl, ⟨_, SqT.of (t4 _ _ hb)⟩, fun D hD => ?_⟩
    refine lc_src (walk_tup (K := K) (a := b)) eJ (fun j : Jt => if (!(j.1 = 2 * k ∨ j.1 = 2 * k + 1 : Bool) && !(j.2 = 2 * k ∨ j.2 = 2 * k + 1 : Bool)) = true then some j else none) hD (small1000 (by omega)) (hx.by t4) (fun H s => SqT.of ((t4.trans s) _ _ hb)) (fun j x H' N M hj s tx kN kM => ?_) (fun H5 ws s5 hw5 ht5 => ?_)
    · obtain ⟨d, rfl, hd⟩ := tx.jI
      refine ⟨rfl, ?_⟩
      refine ⟨_, rfl, d, _, _, _, rfl, rfl, SqT.of hd, atI_nat (j := 0) rfl, _, rfl, e, _, rfl, .inr (SqT.of (s _ _ he4)), rfl, rfl, _, rfl, ?_⟩
      have i1 : inV (.int (j.1 : Int)) [vN (2 * k), vN (2 * k + 1)] = _ := inV_two j.1 (2 * k) (2 * k + 1)
      have i2 : inV (.int (j.2 : Int)) [vN (2 * k), vN (2 * k + 1)] = _ := inV_two j.2 (2 * k) (2 * k + 1)
      rw [i1]
      refine ite2 (fun e1 => ?_) (fun e1 => ?_)
      · refine ⟨_, rfl, d, _, _, _, rfl, rfl, SqT.of hd, atI_nat (j := 1) rfl, _, rfl, e, _, rfl, .inr (SqT.of (s _ _ he4)), rfl, rfl, _, rfl, ?_⟩
        rw [i2]
        refine ite2 (fun e2 => ?_) (fun e2 => ?_)
        · refine ⟨_, rfl, kN _ _ j (if_pos ?_) (Same.refl _) tx⟩
          rw [Bool.and_eq_true]
          exact ⟨e1, e2⟩
        · refine kM _ (if_neg fun z => ?_) (Same.refl _)
          rw [Bool.and_eq_true] at z
          exact e2 z.2
      · refine kM _ (if_neg fun z => ?_) (Same.refl _)
        rw [Bool.and_eq_true] at z
        exact e1 z.1
    · rw [fm_filter] at ht5
      have hlw := ht5.len
      rw [List.length_map] at hlw
      have hkl := keptB_len l k
      have hlw2 : ws.length ≤ 12 := by
        have : ws.length = (keptB l k).length := hlw
        omega
      have ix1 : 2 * k < (matesL l).length := by omega
      have ix2 : 2 * k + 1 < (matesL l).length := by omega
      have m1 : (matesL l)[2 * k]? = some (matesL l)[2 * k] := List.getElem?_eq_getElem ix1
      have m2 : (matesL l)[2 * k + 1]? = some (matesL l)[2 * k + 1] := List.getElem?_eq_getElem ix2
      generalize (matesL l)[2 * k] = o1 at m1
      generalize (matesL l)[2 * k + 1] = o2 at m2
      have v1 : ((matesL l).map oV)[2 * k]? = some (oV o1) := by rw [List.getElem?_map, m1]; rfl
      have v2 : ((matesL l).map oV)[2 * k + 1]? = some (oV o2) := by rw [List.getElem?_map, m2]; rfl
      have ek : keptL l k = keptO (keptB l k) k o1 o2 := by
        rw [keptL_eq, m1, m2]
        rfl
      refine ⟨_, rfl, _, rfl, e, _, _, _, rfl, rfl, SqT.of (s5 _ _ he4), atI_nat (j := 0) rfl, p, _, _, _, rfl, rfl, SqL.of (s5 _ _ hp4), atI_nat (j := 2 * k) v1, ?_⟩
      refine ⟨_, rfl, _, rfl, e, _, _, _, rfl, rfl, SqT.of (s5 _ _ he4), atI_nat (j := 1) rfl, p, _, _, _, rfl, rfl, SqL.of (s5 _ _ hp4), atI_nat (j := 2 * k + 1) v2, ?_⟩
      refine ⟨_, _, rfl, ?_⟩
      have hkl6 := keptL_len l k
      cases o1 with
      | none =>
        refine ⟨_, rfl, rfl, _, rfl, ?_⟩
        have e6 : keptL l k = keptB l k := by rw [ek]; rfl
        have s6 := s5
        have hD6 := hw5
        have t6 : TDs H5 ws ((keptL l k).map eJ) := by rw [e6]; exact ht5
        generalize H5 = H6 at *
        have tE : TupS H4 H6 := sameTup s6
        refine ⟨_, rfl, D, rfl, ⟨_, SqL.of hD6⟩, fun D3 hD3 => ?_⟩
        refine lc_src (walk_list (K := K) (a := D)) eJ (fun j => some (lowE k j.1, lowE k j.2)) hD3 (small1000 (by omega)) t6 (fun H s => SqL.of (s _ _ hD6)) (fun j x H' N M hj s tx kN kM => ?_) (fun H7 us s7 hu7 ht7 => ?_)
        · obtain ⟨d, rfl, hd⟩ := tx.jI
          refine ⟨rfl, ?_⟩
          refine ⟨_, rfl, d, rfl, ⟨_, SqT.of hd⟩, fun D4 hD4 => ?_⟩
          refine lc_src (walk_tup (K := K) (a := d)) (e0 := eNat) (l := [j.1, j.2]) eNat (fun z => some (lowE k z)) hD4 (small1000 (by simp)) (tds_nats [j.1, j.2]) (fun H s2 => SqT.of (s2 _ _ hd)) (fun z x H2 N2 M2 hz s2 tx2 kN2 kM2 => ?_) (fun H8 ys s8 hy8 ht8 => ?_)
          · have hxz : x = vN z := TD.intI tx2
            subst hxz
            refine ⟨rfl, ?_⟩
            refine ⟨_, rfl, _, rfl, e, _, _, _, rfl, rfl, SqT.of (s2 _ _ (s _ _ (s6 _ _ he4))), atI_nat (j := 1) rfl, _, _, rfl, rfl, _, rfl, ?_⟩
            refine ite2 (fun e1 => ?_) (fun e1 => ?_)
            · have h1 : 2 * k + 1 < z := by
                have := of_decide_eq_true e1
                omega
              refine ⟨_, rfl, _, _, rfl, rfl, ?_⟩
              refine kN2 _ _ (lowE k z) rfl (Same.refl _) ?_
              unfold lowE
              rw [if_pos h1]
              have e2 : (z : Int) - 2 = ((z - 2 : Nat) : Int) := by omega
              dsimp only
              rw [e2]
              exact .int _
            · have h1 : ¬ 2 * k + 1 < z := fun q => e1 (decide_eq_true (by omega))
              refine ⟨_, rfl, ?_⟩
              refine kN2 _ _ (lowE k z) rfl (Same.refl _) ?_
              unfold lowE
              rw [if_neg h1]
              exact .int _
          · rw [fm_some] at ht8
            rw [tds_nats_inv ht8] at hy8
            refine ⟨D4, _, rfl, .inl ⟨SqL.of hy8, fun p2 hp2 => ?_⟩⟩
            exact kN _ _ _ rfl (s8.trans (same_upd hp2)) (TD.jM upd_same)
        · rw [fm_some] at ht7
          have t7 := (t4.trans s6).trans s7
          refine ⟨_, rfl, a, _, _, _, rfl, rfl, SqT.of (t7 _ _ ha), atI_nat (j := 0) rfl, _, _, rfl, rfl, _, rfl, ?_⟩
          refine ⟨l.1 - 1, D3, us, _, ?_, SqL.of hu7, ht7, fun H9 r s9 t9 => q _ _ (t7.trans s9) t9⟩
          dsimp only
          rw [show ((l.1 : Int) - 1) = ((l.1 - 1 : Nat) : Int) by omega]
          rfl
      | some x =>
        cases o2 with
        | none =>
          refine ⟨_, rfl, rfl, _, rfl, _, rfl, rfl, _, rfl, ?_⟩
          have e6 : keptL l k = keptB l k := by rw [ek]; rfl
          have s6 := s5
          have hD6 := hw5
          have t6 : TDs H5 ws ((keptL l k).map eJ) := by rw [e6]; exact ht5
          generalize H5 = H6 at *
          have tE : TupS H4 H6 := sameTup s6
          refine ⟨_, rfl, D, rfl, ⟨_, SqL.of hD6⟩, fun D3 hD3 => ?_⟩
          refine lc_src (walk_list (K := K) (a := D)) eJ (fun j => some (lowE k j.1, lowE k j.2)) hD3 (small1000 (by omega)) t6 (fun H s => SqL.of (s _ _ hD6)) (fun j x H' N M hj s tx kN kM => ?_) (fun H7 us s7 hu7 ht7 => ?_)
          · obtain ⟨d, rfl, hd⟩ := tx.jI
            refine ⟨rfl, ?_⟩
            refine ⟨_, rfl, d, rfl, ⟨_, SqT.of hd⟩, fun D4 hD4 => ?_⟩
            refine lc_src (walk_tup (K := K) (a := d)) (e0 := eNat) (l := [j.1, j.2]) eNat (fun z => some (lowE k z)) hD4 (small1000 (by simp)) (tds_nats [j.1, j.2]) (fun H s2 => SqT.of (s2 _ _ hd)) (fun z x H2 N2 M2 hz s2 tx2 kN2 kM2 => ?_) (fun H8 ys s8 hy8 ht8 => ?_)
            · have hxz : x = vN z := TD.intI tx2
              subst hxz
              refine ⟨rfl, ?_⟩
              refine ⟨_, rfl, _, rfl, e, _, _, _, rfl, rfl, SqT.of (s2 _ _ (s _ _ (s6 _ _ he4))), atI_nat (j := 1) rfl, _, _, rfl, rfl, _, rfl, ?_⟩
              refine ite2 (fun e1 => ?_) (fun e1 => ?_)
              · have h1 : 2 * k + 1 < z := by
                  have := of_decide_eq_true e1
                  omega
                refine ⟨_, rfl, _, _, rfl, rfl, ?_⟩
                refine kN2 _ _ (lowE k z) rfl (Same.refl _) ?_
                unfold lowE
                rw [if_pos h1]
                have e2 : (z : Int) - 2 = ((z - 2 : Nat) : Int) := by omega
                dsimp only
                rw [e2]
                exact .int _
              · have h1 : ¬ 2 * k + 1 < z := fun q => e1 (decide_eq_true (by omega))
                refine ⟨_, rfl, ?_⟩
                refine kN2 _ _ (lowE k z) rfl (Same.refl _) ?_
                unfold lowE
                rw [if_neg h1]
                exact .int _
            · rw [fm_some] at ht8
              rw [tds_nats_inv ht8] at hy8
              refine ⟨D4, _, rfl, .inl ⟨SqL.of hy8, fun p2 hp2 => ?_⟩⟩
              exact kN _ _ _ rfl (s8.trans (same_upd hp2)) (TD.jM upd_same)
          · rw [fm_some] at ht7
            have t7 := (t4.trans s6).trans s7
            refine ⟨_, rfl, a, _, _, _, rfl, rfl, SqT.of (t7 _ _ ha), atI_nat (j := 0) rfl, _, _, rfl, rfl, _, rfl, ?_⟩
            refine ⟨l.1 - 1, D3, us, _, ?_, SqL.of hu7, ht7, fun H9 r s9 t9 => q _ _ (t7.trans s9) t9⟩
            dsimp only
            rw [show ((l.1 : Int) - 1) = ((l.1 - 1 : Nat) : Int) by omega]
            rfl
        | some y =>
          refine ⟨_, rfl, rfl, _, rfl, _, rfl, rfl, _, rfl, _, rfl, _, rfl, e, _, rfl, .inr (SqT.of (s5 _ _ he4)), rfl, rfl, _, rfl, ?_⟩
          have i1 : inV (oV (some x)) [vN (2 * k), vN (2 * k + 1)] = _ := inV_two x (2 * k) (2 * k + 1)
          rw [i1]
          refine ite2 (fun e1 => ?_) (fun e1 => ?_)
          · have h1 : ¬ (x = 2 * k ∨ x = 2 * k + 1) := fun z => by
              simp [z] at e1
            refine ⟨_, rfl, .inl ⟨rfl, _, SqL.of hw5⟩, ?_⟩
            refine ⟨_, rfl, _, rfl, x, y, rfl, fun H6 r s56 tr => ?_⟩
            refine ⟨D, _, _, rfl, rfl, s56 _ _ hw5, small1000 (by omega), ?_⟩
            have e6 : keptL l k = keptB l k ++ [jt x y] := by rw [ek]; exact if_neg h1
            have s6 : Same H4 (upd H6 D (.lst (ws ++ [r]))) := samePut (s5.trans s56) hD
            have hD6 : upd H6 D (.lst (ws ++ [r])) D = some (.lst (ws ++ [r])) := upd_same
            have t6 : TDs (upd H6 D (.lst (ws ++ [r]))) (ws ++ [r]) ((keptL l k).map eJ) := by
              rw [e6, List.map_append]
              exact ((ht5.by s56).snoc tr).to (tupS_lst (s56 _ _ hw5))
            generalize upd H6 D (.lst (ws ++ [r])) = H6 at *
            have tE : TupS H4 H6 := sameTup s6
            refine ⟨_, rfl, D, rfl, ⟨_, SqL.of hD6⟩, fun D3 hD3 => ?_⟩
            refine lc_src (walk_list (K := K) (a := D)) eJ (fun j => some (lowE k j.1, lowE k j.2)) hD3 (small1000 (by omega)) t6 (fun H s => SqL.of (s _ _ hD6)) (fun j x H' N M hj s tx kN kM => ?_) (fun H7 us s7 hu7 ht7 => ?_)
            · obtain ⟨d, rfl, hd⟩ := tx.jI
              refine ⟨rfl, ?_⟩
              refine ⟨_, rfl, d, rfl, ⟨_, SqT.of hd⟩, fun D4 hD4 => ?_⟩
              refine lc_src (walk_tup (K := K) (a := d)) (e0 := eNat) (l := [j.1, j.2]) eNat (fun z => some (lowE k z)) hD4 (small1000 (by simp)) (tds_nats [j.1, j.2]) (fun H s2 => SqT.of (s2 _ _ hd)) (fun z x H2 N2 M2 hz s2 tx2 kN2 kM2 => ?_) (fun H8 ys s8 hy8 ht8 => ?_)
              · have hxz : x = vN z := TD.intI tx2
                subst hxz
                refine ⟨rfl, ?_⟩
                refine ⟨_, rfl, _, rfl, e, _, _, _, rfl, rfl, SqT.of (s2 _ _ (s _ _ (s6 _ _ he4))), atI_nat (j := 1) rfl, _, _, rfl, rfl, _, rfl, ?_⟩
                refine ite2 (fun e1 => ?_) (fun e1 => ?_)
                · have h1 : 2 * k + 1 < z := by
                    have := of_decide_eq_true e1
                    omega
                  refine ⟨_, rfl, _, _, rfl, rfl, ?_⟩
                  refine kN2 _ _ (lowE k z) rfl (Same.refl _) ?_
                  unfold lowE
                  rw [if_pos h1]
                  have e2 : (z : Int) - 2 = ((z - 2 : Nat) : Int) := by omega
                  dsimp only
                  rw [e2]
                  exact .int _
                · have h1 : ¬ 2 * k + 1 < z := fun q => e1 (decide_eq_true (by omega))
                  refine ⟨_, rfl, ?_⟩
                  refine kN2 _ _ (lowE k z) rfl (Same.refl _) ?_
                  unfold lowE
                  rw [if_neg h1]
                  exact .int _
              · rw [fm_some] at ht8
                rw [tds_nats_inv ht8] at hy8
                refine ⟨D4, _, rfl, .inl ⟨SqL.of hy8, fun p2 hp2 => ?_⟩⟩
                exact kN _ _ _ rfl (s8.trans (same_upd hp2)) (TD.jM upd_same)
            · rw [fm_some] at ht7
              have t7 := (t4.trans s6).trans s7
              refine ⟨_, rfl, a, _, _, _, rfl, rfl, SqT.of (t7 _ _ ha), atI_nat (j := 0) rfl, _, _, rfl, rfl, _, rfl, ?_⟩
              refine ⟨l.1 - 1, D3, us, _, ?_, SqL.of hu7, ht7, fun H9 r s9 t9 => q _ _ (t7.trans s9) t9⟩
              dsimp only
              rw [show ((l.1 : Int) - 1) = ((l.1 - 1 : Nat) : Int) by omega]
              rfl
          · have h1 : x = 2 * k ∨ x = 2 * k + 1 := by
              by_cases z : x = 2 * k ∨ x = 2 * k + 1
              · exact z
              · exact absurd (by simp [z]) e1
            have e6 : keptL l k = keptB l k := by rw [ek]; exact if_pos h1
            have s6 := s5
            have hD6 := hw5
            have t6 : TDs H5 ws ((keptL l k).map eJ) := by rw [e6]; exact ht5
            generalize H5 = H6 at *
            have tE : TupS H4 H6 := sameTup s6
            refine ⟨_, rfl, D, rfl, ⟨_, SqL.of hD6⟩, fun D3 hD3 => ?_⟩
            refine lc_src (walk_list (K := K) (a := D)) eJ (fun j => some (lowE k j.1, lowE k j.2)) hD3 (small1000 (by omega)) t6 (fun H s => SqL.of (s _ _ hD6)) (fun j x H' N M hj s tx kN kM => ?_) (fun H7 us s7 hu7 ht7 => ?_)
            · obtain ⟨d, rfl, hd⟩ := tx.jI
              refine ⟨rfl, ?_⟩
              refine ⟨_, rfl, d, rfl, ⟨_, SqT.of hd⟩, fun D4 hD4 => ?_⟩
              refine lc_src (walk_tup (K := K) (a := d)) (e0 := eNat) (l := [j.1, j.2]) eNat (fun z => some (lowE k z)) hD4 (small1000 (by simp)) (tds_nats [j.1, j.2]) (fun H s2 => SqT.of (s2 _ _ hd)) (fun z x H2 N2 M2 hz s2 tx2 kN2 kM2 => ?_) (fun H8 ys s8 hy8 ht8 => ?_)
              · have hxz : x = vN z := TD.intI tx2
                subst hxz
                refine ⟨rfl, ?_⟩
                refine ⟨_, rfl, _, rfl, e, _, _, _, rfl, rfl, SqT.of (s2 _ _ (s _ _ (s6 _ _ he4))), atI_nat (j := 1) rfl, _, _, rfl, rfl, _, rfl, ?_⟩
                refine ite2 (fun e1 => ?_) (fun e1 => ?_)
                · have h1 : 2 * k + 1 < z := by
                    have := of_decide_eq_true e1
                    omega
                  refine ⟨_, rfl, _, _, rfl, rfl, ?_⟩
                  refine kN2 _ _ (lowE k z) rfl (Same.refl _) ?_
                  unfold lowE
                  rw [if_pos h1]
                  have e2 : (z : Int) - 2 = ((z - 2 : Nat) : Int) := by omega
                  dsimp only
                  rw [e2]
                  exact .int _
                · have h1 : ¬ 2 * k + 1 < z := fun q => e1 (decide_eq_true (by omega))
                  refine ⟨_, rfl, ?_⟩
                  refine kN2 _ _ (lowE k z) rfl (Same.refl _) ?_
                  unfold lowE
                  rw [if_neg h1]
                  exact .int _
              · rw [fm_some] at ht8
                rw [tds_nats_inv ht8] at hy8
                refine ⟨D4, _, rfl, .inl ⟨SqL.of hy8, fun p2 hp2 => ?_⟩⟩
                exact kN _ _ _ rfl (s8.trans (same_upd hp2)) (TD.jM upd_same)
            · rw [fm_some] at ht7
              have t7 := (t4.trans s6).trans s7
              refine ⟨_, rfl, a, _, _, _, rfl, rfl, SqT.of (t7 _ _ ha), atI_nat (j := 0) rfl, _, _, rfl, rfl, _, rfl, ?_⟩
              refine ⟨l.1 - 1, D3, us, _, ?_, SqL.of hu7, ht7, fun H9 r s9 t9 => q _ _ (t7.trans s9) t9⟩
              dsimp only
              rw [show ((l.1 : Int) - 1) = ((l.1 - 1 : Nat) : Int) by omega]
              rfl
end
end DC
end

section
set_option Elab.async false
set_option linter.all false
set_option maxRecDepth 100000
set_option maxHeartbeats 4000000
namespace DC
open PySem PySem.Spec PyProof.Rows L2
section
variable {P : Program} {w : World} {K : PySem.W.Frag} {mg : Str → Option Value} {base : Heap}
def sp_beside : Sp := fun vs H Q _ => ∃ (v u : V) (a b : Lay), vs = [v, u] ∧ TD H v (eL a) ∧ TD H u (eL b) ∧ GoodL a ∧ GoodL b ∧ a.1 + b.1 ≤ 12 ∧ ∀ H' r, Same H H' → TD H' r (eL (besideL a b)) → Q r H'
theorem ok_beside (T : TX K mg) : Ok P w K mg base 5 "beside" ["one", "other"] sp_beside := by
  have G_need_lay := ok_need_lay (P := P) (w := w) (base := base) T
  have G_lay_with := ok_lay_with (P := P) (w := w) (base := base) T
  refine ok_of (k := 4) T.f_beside sc_beside (fun _ _ _ _ _ _ us hl => match us, hl with | [_, _], _ => rfl) (fun vs H Q E h => ?_) (fun cdv A outer s H vs Q E hr h => ?_)
  · obtain ⟨v, u, l, k, rfl, _⟩ := h
    rfl
  · obtain ⟨v, u, a, b, rfl, ta, tb, ga, gb, hab, q⟩ := h
    obtain ⟨c, c2, xs, rfl, hc, hc2, hx⟩ := ta.lI
    obtain ⟨d, d2, ys, rfl, hd, hd2, hy⟩ := tb.lI
    have la := ga.len
    have lb := gb.len
    have hlx := hx.len
    rw [List.length_map] at hlx
    refine ⟨_, (pss_cons (ps_expr (pe_callD G_need_lay (hr.mono (by decide)) (pa_cons (pv 0) pa_nil)))
      (pss_cons (ps_expr (pe_callD G_need_lay (hr.mono (by decide)) (pa_cons (pv 1) pa_nil)))
      (pss_cons (ps_if (pt_cmpR op_gt (pe_op op_add (pe_ix ix_tup (pv 0) pe_int (fun _ _ => rfl)) (pe_ix ix_tup (pv 1) pe_int (fun _ _ => rfl))) (pe_gInt T.c_MOST_LINKS) (nomark _)) (pss_one ps_never) pss_nil)
      (pss_cons (ps_setLc (i := 2) (own := [("near", 3), ("far", 4)]) (g := (gTup K 2 (gCons (gName 3) (gCons (gName 4) gNil)))) (by rfl) sc_beside.nd rfl rfl (sw_true rfl rfl rfl (by decide +kernel)) (pi_tup (pe_ix ix_tup (pv 1) pe_int (fun _ _ => rfl))) (blkOk_by (own := [("near", 3), ("far", 4)]) (N := N_beside) (sc := defScope s_beside) (by decide +kernel)) (fun _ _ _ _ _ => (pg_tup (by rfl) (pgs_cons (pg_name (i := 3) sc_beside.nd rfl (Or.inl rfl)) (pgs_cons (pg_name (i := 4) sc_beside.nd rfl (Or.inl rfl)) pgs_nil)))) (fun _ _ _ _ _ => pts_nil) (fun _ _ _ _ _ => (pe_tup (pa_cons (pe_op op_add (pv 3) (pe_op op_mul pe_int (pe_ix (ix_tupK (K := K) rfl) (pv 0) pe_int (fun _ _ => rfl)))) (pa_cons (pe_op op_add (pv 4) (pe_op op_mul pe_int (pe_ix (ix_tupK (K := K) rfl) (pv 0) pe_int (fun _ _ => rfl)))) pa_nil)))))
      (pss_one (ps_ret (pe_callD G_lay_with (hr.mono (by decide)) (pa_cons (pe_op op_add (pe_ix ix_tup (pv 0) pe_int (fun _ _ => rfl)) (pe_ix ix_tup (pv 1) pe_int (fun _ _ => rfl))) (pa_cons (pe_lst (StX.pa_star (pe_ix ix_tup (pv 0) pe_int (fun _ _ => rfl)) (StX.pa_star (pv 2) pa_nil))) pa_nil))))))))), ?_⟩
    refine ⟨_, rfl, _, a, rfl, ta, ga, fun H1 s1 => ?_⟩
    refine ⟨_, rfl, _, b, rfl, tb.by s1, gb, fun H2 s2 => ?_⟩
    have s3 := s1.trans s2
    refine ⟨_, rfl, c, _, _, _, rfl, rfl, SqT.of (s3 _ _ hc), atI_nat (j := 0) rfl, ?_⟩
    refine ⟨_, rfl, d, _, _, _, rfl, rfl, SqT.of (s3 _ _ hd), atI_nat (j := 0) rfl, _, _, rfl, rfl, _, _, rfl, rfl, _, rfl, ?_⟩
    refine iteND (by omega) ?_
    refine ⟨_, rfl, d, _, _, _, rfl, rfl, SqT.of (s3 _ _ hd), atI_nat (j := 1) rfl, d2, rfl, ⟨_, SqT.of (s3 _ _ hd2)⟩, fun D hD => ?_⟩
    refine lc_src (walk_tup (K := K) (a := d2)) eJ (fun j : Jt => some (j.1 + 2 * a.1, j.2 + 2 * a.1)) hD (small1000 (by omega)) (hy.by s3) (fun H s => SqT.of ((s3.trans s) _ _ hd2)) (fun j x H' N M hj s tx kN kM => ?_) (fun H4 ws s4 hw ht => ?_)
    · obtain ⟨e, rfl, he⟩ := tx.jI
      refine ⟨e, _, rfl, SqT.of he, rfl, _, _, rfl, _, _, rfl, rfl, rfl, ?_⟩
      refine ⟨_, rfl, _, rfl, c, _, _, _, rfl, rfl, SqT.of ((s3.trans s) _ _ hc), atI_nat (j := 0) rfl, (2 : Int), _, rfl, rfl, .inl ⟨by decide, by decide⟩, _, _, rfl, rfl, ?_⟩
      refine ⟨_, rfl, _, rfl, c, _, _, _, rfl, rfl, SqT.of ((s3.trans s) _ _ hc), atI_nat (j := 0) rfl, (2 : Int), _, rfl, rfl, .inl ⟨by decide, by decide⟩, _, _, rfl, rfl, ?_⟩
      refine ⟨by show 2 ≤ sizeLine; decide, fun p hp => ?_⟩
      refine kN _ _ _ rfl (same_upd hp) ?_
      refine TD.jM (i := j.1 + 2 * a.1) (j := j.2 + 2 * a.1) ?_
      exact upd_same
    · rw [fm_some] at ht
      have s5 := s3.trans s4
      refine ⟨_, rfl, c, _, _, _, rfl, rfl, SqT.of (s5 _ _ hc), atI_nat (j := 0) rfl, ?_⟩
      refine ⟨_, rfl, d, _, _, _, rfl, rfl, SqT.of (s5 _ _ hd), atI_nat (j := 0) rfl, _, _, rfl, rfl, ?_⟩
      refine ⟨_, rfl, c, _, _, _, rfl, rfl, SqT.of (s5 _ _ hc), atI_nat (j := 1) rfl, ?_⟩
      refine ⟨c2, xs, rfl, .inl (SqT.of (s5 _ _ hc2)), ?_⟩
      refine ⟨_, rfl, D, ws, rfl, .inr (SqL.of hw), ?_⟩
      have hlw := ht.len
      rw [List.length_map, List.length_map] at hlw
      refine ⟨?_, fun p hp => ?_⟩
      · refine Nat.le_of_lt (small1000 ?_)
        rw [List.append_nil, List.length_append]
        omega
      · have sp := same_upd (o := .lst (xs ++ (ws ++ []))) hp
        refine ⟨a.1 + b.1, p, _, a.2 ++ b.2.map fun j => (j.1 + 2 * a.1, j.2 + 2 * a.1), rfl, SqL.of upd_same, ?_, fun H2 r s2 tr => q _ _ ((s5.trans sp).trans s2) tr⟩
        rw [List.map_append]
        refine ((hx.by s5).by sp).app ?_
        rw [List.append_nil] at sp ⊢
        exact ht.by sp
end
end DC
end

section
set_option Elab.async false
set_option linter.all false
set_option maxRecDepth 100000
set_option maxHeartbeats 4000000
namespace DC
open PySem PySem.Spec PyProof.Rows L2
section
variable {P : Program} {w : World} {K : PySem.W.Frag} {mg : Str → Option Value} {base : Heap}
/-- two lists of mates as a tuple's -/
def Mts (H : Hp) (v : V) (m m' : List (Option Nat)) : Prop := ∃ a p p', v = .ref a ∧ H a = some (.tup [.ref p, .ref p']) ∧ H p = some (.lst (m.map oV)) ∧ H p' = some (.lst (m'.map oV))
theorem Mts.by {H H' : Hp} {v : V} {m m' : List (Option Nat)} (h : Mts H v m m') (s : Same H H') : Mts H' v m m' := by
  obtain ⟨a, p, p', rfl, h1, h2, h3⟩ := h
  exact ⟨a, p, p', rfl, s _ _ h1, s _ _ h2, s _ _ h3⟩
def sp_row_from : Sp := fun vs H Q _ => ∃ (v : V) (m m' : List (Option Nat)) (b : Nat) (t : Bool) (o : Option Nat) (R : List Nat), vs = [v, vN b, vN t.toNat] ∧ Mts H v m m' ∧ (cond t m' m)[b]? = some o ∧ RowR b (cond t m' m) (cond t m m') o R ∧ R.length ≤ 100 ∧
  ∀ H' p, Same H H' → H p = none → H' p = some (.lst ((b :: R).map vN)) → Q (.ref p) H'
theorem ok_row_from (T : TX K mg) : Ok P w K mg base 1 "row_from" ["mates", "begin", "turn"] sp_row_from := by
  refine ok_of (k := 0) T.f_row_from sc_row_from (fun _ _ _ _ _ _ us hl => match us, hl with | [_, _, _], _ => rfl) (fun vs H Q E h => ?_) (fun cdv A outer s H vs Q E hr h => ?_)
  · obtain ⟨v, m, m', b, t, o, R, rfl, _⟩ := h
    rfl
  · obtain ⟨v, m, m', b, t, o, R, rfl, hm, ho, hR, hl, q⟩ := h
    obtain ⟨a, p, p', rfl, ha, hp, hp'⟩ := hm
    refine ⟨_, (pss_cons (ps_par (i := 3) (j := 4) (by rfl) sc_row_from.nd rfl rfl (by decide) rfl rfl (pa_cons (pe_lst (pa_cons (pv 1) pa_nil)) (pa_cons (pe_ix ix_list (pe_ix ix_tup (pv 0) (pv 2) (fun _ _ => rfl)) (pv 1) (fun _ _ => rfl)) pa_nil)) (by rfl))
      (pss_cons (ps_while PassesOwn.never (PW.pt (pw_and (pt_cmpR op_notN (pv 4) pe_non (nomark _)) (pw_and1 (pt_cmpR op_ne (pv 4) (pv 1) (nomark _))))) (pss_cons (ps_expr (pe_bm PySem.F.plainAttrs_list PySem.F.slot_list_append PySem.F.type_list_append mt_append (pv 3) (pa_cons (pv 4) pa_nil)))
      (pss_cons (ps_set (i := 2) sc_row_from.nd rfl (Or.inl rfl) (pe_op op_sub pe_int (pv 2)))
      (pss_one (ps_set (i := 4) sc_row_from.nd rfl (Or.inl rfl) (pe_ix ix_list (pe_ix ix_tup (pv 0) (pv 2) (fun _ _ => rfl)) (pv 4) (fun _ _ => rfl)))))))
      (pss_one (ps_ret (pv 3))))), ?_⟩
    refine ⟨_, rfl, by show 1 ≤ sizeLine; decide, fun f hf => ?_⟩
    have s1 := same_upd (o := .lst [vN b]) hf
    have hix : ∀ (H' : Hp) (t : Bool), Same H H' → ∃ c, ([V.ref p, V.ref p'] : List V)[t.toNat]? = some (.ref c) ∧ H' c = some (.lst ((cond t m' m).map oV)) := fun H' t s' => by
      cases t with
      | false => exact ⟨p, rfl, s' _ _ hp⟩
      | true => exact ⟨p', rfl, s' _ _ hp'⟩
    obtain ⟨c, hc1, hc2⟩ := hix _ t s1
    have ho2 : ((cond t m' m).map oV)[b]? = some (oV o) := by rw [List.getElem?_map, ho]; rfl
    refine ⟨_, rfl, _, rfl, a, _, _, _, rfl, rfl, SqT.of (s1 _ _ ha), atI_nat (j := t.toNat) hc1, _, rfl, c, _, _, _, rfl, rfl, SqL.of hc2, atI_nat (j := b) ho2, ?_⟩
    refine ⟨_, _, rfl, ?_⟩
    refine ⟨fun n σ H' => ∃ (t : Bool) (o : Option Nat) (L R2 : List Nat), n = R2.length ∧ σ = [some (.ref a), some (vN b), some (vN t.toNat), some (.ref f), some (oV o)] ∧ Same H H' ∧ H' f = some (.lst ((b :: L).map vN)) ∧ RowR b (cond t m' m) (cond t m m') o R2 ∧ L ++ R2 = R,
      ⟨_, t, o, [], R, rfl, rfl, s1, upd_same, hR, rfl⟩, fun n σ H' h => ?_⟩
    obtain ⟨t, o, L, R2, rfl, rfl, s', hf', hR', e⟩ := h
    cases hR' with
    | none =>
      refine ⟨_, rfl, rfl, _, rfl, ?_⟩
      rw [List.append_nil] at e
      subst e
      exact ⟨_, rfl, q _ _ s' hf hf'⟩
    | back =>
      refine ⟨_, rfl, rfl, _, rfl, _, rfl, _, rfl, rfl, _, rfl, ?_⟩
      rw [List.append_nil] at e
      subst e
      refine iteNS rfl ?_
      exact ⟨_, rfl, q _ _ s' hf hf'⟩
    | @step _ _ x R3 o' hx ho' hR3 =>
      refine ⟨_, rfl, rfl, _, rfl, _, rfl, _, rfl, rfl, _, rfl, ?_⟩
      have hne : ¬ vN x = vN b := fun z => hx (by
        have : (x : Int) = (b : Int) := V.int.inj z
        omega)
      have hlen : (L ++ x :: R3).length ≤ 100 := by rw [e]; exact hl
      rw [List.length_append, List.length_cons] at hlen
      have ed : (!decide (oV (some x) = vN b)) = true := by
        show (!decide (vN x = vN b)) = true
        rw [decide_eq_false hne]
        rfl
      rw [ed]
      refine iteT ?_
      refine ⟨fun σ' H' => ∃ (t : Bool) (o : Option Nat) (L R2 : List Nat), R3.length = R2.length ∧ σ' = [some (.ref a), some (vN b), some (vN t.toNat), some (.ref f), some (oV o)] ∧ Same H H' ∧ H' f = some (.lst ((b :: L).map vN)) ∧ RowR b (cond t m' m) (cond t m m') o R2 ∧ L ++ R2 = R,
        fun σ' H' hN => ⟨R3.length, Nat.lt_succ_self _, hN⟩, ?_⟩
      refine ⟨_, rfl, .inl ⟨rfl, _, SqL.of hf'⟩, _, rfl, f, _, _, rfl, rfl, hf', small1000 (by rw [List.length_map, List.length_cons]; omega), ?_⟩
      have sF : Same H (upd H' f (.lst ((b :: L).map vN ++ [vN x]))) := samePut s' hf
      have et : (1 : Int) - ((t.toNat : Nat) : Int) = (((!t).toNat : Nat) : Int) := by cases t <;> rfl
      refine ⟨_, rfl, _, _, rfl, rfl, ?_⟩
      dsimp only
      rw [et]
      obtain ⟨c, hc1, hc2⟩ := hix _ (!t) sF
      have hsw : cond (!t) m' m = cond t m m' := by cases t <;> rfl
      have hsw2 : cond (!t) m m' = cond t m' m := by cases t <;> rfl
      rw [hsw] at hc2
      have ho2 : ((cond t m m').map oV)[x]? = some (oV o') := by rw [List.getElem?_map, ho']; rfl
      refine ⟨_, rfl, _, rfl, a, _, _, _, rfl, rfl, SqT.of (sF _ _ ha), atI_nat (j := (!t).toNat) hc1, _, rfl, c, _, _, _, rfl, rfl, SqL.of hc2, atI_nat (j := x) ho2, ?_⟩
      refine ⟨!t, o', L ++ [x], R3, rfl, rfl, sF, ?_, ?_, ?_⟩
      · rw [upd_same, ← List.cons_append, List.map_append]
        rfl
      · rw [hsw, hsw2]
        exact hR3
      · rw [List.append_assoc]
        exact e
end
end DC
end

section
set_option Elab.async false
set_option linter.all false
set_option maxRecDepth 100000
set_option maxHeartbeats 4000000
namespace DC
open PySem PySem.Spec PyProof.Rows L2
/-! ### heaps that differ at some addresses -/
def Bar (A : List Addr) (H H' : Hp) : Prop := ∀ a o, a ∉ A → H a = some o → H' a = some o
theorem Bar.refl (A : List Addr) (H : Hp) : Bar A H H := fun _ _ _ h => h
theorem Bar.trans {A : List Addr} {H H1 H2 : Hp} (h : Bar A H H1) (k : Bar A H1 H2) : Bar A H H2 := fun a o n e => k a o n (h a o n e)
theorem Bar.of {A : List Addr} {H H1 : Hp} (h : Same H H1) : Bar A H H1 := fun a o _ e => h a o e
theorem Bar.put {A : List Addr} {H : Hp} {a : Addr} {o : HO} (h : a ∈ A) : Bar A H (upd H a o) := fun b x n e => by
  have : b ≠ a := fun z => n (z ▸ h)
  rw [upd_ne this]
  exact e
theorem Bar.same {A : List Addr} {H0 H H1 : Hp} (h : Bar A H H1) (s : Same H0 H) (n : ∀ a ∈ A, H0 a = none) : Same H0 H1 := fun a o e => h a o (fun z => by
  have := n a z
  rw [e] at this
  cases this) (s a o e)
/-- the keys of a dict -/
def TK (kvs : List (Key × V)) (L : List Nat) : Prop := ∀ k : Key, (∃ p ∈ kvs, p.1 = k) ↔ ∃ e ∈ L, k = Sum.inl ((e : Nat) : Int)
theorem TK.nil : TK [] [] := fun k => ⟨fun ⟨_, h, _⟩ => (nomatch h), fun ⟨_, h, _⟩ => (nomatch h)⟩
theorem isSome_iff (kvs : List (Key × V)) (k : Key) : (valV kvs k).isSome = true ↔ ∃ p ∈ kvs, p.1 = k := by
  rw [← valV_any, List.any_eq_true]
  exact ⟨fun ⟨p, h1, h2⟩ => ⟨p, h1, of_decide_eq_true h2⟩, fun ⟨p, h1, h2⟩ => ⟨p, h1, decide_eq_true h2⟩⟩
theorem keys_put (kvs : List (Key × V)) (k j : Key) (v : V) : (∃ p ∈ putK kvs k v, p.1 = j) ↔ (∃ p ∈ kvs, p.1 = j) ∨ k = j := by
  rw [← isSome_iff, ← isSome_iff, valV_put]
  by_cases h : j = k
  · rw [if_pos h]
    exact ⟨fun _ => .inr h.symm, fun _ => rfl⟩
  · rw [if_neg h]
    exact ⟨fun z => .inl z, fun z => z.elim id fun e => absurd e.symm h⟩
theorem keys_merge : ∀ (ls kvs : List (Key × V)) (j : Key), (∃ p ∈ mergeK kvs ls, p.1 = j) ↔ (∃ p ∈ kvs, p.1 = j) ∨ ∃ p ∈ ls, p.1 = j
  | [], kvs, j => ⟨fun z => .inl z, fun z => z.elim id fun ⟨_, h, _⟩ => (nomatch h)⟩
  | (k, v) :: ls, kvs, j => by
    have ih := keys_merge ls (putK kvs k v) j
    have e : mergeK kvs ((k, v) :: ls) = mergeK (putK kvs k v) ls := rfl
    rw [e, ih, keys_put]
    constructor
    · rintro ((h | h) | ⟨p, h1, h2⟩)
      · exact .inl h
      · exact .inr ⟨(k, v), List.mem_cons_self, h⟩
      · exact .inr ⟨p, List.mem_cons_of_mem _ h1, h2⟩
    · rintro (h | ⟨p, h1, h2⟩)
      · exact .inl (.inl h)
      · rcases List.mem_cons.mp h1 with rfl | h1
        · exact .inl (.inr h2)
        · exact .inr ⟨p, h1, h2⟩
theorem TK.put {kvs : List (Key × V)} {L : List Nat} (h : TK kvs L) (e : Nat) (v : V) : TK (putK kvs (.inl (e : Int)) v) (L ++ [e]) := fun k => by
  rw [keys_put, h k]
  constructor
  · rintro (⟨x, h1, h2⟩ | h1)
    · exact ⟨x, List.mem_append_left _ h1, h2⟩
    · exact ⟨e, by simp, h1.symm⟩
  · rintro ⟨x, h1, h2⟩
    rcases List.mem_append.mp h1 with h1 | h1
    · exact .inl ⟨x, h1, h2⟩
    · rw [List.mem_singleton] at h1
      subst h1
      exact .inr h2.symm
theorem TK.merge {kvs ls : List (Key × V)} {L M : List Nat} (h : TK kvs L) (h2 : TK ls M) : TK (mergeK kvs ls) (L ++ M) := fun k => by
  rw [keys_merge, h k, h2 k]
  constructor
  · rintro (⟨x, h1, h2⟩ | ⟨x, h1, h2⟩)
    · exact ⟨x, List.mem_append_left _ h1, h2⟩
    · exact ⟨x, List.mem_append_right _ h1, h2⟩
  · rintro ⟨x, h1, h2⟩
    rcases List.mem_append.mp h1 with h1 | h1
    · exact .inl ⟨x, h1, h2⟩
    · exact .inr ⟨x, h1, h2⟩
theorem TK.get {kvs : List (Key × V)} {L : List Nat} (h : TK kvs L) (e : Nat) : (valV kvs (.inl (e : Int))).isSome = decide (e ∈ L) := by
  refine bool_of ?_
  rw [isSome_iff, h]
  constructor
  · rintro ⟨x, h1, h2⟩
    have := Sum.inl.inj h2
    have : x = e := by omega
    subst this
    exact h1
  · exact fun h1 => ⟨e, h1, rfl⟩
section
variable {P : Program} {w : World} {K : PySem.W.Frag} {mg : Str → Option Value} {base : Heap}
theorem walk_rangeN {n : Nat} : Walk (Itr 0 n) n (fun _ => True) (fun i H x H' => H' = H ∧ x = vN i) :=
  walk_range.mono (fun _ h => h) fun i H x H' _ _ y => ⟨y.1, y.2.trans (by show V.int (0 + (i : Int)) = _; rw [Int.zero_add]; rfl)⟩
theorem inV_non (o1 o2 : Option Nat) : inV .non [oV o1, oV o2] = (o1.isNone || o2.isNone) := by
  cases o1 <;> cases o2 <;> rfl
theorem flat_oV (o : Option Nat) : flatV (oV o) = true := by cases o <;> rfl
theorem isFree_of {m : List (Option Nat)} {e : Nat} {o : Option Nat} (h : m[e]? = some o) : isFree m e = o.isNone := by
  unfold isFree
  rw [h]
  rfl
theorem lasts_fm (m m' : List (Option Nat)) (n : Nat) : (List.range n).filterMap (fun e => if (isFree m e || isFree m' e) = true then some e else none) = lastsL m m' n := by
  unfold lastsL
  exact fm_filter _ _
def sp_rows_in : Sp := fun vs H Q _ => ∃ (v u : V) (a b : Lay), vs = [v, u] ∧ TD H v (eL a) ∧ TD H u (eL b) ∧ GoodL a ∧ GoodL b ∧ a.1 = b.1 ∧ (∀ e, e < 2 * a.1 → RowOk (matesL a) (matesL b) e) ∧
  ∀ (H' : Hp) (p : Addr) (ys : List V) (ss : List (List Nat)), Same H H' → H p = none → H' p = some (.lst ys) → TDs H' ys (ss.map eRow) → ss.Perm (rowsL a b) → Q (.ref p) H'
theorem srt_Row (l : List (List Nat)) (h : ∀ r ∈ l, r ≠ []) : PySem.W.Sortable (l.map eRow) := .inl fun d hd => by
  obtain ⟨b, hb, rfl⟩ := List.mem_map.mp hd
  cases b with
  | nil => exact absurd rfl (h _ hb)
  | cons x r => exact ⟨_, _, rfl⟩
theorem ok_rows_in (T : TX K mg) : Ok P w K mg base 2 "rows_in" ["one", "other"] sp_rows_in := by
  have G_mates_in := ok_mates_in (P := P) (w := w) (base := base) T
  have G_row_from := ok_row_from (P := P) (w := w) (base := base) T
  refine ok_of (k := 1) T.f_rows_in sc_rows_in (fun _ _ _ _ _ _ us hl => match us, hl with | [_, _], _ => rfl) (fun vs H Q E h => ?_) (fun cdv A outer s H vs Q E hr h => ?_)
  · obtain ⟨v, u, a, b, rfl, _⟩ := h
    rfl
  · obtain ⟨v, u, a, b, rfl, ta, tb, ga, gb, hab, hrow, q⟩ := h
    obtain ⟨c, c2, xs, rfl, hc, hc2, hx⟩ := ta.lI
    have hf := ga.few
    have hma := matesL_len a
    have hmb := matesL_len b
    refine ⟨_, (pss_cons (ps_asg (pe_tup (pa_cons (pe_tup (pa_cons (pe_callD G_mates_in (hr.mono (by decide)) (pa_cons (pv 0) pa_nil)) (pa_cons (pe_callD G_mates_in (hr.mono (by decide)) (pa_cons (pv 1) pa_nil)) pa_nil))) (pa_cons pe_dnewK (pa_cons (pe_lst pa_nil) pa_nil)))) (pg_tup (by rfl) (pgs_cons (pg_name (i := 2) sc_rows_in.nd rfl (Or.inr rfl)) (pgs_cons (pg_name (i := 3) sc_rows_in.nd rfl (Or.inl rfl)) (pgs_cons (pg_name (i := 4) sc_rows_in.nd rfl (Or.inl rfl)) pgs_nil)))))
      (pss_cons (ps_setLc (i := 6) (own := [("end", 5)]) (g := (gName 5)) (by rfl) sc_rows_in.nd rfl rfl (sw_true rfl rfl rfl (by decide +kernel)) (pi_range1 rfl T.z_range (pa_cons (pe_op op_mul pe_int (pe_ix ix_tup (pv 0) pe_int (fun _ _ => rfl))) pa_nil)) (blkOk_by (own := [("end", 5)]) (N := N_rows_in) (sc := defScope s_rows_in) (by decide +kernel)) (fun _ _ _ _ _ => (pg_name (i := 5) sc_rows_in.nd rfl (Or.inl rfl))) (fun _ _ _ _ _ => pts_one (pt_cmpR (op_in_seqK (K := K) rfl) pe_non (pe_tup (pa_cons (pe_ix (ix_listK (K := K) rfl) (pe_ix (ix_tupK (K := K) rfl) (pv 2) pe_int (fun _ _ => rfl)) (pv 5) (fun _ _ => rfl)) (pa_cons (pe_ix (ix_listK (K := K) rfl) (pe_ix (ix_tupK (K := K) rfl) (pv 2) pe_int (fun _ _ => rfl)) (pv 5) (fun _ _ => rfl)) pa_nil))) (by rfl))) (fun _ _ _ _ _ => (pv 5)))
      (pss_cons (ps_for PassesOwn.never rfl (pi_list (pe_op op_cat (pv 6) (pe_listRg rfl rfl T.z_list (prg_1 rfl T.z_range (pe_op op_mul pe_int (pe_ix ix_tup (pv 0) pe_int (fun _ _ => rfl))))))) (pg_name (i := 5) sc_rows_in.nd rfl (Or.inl rfl)) (pss_one (ps_if (pt_cmp (pc_dnotin (hu_of hr) (pv 5) (pv 3))) (pss_cons (ps_set (i := 7) sc_rows_in.nd rfl (Or.inl rfl) (pe_callD G_row_from (hr.mono (by decide)) (pa_cons (pv 2) (pa_cons (pv 5) (pa_cons (pe_ifExp (pt_cmpR op_isN (pe_ix ix_list (pe_ix ix_tup (pv 2) pe_int (fun _ _ => rfl)) (pv 5) (fun _ _ => rfl)) pe_non (nomark _)) pe_int pe_int) pa_nil)))))
      (pss_cons (ps_expr (pe_bm PySem.F.plainAttrs_dict PySem.F.slot_dict_update PySem.F.type_dict_update mt_update (pv 3) (pa_cons (pe_dc (own := [("here", 8)]) (g := (gName 8)) (by rfl) sc_rows_in.nd (pi_list (pv 7)) (blkOk_by (own := [("here", 8)]) (N := N_rows_in) (sc := defScope s_rows_in) (by decide +kernel)) (fun _ _ _ _ _ => (pg_name (i := 8) sc_rows_in.nd rfl (Or.inl rfl))) (fun _ _ _ _ _ => pts_nil) (fun _ _ _ _ _ => (pv 8)) (fun _ _ _ _ _ => pe_bl)) pa_nil)))
      (pss_one (ps_expr (pe_bm PySem.F.plainAttrs_list PySem.F.slot_list_append PySem.F.type_list_append mt_append (pv 4) (pa_cons (pe_callTy call_tuple_of (by rfl) T.z_tuple bt_tuple (pa_cons (pv 7) pa_nil)) pa_nil)))))) pss_nil)))
      (pss_one (ps_ret (pe_callB (cr_sortedE enc_Row (by decide) (hu64 hr)) (by rfl) T.z_sorted bt_sorted (pa_cons (pv 4) pa_nil))))))), ?_⟩
    refine ⟨_, rfl, _, a, rfl, ta, ga, fun H1 p s1 hpf hp => ?_⟩
    refine ⟨_, rfl, _, b, rfl, tb.by s1, gb, fun H2 p' s2 hpf' hp' => ?_⟩
    refine ⟨by show 2 ≤ sizeLine; decide, fun t ht => ?_⟩
    have s3 := same_upd (o := .tup [V.ref p, V.ref p']) ht
    refine fun du hdu => ?_
    have s4 := s3.trans (same_upd (o := .dK []) hdu)
    refine ⟨Nat.zero_le _, fun f hff => ?_⟩
    have s5 := s4.trans (same_upd (o := .lst []) hff)
    refine ⟨by show 3 ≤ sizeLine; decide, fun tt htt => ?_⟩
    have s6 := s5.trans (same_upd (o := .tup [V.ref t, V.ref du, V.ref f]) htt)
    refine ⟨tt, _, rfl, SqT.of upd_same, rfl, _, _, rfl, _, _, rfl, _, _, rfl, rfl, ?_⟩
    have s12 := s1.trans s2
    have hp6 := s6 _ _ (s2 _ _ hp)
    have hp6' := s6 _ _ hp'
    have k5 : Same (upd H2 t (HO.tup [V.ref p, V.ref p'])) _ := (same_upd (o := .dK []) hdu).trans ((same_upd (o := .lst []) hff).trans (same_upd (o := .tup [V.ref t, V.ref du, V.ref f]) htt))
    have ht6 := k5 t _ upd_same
    have hdu6 := ((same_upd (o := .lst []) hff).trans (same_upd (o := .tup [V.ref t, V.ref du, V.ref f]) htt)) du (.dK []) upd_same
    have hf6 := (same_upd (o := .tup [V.ref t, V.ref du, V.ref f]) htt) f (.lst []) upd_same
    have ndu : H du = none := (s12.trans s3).free hdu
    have nf : H f = none := (s12.trans s4).free hff
    have t6 := s12.trans s6
    have zpf : p ≠ f := ne_of_none (s4 _ _ (s2 _ _ hp)) hff
    have zpf' : p' ≠ f := ne_of_none (s4 _ _ hp') hff
    clear k5 s5 s4 s3 hff hdu ht s2 s1 hp hp'
    generalize upd (upd (upd (upd H2 t (HO.tup [V.ref p, V.ref p'])) du (HO.dK [])) f (HO.lst [])) tt (HO.tup [V.ref t, V.ref du, V.ref f]) = H6 at *
    clear s6 htt
    -- lasts
    refine ⟨_, rfl, c, _, _, _, rfl, rfl, SqT.of (t6 _ _ hc), atI_nat (j := 0) rfl, (2 : Int), _, rfl, rfl, .inl ⟨by decide, by decide⟩, ?_⟩
    refine ⟨_, rfl, by omega, by omega, fun D hD => ?_⟩
    have en : (2 * (a.1 : Int)).toNat = 2 * a.1 := by omega
    rw [en]
    refine lc_fm (walk_rangeN (n := 2 * a.1)) eNat (fun e => if (isFree (matesL a) e || isFree (matesL b) e) = true then some e else none) hD (small1000 (by omega)) (fun _ _ => trivial) (fun i x H3 H4 N M hi s y kN kM => ?_) (fun H3 ws s hw ht => ?_)
    · obtain ⟨rfl, rfl⟩ := y
      refine ⟨rfl, ?_⟩
      have m1 : (matesL a)[i]? = some (matesL a)[i] := List.getElem?_eq_getElem (by omega)
      have m2 : (matesL b)[i]? = some (matesL b)[i] := List.getElem?_eq_getElem (by omega)
      have v1 : ((matesL a).map oV)[i]? = some (oV (matesL a)[i]) := by rw [List.getElem?_map, m1]; rfl
      have v2 : ((matesL b).map oV)[i]? = some (oV (matesL b)[i]) := by rw [List.getElem?_map, m2]; rfl
      refine ⟨_, rfl, t, _, _, _, rfl, rfl, SqT.of (s _ _ ht6), atI_nat (j := 0) rfl, _, rfl, p, _, _, _, rfl, rfl, SqL.of (s _ _ hp6), atI_nat (j := i) v1, ?_⟩
      refine ⟨_, rfl, t, _, _, _, rfl, rfl, SqT.of (s _ _ ht6), atI_nat (j := 1) rfl, _, rfl, p', _, _, _, rfl, rfl, SqL.of (s _ _ hp6'), atI_nat (j := i) v2, ?_⟩
      refine ⟨by show 2 ≤ sizeLine; decide, fun q1 hq1 => ?_⟩
      refine ⟨q1, _, rfl, .inr (SqT.of upd_same), rfl, ?_, _, rfl, ?_⟩
      · show ([oV (matesL a)[i], oV (matesL b)[i]]).all flatV = true
        rw [List.all_cons, List.all_cons, List.all_nil, flat_oV, flat_oV]
        rfl
      · have ei : inV .non ([oV (matesL a)[i], oV (matesL b)[i]] ++ []) = (isFree (matesL a) i || isFree (matesL b) i) := by
          rw [List.append_nil, inV_non, isFree_of m1, isFree_of m2]
        have ev : (if false = true then !inV V.non ([oV (matesL a)[i], oV (matesL b)[i]] ++ []) else inV V.non ([oV (matesL a)[i], oV (matesL b)[i]] ++ [])) = inV V.non ([oV (matesL a)[i], oV (matesL b)[i]] ++ []) := rfl
        refine ite2 (fun e => ?_) (fun e => ?_)
        · have e1 : inV V.non ([oV (matesL a)[i], oV (matesL b)[i]] ++ []) = true := e
          rw [ei] at e1
          exact ⟨_, rfl, kN _ _ i (if_pos e1) (same_upd hq1) (.int _)⟩
        · have e1 : ¬ inV V.non ([oV (matesL a)[i], oV (matesL b)[i]] ++ []) = true := e
          rw [ei] at e1
          exact kM _ (if_neg e1) (same_upd hq1)
    · rw [lasts_fm] at ht
      rw [tds_nats_inv ht] at hw
      have s7 := t6.trans s
      refine ⟨_, rfl, _, rfl, c, _, _, _, rfl, rfl, SqT.of (s7 _ _ hc), atI_nat (j := 0) rfl, (2 : Int), _, rfl, rfl, .inl ⟨by decide, by decide⟩, _, rfl, RgOk.of_le (by omega) (by omega) (by omega) (by omega), fun p2 hp2 => ?_⟩
      have er : rgV 0 (2 * (a.1 : Int)) = (List.range (2 * a.1)).map vN := by
        unfold rgV
        have e0 : (2 * (a.1 : Int) - 0).toNat = 2 * a.1 := by omega
        rw [e0]
        refine List.map_congr_left fun i _ => ?_
        rw [Int.zero_add]
        rfl
      rw [er] at *
      have k8 := same_upd (o := .lst ((List.range (2 * a.1)).map vN)) hp2
      have hlast : (lastsL (matesL a) (matesL b) (2 * a.1)).length ≤ 24 := by
        have h1 : (lastsL (matesL a) (matesL b) (2 * a.1)).length ≤ (List.range (2 * a.1)).length := List.length_filter_le _ _
        rw [List.length_range] at h1
        omega
      refine ⟨D, p2, _, _, rfl, rfl, k8 _ _ hw, upd_same, ?_, fun p3 hp3 => ?_⟩
      · rw [List.length_map, List.length_map, List.length_range, sizeLine_eq]
        omega
      · rw [← List.map_append] at *
        generalize hes : lastsL (matesL a) (matesL b) (2 * a.1) ++ List.range (2 * a.1) = es at *
        have k9 := s.trans (k8.trans (same_upd (o := .lst (es.map vN)) hp3))
        have hes2 : es.length ≤ 48 := by
          rw [← hes, List.length_append, List.length_range]
          omega
        have hmem : ∀ e ∈ es, e < 2 * a.1 := fun e he => by
          rw [← hes] at he
          rcases List.mem_append.mp he with he | he
          · exact List.mem_range.mp (List.mem_filter.mp he).1
          · exact List.mem_range.mp he
        have q3 : upd (upd H3 p2 (.lst ((List.range (2 * a.1)).map vN))) p3 (.lst (es.map vN)) p3 = some (.lst (es.map vN)) := upd_same
        have n3 : ∀ x o, H6 x = some o → p3 ≠ x := fun x o hx z => by
          subst z
          rw [(s.trans k8) _ _ hx] at hp3
          cases hp3
        have np3f : p3 ∉ [du, f] := fun z => by
          rcases List.mem_cons.mp z with z | z
          · exact n3 _ _ hdu6 z
          · exact n3 _ _ hf6 (List.mem_singleton.mp z)
        have t9 := t6.trans k9
        generalize upd (upd H3 p2 (.lst ((List.range (2 * a.1)).map vN))) p3 (.lst (es.map vN)) = H9 at *
        refine ⟨p3, rfl, ⟨_, SqL.of q3⟩, ?_⟩
        have ntf : t ∉ [du, f] := fun z => by
          rcases List.mem_cons.mp z with z | z
          · subst z; rw [ht6] at hdu6; cases hdu6
          · rw [List.mem_singleton] at z
            subst z; rw [ht6] at hf6; cases hf6
        have npf : p ∉ [du, f] := fun z => by
          rcases List.mem_cons.mp z with z | z
          · subst z; rw [hp6] at hdu6; cases hdu6
          · rw [List.mem_singleton] at z
            exact zpf z
        have npf' : p' ∉ [du, f] := fun z => by
          rcases List.mem_cons.mp z with z | z
          · subst z; rw [hp6'] at hdu6; cases hdu6
          · rw [List.mem_singleton] at z
            exact zpf' z
        have nduf : du ≠ f := fun z => by
          subst z
          rw [hdu6] at hf6
          cases hf6
        refine for_it (walk_list (K := K) (a := p3) (xs := es.map vN)) (fun i σ H' => ∃ (y5 y7 : Option V) (kvs : List (Key × V)) (ys : List V) (taken : List Nat) (acc : List (List Nat)), σ = [some (.ref c), some u, some (.ref t), some (.ref du), some (.ref f), y5, some (.ref D), y7, none] ∧
            Bar [du, f] H9 H' ∧ H' du = some (.dK kvs) ∧ TK kvs taken ∧ kvs.length ≤ 101 * i ∧ H' f = some (.lst ys) ∧ TDs H' ys (acc.map eRow) ∧ acc.length ≤ i ∧ (∀ r ∈ acc, r ≠ []) ∧ rowsGo (matesL a) (matesL b) (es.drop i) taken acc = rowsL a b)
          ⟨none, none, [], [], [], [], rfl, Bar.refl _ _, k9 _ _ hdu6, TK.nil, Nat.zero_le _, k9 _ _ hf6, .nil, Nat.zero_le _, fun r hr => (nomatch hr), by rw [List.drop_zero, ← hes]; rfl⟩ (fun i σ H' _ pv => ?_) (fun i x σ H' H'' hi pv y => ?_) (fun σ H' pv => ?_)
        · obtain ⟨_, _, _, _, _, _, _, br, _⟩ := pv
          exact SqL.of (br _ _ np3f q3)
        · obtain ⟨y5, y7, kvs, ys, taken, acc, rfl, br, hu, tk, hkl, hfl, hty, hal, hne, hgo⟩ := pv
          obtain ⟨rfl, hxi⟩ := y
          rw [List.getElem?_map] at hxi
          cases hei : es[i]? with
          | none => rw [hei] at hxi; cases hxi
          | some e =>
            rw [hei] at hxi
            have ex : x = vN e := (Option.some.inj hxi).symm
            subst ex
            have hil : i < es.length := (List.getElem?_eq_some_iff.mp hei).1
            have hdr : es.drop i = e :: es.drop (i + 1) := by
              rw [List.drop_eq_getElem_cons hil]
              rw [List.getElem?_eq_getElem hil] at hei
              rw [Option.some.inj hei]
            have he := hmem e (List.mem_of_getElem? hei)
            rw [hdr] at hgo
            refine ⟨_, rfl, _, rfl, du, _, rfl, DGet.k (k := Sum.inl (e : Int)) hu, ?_⟩
            rw [tk.get e]
            refine ⟨_, rfl, ?_⟩
            by_cases hin : e ∈ taken
            · rw [decide_eq_true hin]
              refine iteF ?_
              refine ⟨_, _, kvs, ys, taken, acc, rfl, br, hu, tk, by omega, hfl, hty, by omega, hne, ?_⟩
              rw [← hgo, rowsGo, if_pos hin]
            · rw [decide_eq_false hin]
              refine iteT ?_
              rw [rowsGo, if_neg hin] at hgo
              obtain ⟨o, R, ho, hR, hRl, hat⟩ := hrow e he
              have hM : Mts H'' (.ref t) (matesL a) (matesL b) := ⟨t, p, p', rfl, br _ _ ntf (k9 _ _ ht6), br _ _ npf (k9 _ _ hp6), br _ _ npf' (k9 _ _ hp6')⟩
              have m1 : (matesL a)[e]? = some (matesL a)[e] := List.getElem?_eq_getElem (by omega)
              have v1 : ((matesL a).map oV)[e]? = some (oV (matesL a)[e]) := by rw [List.getElem?_map, m1]; rfl
              refine ⟨_, rfl, _, rfl, _, rfl, t, _, _, _, rfl, rfl, SqT.of (br _ _ ntf (k9 _ _ ht6)), atI_nat (j := 0) rfl, _, rfl, p, _, _, _, rfl, rfl, SqL.of (br _ _ npf (k9 _ _ hp6)), atI_nat (j := e) v1, rfl, _, rfl, ?_⟩
              rw [oV_none]
              have hfr := isFree_of m1
              rw [← hfr]
              have hrow0 := hat
              generalize hb : isFree (matesL a) e = tb at *
              have hwt : ∀ (kvs kv : List (Key × V)) (ys : List V), kvs.length ≤ 101 * i → kv.length ≤ 101 → ys.length ≤ i → kvs.length + kv.length ≤ sizeLine ∧ ys.length < sizeLine := fun kvs kv ys h1 h2 h3 => by
                rw [sizeLine_eq]
                omega
              have hly : ys.length ≤ i := by
                have := hty.len
                rw [List.length_map] at this
                omega
              cases tb
              all_goals
                first
                | refine iteF ?_
                | refine iteT ?_
                refine ⟨_, matesL a, matesL b, e, _, o, R, rfl, hM, ho, hR, hRl, fun Ha rp sa _ hrp => ?_⟩
                have hua := sa _ _ hu
                refine ⟨_, rfl, .inr (.inr (.inl ⟨rfl, .inl ⟨_, hua⟩⟩)), ?_⟩
                refine ⟨_, rfl, rp, rfl, ⟨_, SqL.of hrp⟩, fun D2 hD2 => ?_⟩
                refine dc_it (walk_list (K := K) (a := rp) (xs := (e :: R).map vN)) (fun k H' => Same Ha H' ∧ ∃ kv : List (Key × V), H' D2 = some (.dK kv) ∧ TK kv ((e :: R).take k) ∧ kv.length ≤ k) ⟨same_upd hD2, [], upd_same, TK.nil, Nat.zero_le _⟩ (fun k H' _ pk => SqL.of (pk.1 _ _ hrp)) (fun k x H' Hb hk pk yk => ?_) (fun Hb pk => ?_)
                · obtain ⟨sb, kv, hkv, tkv, lkv⟩ := pk
                  obtain ⟨rfl, hxk⟩ := yk
                  rw [List.getElem?_map] at hxk
                  cases hrk : (e :: R)[k]? with
                  | none => rw [hrk] at hxk; cases hxk
                  | some z =>
                    rw [hrk] at hxk
                    have exz : x = vN z := (Option.some.inj hxk).symm
                    subst exz
                    rw [List.length_map, List.length_cons] at hk
                    refine ⟨rfl, ?_⟩
                    refine ⟨_, rfl, kv, .inl (z : Int), rfl, hkv, small1000 (by omega), samePut sb hD2, _, upd_same, ?_, ?_⟩
                    · have := tkv.put z (V.bl true)
                      rw [List.take_add_one, hrk]
                      exact this
                    · have hm := length_mergeK [((Sum.inl (z : Int) : Key), V.bl true)] kv
                      have hm2 : (putK kv (.inl (z : Int)) (V.bl true)).length ≤ kv.length + 1 := hm
                      omega
                · obtain ⟨sb, kv, hkv, tkv, lkv⟩ := pk
                  rw [List.length_map, List.length_cons] at lkv
                  rw [List.length_map, List.take_length] at tkv
                  have lkv2 : kv.length ≤ 101 := by omega
                  have nD : du ≠ D2 := ne_of_none hua hD2
                  obtain ⟨z1, z2⟩ := hwt kvs kv ys hkl lkv2 hly
                  refine ⟨du, D2, kvs, kv, rfl, rfl, nD, sb _ _ hua, hkv, z1, ?_⟩
                  have bA : Bar [du, f] H'' (upd Hb du (.dK (mergeK kvs kv))) := (Bar.of (sa.trans sb)).trans (Bar.put (List.mem_cons_self))
                  have hfB : upd Hb du (.dK (mergeK kvs kv)) f = some (.lst ys) := by
                    rw [upd_ne (Ne.symm nduf)]
                    exact sb _ _ (sa _ _ hfl)
                  have hrB : upd Hb du (.dK (mergeK kvs kv)) rp = some (.lst ((e :: R).map vN)) := by
                    have : rp ≠ du := fun z => by
                      subst z
                      rw [hrp] at hua
                      cases hua
                    rw [upd_ne this]
                    exact sb _ _ hrp
                  have tyB : TDs (upd Hb du (.dK (mergeK kvs kv))) ys (acc.map eRow) := (hty.by (sa.trans sb)).to (tupS_upd fun xs q => by rw [sb _ _ hua] at q; cases q)
                  have huB : upd Hb du (.dK (mergeK kvs kv)) du = some (.dK (mergeK kvs kv)) := upd_same
                  generalize upd Hb du (.dK (mergeK kvs kv)) = Hc at *
                  refine ⟨_, rfl, .inl ⟨rfl, _, SqL.of hfB⟩, _, rfl, rp, _, rfl, .inl ⟨SqL.of hrB, fun p5 hp5 => ?_⟩⟩
                  have s5 := same_upd (o := .tup ((e :: R).map vN)) hp5
                  refine ⟨f, _, _, rfl, rfl, s5 _ _ hfB, z2, ?_⟩
                  refine ⟨_, _, mergeK kvs kv, ys ++ [.ref p5], taken ++ (e :: R), acc ++ [e :: R], rfl, (br.trans bA).trans ((Bar.of s5).trans (Bar.put (by simp))), ?_, tk.merge tkv, ?_, upd_same, ?_, ?_, ?_, ?_⟩
                  · rw [upd_ne nduf]
                    exact s5 _ _ huB
                  · have := length_mergeK kv kvs
                    omega
                  · rw [List.map_append]
                    refine ((tyB.by s5).snoc ?_).to (tupS_lst (s5 _ _ hfB))
                    exact .tup upd_same (tds_nats _)
                  · rw [List.length_append, List.length_singleton]
                    omega
                  · intro r hr'
                    rcases List.mem_append.mp hr' with hr' | hr'
                    · exact hne r hr'
                    · rw [List.mem_singleton] at hr'
                      subst hr'
                      exact fun z => (nomatch z)
                  · rw [← hrow0]
                    exact hgo
        · obtain ⟨y5, y7, kvs, ys, taken, acc, rfl, br, hu, tk, hkl, hfl, hty, hal, hne, hgo⟩ := pv
          rw [List.length_map, List.drop_length] at hgo
          have hgo : acc = rowsL a b := hgo
          have hnd : ∀ x ∈ [du, f], H x = none := fun x hx => by
            rcases List.mem_cons.mp hx with rfl | hx
            · exact ndu
            · rw [List.mem_singleton] at hx
              subst hx
              exact nf
          have sE := br.same t9 hnd
          refine ⟨_, rfl, f, ys, acc, rfl, SqL.of hfl, hty, srt_Row _ hne, fun zs p6 hp6 tz => ?_⟩
          refine q _ p6 zs _ (sE.trans (same_upd hp6)) (sE.free hp6) upd_same (tz.by (same_upd hp6)) ?_
          rw [← hgo]
          exact List.mergeSort_perm _ _
end
end DC
end

section
set_option Elab.async false
set_option linter.all false
set_option maxRecDepth 100000
set_option maxHeartbeats 4000000
namespace DC
open PySem PySem.Spec PyProof.Rows L2
section
variable {P : Program} {w : World} {K : PySem.W.Frag} {mg : Str → Option Value} {base : Heap}
theorem inVnon2 (o1 o2 : Option Nat) : (if true = true then !inV V.non ([oV o1, oV o2] ++ []) else inV V.non ([oV o1, oV o2] ++ [])) = (!o1.isNone && !o2.isNone) := by
  show (!inV V.non ([oV o1, oV o2] ++ [])) = _
  rw [List.append_nil, inV_non]
  cases o1 <;> cases o2 <;> rfl
def sp_kind_of : Sp := fun vs H Q _ => ∃ (v u x : V) (a b : Lay) (e : Nat) (r : List Nat), vs = [v, u, x] ∧ TD H v (eL a) ∧ TD H u (eL b) ∧ TD H x (eRow (e :: r)) ∧ GoodL a ∧ GoodL b ∧ a.1 = b.1 ∧ e < 2 * a.1 ∧
  ∀ H', Same H H' → Q (.str (kStr (kindL (matesL a) (matesL b) (e :: r)))) H'
theorem ok_kind_of (T : TX K mg) : Ok P w K mg base 2 "kind_of" ["one", "other", "row"] sp_kind_of := by
  have G_mates_in := ok_mates_in (P := P) (w := w) (base := base) T
  refine ok_of (k := 1) T.f_kind_of sc_kind_of (fun _ _ _ _ _ _ us hl => match us, hl with | [_, _, _], _ => rfl) (fun vs H Q E h => ?_) (fun cdv A outer s H vs Q E hr h => ?_)
  · obtain ⟨v, u, x, a, b, e, r, rfl, _⟩ := h
    rfl
  · obtain ⟨v, u, x, a, b, e, r, rfl, ta, tb, tx, ga, gb, hab, he, q⟩ := h
    obtain ⟨z, zs, rfl, hz, tz⟩ := tx.listI
    have hzs := tds_nats_inv tz
    subst hzs
    have hma := matesL_len a
    have hmb := matesL_len b
    have m1 : (matesL a)[e]? = some (matesL a)[e] := List.getElem?_eq_getElem (by omega)
    have m2 : (matesL b)[e]? = some (matesL b)[e] := List.getElem?_eq_getElem (by omega)
    have f1 := isFree_of m1
    have f2 := isFree_of m2
    have v1 : ((matesL a).map oV)[e]? = some (oV (matesL a)[e]) := by rw [List.getElem?_map, m1]; rfl
    have v2 : ((matesL b).map oV)[e]? = some (oV (matesL b)[e]) := by rw [List.getElem?_map, m2]; rfl
    generalize (matesL a)[e] = o1 at *
    generalize (matesL b)[e] = o2 at *
    have hk : kindL (matesL a) (matesL b) (e :: r) = if (!o1.isNone && !o2.isNone) = true then 0 else if (e :: r).length % 2 = 1 then 1 else if o1.isNone = true then 2 else 3 := by
      show (if (!isFree (matesL a) e && !isFree (matesL b) e) = true then (0 : Fin 4) else if (e :: r).length % 2 = 1 then 1 else if isFree (matesL a) e = true then 2 else 3) = _
      rw [f1, f2]
    rw [hk] at q
    refine ⟨_, (pss_cons (ps_set (i := 3) sc_kind_of.nd rfl (Or.inl rfl) (pe_tup (pa_cons (pe_callD G_mates_in (hr.mono (by decide)) (pa_cons (pv 0) pa_nil)) (pa_cons (pe_callD G_mates_in (hr.mono (by decide)) (pa_cons (pv 1) pa_nil)) pa_nil))))
      (pss_cons (ps_if (pt_cmpR op_notIn_seq pe_non (pe_tup (pa_cons (pe_ix ix_list (pe_ix ix_tup (pv 3) pe_int (fun _ _ => rfl)) (pe_ix ix_tup (pv 2) pe_int (fun _ _ => rfl)) (fun _ _ => rfl)) (pa_cons (pe_ix ix_list (pe_ix ix_tup (pv 3) pe_int (fun _ _ => rfl)) (pe_ix ix_tup (pv 2) pe_int (fun _ _ => rfl)) (fun _ _ => rfl)) pa_nil))) (by rfl)) (pss_one (ps_ret (pe_gStr T.c_RING))) pss_nil)
      (pss_cons (ps_if (pt_cmpR op_eq (pe_op op_modN (pe_callTy call_int1 (by rfl) T.z_int bt_int (pa_cons (pe_callB call_len_seq (by rfl) T.z_len bt_len (pa_cons (pv 2) pa_nil)) pa_nil)) pe_int) pe_int (nomark _)) (pss_one (ps_ret (pe_gStr T.c_ODD))) pss_nil)
      (pss_one (ps_ret (pe_ifExp (pt_cmpR op_isN (pe_ix ix_list (pe_ix ix_tup (pv 3) pe_int (fun _ _ => rfl)) (pe_ix ix_tup (pv 2) pe_int (fun _ _ => rfl)) (fun _ _ => rfl)) pe_non (nomark _)) (pe_gStr T.c_OPEN) (pe_gStr T.c_SHUT))))))), ?_⟩
    refine ⟨_, rfl, _, a, rfl, ta, ga, fun H1 p s1 hpf hp => ?_⟩
    refine ⟨_, rfl, _, b, rfl, tb.by s1, gb, fun H2 p' s2 hpf' hp' => ?_⟩
    refine ⟨by show 2 ≤ sizeLine; decide, fun t ht => ?_⟩
    have s3 := same_upd (o := .tup [V.ref p, V.ref p']) ht
    have sz := (s1.trans s2).trans s3
    have ht3 : upd H2 t (HO.tup [V.ref p, V.ref p']) t = some (.tup [V.ref p, V.ref p']) := upd_same
    have hp3 := s3 _ _ (s2 _ _ hp)
    have hp3' := s3 _ _ hp'
    have hz3 := sz _ _ hz
    generalize upd H2 t (HO.tup [V.ref p, V.ref p']) = H3 at *
    refine ⟨_, rfl, t, _, _, _, rfl, rfl, SqT.of ht3, atI_nat (j := 0) rfl, _, rfl, z, _, _, _, rfl, rfl, SqT.of hz3, atI_nat (j := 0) rfl, p, _, _, _, rfl, rfl, SqL.of hp3, atI_nat (j := e) v1, ?_⟩
    refine ⟨_, rfl, t, _, _, _, rfl, rfl, SqT.of ht3, atI_nat (j := 1) rfl, _, rfl, z, _, _, _, rfl, rfl, SqT.of hz3, atI_nat (j := 0) rfl, p', _, _, _, rfl, rfl, SqL.of hp3', atI_nat (j := e) v2, ?_⟩
    refine ⟨by show 2 ≤ sizeLine; decide, fun q1 hq1 => ?_⟩
    have s4 := same_upd (o := .tup ([oV o1, oV o2] ++ [])) hq1
    refine ⟨q1, _, rfl, .inr (SqT.of upd_same), rfl, ?_, _, rfl, ?_⟩
    · show ([oV o1, oV o2]).all flatV = true
      rw [List.all_cons, List.all_cons, List.all_nil, flat_oV, flat_oV]
      rfl
    · refine ite2 (fun e1 => ?_) (fun e1 => ?_)
      · have e2 := (inVnon2 o1 o2).symm.trans e1
        rw [if_pos e2] at q
        exact q _ (sz.trans s4)
      · have e2 : ¬ (!o1.isNone && !o2.isNone) = true := fun q => e1 ((inVnon2 o1 o2).trans q)
        rw [if_neg e2] at q
        refine ⟨_, rfl, _, _, rfl, .inr (SqT.of (s4 _ _ hz3)), .inl ⟨_, rfl, ?_⟩⟩
        refine ⟨_, _, rfl, rfl, (show (2 : Int) ≠ 0 by decide), rfl, _, rfl, ?_⟩
        have em : Int.fmod ((((e :: r).map vN).length : Nat) : Int) 2 = (((e :: r).length % 2 : Nat) : Int) := by
          rw [List.length_map, Int.fmod_eq_emod_of_nonneg _ (by decide)]
          omega
        have et : (V.int (Int.fmod ((((e :: r).map vN).length : Nat) : Int) 2) = V.int 1) ↔ (e :: r).length % 2 = 1 := by
          rw [em]
          exact ⟨fun z => by have := V.int.inj z; omega, fun z => by rw [z]; rfl⟩
        refine ite2 (fun e3 => ?_) (fun e3 => ?_)
        · rw [if_pos (et.mp (of_decide_eq_true e3))] at q
          exact q _ (sz.trans s4)
        · rw [if_neg (fun z => e3 (decide_eq_true (et.mpr z)))] at q
          refine ⟨_, rfl, t, _, _, _, rfl, rfl, SqT.of (s4 _ _ ht3), atI_nat (j := 0) rfl, _, rfl, z, _, _, _, rfl, rfl, SqT.of (s4 _ _ hz3), atI_nat (j := 0) rfl, p, _, _, _, rfl, rfl, SqL.of (s4 _ _ hp3), atI_nat (j := e) v1, rfl, _, rfl, ?_⟩
          refine ite2 (fun e4 => ?_) (fun e4 => ?_)
          · rw [oV_none] at e4
            rw [if_pos e4] at q
            exact q _ (sz.trans s4)
          · rw [oV_none] at e4
            rw [if_neg e4] at q
            exact q _ (sz.trans s4)
def sp_pieces_in : Sp := fun vs H Q _ => ∃ (v u : V) (a b : Lay), vs = [v, u] ∧ TD H v (eL a) ∧ TD H u (eL b) ∧ GoodL a ∧ GoodL b ∧ a.1 = b.1 ∧
  ∀ (H' : Hp) (p : Addr) (ys : List V) (ss : List Pc), Same H H' → H p = none → H' p = some (.lst ys) → TDs H' ys (ss.map ePc) → ss.Perm (piecesL a b) → Q (.ref p) H'
theorem ok_pieces_in (T : TX K mg) : Ok P w K mg base 3 "pieces_in" ["one", "other"] sp_pieces_in := by
  have G_rows_in := ok_rows_in (P := P) (w := w) (base := base) T
  have G_kind_of := ok_kind_of (P := P) (w := w) (base := base) T
  refine ok_of (k := 2) T.f_pieces_in sc_pieces_in (fun _ _ _ _ _ _ us hl => match us, hl with | [_, _], _ => rfl) (fun vs H Q E h => ?_) (fun cdv A outer s H vs Q E hr h => ?_)
  · obtain ⟨v, u, a, b, rfl, _⟩ := h
    rfl
  · obtain ⟨v, u, a, b, rfl, ta, tb, ga, gb, hab, q⟩ := h
    refine ⟨_, (pss_one (ps_ret (pe_callB (cr_sortedE enc_Pc (by decide) (hu64 hr)) (by rfl) T.z_sorted bt_sorted (pa_cons (pe_lc (own := [("row", 2)]) (g := (gName 2)) (by rfl) sc_pieces_in.nd (pi_list (pe_callD G_rows_in (hr.mono (by decide)) (pa_cons (pv 0) (pa_cons (pv 1) pa_nil)))) (blkOk_by (own := [("row", 2)]) (N := N_pieces_in) (sc := defScope s_pieces_in) (by decide +kernel)) (fun _ _ _ _ _ => (pg_name (i := 2) sc_pieces_in.nd rfl (Or.inl rfl))) (fun _ _ _ _ _ => pts_nil) (fun _ _ _ _ _ => (pe_tup (pa_cons (pe_callD G_kind_of (hr.mono (by decide)) (pa_cons (pv 0) (pa_cons (pv 1) (pa_cons (pv 2) pa_nil)))) (pa_cons (pe_callB (call_lenK (K := K) rfl) (by rfl) T.z_len bt_len (pa_cons (pv 2) pa_nil)) pa_nil))))) pa_nil)))), ?_⟩
    refine ⟨_, rfl, _, rfl, v, u, a, b, rfl, ta, tb, ga, gb, hab, rowOk ga gb hab, fun H1 p ys ss s1 hpf hp hys pm => ?_⟩
    refine ⟨p, rfl, ⟨_, SqL.of hp⟩, fun D hD => ?_⟩
    have hrows := rowsL_ok ga gb hab
    have hss : ss.length ≤ 48 := by rw [pm.length_eq]; exact hrows.1
    refine lc_src (walk_list (K := K) (a := p)) ePc (fun r => some (pieceL a b r)) hD (small1000 (by omega)) hys (fun H s => SqL.of (s _ _ hp)) (fun r x H2 N M hj s tx kN kM => ?_) (fun H2 ws s2 hw ht => ?_)
    · obtain ⟨e, r', rfl, he⟩ := hrows.2 r (pm.mem_iff.mp hj)
      refine ⟨rfl, ?_⟩
      refine ⟨_, rfl, _, rfl, _, rfl, v, u, x, a, b, e, r', rfl, ta.by (s1.trans s), tb.by (s1.trans s), tx, ga, gb, hab, he, fun H3 s3 => ?_⟩
      obtain ⟨z, zs, rfl, hz, tz⟩ := (tx.by s3).listI
      have hlz := tz.len
      rw [List.length_map] at hlz
      refine ⟨_, rfl, z, zs, rfl, .inr (SqT.of hz), by show 2 ≤ sizeLine; decide, fun p2 hp2 => ?_⟩
      refine kN _ _ _ rfl (s3.trans (same_upd hp2)) ?_
      refine .tup upd_same (.cons (.str _) (.cons ?_ .nil))
      rw [hlz]
      exact .int _
    · rw [fm_some] at ht
      refine ⟨D, ws, _, rfl, SqL.of hw, ht, srt_Pc _, fun zs p6 hp6 tz => ?_⟩
      have s3 := (s1.trans s2).trans (same_upd (o := .lst zs) hp6)
      exact q _ p6 zs _ s3 ((s1.trans s2).free hp6) upd_same (tz.by (same_upd hp6)) ((List.mergeSort_perm _ _).trans (pm.map _))
def sp_cost_of : Sp := fun vs H Q _ => ∃ (v : V) (p : Pc), vs = [v] ∧ TD H v (ePc p) ∧ Q (.int (costP p)) H
theorem kStr_ring (k : Fin 4) : (V.str (kStr k) = V.str "ring") ↔ k = 0 := by
  have : ∀ k : Fin 4, (kStr k = "ring") ↔ k = 0 := by decide +kernel
  exact ⟨fun z => (this k).mp (V.str.inj z), fun z => by rw [(this k).mpr z]⟩
theorem ok_cost_of (T : TX K mg) : Ok P w K mg base 1 "cost_of" ["piece"] sp_cost_of := by
  refine ok_of (k := 0) T.f_cost_of sc_cost_of (fun _ _ _ _ _ _ us hl => match us, hl with | [_], _ => rfl) (fun vs H Q E h => ?_) (fun cdv A outer s H vs Q E hr h => ?_)
  · obtain ⟨v, p, rfl, _⟩ := h
    rfl
  · obtain ⟨v, p, rfl, tv, q⟩ := h
    obtain ⟨a, x, y, rfl, ha, hx, hy⟩ := tv.pairI
    have ex := TD.strI hx
    have ey := TD.intI hy
    subst ex ey
    refine ⟨_, (pss_one (ps_ret (pe_op op_sub (pe_op op_fdivN (pe_ix ix_tup (pv 0) pe_int (fun _ _ => rfl)) pe_int) (pe_ifExp (pt_cmpR op_eq (pe_ix ix_tup (pv 0) pe_int (fun _ _ => rfl)) (pe_gStr T.c_RING) (nomark _)) pe_int pe_int)))), ?_⟩
    refine ⟨_, rfl, a, _, _, _, rfl, rfl, SqT.of ha, atI_nat (j := 1) rfl, _, _, rfl, rfl, ⟨by decide, by decide⟩, ?_⟩
    refine ⟨_, rfl, a, _, _, _, rfl, rfl, SqT.of ha, atI_nat (j := 0) rfl, rfl, _, rfl, ?_⟩
    have ed : Int.fdiv ((p.2 : Nat) : Int) 2 = ((p.2 / 2 : Nat) : Int) := by
      rw [Int.fdiv_eq_ediv_of_nonneg _ (by decide)]
      omega
    unfold costP at q
    rw [← ed] at q
    refine ite2 (fun e => ?_) (fun e => ?_)
    · rw [if_pos ((kStr_ring p.1).mp (of_decide_eq_true e))] at q
      exact ⟨_, _, rfl, rfl, q⟩
    · rw [if_neg (fun z => e (decide_eq_true ((kStr_ring p.1).mpr z)))] at q
      exact ⟨_, _, rfl, rfl, q⟩
def sp_cost_in : Sp := fun vs H Q _ => ∃ (v u : V) (a b : Lay), vs = [v, u] ∧ TD H v (eL a) ∧ TD H u (eL b) ∧ GoodL a ∧ GoodL b ∧ a.1 = b.1 ∧ ∀ H', Same H H' → Q (.int (costL a b)) H'
theorem sum_perm {l m : List Int} (h : l.Perm m) : l.sum = m.sum := by
  induction h with
  | nil => rfl
  | cons x _ ih => rw [List.sum_cons, List.sum_cons, ih]
  | swap x y l => rw [List.sum_cons, List.sum_cons, List.sum_cons, List.sum_cons]; omega
  | trans _ _ h1 h2 => rw [h1, h2]
theorem ok_cost_in (T : TX K mg) : Ok P w K mg base 4 "cost_in" ["one", "other"] sp_cost_in := by
  have G_pieces_in := ok_pieces_in (P := P) (w := w) (base := base) T
  have G_cost_of := ok_cost_of (P := P) (w := w) (base := base) T
  refine ok_of (k := 3) T.f_cost_in sc_cost_in (fun _ _ _ _ _ _ us hl => match us, hl with | [_, _], _ => rfl) (fun vs H Q E h => ?_) (fun cdv A outer s H vs Q E hr h => ?_)
  · obtain ⟨v, u, a, b, rfl, _⟩ := h
    rfl
  · obtain ⟨v, u, a, b, rfl, ta, tb, ga, gb, hab, q⟩ := h
    refine ⟨_, (pss_one (ps_ret (pe_callB (cr_sum rfl) (by rfl) T.z_sum bt_sum (pa_cons (pe_lc (own := [("piece", 2)]) (g := (gName 2)) (by rfl) sc_cost_in.nd (pi_list (pe_callD G_pieces_in (hr.mono (by decide)) (pa_cons (pv 0) (pa_cons (pv 1) pa_nil)))) (blkOk_by (own := [("piece", 2)]) (N := N_cost_in) (sc := defScope s_cost_in) (by decide +kernel)) (fun _ _ _ _ _ => (pg_name (i := 2) sc_cost_in.nd rfl (Or.inl rfl))) (fun _ _ _ _ _ => pts_nil) (fun _ _ _ _ _ => (pe_callD G_cost_of (hr.mono (by decide)) (pa_cons (pv 2) pa_nil)))) pa_nil)))), ?_⟩
    refine ⟨_, rfl, _, rfl, v, u, a, b, rfl, ta, tb, ga, gb, hab, fun H1 p ys ss s1 hpf hp hys pm => ?_⟩
    refine ⟨p, rfl, ⟨_, SqL.of hp⟩, fun D hD => ?_⟩
    have hrows := rowsL_ok ga gb hab
    have hss : ss.length ≤ 48 := by rw [pm.length_eq]; unfold piecesL; rw [List.length_map]; exact hrows.1
    refine lc_src (walk_list (K := K) (a := p)) eInt (fun r => some (costP r)) hD (small1000 (by omega)) hys (fun H s => SqL.of (s _ _ hp)) (fun r x H2 N M hj s tx kN kM => ?_) (fun H2 ws s2 hw ht => ?_)
    · refine ⟨rfl, ?_⟩
      exact ⟨_, rfl, x, r, rfl, tx, kN _ _ _ rfl (Same.refl _) (.int _)⟩
    · rw [fm_some] at ht
      have ew := tds_ints_inv ht
      subst ew
      refine ⟨D, _, rfl, SqL.of hw, ?_⟩
      have es : (ss.map costP).sum = costL a b := sum_perm (pm.map costP)
      rw [es]
      exact q _ (s1.trans s2)
def sp_pieces : Sp := fun vs H Q _ => ∃ (v u : V) (a b : Lay), vs = [v, u] ∧ TD H v (eL a) ∧ TD H u (eL b) ∧ GoodL a ∧ GoodL b ∧ a.1 = b.1 ∧
  ∀ (H' : Hp) (r : V) (ss : List Pc), Same H H' → TD H' r (eT ePc ss) → ss.Perm (piecesL a b) → Q r H'
theorem ok_pieces (T : TX K mg) : Ok P w K mg base 6 "pieces" ["one", "other"] sp_pieces := by
  have G_need_two := ok_need_two (P := P) (w := w) (base := base) T
  have G_pieces_in := ok_pieces_in (P := P) (w := w) (base := base) T
  refine ok_of (k := 5) T.f_pieces sc_pieces (fun _ _ _ _ _ _ us hl => match us, hl with | [_, _], _ => rfl) (fun vs H Q E h => ?_) (fun cdv A outer s H vs Q E hr h => ?_)
  · obtain ⟨v, u, a, b, rfl, _⟩ := h
    rfl
  · obtain ⟨v, u, a, b, rfl, ta, tb, ga, gb, hab, q⟩ := h
    refine ⟨_, (pss_cons (ps_expr (pe_callD G_need_two (hr.mono (by decide)) (pa_cons (pv 0) (pa_cons (pv 1) pa_nil))))
      (pss_one (ps_ret (pe_callTy call_tuple_of (by rfl) T.z_tuple bt_tuple (pa_cons (pe_callD G_pieces_in (hr.mono (by decide)) (pa_cons (pv 0) (pa_cons (pv 1) pa_nil))) pa_nil))))), ?_⟩
    refine ⟨_, rfl, _, rfl, v, u, a, b, rfl, ta, tb, ga, gb, hab, fun H0 r0 s0 => ?_⟩
    refine ⟨_, rfl, _, rfl, v, u, a, b, rfl, ta.by s0, tb.by s0, ga, gb, hab, fun H1 p ys ss s1 hpf hp hys pm => ?_⟩
    refine ⟨p, ys, rfl, .inl ⟨SqL.of hp, fun p2 hp2 => ?_⟩⟩
    exact q _ _ ss ((s0.trans s1).trans (same_upd hp2)) (.tup upd_same (hys.by (same_upd hp2))) pm
def sp_least_steps : Sp := sp_cost_in
theorem ok_least_steps (T : TX K mg) : Ok P w K mg base 6 "least_steps" ["one", "other"] sp_least_steps := by
  have G_need_two := ok_need_two (P := P) (w := w) (base := base) T
  have G_cost_in := ok_cost_in (P := P) (w := w) (base := base) T
  refine ok_of (k := 5) T.f_least_steps sc_least_steps (fun _ _ _ _ _ _ us hl => match us, hl with | [_, _], _ => rfl) (fun vs H Q E h => ?_) (fun cdv A outer s H vs Q E hr h => ?_)
  · obtain ⟨v, u, a, b, rfl, _⟩ := h
    rfl
  · obtain ⟨v, u, a, b, rfl, ta, tb, ga, gb, hab, q⟩ := h
    refine ⟨_, (pss_cons (ps_expr (pe_callD G_need_two (hr.mono (by decide)) (pa_cons (pv 0) (pa_cons (pv 1) pa_nil))))
      (pss_one (ps_ret (pe_callD G_cost_in (hr.mono (by decide)) (pa_cons (pv 0) (pa_cons (pv 1) pa_nil)))))), ?_⟩
    refine ⟨_, rfl, _, rfl, v, u, a, b, rfl, ta, tb, ga, gb, hab, fun H0 r0 s0 => ?_⟩
    exact ⟨_, rfl, _, rfl, v, u, a, b, rfl, ta.by s0, tb.by s0, ga, gb, hab, fun H1 s1 => q _ (s0.trans s1)⟩
def sp_is_between : Sp := fun vs H Q _ => ∃ (v x u : V) (a c b : Lay), vs = [v, x, u] ∧ TD H v (eL a) ∧ TD H x (eL c) ∧ TD H u (eL b) ∧ GoodL a ∧ GoodL c ∧ GoodL b ∧ a.1 = c.1 ∧ a.1 = b.1 ∧ ∀ H', Same H H' → Q (.bl (decide (costL a c + costL c b = costL a b))) H'
theorem ok_is_between (T : TX K mg) : Ok P w K mg base 6 "is_between" ["one", "third", "other"] sp_is_between := by
  have G_need_lay := ok_need_lay (P := P) (w := w) (base := base) T
  have G_need_two := ok_need_two (P := P) (w := w) (base := base) T
  have G_cost_in := ok_cost_in (P := P) (w := w) (base := base) T
  refine ok_of (k := 5) T.f_is_between sc_is_between (fun _ _ _ _ _ _ us hl => match us, hl with | [_, _, _], _ => rfl) (fun vs H Q E h => ?_) (fun cdv A outer s H vs Q E hr h => ?_)
  · obtain ⟨v, u, x, a, b, c, rfl, _⟩ := h
    rfl
  · obtain ⟨v, x, u, a, c, b, rfl, ta, tc, tb, ga, gc, gb, hac, hab, q⟩ := h
    refine ⟨_, (pss_cons (ps_for PassesOwn.never rfl (pi_tup (pe_tup (pa_cons (pv 0) (pa_cons (pv 1) (pa_cons (pv 2) pa_nil))))) (pg_name (i := 3) sc_is_between.nd rfl (Or.inl rfl)) (pss_one (ps_expr (pe_callD G_need_lay (hr.mono (by decide)) (pa_cons (pv 3) pa_nil)))))
      (pss_cons (ps_expr (pe_callD G_need_two (hr.mono (by decide)) (pa_cons (pv 0) (pa_cons (pv 1) pa_nil))))
      (pss_cons (ps_expr (pe_callD G_need_two (hr.mono (by decide)) (pa_cons (pv 0) (pa_cons (pv 2) pa_nil))))
      (pss_one (ps_ret (pe_cmpR op_eq (pe_op op_add (pe_callD G_cost_in (hr.mono (by decide)) (pa_cons (pv 0) (pa_cons (pv 1) pa_nil))) (pe_callD G_cost_in (hr.mono (by decide)) (pa_cons (pv 1) (pa_cons (pv 2) pa_nil)))) (pe_callD G_cost_in (hr.mono (by decide)) (pa_cons (pv 0) (pa_cons (pv 2) pa_nil))) (nomark _))))))), ?_⟩
    refine ⟨_, rfl, _, rfl, _, rfl, by show 3 ≤ sizeLine; decide, fun t ht => ?_⟩
    have s1 := same_upd (o := .tup [v, x, u]) ht
    refine ⟨t, rfl, ⟨_, SqT.of upd_same⟩, ?_⟩
    refine for_tup (K := K) (a := t) (xs := [v, x, u]) (fun i σ H' => ∃ y3, σ = [some v, some x, some u, y3] ∧ Same (upd H t (.tup [v, x, u])) H') ⟨none, rfl, Same.refl _⟩ (fun i σ H' _ p => ?_) (fun i y σ H' hi p => ?_) (fun σ H' p => ?_)
    · obtain ⟨_, _, s'⟩ := p
      exact SqT.of (s' _ _ upd_same)
    · obtain ⟨y3, rfl, s'⟩ := p
      obtain ⟨d, td, gd⟩ : ∃ d, TD H' y (eL d) ∧ GoodL d := by
        match i, hi with
        | 0, hi => exact ⟨a, by rw [← Option.some.inj hi]; exact ta.by (s1.trans s'), ga⟩
        | 1, hi => exact ⟨c, by rw [← Option.some.inj hi]; exact tc.by (s1.trans s'), gc⟩
        | 2, hi => exact ⟨b, by rw [← Option.some.inj hi]; exact tb.by (s1.trans s'), gb⟩
        | i + 3, hi => exact absurd (List.getElem?_eq_some_iff.mp hi).1 (by simp)
      exact ⟨_, rfl, y, d, rfl, td, gd, fun H2 s2 => ⟨_, rfl, s'.trans s2⟩⟩
    · obtain ⟨y3, rfl, s'⟩ := p
      have s2 := s1.trans s'
      refine ⟨_, rfl, _, rfl, v, x, a, c, rfl, ta.by s2, tc.by s2, ga, gc, hac, fun H3 r3 s3 => ?_⟩
      have s4 := s2.trans s3
      refine ⟨_, rfl, _, rfl, v, u, a, b, rfl, ta.by s4, tb.by s4, ga, gb, hab, fun H5 r5 s5 => ?_⟩
      have s6 := s4.trans s5
      refine ⟨_, rfl, _, rfl, v, x, a, c, rfl, ta.by s6, tc.by s6, ga, gc, hac, fun H7 s7 => ?_⟩
      have s8 := s6.trans s7
      refine ⟨_, rfl, _, rfl, x, u, c, b, rfl, tc.by s8, tb.by s8, gc, gb, hac.symm.trans hab, fun H9 s9 => ?_⟩
      have s10 := s8.trans s9
      refine ⟨_, _, rfl, rfl, ?_⟩
      refine ⟨_, rfl, _, rfl, v, u, a, b, rfl, ta.by s10, tb.by s10, ga, gb, hab, fun H11 s11 => ?_⟩
      refine ⟨rfl, ?_⟩
      refine qbl (Q := Q) (decide_eq_decide.mpr ⟨fun z => V.int.inj z, fun z => by rw [← z]⟩) (q _ (s10.trans s11))
end
end DC
end

section
set_option Elab.async false
set_option linter.all false
set_option maxRecDepth 100000
set_option maxHeartbeats 4000000
namespace DC
open PySem PySem.Spec PyProof.Rows L2
/-! ### histories -/
theorem TDs.splitI {H : Hp} : ∀ {ds es : List PyData} {vs : List V}, TDs H vs (ds ++ es) → ∃ a b, vs = a ++ b ∧ TDs H a ds ∧ TDs H b es
  | [], _, vs, h => ⟨[], vs, rfl, .nil, h⟩
  | d :: ds, es, vs, h => by
    obtain ⟨v, r, rfl, h1, h2⟩ := TDs.consI h
    obtain ⟨a, b, rfl, h3, h4⟩ := TDs.splitI h2
    exact ⟨v :: a, b, rfl, .cons h1 h3, h4⟩
theorem endL_snoc : ∀ (l : Lay) (h : List Stp) (s : Stp), endL l (h ++ [s]) = afterL (endL l h) s
  | _, [], _ => rfl
  | l, x :: h, s => endL_snoc (afterL l x) h s
theorem laysL_snoc : ∀ (l : Lay) (h : List Stp) (s : Stp), laysL l (h ++ [s]) = laysL l h ++ [afterL (endL l h) s]
  | _, [], _ => rfl
  | l, x :: h, s => by
    show l :: laysL (afterL l x) (h ++ [s]) = _
    rw [laysL_snoc (afterL l x) h s]
    rfl
theorem laysL_last : ∀ (l : Lay) (h : List Stp), ∃ r, laysL l h = r ++ [endL l h]
  | _, [] => ⟨[], rfl⟩
  | l, x :: h => by
    obtain ⟨r, e⟩ := laysL_last (afterL l x) h
    exact ⟨l :: r, by show l :: laysL (afterL l x) h = _; rw [e]; rfl⟩
theorem laysL_len : ∀ (l : Lay) (h : List Stp), (laysL l h).length = h.length + 1
  | _, [] => rfl
  | l, x :: h => by
    show (laysL (afterL l x) h).length + 1 = _
    rw [laysL_len (afterL l x) h]
    rfl
theorem hist_snoc : ∀ (l : Lay) (h : List Stp) (s : Stp), HistL l (h ++ [s]) ↔ HistL l h ∧ s ∈ stepsL (endL l h)
  | l, [], s => ⟨fun z => ⟨trivial, z.1⟩, fun z => ⟨z.2, trivial⟩⟩
  | l, x :: h, s => by
    have ih := hist_snoc (afterL l x) h s
    constructor
    · rintro ⟨h1, h2⟩
      exact ⟨⟨h1, (ih.mp h2).1⟩, (ih.mp h2).2⟩
    · rintro ⟨⟨h1, h2⟩, h3⟩
      exact ⟨h1, ih.mpr ⟨h2, h3⟩⟩
theorem hist_good : ∀ {l : Lay} {h : List Stp}, GoodL l → HistL l h → GoodL (endL l h) ∧ (endL l h).1 = l.1
  | _, [], g, _ => ⟨g, rfl⟩
  | l, x :: h, g, ⟨h1, h2⟩ => hist_good (l := afterL l x) (h := h) (good_after g h1) h2
theorem hist_at {l : Lay} {h : List Stp} (hh : HistL l h) {i : Nat} {s : Stp} (hi : h[i]? = some s) : HistL l (h.take i) ∧ s ∈ stepsL (endL l (h.take i)) := by
  have h1 : h.take (i + 1) = h.take i ++ [s] := by rw [List.take_add_one, hi]; rfl
  have h2 : ∀ n, HistL l (h.take n) := fun n => by
    induction h generalizing l n with
    | nil => rw [List.take_nil]; trivial
    | cons x h ih =>
      cases n with
      | zero => trivial
      | succ n =>
        refine ⟨hh.1, ?_⟩
        cases i with
        | zero => exact pre hh.2 n
        | succ i => exact pre hh.2 n
  have h3 := h2 (i + 1)
  rw [h1] at h3
  exact (hist_snoc _ _ _).mp h3
where
  pre : ∀ {l : Lay} {h : List Stp}, HistL l h → ∀ n, HistL l (h.take n)
  | _, [], _, n => by rw [List.take_nil]; trivial
  | _, _ :: _, _, 0 => trivial
  | _, _ :: _, hh, n + 1 => ⟨hh.1, pre hh.2 n⟩
section
variable {P : Program} {w : World} {K : PySem.W.Frag} {mg : Str → Option Value} {base : Heap}
def sp_wrong_step : Sp := fun vs H Q _ => ∃ (v u : V) (l : Lay) (h : List Stp), vs = [v, u] ∧ TD H v (eL l) ∧ TD H u (eH h) ∧ GoodL l ∧ HistL l h ∧ ∀ H', Same H H' → Q (.int (-1)) H'
theorem ok_wrong_step (T : TX K mg) : Ok P w K mg base 5 "wrong_step" ["lay", "value"] sp_wrong_step := by
  have G_is_step_in := ok_is_step_in (P := P) (w := w) (base := base) T
  have G_after := ok_after (P := P) (w := w) (base := base) T
  refine ok_of (k := 4) T.f_wrong_step sc_wrong_step (fun _ _ _ _ _ _ us hl => match us, hl with | [_, _], _ => rfl) (fun vs H Q E h => ?_) (fun cdv A outer s H vs Q E hr h => ?_)
  · obtain ⟨v, u, l, h, rfl, _⟩ := h
    rfl
  · obtain ⟨v, u, l, h, rfl, tl, th, g, hh, q⟩ := h
    obtain ⟨c, xs, rfl, hc, hx⟩ := th.listI
    have hlx := hx.len
    rw [List.length_map] at hlx
    refine ⟨_, (pss_cons (ps_for PassesOwn.never rfl (pi_enumT rfl T.z_enumerate (pa_cons (pv 1) pa_nil)) (pg_tup (by rfl) (pgs_cons (pg_name (i := 2) sc_wrong_step.nd rfl (Or.inl rfl)) (pgs_cons (pg_name (i := 3) sc_wrong_step.nd rfl (Or.inl rfl)) pgs_nil))) (pss_cons (ps_if (pt_not (pt_val (pe_callD G_is_step_in (hr.mono (by decide)) (pa_cons (pv 0) (pa_cons (pv 3) pa_nil))))) (pss_one (ps_ret (pv 2))) pss_nil)
      (pss_one (ps_set (i := 0) sc_wrong_step.nd rfl (Or.inl rfl) (pe_callD G_after (hr.mono (by decide)) (pa_cons (pv 0) (pa_cons (pv 3) pa_nil)))))))
      (pss_one (ps_ret (pe_un un_neg pe_int)))), ?_⟩
    refine ⟨_, rfl, c, xs, rfl, hc, ?_⟩
    refine for_it walk_enumT (fun i σ H' => ∃ (x : V) (y2 y3 : Option V), σ = [some x, some (.ref c), y2, y3] ∧ Same H H' ∧ TD H' x (eL (endL l (h.take i)))) ⟨v, none, none, rfl, Same.refl _, tl⟩ (fun i σ H' _ p => ?_) (fun i x σ H' H'' hi p y => ?_) (fun σ H' p => ?_)
    · obtain ⟨_, _, _, _, s', _⟩ := p
      exact s' _ _ hc
    · obtain ⟨z, y2, y3, rfl, s', tz⟩ := p
      obtain ⟨Tp, x0, x1, rfl, nT, rfl, ex0, ex1⟩ := y
      cases ex0
      have ex1 : xs[i]? = some x1 := ex1
      have sT : Same H' (upd H' Tp (.tup [.int (i : Nat), x1])) := same_upd nT
      obtain ⟨d, hd1, hd2⟩ := (hx.by (s'.trans sT)).get ex1
      rw [List.getElem?_map] at hd1
      cases hj : h[i]? with
      | none => rw [hj] at hd1; cases hd1
      | some st =>
        rw [hj] at hd1
        have : eS st = d := Option.some.inj hd1
        subst this
        obtain ⟨hp, hs⟩ := hist_at hh hj
        have gi := (hist_good g hp).1
        have sf := step_form gi hs
        refine ⟨Tp, _, rfl, SqT.of upd_same, rfl, _, _, rfl, _, _, rfl, rfl, ?_⟩
        refine ⟨_, rfl, _, rfl, z, x1, _, st, rfl, tz.by sT, hd2, gi, ⟨sf.1, by omega, by omega⟩, fun H3 s3 => ?_⟩
        rw [decide_eq_true (show IsS _ st from ⟨sf.2, hs⟩)]
        refine ⟨true, rfl, ?_⟩
        refine ⟨_, rfl, _, rfl, z, x1, _, st, rfl, (tz.by sT).by s3, hd2.by s3, gi, by omega, fun H4 r s4 tr => ?_⟩
        refine ⟨r, _, _, rfl, ((s'.trans sT).trans s3).trans s4, ?_⟩
        rw [List.take_add_one, hj]
        show TD H4 r (eL (endL l (h.take i ++ [st])))
        rw [endL_snoc]
        exact tr
    · obtain ⟨z, y2, y3, rfl, s', tz⟩ := p
      exact ⟨1, rfl, q _ s'⟩
def sp_need_history : Sp := fun vs H Q _ => ∃ (v u : V) (l : Lay) (h : List Stp), vs = [v, u] ∧ TD H v (eL l) ∧ TD H u (eH h) ∧ GoodL l ∧ HistL l h ∧ h.length ≤ 60 ∧ ∀ H', Same H H' → Q u H'
theorem ok_need_history (T : TX K mg) : Ok P w K mg base 6 "need_history" ["lay", "history"] sp_need_history := by
  have G_need_lay := ok_need_lay (P := P) (w := w) (base := base) T
  have G_wrong_step := ok_wrong_step (P := P) (w := w) (base := base) T
  refine ok_of (k := 5) T.f_need_history sc_need_history (fun _ _ _ _ _ _ us hl => match us, hl with | [_, _], _ => rfl) (fun vs H Q E h => ?_) (fun cdv A outer s H vs Q E hr h => ?_)
  · obtain ⟨v, u, l, h, rfl, _⟩ := h
    rfl
  · obtain ⟨v, u, l, h, rfl, tl, th, g, hh, h60, q⟩ := h
    obtain ⟨c, xs, rfl, hc, hx⟩ := id th.listI
    have hlx := hx.len
    rw [List.length_map] at hlx
    refine ⟨_, (pss_cons (ps_expr (pe_callD G_need_lay (hr.mono (by decide)) (pa_cons (pv 0) pa_nil)))
      (pss_cons (ps_if (PW.pt (pw_or (pt_not (pt_val (pe_callB call_isi (by rfl) T.z_isinstance bt_isinstance (pa_cons (pv 1) (pa_cons (pe_bltn (v := .ty "tuple") (by rfl) T.z_tuple bt_tuple rfl) pa_nil))))) (pw_or1 (pt_cmpR op_gt (pe_callB call_len_seq (by rfl) T.z_len bt_len (pa_cons (pv 1) pa_nil)) (pe_gInt T.c_MOST_STEPS) (nomark _))))) (pss_one ps_never) pss_nil)
      (pss_cons (ps_set (i := 2) sc_need_history.nd rfl (Or.inl rfl) (pe_callD G_wrong_step (hr.mono (by decide)) (pa_cons (pv 0) (pa_cons (pv 1) pa_nil))))
      (pss_cons (ps_if (pt_cmpR op_ge (pv 2) pe_int (nomark _)) (pss_one ps_never) pss_nil)
      (pss_one (ps_ret (pv 1))))))), ?_⟩
    refine ⟨_, rfl, v, l, rfl, tl, g, fun H1 s1 => ?_⟩
    refine ⟨_, rfl, _, _, _, _, true, rfl, .ty "tuple", .base (.tup (s1 _ _ hc)), kit_ty (by decide +kernel), true, rfl, ?_⟩
    refine ⟨_, rfl, _, _, rfl, .inr (SqT.of (s1 _ _ hc)), _, _, rfl, rfl, _, rfl, ?_⟩
    refine iteND (by omega) ?_
    refine ⟨_, rfl, _, rfl, v, _, l, h, rfl, tl.by s1, th.by s1, g, hh, fun H2 s2 => ?_⟩
    refine ⟨_, rfl, _, _, rfl, rfl, _, rfl, ?_⟩
    refine iteND (by decide) ?_
    exact ⟨_, rfl, q _ (s1.trans s2)⟩
def sp_lays_in_turn : Sp := fun vs H Q _ => ∃ (v u : V) (l : Lay) (h : List Stp), vs = [v, u] ∧ TD H v (eL l) ∧ TD H u (eH h) ∧ GoodL l ∧ HistL l h ∧ h.length ≤ 60 ∧ ∀ H' p ys, Same H H' → H p = none → H' p = some (.lst ys) → TDs H' ys ((laysL l h).map eL) → Q (.ref p) H'
theorem ok_lays_in_turn (T : TX K mg) : Ok P w K mg base 3 "lays_in_turn" ["lay", "history"] sp_lays_in_turn := by
  have G_after := ok_after (P := P) (w := w) (base := base) T
  refine ok_of (k := 2) T.f_lays_in_turn sc_lays_in_turn (fun _ _ _ _ _ _ us hl => match us, hl with | [_, _], _ => rfl) (fun vs H Q E h => ?_) (fun cdv A outer s H vs Q E hr h => ?_)
  · obtain ⟨v, u, l, h, rfl, _⟩ := h
    rfl
  · obtain ⟨v, u, l, h, rfl, tl, th, g, hh, h60, q⟩ := h
    obtain ⟨c, xs, rfl, hc, hx⟩ := id th.listI
    have hlx := hx.len
    rw [List.length_map] at hlx
    refine ⟨_, (pss_cons (ps_set (i := 2) sc_lays_in_turn.nd rfl (Or.inl rfl) (pe_lst (pa_cons (pv 0) pa_nil)))
      (pss_cons (ps_for PassesOwn.never rfl (pi_tup (pv 1)) (pg_name (i := 3) sc_lays_in_turn.nd rfl (Or.inl rfl)) (pss_one (ps_expr (pe_bm PySem.F.plainAttrs_list PySem.F.slot_list_append PySem.F.type_list_append mt_append (pv 2) (pa_cons (pe_callD G_after (hr.mono (by decide)) (pa_cons (pe_ix ix_list (pv 2) (pe_un un_neg pe_int) (fun _ _ => rfl)) (pa_cons (pv 3) pa_nil))) pa_nil)))))
      (pss_one (ps_ret (pv 2))))), ?_⟩
    refine ⟨_, rfl, by show 1 ≤ sizeLine; decide, fun f hf => ?_⟩
    have s1 := same_upd (o := .lst [v]) hf
    refine ⟨_, rfl, c, rfl, ⟨_, SqT.of (s1 _ _ hc)⟩, ?_⟩
    refine for_tup (K := K) (a := c) (xs := xs) (fun i σ H' => ∃ (y3 : Option V) (ys : List V), σ = [some v, some (.ref c), some (.ref f), y3] ∧ Same H H' ∧ H' f = some (.lst ys) ∧ TDs H' ys ((laysL l (h.take i)).map eL)) ⟨none, [v], rfl, s1, upd_same, .cons (tl.by s1) .nil⟩ (fun i σ H' _ p => ?_) (fun i x σ H' hi p => ?_) (fun σ H' p => ?_)
    · obtain ⟨_, _, _, s', _⟩ := p
      exact SqT.of (s' _ _ hc)
    · obtain ⟨y3, ys, rfl, s', hf', ty⟩ := p
      obtain ⟨d, hd1, hd2⟩ := (hx.by s').get hi
      rw [List.getElem?_map] at hd1
      cases hj : h[i]? with
      | none => rw [hj] at hd1; cases hd1
      | some st =>
        rw [hj] at hd1
        have : eS st = d := Option.some.inj hd1
        subst this
        obtain ⟨hp, hs⟩ := hist_at hh hj
        have gi := (hist_good g hp).1
        have sf := step_form gi hs
        have hil : i < h.length := (List.getElem?_eq_some_iff.mp hj).1
        obtain ⟨r0, er⟩ := laysL_last l (h.take i)
        have hly := ty.len
        rw [List.length_map, laysL_len, List.length_take] at hly
        have ty2 := ty
        rw [er, List.map_append] at ty2
        obtain ⟨zs, z, rfl, tz⟩ : ∃ zs z, ys = zs ++ [z] ∧ TD H' z (eL (endL l (h.take i))) := by
          obtain ⟨zs, us, rfl, _, t3⟩ := ty2.splitI
          obtain ⟨v', r', rfl, t4, t5⟩ := TDs.consI t3
          rw [TDs.nilI t5]
          exact ⟨zs, v', rfl, t4⟩
        refine ⟨_, rfl, .inl ⟨rfl, _, SqL.of hf'⟩, ?_⟩
        refine ⟨_, rfl, 1, rfl, f, zs ++ [z], -1, z, rfl, rfl, SqL.of hf', atI_last zs z, ?_⟩
        refine ⟨_, rfl, z, x, _, st, rfl, tz, hd2, gi, by omega, fun H4 r s4 tr => ?_⟩
        refine ⟨f, _, _, rfl, rfl, s4 _ _ hf', small1000 (by omega), ?_⟩
        refine ⟨_, (zs ++ [z]) ++ [r], rfl, samePut (s'.trans s4) hf, upd_same, ?_⟩
        have e5 : h.take (i + 1) = h.take i ++ [st] := by rw [List.take_add_one, hj]; rfl
        rw [e5, laysL_snoc, List.map_append]
        exact ((ty.by s4).snoc tr).to (tupS_lst (s4 _ _ hf'))
    · obtain ⟨y3, ys, rfl, s', hf', ty⟩ := p
      rw [hlx, List.take_length] at ty
      exact ⟨_, rfl, q _ f ys s' hf hf' ty⟩
end
end DC
end

section
set_option Elab.async false
set_option linter.all false
set_option maxRecDepth 100000
set_option maxHeartbeats 4000000
namespace DC
open PySem PySem.Spec PyProof.Rows L2
/-- a shortest history, step by step -/
def Least (a b : Lay) (h : List Stp) : Prop := HistL a h ∧ endL a h = b ∧ (h.length : Int) = costL a b ∧ ∀ i, i ≤ h.length → costL (endL a (h.take i)) b = costL a b - i
theorem filter_perm {α : Type} {l m : List α} (p : α → Bool) (h : l.Perm m) : (l.filter p).Perm (m.filter p) := h.filter p
section
variable {P : Program} {w : World} {K : PySem.W.Frag} {mg : Str → Option Value} {base : Heap}
def sp_end_of : Sp := fun vs H Q _ => ∃ (v u : V) (l : Lay) (h : List Stp), vs = [v, u] ∧ TD H v (eL l) ∧ TD H u (eH h) ∧ GoodL l ∧ HistL l h ∧ h.length ≤ 60 ∧ ∀ H' r, Same H H' → TD H' r (eL (endL l h)) → Q r H'
theorem ok_end_of (T : TX K mg) : Ok P w K mg base 4 "end_of" ["lay", "history"] sp_end_of := by
  have G_lays_in_turn := ok_lays_in_turn (P := P) (w := w) (base := base) T
  refine ok_of (k := 3) T.f_end_of sc_end_of (fun _ _ _ _ _ _ us hl => match us, hl with | [_, _], _ => rfl) (fun vs H Q E h => ?_) (fun cdv A outer s H vs Q E hr h => ?_)
  · obtain ⟨v, u, l, h, rfl, _⟩ := h
    rfl
  · obtain ⟨v, u, l, h, rfl, tl, th, g, hh, h60, q⟩ := h
    refine ⟨_, (pss_one (ps_ret (pe_ix ix_list (pe_callD G_lays_in_turn (hr.mono (by decide)) (pa_cons (pv 0) (pa_cons (pv 1) pa_nil))) (pe_un un_neg pe_int) (fun _ _ => rfl)))), ?_⟩
    refine ⟨_, rfl, _, rfl, v, u, l, h, rfl, tl, th, g, hh, h60, fun H1 p ys s1 _ hp ty => ?_⟩
    obtain ⟨r0, er⟩ := laysL_last l h
    rw [er, List.map_append] at ty
    obtain ⟨zs, us, rfl, _, t3⟩ := ty.splitI
    obtain ⟨v', r', rfl, t4, t5⟩ := TDs.consI t3
    rw [TDs.nilI t5] at hp
    exact ⟨1, rfl, p, zs ++ [v'], -1, v', rfl, rfl, SqL.of hp, atI_last zs v', q _ _ s1 t4⟩
def sp_last_lay : Sp := sp_end_of
theorem ok_last_lay (T : TX K mg) : Ok P w K mg base 7 "last_lay" ["lay", "history"] sp_last_lay := by
  have G_need_history := ok_need_history (P := P) (w := w) (base := base) T
  have G_end_of := ok_end_of (P := P) (w := w) (base := base) T
  refine ok_of (k := 6) T.f_last_lay sc_last_lay (fun _ _ _ _ _ _ us hl => match us, hl with | [_, _], _ => rfl) (fun vs H Q E h => ?_) (fun cdv A outer s H vs Q E hr h => ?_)
  · obtain ⟨v, u, l, h, rfl, _⟩ := h
    rfl
  · obtain ⟨v, u, l, h, rfl, tl, th, g, hh, h60, q⟩ := h
    refine ⟨_, (pss_one (ps_ret (pe_callD G_end_of (hr.mono (by decide)) (pa_cons (pv 0) (pa_cons (pe_callD G_need_history (hr.mono (by decide)) (pa_cons (pv 0) (pa_cons (pv 1) pa_nil))) pa_nil))))), ?_⟩
    refine ⟨_, rfl, _, rfl, _, rfl, v, u, l, h, rfl, tl, th, g, hh, h60, fun H1 s1 => ?_⟩
    exact ⟨v, u, l, h, rfl, tl.by s1, th.by s1, g, hh, h60, fun H2 r s2 tr => q _ _ (s1.trans s2) tr⟩
def sp_lays_along : Sp := fun vs H Q _ => ∃ (v u : V) (l : Lay) (h : List Stp), vs = [v, u] ∧ TD H v (eL l) ∧ TD H u (eH h) ∧ GoodL l ∧ HistL l h ∧ h.length ≤ 60 ∧ ∀ H' r, Same H H' → TD H' r (eT eL (laysL l h)) → Q r H'
theorem ok_lays_along (T : TX K mg) : Ok P w K mg base 7 "lays_along" ["lay", "history"] sp_lays_along := by
  have G_need_history := ok_need_history (P := P) (w := w) (base := base) T
  have G_lays_in_turn := ok_lays_in_turn (P := P) (w := w) (base := base) T
  refine ok_of (k := 6) T.f_lays_along sc_lays_along (fun _ _ _ _ _ _ us hl => match us, hl with | [_, _], _ => rfl) (fun vs H Q E h => ?_) (fun cdv A outer s H vs Q E hr h => ?_)
  · obtain ⟨v, u, l, h, rfl, _⟩ := h
    rfl
  · obtain ⟨v, u, l, h, rfl, tl, th, g, hh, h60, q⟩ := h
    refine ⟨_, (pss_one (ps_ret (pe_callTy call_tuple_of (by rfl) T.z_tuple bt_tuple (pa_cons (pe_callD G_lays_in_turn (hr.mono (by decide)) (pa_cons (pv 0) (pa_cons (pe_callD G_need_history (hr.mono (by decide)) (pa_cons (pv 0) (pa_cons (pv 1) pa_nil))) pa_nil))) pa_nil)))), ?_⟩
    refine ⟨_, rfl, _, rfl, _, rfl, v, u, l, h, rfl, tl, th, g, hh, h60, fun H1 s1 => ?_⟩
    refine ⟨v, u, l, h, rfl, tl.by s1, th.by s1, g, hh, h60, fun H2 p ys s2 _ hp ty => ?_⟩
    refine ⟨p, ys, rfl, .inl ⟨SqL.of hp, fun p2 hp2 => ?_⟩⟩
    exact q _ _ ((s1.trans s2).trans (same_upd hp2)) (.tup upd_same (ty.by (same_upd hp2)))
def sp_plain_history : Sp := fun vs H Q _ => ∃ (v u : V) (a b : Lay), vs = [v, u] ∧ TD H v (eL a) ∧ TD H u (eL b) ∧ GoodL a ∧ GoodL b ∧ a.1 = b.1 ∧ ∀ H' r, Same H H' → TD H' r (eH (plainL a b)) → Q r H'
theorem fm_filter_map {α β : Type} (p : α → Bool) (f : α → β) : ∀ l : List α, l.filterMap (fun a => if p a = true then some (f a) else none) = (l.filter p).map f
  | [] => rfl
  | a :: l => by
    rw [List.filterMap_cons, List.filter_cons, fm_filter_map p f l]
    by_cases h : p a = true
    · rw [if_pos h, if_pos h]
      rfl
    · rw [if_neg h, if_neg h]
theorem ok_plain_history (T : TX K mg) : Ok P w K mg base 6 "plain_history" ["one", "other"] sp_plain_history := by
  have G_need_two := ok_need_two (P := P) (w := w) (base := base) T
  refine ok_of (k := 5) T.f_plain_history sc_plain_history (fun _ _ _ _ _ _ us hl => match us, hl with | [_, _], _ => rfl) (fun vs H Q E h => ?_) (fun cdv A outer s H vs Q E hr h => ?_)
  · obtain ⟨v, u, a, b, rfl, _⟩ := h
    rfl
  · obtain ⟨v, u, a, b, rfl, ta, tb, ga, gb, hab, q⟩ := h
    obtain ⟨c, c2, xs, rfl, hc, hc2, hx⟩ := ta.lI
    obtain ⟨d, d2, ys, rfl, hd, hd2, hy⟩ := tb.lI
    have la := ga.len
    have lb := gb.len
    have l1 := cutL_len a b
    have l2 := cutL_len b a
    refine ⟨_, (pss_cons (ps_expr (pe_callD G_need_two (hr.mono (by decide)) (pa_cons (pv 0) (pa_cons (pv 1) pa_nil))))
      (pss_cons (ps_setLc (i := 2) (own := [("joint", 3)]) (g := (gName 3)) (by rfl) sc_plain_history.nd rfl rfl (sw_true rfl rfl rfl (by decide +kernel)) (pi_tup (pe_ix ix_tup (pv 0) pe_int (fun _ _ => rfl))) (blkOk_by (own := [("joint", 3)]) (N := N_plain_history) (sc := defScope s_plain_history) (by decide +kernel)) (fun _ _ _ _ _ => (pg_name (i := 3) sc_plain_history.nd rfl (Or.inl rfl))) (fun _ _ _ _ _ => pts_one (pt_cmpR (op_notInEK (K := K) enc_J (by decide) (hu65 hr) rfl) (pv 3) (pe_ix (ix_tupK (K := K) rfl) (pv 1) pe_int (fun _ _ => rfl)) (by rfl))) (fun _ _ _ _ _ => (pe_tup (pa_cons (pe_tup (pa_cons (pv 3) pa_nil)) (pa_cons (pe_tup pa_nil) pa_nil)))))
      (pss_one (ps_ret (pe_callTy call_tuple_of (by rfl) T.z_tuple bt_tuple (pa_cons (pe_op op_cat (pv 2) (pe_lc (own := [("joint", 3)]) (g := (gName 3)) (by rfl) sc_plain_history.nd (pi_tup (pe_ix ix_tup (pv 1) pe_int (fun _ _ => rfl))) (blkOk_by (own := [("joint", 3)]) (N := N_plain_history) (sc := defScope s_plain_history) (by decide +kernel)) (fun _ _ _ _ _ => (pg_name (i := 3) sc_plain_history.nd rfl (Or.inl rfl))) (fun _ _ _ _ _ => pts_one (pt_cmpR (op_notInEK (K := K) enc_J (by decide) (hu65 hr) rfl) (pv 3) (pe_ix (ix_tupK (K := K) rfl) (pv 0) pe_int (fun _ _ => rfl)) (by rfl))) (fun _ _ _ _ _ => (pe_tup (pa_cons (pe_tup pa_nil) (pa_cons (pe_tup (pa_cons (pv 3) pa_nil)) pa_nil)))))) pa_nil)))))), ?_⟩
    refine ⟨_, rfl, _, rfl, .ref c, .ref d, a, b, rfl, ta, tb, ga, gb, hab, fun H1 r1 s1 => ?_⟩
    refine ⟨_, rfl, c, _, _, _, rfl, rfl, SqT.of (s1 _ _ hc), atI_nat (j := 1) rfl, c2, rfl, ⟨_, SqT.of (s1 _ _ hc2)⟩, fun D hD => ?_⟩
    refine lc_src (walk_tup (K := K) (a := c2)) eS (fun j => if (!decide (j ∈ b.2)) = true then some (([j], []) : Stp) else none) hD (small1000 (by omega)) (hx.by s1) (fun H s => SqT.of ((s1.trans s) _ _ hc2)) (fun j x H' N M hj s tx kN kM => ?_) (fun H2 ws s2 hw ht => ?_)
    · refine ⟨rfl, _, rfl, _, rfl, d, _, _, _, rfl, rfl, SqT.of ((s1.trans s) _ _ hd), atI_nat (j := 1) rfl, ?_⟩
      refine ⟨d2, ys, b.2, j, rfl, .inl (SqT.of ((s1.trans s) _ _ hd2)), hy.by (s1.trans s), tx, !decide (j ∈ b.2), by simp, _, rfl, ?_⟩
      refine ite2 (fun e => ?_) (fun e => ?_)
      · refine ⟨_, rfl, by show 1 ≤ sizeLine; decide, fun p1 hp1 => ⟨Nat.zero_le _, fun p2 hp2 => ⟨by show 2 ≤ sizeLine; decide, fun p3 hp3 => ?_⟩⟩⟩
        have k1 := same_upd (o := .tup [x]) hp1
        have k2 := same_upd (o := .tup []) hp2
        have k3 := same_upd (o := .tup [V.ref p1, V.ref p2]) hp3
        refine kN _ _ _ (if_pos e) ((k1.trans k2).trans k3) ?_
        exact .tup upd_same (.cons (.tup (k3 _ _ (k2 _ _ upd_same)) (.cons (tx.by ((k1.trans k2).trans k3)) .nil)) (.cons (.tup (k3 _ _ upd_same) .nil) .nil))
      · exact kM _ (if_neg e) (Same.refl _)
    · rw [fm_filter_map] at ht
      have s3 := s1.trans s2
      refine ⟨_, rfl, _, rfl, d, _, _, _, rfl, rfl, SqT.of (s3 _ _ hd), atI_nat (j := 1) rfl, d2, rfl, ⟨_, SqT.of (s3 _ _ hd2)⟩, fun D2 hD2 => ?_⟩
      refine lc_src (walk_tup (K := K) (a := d2)) eS (fun j => if (!decide (j ∈ a.2)) = true then some (([], [j]) : Stp) else none) hD2 (small1000 (by omega)) (hy.by s3) (fun H s => SqT.of ((s3.trans s) _ _ hd2)) (fun j x H' N M hj s tx kN kM => ?_) (fun H4 us s4 hu ht2 => ?_)
      · refine ⟨rfl, _, rfl, _, rfl, c, _, _, _, rfl, rfl, SqT.of ((s3.trans s) _ _ hc), atI_nat (j := 1) rfl, ?_⟩
        refine ⟨c2, xs, a.2, j, rfl, .inl (SqT.of ((s3.trans s) _ _ hc2)), hx.by (s3.trans s), tx, !decide (j ∈ a.2), by simp, _, rfl, ?_⟩
        refine ite2 (fun e => ?_) (fun e => ?_)
        · refine ⟨Nat.zero_le _, fun p2 hp2 => ⟨_, rfl, by show 1 ≤ sizeLine; decide, fun p1 hp1 => ⟨by show 2 ≤ sizeLine; decide, fun p3 hp3 => ?_⟩⟩⟩
          have k2 := same_upd (o := .tup []) hp2
          have k1 := same_upd (o := .tup [x]) hp1
          have k3 := same_upd (o := .tup [V.ref p2, V.ref p1]) hp3
          refine kN _ _ _ (if_pos e) ((k2.trans k1).trans k3) ?_
          exact .tup upd_same (.cons (.tup (k3 _ _ (k1 _ _ upd_same)) .nil) (.cons (.tup (k3 _ _ upd_same) (.cons (tx.by ((k2.trans k1).trans k3)) .nil)) .nil))
        · exact kM _ (if_neg e) (Same.refl _)
      · rw [fm_filter_map] at ht2
        have e1 := ht.len
        have e2 := ht2.len
        rw [List.length_map, List.length_map] at e1 e2
        have e1' : ws.length = (cutL a b).length := e1
        have e2' : us.length = (cutL b a).length := e2
        refine ⟨D, D2, ws, us, rfl, rfl, s4 _ _ hw, hu, Nat.le_of_lt (small1000 (by omega)), fun p hp => ?_⟩
        have s5 := same_upd (o := .lst (ws ++ us)) hp
        refine ⟨p, _, rfl, .inl ⟨SqL.of upd_same, fun p2 hp2 => ?_⟩⟩
        have s6 := s5.trans (same_upd (o := .tup (ws ++ us)) hp2)
        refine q _ _ ((s3.trans s4).trans s6) (.tup upd_same ?_)
        have := ((ht.by s4).app ht2).by s6
        rw [← List.map_append] at this
        exact this
def sp_good_steps_in (K : PySem.W.Frag) : Sp := fun vs H Q _ => ∃ (v u : V) (a b : Lay), vs = [v, u] ∧ TD H v (eL a) ∧ TD H u (eL b) ∧ GoodL a ∧ GoodL b ∧ a.1 = b.1 ∧
  ∀ (H' : Hp) (p : Addr) (ys : List V) (ss : List Stp), Same H H' → H p = none → H' p = some (.lst ys) → TDs H' ys (ss.map eS) → ss.Perm ((stepsL a).filter fun s => decide (costL (afterL a s) b = costL a b - 1)) → Q (.ref p) H'
theorem ok_good_steps_in (T : TX K mg) : Ok P w K mg base 5 "good_steps_in" ["one", "other"] (sp_good_steps_in K) := by
  have G_cost_in := ok_cost_in (P := P) (w := w) (base := base) T
  have G_steps_in := ok_steps_in (P := P) (w := w) (base := base) T
  have G_after := ok_after (P := P) (w := w) (base := base) T
  refine ok_of (k := 4) T.f_good_steps_in sc_good_steps_in (fun _ _ _ _ _ _ us hl => match us, hl with | [_, _], _ => rfl) (fun vs H Q E h => ?_) (fun cdv A outer s H vs Q E hr h => ?_)
  · obtain ⟨v, u, a, b, rfl, _⟩ := h
    rfl
  · obtain ⟨v, u, a, b, rfl, ta, tb, ga, gb, hab, q⟩ := h
    refine ⟨_, (pss_cons (ps_set (i := 2) sc_good_steps_in.nd rfl (Or.inr rfl) (pe_op op_sub (pe_callD G_cost_in (hr.mono (by decide)) (pa_cons (pv 0) (pa_cons (pv 1) pa_nil))) pe_int))
      (pss_one (ps_ret (pe_lc (own := [("step", 3)]) (g := (gName 3)) (by rfl) sc_good_steps_in.nd (pi_list (pe_callD G_steps_in (hr.mono (by decide)) (pa_cons (pv 0) pa_nil))) (blkOk_by (own := [("step", 3)]) (N := N_good_steps_in) (sc := defScope s_good_steps_in) (by decide +kernel)) (fun _ _ _ _ _ => (pg_name (i := 3) sc_good_steps_in.nd rfl (Or.inl rfl))) (fun _ _ _ _ _ => pts_one (pt_cmpR op_eq (pe_callD G_cost_in (hr.mono (by decide)) (pa_cons (pe_callD G_after (hr.mono (by decide)) (pa_cons (pv 0) (pa_cons (pv 3) pa_nil))) (pa_cons (pv 1) pa_nil))) (pv 2) (nomark _))) (fun _ _ _ _ _ => (pv 3)))))), ?_⟩
    refine ⟨_, rfl, _, rfl, v, u, a, b, rfl, ta, tb, ga, gb, hab, fun H1 s1 => ?_⟩
    refine ⟨_, _, rfl, rfl, ?_⟩
    refine ⟨_, rfl, v, a, rfl, ta.by s1, ga, fun H2 p ys ss s2 _ hp hys pm => ?_⟩
    refine ⟨p, rfl, ⟨_, SqL.of hp⟩, fun D hD => ?_⟩
    have hss : ss.length ≤ 3000 := by rw [pm.length_eq]; exact steps_len ga
    have s3 := s1.trans s2
    refine lc_src (walk_list (K := K) (a := p)) eS (fun s => if (decide (costL (afterL a s) b = costL a b - 1)) = true then some s else none) hD (by rw [sizeLine_eq]; omega) hys (fun H s => SqL.of (s _ _ hp)) (fun st x H' N M hj s tx kN kM => ?_) (fun H4 us s4 hu ht => ?_)
    · have hst : st ∈ stepsL a := pm.mem_iff.mp hj
      have sf := step_form ga hst
      have s4 := s3.trans s
      refine ⟨rfl, ?_⟩
      refine ⟨_, rfl, _, rfl, v, x, a, st, rfl, ta.by s4, tx, ga, by omega, fun H5 r s5 tr => ?_⟩
      refine ⟨_, rfl, r, u, afterL a st, b, rfl, tr, tb.by (s4.trans s5), good_after ga hst, gb, hab, fun H6 s6 => ?_⟩
      refine ⟨_, rfl, rfl, _, rfl, ?_⟩
      have s7 := s5.trans s6
      refine ite2 (fun e => ?_) (fun e => ?_)
      · have e1 := V.int.inj (of_decide_eq_true e)
        exact ⟨_, rfl, kN _ _ st (if_pos (decide_eq_true e1)) s7 (tx.by s7)⟩
      · exact kM _ (if_neg fun z => e (decide_eq_true (by rw [of_decide_eq_true z]))) s7
    · rw [fm_filter] at ht
      exact q _ D us _ (s3.trans s4) (s3.free hD) hu ht (filter_perm _ pm)
def sp_one_in (K : PySem.W.Frag) : Sp := fun vs H Q _ => ∃ (v u : V) (a b : Lay), vs = [v, u] ∧ TD H v (eL a) ∧ TD H u (eL b) ∧ GoodL a ∧ GoodL b ∧ a.1 = b.1 ∧ ∀ H' r h, Same H H' → TD H' r (eH h) → Least a b h → Q r H'
theorem ok_one_in (T : TX K mg) : Ok P w K mg base 6 "one_in" ["one", "other"] (sp_one_in K) := by
  have G_good_steps_in := ok_good_steps_in (P := P) (w := w) (base := base) T
  have G_after := ok_after (P := P) (w := w) (base := base) T
  refine ok_of (k := 5) T.f_one_in sc_one_in (fun _ _ _ _ _ _ us hl => match us, hl with | [_, _], _ => rfl) (fun vs H Q E h => ?_) (fun cdv A outer s H vs Q E hr h => ?_)
  · obtain ⟨v, u, a, b, rfl, _⟩ := h
    rfl
  · obtain ⟨v, u, a, b, rfl, ta, tb, ga, gb, hab, q⟩ := h
    refine ⟨_, (pss_cons (ps_par (i := 2) (j := 3) (by rfl) sc_one_in.nd rfl rfl (by decide) rfl rfl (pa_cons (pv 0) (pa_cons (pe_lst pa_nil) pa_nil)) (by rfl))
      (pss_cons (ps_while PassesOwn.never (pt_cmpR (op_neE enc_L (by decide) (hu64 hr)) (pv 2) (pv 1) (nomark _)) (pss_cons (ps_set (i := 4) sc_one_in.nd rfl (Or.inl rfl) (pe_ix ix_list (pe_callD G_good_steps_in (hr.mono (by decide)) (pa_cons (pv 2) (pa_cons (pv 1) pa_nil))) pe_int (fun _ _ => rfl)))
      (pss_cons (ps_expr (pe_bm PySem.F.plainAttrs_list PySem.F.slot_list_append PySem.F.type_list_append mt_append (pv 3) (pa_cons (pv 4) pa_nil)))
      (pss_one (ps_set (i := 2) sc_one_in.nd rfl (Or.inl rfl) (pe_callD G_after (hr.mono (by decide)) (pa_cons (pv 2) (pa_cons (pv 4) pa_nil))))))))
      (pss_one (ps_ret (pe_callTy call_tuple_of (by rfl) T.z_tuple bt_tuple (pa_cons (pv 3) pa_nil)))))), ?_⟩
    refine ⟨_, rfl, Nat.zero_le _, fun f hf => ⟨_, _, rfl, ?_⟩⟩
    have s1 := same_upd (o := .lst []) hf
    have c0 := cost_nonneg ga gb hab
    have c24 := cost_le ga gb hab
    refine ⟨fun n σ H' => ∃ (x : V) (y4 : Option V) (h : List Stp) (ys : List V), σ = [some v, some u, some x, some (.ref f), y4] ∧ (n : Int) = costL (endL a h) b ∧ Same H H' ∧ TD H' x (eL (endL a h)) ∧ H' f = some (.lst ys) ∧ TDs H' ys (h.map eS) ∧ HistL a h ∧ ∀ i, i ≤ h.length → costL (endL a (h.take i)) b = costL a b - i,
      ⟨(costL a b).toNat, v, none, [], [], rfl, by show ((costL a b).toNat : Int) = costL a b; omega, s1, ta.by s1, upd_same, .nil, trivial, fun i hi => by
        have : i = 0 := Nat.le_zero.mp hi
        subst this
        show costL a b = _
        omega⟩, fun n σ H' p => ?_⟩
    obtain ⟨x, y4, h, ys, rfl, hn, s', tx, hf', ty, hh, hc⟩ := p
    obtain ⟨ge, he1⟩ := hist_good ga hh
    have heb : (endL a h).1 = b.1 := he1.trans hab
    refine ⟨_, rfl, _, rfl, endL a h, b, tx, tb.by s', !decide (endL a h = b), by simp, _, rfl, ?_⟩
    by_cases hb : endL a h = b
    · rw [decide_eq_true hb]
      refine iteF ?_
      refine ⟨_, rfl, f, ys, rfl, .inl ⟨SqL.of hf', fun p2 hp2 => ?_⟩⟩
      refine q _ _ h (s'.trans (same_upd hp2)) (.tup upd_same (ty.by (same_upd hp2))) ⟨hh, hb, ?_, hc⟩
      have h1 := hc h.length (Nat.le_refl _)
      rw [List.take_length, hb, (cost_zero gb gb rfl).mpr rfl] at h1
      omega
    · rw [decide_eq_false hb]
      refine iteT ?_
      have hlt : h.length ≤ 24 := by
        have h1 := hc h.length (Nat.le_refl _)
        rw [List.take_length] at h1
        have h2 := cost_nonneg ge gb heb
        omega
      refine ⟨fun σ' H' => ∃ m, m < n ∧ _, fun _ _ z => z, ?_⟩
      refine ⟨_, rfl, _, rfl, x, u, endL a h, b, rfl, tx, tb.by s', ge, gb, heb, fun H2 p zs ss s2 _ hp hzs pm => ?_⟩
      obtain ⟨s0, hs0, hcs⟩ := good_step ge gb heb hb
      have hs0m : s0 ∈ ss := pm.mem_iff.mpr (List.mem_filter.mpr ⟨hs0, decide_eq_true hcs⟩)
      obtain ⟨st, sr, rfl⟩ : ∃ st sr, ss = st :: sr := by
        cases ss with
        | nil => cases hs0m
        | cons st sr => exact ⟨st, sr, rfl⟩
      obtain ⟨z, zr, rfl, tz, _⟩ := TDs.consI hzs
      have hst := List.mem_filter.mp (pm.mem_iff.mp List.mem_cons_self)
      have sf := step_form ge hst.1
      have hcst := of_decide_eq_true hst.2
      refine ⟨p, _, _, z, rfl, rfl, SqL.of hp, atI_nat (j := 0) rfl, ?_⟩
      refine ⟨_, rfl, .inl ⟨rfl, _, SqL.of (s2 _ _ hf')⟩, _, rfl, f, _, _, rfl, rfl, s2 _ _ hf', small1000 ?_, ?_⟩
      · have := ty.len
        rw [List.length_map] at this
        omega
      · have tu := tupS_lst (o := .lst (ys ++ [z])) (s2 _ _ hf')
        have s3 : Same H (upd H2 f (.lst (ys ++ [z]))) := samePut (s'.trans s2) hf
        refine ⟨_, rfl, _, rfl, x, z, endL a h, st, rfl, (tx.by s2).to tu, tz.to tu, ge, by omega, fun H4 r s4 tr => ?_⟩
        have gA := good_after ge hst.1
        have nA := cost_nonneg gA gb (show (afterL (endL a h) st).1 = b.1 from heb)
        refine ⟨(costL (afterL (endL a h) st) b).toNat, by omega, r, _, h ++ [st], ys ++ [z], rfl, ?_, s3.trans s4, ?_, s4 _ _ upd_same, ?_, (hist_snoc _ _ _).mpr ⟨hh, hst.1⟩, fun i hi => ?_⟩
        · rw [endL_snoc]
          omega
        · rw [endL_snoc]
          exact tr
        · rw [List.map_append]
          exact (((ty.by s2).snoc tz).to tu).by s4
        · rw [List.length_append, List.length_singleton] at hi
          by_cases h1 : i ≤ h.length
          · rw [List.take_append_of_le_length h1]
            exact hc i h1
          · have : i = h.length + 1 := by omega
            subst this
            have h2 := hc h.length (Nat.le_refl _)
            rw [List.take_length] at h2
            have h3 : (h ++ [st]).take (h.length + 1) = h ++ [st] := List.take_of_length_le (by simp)
            rw [h3, endL_snoc, hcst, h2]
            omega
def sp_a_least (K : PySem.W.Frag) : Sp := sp_one_in K
theorem ok_a_least (T : TX K mg) : Ok P w K mg base 7 "a_least" ["one", "other"] (sp_a_least K) := by
  have G_need_two := ok_need_two (P := P) (w := w) (base := base) T
  have G_one_in := ok_one_in (P := P) (w := w) (base := base) T
  refine ok_of (k := 6) T.f_a_least sc_a_least (fun _ _ _ _ _ _ us hl => match us, hl with | [_, _], _ => rfl) (fun vs H Q E h => ?_) (fun cdv A outer s H vs Q E hr h => ?_)
  · obtain ⟨v, u, a, b, rfl, _⟩ := h
    rfl
  · obtain ⟨v, u, a, b, rfl, ta, tb, ga, gb, hab, q⟩ := h
    refine ⟨_, (pss_cons (ps_expr (pe_callD G_need_two (hr.mono (by decide)) (pa_cons (pv 0) (pa_cons (pv 1) pa_nil))))
      (pss_one (ps_ret (pe_callD G_one_in (hr.mono (by decide)) (pa_cons (pv 0) (pa_cons (pv 1) pa_nil)))))), ?_⟩
    refine ⟨_, rfl, _, rfl, v, u, a, b, rfl, ta, tb, ga, gb, hab, fun H0 r0 s0 => ?_⟩
    exact ⟨_, rfl, _, rfl, v, u, a, b, rfl, ta.by s0, tb.by s0, ga, gb, hab, fun H1 r h s1 => q _ r h (s0.trans s1)⟩
def sp_common : Sp := fun vs H Q _ => ∃ (v u : V) (a b : Lay), vs = [v, u] ∧ TD H v (eL a) ∧ TD H u (eL b) ∧ GoodL a ∧ GoodL b ∧ a.1 = b.1 ∧ ∀ H', Same H H' → Q (.int ((commonL a b : Nat) : Int)) H'
theorem inV_nats (x : Nat) : ∀ l : List Nat, inV (vN x) (l.map vN) = decide (x ∈ l)
  | [] => by simp [inV]
  | a :: l => by
    have ih := inV_nats x l
    unfold inV at ih ⊢
    rw [List.map_cons, List.any_cons, ih]
    have e : eqV (vN a) (vN x) = decide (x = a) := by
      show decide ((a : Int) = (x : Int)) = _
      exact decide_eq_decide.mpr ⟨fun z => by omega, fun z => by omega⟩
    rw [e]
    by_cases h1 : x = a <;> by_cases h2 : x ∈ l <;> simp [h1, h2]
theorem flat_nats : ∀ l : List Nat, (l.map vN).all flatV = true
  | [] => rfl
  | a :: l => by
    rw [List.map_cons, List.all_cons, flat_nats l]
    rfl
theorem ok_common (T : TX K mg) : Ok P w K mg base 6 "common" ["one", "other"] sp_common := by
  have G_need_two := ok_need_two (P := P) (w := w) (base := base) T
  have G_free_in := ok_free_in (P := P) (w := w) (base := base) T
  refine ok_of (k := 5) T.f_common sc_common (fun _ _ _ _ _ _ us hl => match us, hl with | [_, _], _ => rfl) (fun vs H Q E h => ?_) (fun cdv A outer s H vs Q E hr h => ?_)
  · obtain ⟨v, u, a, b, rfl, _⟩ := h
    rfl
  · obtain ⟨v, u, a, b, rfl, ta, tb, ga, gb, hab, q⟩ := h
    obtain ⟨c, c2, xs, rfl, hc, hc2, hx⟩ := id ta.lI
    obtain ⟨d, d2, ys, rfl, hd, hd2, hy⟩ := id tb.lI
    have la := ga.len
    have lb := gb.len
    have ka := ga.links
    have kb := gb.links
    have fa := freeL_len a
    refine ⟨_, (pss_cons (ps_expr (pe_callD G_need_two (hr.mono (by decide)) (pa_cons (pv 0) (pa_cons (pv 1) pa_nil))))
      (pss_cons (ps_setLc (i := 2) (own := [("joint", 4)]) (g := (gName 4)) (by rfl) sc_common.nd rfl rfl (sw_true rfl rfl rfl (by decide +kernel)) (pi_tup (pe_ix ix_tup (pv 0) pe_int (fun _ _ => rfl))) (blkOk_by (own := [("joint", 4)]) (N := N_common) (sc := defScope s_common) (by decide +kernel)) (fun _ _ _ _ _ => (pg_name (i := 4) sc_common.nd rfl (Or.inl rfl))) (fun _ _ _ _ _ => pts_one (pt_cmpR (op_inEK (K := K) enc_J (by decide) (hu65 hr) rfl) (pv 4) (pe_ix (ix_tupK (K := K) rfl) (pv 1) pe_int (fun _ _ => rfl)) (by rfl))) (fun _ _ _ _ _ => (pv 4)))
      (pss_cons (ps_set (i := 3) sc_common.nd rfl (Or.inr rfl) (pe_callD G_free_in (hr.mono (by decide)) (pa_cons (pv 1) pa_nil)))
      (pss_one (ps_ret (pe_op op_add (pe_op op_mul pe_int (pe_callB call_len_seq (by rfl) T.z_len bt_len (pa_cons (pv 2) pa_nil))) (pe_callB call_len_seq (by rfl) T.z_len bt_len (pa_cons (pe_lc (own := [("end", 5)]) (g := (gName 5)) (by rfl) sc_common.nd (pi_list (pe_callD G_free_in (hr.mono (by decide)) (pa_cons (pv 0) pa_nil))) (blkOk_by (own := [("end", 5)]) (N := N_common) (sc := defScope s_common) (by decide +kernel)) (fun _ _ _ _ _ => (pg_name (i := 5) sc_common.nd rfl (Or.inl rfl))) (fun _ _ _ _ _ => pts_one (pt_cmpR (op_in_seqK (K := K) rfl) (pv 5) (pv 3) (by rfl))) (fun _ _ _ _ _ => (pv 5))) pa_nil)))))))), ?_⟩
    refine ⟨_, rfl, _, rfl, .ref c, .ref d, a, b, rfl, ta, tb, ga, gb, hab, fun H1 r1 s1 => ?_⟩
    refine ⟨_, rfl, c, _, _, _, rfl, rfl, SqT.of (s1 _ _ hc), atI_nat (j := 1) rfl, c2, rfl, ⟨_, SqT.of (s1 _ _ hc2)⟩, fun D hD => ?_⟩
    refine lc_src (walk_tup (K := K) (a := c2)) eJ (fun j => if (decide (j ∈ b.2)) = true then some j else none) hD (small1000 (by omega)) (hx.by s1) (fun H s => SqT.of ((s1.trans s) _ _ hc2)) (fun j x H' N M hj s tx kN kM => ?_) (fun H2 ws s2 hw ht => ?_)
    · refine ⟨rfl, _, rfl, _, rfl, d, _, _, _, rfl, rfl, SqT.of ((s1.trans s) _ _ hd), atI_nat (j := 1) rfl, ?_⟩
      refine ⟨d2, ys, b.2, j, rfl, .inl (SqT.of ((s1.trans s) _ _ hd2)), hy.by (s1.trans s), tx, decide (j ∈ b.2), by simp, _, rfl, ?_⟩
      refine ite2 (fun e => ?_) (fun e => ?_)
      · exact ⟨_, rfl, kN _ _ j (if_pos e) (Same.refl _) tx⟩
      · exact kM _ (if_neg e) (Same.refl _)
    · rw [fm_filter] at ht
      have s3 := s1.trans s2
      refine ⟨_, rfl, _, b, rfl, tb.by s3, gb, fun H4 p4 s4 _ hp4 => ?_⟩
      have s5 := s3.trans s4
      refine ⟨_, rfl, D, ws, rfl, .inl (SqL.of (s4 _ _ hw)), (2 : Int), _, rfl, rfl, .inl ⟨by decide, by decide⟩, ?_⟩
      refine ⟨_, rfl, _, a, rfl, ta.by s5, ga, fun H6 p6 s6 _ hp6 => ?_⟩
      refine ⟨p6, rfl, ⟨_, SqL.of hp6⟩, fun D2 hD2 => ?_⟩
      refine lc_src (walk_list (K := K) (a := p6)) (e0 := eNat) (l := freeL a) eNat (fun e => if (decide (e ∈ freeL b)) = true then some e else none) hD2 (small1000 (by omega)) (tds_nats _) (fun H s => SqL.of (s _ _ hp6)) (fun z x H' N M hj s tx kN kM => ?_) (fun H7 us s7 hu7 ht7 => ?_)
      · have hxz : x = vN z := TD.intI tx
        subst hxz
        refine ⟨rfl, _, rfl, _, rfl, p4, _, rfl, .inl (SqL.of ((s6.trans s) _ _ hp4)), rfl, flat_nats _, _, rfl, ?_⟩
        refine ite2 (fun e => ?_) (fun e => ?_)
        · have e1 : inV (vN z) ((freeL b).map vN) = true := e
          rw [inV_nats] at e1
          exact ⟨_, rfl, kN _ _ z (if_pos e1) (Same.refl _) (.int _)⟩
        · have e1 : ¬ inV (vN z) ((freeL b).map vN) = true := e
          rw [inV_nats] at e1
          exact kM _ (if_neg e1) (Same.refl _)
      · rw [fm_filter] at ht7
        refine ⟨D2, us, rfl, .inl (SqL.of hu7), _, _, rfl, rfl, ?_⟩
        have e1 := ht.len
        have e2 := ht7.len
        rw [List.length_map] at e1 e2
        have eq1 : (2 * ((ws.length : Nat) : Int) + ((us.length : Nat) : Int)) = ((commonL a b : Nat) : Int) := by
          unfold commonL
          rw [e1, e2]
          omega
        dsimp only
        rw [eq1]
        exact q _ ((s5.trans s6).trans s7)
end
end DC
end

section
set_option Elab.async false
set_option linter.all false
set_option maxRecDepth 100000
set_option maxHeartbeats 4000000
namespace DC
open PySem PySem.Spec PyProof.Rows L2
/-! ### the machine that draws -/
def Mach (du g c : Addr) (B : Nat) (H : Hp) : Prop := ∃ (kvs : List (Key × V)) (xs ys : List Int) (n : Nat), H du = some (.dK kvs) ∧ kvs.length ≤ 3 ∧ valV kvs (.inr "cells") = some (.ref c) ∧ valV kvs (.inr "great") = some (.ref g) ∧ valV kvs (.inr "spot") = some (vN n) ∧
  H g = some (.lst (xs.map V.int)) ∧ xs.length ≤ 63 ∧ H c = some (.lst (ys.map V.int)) ∧ ys.length = 64 ∧ n ≤ B ∧ g ≠ c
theorem Mach.bar {du g c : Addr} {B : Nat} {A : List Addr} {H H' : Hp} (h : Mach du g c B H) (b : Bar A H H') (h1 : du ∉ A) (h2 : g ∉ A) (h3 : c ∉ A) : Mach du g c B H' := by
  obtain ⟨kvs, xs, ys, n, q1, q2, q3, q4, q5, q6, q7, q8, q9⟩ := h
  exact ⟨kvs, xs, ys, n, b _ _ h1 q1, q2, q3, q4, q5, b _ _ h2 q6, q7, b _ _ h3 q8, q9⟩
theorem Mach.by {du g c : Addr} {B : Nat} {H H' : Hp} (h : Mach du g c B H) (s : Same H H') : Mach du g c B H' := h.bar (A := []) (Bar.of s) (by simp) (by simp) (by simp)
theorem Mach.mono {du g c : Addr} {B B' : Nat} {H : Hp} (h : Mach du g c B H) (hb : B ≤ B') : Mach du g c B' H := by
  obtain ⟨kvs, xs, ys, n, q1, q2, q3, q4, q5, q6, q7, q8, q9, q10, q11⟩ := h
  exact ⟨kvs, xs, ys, n, q1, q2, q3, q4, q5, q6, q7, q8, q9, by omega, q11⟩
/-- tuples and lists stand while the machine draws -/
theorem Mach.keep {du g c : Addr} {B : Nat} {H H' : Hp} (h : Mach du g c B H) (b : Bar [du, g] H H') {a : Addr} {xs : List V} (e : H a = some (.tup xs)) : H' a = some (.tup xs) := by
  obtain ⟨kvs, us, ys, n, q1, q2, q3, q4, q5, q6, _⟩ := h
  refine b _ _ (fun z => ?_) e
  rcases List.mem_cons.mp z with rfl | z
  · rw [q1] at e; cases e
  · rw [List.mem_singleton] at z
    subst z
    rw [q6] at e; cases e
theorem Mach.tup {du g c : Addr} {B : Nat} {H H' : Hp} (h : Mach du g c B H) (b : Bar [du, g] H H') : TupS H H' := fun _ _ e => h.keep b e
/-- what is new since then is none of the machine -/
theorem Mach.new {du g c : Addr} {B : Nat} {H : Hp} {p : Addr} (h : Mach du g c B H) (n : H p = none) : p ∉ [du, g] := by
  obtain ⟨kvs, us, ys, k, q1, q2, q3, q4, q5, q6, _⟩ := h
  intro z
  rcases List.mem_cons.mp z with rfl | z
  · rw [q1] at n; cases n
  · rw [List.mem_singleton] at z
    subst z
    rw [q6] at n; cases n
theorem Mach.new3 {du g c : Addr} {B : Nat} {H : Hp} {p : Addr} (h : Mach du g c B H) (n : H p = none) : du ≠ p ∧ g ≠ p ∧ c ≠ p := by
  obtain ⟨kvs, us, ys, k, q1, q2, q3, q4, q5, q6, _, q8, _⟩ := h
  exact ⟨ne_of_none q1 n, ne_of_none q6 n, ne_of_none q8 n⟩
/-- an object of mine changes, none of the machine -/
theorem Mach.put {du g c : Addr} {B : Nat} {H : Hp} {p : Addr} {o : HO} (h : Mach du g c B H) (n : du ≠ p ∧ g ≠ p ∧ c ≠ p) : Mach du g c B (upd H p o) :=
  h.bar (A := [p]) (Bar.put (by simp)) (by simp [n.1]) (by simp [n.2.1]) (by simp [n.2.2])
section
variable {P : Program} {w : World} {K : PySem.W.Frag} {mg : Str → Option Value} {base : Heap}
def sp__law_mixed : Sp := fun vs H Q _ => ∃ (x : Int) (n : Nat), vs = [.int x, vN n] ∧ n ≤ 2000000 ∧ ∀ r : Int, Q (.int r) H
theorem ok__law_mixed (T : TX K mg) : Ok P w K mg base 1 "_law_mixed" ["_law_cell", "_law_n"] sp__law_mixed := by
  refine ok_of (k := 0) T.f__law_mixed sc__law_mixed (fun _ _ _ _ _ _ us hl => match us, hl with | [_, _], _ => rfl) (fun vs H Q E h => ?_) (fun cdv A outer s H vs Q E hr h => ?_)
  · obtain ⟨v, n, rfl, _⟩ := h
    rfl
  · obtain ⟨x, n, rfl, hn, q⟩ := h
    refine ⟨_, (pss_cons (ps_set (i := 2) sc__law_mixed.nd rfl (Or.inl rfl) (pe_op op_add (pe_op op_add (pe_op op_modN (pe_callTy call_int1 (by rfl) T.z_int bt_int (pa_cons (pe_op op_mul (pe_op op_mul (pv 0) (pe_op op_add pe_int (pe_op op_mul pe_int (pv 1)))) pe_int) pa_nil)) pe_int) (pe_op op_mul (pe_op op_mul pe_int (pv 1)) (pv 1))) (pe_op op_mul pe_int (pv 1))))
      (pss_one (ps_ret (pe_op op_fdivN (pe_op op_modN (pe_callTy call_int1 (by rfl) T.z_int bt_int (pa_cons (pe_op op_mul (pv 2) pe_int) pa_nil)) pe_int) pe_int)))), ?_⟩
    refine ⟨_, rfl, _, rfl, (2 : Int), _, rfl, rfl, .inl ⟨by decide, by decide⟩, _, _, rfl, rfl, x, _, rfl, rfl, .inr ⟨by omega, by omega⟩, _, (69621 : Int), rfl, rfl, .inr ⟨by decide, by decide⟩, .inl ⟨_, rfl, ?_⟩⟩
    refine ⟨_, _, rfl, rfl, (show (2147483647 : Int) ≠ 0 by decide), ?_⟩
    refine ⟨_, rfl, (104729 : Int), _, rfl, rfl, .inl ⟨by decide, by decide⟩, _, rfl, _, (n : Int), rfl, rfl, .inr ⟨by omega, by omega⟩, _, _, rfl, rfl, ?_⟩
    refine ⟨_, rfl, (7919 : Int), _, rfl, rfl, .inl ⟨by decide, by decide⟩, _, _, rfl, rfl, ?_⟩
    refine ⟨_, rfl, _, (48271 : Int), rfl, rfl, .inr ⟨by decide, by decide⟩, .inl ⟨_, rfl, ?_⟩⟩
    refine ⟨_, _, rfl, rfl, (show (2147483629 : Int) ≠ 0 by decide), ?_⟩
    exact ⟨_, _, rfl, rfl, ⟨by decide, by decide⟩, q _⟩
def sp__law_draw : Sp := fun vs H Q _ => ∃ (du g c : Addr) (B L : Nat), vs = [.ref du, vN L] ∧ Mach du g c B H ∧ B ≤ 1000000 ∧ 1 ≤ L ∧ L ≤ 1000000 ∧ ∀ (H' : Hp) (r : Nat), Bar [du, g] H H' → Mach du g c (B + 1) H' → r < L → Q (vN r) H'
theorem fmod_nat {x : Int} {L : Nat} (h : 1 ≤ L) : ∃ r : Nat, Int.fmod x (L : Int) = (r : Int) ∧ r < L := by
  have h0 : (0 : Int) < (L : Int) := by omega
  have h1 := Int.fmod_nonneg_of_pos x h0
  have h2 := Int.fmod_lt_of_pos x h0
  exact ⟨(Int.fmod x (L : Int)).toNat, by omega, by omega⟩
theorem putK_has {kvs : List (Key × V)} {k : Key} {x v : V} (h : valV kvs k = some x) : (putK kvs k v).length = kvs.length := by
  have : (kvs.any fun kv => decide (kv.1 = k)) = true := by rw [valV_any, h]; rfl
  unfold putK
  rw [if_pos this, List.length_map]
theorem ok__law_draw (T : TX K mg) : Ok P w K mg base 2 "_law_draw" ["_law_m", "_law_limit"] sp__law_draw := by
  have G__law_mixed := ok__law_mixed (P := P) (w := w) (base := base) T
  refine ok_of (k := 1) T.f__law_draw sc__law_draw (fun _ _ _ _ _ _ us hl => match us, hl with | [_, _], _ => rfl) (fun vs H Q E h => ?_) (fun cdv A outer s H vs Q E hr h => ?_)
  · obtain ⟨du, g, c, B, L, rfl, _⟩ := h
    rfl
  · obtain ⟨du, g, c, B, L, rfl, ⟨kvs, xs, ys, n, hu, hk3, kc, kg, ks, hg, hx63, hc, hy64, hnB, hgc⟩, hB, hL, hL2, q⟩ := h
    have ndg : du ≠ g := fun z => by
      subst z
      rw [hu] at hg
      cases hg
    have ndc : du ≠ c := fun z => by
      subst z
      rw [hu] at hc
      cases hc
    refine ⟨_, (pss_cons (ps_set (i := 2) sc__law_draw.nd rfl (Or.inl rfl) (pe_dget (hu_of hr) (pv 0) pe_str (fun _ _ => rfl)))
      (pss_cons (ps_dput (hu_of hr) (pv 0) pe_str (pe_op op_add (pv 2) pe_int) rfl)
      (pss_cons (ps_if (pt_cmpR (op_neLE enc_int (by decide) (hu64 hr)) (pe_dget (hu_of hr) (pv 0) pe_str (fun _ _ => rfl)) (pe_lst pa_nil) (nomark _)) (pss_cons (ps_set (i := 3) sc__law_draw.nd rfl (Or.inl rfl) (pe_dget (hu_of hr) (pv 0) pe_str (fun _ _ => rfl)))
      (pss_cons (ps_set (i := 4) sc__law_draw.nd rfl (Or.inl rfl) (pe_op op_modN (pe_callTy call_int1 (by rfl) T.z_int bt_int (pa_cons (pv 2) pa_nil)) (pe_callB call_len_seq (by rfl) T.z_len bt_len (pa_cons (pv 3) pa_nil))))
      (pss_cons (ps_set (i := 5) sc__law_draw.nd rfl (Or.inl rfl) (pe_ix ix_list (pv 3) (pv 4) (fun _ _ => rfl)))
      (pss_one (ps_if (pt_cmpR op_gt (pv 5) pe_int (nomark _)) (pss_cons (ps_asg (pe_op op_fdivN (pv 5) (pv 1)) (pg_sub (pv 3) (pv 4) set_list))
      (pss_one (ps_ret (pe_op op_modN (pe_callTy call_int1 (by rfl) T.z_int bt_int (pa_cons (pv 5) pa_nil)) (pv 1))))) pss_nil))))) pss_nil)
      (pss_cons (ps_set (i := 3) sc__law_draw.nd rfl (Or.inl rfl) (pe_dget (hu_of hr) (pv 0) pe_str (fun _ _ => rfl)))
      (pss_one (ps_ret (pe_op op_modN (pe_callTy call_int1 (by rfl) T.z_int bt_int (pa_cons (pe_callD G__law_mixed (hr.mono (by decide)) (pa_cons (pe_callD G__law_mixed (hr.mono (by decide)) (pa_cons (pe_op op_add (pe_ix ix_list (pv 3) (pe_op op_modN (pe_callTy call_int1 (by rfl) T.z_int bt_int (pa_cons (pv 2) pa_nil)) pe_int) (fun _ _ => rfl)) (pe_op op_mul pe_int (pe_op op_fdivN (pv 2) pe_int))) (pa_cons (pv 2) pa_nil))) (pa_cons (pe_op op_add (pv 2) pe_int) pa_nil))) pa_nil)) (pv 1)))))))), ?_⟩
    refine ⟨_, rfl, du, _, rfl, dget_of (k := Sum.inr "spot") hu ks, ?_⟩
    refine ⟨_, rfl, _, _, rfl, rfl, _, rfl, du, _, rfl, DPut.k (k := Sum.inr "spot") hu (small1000 (by omega)), ?_⟩
    have hH1u : upd H du (.dK (putK kvs (Sum.inr "spot") (V.int ((n : Int) + 1)))) du = some (.dK (putK kvs (Sum.inr "spot") (V.int ((n : Int) + 1)))) := upd_same
    have hH1g : upd H du (.dK (putK kvs (Sum.inr "spot") (V.int ((n : Int) + 1)))) g = _ := (upd_ne (Ne.symm ndg)).trans hg
    have hH1c : upd H du (.dK (putK kvs (Sum.inr "spot") (V.int ((n : Int) + 1)))) c = _ := (upd_ne (Ne.symm ndc)).trans hc
    have b1 : Bar [du, g] H (upd H du (.dK (putK kvs (Sum.inr "spot") (V.int ((n : Int) + 1))))) := Bar.put (by simp)
    have kc1 : valV (putK kvs (Sum.inr "spot") (V.int ((n : Int) + 1))) (.inr "cells") = some (.ref c) := by rw [valV_put, if_neg (by decide), kc]
    have kg1 : valV (putK kvs (Sum.inr "spot") (V.int ((n : Int) + 1))) (.inr "great") = some (.ref g) := by rw [valV_put, if_neg (by decide), kg]
    have ks1 : valV (putK kvs (Sum.inr "spot") (V.int ((n : Int) + 1))) (.inr "spot") = some (vN (n + 1)) := by rw [valV_put, if_pos rfl]; rfl
    have kl1 : (putK kvs (Sum.inr "spot") (V.int ((n : Int) + 1))).length ≤ 3 := by rw [putK_has ks]; exact hk3
    generalize putK kvs (Sum.inr "spot") (V.int ((n : Int) + 1)) = kv1 at *
    generalize upd H du (.dK kv1) = H1 at *
    have mach : ∀ (H' : Hp) (zs : List Int), Bar [g] H1 H' → H' g = some (.lst (zs.map V.int)) → zs.length = xs.length → Mach du g c (B + 1) H' := fun H' zs b hz hl => ⟨kv1, zs, ys, n + 1, b _ _ (by simp [ndg]) hH1u, kl1, kc1, kg1, ks1, hz, by omega, b _ _ (by simp [Ne.symm hgc]) hH1c, hy64, by omega, hgc⟩
    refine ⟨_, rfl, du, _, rfl, dget_of (k := Sum.inr "great") hH1u kg1, ?_⟩
    refine ⟨Nat.zero_le _, fun p0 hp0 => ?_⟩
    have s2 := same_upd (o := .lst []) hp0
    refine ⟨g, p0, _, _, xs, [], rfl, rfl, SqL.of (s2 _ _ hH1g), SqL.of upd_same, tds_ints xs, .nil, !decide (xs = []), by simp, _, rfl, ?_⟩
    generalize upd H1 p0 (.lst []) = H2 at *
    have hu2 := s2 _ _ hH1u
    have hg2 := s2 _ _ hH1g
    have hc2 := s2 _ _ hH1c
    refine ite2 (fun e => ?_) (fun e => ?_)
    · have hx0 : 1 ≤ xs.length := by
        cases xs with
        | nil => simp at e
        | cons _ _ => simp
      refine ⟨_, rfl, du, _, rfl, dget_of (k := Sum.inr "great") hu2 kg1, ?_⟩
      obtain ⟨m, em, hm⟩ := fmod_nat (x := (n : Int)) (L := xs.length) hx0
      refine ⟨_, rfl, .inl ⟨_, rfl, _, rfl, g, _, rfl, .inl (SqL.of hg2), _, _, rfl, rfl, ?_, ?_⟩⟩
      · show (((xs.map V.int).length : Nat) : Int) ≠ 0
        rw [List.length_map]
        omega
      · dsimp only
        have em2 : V.int (Int.fmod (n : Int) (((xs.map V.int).length : Nat) : Int)) = vN m := by
          rw [List.length_map, em]
          rfl
        rw [em2]
        have hxc : (xs.map V.int)[m]? = some (V.int (xs[m]'hm)) := by rw [List.getElem?_map, List.getElem?_eq_getElem]; rfl
        refine ⟨_, rfl, _, rfl, g, _, _, _, rfl, rfl, SqL.of hg2, atI_nat (j := m) hxc, ?_⟩
        refine ⟨_, rfl, _, _, rfl, rfl, _, rfl, ?_⟩
        refine ite2 (fun e1 => ?_) (fun e1 => ?_)
        · refine ⟨_, rfl, _, rfl, _, _, rfl, rfl, ⟨by omega, by omega⟩, ?_⟩
          refine ⟨_, rfl, _, rfl, g, _, (m : Int), m, rfl, rfl, hg2, ixN_nat (by rw [List.length_map]; exact hm), ?_⟩
          refine ⟨_, rfl, .inl ⟨_, rfl, _, rfl, _, _, rfl, rfl, (show (L : Int) ≠ 0 by omega), ?_⟩⟩
          obtain ⟨r3, e3, hr3⟩ := fmod_nat (x := xs[m]'hm) hL
          have e4 : V.int (Int.fmod (xs[m]'hm) (L : Int)) = vN r3 := by rw [e3]; rfl
          dsimp only
          rw [e4]
          have bg : Bar [g] H1 _ := (Bar.of s2).trans (Bar.put (o := .lst ((xs.map V.int).set m (V.int (Int.fdiv (xs[m]'hm) (L : Int))))) (List.mem_singleton.mpr rfl))
          have bg2 : Bar [du, g] H1 _ := (Bar.of s2).trans (Bar.put (a := g) (o := .lst ((xs.map V.int).set m (V.int (Int.fdiv (xs[m]'hm) (L : Int))))) (by simp))
          refine q _ r3 (b1.trans bg2) (mach _ (xs.set m (Int.fdiv (xs[m]'hm) (L : Int))) bg ?_ (by simp)) hr3
          rw [upd_same, List.map_set]
        · refine ⟨_, rfl, du, _, rfl, dget_of (k := Sum.inr "cells") hu2 kc1, ?_⟩
          have hn0 : 0 ≤ n := Nat.zero_le _
          obtain ⟨m, em, hm⟩ := fmod_nat (x := (n : Int)) (L := 64) (by decide)
          have hyc : (ys.map V.int)[m]? = some (V.int (ys[m]'(by omega))) := by rw [List.getElem?_map, List.getElem?_eq_getElem]; rfl
          have em2 : (V.int (Int.fmod (n : Int) 64)) = vN m := by
            have : Int.fmod (n : Int) 64 = (m : Int) := em
            rw [this]
            rfl
          refine ⟨_, rfl, _, rfl, .inl ⟨_, rfl, _, _, rfl, rfl, (show (64 : Int) ≠ 0 by decide), ?_⟩⟩
          dsimp only
          rw [em2]
          refine ⟨c, _, _, _, rfl, rfl, SqL.of hc2, atI_nat (j := m) hyc, ?_⟩
          refine ⟨_, rfl, _, _, rfl, rfl, ⟨by decide, by decide⟩, (37 : Int), _, rfl, rfl, .inl ⟨by decide, by decide⟩, _, _, rfl, rfl, ?_⟩
          refine ⟨_, rfl, _, n, rfl, by omega, fun r1 => ?_⟩
          refine ⟨_, rfl, _, _, rfl, rfl, _, n + 5, rfl, by omega, fun r2 => ?_⟩
          refine .inl ⟨_, rfl, _, rfl, _, _, rfl, rfl, (show (L : Int) ≠ 0 by omega), ?_⟩
          obtain ⟨r3, e3, hr3⟩ := fmod_nat (x := r2) hL
          have e4 : V.int (Int.fmod r2 (L : Int)) = vN r3 := by rw [e3]; rfl
          dsimp only
          rw [e4]
          exact q _ r3 (b1.trans (Bar.of s2)) (mach _ xs (Bar.of s2) hg2 rfl) hr3
    · refine ⟨_, rfl, du, _, rfl, dget_of (k := Sum.inr "cells") hu2 kc1, ?_⟩
      have hn0 : 0 ≤ n := Nat.zero_le _
      obtain ⟨m, em, hm⟩ := fmod_nat (x := (n : Int)) (L := 64) (by decide)
      have hyc : (ys.map V.int)[m]? = some (V.int (ys[m]'(by omega))) := by rw [List.getElem?_map, List.getElem?_eq_getElem]; rfl
      have em2 : (V.int (Int.fmod (n : Int) 64)) = vN m := by
        have : Int.fmod (n : Int) 64 = (m : Int) := em
        rw [this]
        rfl
      refine ⟨_, rfl, _, rfl, .inl ⟨_, rfl, _, _, rfl, rfl, (show (64 : Int) ≠ 0 by decide), ?_⟩⟩
      dsimp only
      rw [em2]
      refine ⟨c, _, _, _, rfl, rfl, SqL.of hc2, atI_nat (j := m) hyc, ?_⟩
      refine ⟨_, rfl, _, _, rfl, rfl, ⟨by decide, by decide⟩, (37 : Int), _, rfl, rfl, .inl ⟨by decide, by decide⟩, _, _, rfl, rfl, ?_⟩
      refine ⟨_, rfl, _, n, rfl, by omega, fun r1 => ?_⟩
      refine ⟨_, rfl, _, _, rfl, rfl, _, n + 5, rfl, by omega, fun r2 => ?_⟩
      refine .inl ⟨_, rfl, _, rfl, _, _, rfl, rfl, (show (L : Int) ≠ 0 by omega), ?_⟩
      obtain ⟨r3, e3, hr3⟩ := fmod_nat (x := r2) hL
      have e4 : V.int (Int.fmod r2 (L : Int)) = vN r3 := by rw [e3]; rfl
      dsimp only
      rw [e4]
      exact q _ r3 (b1.trans (Bar.of s2)) (mach _ xs (Bar.of s2) hg2 rfl) hr3
end
end DC
end

section
set_option Elab.async false
set_option linter.all false
set_option maxRecDepth 100000
set_option maxHeartbeats 4000000
namespace DC
open PySem PySem.Spec PyProof.Rows L2
section
variable {P : Program} {w : World} {K : PySem.W.Frag} {mg : Str → Option Value} {base : Heap}
theorem walk_rangeN1 {n : Nat} : Walk (Itr 1 n) n (fun _ => True) (fun i H x H' => H' = H ∧ x = vN (i + 1)) :=
  walk_range.mono (fun _ h => h) fun i H x H' _ _ y => ⟨y.1, y.2.trans (by show V.int (1 + (i : Int)) = V.int ((i + 1 : Nat) : Int); rw [Int.add_comm]; rfl)⟩
def sp__law_folded (K : PySem.W.Frag) : Sp := fun vs H Q _ => ∃ (a : Addr) (xs : List Int), vs = [.ref a] ∧ SqL K H a (xs.map V.int) ∧ xs.length ≤ 63 ∧ ∀ (H' : Hp) (p : Addr) (ys : List Int), Same H H' → H p = none → H' p = some (.lst (ys.map V.int)) → ys.length = 64 → Q (.ref p) H'
theorem ok__law_folded (T : TX K mg) : Ok P w K mg base 1 "_law_folded" ["_law_script"] (sp__law_folded K) := by
  refine ok_of (k := 0) T.f__law_folded sc__law_folded (fun _ _ _ _ _ _ us hl => match us, hl with | [_], _ => rfl) (fun vs H Q E h => ?_) (fun cdv A outer s H vs Q E hr h => ?_)
  · obtain ⟨v, n, rfl, _⟩ := h
    rfl
  · obtain ⟨a, xs, rfl, ha, hx, q⟩ := h
    refine ⟨_, (pss_cons (ps_setLc (i := 2) (own := [("_law_n", 1)]) (g := (gName 1)) (by rfl) sc__law_folded.nd rfl rfl (sw_true rfl rfl rfl (by decide +kernel)) (pi_range1 rfl T.z_range (pa_cons pe_int pa_nil)) (blkOk_by (own := [("_law_n", 1)]) (N := N__law_folded) (sc := defScope s__law_folded) (by decide +kernel)) (fun _ _ _ _ _ => (pg_name (i := 1) sc__law_folded.nd rfl (Or.inl rfl))) (fun _ _ _ _ _ => pts_nil) (fun _ _ _ _ _ => (pe_op op_add pe_int (pe_op op_mul pe_int (pv 1)))))
      (pss_cons (ps_for PassesOwn.never rfl (pi_enum rfl T.z_enumerate (pa_cons (pv 0) pa_nil)) (pg_tup (by rfl) (pgs_cons (pg_name (i := 1) sc__law_folded.nd rfl (Or.inl rfl)) (pgs_cons (pg_name (i := 3) sc__law_folded.nd rfl (Or.inl rfl)) pgs_nil))) (pss_one (ps_asg (pe_op op_modN (pe_callTy call_int1 (by rfl) T.z_int bt_int (pa_cons (pe_op op_add (pe_op op_mul (pe_ix ix_list (pv 2) (pe_op op_modN (pe_callTy call_int1 (by rfl) T.z_int bt_int (pa_cons (pv 1) pa_nil)) pe_int) (fun _ _ => rfl)) pe_int) (pv 3)) pa_nil)) pe_int) (pg_sub (pv 2) (pe_op op_modN (pe_callTy call_int1 (by rfl) T.z_int bt_int (pa_cons (pv 1) pa_nil)) pe_int) set_list))))
      (pss_cons (ps_for PassesOwn.never rfl (pi_range2 rfl T.z_range (pa_cons pe_int (pa_cons pe_int pa_nil))) (pg_name (i := 1) sc__law_folded.nd rfl (Or.inl rfl)) (pss_one (ps_asg (pe_op op_modN (pe_callTy call_int1 (by rfl) T.z_int bt_int (pa_cons (pe_op op_add (pe_ix ix_list (pv 2) (pv 1) (fun _ _ => rfl)) (pe_op op_mul (pe_ix ix_list (pv 2) (pe_op op_sub (pv 1) pe_int) (fun _ _ => rfl)) pe_int)) pa_nil)) pe_int) (pg_sub (pv 2) (pv 1) set_list))))
      (pss_one (ps_ret (pv 2)))))), ?_⟩
    refine ⟨64, rfl, by decide, by decide, fun D hD => ?_⟩
    refine lc_fm (walk_rangeN (n := 64)) eInt (fun i => some (29 + 3 * (i : Int))) hD (small1000 (by decide)) (fun _ _ => trivial) (fun i x H3 H4 N M hi s y kN kM => ?_) (fun H3 ws s hw ht => ?_)
    · obtain ⟨rfl, rfl⟩ := y
      refine ⟨rfl, ?_⟩
      refine ⟨_, rfl, (3 : Int), _, rfl, rfl, .inl ⟨by decide, by decide⟩, _, _, rfl, rfl, ?_⟩
      exact kN _ _ _ rfl (Same.refl _) (.int _)
    · have ew := tds_ints_inv ht
      have hl0 : ((List.range 64).filterMap (fun i : Nat => some (29 + 3 * (i : Int)))).length = 64 := by
        rw [List.filterMap_eq_map', List.length_map, List.length_range]
      generalize (List.range 64).filterMap (fun i : Nat => some (29 + 3 * (i : Int))) = ns0 at *
      subst ew
      refine ⟨_, rfl, a, xs.map V.int, rfl, sqlSame ha s, ?_⟩
      have hwk : Walk (Ite K a) xs.length (fun H => SqL K H a (xs.map V.int)) (YPair (fun i => some (.int (i : Nat))) (fun i => (xs.map V.int)[i]?)) := by
        have := walk_enum (K := K) (a := a) (xs := xs.map V.int)
        rw [List.length_map] at this
        exact this
      refine for_it hwk (fun i σ H' => ∃ (y1 y3 : Option V) (ns : List Int), σ = [some (.ref a), y1, some (.ref D), y3] ∧ Same H H' ∧ H' D = some (.lst (ns.map V.int)) ∧ ns.length = 64) ⟨none, none, ns0, rfl, s, hw, hl0⟩ (fun i σ H' _ p => ?_) (fun i x σ H' H'' hi p y => ?_) (fun σ H' p => ?_)
      · obtain ⟨_, _, _, _, s', _⟩ := p
        exact sqlSame ha s'
      · obtain ⟨y1, y3, ns, rfl, s', hD', hl⟩ := p
        obtain ⟨Tp, x0, x1, rfl, nT, rfl, ex0, ex1⟩ := y
        cases ex0
        have ex1 : (xs.map V.int)[i]? = some x1 := ex1
        rw [List.getElem?_map] at ex1
        cases hxi : xs[i]? with
        | none => rw [hxi] at ex1; cases ex1
        | some z =>
          rw [hxi] at ex1
          have ez : V.int z = x1 := Option.some.inj ex1
          subst ez
          have sT : Same H' (upd H' Tp (.tup [.int (i : Nat), V.int z])) := same_upd nT
          have hD2 := sT _ _ hD'
          refine ⟨Tp, _, rfl, SqT.of upd_same, rfl, _, _, rfl, _, _, rfl, rfl, ?_⟩
          obtain ⟨m, em, hm⟩ := fmod_nat (x := (i : Int)) (L := 64) (by decide)
          have em2 : (V.int (Int.fmod (i : Int) 64)) = vN m := by
            have : Int.fmod (i : Int) 64 = (m : Int) := em
            rw [this]
            rfl
          have hyc : (ns.map V.int)[m]? = some (V.int (ns[m]'(by omega))) := by rw [List.getElem?_map, List.getElem?_eq_getElem]; rfl
          refine ⟨_, rfl, _, rfl, .inl ⟨_, rfl, _, _, rfl, rfl, (show (64 : Int) ≠ 0 by decide), ?_⟩⟩
          dsimp only
          rw [em2]
          refine ⟨D, _, _, _, rfl, rfl, SqL.of hD2, atI_nat (j := m) hyc, _, (69621 : Int), rfl, rfl, .inr ⟨by decide, by decide⟩, _, rfl, _, _, rfl, rfl, .inl ⟨_, rfl, _, _, rfl, rfl, (show (2147483647 : Int) ≠ 0 by decide), ?_⟩⟩
          refine ⟨_, rfl, _, rfl, .inl ⟨_, rfl, _, _, rfl, rfl, (show (64 : Int) ≠ 0 by decide), ?_⟩⟩
          dsimp only
          rw [em2]
          refine ⟨D, _, (m : Int), m, rfl, rfl, hD2, ixN_nat (by rw [List.length_map]; omega), ?_⟩
          refine ⟨_, _, ns.set m (Int.fmod (ns[m]'(by omega) * 69621 + z) 2147483647), rfl, samePut (s'.trans sT) hD, ?_, by rw [List.length_set]; exact hl⟩
          rw [upd_same, List.map_set]
      · obtain ⟨y1, y3, ns, rfl, s', hD', hl⟩ := p
        refine ⟨1, 64, rfl, ⟨by decide, by decide, by decide, by decide⟩, ?_⟩
        refine for_it (walk_rangeN1 (n := 63)) (fun i σ H' => ∃ (y1 y3 : Option V) (ns : List Int), σ = [some (.ref a), y1, some (.ref D), y3] ∧ Same H H' ∧ H' D = some (.lst (ns.map V.int)) ∧ ns.length = 64) ⟨y1, y3, ns, rfl, s', hD', hl⟩ (fun i σ H' _ p => trivial) (fun i x σ H' H'' hi p y => ?_) (fun σ H' p => ?_)
        · obtain ⟨y1, y3, ns, rfl, s', hD', hl⟩ := p
          obtain ⟨rfl, rfl⟩ := y
          have h1 : (ns.map V.int)[i + 1]? = some (V.int (ns[i + 1]'(by omega))) := by rw [List.getElem?_map, List.getElem?_eq_getElem]; rfl
          have h2 : (ns.map V.int)[i]? = some (V.int (ns[i]'(by omega))) := by rw [List.getElem?_map, List.getElem?_eq_getElem]; rfl
          have ei : V.int (((i + 1 : Nat) : Int) - 1) = vN i := by
            have : ((i + 1 : Nat) : Int) - 1 = (i : Int) := by omega
            rw [this]
            rfl
          refine ⟨_, rfl, _, rfl, D, _, _, _, rfl, rfl, SqL.of hD', atI_nat (j := i + 1) h1, ?_⟩
          refine ⟨_, rfl, _, rfl, _, _, rfl, rfl, ?_⟩
          dsimp only
          rw [ei]
          refine ⟨D, _, _, _, rfl, rfl, SqL.of hD', atI_nat (j := i) h2, _, (48271 : Int), rfl, rfl, .inr ⟨by decide, by decide⟩, _, _, rfl, rfl, .inl ⟨_, rfl, _, _, rfl, rfl, (show (2147483647 : Int) ≠ 0 by decide), ?_⟩⟩
          refine ⟨_, rfl, _, rfl, D, _, ((i + 1 : Nat) : Int), i + 1, rfl, rfl, hD', ixN_nat (by rw [List.length_map]; omega), ?_⟩
          refine ⟨_, _, ns.set (i + 1) (Int.fmod (ns[i + 1]'(by omega) + ns[i]'(by omega) * 48271) 2147483647), rfl, samePut s' hD, ?_, by rw [List.length_set]; exact hl⟩
          rw [upd_same, List.map_set]
        · obtain ⟨y1, y3, ns, rfl, s', hD', hl⟩ := p
          exact ⟨_, rfl, q _ D ns s' hD hD' hl⟩
def sp__law_begun (K : PySem.W.Frag) : Sp := fun vs H Q _ => ∃ (a : Addr) (xs : List Int), vs = [.ref a] ∧ SqL K H a (xs.map V.int) ∧ xs.length ≤ 63 ∧ ∀ (H' : Hp) (du g c : Addr), Same H H' → Mach du g c 0 H' → Q (.ref du) H'
theorem ok__law_begun (T : TX K mg) : Ok P w K mg base 2 "_law_begun" ["_law_script"] (sp__law_begun K) := by
  have G__law_folded := ok__law_folded (P := P) (w := w) (base := base) T
  refine ok_of (k := 1) T.f__law_begun sc__law_begun (fun _ _ _ _ _ _ us hl => match us, hl with | [_], _ => rfl) (fun vs H Q E h => ?_) (fun cdv A outer s H vs Q E hr h => ?_)
  · obtain ⟨v, n, rfl, _⟩ := h
    rfl
  · obtain ⟨a, xs, rfl, ha, hx, q⟩ := h
    refine ⟨_, (pss_cons (ps_set (i := 1) sc__law_begun.nd rfl (Or.inl rfl) (pe_disp (pps_cons pe_str (pe_callD G__law_folded (hr.mono (by decide)) (pa_cons (pv 0) pa_nil)) (pps_cons pe_str (pe_lst pa_nil) (pps_cons pe_str pe_int pps_nil))) (by rfl) (by rfl) (fun z => by cases z) (by decide)))
      (pss_cons (ps_dput (hu_of hr) (pv 1) pe_str (pe_lc (own := [("_law_cell", 2)]) (g := (gName 2)) (by rfl) sc__law_begun.nd (pi_list (pv 0)) (blkOk_by (own := [("_law_cell", 2)]) (N := N__law_begun) (sc := defScope s__law_begun) (by decide +kernel)) (fun _ _ _ _ _ => (pg_name (i := 2) sc__law_begun.nd rfl (Or.inl rfl))) (fun _ _ _ _ _ => pts_nil) (fun _ _ _ _ _ => (pe_ifExp (pt_cmpR op_ge (pv 2) (pe_op op_pow pe_int pe_int) (nomark _)) (pv 2) pe_int))) rfl)
      (pss_one (ps_ret (pv 1))))), ?_⟩
    refine fun du hdu => ?_
    have s0 := same_upd (o := .dK []) hdu
    refine ⟨_, rfl, a, xs, rfl, sqlSame ha s0, hx, fun H1 c ys s1 hcn hc hy => ?_⟩
    refine ⟨Nat.zero_le _, fun g0 hg0 => ?_⟩
    have s2 := same_upd (o := .lst []) hg0
    refine ⟨s2 _ _ (s1 _ _ upd_same), [(.inr "cells", .ref c), (.inr "great", .ref g0), (.inr "spot", .int 0)], rfl, by simp, ?_⟩
    have em : mergeK [] [((.inr "cells" : Key), V.ref c), (.inr "great", .ref g0), (.inr "spot", .int 0)] = [(.inr "cells", .ref c), (.inr "great", .ref g0), (.inr "spot", .int 0)] := by
      have n1 : ((.inr "cells" : Key)) ≠ .inr "great" := by decide
      have n2 : ((.inr "cells" : Key)) ≠ .inr "spot" := by decide
      have n3 : ((.inr "great" : Key)) ≠ .inr "spot" := by decide
      unfold mergeK
      rw [List.foldl_cons, List.foldl_cons, List.foldl_cons, List.foldl_nil]
      show putK (putK (putK ([] : List (Key × V)) (Sum.inr "cells") (V.ref c)) (Sum.inr "great") (V.ref g0)) (Sum.inr "spot") (V.int 0) = _
      rw [putK_new (kvs := []) _ rfl]
      show putK (putK [((.inr "cells" : Key), V.ref c)] (Sum.inr "great") (V.ref g0)) (Sum.inr "spot") (V.int 0) = _
      rw [putK_new (kvs := [((.inr "cells" : Key), V.ref c)]) _ (valV_neg (p := ((.inr "cells" : Key), V.ref c)) n1)]
      show putK [((.inr "cells" : Key), V.ref c), (.inr "great", V.ref g0)] (Sum.inr "spot") (V.int 0) = _
      rw [putK_new (kvs := [((.inr "cells" : Key), V.ref c), (.inr "great", V.ref g0)])]
      · rfl
      · rw [valV_neg (p := ((.inr "cells" : Key), V.ref c)) n2, valV_neg (p := ((.inr "great" : Key), V.ref g0)) n3]
        rfl
    rw [em]
    have sA : Same H (upd (upd H1 g0 (.lst [])) du (.dK ([(.inr "cells", .ref c), (.inr "great", .ref g0), (.inr "spot", .int 0)]))) := samePut ((s0.trans s1).trans s2) hdu
    have huA : upd (upd H1 g0 (.lst [])) du (.dK ([(.inr "cells", .ref c), (.inr "great", .ref g0), (.inr "spot", .int 0)])) du = some (.dK ([(.inr "cells", .ref c), (.inr "great", .ref g0), (.inr "spot", .int 0)])) := upd_same
    have ncd : c ≠ du := fun z => by
      subst z
      rw [upd_same] at hcn
      cases hcn
    have hcA : upd (upd H1 g0 (.lst [])) du (.dK ([(.inr "cells", .ref c), (.inr "great", .ref g0), (.inr "spot", .int 0)])) c = some (.lst (ys.map V.int)) := by
      rw [upd_ne ncd]
      exact s2 _ _ hc
    generalize upd (upd H1 g0 (.lst [])) du (.dK [(.inr "cells", .ref c), (.inr "great", .ref g0), (.inr "spot", .int 0)]) = H2 at *
    refine ⟨_, rfl, a, rfl, ⟨_, sqlSame ha sA⟩, fun D hD => ?_⟩
    refine lc_src (walk_list (K := K) (a := a)) (e0 := eInt) (l := xs) eInt (fun z => some (if (10 : Int) ^ (18 : Int).toNat ≤ z then z else 0)) hD (small1000 (by omega)) (tds_ints xs) (fun H s => sqlSame (sqlSame ha sA) s) (fun z x H' N M hj s tx kN kM => ?_) (fun H3 ws s3 hw ht => ?_)
    · have hxz : x = .int z := TD.intI tx
      subst hxz
      refine ⟨rfl, ?_⟩
      refine ⟨_, rfl, _, _, rfl, rfl, ⟨by decide, by decide, by decide⟩, _, _, rfl, rfl, _, rfl, ?_⟩
      refine ite2 (fun e => ?_) (fun e => ?_)
      · refine ⟨_, rfl, kN _ _ _ rfl (Same.refl _) ?_⟩
        rw [if_pos (of_decide_eq_true e)]
        exact .int _
      · refine kN _ _ _ rfl (Same.refl _) ?_
        rw [if_neg (fun q => e (decide_eq_true q))]
        exact .int _
    · have ew := tds_ints_inv ht
      have hl := ht.len
      rw [fm_some] at hl ew
      rw [List.length_map, List.length_map] at hl
      subst ew
      refine ⟨_, rfl, du, _, rfl, DPut.k (k := Sum.inr "great") (s3 _ _ huA) (small1000 (by simp)), ?_⟩
      refine ⟨_, rfl, q _ du D c (samePut (sA.trans s3) hdu) ?_⟩
      have nDd : D ≠ du := fun z => by
        subst z
        rw [huA] at hD
        cases hD
      have nDc : D ≠ c := fun z => by
        subst z
        rw [hcA] at hD
        cases hD
      refine ⟨_, xs.map fun z => if (10 : Int) ^ (18 : Int).toNat ≤ z then z else 0, ys, 0, upd_same, ?_, ?_, ?_, ?_, ?_, ?_, ?_, hy, Nat.le_refl _, nDc⟩
      · rw [putK_has (x := .ref g0)]
        · simp
        · rfl
      · rw [valV_put, if_neg (by decide)]
        rfl
      · rw [valV_put, if_pos rfl]
      · rw [valV_put, if_neg (by decide)]
        rfl
      · rw [upd_ne nDd]
        exact hw
      · rw [List.length_map]
        exact hx
      · rw [upd_ne ncd]
        exact s3 _ _ hcA
end
end DC
end

section
set_option Elab.async false
set_option linter.all false
set_option maxRecDepth 100000
set_option maxHeartbeats 4000000
namespace DC
open PySem PySem.Spec PyProof.Rows L2
theorem erase_perm {α : Type} : ∀ {l : List α} {k : Nat} {x : α}, l[k]? = some x → (x :: l.eraseIdx k).Perm l
  | [], k, x, h => by simp at h
  | a :: l, 0, x, h => by
    have : a = x := Option.some.inj h
    subst this
    exact List.Perm.refl _
  | a :: l, k + 1, x, h => by
    have h1 : l[k]? = some x := h
    have ih := erase_perm h1
    exact (List.Perm.swap a x _).trans (List.Perm.cons a ih)
theorem seq_nat {n r : Nat} (h : r < n) : seqIndex? (r : Int) n = some r := (ixN_seq (ixN_nat h)).1
theorem eraseIdx_map {α β : Type} (f : α → β) : ∀ (l : List α) (k : Nat), (l.map f).eraseIdx k = (l.eraseIdx k).map f
  | [], _ => rfl
  | _ :: _, 0 => rfl
  | a :: l, k + 1 => by
    show f a :: (l.map f).eraseIdx k = f a :: (l.eraseIdx k).map f
    rw [eraseIdx_map f l k]
theorem rgV0 (n : Nat) : rgV 0 (n : Int) = (List.range n).map vN := by
  unfold rgV
  have e0 : ((n : Int) - 0).toNat = n := by omega
  rw [e0]
  refine List.map_congr_left fun i _ => ?_
  rw [Int.zero_add]
  rfl
section
variable {P : Program} {w : World} {K : PySem.W.Frag} {mg : Str → Option Value} {base : Heap}
def sp__law_of : Sp := fun vs H Q _ => ∃ (du g c a : Addr) (B : Nat) (us : List V), vs = [.ref du, .ref a] ∧ Mach du g c B H ∧ H a = some (.lst us) ∧ a ∉ [du, g] ∧ B ≤ 1000000 ∧ 1 ≤ us.length ∧ us.length ≤ 1000000 ∧
  ∀ (H' : Hp) (k : Nat) (v : V), Bar [du, g] H H' → Mach du g c (B + 1) H' → us[k]? = some v → Q v H'
theorem ok__law_of (T : TX K mg) : Ok P w K mg base 3 "_law_of" ["_law_m", "_law_some"] sp__law_of := by
  have G__law_draw := ok__law_draw (P := P) (w := w) (base := base) T
  refine ok_of (k := 2) T.f__law_of sc__law_of (fun _ _ _ _ _ _ us hl => match us, hl with | [_, _], _ => rfl) (fun vs H Q E h => ?_) (fun cdv A outer s H vs Q E hr h => ?_)
  · obtain ⟨du, g, c, a, B, us, rfl, _⟩ := h
    rfl
  · obtain ⟨du, g, c, a, B, us, rfl, hm, ha, hna, hB, h1, h2, q⟩ := h
    refine ⟨_, (pss_one (ps_ret (pe_ix ix_list (pv 1) (pe_callD G__law_draw (hr.mono (by decide)) (pa_cons (pv 0) (pa_cons (pe_callB call_len_seq (by rfl) T.z_len bt_len (pa_cons (pv 1) pa_nil)) pa_nil))) (fun _ _ => rfl)))), ?_⟩
    refine ⟨_, rfl, _, rfl, _, rfl, a, us, rfl, .inl (SqL.of ha), du, g, c, B, us.length, rfl, hm, hB, h1, h2, fun H' r b m hr => ?_⟩
    have hv : us[r]? = some us[r] := List.getElem?_eq_getElem hr
    exact ⟨a, us, _, _, rfl, rfl, SqL.of (b _ _ hna ha), atI_nat (j := r) hv, q _ r _ b m hv⟩
def sp__law_shuffled : Sp := fun vs H Q _ => ∃ (du g c : Addr) (B n : Nat), vs = [.ref du, vN n] ∧ Mach du g c B H ∧ B + n ≤ 1000000 ∧ n ≤ 24 ∧ ∀ (H' : Hp) (v : V) (L : List Nat), Bar [du, g] H H' → Mach du g c (B + n) H' → TD H' v (eT eNat L) → L.Perm (List.range n) → Q v H'
theorem ok__law_shuffled (T : TX K mg) : Ok P w K mg base 3 "_law_shuffled" ["_law_m", "_law_many"] sp__law_shuffled := by
  have G__law_draw := ok__law_draw (P := P) (w := w) (base := base) T
  refine ok_of (k := 2) T.f__law_shuffled sc__law_shuffled (fun _ _ _ _ _ _ us hl => match us, hl with | [_, _], _ => rfl) (fun vs H Q E h => ?_) (fun cdv A outer s H vs Q E hr h => ?_)
  · obtain ⟨du, g, c, B, n, rfl, _⟩ := h
    rfl
  · obtain ⟨du, g, c, B, n, rfl, hm, hB, hn, q⟩ := h
    refine ⟨_, (pss_cons (ps_par (i := 2) (j := 3) (by rfl) sc__law_shuffled.nd rfl rfl (by decide) rfl rfl (pa_cons (pe_listRg rfl rfl T.z_list (prg_1 rfl T.z_range (pv 1))) (pa_cons (pe_tup pa_nil) pa_nil)) (by rfl))
      (pss_cons (ps_while PassesOwn.never (pt_cmpR (op_neLE enc_nat (by decide) (hu64 hr)) (pv 2) (pe_lst pa_nil) (nomark _)) (pss_one (ps_set (i := 3) sc__law_shuffled.nd rfl (Or.inl rfl) (pe_op op_catA (pv 3) (pe_tup (pa_cons (pe_bm PySem.F.plainAttrs_list PySem.F.slot_list_pop PySem.F.type_list_pop mt_popAt (pv 2) (pa_cons (pe_callD G__law_draw (hr.mono (by decide)) (pa_cons (pv 0) (pa_cons (pe_callB call_len_seq (by rfl) T.z_len bt_len (pa_cons (pv 2) pa_nil)) pa_nil))) pa_nil)) pa_nil))))))
      (pss_one (ps_ret (pv 3))))), ?_⟩
    refine ⟨_, rfl, n, rfl, RgOk.of_le (by omega) (by omega) (by omega) (by omega), fun l hl => ?_⟩
    rw [rgV0]
    have s1 := same_upd (o := .lst ((List.range n).map vN)) hl
    have hl0 := hm.new hl
    have hl3 := hm.new3 hl
    refine ⟨Nat.zero_le _, fun t ht => ⟨_, _, rfl, ?_⟩⟩
    have s2 := s1.trans (same_upd (o := .tup []) ht)
    have hlt := (same_upd (o := .tup []) ht) l _ upd_same
    refine ⟨fun k σ H' => ∃ (rem L : List Nat) (t' : Addr), k = rem.length ∧ σ = [some (.ref du), some (vN n), some (.ref l), some (.ref t')] ∧ Bar [du, g] H H' ∧ Mach du g c (B + (n - rem.length)) H' ∧ H' l = some (.lst (rem.map vN)) ∧ H' t' = some (.tup (L.map vN)) ∧ (L ++ rem).Perm (List.range n),
      ⟨_, List.range n, [], t, rfl, rfl, Bar.of s2, (hm.by s2).mono (by omega), hlt, upd_same, List.Perm.refl _⟩, fun k σ H' p => ?_⟩
    obtain ⟨rem, L, t', rfl, rfl, br, mc, hl', ht', pm⟩ := p
    have hlen : L.length + rem.length = n := by
      have := pm.length_eq
      rw [List.length_append, List.length_range] at this
      exact this
    refine ⟨_, rfl, Nat.zero_le _, fun p0 hp0 => ?_⟩
    have s3 := same_upd (o := .lst []) hp0
    refine ⟨l, p0, _, _, rem, [], rfl, rfl, SqL.of (s3 _ _ hl'), SqL.of upd_same, tds_nats rem, .nil, !decide (rem = []), by simp, _, rfl, ?_⟩
    have br3 := br.trans (Bar.of s3)
    have mc3 := mc.by s3
    have hl3' := s3 _ _ hl'
    have ht3' := s3 _ _ ht'
    generalize upd H' p0 (.lst []) = H3 at *
    refine ite2 (fun e => ?_) (fun e => ?_)
    · have hr0 : 1 ≤ rem.length := by
        cases rem with
        | nil => simp at e
        | cons _ _ => simp
      refine ⟨fun σ' H'' => ∃ m, m < rem.length ∧ _, fun _ _ z => z, ?_⟩
      refine ⟨_, rfl, _, rfl, .inl ⟨rfl, _, SqL.of hl3'⟩, _, rfl, _, rfl, l, _, rfl, .inl (SqL.of hl3'), ?_⟩
      rw [List.length_map]
      refine ⟨du, g, c, _, rem.length, rfl, mc3, by omega, hr0, by omega, fun H4 r b4 m4 hr4 => ?_⟩
      have hx : rem[r]? = some rem[r] := List.getElem?_eq_getElem hr4
      have hx2 : (rem.map vN)[r]? = some (vN rem[r]) := by rw [List.getElem?_map, hx]; rfl
      have hl4 := b4 _ _ hl0 hl3'
      have ht4 := mc3.keep b4 ht3'
      refine ⟨l, _, (r : Int), r, vN rem[r], rfl, rfl, hl4, by omega, by omega, by rw [List.length_map]; exact seq_nat hr4, hx2, ?_⟩
      rw [eraseIdx_map]
      have tl : l ≠ t' := fun z => by
        subst z
        rw [hl4] at ht4
        cases ht4
      have m5 := m4.put (o := .lst ((rem.eraseIdx r).map vN)) hl3
      have h5t : upd H4 l (.lst ((rem.eraseIdx r).map vN)) t' = some (.tup (L.map vN)) := (upd_ne (Ne.symm tl)).trans ht4
      have h5l : upd H4 l (.lst ((rem.eraseIdx r).map vN)) l = some (.lst ((rem.eraseIdx r).map vN)) := upd_same
      have hnew : H l = none := hl
      have b5 : Bar [du, g] H (upd H4 l (.lst ((rem.eraseIdx r).map vN))) := fun a o na ea => by
        have : a ≠ l := ne_of_none ea hnew
        rw [upd_ne this]
        exact b4 _ _ na (br3 _ _ na ea)
      generalize upd H4 l (.lst ((rem.eraseIdx r).map vN)) = H5 at *
      refine ⟨by show 1 ≤ sizeLine; decide, fun p1 hp1 => ?_⟩
      have s6 := same_upd (o := .tup [vN rem[r]]) hp1
      have hlr : (rem.eraseIdx r).length = rem.length - 1 := by rw [List.length_eraseIdx_of_lt hr4]
      have pm2 : ((L ++ [rem[r]]) ++ rem.eraseIdx r).Perm (List.range n) := by
        rw [List.append_assoc]
        exact (List.Perm.append_left L (erase_perm hx)).trans pm
      have fin : ∀ (H6 : Hp) (t6 : Addr), Same H5 H6 → H6 t6 = some (.tup ((L ++ [rem[r]]).map vN)) → ∃ m, m < rem.length ∧ ∃ (rem' L' : List Nat) (t' : Addr), m = rem'.length ∧ [some (.ref du), some (vN n), some (.ref l), some (.ref t6)] = [some (.ref du), some (vN n), some (.ref l), some (V.ref t')] ∧ Bar [du, g] H H6 ∧ Mach du g c (B + (n - rem'.length)) H6 ∧ H6 l = some (.lst (rem'.map vN)) ∧ H6 t' = some (.tup (L'.map vN)) ∧ (L' ++ rem').Perm (List.range n) :=
        fun H6 t6 ss ht6 => ⟨(rem.eraseIdx r).length, by omega, rem.eraseIdx r, L ++ [rem[r]], t6, rfl, rfl, b5.trans (Bar.of ss), (m5.by ss).mono (by omega), ss _ _ h5l, ht6, pm2⟩
      refine ⟨t', p1, _, _, rfl, rfl, SqT.of (s6 _ _ h5t), SqT.of upd_same, ?_, fun hnil => ?_, fun _ hz => (nomatch hz), fun _ _ p2 hp2 => ?_⟩
      · rw [List.length_map, sizeLine_eq]
        show L.length + 1 ≤ _
        omega
      · have hL0 : L = [] := List.map_eq_nil_iff.mp hnil
        subst hL0
        exact fin _ p1 s6 upd_same
      · refine fin _ p2 (s6.trans (same_upd hp2)) ?_
        rw [upd_same, List.map_append]
        rfl
    · have hr0 : rem = [] := by
        cases rem with
        | nil => rfl
        | cons _ _ => exact absurd (by simp) e
      subst hr0
      rw [List.append_nil] at pm
      refine ⟨_, rfl, q _ _ L br3 (mc3.mono (by omega)) (.tup ht3' (tds_nats L)) pm⟩
end
end DC
end

section
set_option Elab.async false
set_option linter.all false
set_option maxRecDepth 100000
set_option maxHeartbeats 4000000
namespace DC
open PySem PySem.Spec PyProof.Rows L2
/-! ### a drawn lay -/
def LayInv (m : Nat) (rem : List Nat) (J : List Jt) : Prop := (∀ j ∈ J, j.1 < j.2 ∧ j.2 < m) ∧ (ends J ++ rem).Nodup ∧ (J.Pairwise fun a b => a.1 < b.1) ∧ (rem.Pairwise fun a b => a < b) ∧ (∀ j ∈ J, ∀ x ∈ rem, j.1 < x) ∧ (∀ x ∈ rem, x < m) ∧ J.length + rem.length ≤ m
theorem LayInv.start (m : Nat) : LayInv m (List.range m) [] := ⟨fun _ h => (nomatch h), List.nodup_range, .nil, List.pairwise_lt_range, fun _ h => (nomatch h), fun _ h => List.mem_range.mp h, by simp⟩
theorem LayInv.skip {m e : Nat} {rem : List Nat} {J : List Jt} (h : LayInv m (e :: rem) J) : LayInv m rem J := by
  obtain ⟨h1, h2, h3, h4, h5, h6, h7⟩ := h
  refine ⟨h1, ?_, h3, (List.pairwise_cons.mp h4).2, fun j hj x hx => h5 j hj x (List.mem_cons_of_mem _ hx), fun x hx => h6 x (List.mem_cons_of_mem _ hx), by simp at h7; omega⟩
  obtain ⟨n1, n2, n3⟩ := List.nodup_append.mp h2
  exact List.nodup_append.mpr ⟨n1, (List.nodup_cons.mp n2).2, fun a ha b hb => n3 a ha b (List.mem_cons_of_mem _ hb)⟩
theorem LayInv.join {m e x k : Nat} {rem : List Nat} {J : List Jt} (h : LayInv m (e :: rem) J) (hk : rem[k]? = some x) : LayInv m (rem.eraseIdx k) (J ++ [(e, x)]) := by
  obtain ⟨h1, h2, h3, h4, h5, h6, h7⟩ := h
  have pm := erase_perm hk
  have hx : x ∈ rem := List.mem_of_getElem? hk
  have hex := (List.pairwise_cons.mp h4).1 x hx
  have hkl : k < rem.length := (List.getElem?_eq_some_iff.mp hk).1
  have hsub : ∀ z ∈ rem.eraseIdx k, z ∈ rem := fun z hz => pm.mem_iff.mp (List.mem_cons_of_mem _ hz)
  refine ⟨fun j hj => ?_, ?_, ?_, ?_, fun j hj z hz => ?_, fun z hz => h6 z (List.mem_cons_of_mem _ (hsub z hz)), ?_⟩
  · rcases List.mem_append.mp hj with hj | hj
    · exact h1 j hj
    · rw [List.mem_singleton] at hj
      subst hj
      exact ⟨hex, h6 x (List.mem_cons_of_mem _ hx)⟩
  · rw [ends_app]
    have p2 : (ends J ++ ends [(e, x)] ++ rem.eraseIdx k).Perm (ends J ++ (e :: rem)) := by
      rw [List.append_assoc]
      refine List.Perm.append_left _ ?_
      exact List.Perm.cons e pm
    exact p2.nodup_iff.mpr h2
  · refine List.pairwise_append.mpr ⟨h3, List.pairwise_singleton _ _, fun a ha b hb => ?_⟩
    rw [List.mem_singleton] at hb
    subst hb
    exact h5 a ha e List.mem_cons_self
  · exact (List.pairwise_cons.mp h4).2.sublist (List.eraseIdx_sublist rem k)
  · rcases List.mem_append.mp hj with hj | hj
    · exact h5 j hj z (List.mem_cons_of_mem _ (hsub z hz))
    · rw [List.mem_singleton] at hj
      subst hj
      exact (List.pairwise_cons.mp h4).1 z (hsub z hz)
  · rw [List.length_append, List.length_singleton, List.length_eraseIdx_of_lt hkl]
    rw [List.length_cons] at h7
    omega
theorem LayInv.good {n : Nat} {rem : List Nat} {J : List Jt} (h : LayInv (2 * n) rem J) (h1 : 1 ≤ n) (h2 : n ≤ 12) : GoodL (n, J) := ⟨h1, h2, ⟨h.1, (List.nodup_append.mp h.2.1).1, h.2.2.1⟩⟩
section
variable {P : Program} {w : World} {K : PySem.W.Frag} {mg : Str → Option Value} {base : Heap}
def sp__law_lay : Sp := fun vs H Q _ => ∃ (du g c : Addr) (B n : Nat), vs = [.ref du, vN n] ∧ Mach du g c B H ∧ B + 50 ≤ 1000000 ∧ 1 ≤ n ∧ n ≤ 12 ∧ ∀ (H' : Hp) (v : V) (l : Lay), Bar [du, g] H H' → Mach du g c (B + 50) H' → TD H' v (eL l) → GoodL l → l.1 = n → Q v H'
theorem ok__law_lay (T : TX K mg) : Ok P w K mg base 3 "_law_lay" ["_law_m", "_law_many"] sp__law_lay := by
  have G__law_draw := ok__law_draw (P := P) (w := w) (base := base) T
  refine ok_of (k := 2) T.f__law_lay sc__law_lay (fun _ _ _ _ _ _ us hl => match us, hl with | [_, _], _ => rfl) (fun vs H Q E h => ?_) (fun cdv A outer s H vs Q E hr h => ?_)
  · obtain ⟨du, g, c, B, n, rfl, _⟩ := h
    rfl
  · obtain ⟨du, g, c, B, n, rfl, hm, hB, hn1, hn, q⟩ := h
    refine ⟨_, (pss_cons (ps_par (i := 2) (j := 3) (by rfl) sc__law_lay.nd rfl rfl (by decide) rfl rfl (pa_cons (pe_listRg rfl rfl T.z_list (prg_1 rfl T.z_range (pe_op op_mul pe_int (pv 1)))) (pa_cons (pe_lst pa_nil) pa_nil)) (by rfl))
      (pss_cons (ps_while PassesOwn.never (pt_cmpR op_gt (pe_callB call_len_seq (by rfl) T.z_len bt_len (pa_cons (pv 2) pa_nil)) pe_int (nomark _)) (pss_cons (ps_set (i := 4) sc__law_lay.nd rfl (Or.inl rfl) (pe_bm PySem.F.plainAttrs_list PySem.F.slot_list_pop PySem.F.type_list_pop mt_popAt (pv 2) (pa_cons pe_int pa_nil)))
      (pss_one (ps_if (pt_cmpR op_gt (pe_callD G__law_draw (hr.mono (by decide)) (pa_cons (pv 0) (pa_cons pe_int pa_nil))) pe_int (nomark _)) (pss_one (ps_expr (pe_bm PySem.F.plainAttrs_list PySem.F.slot_list_append PySem.F.type_list_append mt_append (pv 3) (pa_cons (pe_tup (pa_cons (pv 4) (pa_cons (pe_bm PySem.F.plainAttrs_list PySem.F.slot_list_pop PySem.F.type_list_pop mt_popAt (pv 2) (pa_cons (pe_callD G__law_draw (hr.mono (by decide)) (pa_cons (pv 0) (pa_cons (pe_callB call_len_seq (by rfl) T.z_len bt_len (pa_cons (pv 2) pa_nil)) pa_nil))) pa_nil)) pa_nil))) pa_nil)))) pss_nil))))
      (pss_one (ps_ret (pe_tup (pa_cons (pv 1) (pa_cons (pe_callTy call_tuple_of (by rfl) T.z_tuple bt_tuple (pa_cons (pv 3) pa_nil)) pa_nil))))))), ?_⟩
    refine ⟨_, rfl, (2 : Int), _, rfl, rfl, .inl ⟨by decide, by decide⟩, _, rfl, RgOk.of_le (by omega) (by omega) (by omega) (by omega), fun l hl => ?_⟩
    have e2n : (2 * (n : Int)) = ((2 * n : Nat) : Int) := by omega
    rw [e2n, rgV0]
    have s1 := same_upd (o := .lst ((List.range (2 * n)).map vN)) hl
    have hl0 := hm.new hl
    have hl3 := hm.new3 hl
    refine ⟨Nat.zero_le _, fun f hf => ⟨_, _, rfl, ?_⟩⟩
    have s2 := s1.trans (same_upd (o := .lst []) hf)
    have hf0 := (hm.by s1).new hf
    have hf3 := (hm.by s1).new3 hf
    have hfl := (same_upd (o := .lst []) hf) l _ upd_same
    have hfH : H f = none := s1.free hf
    have nlf : l ≠ f := fun z => by
      subst z
      rw [upd_same] at hf
      cases hf
    refine ⟨fun k σ H' => ∃ (rem : List Nat) (J : List Jt) (ys : List V) (y4 : Option V), k = rem.length ∧ σ = [some (.ref du), some (vN n), some (.ref l), some (.ref f), y4] ∧ Bar [du, g] H H' ∧ Mach du g c (B + 2 * (2 * n - rem.length)) H' ∧ H' l = some (.lst (rem.map vN)) ∧ H' f = some (.lst ys) ∧ TDs H' ys (J.map eJ) ∧ LayInv (2 * n) rem J,
      ⟨_, List.range (2 * n), [], [], none, rfl, rfl, Bar.of s2, (hm.by s2).mono (by omega), hfl, upd_same, .nil, LayInv.start _⟩, fun k σ H' p => ?_⟩
    obtain ⟨rem, J, ys, y4, rfl, rfl, br, mc, hl', hf', ty, inv⟩ := p
    have hcap := inv.2.2.2.2.2.2
    refine ⟨_, rfl, l, _, rfl, .inl (SqL.of hl'), _, _, rfl, rfl, _, rfl, ?_⟩
    refine ite2 (fun e => ?_) (fun e => ?_)
    · have h2 : 2 ≤ rem.length := by
        have := of_decide_eq_true e
        rw [List.length_map] at this
        omega
      obtain ⟨a, rem, rfl⟩ : ∃ a r, rem = a :: r := by
        cases rem with
        | nil => simp at h2
        | cons a r => exact ⟨a, r, rfl⟩
      rw [List.length_cons] at h2 hcap
      refine ⟨fun σ' H'' => ∃ m, m < (a :: rem).length ∧ _, fun _ _ z => z, ?_⟩
      refine ⟨_, rfl, .inl ⟨rfl, _, SqL.of hl'⟩, l, _, 0, 0, vN a, rfl, rfl, hl', by decide, by decide, seq_nat (n := ((a :: rem).map vN).length) (r := 0) (by simp), rfl, ?_⟩
      have er : (((a :: rem).map vN).eraseIdx 0) = rem.map vN := rfl
      rw [er]
      have m3 := mc.put (o := .lst (rem.map vN)) hl3
      have h3f : upd H' l (.lst (rem.map vN)) f = some (.lst ys) := (upd_ne (Ne.symm nlf)).trans hf'
      have h3l : upd H' l (.lst (rem.map vN)) l = some (.lst (rem.map vN)) := upd_same
      have ty3 : TDs (upd H' l (.lst (rem.map vN))) ys (J.map eJ) := ty.to (tupS_lst hl')
      have hnew : H l = none := hl
      have b3 : Bar [du, g] H (upd H' l (.lst (rem.map vN))) := fun a o na ea => by
        have : a ≠ l := ne_of_none ea hnew
        rw [upd_ne this]
        exact br _ _ na ea
      generalize upd H' l (.lst (rem.map vN)) = H3 at *
      refine ⟨_, rfl, du, g, c, _, 4, rfl, m3, ?_, by decide, by decide, fun H4 r b4 m4 hr4 => ?_⟩
      · rw [List.length_cons]
        omega
      have h4l := b4 _ _ hl0 h3l
      have h4f := b4 _ _ hf0 h3f
      have ty4 := ty3.to (m3.tup b4)
      have b34 := b3.trans b4
      refine ⟨_, _, rfl, rfl, _, rfl, ?_⟩
      refine ite2 (fun e1 => ?_) (fun e1 => ?_)
      · refine ⟨_, rfl, .inl ⟨rfl, _, SqL.of h4f⟩, _, rfl, ?_⟩
        refine ⟨_, rfl, .inl ⟨rfl, _, SqL.of h4l⟩, _, rfl, _, rfl, l, _, rfl, .inl (SqL.of h4l), ?_⟩
        rw [List.length_map]
        refine ⟨du, g, c, _, rem.length, rfl, m4, ?_, by omega, by omega, fun H5 r5 b5 m5 hr5 => ?_⟩
        · rw [List.length_cons]
          omega
        have hx : rem[r5]? = some rem[r5] := List.getElem?_eq_getElem hr5
        have hx2 : (rem.map vN)[r5]? = some (vN rem[r5]) := by rw [List.getElem?_map, hx]; rfl
        have h5l := b5 _ _ hl0 h4l
        have h5f := b5 _ _ hf0 h4f
        have ty5 := ty4.to (m4.tup b5)
        refine ⟨l, _, (r5 : Int), r5, vN rem[r5], rfl, rfl, h5l, by omega, by omega, by rw [List.length_map]; exact seq_nat hr5, hx2, ?_⟩
        rw [eraseIdx_map]
        have m6 := m5.put (o := .lst ((rem.eraseIdx r5).map vN)) hl3
        have h6f : upd H5 l (.lst ((rem.eraseIdx r5).map vN)) f = some (.lst ys) := (upd_ne (Ne.symm nlf)).trans h5f
        have h6l : upd H5 l (.lst ((rem.eraseIdx r5).map vN)) l = some (.lst ((rem.eraseIdx r5).map vN)) := upd_same
        have ty6 : TDs (upd H5 l (.lst ((rem.eraseIdx r5).map vN))) ys (J.map eJ) := ty5.to (tupS_lst h5l)
        have b6 : Bar [du, g] H (upd H5 l (.lst ((rem.eraseIdx r5).map vN))) := fun a o na ea => by
          have : a ≠ l := ne_of_none ea hnew
          rw [upd_ne this]
          exact b5 _ _ na (b34 _ _ na ea)
        generalize upd H5 l (.lst ((rem.eraseIdx r5).map vN)) = H6 at *
        refine ⟨by show 2 ≤ sizeLine; decide, fun p1 hp1 => ?_⟩
        have s7 := same_upd (o := .tup [vN a, vN rem[r5]]) hp1
        have hly := ty6.len
        rw [List.length_map] at hly
        refine ⟨f, _, _, rfl, rfl, s7 _ _ h6f, small1000 (by omega), ?_⟩
        have hlr : (rem.eraseIdx r5).length = rem.length - 1 := by rw [List.length_eraseIdx_of_lt hr5]
        have tf := tupS_lst (o := .lst (ys ++ [V.ref p1])) (s7 _ _ h6f)
        refine ⟨(rem.eraseIdx r5).length, by rw [List.length_cons]; omega, rem.eraseIdx r5, J ++ [(a, rem[r5])], ys ++ [.ref p1], _, rfl, rfl, ?_, ((m6.by s7).put hf3).mono (by rw [List.length_cons]; omega), ?_, upd_same, ?_, inv.join hx⟩
        · intro x o nx ex
          have : x ≠ f := ne_of_none ex hfH
          rw [upd_ne this]
          exact s7 _ _ (b6 _ _ nx ex)
        · rw [upd_ne nlf]
          exact s7 _ _ h6l
        · rw [List.map_append]
          refine ((ty6.by s7).snoc ?_).to tf
          exact TD.jM upd_same
      · exact ⟨rem.length, by simp, rem, J, ys, _, rfl, rfl, b34, m4.mono (by rw [List.length_cons]; omega), h4l, h4f, ty4, inv.skip⟩
    · refine ⟨_, rfl, _, rfl, f, ys, rfl, .inl ⟨SqL.of hf', fun t ht => ?_⟩⟩
      refine ⟨by show 2 ≤ sizeLine; decide, fun r hr' => ?_⟩
      have s3 := same_upd (o := .tup ys) ht
      have s4 := same_upd (o := .tup [vN n, V.ref t]) hr'
      exact q _ _ (n, J) (br.trans (Bar.of (s3.trans s4))) (((mc.by s3).by s4).mono (by omega)) (TD.lM upd_same (s4 _ _ upd_same) (ty.by (s3.trans s4))) (inv.good hn1 hn) rfl
end
end DC
end

section
set_option Elab.async false
set_option linter.all false
set_option maxRecDepth 100000
set_option maxHeartbeats 4000000
namespace DC
open PySem PySem.Spec PyProof.Rows L2
/-! ### the law's own steps -/
def turnP (F : List Nat) (J : List Jt) (i : Nat) : List Stp := match J[i]? with
  | none => []
  | some a => ([a], []) :: (F.flatMap fun z => [([a], [jt a.1 z]), ([a], [jt a.2 z])]) ++ (J.drop (i + 1)).flatMap (doublesL a)
theorem zip_perm {α β : Type} (f g : α → β) : ∀ l : List α, (l.flatMap fun z => [f z, g z]).Perm (l.map f ++ l.map g)
  | [] => List.Perm.refl _
  | a :: l => by
    rw [List.flatMap_cons, List.map_cons, List.map_cons, List.cons_append]
    refine List.Perm.cons _ ?_
    refine (List.Perm.cons _ (zip_perm f g l)).trans ?_
    exact List.perm_middle.symm
theorem turnP_perm (F : List Nat) (J : List Jt) (i : Nat) : (turnP F J i).Perm (turnJ F J i) := by
  unfold turnP turnJ
  cases J[i]? with
  | none => exact List.Perm.refl _
  | some a =>
    refine List.Perm.append_right _ ?_
    show (([a], []) :: _).Perm _
    unfold cutsL
    rw [List.cons_append]
    exact List.Perm.cons _ (zip_perm _ _ F)
theorem flat_perm {α β : Type} {f g : α → List β} (h : ∀ a, (f a).Perm (g a)) : ∀ l : List α, (l.flatMap f).Perm (l.flatMap g)
  | [] => List.Perm.refl _
  | a :: l => by
    rw [List.flatMap_cons, List.flatMap_cons]
    exact (h a).append (flat_perm h l)
theorem turnP_len (F : List Nat) (J : List Jt) (i : Nat) : (turnP F J i).length ≤ 1 + 2 * F.length + 2 * J.length := by
  rw [(turnP_perm F J i).length_eq]
  exact turnJ_len F J i
section
variable {P : Program} {w : World} {K : PySem.W.Frag} {mg : Str → Option Value} {base : Heap}
def sp__law_pair : Sp := sp_joint_of
theorem ok__law_pair (T : TX K mg) : Ok P w K mg base 1 "_law_pair" ["_law_one", "_law_other"] sp__law_pair := by
  refine ok_of (k := 0) T.f__law_pair sc__law_pair (fun _ _ _ _ _ _ us hl => match us, hl with | [_, _], _ => rfl) (fun vs H Q E h => ?_) (fun cdv A outer s H vs Q E hr h => ?_)
  · obtain ⟨a, b, rfl, _⟩ := h
    rfl
  · obtain ⟨a, b, rfl, q⟩ := h
    refine ⟨_, (pss_one (ps_ret (pe_tup (pa_cons (pe_callB (call_min2 rfl) (by rfl) T.z_min bt_min (pa_cons (pv 0) (pa_cons (pv 1) pa_nil))) (pa_cons (pe_callB (call_max2 rfl) (by rfl) T.z_max bt_max (pa_cons (pv 0) (pa_cons (pv 1) pa_nil))) pa_nil))))), ?_⟩
    refine ⟨_, rfl, _, rfl, _, _, rfl, _, rfl, _, rfl, _, _, rfl, by show 2 ≤ sizeLine; decide, fun p hp => ?_⟩
    refine q _ _ (same_upd hp) ?_
    have e : [V.int (if (b : Int) < (a : Int) then (b : Int) else (a : Int)), V.int (if (b : Int) > (a : Int) then (b : Int) else (a : Int))] = [V.int ((jt a b).1 : Int), V.int ((jt a b).2 : Int)] := by
      unfold jt
      by_cases h : a < b
      · rw [if_pos h, if_neg (by omega), if_pos (by omega)]
      · rw [if_neg h]
        by_cases h2 : b < a
        · rw [if_pos (by omega), if_neg (by omega)]
        · have : a = b := by omega
          subst this
          rw [if_neg (by omega)]
    refine TD.jM (i := (jt a b).1) (j := (jt a b).2) ?_
    rw [upd_same]
    exact congrArg (fun l => some (HO.tup l)) e
def sp__law_mates : Sp := sp_mates_in
theorem ok__law_mates (T : TX K mg) : Ok P w K mg base 1 "_law_mates" ["_law_lay_here"] sp__law_mates := by
  refine ok_of (k := 0) T.f__law_mates sc__law_mates (fun _ _ _ _ _ _ us hl => match us, hl with | [_], _ => rfl) (fun vs H Q E h => ?_) (fun cdv A outer s H vs Q E hr h => ?_)
  · obtain ⟨v, l, rfl, _⟩ := h
    rfl
  · obtain ⟨v, l, rfl, tl, g, q⟩ := h
    obtain ⟨a, b, xs, rfl, ha, hb, hx⟩ := tl.lI
    have hlx : xs.length = l.2.length := by
      have := hx.len
      rw [List.length_map] at this
      exact this
    have hl24 := g.links
    refine ⟨_, (pss_cons (ps_set (i := 1) sc__law_mates.nd rfl (Or.inl rfl) (pe_op op_rep (pe_lst (pa_cons pe_non pa_nil)) (pe_op op_mul pe_int (pe_ix ix_tup (pv 0) pe_int (fun _ _ => rfl)))))
      (pss_cons (ps_for PassesOwn.never rfl (pi_tup (pe_ix ix_tup (pv 0) pe_int (fun _ _ => rfl))) (pg_tup (by rfl) (pgs_cons (pg_name (i := 2) sc__law_mates.nd rfl (Or.inl rfl)) (pgs_cons (pg_name (i := 3) sc__law_mates.nd rfl (Or.inl rfl)) pgs_nil))) (pss_one (ps_asg (pe_tup (pa_cons (pv 3) (pa_cons (pv 2) pa_nil))) (pg_tup (by rfl) (pgs_cons (pg_sub (pv 1) (pv 2) set_list) (pgs_cons (pg_sub (pv 1) (pv 3) set_list) pgs_nil))))))
      (pss_one (ps_ret (pv 1))))), ?_⟩
    refine ⟨by show 1 ≤ sizeLine; decide, fun p0 hp0 => ?_⟩
    have s0 : Same H (upd H p0 (.lst [V.non])) := same_upd hp0
    refine ⟨_, rfl, a, _, _, _, rfl, rfl, SqT.of (s0 _ _ ha), atI_nat (j := 0) rfl, (2 : Int), _, rfl, rfl, .inl ⟨by decide, by decide⟩, ?_⟩
    refine ⟨p0, _, _, rfl, rfl, upd_same, by omega, by omega, ?_, fun p hp => ?_⟩
    · refine Nat.le_of_lt (small1000 ?_)
      show 1 * (2 * (l.1 : Int)).toNat ≤ 1000
      omega
    have hpH : H p = none := s0.free hp
    refine ⟨_, rfl, a, _, _, _, rfl, rfl, SqT.of (s0.trans (same_upd hp) _ _ ha), atI_nat (j := 1) rfl, b, rfl, ⟨xs, SqT.of (s0.trans (same_upd hp) _ _ hb)⟩, ?_⟩
    refine for_tup (K := K) (a := b) (xs := xs) (fun i σ H' => ∃ y2 y3 : Option V, σ = [some (.ref a), some (.ref p), y2, y3] ∧ Same H H' ∧ H' p = some (.lst (((l.2.take i).foldl putM (List.replicate (2 * l.1) none)).map oV)))
      ⟨none, none, rfl, ?_, ?_⟩ (fun i σ H' _ p => ?_) (fun i x σ H' hi p => ?_) (fun σ H' p => ?_)
    · refine samePut s0 hpH
    · rw [upd_same]
      have e1 : (2 * (l.1 : Int)).toNat = 2 * l.1 := by omega
      rw [e1, List.flatten_replicate_singleton, List.take_zero, List.foldl_nil, List.map_replicate]
      rfl
    · obtain ⟨_, _, _, s', _⟩ := p
      exact SqT.of (s' _ _ hb)
    · obtain ⟨y2, y3, rfl, s', hp'⟩ := p
      obtain ⟨d, hd1, hd2⟩ := (hx.by s').get hi
      rw [List.getElem?_map] at hd1
      cases hj : l.2[i]? with
      | none => rw [hj] at hd1; cases hd1
      | some j =>
        rw [hj] at hd1
        have : eJ j = d := Option.some.inj hd1
        subst this
        obtain ⟨c, rfl, hc⟩ := hd2.jI
        have hjl := g.j.lt j (List.mem_of_getElem? hj)
        have hlen : (((l.2.take i).foldl putM (List.replicate (2 * l.1) none)).map oV).length = 2 * l.1 := by rw [List.length_map, foldM_len, List.length_replicate]
        refine ⟨c, _, rfl, SqT.of hc, rfl, _, _, rfl, _, _, rfl, rfl, ?_⟩
        refine ⟨_, rfl, _, rfl, by show 2 ≤ sizeLine; decide, fun Tp nT => ?_⟩
        have sT := same_upd (o := .tup [vN j.2, vN j.1]) nT
        have hpT := sT _ _ hp'
        refine ⟨Tp, _, rfl, SqT.of upd_same, rfl, _, _, rfl, ?_⟩
        refine ⟨_, rfl, _, rfl, p, _, (j.1 : Int), j.1, rfl, rfl, hpT, ?_, ?_⟩
        · rw [hlen]
          exact ixN_nat (by omega)
        refine ⟨_, _, rfl, _, rfl, _, rfl, p, _, (j.2 : Int), j.2, rfl, rfl, upd_same, ?_, rfl, ?_⟩
        · rw [List.length_set, hlen]
          exact ixN_nat (by omega)
        refine ⟨_, _, rfl, samePut (samePut (s'.trans sT) hpH) hpH, ?_⟩
        rw [upd_same, List.take_add_one, hj, List.foldl_append]
        show some (HO.lst ((List.set _ j.1 (oV (some j.2))).set j.2 (oV (some j.1)))) = _
        rw [set_oV, set_oV]
        rfl
    · obtain ⟨_, _, rfl, s', hp'⟩ := p
      refine ⟨_, rfl, q _ _ s' hpH ?_⟩
      rw [hp']
      unfold matesL
      rw [hlx, List.take_length]
def sp__law_free : Sp := sp_free_in
theorem ok__law_free (T : TX K mg) : Ok P w K mg base 2 "_law_free" ["_law_lay_here"] sp__law_free := by
  have G__law_mates := ok__law_mates (P := P) (w := w) (base := base) T
  refine ok_of (k := 1) T.f__law_free sc__law_free (fun _ _ _ _ _ _ us hl => match us, hl with | [_], _ => rfl) (fun vs H Q E h => ?_) (fun cdv A outer s H vs Q E hr h => ?_)
  · obtain ⟨v, l, rfl, _⟩ := h
    rfl
  · obtain ⟨v, l, rfl, tl, g, q⟩ := h
    have hl24 := g.links
    refine ⟨_, (pss_one (ps_ret (pe_lc (own := [("_law_end", 1), ("_law_mate", 2)]) (g := (gTup K 2 (gCons (gName 1) (gCons (gName 2) gNil)))) (by rfl) sc__law_free.nd (pi_enum rfl T.z_enumerate (pa_cons (pe_callD G__law_mates (hr.mono (by decide)) (pa_cons (pv 0) pa_nil)) pa_nil)) (blkOk_by (own := [("_law_end", 1), ("_law_mate", 2)]) (N := N__law_free) (sc := defScope s__law_free) (by decide +kernel)) (fun _ _ _ _ _ => (pg_tup (by rfl) (pgs_cons (pg_name (i := 1) sc__law_free.nd rfl (Or.inl rfl)) (pgs_cons (pg_name (i := 2) sc__law_free.nd rfl (Or.inl rfl)) pgs_nil)))) (fun _ _ _ _ _ => pts_one (pt_cmpR op_isN (pv 2) pe_non (nomark _))) (fun _ _ _ _ _ => (pv 1))))), ?_⟩
    refine ⟨_, rfl, v, l, rfl, tl, g, fun H1 p s1 hp hp1 => ?_⟩
    refine ⟨p, _, rfl, SqL.of hp1, fun D hD => ?_⟩
    have hw : Walk (Ite K p) (matesL l).length (fun H => SqL K H p ((matesL l).map oV)) (YPair (fun i => some (.int (i : Nat))) (fun i => ((matesL l).map oV)[i]?)) := by
      have := walk_enum (K := K) (a := p) (xs := (matesL l).map oV)
      rw [List.length_map] at this
      exact this
    refine lc_fm hw eNat (fun i => if ((matesL l)[i]?).join.isNone then some i else none) hD (by rw [matesL_len]; exact small1000 (by omega)) (fun H s => SqL.of (s _ _ hp1)) (fun i x H2 H3 N M hi s y kN kM => ?_) (fun H2 ys s hy ht => ?_)
    · obtain ⟨Tp, x0, x1, rfl, nT, rfl, ex0, ex1⟩ := y
      cases ex0
      have ex1 : ((matesL l).map oV)[i]? = some x1 := ex1
      rw [List.getElem?_map, List.getElem?_eq_getElem hi] at ex1
      have e1 : x1 = oV (matesL l)[i] := (Option.some.inj ex1).symm
      subst e1
      have sT := same_upd (o := .tup [.int (i : Nat), oV (matesL l)[i]]) nT
      refine ⟨Tp, _, rfl, SqT.of upd_same, rfl, _, _, rfl, _, _, rfl, rfl, rfl, ?_⟩
      refine ⟨_, rfl, rfl, _, rfl, ?_⟩
      rw [oV_none]
      have ej : ((matesL l)[i]?).join = (matesL l)[i] := by
        rw [List.getElem?_eq_getElem hi]
        rfl
      rw [ej] at kN kM
      refine ite2 (fun e => ?_) (fun e => ?_)
      · exact ⟨_, rfl, kN _ _ i (if_pos e) sT (.int _)⟩
      · exact kM _ (if_neg e) sT
    · rw [freeL_fm] at ht
      rw [tds_nats_inv ht] at hy
      exact q _ _ (s1.trans s) (s1.free hD) hy
def sp__law_after : Sp := fun vs H Q _ => ∃ (v u : V) (l : Lay) (s : Stp), vs = [v, u] ∧ TD H v (eL l) ∧ TD H u (eS s) ∧ GoodL l ∧ s.2.length ≤ 100 ∧ ∀ H' r, Same H H' → TD H' r (eL (afterL l s)) → Q r H'
theorem ok__law_after (T : TX K mg) : Ok P w K mg base 1 "_law_after" ["_law_lay_here", "_law_step"] sp__law_after := by
  refine ok_of (k := 0) T.f__law_after sc__law_after (fun _ _ _ _ _ _ us hl => match us, hl with | [_, _], _ => rfl) (fun vs H Q E h => ?_) (fun cdv A outer s H vs Q E hr h => ?_)
  · obtain ⟨v, u, l, s, rfl, _⟩ := h
    rfl
  · obtain ⟨v, u, l, st, rfl, tl, ts, g, hs2, q⟩ := h
    obtain ⟨a, b, xs, rfl, ha, hb, hx⟩ := tl.lI
    obtain ⟨c, d, e, ys, zs, rfl, hc, hd, hy, he, hz⟩ := ts.sI
    have hl12 := g.len
    refine ⟨_, (pss_cons (ps_setLc (i := 2) (own := [("_law_joint", 3)]) (g := (gName 3)) (by rfl) sc__law_after.nd rfl rfl (sw_true rfl rfl rfl (by decide +kernel)) (pi_tup (pe_ix ix_tup (pv 0) pe_int (fun _ _ => rfl))) (blkOk_by (own := [("_law_joint", 3)]) (N := N__law_after) (sc := defScope s__law_after) (by decide +kernel)) (fun _ _ _ _ _ => (pg_name (i := 3) sc__law_after.nd rfl (Or.inl rfl))) (fun _ _ _ _ _ => pts_one (pt_cmpR (op_notInEK (K := K) enc_J (by decide) (hu65 hr) rfl) (pv 3) (pe_ix (ix_tupK (K := K) rfl) (pv 1) pe_int (fun _ _ => rfl)) (by rfl))) (fun _ _ _ _ _ => (pv 3)))
      (pss_one (ps_ret (pe_tup (pa_cons (pe_ix ix_tup (pv 0) pe_int (fun _ _ => rfl)) (pa_cons (pe_callTy call_tuple_of (by rfl) T.z_tuple bt_tuple (pa_cons (pe_callB (cr_sortedE enc_J (by decide) (hu64 hr)) (by rfl) T.z_sorted bt_sorted (pa_cons (pe_op op_cat (pv 2) (pe_callTy call_list_of (by rfl) T.z_list bt_list (pa_cons (pe_ix ix_tup (pv 1) pe_int (fun _ _ => rfl)) pa_nil))) pa_nil)) pa_nil)) pa_nil)))))), ?_⟩
    refine ⟨_, rfl, a, _, _, _, rfl, rfl, SqT.of ha, atI_nat (j := 1) rfl, b, rfl, ⟨_, SqT.of hb⟩, fun D hD => ?_⟩
    refine lc_src (walk_tup (K := K) (a := b)) eJ (fun j => if (!decide (j ∈ st.1)) = true then some j else none) hD (small1000 (by omega)) hx (fun H s => SqT.of (s _ _ hb)) (fun j x H' N M hj s tx kN kM => ?_) (fun H' ws s hw ht => ?_)
    · refine ⟨rfl, _, rfl, _, rfl, c, _, _, _, rfl, rfl, SqT.of (s _ _ hc), atI_nat (j := 0) rfl, ?_⟩
      refine ⟨d, ys, st.1, j, rfl, .inl (SqT.of (s _ _ hd)), hy.by s, tx, !decide (j ∈ st.1), by simp, _, rfl, ?_⟩
      refine ite2 (fun e => ?_) (fun e => ?_)
      · exact ⟨_, rfl, kN _ _ j (if_pos e) (Same.refl _) tx⟩
      · exact kM _ (if_neg e) (Same.refl _)
    · rw [fm_filter] at ht
      have hl1 := ht.len
      have hl2 := hz.len
      rw [List.length_map] at hl1 hl2
      have hf := List.length_filter_le (fun j => !decide (j ∈ st.1)) l.2
      refine ⟨_, rfl, a, _, _, _, rfl, rfl, SqT.of (s _ _ ha), atI_nat (j := 0) rfl, ?_⟩
      refine ⟨_, rfl, _, rfl, c, _, _, _, rfl, rfl, SqT.of (s _ _ hc), atI_nat (j := 1) rfl, e, zs, rfl, .inr (SqT.of (s _ _ he)), fun p hp => ?_⟩
      have sp := same_upd (o := .lst zs) hp
      refine ⟨D, p, _, _, rfl, rfl, sp _ _ hw, upd_same, Nat.le_of_lt (small1000 (by omega)), fun p2 hp2 => ?_⟩
      have sp2 := sp.trans (same_upd (o := .lst (ws ++ zs)) hp2)
      refine ⟨p2, _, l.2.filter (fun j => !decide (j ∈ st.1)) ++ st.2, rfl, SqL.of upd_same, ?_, srt_J _, fun us p3 hp3 tz => ?_⟩
      · rw [List.map_append]
        exact (ht.by sp2).app (hz.by (s.trans sp2))
      · rw [sortJ_data] at tz
        have sp3 := sp2.trans (same_upd (o := .lst us) hp3)
        refine ⟨p3, us, rfl, .inl ⟨SqL.of upd_same, fun t nt => ?_⟩⟩
        have s2 := same_upd (o := .tup us) nt
        refine ⟨by show 2 ≤ sizeLine; decide, fun r nr => ?_⟩
        have s3 := same_upd (o := .tup [vN l.1, V.ref t]) nr
        exact q _ _ (s.trans (sp3.trans (s2.trans s3))) (TD.lM upd_same (s3 _ _ upd_same) (tz.by ((same_upd hp3).trans (s2.trans s3))))
end
end DC
end

section
set_option Elab.async false
set_option linter.all false
set_option maxRecDepth 100000
set_option maxHeartbeats 4000000
namespace DC
open PySem PySem.Spec PyProof.Rows L2
/-- the list is one of those made behind H0 -/
theorem Fnd.cat {H0 H : Hp} {f p : Addr} {ds es : List PyData} {ys zs : List V} (h : Fnd H0 f ds H) (hy : H f = some (.lst ys)) (t : TDs H zs es) (hp : H p = none) : Fnd H0 p (ds ++ es) (upd H p (.lst (ys ++ zs))) := by
  obtain ⟨h1, h2, ws, h3, h4⟩ := h
  rw [hy] at h3
  cases h3
  exact ⟨h1.trans (same_upd hp), h1.free hp, _, upd_same, (h4.app t).by (same_upd hp)⟩
def zipP (a : Jt) (F : List Nat) : List Stp := F.flatMap fun z => [([a], [jt a.1 z]), ([a], [jt a.2 z])]
section
variable {P : Program} {w : World} {K : PySem.W.Frag} {mg : Str → Option Value} {base : Heap}
def sp__law_steps : Sp := sp_steps_in
theorem ok__law_steps (T : TX K mg) : Ok P w K mg base 3 "_law_steps" ["_law_lay_here"] sp__law_steps := by
  have G__law_free := ok__law_free (P := P) (w := w) (base := base) T
  have G__law_pair := ok__law_pair (P := P) (w := w) (base := base) T
  refine ok_of (k := 2) T.f__law_steps sc__law_steps (fun _ _ _ _ _ _ us hl => match us, hl with | [_], _ => rfl) (fun vs H Q E h => ?_) (fun cdv A outer s H vs Q E hr h => ?_)
  · obtain ⟨v, l, rfl, _⟩ := h
    rfl
  · obtain ⟨v, l, rfl, tl, g, q⟩ := h
    obtain ⟨a, b, xs, rfl, ha, hb, hx⟩ := tl.lI
    have hlx := hx.len
    rw [List.length_map] at hlx
    have hl12 := g.len
    have hl24 := g.links
    have hF24 := freeL_len l
    have hTJ : ∀ i, (turnP (freeL l) l.2 i).length ≤ 80 := fun i => by
      have := turnP_len (freeL l) l.2 i
      omega
    have hTF : ∀ i, (turnF (freeL l) i).length ≤ 80 := fun i => by
      have := turnF_len (freeL l) i
      omega
    refine ⟨_, (pss_cons (ps_par (i := 1) (j := 2) (by rfl) sc__law_steps.nd rfl rfl (by decide) rfl rfl (pa_cons (pe_lst pa_nil) (pa_cons (pe_callD G__law_free (hr.mono (by decide)) (pa_cons (pv 0) pa_nil)) pa_nil)) (by rfl))
      (pss_cons (ps_for PassesOwn.never rfl (pi_enumT rfl T.z_enumerate (pa_cons (pe_ix ix_tup (pv 0) pe_int (fun _ _ => rfl)) pa_nil)) (pg_tup (by rfl) (pgs_cons (pg_name (i := 3) sc__law_steps.nd rfl (Or.inl rfl)) (pgs_cons (pg_name (i := 4) sc__law_steps.nd rfl (Or.inr rfl)) pgs_nil))) (pss_cons (ps_expr (pe_bm PySem.F.plainAttrs_list PySem.F.slot_list_append PySem.F.type_list_append mt_append (pv 1) (pa_cons (pe_tup (pa_cons (pe_tup (pa_cons (pv 4) pa_nil)) (pa_cons (pe_tup pa_nil) pa_nil))) pa_nil)))
      (pss_cons (ps_for PassesOwn.never rfl (pi_list (pv 2)) (pg_name (i := 5) sc__law_steps.nd rfl (Or.inl rfl)) (pss_one (ps_set (i := 1) sc__law_steps.nd rfl (Or.inl rfl) (pe_op op_cat (pv 1) (pe_lst (pa_cons (pe_tup (pa_cons (pe_tup (pa_cons (pv 4) pa_nil)) (pa_cons (pe_tup (pa_cons (pe_callD G__law_pair (hr.mono (by decide)) (pa_cons (pe_ix ix_tup (pv 4) pe_int (fun _ _ => rfl)) (pa_cons (pv 5) pa_nil))) pa_nil)) pa_nil))) (pa_cons (pe_tup (pa_cons (pe_tup (pa_cons (pv 4) pa_nil)) (pa_cons (pe_tup (pa_cons (pe_callD G__law_pair (hr.mono (by decide)) (pa_cons (pe_ix ix_tup (pv 4) pe_int (fun _ _ => rfl)) (pa_cons (pv 5) pa_nil))) pa_nil)) pa_nil))) pa_nil)))))))
      (pss_one (ps_for PassesOwn.never rfl (pi_tup (pe_slice sl_tup (pe_ix ix_tup (pv 0) pe_int (fun _ _ => rfl)) (po_some (pe_op op_add (pv 3) pe_int)) po_none)) (pg_name (i := 6) sc__law_steps.nd rfl (Or.inl rfl)) (pss_one (ps_for PassesOwn.never rfl (pi_tup (pe_tup (pa_cons (pe_tup (pa_cons (pe_ix ix_tup (pv 6) pe_int (fun _ _ => rfl)) (pa_cons (pe_ix ix_tup (pv 6) pe_int (fun _ _ => rfl)) pa_nil))) (pa_cons (pe_tup (pa_cons (pe_ix ix_tup (pv 6) pe_int (fun _ _ => rfl)) (pa_cons (pe_ix ix_tup (pv 6) pe_int (fun _ _ => rfl)) pa_nil))) pa_nil)))) (pg_tup (by rfl) (pgs_cons (pg_name (i := 7) sc__law_steps.nd rfl (Or.inl rfl)) (pgs_cons (pg_name (i := 8) sc__law_steps.nd rfl (Or.inl rfl)) pgs_nil))) (pss_cons (ps_set (i := 9) sc__law_steps.nd rfl (Or.inl rfl) (pe_callB (cr_sortedE enc_J (by decide) (hu64 hr)) (by rfl) T.z_sorted bt_sorted (pa_cons (pe_lst (pa_cons (pe_callD G__law_pair (hr.mono (by decide)) (pa_cons (pe_ix ix_tup (pv 4) pe_int (fun _ _ => rfl)) (pa_cons (pv 7) pa_nil))) (pa_cons (pe_callD G__law_pair (hr.mono (by decide)) (pa_cons (pe_ix ix_tup (pv 4) pe_int (fun _ _ => rfl)) (pa_cons (pv 8) pa_nil))) pa_nil))) pa_nil)))
      (pss_one (ps_expr (pe_bm PySem.F.plainAttrs_list PySem.F.slot_list_append PySem.F.type_list_append mt_append (pv 1) (pa_cons (pe_tup (pa_cons (pe_tup (pa_cons (pv 4) (pa_cons (pv 6) pa_nil))) (pa_cons (pe_callTy call_tuple_of (by rfl) T.z_tuple bt_tuple (pa_cons (pv 9) pa_nil)) pa_nil))) pa_nil))))))))))))
      (pss_cons (ps_for PassesOwn.never rfl (pi_enum rfl T.z_enumerate (pa_cons (pv 2) pa_nil)) (pg_tup (by rfl) (pgs_cons (pg_name (i := 3) sc__law_steps.nd rfl (Or.inl rfl)) (pgs_cons (pg_name (i := 4) sc__law_steps.nd rfl (Or.inr rfl)) pgs_nil))) (pss_one (ps_set (i := 1) sc__law_steps.nd rfl (Or.inl rfl) (pe_op op_cat (pv 1) (pe_lc (own := [("_law_far_here", 6)]) (g := (gName 6)) (by rfl) sc__law_steps.nd (pi_list (pe_slice sl_list (pv 2) (po_some (pe_op op_add (pv 3) pe_int)) po_none)) (blkOk_by (own := [("_law_far_here", 6)]) (N := N__law_steps) (sc := defScope s__law_steps) (by decide +kernel)) (fun _ _ _ _ _ => (pg_name (i := 6) sc__law_steps.nd rfl (Or.inl rfl))) (fun _ _ _ _ _ => pts_nil) (fun _ _ _ _ _ => (pe_tup (pa_cons (pe_tup pa_nil) (pa_cons (pe_tup (pa_cons (pe_tup (pa_cons (pv 4) (pa_cons (pv 6) pa_nil))) pa_nil)) pa_nil)))))))))
      (pss_one (ps_ret (pe_callB (cr_sortedE enc_S (by decide) (hu64 hr)) (by rfl) T.z_sorted bt_sorted (pa_cons (pv 1) pa_nil))))))), ?_⟩
    refine ⟨Nat.zero_le _, fun f0 hf0 => ?_⟩
    have s0 := same_upd (o := .lst []) hf0
    refine ⟨_, rfl, .ref a, l, rfl, tl.by s0, g, fun H1 pf s1' hpf hF => ⟨_, _, rfl, ?_⟩⟩
    have s1 := s0.trans s1'
    have hH1f : H1 f0 = some (.lst []) := s1' _ _ upd_same
    have fd0 : Fnd H f0 [] H1 := ⟨s1, hf0, [], hH1f, .nil⟩
    have hf0pf : f0 ≠ pf := fun z => by
      subst z
      rw [upd_same] at hpf
      cases hpf
    -- pf stands
    have npf : H pf = none := s0.free hpf
    refine ⟨_, rfl, a, _, _, _, rfl, rfl, SqT.of (s1 _ _ ha), atI_nat (j := 1) rfl, b, xs, rfl, s1 _ _ hb, ?_⟩
    refine for_it walk_enumT (fun i σ H' => ∃ (f : Addr) (y3 y4 y5 y6 y7 y8 y9 : Option V), σ = [some (.ref a), some (.ref f), some (.ref pf), y3, y4, y5, y6, y7, y8, y9] ∧ f ≠ pf ∧ H' pf = some (.lst ((freeL l).map vN)) ∧ Fnd H f (((List.range i).flatMap (turnP (freeL l) l.2)).map eS) H')
      ⟨f0, none, none, none, none, none, none, none, rfl, hf0pf, hF, fd0⟩ (fun i σ H' _ p => ?_) (fun i x σ H' H'' hi p y => ?_) (fun σ H' p => ?_)
    · obtain ⟨_, _, _, _, _, _, _, _, _, _, _, p⟩ := p
      exact p.1 _ _ hb
    · obtain ⟨f, y3, y4, y5, y6, y7, y8, y9, rfl, nfp, hP, fd⟩ := p
      obtain ⟨Tp, x0, x1, rfl, nT, rfl, ex0, ex1⟩ := y
      cases ex0
      have ex1 : xs[i]? = some x1 := ex1
      have sT : Same H' (upd H' Tp (.tup [.int (i : Nat), x1])) := same_upd nT
      have fT := fd.by sT
      have hPT := sT _ _ hP
      obtain ⟨d, hd1, hd2⟩ := (hx.by fd.1).get ex1
      rw [List.getElem?_map] at hd1
      cases hj : l.2[i]? with
      | none => rw [hj] at hd1; cases hd1
      | some j =>
        rw [hj] at hd1
        have : eJ j = d := Option.some.inj hd1
        subst this
        obtain ⟨c, rfl, hc⟩ := hd2.jI
        have hil : i < l.2.length := (List.getElem?_eq_some_iff.mp hj).1
        have hb1 := flat_len _ 80 hTJ i
        have hbt : ((List.range i).flatMap (turnP (freeL l) l.2)).length ≤ 960 := by
          have : 80 * i ≤ 80 * 12 := Nat.mul_le_mul_left _ (by omega)
          omega
        refine ⟨Tp, _, rfl, SqT.of upd_same, rfl, _, _, rfl, _, _, rfl, rfl, ?_⟩
        -- found.append(((one,), ()))
        obtain ⟨_, hfn, ys, hys, htys⟩ := id fT
        have hly := htys.len
        rw [List.length_map] at hly
        refine ⟨_, rfl, .inl ⟨rfl, _, SqL.of hys⟩, _, rfl, by show 1 ≤ sizeLine; decide, fun p1 hp1 => ⟨Nat.zero_le _, fun p2 hp2 => ⟨by show 2 ≤ sizeLine; decide, fun p3 hp3 => ?_⟩⟩⟩
        have k1 := same_upd (o := .tup [V.ref c]) hp1
        have k2 := same_upd (o := .tup []) hp2
        have k3 := same_upd (o := .tup [V.ref p1, V.ref p2]) hp3
        have kk := (k1.trans k2).trans k3
        refine ⟨f, _, _, rfl, rfl, kk _ _ hys, small1000 (by omega), ?_⟩
        have tc : TD H' (.ref c) (eJ j) := hd2
        have f1 := (fT.by kk).more (zs := [V.ref p3]) (es := [eS ([j], [])]) (kk _ _ hys) (.cons (.tup upd_same (.cons (.tup (k3 _ _ (k2 _ _ upd_same)) (.cons (tc.by (sT.trans kk)) .nil)) (.cons (.tup (k3 _ _ upd_same) .nil) .nil))) .nil)
        have tu1 : TupS H' (upd (upd (upd (upd (upd H' Tp (.tup [.int (i : Nat), .ref c])) p1 (.tup [V.ref c])) p2 (.tup [])) p3 (.tup [V.ref p1, V.ref p2])) f (.lst (ys ++ [V.ref p3]))) := (sameTup (sT.trans kk)).trans (tupS_lst (kk _ _ hys))
        have hP1 : upd (upd (upd (upd (upd H' Tp (.tup [.int (i : Nat), .ref c])) p1 (.tup [V.ref c])) p2 (.tup [])) p3 (.tup [V.ref p1, V.ref p2])) f (.lst (ys ++ [V.ref p3])) pf = some (.lst ((freeL l).map vN)) := (upd_ne (Ne.symm nfp)).trans (kk _ _ hPT)
        generalize upd (upd (upd (upd (upd H' Tp (.tup [.int (i : Nat), .ref c])) p1 (.tup [V.ref c])) p2 (.tup [])) p3 (.tup [V.ref p1, V.ref p2])) f (.lst (ys ++ [V.ref p3])) = HA at *
        clear k1 k2 k3 kk hp1 hp2 hp3 hys htys hly
        -- for end in free
        refine ⟨_, rfl, pf, rfl, ⟨_, SqL.of hP1⟩, ?_⟩
        refine for_it (walk_list (K := K) (a := pf) (xs := (freeL l).map vN)) (fun k σ H2 => ∃ (f : Addr) (y5 : Option V), σ = [some (.ref a), some (.ref f), some (.ref pf), some (.int (i : Nat)), some (.ref c), y5, y6, y7, y8, y9] ∧ f ≠ pf ∧ H2 pf = some (.lst ((freeL l).map vN)) ∧ TupS H' H2 ∧
            Fnd H f (((List.range i).flatMap (turnP (freeL l) l.2)).map eS ++ [eS ([j], [])] ++ (zipP j ((freeL l).take k)).map eS) H2)
          ⟨f, y5, rfl, nfp, hP1, tu1, by simpa [zipP] using f1⟩ (fun k σ H2 _ p => ?_) (fun k x σ H2 H2' hk p y => ?_) (fun σ H2 p => ?_)
        · obtain ⟨_, _, _, _, h2, _⟩ := p
          exact SqL.of h2
        · obtain ⟨f2, z5, rfl, nf2, hP2, t2, g2⟩ := p
          obtain ⟨rfl, hxk⟩ := y
          rw [List.getElem?_map] at hxk
          cases hek : (freeL l)[k]? with
          | none => rw [hek] at hxk; cases hxk
          | some e =>
            rw [hek] at hxk
            have ex : x = vN e := (Option.some.inj hxk).symm
            subst ex
            rw [List.length_map] at hk
            have hc2 := t2 _ _ hc
            have tc2 := tc.to t2
            refine ⟨_, rfl, _, rfl, by show 1 ≤ sizeLine; decide, fun q1 hq1 => ?_⟩
            have m1 := same_upd (o := .tup [V.ref c]) hq1
            refine ⟨_, rfl, c, _, _, _, rfl, rfl, SqT.of (m1 _ _ hc2), atI_nat (j := 0) rfl, _, rfl, j.1, e, rfl, fun H4 v4 s4 t4 => ?_⟩
            refine ⟨by show 1 ≤ sizeLine; decide, fun q2 hq2 => ⟨by show 2 ≤ sizeLine; decide, fun q3 hq3 => ?_⟩⟩
            have m2 := same_upd (o := .tup [v4]) hq2
            have m3 := same_upd (o := .tup [V.ref q1, V.ref q2]) hq3
            have M := ((m1.trans s4).trans m2).trans m3
            have d1 : TD (upd (upd H4 q2 (.tup [v4])) q3 (.tup [V.ref q1, V.ref q2])) (.ref q3) (eS ([j], [jt j.1 e])) := .tup upd_same (.cons (.tup (m3 _ _ (m2 _ _ (s4 _ _ upd_same))) (.cons (tc2.by M) .nil)) (.cons (.tup (m3 _ _ upd_same) (.cons (t4.by (m2.trans m3)) .nil)) .nil))
            generalize upd (upd H4 q2 (.tup [v4])) q3 (.tup [V.ref q1, V.ref q2]) = H5 at *
            clear m2 m3 m1 s4 t4 hq1 hq2 hq3
            refine ⟨_, rfl, by show 1 ≤ sizeLine; decide, fun q4 hq4 => ?_⟩
            have m1 := same_upd (o := .tup [V.ref c]) hq4
            refine ⟨_, rfl, c, _, _, _, rfl, rfl, SqT.of ((M.trans m1) _ _ hc2), atI_nat (j := 1) rfl, _, rfl, j.2, e, rfl, fun H6 v6 s6 t6 => ?_⟩
            refine ⟨by show 1 ≤ sizeLine; decide, fun q5 hq5 => ⟨by show 2 ≤ sizeLine; decide, fun q6 hq6 => ?_⟩⟩
            have m2 := same_upd (o := .tup [v6]) hq5
            have m3 := same_upd (o := .tup [V.ref q4, V.ref q5]) hq6
            have M2 := ((m1.trans s6).trans m2).trans m3
            have d2 : TD (upd (upd H6 q5 (.tup [v6])) q6 (.tup [V.ref q4, V.ref q5])) (.ref q6) (eS ([j], [jt j.2 e])) := .tup upd_same (.cons (.tup (m3 _ _ (m2 _ _ (s6 _ _ upd_same))) (.cons (tc2.by (M.trans M2)) .nil)) (.cons (.tup (m3 _ _ upd_same) (.cons (t6.by (m2.trans m3)) .nil)) .nil))
            have d1' := d1.by M2
            have MM := M.trans M2
            generalize upd (upd H6 q5 (.tup [v6])) q6 (.tup [V.ref q4, V.ref q5]) = H7 at *
            clear m2 m3 m1 s6 t6 hq4 hq5 hq6
            refine ⟨by show 2 ≤ sizeLine; decide, fun L hL => ?_⟩
            have mL := same_upd (o := .lst [V.ref q3, V.ref q6]) hL
            obtain ⟨_, _, zs, hzs, htz⟩ := id g2
            have hlz := htz.len
            have hzl : (zipP j ((freeL l).take k)).length ≤ 48 := by
              unfold zipP
              rw [(zip_perm _ _ _).length_eq, List.length_append, List.length_map, List.length_map, List.length_take]
              omega
            rw [List.length_append, List.length_append, List.length_map, List.length_map, List.length_singleton] at hlz
            refine ⟨f2, L, zs, _, rfl, rfl, (MM.trans mL) _ _ hzs, upd_same, ?_, fun p hp => ?_⟩
            · rw [sizeLine_eq]
              show zs.length + 2 ≤ _
              omega
            · have gL := (g2.by (MM.trans mL)).cat ((MM.trans mL) _ _ hzs) (zs := [V.ref q3, V.ref q6]) (es := [eS ([j], [jt j.1 e]), eS ([j], [jt j.2 e])]) (.cons (d1'.by mL) (.cons (d2.by mL) .nil)) hp
              have mP := (MM.trans mL).trans (same_upd (o := .lst (zs ++ [V.ref q3, V.ref q6])) hp)
              refine ⟨p, _, rfl, fun z => ?_, mP _ _ hP2, t2.trans (sameTup mP), ?_⟩
              · subst z
                rw [(MM.trans mL) _ _ hP2] at hp
                cases hp
              · have e1 : zipP j ((freeL l).take (k + 1)) = zipP j ((freeL l).take k) ++ [([j], [jt j.1 e]), ([j], [jt j.2 e])] := by
                  rw [List.take_add_one, hek]
                  unfold zipP
                  rw [List.flatMap_append]
                  simp
                rw [e1, List.map_append, ← List.append_assoc]
                exact gL
        · obtain ⟨f2, z5, rfl, nf2, hP2, t2, g2⟩ := p
          rw [List.length_map, List.take_length] at g2
          -- for far in joints[at + 1:]
          have hbx2 := g2.1 _ _ hb
          have hax2 := g2.1 _ _ ha
          refine ⟨_, rfl, a, _, _, _, rfl, rfl, SqT.of hax2, atI_nat (j := 1) rfl, _, rfl, _, _, rfl, rfl, _, rfl, b, xs, rfl, SqT.of hbx2, not_whole _ _ (by omega), fun sp hsp => ?_⟩
          rw [cutV_drop xs i (by omega)]
          have m0 := same_upd (o := .tup (xs.drop (i + 1))) hsp
          refine ⟨sp, rfl, ⟨_, SqT.of upd_same⟩, ?_⟩
          have e2 : ((List.range i).flatMap (turnP (freeL l) l.2)).map eS ++ [eS ([j], [])] ++ (zipP j (freeL l)).map eS = ((List.range i).flatMap (turnP (freeL l) l.2) ++ (([j], []) :: zipP j (freeL l))).map eS := by
            rw [List.map_append, List.map_cons, List.append_assoc]
            rfl
          rw [e2] at g2
          have hzl : (zipP j (freeL l)).length ≤ 48 := by
            unfold zipP
            rw [(zip_perm _ _ _).length_eq, List.length_append, List.length_map, List.length_map]
            omega
          refine for_tup (K := K) (a := sp) (xs := xs.drop (i + 1)) (fun k σ H3 => ∃ y6 y7 y8 y9, σ = [some (.ref a), some (.ref f2), some (.ref pf), some (.int (i : Nat)), some (.ref c), z5, y6, y7, y8, y9] ∧ H3 pf = some (.lst ((freeL l).map vN)) ∧ TupS H' H3 ∧ H3 sp = some (.tup (xs.drop (i + 1))) ∧
              Fnd H f2 (((List.range i).flatMap (turnP (freeL l) l.2) ++ (([j], []) :: zipP j (freeL l)) ++ ((l.2.drop (i + 1)).take k).flatMap (doublesL j)).map eS) H3)
            ⟨y6, y7, y8, y9, rfl, m0 _ _ hP2, t2.trans (sameTup m0), upd_same, by simpa using g2.by m0⟩ (fun k σ H3 _ p => ?_) (fun k x σ H3 hk p => ?_) (fun σ H3 p => ?_)
          · obtain ⟨_, _, _, _, _, _, _, h3, _⟩ := p
            exact SqT.of h3
          · obtain ⟨y6, y7, y8, y9, rfl, hP3, t3, hsp3, f3⟩ := p
            have hx3 : TDs H3 (xs.drop (i + 1)) ((l.2.drop (i + 1)).map eJ) := by
              rw [List.map_drop]
              exact ((hx.by fd.1).to t3).drop (i + 1)
            obtain ⟨dd, hdd2, hdd3⟩ := hx3.get hk
            rw [List.getElem?_map] at hdd2
            cases hj2 : (l.2.drop (i + 1))[k]? with
            | none => rw [hj2] at hdd2; cases hdd2
            | some j2 =>
              rw [hj2] at hdd2
              have : eJ j2 = dd := Option.some.inj hdd2
              subst this
              obtain ⟨d2, rfl, hd2'⟩ := hdd3.jI
              have tj2 : TD H3 (.ref d2) (eJ j2) := hdd3
              have hc3 := t3 _ _ hc
              refine ⟨_, rfl, d2, _, _, _, rfl, rfl, SqT.of hd2', atI_nat (j := 0) rfl, _, rfl, d2, _, _, _, rfl, rfl, SqT.of hd2', atI_nat (j := 1) rfl, by show 2 ≤ sizeLine; decide, fun u1 hu1 => ?_⟩
              have r1 := same_upd (o := .tup [V.int (j2.1 : Int), V.int (j2.2 : Int)]) hu1
              refine ⟨_, rfl, d2, _, _, _, rfl, rfl, SqT.of (r1 _ _ hd2'), atI_nat (j := 1) rfl, _, rfl, d2, _, _, _, rfl, rfl, SqT.of (r1 _ _ hd2'), atI_nat (j := 0) rfl, by show 2 ≤ sizeLine; decide, fun u2 hu2 => ?_⟩
              have r2 := same_upd (o := .tup [V.int (j2.2 : Int), V.int (j2.1 : Int)]) hu2
              refine ⟨by show 2 ≤ sizeLine; decide, fun u hu => ?_⟩
              have r3 := same_upd (o := .tup [V.ref u1, V.ref u2]) hu
              have rr := (r1.trans r2).trans r3
              have w1 := r3 _ _ (r2 _ _ (show upd H3 u1 (.tup [V.int (j2.1 : Int), V.int (j2.2 : Int)]) u1 = some (.tup [V.int (j2.1 : Int), V.int (j2.2 : Int)]) from upd_same))
              have w2 := r3 _ _ (show upd (upd H3 u1 (.tup [V.int (j2.1 : Int), V.int (j2.2 : Int)])) u2 (.tup [V.int (j2.2 : Int), V.int (j2.1 : Int)]) u2 = some (.tup [V.int (j2.2 : Int), V.int (j2.1 : Int)]) from upd_same)
              have w3 : upd (upd (upd H3 u1 (.tup [V.int (j2.1 : Int), V.int (j2.2 : Int)])) u2 (.tup [V.int (j2.2 : Int), V.int (j2.1 : Int)])) u (.tup [V.ref u1, V.ref u2]) u = some (.tup [V.ref u1, V.ref u2]) := upd_same
              have f5 := f3.by rr
              have hP5 := rr _ _ hP3
              have t35 : TupS H3 _ := sameTup rr
              have ebase : ((List.range i).flatMap (turnP (freeL l) l.2) ++ (([j], []) :: zipP j (freeL l)) ++ ((l.2.drop (i + 1)).take (k + 1)).flatMap (doublesL j)) = ((List.range i).flatMap (turnP (freeL l) l.2) ++ (([j], []) :: zipP j (freeL l)) ++ ((l.2.drop (i + 1)).take k).flatMap (doublesL j)) ++ doublesL j j2 := by
                rw [List.take_add_one, hj2, List.flatMap_append, List.append_assoc _ _ (doublesL j j2)]
                simp
              have hbl : ((List.range i).flatMap (turnP (freeL l) l.2) ++ (([j], []) :: zipP j (freeL l)) ++ ((l.2.drop (i + 1)).take k).flatMap (doublesL j)).length ≤ 1100 := by
                rw [List.length_append, List.length_append, doubles_len, List.length_cons, List.length_take, List.length_drop]
                omega
              generalize (List.range i).flatMap (turnP (freeL l) l.2) ++ (([j], []) :: zipP j (freeL l)) ++ ((l.2.drop (i + 1)).take k).flatMap (doublesL j) = BL at *
              generalize upd (upd (upd H3 u1 (.tup [V.int (j2.1 : Int), V.int (j2.2 : Int)])) u2 (.tup [V.int (j2.2 : Int), V.int (j2.1 : Int)])) u (.tup [V.ref u1, V.ref u2]) = H5 at *
              clear r1 r2 r3 hu1 hu2 hu
              refine ⟨u, rfl, ⟨_, SqT.of w3⟩, ?_⟩
              refine for_tup (K := K) (a := u) (xs := [V.ref u1, V.ref u2]) (fun m σ H6 => ∃ y7 y8 y9, σ = [some (.ref a), some (.ref f2), some (.ref pf), some (.int (i : Nat)), some (.ref c), z5, some (.ref d2), y7, y8, y9] ∧ H6 pf = some (.lst ((freeL l).map vN)) ∧ TupS H5 H6 ∧
                  Fnd H f2 ((BL ++ (doublesL j j2).take m).map eS) H6)
                ⟨y7, y8, y9, rfl, hP5, TupS.refl _, by simpa using f5⟩ (fun m σ H6 _ p => ?_) (fun m x σ H6 hm p => ?_) (fun σ H6 p => ?_)
              · obtain ⟨_, _, _, _, _, tt, _⟩ := p
                exact SqT.of (tt _ _ w3)
              · obtain ⟨y7, y8, y9, rfl, hP6, t6, f6⟩ := p
                have hm2 : m < 2 := (List.getElem?_eq_some_iff.mp hm).1
                obtain ⟨x1, x2, z, rfl, hz, hpz⟩ : ∃ (x1 x2 : Nat) (z : Addr), x = .ref z ∧ H6 z = some (.tup [vN x1, vN x2]) ∧ (doublesL j j2)[m]? = some ([j, j2], sortJ [jt j.1 x1, jt j.2 x2]) := by
                  match m, hm with
                  | 0, hm => exact ⟨j2.1, j2.2, u1, (Option.some.inj hm).symm, t6 _ _ w1, rfl⟩
                  | 1, hm => exact ⟨j2.2, j2.1, u2, (Option.some.inj hm).symm, t6 _ _ w2, rfl⟩
                  | m + 2, hm => exact absurd hm2 (by omega)
                have hc6 := t6 _ _ (t35 _ _ hc3)
                have tc6 := (tc.to t3).to (t35.trans t6)
                have td6 := tj2.to (t35.trans t6)
                refine ⟨z, _, rfl, SqT.of hz, rfl, _, _, rfl, _, _, rfl, rfl, ?_⟩
                refine ⟨_, rfl, c, _, _, _, rfl, rfl, SqT.of hc6, atI_nat (j := 0) rfl, _, rfl, j.1, x1, rfl, fun Ha va sa ta => ?_⟩
                refine ⟨_, rfl, c, _, _, _, rfl, rfl, SqT.of (sa _ _ hc6), atI_nat (j := 1) rfl, _, rfl, j.2, x2, rfl, fun Hb vb sb tb => ?_⟩
                refine ⟨by show 2 ≤ sizeLine; decide, fun q1 hq1 => ?_⟩
                have n1 := same_upd (o := .lst [va, vb]) hq1
                refine ⟨q1, _, [jt j.1 x1, jt j.2 x2], rfl, SqL.of upd_same, .cons (ta.by (sb.trans n1)) (.cons (tb.by n1) .nil), srt_J _, fun zs p hp tz => ?_⟩
                rw [sortJ_data] at tz
                have n2 := same_upd (o := .lst zs) hp
                have nn := (sa.trans sb).trans (n1.trans n2)
                have hpz2 : upd (upd Hb q1 (.lst [va, vb])) p (.lst zs) p = some (.lst zs) := upd_same
                have tz' := tz.by n2
                generalize upd (upd Hb q1 (.lst [va, vb])) p (.lst zs) = Hc at *
                obtain ⟨_, _, gs, hgs, htg⟩ := id f6
                have hlg := htg.len
                rw [List.length_map, List.length_append, List.length_take] at hlg
                have f7 := f6.by nn
                refine ⟨_, rfl, .inl ⟨rfl, _, SqL.of (nn _ _ hgs)⟩, _, rfl, _, rfl, by show 2 ≤ sizeLine; decide, fun q2 hq2 => ?_⟩
                have n3 := same_upd (o := .tup [V.ref c, V.ref d2]) hq2
                refine ⟨_, rfl, p, zs, rfl, .inl ⟨SqL.of (n3 _ _ hpz2), fun q3 hq3 => ?_⟩⟩
                have n4 := same_upd (o := .tup zs) hq3
                refine ⟨by show 2 ≤ sizeLine; decide, fun q4 hq4 => ?_⟩
                have n5 := same_upd (o := .tup [V.ref q2, V.ref q3]) hq4
                have n345 := (n3.trans n4).trans n5
                refine ⟨f2, gs, _, rfl, rfl, n345 _ _ (nn _ _ hgs), ?_, ?_⟩
                · rw [sizeLine_eq]
                  omega
                · have dS : TD (upd (upd (upd Hc q2 (.tup [V.ref c, V.ref d2])) q3 (.tup zs)) q4 (.tup [V.ref q2, V.ref q3])) (.ref q4) (eS ([j, j2], sortJ [jt j.1 x1, jt j.2 x2])) :=
                    .tup upd_same (.cons (.tup (n5 _ _ (n4 _ _ upd_same)) (.cons (tc6.by (nn.trans n345)) (.cons (td6.by (nn.trans n345)) .nil))) (.cons (.tup (n5 _ _ upd_same) (tz'.by n345)) .nil))
                  have f8 := (f7.by n345).more (n345 _ _ (nn _ _ hgs)) (.cons dS .nil)
                  refine ⟨_, _, _, rfl, (upd_ne (Ne.symm nf2)).trans (n345 _ _ (nn _ _ hP6)), t6.trans ((sameTup (nn.trans n345)).trans (tupS_lst (n345 _ _ (nn _ _ hgs)))), ?_⟩
                  rw [List.take_add_one, hpz, ← List.append_assoc, List.map_append]
                  exact f8
              · obtain ⟨y7, y8, y9, rfl, hP6, t6, f6⟩ := p
                refine ⟨_, _, _, _, rfl, hP6, t3.trans (t35.trans t6), t6 _ _ (t35 _ _ hsp3), ?_⟩
                rw [ebase]
                exact f6
          · obtain ⟨y6, y7, y8, y9, rfl, hP3, t3, hsp3, f3⟩ := p
            refine ⟨f2, _, _, _, _, _, _, _, rfl, nf2, hP3, ?_⟩
            have e3 : (l.2.drop (i + 1)).take (xs.drop (i + 1)).length = l.2.drop (i + 1) := List.take_of_length_le (by rw [List.length_drop, List.length_drop]; omega)
            rw [e3] at f3
            rw [flat_succ]
            have e4 : turnP (freeL l) l.2 i = (([j], []) :: zipP j (freeL l)) ++ (l.2.drop (i + 1)).flatMap (doublesL j) := by
              unfold turnP
              rw [hj]
              rfl
            rw [e4, ← List.append_assoc]
            exact f3
    · obtain ⟨f, y3, y4, y5, y6, y7, y8, y9, rfl, nfp, hP, fd⟩ := p
      have hbt : ((List.range xs.length).flatMap (turnP (freeL l) l.2)).length ≤ 960 := by
        have hb1 := flat_len _ 80 hTJ xs.length
        have : 80 * xs.length ≤ 80 * 12 := Nat.mul_le_mul_left _ (by omega)
        omega
      have hw : Walk (Ite K pf) (freeL l).length (fun H => SqL K H pf ((freeL l).map vN)) (YPair (fun i => some (.int (i : Nat))) (fun i => ((freeL l).map vN)[i]?)) := by
        have := walk_enum (K := K) (a := pf) (xs := (freeL l).map vN)
        rw [List.length_map] at this
        exact this
      refine ⟨_, rfl, pf, _, rfl, SqL.of hP, ?_⟩
      refine for_it hw (fun i σ H' => ∃ (f : Addr) (y3 y4 : Option V), σ = [some (.ref a), some (.ref f), some (.ref pf), y3, y4, y5, y6, y7, y8, y9] ∧ f ≠ pf ∧ H' pf = some (.lst ((freeL l).map vN)) ∧ Fnd H f (((List.range xs.length).flatMap (turnP (freeL l) l.2) ++ (List.range i).flatMap (turnF (freeL l))).map eS) H')
        ⟨f, y3, y4, rfl, nfp, hP, by simpa using fd⟩ (fun i σ H' _ p => ?_) (fun i x σ H' H'' hi p y => ?_) (fun σ H' p => ?_)
      · obtain ⟨_, _, _, _, _, h, _⟩ := p
        exact SqL.of h
      · obtain ⟨f, z3, z4, rfl, nfp, hP, f2⟩ := p
        obtain ⟨Tp, x0, x1, rfl, nT, rfl, ex0, ex1⟩ := y
        cases ex0
        have ex1 : ((freeL l).map vN)[i]? = some x1 := ex1
        rw [List.getElem?_map] at ex1
        cases he : (freeL l)[i]? with
        | none => rw [he] at ex1; cases ex1
        | some e =>
          rw [he] at ex1
          have hx1 : x1 = vN e := (Option.some.inj ex1).symm
          subst hx1
          have sT : Same H' (upd H' Tp (.tup [.int (i : Nat), vN e])) := same_upd nT
          refine ⟨Tp, _, rfl, SqT.of upd_same, rfl, _, _, rfl, _, _, rfl, rfl, ?_⟩
          have fT := f2.by sT
          have hPT := sT _ _ hP
          obtain ⟨_, _, zs, hzs, htz⟩ := id fT
          have hlz := htz.len
          have hb2 := flat_len _ 80 hTF i
          have hb3 : 80 * i ≤ 80 * 24 := Nat.mul_le_mul_left _ (by omega)
          rw [List.length_map, List.length_append] at hlz
          refine ⟨_, rfl, _, rfl, _, rfl, _, _, rfl, rfl, _, rfl, pf, _, rfl, SqL.of hPT, fun sp hsp => ?_⟩
          rw [cutV_drop _ i (by rw [List.length_map]; omega)]
          have m0 := same_upd (o := .lst (((freeL l).map vN).drop (i + 1))) hsp
          refine ⟨sp, rfl, ⟨_, SqL.of upd_same⟩, fun D hD => ?_⟩
          refine lc_src (walk_list (K := K) (a := sp)) (e0 := eNat) (l := (freeL l).drop (i + 1)) eS (fun z => some ([], [(e, z)])) hD (by rw [List.length_drop]; exact small1000 (by omega)) (by rw [← List.map_drop]; exact tds_nats _) (fun H3 s3 => SqL.of (s3 _ _ upd_same)) (fun z x H3 N M hz s3 tx kN kM => ?_) (fun H3 ws s3 hw ht => ?_)
          · have hxz : x = vN z := TD.intI tx
            subst hxz
            refine ⟨rfl, ?_⟩
            refine ⟨Nat.zero_le _, fun q1 hq1 => ?_⟩
            have m1 := same_upd (o := .tup []) hq1
            refine ⟨_, rfl, _, rfl, by show 2 ≤ sizeLine; decide, fun q2 hq2 => ⟨by show 1 ≤ sizeLine; decide, fun q3 hq3 => ⟨by show 2 ≤ sizeLine; decide, fun q4 hq4 => ?_⟩⟩⟩
            have m2 := same_upd (o := .tup [vN e, vN z]) hq2
            have m3 := same_upd (o := .tup [V.ref q2]) hq3
            have m4 := same_upd (o := .tup [V.ref q1, V.ref q3]) hq4
            refine kN _ _ _ rfl (((m1.trans m2).trans m3).trans m4) ?_
            exact .tup upd_same (.cons (.tup (m4 _ _ (m3 _ _ (m2 _ _ upd_same))) .nil) (.cons (.tup (m4 _ _ upd_same) (.cons (TD.jM (m4 _ _ (m3 _ _ upd_same))) .nil)) .nil))
          · rw [fm_some] at ht
            have hlw := ht.len
            rw [List.length_map, List.length_map, List.length_drop] at hlw
            have ss := m0.trans s3
            refine ⟨f, D, zs, ws, rfl, rfl, ss _ _ hzs, hw, (by rw [sizeLine_eq]; omega), fun p hp => ?_⟩
            have f3 := (fT.by ss).cat (ss _ _ hzs) ht hp
            have hPp := ss _ _ hPT
            refine ⟨p, _, _, rfl, fun z => ?_, (same_upd hp) _ _ hPp, ?_⟩
            · subst z
              rw [hPp] at hp
              cases hp
            · rw [flat_succ, ← List.append_assoc, List.map_append]
              have e4 : turnF (freeL l) i = ((freeL l).drop (i + 1)).map fun z => (([] : List Jt), [(e, z)]) := by
                unfold turnF
                rw [he]
              rw [e4]
              exact f3
      · obtain ⟨f, z3, z4, rfl, nfp, hP, f2⟩ := p
        obtain ⟨h1, h2, zs, hzs, htz⟩ := f2
        rw [hlx] at htz
        refine ⟨_, rfl, f, zs, _, rfl, SqL.of hzs, htz, srt_S _, fun ws p hp ht => ?_⟩
        refine q _ _ _ _ (h1.trans (same_upd hp)) (h1.free hp) upd_same (ht.by (same_upd hp)) ((List.mergeSort_perm _ _).trans ?_)
        exact (flat_perm (turnP_perm (freeL l) l.2) _).append_right _
end
end DC
end

section
set_option Elab.async false
set_option linter.all false
set_option maxRecDepth 100000
set_option maxHeartbeats 4000000
namespace DC
open PySem PySem.Spec PyProof.Rows L2
/-! ### the law's own search -/
def Reach (l : Lay) (n : Nat) (g : Lay) : Prop := ∃ h, HistL l h ∧ endL l h = g ∧ h.length = n
theorem Reach.zero (l : Lay) : Reach l 0 l := ⟨[], trivial, rfl, rfl⟩
theorem Reach.snoc {l x : Lay} {n : Nat} {s : Stp} (h : Reach l n x) (hs : s ∈ stepsL x) : Reach l (n + 1) (afterL x s) := by
  obtain ⟨h, h1, rfl, h3⟩ := h
  exact ⟨h ++ [s], (hist_snoc _ _ _).mpr ⟨h1, hs⟩, endL_snoc _ _ _, by simp [h3]⟩
theorem Reach.split {l x : Lay} {n : Nat} (h : Reach l (n + 1) x) : ∃ y s, Reach l n y ∧ s ∈ stepsL y ∧ x = afterL y s := by
  obtain ⟨h, h1, rfl, h3⟩ := h
  have hne : h ≠ [] := fun z => by rw [z] at h3; cases h3
  have e := (List.dropLast_concat_getLast hne).symm
  rw [e] at h1
  obtain ⟨q1, q2⟩ := (hist_snoc _ _ _).mp h1
  refine ⟨endL l h.dropLast, h.getLast hne, ⟨h.dropLast, q1, rfl, by rw [List.length_dropLast]; omega⟩, q2, ?_⟩
  rw [← endL_snoc, ← e]
theorem Reach.good {l x : Lay} {n : Nat} (g : GoodL l) (h : Reach l n x) : GoodL x ∧ x.1 = l.1 := by
  obtain ⟨h, h1, rfl, _⟩ := h
  exact hist_good g h1
def BInv (l g : Lay) (t : Nat) (S ls : List Lay) : Prop := (∀ x ∈ S, ∃ n, n ≤ t ∧ Reach l n x) ∧ (∀ x n, n ≤ t → Reach l n x → x ∈ S) ∧ (∀ x ∈ ls, x ∈ S) ∧ (∀ x, Reach l t x → x ∈ ls ∨ ∃ n, n < t ∧ Reach l n x) ∧ (∀ n, n < t → ¬ Reach l n g)
theorem BInv.start (l g : Lay) : BInv l g 0 [l] [l] := by
  have z : ∀ x n, n ≤ 0 → Reach l n x → x = l := fun x n h1 h => by
    obtain ⟨h, _, rfl, h3⟩ := h
    have : h = [] := List.length_eq_zero_iff.mp (by omega)
    subst this
    rfl
  refine ⟨fun x hx => ⟨0, Nat.le_refl _, ?_⟩, fun x n h1 h => ?_, fun x hx => hx, fun x h => .inl ?_, fun n h => absurd h (Nat.not_lt_zero n)⟩
  · rw [List.mem_singleton] at hx
    subst hx
    exact Reach.zero _
  · rw [z x n h1 h]
    exact List.mem_singleton.mpr rfl
  · rw [z x 0 (Nat.le_refl _) h]
    exact List.mem_singleton.mpr rfl
theorem BInv.next {l g : Lay} {t : Nat} {S ls F : List Lay} (h : BInv l g t S ls) (hg : g ∉ S) (hF : ∀ x ∈ F, ∃ n, n ≤ t + 1 ∧ Reach l n x) (hall : ∀ y ∈ ls, ∀ s ∈ stepsL y, afterL y s ∈ S ++ F) : BInv l g (t + 1) (S ++ F) F := by
  obtain ⟨h1, h2, h3, h4, h5⟩ := h
  have k2 : ∀ x n, n ≤ t + 1 → Reach l n x → x ∈ S ++ F := fun x n hn hx => by
    by_cases hle : n ≤ t
    · exact List.mem_append_left _ (h2 x n hle hx)
    · have : n = t + 1 := by omega
      subst this
      obtain ⟨y, s, hy, hs, rfl⟩ := hx.split
      rcases h4 y hy with hy' | ⟨m, hm, hy'⟩
      · exact hall y hy' s hs
      · exact List.mem_append_left _ (h2 _ (m + 1) (by omega) (hy'.snoc hs))
  refine ⟨fun x hx => ?_, k2, fun x hx => List.mem_append_right _ hx, fun x hx => ?_, fun n hn hx => ?_⟩
  · rcases List.mem_append.mp hx with hx | hx
    · obtain ⟨n, hn, hr⟩ := h1 x hx
      exact ⟨n, by omega, hr⟩
    · exact hF x hx
  · rcases List.mem_append.mp (k2 x (t + 1) (Nat.le_refl _) hx) with hx | hx
    · obtain ⟨n, hn, hr⟩ := h1 x hx
      exact .inr ⟨n, by omega, hr⟩
    · exact .inl hx
  · exact hg (h2 g n (by omega) hx)
section
variable {P : Program} {w : World} {K : PySem.W.Frag} {mg : Str → Option Value} {base : Heap}
theorem SeenAt.bar {H H' : Hp} {a : Addr} {ls : List Lay} (h : SeenAt P w H a ls) : ∀ xs, H a ≠ some (.tup xs) := fun xs z => by
  obtain ⟨ys, h1, _⟩ := h
  rw [h1] at z
  cases z
theorem SeenAt.nd {H : Hp} {a : Addr} {ls : List Lay} (h : SeenAt P w H a ls) : ls.Nodup := by
  obtain ⟨ys, _, _, _, h4, _⟩ := h
  exact h4
def sp__law_far (P : Program) (w : World) : Sp := fun vs H Q _ => ∃ (v u : V) (l g : Lay) (M : Nat), vs = [v, u, vN M] ∧ TD H v (eL l) ∧ TD H u (eL g) ∧ GoodL l ∧ GoodL g ∧ l.1 = g.1 ∧ l.1 ≤ 3 ∧ M ≤ 4 ∧ (∃ n, n ≤ M ∧ Reach l n g) ∧
  ∀ (H' : Hp) (t : Nat), Same H H' → Reach l t g → (∀ n, n < t → ¬ Reach l n g) → Q (vN t) H'
theorem ok__law_far (T : TX K mg) : Ok P w K mg base 4 "_law_far" ["_law_lay_here", "_law_goal", "_law_most"] (sp__law_far P w) := by
  have G__law_steps := ok__law_steps (P := P) (w := w) (base := base) T
  have G__law_after := ok__law_after (P := P) (w := w) (base := base) T
  refine ok_of (k := 3) T.f__law_far sc__law_far (fun _ _ _ _ _ _ us hl => match us, hl with | [_, _, _], _ => rfl) (fun vs H Q E h => ?_) (fun cdv A outer s H vs Q E hr h => ?_)
  · obtain ⟨v, u, l, g, M, rfl, _⟩ := h
    rfl
  · obtain ⟨v, u, l, g, M, rfl, tl, tg, gl, gg, hlg, hl3, hM, hex, q⟩ := h
    obtain ⟨a, _, _, rfl, _⟩ := id tl.lI
    obtain ⟨a2, _, _, rfl, _⟩ := id tg.lI
    refine ⟨_, (pss_cons (ps_par (i := 3) (j := 4) (by rfl) sc__law_far.nd rfl rfl (by decide) rfl rfl (pa_cons (pe_seenNew (hu64 hr) (pv 0) pe_bl) (pa_cons (pe_lst (pa_cons (pv 0) pa_nil)) pa_nil)) (by rfl))
      (pss_cons (ps_for PassesOwn.never rfl (pi_range1 rfl T.z_range (pa_cons (pe_op op_add (pv 2) pe_int) pa_nil)) (pg_name (i := 5) sc__law_far.nd rfl (Or.inl rfl)) (pss_cons (ps_if (pt_cmp (pc_seen (hu64 hr) (pv 1) (pv 3))) (pss_one (ps_ret (pv 5))) pss_nil)
      (pss_cons (ps_set (i := 6) sc__law_far.nd rfl (Or.inl rfl) (pe_lst pa_nil))
      (pss_cons (ps_for PassesOwn.never rfl (pi_list (pv 4)) (pg_name (i := 7) sc__law_far.nd rfl (Or.inl rfl)) (pss_one (ps_for PassesOwn.never rfl (pi_list (pe_callD G__law_steps (hr.mono (by decide)) (pa_cons (pv 7) pa_nil))) (pg_name (i := 8) sc__law_far.nd rfl (Or.inl rfl)) (pss_cons (ps_set (i := 9) sc__law_far.nd rfl (Or.inl rfl) (pe_callD G__law_after (hr.mono (by decide)) (pa_cons (pv 7) (pa_cons (pv 8) pa_nil))))
      (pss_one (ps_if (pt_cmp (pc_notSeen (hu64 hr) (pv 9) (pv 3))) (pss_cons (ps_seenPut (hu64 hr) (pv 3) (pv 9) pe_bl)
      (pss_one (ps_expr (pe_bm PySem.F.plainAttrs_list PySem.F.slot_list_append PySem.F.type_list_append mt_append (pv 6) (pa_cons (pv 9) pa_nil))))) pss_nil))))))
      (pss_one (ps_set (i := 4) sc__law_far.nd rfl (Or.inl rfl) (pv 6)))))))
      (pss_one (ps_ret pe_non)))), ?_⟩
    refine fun sd hsd => ⟨_, rfl, ?_⟩
    have k0 := same_upd (o := .dK []) hsd
    refine ⟨a, _, l, rfl, upd_same, tl.by k0, fun H1 hH1 hS1 => ?_⟩
    have s1 : Same H H1 := fun b o e => by
      have : b ≠ sd := ne_of_none e hsd
      rw [hH1 b this]
      exact k0 _ _ e
    refine ⟨_, rfl, by show 1 ≤ sizeLine; decide, fun pl hpl => ⟨_, _, rfl, ?_⟩⟩
    have s2 := same_upd (o := .lst [V.ref a]) hpl
    refine ⟨_, rfl, _, _, rfl, rfl, _, rfl, by omega, by omega, ?_⟩
    refine for_it (walk_rangeN (n := ((M : Int) + 1).toNat)) (fun t σ H' => ∃ (p : Addr) (vs : List V) (S ls : List Lay) (y5 y6 y7 y8 y9 : Option V), σ = [some (.ref a), some (.ref a2), some (vN M), some (.ref sd), some (.ref p), y5, y6, y7, y8, y9] ∧ Same H H' ∧ SeenAt P w H' sd S ∧ H' p = some (.lst vs) ∧ TDs H' vs (ls.map eL) ∧ BInv l g t S ls)
      ⟨pl, [.ref a], [l], [l], none, none, none, none, none, rfl, s1.trans s2, hS1.by s2, upd_same, .cons (tl.by (s1.trans s2)) .nil, BInv.start l g⟩ (fun _ _ _ _ _ => trivial) (fun t x σ H' H'' ht p y => ?_) (fun σ H' p => ?_)
    · obtain ⟨p, vs, S, ls, y5, y6, y7, y8, y9, rfl, s', hS, hp, tv, inv⟩ := p
      obtain ⟨rfl, rfl⟩ := y
      refine ⟨_, rfl, _, rfl, sd, a2, g, S, rfl, rfl, hS, tg.by s', decide (g ∈ S), by simp, _, rfl, ?_⟩
      by_cases hgS : g ∈ S
      · rw [decide_eq_true hgS]
        refine iteT ?_
        obtain ⟨n, hn, hr⟩ := inv.1 g hgS
        have hnt : n = t := by
          by_cases z : n < t
          · exact absurd hr (inv.2.2.2.2 n z)
          · omega
        subst hnt
        exact ⟨_, rfl, q _ n s' hr inv.2.2.2.2⟩
      · rw [decide_eq_false hgS]
        refine iteF ?_
        refine ⟨Nat.zero_le _, fun f hf => ?_⟩
        have k3 := same_upd (o := .lst []) hf
        have hS3 := hS.by k3
        have hp3 := k3 _ _ hp
        have tv3 := tv.by k3
        have hf3 : upd H'' f (.lst []) f = some (.lst []) := upd_same
        have s3 := s'.trans k3
        have hfH : H f = none := s'.free hf
        have nsf : sd ≠ f := fun z => by
          subst z
          obtain ⟨xs, h1, _⟩ := hS
          rw [h1] at hf
          cases hf
        have nsp : p ≠ sd := fun z => by
          subst z
          obtain ⟨xs, h1, _⟩ := hS
          rw [h1] at hp
          cases hp
        have nfp : p ≠ f := ne_of_none hp hf
        have hgood : ∀ S' : List Lay, (∀ x ∈ S', ∃ n, n ≤ t + 1 ∧ Reach l n x) → S'.Nodup → S'.length ≤ 200000 := fun S' h1 h2 => few_lays hl3 S' h2 fun x hx => by
          obtain ⟨n, _, hr⟩ := h1 x hx
          exact hr.good gl
        generalize upd H'' f (.lst []) = H3 at *
        refine ⟨_, rfl, p, rfl, ⟨_, SqL.of hp3⟩, ?_⟩
        refine for_it (walk_list (K := K) (a := p) (xs := vs)) (fun k σ H4 => ∃ (ys : List V) (F : List Lay) (y7 y8 y9 : Option V), σ = [some (.ref a), some (.ref a2), some (vN M), some (.ref sd), some (.ref p), some (vN t), some (.ref f), y7, y8, y9] ∧ Bar [sd, f] H3 H4 ∧ Same H H4 ∧ TupS H3 H4 ∧ SeenAt P w H4 sd (S ++ F) ∧ H4 f = some (.lst ys) ∧ TDs H4 ys (F.map eL) ∧
            (∀ x ∈ F, ∃ n, n ≤ t + 1 ∧ Reach l n x) ∧ (∀ y ∈ ls.take k, ∀ s ∈ stepsL y, afterL y s ∈ S ++ F))
          ⟨[], [], y7, y8, y9, rfl, Bar.refl _ _, s3, TupS.refl _, by simpa using hS3, hf3, .nil, fun x hx => (nomatch hx), fun y hy => by simp at hy⟩ (fun k σ H4 _ pv => ?_) (fun k x σ H4 H4' hk pv y => ?_) (fun σ H4 pv => ?_)
        · obtain ⟨_, _, _, _, _, _, br, _⟩ := pv
          exact SqL.of (br _ _ (by simp [nsp, nfp]) hp3)
        · obtain ⟨ys, F, y7, y8, y9, rfl, br, sH, tS, hS4, hf4, ty4, hF, hall⟩ := pv
          obtain ⟨rfl, hxk⟩ := y
          obtain ⟨d, hd1, hd2⟩ := tv3.get hxk
          rw [List.getElem?_map] at hd1
          cases hjk : ls[k]? with
          | none => rw [hjk] at hd1; cases hd1
          | some yl =>
            rw [hjk] at hd1
            have : eL yl = d := Option.some.inj hd1
            subst this
            have hyl := inv.2.2.1 yl (List.mem_of_getElem? hjk)
            obtain ⟨ny, hny, hry⟩ := inv.1 yl hyl
            have gy := (hry.good gl).1
            have txl := hd2.to tS
            refine ⟨_, rfl, x, yl, rfl, txl, gy, fun H5 ps zs ss k5 hpn hps hzs pm => ?_⟩
            refine ⟨ps, rfl, ⟨_, SqL.of hps⟩, ?_⟩
            have hS5 := hS4.by k5
            have hf5 := k5 _ _ hf4
            have ty5 := ty4.by k5
            have hsl := steps_len gy
            have hssl := pm.length_eq
            have nps : ps ≠ sd := fun z => by
              subst z
              obtain ⟨xs, h1, _⟩ := hS5
              rw [h1] at hps
              cases hps
            have npf : ps ≠ f := Ne.symm (ne_of_none hf4 hpn)
            refine for_it (walk_list (K := K) (a := ps) (xs := zs)) (fun m σ H6 => ∃ (ys : List V) (F : List Lay) (y8 y9 : Option V), σ = [some (.ref a), some (.ref a2), some (vN M), some (.ref sd), some (.ref p), some (vN t), some (.ref f), some x, y8, y9] ∧ Bar [sd, f] H5 H6 ∧ Same H H6 ∧ TupS H5 H6 ∧ SeenAt P w H6 sd (S ++ F) ∧ H6 f = some (.lst ys) ∧ TDs H6 ys (F.map eL) ∧
                (∀ x ∈ F, ∃ n, n ≤ t + 1 ∧ Reach l n x) ∧ (∀ y ∈ ls.take k, ∀ s ∈ stepsL y, afterL y s ∈ S ++ F) ∧ (∀ s ∈ ss.take m, afterL yl s ∈ S ++ F))
              ⟨ys, F, y8, y9, rfl, Bar.refl _ _, sH.trans k5, TupS.refl _, hS5, hf5, ty5, hF, hall, fun s hs => by simp at hs⟩ (fun m σ H6 _ pv => ?_) (fun m z σ H6 H6' hm pv y => ?_) (fun σ H6 pv => ?_)
            · obtain ⟨_, _, _, _, _, br, _⟩ := pv
              exact SqL.of (br _ _ (by simp [nps, npf]) hps)
            · obtain ⟨ys, F, y8, y9, rfl, br6, sH6, tS6, hS6, hf6, ty6, hF, hall, hcur⟩ := pv
              obtain ⟨rfl, hzm⟩ := y
              obtain ⟨d, hd1, hd2'⟩ := hzs.get hzm
              rw [List.getElem?_map] at hd1
              cases hsm : ss[m]? with
              | none => rw [hsm] at hd1; cases hd1
              | some st =>
                rw [hsm] at hd1
                have : eS st = d := Option.some.inj hd1
                subst this
                have hst : st ∈ stepsL yl := pm.mem_iff.mp (List.mem_of_getElem? hsm)
                have sf := step_form gy hst
                have txl6 := (txl.by k5).to tS6
                have tst6 := hd2'.to tS6
                refine ⟨_, rfl, _, rfl, x, z, yl, st, rfl, txl6, tst6, gy, by omega, fun H7 r k7 tr => ?_⟩
                obtain ⟨ra, _, _, rfl, _⟩ := id tr.lI
                have hS7 := hS6.by k7
                have hf7 := k7 _ _ hf6
                have ty7 := ty6.by k7
                have b57 := br6.trans (Bar.of k7)
                have tS57 := tS6.trans (sameTup k7)
                refine ⟨_, rfl, _, rfl, sd, ra, afterL yl st, S ++ F, rfl, rfl, hS7, tr, !decide (afterL yl st ∈ S ++ F), by simp, _, rfl, ?_⟩
                by_cases hin : afterL yl st ∈ S ++ F
                · rw [decide_eq_true hin]
                  refine iteF ?_
                  refine ⟨ys, F, _, _, rfl, b57, sH6.trans k7, tS57, hS7, hf7, ty7, hF, hall, fun s hs => ?_⟩
                  rw [List.take_add_one, hsm] at hs
                  rcases List.mem_append.mp hs with hs | hs
                  · exact hcur s hs
                  · have : s = st := by simpa using hs
                    rw [this]
                    exact hin
                · rw [decide_eq_false hin]
                  refine iteT ?_
                  have hnew : ∀ x ∈ F ++ [afterL yl st], ∃ n, n ≤ t + 1 ∧ Reach l n x := fun x hx => by
                    rcases List.mem_append.mp hx with hx | hx
                    · exact hF x hx
                    · rw [List.mem_singleton] at hx
                      subst hx
                      exact ⟨ny + 1, by omega, hry.snoc hst⟩
                  have hSF : ∀ x ∈ S ++ F, ∃ n, n ≤ t + 1 ∧ Reach l n x := fun x hx => by
                    rcases List.mem_append.mp hx with hx | hx
                    · obtain ⟨n, hn, hr⟩ := inv.1 x hx
                      exact ⟨n, by omega, hr⟩
                    · exact hF x hx
                  have hlenS := hgood (S ++ F) hSF hS7.nd
                  refine ⟨_, rfl, _, rfl, sd, ra, afterL yl st, S ++ F, rfl, rfl, hS7, tr, hin, by rw [sizeLine_eq]; omega, fun H8 hH8 hS8 => ?_⟩
                  have t78 : TupS H7 H8 := fun b xs e => by
                    have : b ≠ sd := fun z => by subst z; exact hS7.bar (H' := H7) xs e
                    rw [hH8 b this]
                    exact e
                  have hf8 : H8 f = some (.lst ys) := by rw [hH8 f (Ne.symm nsf)]; exact hf7
                  have hly := ty7.len
                  rw [List.length_map] at hly
                  rw [List.length_append] at hlenS
                  refine ⟨_, rfl, .inl ⟨rfl, _, SqL.of hf8⟩, _, rfl, f, _, _, rfl, rfl, hf8, by rw [sizeLine_eq]; omega, ?_⟩
                  have t89 := tupS_lst (o := .lst (ys ++ [V.ref ra])) hf8
                  have b79 : Bar [sd, f] H7 (upd H8 f (.lst (ys ++ [V.ref ra]))) := fun b o nb e => by
                    have h1 : b ≠ sd := fun z => nb (by simp [z])
                    have h2 : b ≠ f := fun z => nb (by simp [z])
                    rw [upd_ne h2, hH8 b h1]
                    exact e
                  have s9 : Same H (upd H8 f (.lst (ys ++ [V.ref ra]))) := fun b o e => by
                    have h1 : b ≠ sd := ne_of_none e hsd
                    have h2 : b ≠ f := ne_of_none e hfH
                    rw [upd_ne h2, hH8 b h1]
                    exact (sH6.trans k7) _ _ e
                  have hS9 := hS8.to t89 (upd_ne nsf)
                  rw [List.append_assoc] at hS9
                  have sub : ∀ x, x ∈ S ++ F → x ∈ S ++ (F ++ [afterL yl st]) := fun x hx => by
                    rw [← List.append_assoc]
                    exact List.mem_append_left _ hx
                  refine ⟨ys ++ [.ref ra], F ++ [afterL yl st], _, _, rfl, b57.trans b79, s9, tS57.trans (t78.trans t89), hS9, upd_same, ?_, hnew, fun y hy s hs => sub _ (hall y hy s hs), fun s hs => ?_⟩
                  · rw [List.map_append]
                    exact ((ty7.snoc tr).to t78).to t89
                  · rw [List.take_add_one, hsm] at hs
                    rcases List.mem_append.mp hs with hs | hs
                    · exact sub _ (hcur s hs)
                    · have : s = st := by simpa using hs
                      rw [this]
                      simp
            · obtain ⟨ys, F, y8, y9, rfl, br6, sH6, tS6, hS6, hf6, ty6, hF, hall, hcur⟩ := pv
              have hzl := hzs.len
              rw [List.length_map] at hzl
              rw [hzl, List.take_length] at hcur
              refine ⟨ys, F, _, _, _, rfl, (br.trans (Bar.of k5)).trans br6, sH6, tS.trans ((sameTup k5).trans tS6), hS6, hf6, ty6, hF, fun y hy s hs => ?_⟩
              rw [List.take_add_one, hjk] at hy
              rcases List.mem_append.mp hy with hy | hy
              · exact hall y hy s hs
              · have : y = yl := by simpa using hy
                subst this
                exact hcur s (pm.mem_iff.mpr hs)
        · obtain ⟨ys, F, y7, y8, y9, rfl, br, sH, tS, hS4, hf4, ty4, hF, hall⟩ := pv
          have hvl := tv3.len
          rw [List.length_map] at hvl
          rw [hvl, List.take_length] at hall
          exact ⟨_, rfl, f, ys, S ++ F, F, _, _, _, _, _, rfl, sH, hS4, hf4, ty4, inv.next hgS hF hall⟩
    · obtain ⟨p, vs, S, ls, y5, y6, y7, y8, y9, rfl, s', hS, hp, tv, inv⟩ := p
      obtain ⟨n, hn, hr⟩ := hex
      exact absurd hr (inv.2.2.2.2 n (by omega))
end
end DC
end

section
set_option Elab.async false
set_option linter.all false
set_option maxRecDepth 100000
set_option maxHeartbeats 4000000
namespace DC
open PySem PySem.Spec PyProof.Rows L2
theorem hist_cost : ∀ {a b : Lay} {h : List Stp}, GoodL a → GoodL b → a.1 = b.1 → a.1 ≤ 4 → HistL a h → costL a b ≤ h.length + costL (endL a h) b
  | a, b, [], _, _, _, _, _ => by show costL a b ≤ 0 + costL a b; omega
  | a, b, s :: h, ga, gb, e, e4, ⟨h1, h2⟩ => by
    have i1 := hist_cost (b := b) (good_after ga h1) gb e e4 h2
    have i2 := cost_step ga gb e h1
    show costL a b ≤ ((h.length + 1 : Nat) : Int) + costL (endL (afterL a s) h) b
    omega
theorem cutL_alone (a b : Lay) : ((a.2 ++ b.2).filter fun j => !decide (j ∈ a.2) || !decide (j ∈ b.2)).length = (plainL a b).length := by
  have e1 : a.2.filter (fun j => !decide (j ∈ a.2) || !decide (j ∈ b.2)) = cutL a b := by
    unfold cutL
    refine List.filter_congr fun j hj => ?_
    simp [hj]
  have e2 : b.2.filter (fun j => !decide (j ∈ a.2) || !decide (j ∈ b.2)) = cutL b a := by
    unfold cutL
    refine List.filter_congr fun j hj => ?_
    simp [hj]
  rw [List.filter_append, e1, e2]
  unfold plainL
  rw [List.length_append, List.length_append, List.length_map, List.length_map]
theorem plainL_len {a b : Lay} (ga : GoodL a) (gb : GoodL b) : (plainL a b).length ≤ 24 := by
  have l1 := cutL_len a b
  have l2 := cutL_len b a
  have h1 := ga.len
  have h2 := gb.len
  unfold plainL
  rw [List.length_append, List.length_map, List.length_map]
  omega
theorem catA_of {K : PySem.W.Frag} {H : Hp} {a b : Addr} {xs ys : List V} {Q : VK} (ha : H a = some (.tup xs)) (hb : H b = some (.tup ys)) (hl : xs.length + ys.length ≤ sizeLine) (q : ∀ (H' : Hp) (p : Addr), Same H H' → H' p = some (.tup (xs ++ ys)) → Q (.ref p) H') : rCatA K (.ref a) (.ref b) H Q := by
  refine ⟨a, b, xs, ys, rfl, rfl, SqT.of ha, SqT.of hb, hl, fun h => ?_, fun _ h => ?_, fun _ _ p hp => q _ p (same_upd hp) upd_same⟩
  · refine q H b (Same.refl _) ?_
    rw [h]
    exact hb
  · refine q H a (Same.refl _) ?_
    rw [h, List.append_nil]
    exact ha
section
variable {P : Program} {w : World} {K : PySem.W.Frag} {mg : Str → Option Value} {base : Heap}
def sp__law_like (K : PySem.W.Frag) : Sp := fun vs H Q _ => (∃ b, vs = [.bl b, .bl b] ∧ Q (.bl true) H) ∨ ∃ (a a' : Addr) (ns : List Int), vs = [.ref a, .ref a'] ∧ SqL K H a (ns.map V.int) ∧ SqL K H a' (ns.map V.int) ∧
  (PyData.list (ns.map PyData.int)).showable = true ∧ (PyData.list (ns.map PyData.int)).shown.length ≤ sizeLine ∧ Q (.bl true) H
theorem ok__law_like (T : TX K mg) : OkG P w K mg base 1 "_law_like" ["_law_got", "_law_due"] (sp__law_like K) := by
  refine okG_of (k := 0) T.f__law_like sc__law_like (fun _ _ _ _ _ _ us hl => match us, hl with | [_, _], _ => rfl) (fun vs H Q E h => ?_) (fun cdv A outer s H vs Q E hr gd h => ?_)
  · rcases h with ⟨b, rfl, _⟩ | ⟨a, b, ns, rfl, _⟩ <;> rfl
  · rcases h with ⟨b, rfl, q⟩ | ⟨a, b, ns, rfl, h1, h2, h3, h4, q⟩
    · refine ⟨_, (pss_one (ps_ret (pe_cmpR op_eq (pe_callB (cr_repr gd (hu64 hr)) (by rfl) T.z_repr bt_repr (pa_cons (pv 0) pa_nil)) (pe_callB (cr_repr gd (hu64 hr)) (by rfl) T.z_repr bt_repr (pa_cons (pv 1) pa_nil)) (nomark _)))), ?_⟩
      refine ⟨_, rfl, .inl ⟨b, rfl, _, rfl, .inl ⟨b, rfl, rfl, ?_⟩⟩⟩
      exact qbl (Q := Q) (decide_eq_true rfl) q
    · refine ⟨_, (pss_one (ps_ret (pe_cmpR op_eq (pe_callB (cr_repr gd (hu64 hr)) (by rfl) T.z_repr bt_repr (pa_cons (pv 0) pa_nil)) (pe_callB (cr_repr gd (hu64 hr)) (by rfl) T.z_repr bt_repr (pa_cons (pv 1) pa_nil)) (nomark _)))), ?_⟩
      refine ⟨_, rfl, .inr ⟨a, ns, rfl, h1, h3, h4, _, rfl, .inr ⟨b, ns, rfl, h2, h3, h4, rfl, ?_⟩⟩⟩
      exact qbl (Q := Q) (decide_eq_true rfl) q
def sp__law_common_right : Sp := fun vs H Q _ => ∃ (v u : V) (a b : Lay), vs = [v, u, .int (costL a b)] ∧ TD H v (eL a) ∧ TD H u (eL b) ∧ GoodL a ∧ GoodL b ∧ a.1 = b.1 ∧ a.1 ≤ 4 ∧ ∀ H', Same H H' → Q (.bl true) H'
theorem ok__law_common_right (T : TX K mg) : Ok P w K mg base 8 "_law_common_right" ["_law_one", "_law_other", "_law_due"] sp__law_common_right := by
  have G_common := ok_common (P := P) (w := w) (base := base) T
  have G_pieces := ok_pieces (P := P) (w := w) (base := base) T
  have G_plain_history := ok_plain_history (P := P) (w := w) (base := base) T
  have G_last_lay := ok_last_lay (P := P) (w := w) (base := base) T
  refine ok_of (k := 7) T.f__law_common_right sc__law_common_right (fun _ _ _ _ _ _ us hl => match us, hl with | [_, _, _], _ => rfl) (fun vs H Q E h => ?_) (fun cdv A outer s H vs Q E hr h => ?_)
  · obtain ⟨v, u, a, b, rfl, _⟩ := h
    rfl
  · obtain ⟨v, u, a, b, rfl, ta, tb, ga, gb, hab, h4, q⟩ := h
    obtain ⟨c, c2, xs, rfl, hc, hc2, hx⟩ := id ta.lI
    obtain ⟨d, d2, ys, rfl, hd, hd2, hy⟩ := id tb.lI
    have la := ga.len
    have lb := gb.len
    have hlx := hx.len
    have hly := hy.len
    rw [List.length_map] at hlx hly
    have hbs := big_sum ga gb hab
    have hble := big_le ga gb hab
    have hcs := common_symm ga gb hab
    obtain ⟨hph, hpe⟩ := plain_hist ga gb hab
    have hpl := plainL_len ga gb
    have hpc := hist_cost (b := b) ga gb hab h4 hph
    rw [hpe, (cost_zero gb gb rfl).mpr rfl] at hpc
    have hrl := (rowsL_ok ga gb hab).1
    refine ⟨_, (pss_cons (ps_set (i := 3) sc__law_common_right.nd rfl (Or.inl rfl) (pe_op op_sub (pe_op op_mul pe_int (pe_ix ix_tup (pv 0) pe_int (fun _ _ => rfl))) (pe_callD G_common (hr.mono (by decide)) (pa_cons (pv 0) (pa_cons (pv 1) pa_nil)))))
      (pss_cons (ps_setLc (i := 4) (own := [("_law_pair_here", 7)]) (g := (gName 7)) (by rfl) sc__law_common_right.nd rfl rfl (sw_true rfl rfl rfl (by decide +kernel)) (pi_tup (pe_callD G_pieces (hr.mono (by decide)) (pa_cons (pv 0) (pa_cons (pv 1) pa_nil)))) (blkOk_by (own := [("_law_pair_here", 7)]) (N := N__law_common_right) (sc := defScope s__law_common_right) (by decide +kernel)) (fun _ _ _ _ _ => (pg_name (i := 7) sc__law_common_right.nd rfl (Or.inl rfl))) (fun _ _ _ _ _ => pts_one (pt_cmpR (op_notInEK (K := K) enc_Pc (by decide) (hu65 hr) rfl) (pv 7) (pe_tup (pa_cons (pe_tup (pa_cons pe_str (pa_cons pe_int pa_nil))) (pa_cons (pe_tup (pa_cons pe_str (pa_cons pe_int pa_nil))) pa_nil))) (by rfl))) (fun _ _ _ _ _ => (pe_ix (ix_tupK (K := K) rfl) (pv 7) pe_int (fun _ _ => rfl))))
      (pss_cons (ps_if (PW.pt (pw_or (pt_cmpR op_ne (pe_callB (cr_sum rfl) (by rfl) T.z_sum bt_sum (pa_cons (pv 4) pa_nil)) (pv 3) (nomark _)) (pw_or (pt_not (pt_cmpR op_le (pv 3) (pe_op op_mul pe_int (pv 2)) (nomark _))) (pw_or (pt_not (pt_cmpR op_le (pe_op op_mul pe_int (pv 2)) (pv 3) (nomark _))) (pw_or1 (pt_cmpR op_ne (pe_callD G_common (hr.mono (by decide)) (pa_cons (pv 1) (pa_cons (pv 0) pa_nil))) (pe_callD G_common (hr.mono (by decide)) (pa_cons (pv 0) (pa_cons (pv 1) pa_nil))) (nomark _))))))) (pss_one (ps_ret pe_bl)) pss_nil)
      (pss_cons (ps_set (i := 5) sc__law_common_right.nd rfl (Or.inl rfl) (pe_callD G_plain_history (hr.mono (by decide)) (pa_cons (pv 0) (pa_cons (pv 1) pa_nil))))
      (pss_cons (ps_setLc (i := 6) (own := [("_law_joint", 8)]) (g := (gName 8)) (by rfl) sc__law_common_right.nd rfl rfl (sw_true rfl rfl rfl (by decide +kernel)) (pi_tup (pe_op op_catA (pe_ix ix_tup (pv 0) pe_int (fun _ _ => rfl)) (pe_ix ix_tup (pv 1) pe_int (fun _ _ => rfl)))) (blkOk_by (own := [("_law_joint", 8)]) (N := N__law_common_right) (sc := defScope s__law_common_right) (by decide +kernel)) (fun _ _ _ _ _ => (pg_name (i := 8) sc__law_common_right.nd rfl (Or.inl rfl))) (fun _ _ _ _ _ => pts_one (PW.pt (pw_or (pt_cmpR (op_notInEK (K := K) enc_J (by decide) (hu65 hr) rfl) (pv 8) (pe_ix (ix_tupK (K := K) rfl) (pv 0) pe_int (fun _ _ => rfl)) (by rfl)) (pw_or1 (pt_cmpR (op_notInEK (K := K) enc_J (by decide) (hu65 hr) rfl) (pv 8) (pe_ix (ix_tupK (K := K) rfl) (pv 1) pe_int (fun _ _ => rfl)) (by rfl)))))) (fun _ _ _ _ _ => (pv 8)))
      (pss_one (ps_ret (pe_and (pe_cmpR op_eq (pe_callB call_len_seq (by rfl) T.z_len bt_len (pa_cons (pv 5) pa_nil)) (pe_callB call_len_seq (by rfl) T.z_len bt_len (pa_cons (pv 6) pa_nil)) (nomark _)) (pe_and (pe_cmpR op_ge (pe_callB call_len_seq (by rfl) T.z_len bt_len (pa_cons (pv 5) pa_nil)) (pv 2) (nomark _)) (pe_one (pe_cmpR (op_eqE enc_L (by decide) (hu64 hr)) (pe_callD G_last_lay (hr.mono (by decide)) (pa_cons (pv 0) (pa_cons (pv 5) pa_nil))) (pv 1) (nomark _)))))))))))), ?_⟩
    refine ⟨_, rfl, c, _, _, _, rfl, rfl, SqT.of hc, atI_nat (j := 0) rfl, (2 : Int), _, rfl, rfl, .inl ⟨by decide, by decide⟩, ?_⟩
    refine ⟨_, rfl, _, rfl, .ref c, .ref d, a, b, rfl, ta, tb, ga, gb, hab, fun H1 s1 => ?_⟩
    refine ⟨_, _, rfl, rfl, ?_⟩
    refine ⟨_, rfl, _, rfl, .ref c, .ref d, a, b, rfl, ta.by s1, tb.by s1, ga, gb, hab, fun H2 r ss s2 tr pm => ?_⟩
    obtain ⟨e, zs, rfl, he, hz⟩ := tr.listI
    have s12 := s1.trans s2
    refine ⟨e, rfl, ⟨_, SqT.of he⟩, fun D hD => ?_⟩
    have hss : ss.length ≤ 48 := by rw [pm.length_eq]; unfold piecesL; rw [List.length_map]; exact hrl
    refine lc_src (walk_tup (K := K) (a := e)) eNat (fun p : Pc => if (!decide (p ∈ [((0 : Fin 4), 2), (1, 1)])) = true then some p.2 else none) hD (small1000 (by omega)) hz (fun H s => SqT.of (s _ _ he)) (fun p x H' N M hp s tx kN kM => ?_) (fun H3 ws s3 hw ht => ?_)
    · obtain ⟨z, x1, x2, rfl, hz1, hz2, hz3⟩ := id tx.pairI
      refine ⟨rfl, ?_⟩
      refine ⟨_, rfl, by show 2 ≤ sizeLine; decide, fun p1 hp1 => ⟨by show 2 ≤ sizeLine; decide, fun p2 hp2 => ⟨by show 2 ≤ sizeLine; decide, fun p3 hp3 => ?_⟩⟩⟩
      have k1 := same_upd (o := .tup [V.str "ring", V.int 2]) hp1
      have k2 := same_upd (o := .tup [V.str "odd", V.int 1]) hp2
      have k3 := same_upd (o := .tup [V.ref p1, V.ref p2]) hp3
      have kk := (k1.trans k2).trans k3
      have t1 : TD _ (.ref p1) (ePc (0, 2)) := .tup (k3 _ _ (k2 _ _ upd_same)) (.cons (.str _) (.cons (.int _) .nil))
      have t2 : TD _ (.ref p2) (ePc (1, 1)) := .tup (k3 _ _ upd_same) (.cons (.str _) (.cons (.int _) .nil))
      refine ⟨p3, _, [((0 : Fin 4), 2), (1, 1)], p, rfl, .inl (SqT.of upd_same), .cons t1 (.cons t2 .nil), tx.by kk, !decide (p ∈ [((0 : Fin 4), 2), (1, 1)]), by simp, _, rfl, ?_⟩
      refine ite2 (fun e => ?_) (fun e => ?_)
      · refine ⟨_, rfl, z, _, _, _, rfl, rfl, SqT.of (kk _ _ hz1), atI_nat (j := 1) rfl, ?_⟩
        exact kN _ _ p.2 (if_pos e) kk (hz3.by kk)
      · exact kM _ (if_neg e) kk
    · rw [fm_filter_map] at ht
      have ew := tds_nats_inv ht
      have s123 := s12.trans s3
      have hsum : (ws.map id) = ws := by simp
      have hbig : (((ss.filter fun p => !decide (p ∈ [((0 : Fin 4), 2), (1, 1)])).map (·.2)).map fun n : Nat => (n : Int)).sum = ((2 * a.1 : Nat) : Int) - commonL a b := by
        have e1 : ((bigL a b).map (·.2)).sum = ((ss.filter fun p => !decide (p ∈ [((0 : Fin 4), 2), (1, 1)])).map (·.2)).sum := (((pm.filter _).map _).sum_nat).symm
        have e2 : ∀ l : List Nat, (l.map fun n : Nat => (n : Int)).sum = ((l.sum : Nat) : Int) := fun l => by
          induction l with
          | nil => rfl
          | cons x l ih => rw [List.map_cons, List.sum_cons, List.sum_cons, ih]; omega
        rw [e2, ← e1]
        omega
      have ew2 : ws = ((((ss.filter fun p => !decide (p ∈ [((0 : Fin 4), 2), (1, 1)])).map (·.2)).map fun n : Nat => (n : Int)).map V.int) := by
        rw [ew]
        simp only [List.map_map]
        rfl
      rw [ew2] at hw
      refine ⟨_, rfl, D, _, rfl, SqL.of hw, _, rfl, rfl, _, rfl, ?_⟩
      rw [hbig]
      refine iteNS ?_ ?_
      · show V.int _ = V.int _
        rw [Int.natCast_mul]
        rfl
      refine ⟨_, rfl, _, rfl, (4 : Int), _, rfl, rfl, .inl ⟨by decide, by decide⟩, _, _, rfl, rfl, _, rfl, ?_⟩
      refine iteNS ?_ ?_
      · have := hble.1
        show 2 * (a.1 : Int) - (commonL a b : Int) ≤ 4 * costL a b
        omega
      refine ⟨_, rfl, (2 : Int), _, rfl, rfl, .inl ⟨by decide, by decide⟩, _, rfl, _, _, rfl, rfl, _, rfl, ?_⟩
      refine iteNS ?_ ?_
      · have := hble.2
        show 2 * costL a b ≤ 2 * (a.1 : Int) - (commonL a b : Int)
        omega
      refine ⟨_, rfl, _, rfl, .ref d, .ref c, b, a, rfl, tb.by s123, ta.by s123, gb, ga, hab.symm, fun H4 s4 => ?_⟩
      have s14 := s123.trans s4
      refine ⟨_, rfl, _, rfl, .ref c, .ref d, a, b, rfl, ta.by s14, tb.by s14, ga, gb, hab, fun H5 s5 => ?_⟩
      have s15 := s14.trans s5
      refine ⟨rfl, _, rfl, ?_⟩
      refine iteNS (by rw [hcs]) ?_
      refine ⟨_, rfl, _, rfl, .ref c, .ref d, a, b, rfl, ta.by s15, tb.by s15, ga, gb, hab, fun H6 r6 s6 t6 => ?_⟩
      have s16 := s15.trans s6
      obtain ⟨h6, hs6, rfl, hh6, ht6⟩ := id t6.listI
      have hl6 := ht6.len
      rw [List.length_map] at hl6
      refine ⟨_, rfl, c, _, _, _, rfl, rfl, SqT.of (s16 _ _ hc), atI_nat (j := 1) rfl, _, rfl, d, _, _, _, rfl, rfl, SqT.of (s16 _ _ hd), atI_nat (j := 1) rfl, ?_⟩
      refine catA_of (s16 _ _ hc2) (s16 _ _ hd2) (Nat.le_of_lt (small1000 (by omega))) (fun H7 p7 s7 hp7 => ?_)
      have s17 := s16.trans s7
      have hxy : TDs H7 (xs ++ ys) ((a.2 ++ b.2).map eJ) := by
        rw [List.map_append]
        exact (hx.by s17).app (hy.by s17)
      refine ⟨p7, rfl, ⟨_, SqT.of hp7⟩, fun D8 hD8 => ?_⟩
      refine lc_src (walk_tup (K := K) (a := p7)) eJ (fun j : Jt => if (!decide (j ∈ a.2) || !decide (j ∈ b.2)) = true then some j else none) hD8 (small1000 (by rw [List.length_append]; omega)) hxy (fun H s => SqT.of (s _ _ hp7)) (fun j x H' N M hj s tx kN kM => ?_) (fun H9 us s9 hu9 ht9 => ?_)
      · have s18 := s17.trans s
        refine ⟨rfl, ?_⟩
        refine ⟨_, rfl, _, rfl, c, _, _, _, rfl, rfl, SqT.of (s18 _ _ hc), atI_nat (j := 1) rfl, c2, xs, a.2, j, rfl, .inl (SqT.of (s18 _ _ hc2)), hx.by s18, tx, !decide (j ∈ a.2), by simp, _, rfl, ?_⟩
        refine ite2 (fun e1 => ?_) (fun e1 => ?_)
        · refine ⟨_, rfl, kN _ _ j (if_pos ?_) (Same.refl _) tx⟩
          rw [Bool.or_eq_true]
          exact .inl e1
        · refine ⟨_, rfl, _, rfl, d, _, _, _, rfl, rfl, SqT.of (s18 _ _ hd), atI_nat (j := 1) rfl, d2, ys, b.2, j, rfl, .inl (SqT.of (s18 _ _ hd2)), hy.by s18, tx, !decide (j ∈ b.2), by simp, _, rfl, ?_⟩
          refine ite2 (fun e2 => ?_) (fun e2 => ?_)
          · refine ⟨_, rfl, kN _ _ j (if_pos ?_) (Same.refl _) tx⟩
            rw [Bool.or_eq_true]
            exact .inr e2
          · refine kM _ (if_neg fun z => ?_) (Same.refl _)
            rw [Bool.or_eq_true] at z
            exact z.elim e1 e2
      · rw [fm_filter] at ht9
        have hl9 := ht9.len
        rw [List.length_map, cutL_alone] at hl9
        have s19 := s17.trans s9
        have hh9 := s9 _ _ (s7 _ _ hh6)
        refine ⟨_, rfl, h6, _, rfl, .inr (SqT.of hh9), _, rfl, D8, _, rfl, .inl (SqL.of hu9), rfl, _, rfl, ?_⟩
        refine iteYD (by rw [hl6, hl9]) ?_
        refine ⟨_, rfl, h6, _, rfl, .inr (SqT.of hh9), _, rfl, _, _, rfl, rfl, _, rfl, ?_⟩
        refine iteYD (by rw [hl6]; omega) ?_
        refine ⟨_, rfl, _, rfl, .ref c, .ref h6, a, plainL a b, rfl, ta.by s19, (t6.by s7).by s9, ga, hph, by omega, fun H10 r10 s10 t10 => ?_⟩
        rw [hpe] at t10
        refine ⟨_, rfl, b, b, t10, tb.by (s19.trans s10), true, ⟨fun _ => rfl, fun _ => rfl⟩, ?_⟩
        exact q _ (s19.trans s10)
end
end DC
end

section
set_option Elab.async false
set_option linter.all false
set_option maxRecDepth 100000
set_option maxHeartbeats 4000000
namespace DC
open PySem PySem.Spec PyProof.Rows L2
theorem reach_least : ∀ (n : Nat) {a b : Lay}, GoodL a → GoodL b → a.1 = b.1 → costL a b = (n : Int) → Reach a n b
  | 0, a, b, ga, gb, e, h => by
    have : a = b := (cost_zero ga gb e).mp (by simpa using h)
    subst this
    exact Reach.zero _
  | n + 1, a, b, ga, gb, e, h => by
    have hne : a ≠ b := fun z => by
      have := (cost_zero ga gb e).mpr z
      omega
    obtain ⟨s, hs, hc⟩ := good_step ga gb e hne
    obtain ⟨h1, q1, q2, q3⟩ := reach_least n (good_after ga hs) gb (show (afterL a s).1 = b.1 from e) (by rw [hc, h]; omega)
    exact ⟨s :: h1, ⟨hs, q1⟩, q2, by simp [q3]⟩
theorem reach_cost {a b : Lay} {t : Nat} (ga : GoodL a) (gb : GoodL b) (e : a.1 = b.1) (h4 : a.1 ≤ 4) (h : Reach a t b) (hn : ∀ n, n < t → ¬ Reach a n b) : (t : Int) = costL a b := by
  have c0 := cost_nonneg ga gb e
  have r := reach_least (costL a b).toNat ga gb e (by omega)
  have h1 : ¬ (costL a b).toNat < t := fun z => hn _ z r
  obtain ⟨h2, q1, q2, q3⟩ := h
  have := hist_cost (b := b) ga gb e h4 q1
  rw [q2, (cost_zero gb gb rfl).mpr rfl] at this
  omega
theorem reach_ex {a b : Lay} (ga : GoodL a) (gb : GoodL b) (e : a.1 = b.1) (h4 : a.1 ≤ 4) : ∃ n, n ≤ 4 ∧ Reach a n b := by
  have c0 := cost_nonneg ga gb e
  have c1 := cost_few ga gb e
  exact ⟨(costL a b).toNat, by omega, reach_least _ ga gb e (by omega)⟩
section
variable {P : Program} {w : World} {K : PySem.W.Frag} {mg : Str → Option Value} {base : Heap}
def sp__law_moved_right : Sp := fun vs H Q _ => ∃ (du g c : Addr) (B : Nat) (v u : V) (a b : Lay), vs = [.ref du, v, u, .int (costL a b)] ∧ Mach du g c B H ∧ B + 200 ≤ 1000000 ∧ TD H v (eL a) ∧ TD H u (eL b) ∧ GoodL a ∧ GoodL b ∧ a.1 = b.1 ∧ a.1 ≤ 4 ∧
  ∀ H', Bar [du, g] H H' → Mach du g c (B + 200) H' → Q (.bl true) H'
theorem ok__law_moved_right (T : TX K mg) : Ok P w K mg base 7 "_law_moved_right" ["_law_m", "_law_one", "_law_other", "_law_due"] sp__law_moved_right := by
  have G__law_shuffled := ok__law_shuffled (P := P) (w := w) (base := base) T
  have G__law_draw := ok__law_draw (P := P) (w := w) (base := base) T
  have G_renamed := ok_renamed (P := P) (w := w) (base := base) T
  have G_least_steps := ok_least_steps (P := P) (w := w) (base := base) T
  have G_common := ok_common (P := P) (w := w) (base := base) T
  have G_without := ok_without (P := P) (w := w) (base := base) T
  have G_beside := ok_beside (P := P) (w := w) (base := base) T
  have G__law_lay := ok__law_lay (P := P) (w := w) (base := base) T
  have G__law_far := ok__law_far (P := P) (w := w) (base := base) T
  refine ok_of (k := 6) T.f__law_moved_right sc__law_moved_right (fun _ _ _ _ _ _ us hl => match us, hl with | [_, _, _, _], _ => rfl) (fun vs H Q E h => ?_) (fun cdv A outer s H vs Q E hr h => ?_)
  · obtain ⟨du, g, c, B, v, u, a, b, rfl, _⟩ := h
    rfl
  · obtain ⟨du, g, c, B, v, u, a, b, rfl, hm, hB, ta, tb, ga, gb, hab, h4, q⟩ := h
    obtain ⟨x, x2, xs, rfl, hx1, hx2, hx3⟩ := id ta.lI
    obtain ⟨y, y2, ys, rfl, hy1, hy2, hy3⟩ := id tb.lI
    refine ⟨_, (pss_cons (ps_set (i := 4) sc__law_moved_right.nd rfl (Or.inl rfl) (pe_callTy call_tuple_of (by rfl) T.z_tuple bt_tuple (pa_cons (pe_lc (own := [("_law_name", 10)]) (g := (gName 10)) (by rfl) sc__law_moved_right.nd (pi_tup (pe_callD G__law_shuffled (hr.mono (by decide)) (pa_cons (pv 0) (pa_cons (pe_ix ix_tup (pv 1) pe_int (fun _ _ => rfl)) pa_nil)))) (blkOk_by (own := [("_law_name", 10)]) (N := N__law_moved_right) (sc := defScope s__law_moved_right) (by decide +kernel)) (fun _ _ _ _ _ => (pg_name (i := 10) sc__law_moved_right.nd rfl (Or.inl rfl))) (fun _ _ _ _ _ => pts_nil) (fun _ _ _ _ _ => (pe_op op_mul (pe_op op_add (pv 10) pe_int) (pe_ix (ix_listK (K := K) rfl) (pe_lst (pa_cons pe_int (pa_cons (pe_un un_neg pe_int) pa_nil))) (pe_callD G__law_draw (hr.mono (by decide)) (pa_cons (pv 0) (pa_cons pe_int pa_nil))) (fun _ _ => rfl))))) pa_nil)))
      (pss_cons (ps_par (i := 5) (j := 6) (by rfl) sc__law_moved_right.nd rfl rfl (by decide) rfl rfl (pa_cons (pe_callD G_renamed (hr.mono (by decide)) (pa_cons (pv 1) (pa_cons (pv 4) pa_nil))) (pa_cons (pe_callD G_renamed (hr.mono (by decide)) (pa_cons (pv 2) (pa_cons (pv 4) pa_nil))) pa_nil)) (by rfl))
      (pss_cons (ps_if (PW.pt (pw_or (pt_cmpR op_ne (pe_callD G_least_steps (hr.mono (by decide)) (pa_cons (pv 5) (pa_cons (pv 6) pa_nil))) (pv 3) (nomark _)) (pw_or1 (pt_cmpR op_ne (pe_callD G_common (hr.mono (by decide)) (pa_cons (pv 5) (pa_cons (pv 6) pa_nil))) (pe_callD G_common (hr.mono (by decide)) (pa_cons (pv 1) (pa_cons (pv 2) pa_nil))) (nomark _))))) (pss_one (ps_ret pe_bl)) pss_nil)
      (pss_cons (ps_set (i := 7) sc__law_moved_right.nd rfl (Or.inl rfl) (pe_callD G__law_draw (hr.mono (by decide)) (pa_cons (pv 0) (pa_cons (pe_ix ix_tup (pv 1) pe_int (fun _ _ => rfl)) pa_nil))))
      (pss_cons (ps_if (PW.pt (pw_and (pt_cmpR op_gt (pe_ix ix_tup (pv 1) pe_int (fun _ _ => rfl)) pe_int (nomark _)) (pw_and1 (pt_cmpR op_gt (pe_callD G_least_steps (hr.mono (by decide)) (pa_cons (pe_callD G_without (hr.mono (by decide)) (pa_cons (pv 1) (pa_cons (pv 7) pa_nil))) (pa_cons (pe_callD G_without (hr.mono (by decide)) (pa_cons (pv 2) (pa_cons (pv 7) pa_nil))) pa_nil))) (pv 3) (nomark _))))) (pss_one (ps_ret pe_bl)) pss_nil)
      (pss_cons (ps_set (i := 8) sc__law_moved_right.nd rfl (Or.inl rfl) (pe_tup (pa_cons (pe_callD G__law_lay (hr.mono (by decide)) (pa_cons (pv 0) (pa_cons pe_int pa_nil))) (pa_cons (pe_callD G__law_lay (hr.mono (by decide)) (pa_cons (pv 0) (pa_cons pe_int pa_nil))) pa_nil))))
      (pss_cons (ps_set (i := 9) sc__law_moved_right.nd rfl (Or.inl rfl) (pe_callD G_least_steps (hr.mono (by decide)) (pa_cons (pe_callD G_beside (hr.mono (by decide)) (pa_cons (pv 1) (pa_cons (pe_ix ix_tup (pv 8) pe_int (fun _ _ => rfl)) pa_nil))) (pa_cons (pe_callD G_beside (hr.mono (by decide)) (pa_cons (pv 2) (pa_cons (pe_ix ix_tup (pv 8) pe_int (fun _ _ => rfl)) pa_nil))) pa_nil))))
      (pss_one (ps_ret (pe_cmpR op_eq (pv 9) (pe_op op_add (pv 3) (pe_callD G__law_far (hr.mono (by decide)) (pa_cons (pe_ix ix_tup (pv 8) pe_int (fun _ _ => rfl)) (pa_cons (pe_ix ix_tup (pv 8) pe_int (fun _ _ => rfl)) (pa_cons pe_int pa_nil))))) (nomark _))))))))))), ?_⟩
    refine ⟨_, rfl, _, rfl, x, _, _, _, rfl, rfl, SqT.of hx1, atI_nat (j := 0) rfl, du, g, c, B, a.1, rfl, hm, by omega, by omega, fun H1 sv L b1 m1 tv pm => ?_⟩
    obtain ⟨p, zs, rfl, hp, tz⟩ := tv.listI
    have hzs := tds_nats_inv tz
    subst hzs
    have hLl : L.length = a.1 := by rw [pm.length_eq, List.length_range]
    have t1 := hm.tup b1
    refine ⟨p, rfl, ⟨_, SqT.of hp⟩, fun D hD => ?_⟩
    have kD := same_upd (o := .lst []) hD
    have nD := m1.new hD
    have nD3 := m1.new3 hD
    refine lc_it (walk_tup (K := K) (a := p) (xs := L.map vN)) (fun i H' => ∃ os : List Int, Bar [du, g] (upd H1 D (.lst [])) H' ∨ True → TupS H1 H' ∧ (∀ z o, z ∉ [du, g] → z ≠ D → H1 z = some o → H' z = some o) ∧ Mach du g c (B + a.1 + i) H' ∧ H' D = some (.lst (os.map V.int)) ∧ os.map Int.natAbs = (L.take i).map (· + 1))
      ⟨[], fun _ => ⟨sameTup kD, fun z o _ _ e => kD _ _ e, (m1.by kD).mono (by omega), upd_same, by simp⟩⟩ (fun i H' _ pv => ?_) (fun i z H' H'' hi pv yv => ?_) (fun H' pv => ?_)
    · obtain ⟨os, pv⟩ := pv
      obtain ⟨tt, _⟩ := pv (.inr trivial)
      exact SqT.of (tt _ _ hp)
    · obtain ⟨os, pv⟩ := pv
      obtain ⟨tt, keep, mc, hD', hos⟩ := pv (.inr trivial)
      obtain ⟨rfl, hzi⟩ := yv
      rw [List.getElem?_map] at hzi
      cases hLi : L[i]? with
      | none => rw [hLi] at hzi; cases hzi
      | some e =>
        rw [hLi] at hzi
        have ez : z = vN e := (Option.some.inj hzi).symm
        subst ez
        rw [List.length_map, hLl] at hi
        refine ⟨rfl, ?_⟩
        refine ⟨_, rfl, _, _, rfl, rfl, 1, rfl, by show 2 ≤ sizeLine; decide, fun q1 hq1 => ?_⟩
        have k1 := same_upd (o := .lst [V.int 1, V.int (-1)]) hq1
        have hq1' : upd H'' q1 (.lst [V.int 1, V.int (-1)]) q1 = some (.lst [V.int 1, V.int (-1)]) := upd_same
        have nq := mc.new hq1
        refine ⟨_, rfl, du, g, c, _, 2, rfl, mc.by k1, by omega, by decide, by decide, fun H3 r b3 m3 hr3 => ?_⟩
        have hq3 := b3 _ _ nq hq1'
        have hD3 := b3 _ _ nD (k1 _ _ hD')
        have tt3 := tt.trans ((sameTup k1).trans ((mc.by k1).tup b3))
        have keep3 : ∀ z o, z ∉ [du, g] → z ≠ D → H1 z = some o → H3 z = some o := fun z o n1 n2 e => b3 _ _ n1 (k1 _ _ (keep z o n1 n2 e))
        have hlen : os.length ≤ 4 := by
          have := congrArg List.length hos
          rw [List.length_map, List.length_map, List.length_take] at this
          omega
        have fin : ∀ sg : Int, sg.natAbs = 1 → ∃ acc, H3 D = some (.lst acc) ∧ acc.length < sizeLine ∧ ∃ os' : List Int, Bar [du, g] (upd H1 D (.lst [])) (upd H3 D (.lst (acc ++ [V.int (((e : Int) + 1) * sg)]))) ∨ True → TupS H1 (upd H3 D (.lst (acc ++ [V.int (((e : Int) + 1) * sg)]))) ∧ (∀ z o, z ∉ [du, g] → z ≠ D → H1 z = some o → upd H3 D (.lst (acc ++ [V.int (((e : Int) + 1) * sg)])) z = some o) ∧ Mach du g c (B + a.1 + (i + 1)) (upd H3 D (.lst (acc ++ [V.int (((e : Int) + 1) * sg)]))) ∧ upd H3 D (.lst (acc ++ [V.int (((e : Int) + 1) * sg)])) D = some (.lst (os'.map V.int)) ∧ os'.map Int.natAbs = (L.take (i + 1)).map (· + 1) := fun sg hsg => by
          refine ⟨_, hD3, small1000 (by rw [List.length_map]; omega), os ++ [((e : Int) + 1) * sg], fun _ => ⟨tt3.trans (tupS_lst hD3), fun z o n1 n2 e => ?_, (m3.put nD3).mono (by omega), ?_, ?_⟩⟩
          · rw [upd_ne n2]
            exact keep3 z o n1 n2 e
          · rw [upd_same, List.map_append]
            rfl
          · rw [List.map_append, hos, List.take_add_one, hLi, List.map_append]
            have : (((e : Int) + 1) * sg).natAbs = e + 1 := by
              rw [Int.natAbs_mul, hsg, Nat.mul_one]
              omega
            show _ ++ [(((e : Int) + 1) * sg).natAbs] = _
            rw [this]
            rfl
        have hr2 : r = 0 ∨ r = 1 := by omega
        rcases hr2 with rfl | rfl
        · refine ⟨q1, _, _, _, rfl, rfl, SqL.of hq3, atI_nat (j := 0) rfl, _, (1 : Int), rfl, rfl, .inr ⟨by decide, by decide⟩, ?_⟩
          exact fin 1 rfl
        · refine ⟨q1, _, _, _, rfl, rfl, SqL.of hq3, atI_nat (j := 1) rfl, _, (-1 : Int), rfl, rfl, .inr ⟨by decide, by decide⟩, ?_⟩
          exact fin (-1) rfl
    · obtain ⟨os, pv⟩ := pv
      obtain ⟨tt, keep, mc, hD', hos⟩ := pv (.inr trivial)
      rw [List.length_map, List.take_length] at hos
      rw [List.length_map, hLl] at mc
      have ho : Order a.1 os := by
        refine ⟨?_, ?_⟩
        · have := congrArg List.length hos
          rw [List.length_map, List.length_map] at this
          omega
        · rw [hos]
          exact pm.map _
      have barA : Bar [du, g] H H' := fun z o n e => keep z o n (ne_of_none (b1 z o n e) hD) (b1 z o n e)
      refine ⟨D, _, rfl, .inl ⟨SqL.of hD', fun p2 hp2 => ?_⟩⟩
      have k2 := same_upd (o := .tup (os.map V.int)) hp2
      have to2 : TD (upd H' p2 (.tup (os.map V.int))) (.ref p2) (eT eInt os) := .tup upd_same (tds_ints os)
      have bar2 := barA.trans (Bar.of k2)
      have m2 := mc.by k2
      have ta2 := (ta.to (t1.trans tt)).by k2
      have tb2 := (tb.to (t1.trans tt)).by k2
      generalize upd H' p2 (.tup (os.map V.int)) = H2 at *
      have gra := rename_good ga ho
      have grb := rename_good gb (show OrderN b.1 os from hab ▸ ho)
      have hrc := rename_cost ga gb hab ho
      have hrm := rename_common ga gb hab ho
      refine ⟨_, rfl, _, rfl, _, _, a, os, rfl, ta2, to2, ga, ho, fun H3 r3 s3 t3 => ?_⟩
      refine ⟨_, rfl, _, rfl, _, _, b, os, rfl, tb2.by s3, to2.by s3, gb, hab ▸ ho, fun H5 r5 s5 t5 => ⟨_, _, rfl, ?_⟩⟩
      refine ⟨_, rfl, _, rfl, r3, r5, _, _, rfl, t3.by s5, t5, gra, grb, hab, fun H6 s6 => ?_⟩
      refine ⟨_, rfl, rfl, _, rfl, ?_⟩
      rw [hrc]
      refine iteNS rfl ?_
      have s36 := (s3.trans s5).trans s6
      refine ⟨_, rfl, _, rfl, r3, r5, _, _, rfl, (t3.by s5).by s6, t5.by s6, gra, grb, hab, fun H7 s7 => ?_⟩
      have s37 := s36.trans s7
      refine ⟨_, rfl, _, rfl, _, _, a, b, rfl, ta2.by s37, tb2.by s37, ga, gb, hab, fun H8 s8 => ?_⟩
      have s38 := s37.trans s8
      refine ⟨rfl, _, rfl, ?_⟩
      rw [hrm]
      refine iteNS rfl ?_
      have bar8 := bar2.trans (Bar.of s38)
      have m8 := m2.by s38
      have ta8 := ta2.by s38
      have tb8 := tb2.by s38
      obtain ⟨x', x2', xs', ex, hx8, _⟩ := ta8.lI
      cases ex
      refine ⟨_, rfl, _, rfl, x, _, _, _, rfl, rfl, SqT.of hx8, atI_nat (j := 0) rfl, du, g, c, _, a.1, rfl, m8, by omega, by have := ga.pos; omega, by omega, fun HB k bB mB hk => ?_⟩
      have tB := m8.tup bB
      have taB := ta8.to tB
      have tbB := tb8.to tB
      have barB := bar8.trans bB
      have hxB := tB _ _ hx8
      refine ⟨_, rfl, x, _, _, _, rfl, rfl, SqT.of hxB, atI_nat (j := 0) rfl, _, _, rfl, rfl, _, rfl, ?_⟩
      by_cases h1 : 1 < a.1
      · refine iteYD (by omega) ?_
        refine ⟨_, rfl, _, rfl, _, a, k, rfl, taB, ga, h1, hk, fun H9 r9 s9 t9 => ?_⟩
        refine ⟨_, rfl, _, rfl, _, b, k, rfl, tbB.by s9, gb, by omega, by omega, fun H10 r10 s10 t10 => ?_⟩
        have hwc := without_cost ga gb hab h1 hk
        refine ⟨r9, r10, _, _, rfl, t9.by s10, t10, without_good ga h1 hk, without_good gb (by omega) (by omega), by show a.1 - 1 = b.1 - 1; omega, fun H11 s11 => ?_⟩
        refine ⟨_, rfl, _, _, rfl, rfl, _, rfl, ?_⟩
        refine iteND (by omega) ?_
        have sB := (s9.trans s10).trans s11
        have barB := barB.trans (Bar.of sB)
        have mB := mB.by sB
        have taB := taB.by sB
        have tbB := tbB.by sB
        refine ⟨_, rfl, du, g, c, _, 2, rfl, mB, by omega, by decide, by decide, fun HC vc lc bC mC tc gc ec => ?_⟩
        have tC := mB.tup bC
        refine ⟨_, rfl, du, g, c, _, 2, rfl, mC, by omega, by decide, by decide, fun HD vd ld bD2 mD td gd ed => ?_⟩
        have tD := mC.tup bD2
        refine ⟨by show 2 ≤ sizeLine; decide, fun sm hsm => ?_⟩
        have kS := same_upd (o := .tup [vc, vd]) hsm
        have bE := (barB.trans (bC.trans bD2)).trans (Bar.of kS)
        have mE := mD.by kS
        have tcE := (tc.to tD).by kS
        have tdE := td.by kS
        have taE := (taB.to (tC.trans tD)).by kS
        have tbE := (tbB.to (tC.trans tD)).by kS
        have hsm' : upd HD sm (.tup [vc, vd]) sm = some (.tup [vc, vd]) := upd_same
        generalize upd HD sm (.tup [vc, vd]) = HE at *
        refine ⟨_, rfl, _, rfl, sm, _, _, _, rfl, rfl, SqT.of hsm', atI_nat (j := 0) rfl, _, vc, a, lc, rfl, taE, tcE, ga, gc, by omega, fun HF rf sF tF => ?_⟩
        refine ⟨_, rfl, _, rfl, sm, _, _, _, rfl, rfl, SqT.of (sF _ _ hsm'), atI_nat (j := 1) rfl, _, vd, b, ld, rfl, tbE.by sF, tdE.by sF, gb, gd, by omega, fun HG rg sG tG => ?_⟩
        have hbe := beside_cost ga gb gc gd hab (ec.trans ed.symm) (by omega)
        refine ⟨rf, rg, besideL a lc, besideL b ld, rfl, tF.by sG, tG, beside_good ga gc (by omega), beside_good gb gd (by omega), by show a.1 + lc.1 = b.1 + ld.1; omega, fun HH sH => ?_⟩
        have sEH := (sF.trans sG).trans sH
        refine ⟨_, rfl, _, rfl, _, rfl, sm, _, _, _, rfl, rfl, SqT.of (sEH _ _ hsm'), atI_nat (j := 0) rfl, _, rfl, sm, _, _, _, rfl, rfl, SqT.of (sEH _ _ hsm'), atI_nat (j := 1) rfl, vc, vd, lc, ld, 4, rfl, tcE.by sEH, tdE.by sEH, gc, gd, ec.trans ed.symm, by omega, by decide, reach_ex gc gd (ec.trans ed.symm) (by omega), fun HI tt sI hr1 hr2 => ?_⟩
        have hrc := reach_cost gc gd (ec.trans ed.symm) (by omega) hr1 hr2
        refine ⟨_, _, rfl, rfl, rfl, ?_⟩
        refine qbl (Q := Q) (decide_eq_true ?_) (q _ (bE.trans (Bar.of (sEH.trans sI))) (((mE.by sEH).by sI).mono (by omega)))
        show V.int _ = V.int _
        rw [hbe]
        congr 1
        have : (tt : Int) = costL lc ld := hrc
        omega
      · refine iteND (by omega) ?_
        refine ⟨_, rfl, du, g, c, _, 2, rfl, mB, by omega, by decide, by decide, fun HC vc lc bC mC tc gc ec => ?_⟩
        have tC := mB.tup bC
        refine ⟨_, rfl, du, g, c, _, 2, rfl, mC, by omega, by decide, by decide, fun HD vd ld bD2 mD td gd ed => ?_⟩
        have tD := mC.tup bD2
        refine ⟨by show 2 ≤ sizeLine; decide, fun sm hsm => ?_⟩
        have kS := same_upd (o := .tup [vc, vd]) hsm
        have bE := (barB.trans (bC.trans bD2)).trans (Bar.of kS)
        have mE := mD.by kS
        have tcE := (tc.to tD).by kS
        have tdE := td.by kS
        have taE := (taB.to (tC.trans tD)).by kS
        have tbE := (tbB.to (tC.trans tD)).by kS
        have hsm' : upd HD sm (.tup [vc, vd]) sm = some (.tup [vc, vd]) := upd_same
        generalize upd HD sm (.tup [vc, vd]) = HE at *
        refine ⟨_, rfl, _, rfl, sm, _, _, _, rfl, rfl, SqT.of hsm', atI_nat (j := 0) rfl, _, vc, a, lc, rfl, taE, tcE, ga, gc, by omega, fun HF rf sF tF => ?_⟩
        refine ⟨_, rfl, _, rfl, sm, _, _, _, rfl, rfl, SqT.of (sF _ _ hsm'), atI_nat (j := 1) rfl, _, vd, b, ld, rfl, tbE.by sF, tdE.by sF, gb, gd, by omega, fun HG rg sG tG => ?_⟩
        have hbe := beside_cost ga gb gc gd hab (ec.trans ed.symm) (by omega)
        refine ⟨rf, rg, besideL a lc, besideL b ld, rfl, tF.by sG, tG, beside_good ga gc (by omega), beside_good gb gd (by omega), by show a.1 + lc.1 = b.1 + ld.1; omega, fun HH sH => ?_⟩
        have sEH := (sF.trans sG).trans sH
        refine ⟨_, rfl, _, rfl, _, rfl, sm, _, _, _, rfl, rfl, SqT.of (sEH _ _ hsm'), atI_nat (j := 0) rfl, _, rfl, sm, _, _, _, rfl, rfl, SqT.of (sEH _ _ hsm'), atI_nat (j := 1) rfl, vc, vd, lc, ld, 4, rfl, tcE.by sEH, tdE.by sEH, gc, gd, ec.trans ed.symm, by omega, by decide, reach_ex gc gd (ec.trans ed.symm) (by omega), fun HI tt sI hr1 hr2 => ?_⟩
        have hrc := reach_cost gc gd (ec.trans ed.symm) (by omega) hr1 hr2
        refine ⟨_, _, rfl, rfl, rfl, ?_⟩
        refine qbl (Q := Q) (decide_eq_true ?_) (q _ (bE.trans (Bar.of (sEH.trans sI))) (((mE.by sEH).by sI).mono (by omega)))
        show V.int _ = V.int _
        rw [hbe]
        congr 1
        have : (tt : Int) = costL lc ld := hrc
        omega
end
end DC
end

section
set_option Elab.async false
set_option linter.all false
set_option maxRecDepth 100000
set_option maxHeartbeats 4000000
namespace DC
open PySem PySem.Spec PyProof.Rows L2
theorem cost_tri {a b c : Lay} (ga : GoodL a) (gb : GoodL b) (gc : GoodL c) (e : a.1 = b.1) (e2 : a.1 = c.1) (h4 : a.1 ≤ 4) : costL a b ≤ costL a c + costL c b := by
  have c0 := cost_nonneg ga gc e2
  obtain ⟨h, q1, q2, q3⟩ := reach_least (costL a c).toNat ga gc e2 (by omega)
  have := hist_cost (b := b) ga gb e h4 q1
  rw [q2, q3] at this
  omega
theorem laysL_range : ∀ (a : Lay) (h : List Stp), laysL a h = (List.range (h.length + 1)).map fun i => endL a (h.take i)
  | a, [] => rfl
  | a, s :: h => by
    show a :: laysL (afterL a s) h = _
    rw [laysL_range (afterL a s) h, List.length_cons, List.range_succ_eq_map (n := h.length + 1), List.map_cons, List.map_map]
    rfl
theorem lays_mem {a x : Lay} {h : List Stp} (hx : x ∈ laysL a h) : ∃ i, i ≤ h.length ∧ x = endL a (h.take i) := by
  rw [laysL_range] at hx
  obtain ⟨i, hi, rfl⟩ := List.mem_map.mp hx
  exact ⟨i, by have := List.mem_range.mp hi; omega, rfl⟩
theorem fm_none {α β : Type} : ∀ l : List α, l.filterMap (fun _ => (none : Option β)) = []
  | [] => rfl
  | _ :: l => fm_none l
theorem hist_take : ∀ {l : Lay} {h : List Stp}, HistL l h → ∀ n, HistL l (h.take n)
  | _, [], _, n => by rw [List.take_nil]; trivial
  | _, _ :: _, _, 0 => trivial
  | _, _ :: _, hh, n + 1 => ⟨hh.1, hist_take hh.2 n⟩
theorem lays_good {a x : Lay} {h : List Stp} (ga : GoodL a) (hh : HistL a h) (hx : x ∈ laysL a h) : GoodL x ∧ x.1 = a.1 := by
  obtain ⟨i, _, rfl⟩ := lays_mem hx
  exact hist_good ga (hist_take hh i)
theorem lays_between {a b x : Lay} {h : List Stp} (ga : GoodL a) (gb : GoodL b) (e : a.1 = b.1) (h4 : a.1 ≤ 4) (hl : Least a b h) (hx : x ∈ laysL a h) : costL a x + costL x b = costL a b := by
  obtain ⟨h1, h2, h3, h5⟩ := hl
  obtain ⟨gx, ex⟩ := lays_good ga h1 hx
  obtain ⟨i, hi, rfl⟩ := lays_mem hx
  have k1 := hist_cost (b := endL a (h.take i)) ga gx ex.symm h4 (hist_take h1 i)
  rw [(cost_zero gx gx rfl).mpr rfl, List.length_take] at k1
  have k2 := h5 i hi
  have k3 := cost_tri ga gb gx e ex.symm h4
  have : min i h.length = i := Nat.min_eq_left hi
  omega
theorem lays_costs {a b : Lay} {h : List Stp} (hl : Least a b h) : (laysL a h).map (fun x => costL x b) = (List.range (h.length + 1)).map fun i : Nat => (h.length : Int) + (i : Int) * (-1) := by
  obtain ⟨h1, h2, h3, h5⟩ := hl
  rw [laysL_range, List.map_map]
  refine List.map_congr_left fun i hi => ?_
  have hi2 := List.mem_range.mp hi
  show costL (endL a (h.take i)) b = _
  rw [h5 i (by omega), ← h3]
  omega
section
variable {P : Program} {w : World} {K : PySem.W.Frag} {mg : Str → Option Value} {base : Heap}
def sp__law_between_right : Sp := fun vs H Q _ => ∃ (du g c : Addr) (B : Nat) (v u : V) (a b : Lay), vs = [.ref du, v, u, .int (costL a b)] ∧ Mach du g c B H ∧ B + 200 ≤ 1000000 ∧ TD H v (eL a) ∧ TD H u (eL b) ∧ GoodL a ∧ GoodL b ∧ a.1 = b.1 ∧ a.1 ≤ 4 ∧
  ∀ H', Bar [du, g] H H' → Mach du g c (B + 200) H' → Q (.bl true) H'
theorem ok__law_between_right (T : TX K mg) : OkG P w K mg base 8 "_law_between_right" ["_law_m", "_law_one", "_law_other", "_law_due"] sp__law_between_right := by
  have G__law_lay := ok__law_lay (P := P) (w := w) (base := base) T
  have G__law_after := ok__law_after (P := P) (w := w) (base := base) T
  have G__law_of := ok__law_of (P := P) (w := w) (base := base) T
  have G__law_steps := ok__law_steps (P := P) (w := w) (base := base) T
  have G_least_steps := ok_least_steps (P := P) (w := w) (base := base) T
  have G_is_between := ok_is_between (P := P) (w := w) (base := base) T
  have G_step_between := ok_step_between (P := P) (w := w) (base := base) T
  have G_a_least := ok_a_least (P := P) (w := w) (base := base) T
  have G_lays_along := ok_lays_along (P := P) (w := w) (base := base) T
  have G__law_like := ok__law_like (P := P) (w := w) (base := base) T
  refine okG_of (k := 7) T.f__law_between_right sc__law_between_right (fun _ _ _ _ _ _ us hl => match us, hl with | [_, _, _, _], _ => rfl) (fun vs H Q E h => ?_) (fun cdv A outer s H vs Q E hr gd h => ?_)
  · obtain ⟨du, g, c, B, v, u, a, b, rfl, _⟩ := h
    rfl
  · obtain ⟨du, g, c, B, v, u, a, b, rfl, hm, hB, ta, tb, ga, gb, hab, h4, q⟩ := h
    obtain ⟨x, x2, xs, rfl, hx1, hx2, hx3⟩ := id ta.lI
    have c0 := cost_nonneg ga gb hab
    have cf := cost_few ga gb hab
    refine ⟨_, (pss_cons (ps_par (i := 4) (j := 5) (by rfl) sc__law_between_right.nd rfl rfl (by decide) rfl rfl (pa_cons (pe_callD G__law_lay (hr.mono (by decide)) (pa_cons (pv 0) (pa_cons (pe_ix ix_tup (pv 1) pe_int (fun _ _ => rfl)) pa_nil))) (pa_cons (pe_callD G__law_after (hr.mono (by decide)) (pa_cons (pv 1) (pa_cons (pe_callD G__law_of (hr.mono (by decide)) (pa_cons (pv 0) (pa_cons (pe_callD G__law_steps (hr.mono (by decide)) (pa_cons (pv 1) pa_nil)) pa_nil))) pa_nil))) pa_nil)) (by rfl))
      (pss_cons (ps_set (i := 6) sc__law_between_right.nd rfl (Or.inl rfl) (pe_lst (pa_cons (pe_callD G_least_steps (hr.mono (by decide)) (pa_cons (pv 1) (pa_cons (pv 4) pa_nil))) (pa_cons (pe_callD G_least_steps (hr.mono (by decide)) (pa_cons (pv 4) (pa_cons (pv 2) pa_nil))) pa_nil))))
      (pss_cons (ps_if (PW.pt (pw_or (pt_not (pt_val (pe_callGD G__law_like (hr.mono (by decide)) gd (pa_cons (pe_callD G_is_between (hr.mono (by decide)) (pa_cons (pv 1) (pa_cons (pv 4) (pa_cons (pv 2) pa_nil)))) (pa_cons (pe_cmpR op_eq (pe_callB (cr_sum rfl) (by rfl) T.z_sum bt_sum (pa_cons (pv 6) pa_nil)) (pv 3) (nomark _)) pa_nil))))) (pw_or1 (pt_cmpR op_lt (pe_callB (cr_sum rfl) (by rfl) T.z_sum bt_sum (pa_cons (pv 6) pa_nil)) (pv 3) (nomark _))))) (pss_one (ps_ret pe_bl)) pss_nil)
      (pss_cons (ps_if (PW.pt (pw_or (pt_cmpR op_gt (pe_callB call_abs (by rfl) T.z_abs bt_abs (pa_cons (pe_op op_sub (pe_callD G_least_steps (hr.mono (by decide)) (pa_cons (pv 5) (pa_cons (pv 2) pa_nil))) (pv 3)) pa_nil)) pe_int (nomark _)) (pw_or1 (pt_cmpR op_ne (pe_cmpR op_notN (pe_callD G_step_between (hr.mono (by decide)) (pa_cons (pv 1) (pa_cons (pv 2) pa_nil))) pe_non (nomark _)) (pe_cmpR op_eq (pv 3) pe_int (nomark _)) (nomark _))))) (pss_one (ps_ret pe_bl)) pss_nil)
      (pss_cons (ps_set (i := 7) sc__law_between_right.nd rfl (Or.inl rfl) (pe_callD G_a_least (hr.mono (by decide)) (pa_cons (pv 1) (pa_cons (pv 2) pa_nil))))
      (pss_cons (ps_set (i := 8) sc__law_between_right.nd rfl (Or.inl rfl) (pe_callD G_lays_along (hr.mono (by decide)) (pa_cons (pv 1) (pa_cons (pv 7) pa_nil))))
      (pss_cons (ps_setLc (i := 9) (own := [("_law_lay_here", 10)]) (g := (gName 10)) (by rfl) sc__law_between_right.nd rfl rfl (sw_true rfl rfl rfl (by decide +kernel)) (pi_tup (pv 8)) (blkOk_by (own := [("_law_lay_here", 10)]) (N := N__law_between_right) (sc := defScope s__law_between_right) (by decide +kernel)) (fun _ _ _ _ _ => (pg_name (i := 10) sc__law_between_right.nd rfl (Or.inl rfl))) (fun _ _ _ _ _ => pts_nil) (fun _ _ _ _ _ => (pe_callD G_least_steps (hr.mono (by decide)) (pa_cons (pv 10) (pa_cons (pv 2) pa_nil)))))
      (pss_cons (ps_if (PW.pt (pw_or (pt_cmpR op_ne (pe_callB call_len_seq (by rfl) T.z_len bt_len (pa_cons (pv 7) pa_nil)) (pv 3) (nomark _)) (pw_or (pt_cmpR (op_neE enc_L (by decide) (hu64 hr)) (pe_ix ix_tup (pv 8) (pe_un un_neg pe_int) (fun _ _ => rfl)) (pv 2) (nomark _)) (pw_or1 (pt_cmpR (op_neLE enc_int (by decide) (hu64 hr)) (pv 9) (pe_listDn rfl rfl T.z_list rfl T.z_range (pa_cons (pv 3) (pa_cons (pe_un un_neg pe_int) (pa_cons (pe_un un_neg pe_int) pa_nil)))) (nomark _)))))) (pss_one (ps_ret pe_bl)) pss_nil)
      (pss_one (ps_ret (pe_cmpR (op_eqLE enc_L (by decide) (hu64 hr)) (pe_lc (own := [("_law_lay_here", 10)]) (g := (gName 10)) (by rfl) sc__law_between_right.nd (pi_tup (pv 8)) (blkOk_by (own := [("_law_lay_here", 10)]) (N := N__law_between_right) (sc := defScope s__law_between_right) (by decide +kernel)) (fun _ _ _ _ _ => (pg_name (i := 10) sc__law_between_right.nd rfl (Or.inl rfl))) (fun _ _ _ _ _ => pts_one (pt_not (pt_val (pe_callD G_is_between (hr.mono (by decide)) (pa_cons (pv 1) (pa_cons (pv 10) (pa_cons (pv 2) pa_nil))))))) (fun _ _ _ _ _ => (pv 10))) (pe_lst pa_nil) (nomark _)))))))))))), ?_⟩
    refine ⟨_, rfl, _, rfl, x, _, _, _, rfl, rfl, SqT.of hx1, atI_nat (j := 0) rfl, du, g, c, B, a.1, rfl, hm, by omega, ga.pos, by omega, fun H1 vc lc b1 m1 tc gc ec => ?_⟩
    have t1 := hm.tup b1
    refine ⟨_, rfl, _, rfl, _, rfl, _, a, rfl, ta.to t1, ga, fun H2 p ys ss s2 hpn hp hys pm => ?_⟩
    have hsl := steps_len ga
    have hyl := hys.len
    rw [List.length_map, pm.length_eq] at hyl
    have hne := steps_ne ga
    have hpos : 1 ≤ (stepsL a).length := by
      cases hh : stepsL a with
      | nil => exact absurd hh hne
      | cons _ _ => simp
    refine ⟨du, g, c, p, _, ys, rfl, m1.by s2, hp, m1.new hpn, by omega, by omega, by omega, fun H3 k vk b3 m3 hk => ?_⟩
    have t13 := (sameTup s2).trans ((m1.by s2).tup b3)
    obtain ⟨d, hd1, hd2⟩ := (hys.to ((m1.by s2).tup b3)).get hk
    rw [List.getElem?_map] at hd1
    cases hsk : ss[k]? with
    | none => rw [hsk] at hd1; cases hd1
    | some st =>
      rw [hsk] at hd1
      have : eS st = d := Option.some.inj hd1
      subst this
      have hst : st ∈ stepsL a := pm.mem_iff.mp (List.mem_of_getElem? hsk)
      have sf := step_form ga hst
      have bar3 := (b1.trans (Bar.of s2)).trans b3
      have ta3 := ta.to (t1.trans t13)
      have tb3 := tb.to (t1.trans t13)
      have tc3 := tc.to t13
      refine ⟨_, vk, a, st, rfl, ta3, hd2, ga, by omega, fun H4 r4 s4 tr4 => ⟨_, _, rfl, ?_⟩⟩
      have gA := good_after ga hst
      have hac : a.1 = lc.1 := ec.symm
      refine ⟨_, rfl, _, rfl, _, _, a, lc, rfl, ta3.by s4, tc3.by s4, ga, gc, hac, fun H5 s5 => ?_⟩
      have s45 := s4.trans s5
      refine ⟨_, rfl, _, rfl, _, _, lc, b, rfl, tc3.by s45, tb3.by s45, gc, gb, hac.symm.trans hab, fun H6 s6 => ?_⟩
      have s46 := s45.trans s6
      refine ⟨by show 2 ≤ sizeLine; decide, fun tl htl => ?_⟩
      have k7 := same_upd (o := .lst [V.int (costL a lc), V.int (costL lc b)]) htl
      have htl7 : upd H6 tl (.lst ([costL a lc, costL lc b].map V.int)) tl = some (.lst ([costL a lc, costL lc b].map V.int)) := upd_same
      have s37 := s46.trans k7
      have tri := cost_tri ga gb gc hab hac h4
      have hsum : [costL a lc, costL lc b].sum = costL a lc + costL lc b := by simp
      refine ⟨_, rfl, _, rfl, _, rfl, _, _, _, a, lc, b, rfl, ta3.by s37, tc3.by s37, tb3.by s37, ga, gc, gb, hac, hab, fun H8 s8 => ?_⟩
      have htl8 := s8 _ _ htl7
      have s38 := s37.trans s8
      refine ⟨_, rfl, tl, [costL a lc, costL lc b], rfl, SqL.of htl8, _, rfl, rfl, .inl ⟨decide (costL a lc + costL lc b = costL a b), ?_, ?_⟩⟩
      · have : decide (V.int [costL a lc, costL lc b].sum = V.int (costL a b)) = decide (costL a lc + costL lc b = costL a b) := by
          rw [hsum]
          exact decide_eq_decide.mpr ⟨fun z => V.int.inj z, fun z => by rw [z]⟩
        show [V.bl _, V.bl _] = _
        rw [this]
      refine ⟨_, rfl, _, rfl, tl, [costL a lc, costL lc b], rfl, SqL.of htl8, _, rfl, _, _, rfl, rfl, _, rfl, ?_⟩
      refine iteND (by rw [hsum]; omega) ?_
      have hcs := cost_step ga gb hab hst
      refine ⟨_, rfl, _, rfl, r4, _, afterL a st, b, rfl, ((tr4.by (s5.trans s6)).by k7).by s8, tb3.by s38, gA, gb, hab, fun H9 s9 => ?_⟩
      refine ⟨_, rfl, _, _, rfl, rfl, _, rfl, _, _, rfl, rfl, _, rfl, ?_⟩
      refine iteND (by omega) ?_
      have s39 := s38.trans s9
      have so := step_one ga gb hab
      refine ⟨_, rfl, _, rfl, _, _, a, b, rfl, ta3.by s39, tb3.by s39, ga, gb, hab, fun hS H10 r10 s10 t10 => ?_, fun hS H10 s10 => ?_⟩
      · obtain ⟨_, _, _, _, _, rfl, _⟩ := t10.sI
        have hone : costL a b = 1 := so.mp hS
        refine ⟨rfl, _, rfl, rfl, rfl, _, rfl, ?_⟩
        refine iteNS ?_ ?_
        · rw [hone]
          rfl
        have s3r := s38.trans (s9.trans s10)
        refine ⟨_, rfl, _, rfl, _, _, a, b, rfl, ta3.by s3r, tb3.by s3r, ga, gb, hab, fun H11 r11 h s11 t11 hl => ?_⟩
        have hl' := hl
        obtain ⟨l1, l2, l3, l5⟩ := hl'
        have s311 := s3r.trans s11
        have hlen : (h.length : Int) = costL a b := l3
        obtain ⟨ph, hs11, rfl, hph, thh⟩ := id t11.listI
        have hhl := thh.len
        rw [List.length_map] at hhl
        refine ⟨_, rfl, _, rfl, _, _, a, h, rfl, ta3.by s311, t11, ga, l1, by omega, fun H12 r12 s12 t12 => ?_⟩
        obtain ⟨pe, zs, rfl, hpe, tz⟩ := t12.listI
        have s312 := s311.trans s12
        refine ⟨_, rfl, pe, rfl, ⟨_, SqT.of hpe⟩, fun D hD => ?_⟩
        have hll : (laysL a h).length = h.length + 1 := laysL_len a h
        refine lc_src (walk_tup (K := K) (a := pe)) eInt (fun z => some (costL z b)) hD (small1000 (by omega)) tz (fun H s => SqT.of (s _ _ hpe)) (fun z zv H' N M hz s tx kN kM => ?_) (fun H13 ws s13 hw ht => ?_)
        · obtain ⟨gz, ez⟩ := lays_good ga l1 hz
          refine ⟨rfl, ?_⟩
          exact ⟨_, rfl, _, rfl, zv, _, z, b, rfl, tx, tb3.by (s312.trans s), gz, gb, ez.trans hab, fun H14 s14 => kN _ _ _ rfl s14 (.int _)⟩
        · rw [fm_some] at ht
          have s313 := s312.trans s13
          have hpe13 := s13 _ _ hpe
          refine ⟨_, rfl, ph, _, rfl, .inr (SqT.of (s13 _ _ (s12 _ _ hph))), _, rfl, rfl, _, rfl, ?_⟩
          refine iteNS (by rw [hhl]; exact congrArg V.int hlen) ?_
          obtain ⟨r0, er⟩ := laysL_last a h
          have tz2 := tz
          rw [er, List.map_append] at tz2
          obtain ⟨za, zb, ezz, _, t3⟩ := tz2.splitI
          obtain ⟨zl, zr, ezb, tzl, t5⟩ := TDs.consI t3
          rw [TDs.nilI t5] at ezb
          subst ezb
          subst ezz
          rw [l2] at tzl
          refine ⟨_, rfl, 1, rfl, pe, za ++ [zl], -1, zl, rfl, rfl, SqT.of hpe13, atI_last za zl, _, rfl, b, b, tzl.by s13, tb3.by s313, false, ⟨fun z => (nomatch z), fun z => absurd rfl z⟩, _, rfl, ?_⟩
          refine ⟨_, rfl, _, rfl, 1, rfl, 1, rfl, h.length, by rw [hlen], by omega, fun q2 hq2 => ?_⟩
          have k14 := same_upd (o := .lst (downV h.length)) hq2
          have hdn : TDs (upd H13 q2 (.lst (downV h.length))) (downV h.length) (((List.range (h.length + 1)).map fun i : Nat => (h.length : Int) + (i : Int) * (-1)).map eInt) := by
            have e1 : downV h.length = ((List.range (h.length + 1)).map fun i : Nat => (h.length : Int) + (i : Int) * (-1)).map V.int := by
              unfold downV
              rw [List.map_map]
              rfl
            rw [e1]
            exact tds_ints _
          refine ⟨D, q2, _, _, _, _, rfl, rfl, SqL.of (k14 _ _ hw), SqL.of upd_same, ht.by k14, hdn, false, ⟨fun z => (nomatch z), fun z => absurd (lays_costs hl) z⟩, _, rfl, ?_⟩
          generalize upd H13 q2 (.lst (downV h.length)) = H14 at *
          have s314 := s313.trans k14
          refine ⟨_, rfl, pe, rfl, ⟨_, SqT.of (k14 _ _ hpe13)⟩, fun D2 hD2 => ?_⟩
          refine lc_src (walk_tup (K := K) (a := pe)) eL (fun _ : Lay => (none : Option Lay)) hD2 (small1000 (by omega)) (tz.by (s13.trans k14)) (fun H s => SqT.of (s _ _ (k14 _ _ hpe13))) (fun z zv H' N M hz s tx kN kM => ?_) (fun H15 us s15 hu hu2 => ?_)
          · obtain ⟨gz, ez⟩ := lays_good ga l1 hz
            have s3x := s314.trans s
            refine ⟨rfl, ?_⟩
            refine ⟨_, rfl, _, rfl, _, rfl, _, zv, _, a, z, b, rfl, ta3.by s3x, tx, tb3.by s3x, ga, gz, gb, ez.symm, hab, fun H16 s16 => ?_⟩
            rw [decide_eq_true (lays_between ga gb hab h4 hl hz)]
            exact ⟨true, rfl, kM _ rfl s16⟩
          · rw [fm_none] at hu2
            have eus := TDs.nilI hu2
            subst eus
            refine ⟨Nat.zero_le _, fun q3 hq3 => ?_⟩
            have k16 := same_upd (o := .lst []) hq3
            refine ⟨D2, q3, [], [], [], [], rfl, rfl, SqL.of (k16 _ _ hu), SqL.of upd_same, .nil, .nil, true, ⟨fun _ => rfl, fun _ => rfl⟩, ?_⟩
            have sall := (s314.trans s15).trans k16
            exact q _ (bar3.trans (Bar.of sall)) ((m3.by sall).mono (by omega))
      · have hone : ¬ costL a b = 1 := fun z => hS (so.mpr z)
        refine ⟨rfl, _, rfl, rfl, rfl, _, rfl, ?_⟩
        refine iteNS ?_ ?_
        · rw [decide_eq_false (fun z => hone (V.int.inj z))]
          rfl
        have s3r := s38.trans (s9.trans s10)
        refine ⟨_, rfl, _, rfl, _, _, a, b, rfl, ta3.by s3r, tb3.by s3r, ga, gb, hab, fun H11 r11 h s11 t11 hl => ?_⟩
        have hl' := hl
        obtain ⟨l1, l2, l3, l5⟩ := hl'
        have s311 := s3r.trans s11
        have hlen : (h.length : Int) = costL a b := l3
        obtain ⟨ph, hs11, rfl, hph, thh⟩ := id t11.listI
        have hhl := thh.len
        rw [List.length_map] at hhl
        refine ⟨_, rfl, _, rfl, _, _, a, h, rfl, ta3.by s311, t11, ga, l1, by omega, fun H12 r12 s12 t12 => ?_⟩
        obtain ⟨pe, zs, rfl, hpe, tz⟩ := t12.listI
        have s312 := s311.trans s12
        refine ⟨_, rfl, pe, rfl, ⟨_, SqT.of hpe⟩, fun D hD => ?_⟩
        have hll : (laysL a h).length = h.length + 1 := laysL_len a h
        refine lc_src (walk_tup (K := K) (a := pe)) eInt (fun z => some (costL z b)) hD (small1000 (by omega)) tz (fun H s => SqT.of (s _ _ hpe)) (fun z zv H' N M hz s tx kN kM => ?_) (fun H13 ws s13 hw ht => ?_)
        · obtain ⟨gz, ez⟩ := lays_good ga l1 hz
          refine ⟨rfl, ?_⟩
          exact ⟨_, rfl, _, rfl, zv, _, z, b, rfl, tx, tb3.by (s312.trans s), gz, gb, ez.trans hab, fun H14 s14 => kN _ _ _ rfl s14 (.int _)⟩
        · rw [fm_some] at ht
          have s313 := s312.trans s13
          have hpe13 := s13 _ _ hpe
          refine ⟨_, rfl, ph, _, rfl, .inr (SqT.of (s13 _ _ (s12 _ _ hph))), _, rfl, rfl, _, rfl, ?_⟩
          refine iteNS (by rw [hhl]; exact congrArg V.int hlen) ?_
          obtain ⟨r0, er⟩ := laysL_last a h
          have tz2 := tz
          rw [er, List.map_append] at tz2
          obtain ⟨za, zb, ezz, _, t3⟩ := tz2.splitI
          obtain ⟨zl, zr, ezb, tzl, t5⟩ := TDs.consI t3
          rw [TDs.nilI t5] at ezb
          subst ezb
          subst ezz
          rw [l2] at tzl
          refine ⟨_, rfl, 1, rfl, pe, za ++ [zl], -1, zl, rfl, rfl, SqT.of hpe13, atI_last za zl, _, rfl, b, b, tzl.by s13, tb3.by s313, false, ⟨fun z => (nomatch z), fun z => absurd rfl z⟩, _, rfl, ?_⟩
          refine ⟨_, rfl, _, rfl, 1, rfl, 1, rfl, h.length, by rw [hlen], by omega, fun q2 hq2 => ?_⟩
          have k14 := same_upd (o := .lst (downV h.length)) hq2
          have hdn : TDs (upd H13 q2 (.lst (downV h.length))) (downV h.length) (((List.range (h.length + 1)).map fun i : Nat => (h.length : Int) + (i : Int) * (-1)).map eInt) := by
            have e1 : downV h.length = ((List.range (h.length + 1)).map fun i : Nat => (h.length : Int) + (i : Int) * (-1)).map V.int := by
              unfold downV
              rw [List.map_map]
              rfl
            rw [e1]
            exact tds_ints _
          refine ⟨D, q2, _, _, _, _, rfl, rfl, SqL.of (k14 _ _ hw), SqL.of upd_same, ht.by k14, hdn, false, ⟨fun z => (nomatch z), fun z => absurd (lays_costs hl) z⟩, _, rfl, ?_⟩
          generalize upd H13 q2 (.lst (downV h.length)) = H14 at *
          have s314 := s313.trans k14
          refine ⟨_, rfl, pe, rfl, ⟨_, SqT.of (k14 _ _ hpe13)⟩, fun D2 hD2 => ?_⟩
          refine lc_src (walk_tup (K := K) (a := pe)) eL (fun _ : Lay => (none : Option Lay)) hD2 (small1000 (by omega)) (tz.by (s13.trans k14)) (fun H s => SqT.of (s _ _ (k14 _ _ hpe13))) (fun z zv H' N M hz s tx kN kM => ?_) (fun H15 us s15 hu hu2 => ?_)
          · obtain ⟨gz, ez⟩ := lays_good ga l1 hz
            have s3x := s314.trans s
            refine ⟨rfl, ?_⟩
            refine ⟨_, rfl, _, rfl, _, rfl, _, zv, _, a, z, b, rfl, ta3.by s3x, tx, tb3.by s3x, ga, gz, gb, ez.symm, hab, fun H16 s16 => ?_⟩
            rw [decide_eq_true (lays_between ga gb hab h4 hl hz)]
            exact ⟨true, rfl, kM _ rfl s16⟩
          · rw [fm_none] at hu2
            have eus := TDs.nilI hu2
            subst eus
            refine ⟨Nat.zero_le _, fun q3 hq3 => ?_⟩
            have k16 := same_upd (o := .lst []) hq3
            refine ⟨D2, q3, [], [], [], [], rfl, rfl, SqL.of (k16 _ _ hu), SqL.of upd_same, .nil, .nil, true, ⟨fun _ => rfl, fun _ => rfl⟩, ?_⟩
            have sall := (s314.trans s15).trans k16
            exact q _ (bar3.trans (Bar.of sall)) ((m3.by sall).mono (by omega))
end
end DC
end

section
set_option Elab.async false
set_option linter.all false
set_option maxRecDepth 100000
set_option maxHeartbeats 4000000
namespace DC
open PySem PySem.Spec PyProof.Rows L2
theorem shown3 {z : Int} (h0 : 0 ≤ z) (h4 : z ≤ 4) : (PyData.list ([z, z, 0].map PyData.int)).showable = true ∧ (PyData.list ([z, z, 0].map PyData.int)).shown.length ≤ sizeLine := by
  have all : ∀ k : Fin 5, (PyData.list ([(k.val : Int), (k.val : Int), 0].map PyData.int)).showable = true ∧ (PyData.list ([(k.val : Int), (k.val : Int), 0].map PyData.int)).shown.length ≤ 1000 := by decide +kernel
  obtain ⟨k, rfl⟩ : ∃ k : Nat, z = (k : Int) := ⟨z.toNat, by omega⟩
  have := all ⟨k, by omega⟩
  exact ⟨this.1, Nat.le_trans this.2 (by rw [sizeLine_eq]; decide)⟩
section
variable {P : Program} {w : World} {K : PySem.W.Frag} {mg : Str → Option Value} {base : Heap}
def sp_law (K : PySem.W.Frag) : Sp := fun vs H Q _ => ∃ (a : Addr) (ns : List Int), vs = [.ref a] ∧ SqL K H a (ns.map V.int) ∧ ns.length ≤ 63 ∧ ∀ H', Q (.bl true) H'
theorem law_G (T : TX K mg) {fd : FuncData} (Fd : FnP K "law" s_law (He.ga K "law") fd) : FnG P w K mg base CX0 9 (He.ga K "law") fd ["_law_script"] (sp_law K) := by
  have G__law_begun := ok__law_begun (P := P) (w := w) (base := base) T
  have G__law_draw := ok__law_draw (P := P) (w := w) (base := base) T
  have G__law_lay := ok__law_lay (P := P) (w := w) (base := base) T
  have G_least_steps := ok_least_steps (P := P) (w := w) (base := base) T
  have G__law_like := ok__law_like (P := P) (w := w) (base := base) T
  have G__law_far := ok__law_far (P := P) (w := w) (base := base) T
  have G__law_common_right := ok__law_common_right (P := P) (w := w) (base := base) T
  have G__law_between_right := ok__law_between_right (P := P) (w := w) (base := base) T
  have G__law_moved_right := ok__law_moved_right (P := P) (w := w) (base := base) T
  refine okG_of2 (k := 8) Fd sc_law (fun vs H Q E h => ?_) (fun cdv A outer s H vs Q E hr gd h => ?_)
  · obtain ⟨a, ns, rfl, _⟩ := h
    rfl
  · obtain ⟨sa, ns, rfl, hs, hn, q⟩ := h
    refine ⟨_, (pss_cons (ps_set (i := 1) sc_law.nd rfl (Or.inl rfl) (pe_callD G__law_begun (hr.mono (by decide)) (pa_cons (pv 0) pa_nil)))
      (pss_cons (ps_for PassesOwn.never rfl (pi_range1 rfl T.z_range (pa_cons pe_int pa_nil)) (pg_name (i := 2) sc_law.nd rfl (Or.inl rfl)) (pss_cons (ps_set (i := 3) sc_law.nd rfl (Or.inl rfl) (pe_ifExp (pt_cmpR op_eq (pe_callD G__law_draw (hr.mono (by decide)) (pa_cons (pv 1) (pa_cons pe_int pa_nil))) pe_int (nomark _)) pe_int (pe_op op_add pe_int (pe_callD G__law_draw (hr.mono (by decide)) (pa_cons (pv 1) (pa_cons pe_int pa_nil))))))
      (pss_cons (ps_par (i := 4) (j := 5) (by rfl) sc_law.nd rfl rfl (by decide) rfl rfl (pa_cons (pe_callD G__law_lay (hr.mono (by decide)) (pa_cons (pv 1) (pa_cons (pv 3) pa_nil))) (pa_cons (pe_callD G__law_lay (hr.mono (by decide)) (pa_cons (pv 1) (pa_cons (pv 3) pa_nil))) pa_nil)) (by rfl))
      (pss_cons (ps_set (i := 6) sc_law.nd rfl (Or.inl rfl) (pe_callD G_least_steps (hr.mono (by decide)) (pa_cons (pv 4) (pa_cons (pv 5) pa_nil))))
      (pss_cons (ps_if (pt_not (pt_val (pe_callGD G__law_like (hr.mono (by decide)) gd (pa_cons (pe_lst (pa_cons (pe_callD G_least_steps (hr.mono (by decide)) (pa_cons (pv 5) (pa_cons (pv 4) pa_nil))) (pa_cons (pe_callD G_least_steps (hr.mono (by decide)) (pa_cons (pv 4) (pa_cons (pv 5) pa_nil))) (pa_cons (pe_callD G_least_steps (hr.mono (by decide)) (pa_cons (pv 4) (pa_cons (pv 4) pa_nil))) pa_nil)))) (pa_cons (pe_lst (pa_cons (pv 6) (pa_cons (pv 6) (pa_cons pe_int pa_nil)))) pa_nil))))) (pss_one (ps_ret pe_bl)) pss_nil)
      (pss_cons (ps_if (PW.pt (pw_and (pt_cmpR op_lt (pv 3) pe_int (nomark _)) (pw_and (pt_cmpR op_eq (pv 2) pe_int (nomark _)) (pw_and1 (pt_cmpR op_ne (pv 6) (pe_callD G__law_far (hr.mono (by decide)) (pa_cons (pv 4) (pa_cons (pv 5) (pa_cons pe_int pa_nil)))) (nomark _)))))) (pss_one (ps_ret pe_bl)) pss_nil)
      (pss_cons (ps_if (PW.pt (pw_or (pt_not (pt_val (pe_callD G__law_common_right (hr.mono (by decide)) (pa_cons (pv 4) (pa_cons (pv 5) (pa_cons (pv 6) pa_nil)))))) (pw_or1 (pt_not (pt_val (pe_callGD G__law_between_right (hr.mono (by decide)) gd (pa_cons (pv 1) (pa_cons (pv 4) (pa_cons (pv 5) (pa_cons (pv 6) pa_nil)))))))))) (pss_one (ps_ret pe_bl)) pss_nil)
      (pss_one (ps_if (pt_not (pt_val (pe_callD G__law_moved_right (hr.mono (by decide)) (pa_cons (pv 1) (pa_cons (pv 4) (pa_cons (pv 5) (pa_cons (pv 6) pa_nil))))))) (pss_one (ps_ret pe_bl)) pss_nil)))))))))
      (pss_one (ps_ret pe_bl)))), ?_⟩
    refine ⟨_, rfl, sa, ns, rfl, hs, hn, fun H1 du g c s1 m1 => ?_⟩
    refine ⟨2, rfl, by decide, by decide, ?_⟩
    refine for_it (walk_rangeN (n := 2)) (fun t σ H' => ∃ y2 y3 y4 y5 y6, σ = [some (.ref sa), some (.ref du), y2, y3, y4, y5, y6] ∧ Mach du g c (1000 * t) H') ⟨none, none, none, none, none, rfl, m1.mono (Nat.zero_le _)⟩ (fun _ _ _ _ _ => trivial) (fun t x σ H' H'' ht p y => ?_) (fun σ H' p => ?_)
    · obtain ⟨y2, y3, y4, y5, y6, rfl, mc⟩ := p
      obtain ⟨rfl, rfl⟩ := y
      refine ⟨_, rfl, du, g, c, _, 6, rfl, mc, by omega, by decide, by decide, fun H2 r b2 m2 hr2 => ?_⟩
      refine ⟨rfl, _, rfl, ?_⟩
      refine ite2 (fun e => ?_) (fun e => ?_)
      · have hn1 : 1 ≤ 4 := by decide
        have hn4 : 4 ≤ 4 := by decide
        have mN := m2.mono (show 1000 * t + 1 ≤ 1000 * t + 2 by omega)
        refine ⟨_, rfl, _, rfl, du, g, c, _, 4, rfl, mN, by omega, hn1, by omega, fun H3 v a b3 m3 ta ga ea => ?_⟩
        refine ⟨_, rfl, _, rfl, du, g, c, _, 4, rfl, m3, by omega, hn1, by omega, fun H4 u b b4 m4 tb gb eb => ⟨_, _, rfl, ?_⟩⟩
        have t4 := m3.tup b4
        have ta4 := ta.to t4
        have hab : a.1 = b.1 := ea.trans eb.symm
        have h4 : a.1 ≤ 4 := by omega
        have c0 := cost_nonneg ga gb hab
        have cf := cost_few ga gb hab
        refine ⟨_, rfl, _, rfl, v, u, a, b, rfl, ta4, tb, ga, gb, hab, fun H5 s5 => ?_⟩
        refine ⟨_, rfl, _, rfl, u, v, b, a, rfl, tb.by s5, ta4.by s5, gb, ga, hab.symm, fun H6 s6 => ?_⟩
        have s56 := s5.trans s6
        refine ⟨_, rfl, _, rfl, v, u, a, b, rfl, ta4.by s56, tb.by s56, ga, gb, hab, fun H7 s7 => ?_⟩
        have s57 := s56.trans s7
        refine ⟨_, rfl, _, rfl, v, v, a, a, rfl, ta4.by s57, ta4.by s57, ga, ga, rfl, fun H8 s8 => ?_⟩
        rw [cost_symm ga gb hab, (cost_zero ga ga rfl).mpr rfl]
        have s58 := s57.trans s8
        refine ⟨by show 3 ≤ sizeLine; decide, fun p1 hp1 => ?_⟩
        have k1 := same_upd (o := .lst [V.int (costL a b), V.int (costL a b), V.int 0]) hp1
        refine ⟨_, rfl, _, rfl, by show 3 ≤ sizeLine; decide, fun p2 hp2 => ?_⟩
        have k2 := same_upd (o := .lst [V.int (costL a b), V.int (costL a b), V.int 0]) hp2
        obtain ⟨z1, z2⟩ := shown3 c0 (by omega)
        refine .inr ⟨p1, p2, [costL a b, costL a b, 0], rfl, SqL.of (k2 _ _ upd_same), SqL.of upd_same, z1, z2, ⟨true, rfl, ?_⟩⟩
        have sF := (s58.trans k1).trans k2
        have mF := m4.by sF
        have taF := ta4.by sF
        have tbF := tb.by sF
        generalize upd (upd H8 p1 (HO.lst ([V.int (costL a b), V.int (costL a b), V.int 0] ++ []))) p2 (HO.lst ([V.int (costL a b), V.int (costL a b), V.int 0] ++ [])) = HF at *
        refine ⟨_, rfl, _, _, rfl, rfl, _, rfl, ?_⟩
        by_cases h3 : 4 < 4
        · refine iteYD (by omega) ?_
          refine ⟨_, rfl, rfl, _, rfl, ?_⟩
          by_cases ht0 : t = 0
          · refine iteYD (by rw [ht0]; rfl) ?_
            refine ⟨_, rfl, _, rfl, _, rfl, v, u, a, b, 4, rfl, taF, tbF, ga, gb, hab, by omega, by decide, reach_ex ga gb hab h4, fun HG tt sG hr1 hr2 => ?_⟩
            have hrc := reach_cost ga gb hab h4 hr1 hr2
            refine ⟨rfl, _, rfl, ?_⟩
            refine iteNS (congrArg V.int hrc.symm) ?_
            have mF := mF.by sG
            have taF := taF.by sG
            have tbF := tbF.by sG
            refine ⟨_, rfl, _, rfl, _, rfl, v, u, a, b, rfl, taF, tbF, ga, gb, hab, h4, fun HA sA => ⟨true, rfl, ?_⟩⟩
            refine ⟨_, rfl, _, rfl, _, rfl, _, rfl, du, g, c, _, v, u, a, b, rfl, mF.by sA, by omega, taF.by sA, tbF.by sA, ga, gb, hab, h4, fun HB bB mB => ⟨true, rfl, ?_⟩⟩
            have tB := (mF.by sA).tup bB
            refine ⟨_, rfl, _, rfl, _, rfl, _, rfl, du, g, c, _, v, u, a, b, rfl, mB, by omega, (taF.by sA).to tB, (tbF.by sA).to tB, ga, gb, hab, h4, fun HC bC mC => ⟨true, rfl, ?_⟩⟩
            exact ⟨_, _, _, _, _, rfl, mC.mono (by omega)⟩
          · refine iteND (fun z => ht0 (by have : (t : Int) = 0 := V.int.inj z; omega)) ?_
            refine ⟨_, rfl, _, rfl, _, rfl, v, u, a, b, rfl, taF, tbF, ga, gb, hab, h4, fun HA sA => ⟨true, rfl, ?_⟩⟩
            refine ⟨_, rfl, _, rfl, _, rfl, _, rfl, du, g, c, _, v, u, a, b, rfl, mF.by sA, by omega, taF.by sA, tbF.by sA, ga, gb, hab, h4, fun HB bB mB => ⟨true, rfl, ?_⟩⟩
            have tB := (mF.by sA).tup bB
            refine ⟨_, rfl, _, rfl, _, rfl, _, rfl, du, g, c, _, v, u, a, b, rfl, mB, by omega, (taF.by sA).to tB, (tbF.by sA).to tB, ga, gb, hab, h4, fun HC bC mC => ⟨true, rfl, ?_⟩⟩
            exact ⟨_, _, _, _, _, rfl, mC.mono (by omega)⟩
        · refine iteND (by omega) ?_
          refine ⟨_, rfl, _, rfl, _, rfl, v, u, a, b, rfl, taF, tbF, ga, gb, hab, h4, fun HA sA => ⟨true, rfl, ?_⟩⟩
          refine ⟨_, rfl, _, rfl, _, rfl, _, rfl, du, g, c, _, v, u, a, b, rfl, mF.by sA, by omega, taF.by sA, tbF.by sA, ga, gb, hab, h4, fun HB bB mB => ⟨true, rfl, ?_⟩⟩
          have tB := (mF.by sA).tup bB
          refine ⟨_, rfl, _, rfl, _, rfl, _, rfl, du, g, c, _, v, u, a, b, rfl, mB, by omega, (taF.by sA).to tB, (tbF.by sA).to tB, ga, gb, hab, h4, fun HC bC mC => ⟨true, rfl, ?_⟩⟩
          exact ⟨_, _, _, _, _, rfl, mC.mono (by omega)⟩
      · refine ⟨_, rfl, du, g, c, _, 3, rfl, m2, by omega, by decide, by decide, fun H3' r3 b3' mN hr3 => ⟨_, _, rfl, rfl, ?_⟩⟩
        have e1 : V.int (1 + (r3 : Int)) = vN (1 + r3) := by
          show V.int _ = V.int _
          rw [Int.natCast_add]
          rfl
        dsimp only
        rw [e1]
        have hn1 : 1 ≤ 1 + r3 := by omega
        have hn4 : 1 + r3 ≤ 4 := by omega
        generalize 1 + r3 = n at *
        clear e1
        refine ⟨_, rfl, _, rfl, du, g, c, _, n, rfl, mN, by omega, hn1, by omega, fun H3 v a b3 m3 ta ga ea => ?_⟩
        refine ⟨_, rfl, _, rfl, du, g, c, _, n, rfl, m3, by omega, hn1, by omega, fun H4 u b b4 m4 tb gb eb => ⟨_, _, rfl, ?_⟩⟩
        have t4 := m3.tup b4
        have ta4 := ta.to t4
        have hab : a.1 = b.1 := ea.trans eb.symm
        have h4 : a.1 ≤ 4 := by omega
        have c0 := cost_nonneg ga gb hab
        have cf := cost_few ga gb hab
        refine ⟨_, rfl, _, rfl, v, u, a, b, rfl, ta4, tb, ga, gb, hab, fun H5 s5 => ?_⟩
        refine ⟨_, rfl, _, rfl, u, v, b, a, rfl, tb.by s5, ta4.by s5, gb, ga, hab.symm, fun H6 s6 => ?_⟩
        have s56 := s5.trans s6
        refine ⟨_, rfl, _, rfl, v, u, a, b, rfl, ta4.by s56, tb.by s56, ga, gb, hab, fun H7 s7 => ?_⟩
        have s57 := s56.trans s7
        refine ⟨_, rfl, _, rfl, v, v, a, a, rfl, ta4.by s57, ta4.by s57, ga, ga, rfl, fun H8 s8 => ?_⟩
        rw [cost_symm ga gb hab, (cost_zero ga ga rfl).mpr rfl]
        have s58 := s57.trans s8
        refine ⟨by show 3 ≤ sizeLine; decide, fun p1 hp1 => ?_⟩
        have k1 := same_upd (o := .lst [V.int (costL a b), V.int (costL a b), V.int 0]) hp1
        refine ⟨_, rfl, _, rfl, by show 3 ≤ sizeLine; decide, fun p2 hp2 => ?_⟩
        have k2 := same_upd (o := .lst [V.int (costL a b), V.int (costL a b), V.int 0]) hp2
        obtain ⟨z1, z2⟩ := shown3 c0 (by omega)
        refine .inr ⟨p1, p2, [costL a b, costL a b, 0], rfl, SqL.of (k2 _ _ upd_same), SqL.of upd_same, z1, z2, ⟨true, rfl, ?_⟩⟩
        have sF := (s58.trans k1).trans k2
        have mF := m4.by sF
        have taF := ta4.by sF
        have tbF := tb.by sF
        generalize upd (upd H8 p1 (HO.lst ([V.int (costL a b), V.int (costL a b), V.int 0] ++ []))) p2 (HO.lst ([V.int (costL a b), V.int (costL a b), V.int 0] ++ [])) = HF at *
        refine ⟨_, rfl, _, _, rfl, rfl, _, rfl, ?_⟩
        by_cases h3 : n < 4
        · refine iteYD (by omega) ?_
          refine ⟨_, rfl, rfl, _, rfl, ?_⟩
          by_cases ht0 : t = 0
          · refine iteYD (by rw [ht0]; rfl) ?_
            refine ⟨_, rfl, _, rfl, _, rfl, v, u, a, b, 4, rfl, taF, tbF, ga, gb, hab, by omega, by decide, reach_ex ga gb hab h4, fun HG tt sG hr1 hr2 => ?_⟩
            have hrc := reach_cost ga gb hab h4 hr1 hr2
            refine ⟨rfl, _, rfl, ?_⟩
            refine iteNS (congrArg V.int hrc.symm) ?_
            have mF := mF.by sG
            have taF := taF.by sG
            have tbF := tbF.by sG
            refine ⟨_, rfl, _, rfl, _, rfl, v, u, a, b, rfl, taF, tbF, ga, gb, hab, h4, fun HA sA => ⟨true, rfl, ?_⟩⟩
            refine ⟨_, rfl, _, rfl, _, rfl, _, rfl, du, g, c, _, v, u, a, b, rfl, mF.by sA, by omega, taF.by sA, tbF.by sA, ga, gb, hab, h4, fun HB bB mB => ⟨true, rfl, ?_⟩⟩
            have tB := (mF.by sA).tup bB
            refine ⟨_, rfl, _, rfl, _, rfl, _, rfl, du, g, c, _, v, u, a, b, rfl, mB, by omega, (taF.by sA).to tB, (tbF.by sA).to tB, ga, gb, hab, h4, fun HC bC mC => ⟨true, rfl, ?_⟩⟩
            exact ⟨_, _, _, _, _, rfl, mC.mono (by omega)⟩
          · refine iteND (fun z => ht0 (by have : (t : Int) = 0 := V.int.inj z; omega)) ?_
            refine ⟨_, rfl, _, rfl, _, rfl, v, u, a, b, rfl, taF, tbF, ga, gb, hab, h4, fun HA sA => ⟨true, rfl, ?_⟩⟩
            refine ⟨_, rfl, _, rfl, _, rfl, _, rfl, du, g, c, _, v, u, a, b, rfl, mF.by sA, by omega, taF.by sA, tbF.by sA, ga, gb, hab, h4, fun HB bB mB => ⟨true, rfl, ?_⟩⟩
            have tB := (mF.by sA).tup bB
            refine ⟨_, rfl, _, rfl, _, rfl, _, rfl, du, g, c, _, v, u, a, b, rfl, mB, by omega, (taF.by sA).to tB, (tbF.by sA).to tB, ga, gb, hab, h4, fun HC bC mC => ⟨true, rfl, ?_⟩⟩
            exact ⟨_, _, _, _, _, rfl, mC.mono (by omega)⟩
        · refine iteND (by omega) ?_
          refine ⟨_, rfl, _, rfl, _, rfl, v, u, a, b, rfl, taF, tbF, ga, gb, hab, h4, fun HA sA => ⟨true, rfl, ?_⟩⟩
          refine ⟨_, rfl, _, rfl, _, rfl, _, rfl, du, g, c, _, v, u, a, b, rfl, mF.by sA, by omega, taF.by sA, tbF.by sA, ga, gb, hab, h4, fun HB bB mB => ⟨true, rfl, ?_⟩⟩
          have tB := (mF.by sA).tup bB
          refine ⟨_, rfl, _, rfl, _, rfl, _, rfl, du, g, c, _, v, u, a, b, rfl, mB, by omega, (taF.by sA).to tB, (tbF.by sA).to tB, ga, gb, hab, h4, fun HC bC mC => ⟨true, rfl, ?_⟩⟩
          exact ⟨_, _, _, _, _, rfl, mC.mono (by omega)⟩
    · obtain ⟨y2, y3, y4, y5, y6, rfl, mc⟩ := p
      exact q _
end
end DC
end

section
set_option Elab.async false
set_option linter.all false
set_option maxRecDepth 100000
set_option maxHeartbeats 4000000
namespace DC
open PySem PySem.Spec PyProof.Rows L2
theorem tx_of {K : PySem.W.Frag} {h : Heap} {mg : Str → Option Value} (X : K.In h) (G : h.Ns mainGlobals mg) (c : He.SaysD fa fn K) : TX K mg where
  f_is_whole := ⟨c.def_ 0 (d := d_is_whole) rfl, He.glo_ok X G (c.fact 0 (f := .glo "is_whole") rfl)⟩
  f_is_joint := ⟨c.def_ 1 (d := d_is_joint) rfl, He.glo_ok X G (c.fact 1 (f := .glo "is_joint") rfl)⟩
  f_wrong_place := ⟨c.def_ 2 (d := d_wrong_place) rfl, He.glo_ok X G (c.fact 2 (f := .glo "wrong_place") rfl)⟩
  f_need_lay := ⟨c.def_ 3 (d := d_need_lay) rfl, He.glo_ok X G (c.fact 3 (f := .glo "need_lay") rfl)⟩
  f_need_two := ⟨c.def_ 4 (d := d_need_two) rfl, He.glo_ok X G (c.fact 4 (f := .glo "need_two") rfl)⟩
  f_need_link := ⟨c.def_ 5 (d := d_need_link) rfl, He.glo_ok X G (c.fact 5 (f := .glo "need_link") rfl)⟩
  f_fellow_of := ⟨c.def_ 6 (d := d_fellow_of) rfl, He.glo_ok X G (c.fact 6 (f := .glo "fellow_of") rfl)⟩
  f_joint_of := ⟨c.def_ 7 (d := d_joint_of) rfl, He.glo_ok X G (c.fact 7 (f := .glo "joint_of") rfl)⟩
  f_mates_in := ⟨c.def_ 8 (d := d_mates_in) rfl, He.glo_ok X G (c.fact 8 (f := .glo "mates_in") rfl)⟩
  f_free_in := ⟨c.def_ 9 (d := d_free_in) rfl, He.glo_ok X G (c.fact 9 (f := .glo "free_in") rfl)⟩
  f_lay_with := ⟨c.def_ 10 (d := d_lay_with) rfl, He.glo_ok X G (c.fact 10 (f := .glo "lay_with") rfl)⟩
  f_is_order := ⟨c.def_ 11 (d := d_is_order) rfl, He.glo_ok X G (c.fact 11 (f := .glo "is_order") rfl)⟩
  f_renamed := ⟨c.def_ 12 (d := d_renamed) rfl, He.glo_ok X G (c.fact 12 (f := .glo "renamed") rfl)⟩
  f_without := ⟨c.def_ 13 (d := d_without) rfl, He.glo_ok X G (c.fact 13 (f := .glo "without") rfl)⟩
  f_beside := ⟨c.def_ 14 (d := d_beside) rfl, He.glo_ok X G (c.fact 14 (f := .glo "beside") rfl)⟩
  f_doubles_of := ⟨c.def_ 15 (d := d_doubles_of) rfl, He.glo_ok X G (c.fact 15 (f := .glo "doubles_of") rfl)⟩
  f_steps_in := ⟨c.def_ 16 (d := d_steps_in) rfl, He.glo_ok X G (c.fact 16 (f := .glo "steps_in") rfl)⟩
  f_has_form := ⟨c.def_ 17 (d := d_has_form) rfl, He.glo_ok X G (c.fact 17 (f := .glo "has_form") rfl)⟩
  f_is_step_in := ⟨c.def_ 18 (d := d_is_step_in) rfl, He.glo_ok X G (c.fact 18 (f := .glo "is_step_in") rfl)⟩
  f_after := ⟨c.def_ 19 (d := d_after) rfl, He.glo_ok X G (c.fact 19 (f := .glo "after") rfl)⟩
  f_step_between := ⟨c.def_ 20 (d := d_step_between) rfl, He.glo_ok X G (c.fact 20 (f := .glo "step_between") rfl)⟩
  f_row_from := ⟨c.def_ 21 (d := d_row_from) rfl, He.glo_ok X G (c.fact 21 (f := .glo "row_from") rfl)⟩
  f_rows_in := ⟨c.def_ 22 (d := d_rows_in) rfl, He.glo_ok X G (c.fact 22 (f := .glo "rows_in") rfl)⟩
  f_kind_of := ⟨c.def_ 23 (d := d_kind_of) rfl, He.glo_ok X G (c.fact 23 (f := .glo "kind_of") rfl)⟩
  f_pieces_in := ⟨c.def_ 24 (d := d_pieces_in) rfl, He.glo_ok X G (c.fact 24 (f := .glo "pieces_in") rfl)⟩
  f_cost_of := ⟨c.def_ 25 (d := d_cost_of) rfl, He.glo_ok X G (c.fact 25 (f := .glo "cost_of") rfl)⟩
  f_cost_in := ⟨c.def_ 26 (d := d_cost_in) rfl, He.glo_ok X G (c.fact 26 (f := .glo "cost_in") rfl)⟩
  f_pieces := ⟨c.def_ 27 (d := d_pieces) rfl, He.glo_ok X G (c.fact 27 (f := .glo "pieces") rfl)⟩
  f_least_steps := ⟨c.def_ 28 (d := d_least_steps) rfl, He.glo_ok X G (c.fact 28 (f := .glo "least_steps") rfl)⟩
  f_is_between := ⟨c.def_ 29 (d := d_is_between) rfl, He.glo_ok X G (c.fact 29 (f := .glo "is_between") rfl)⟩
  f_wrong_step := ⟨c.def_ 30 (d := d_wrong_step) rfl, He.glo_ok X G (c.fact 30 (f := .glo "wrong_step") rfl)⟩
  f_need_history := ⟨c.def_ 31 (d := d_need_history) rfl, He.glo_ok X G (c.fact 31 (f := .glo "need_history") rfl)⟩
  f_lays_in_turn := ⟨c.def_ 32 (d := d_lays_in_turn) rfl, He.glo_ok X G (c.fact 32 (f := .glo "lays_in_turn") rfl)⟩
  f_end_of := ⟨c.def_ 33 (d := d_end_of) rfl, He.glo_ok X G (c.fact 33 (f := .glo "end_of") rfl)⟩
  f_last_lay := ⟨c.def_ 34 (d := d_last_lay) rfl, He.glo_ok X G (c.fact 34 (f := .glo "last_lay") rfl)⟩
  f_lays_along := ⟨c.def_ 35 (d := d_lays_along) rfl, He.glo_ok X G (c.fact 35 (f := .glo "lays_along") rfl)⟩
  f_plain_history := ⟨c.def_ 36 (d := d_plain_history) rfl, He.glo_ok X G (c.fact 36 (f := .glo "plain_history") rfl)⟩
  f_good_steps_in := ⟨c.def_ 37 (d := d_good_steps_in) rfl, He.glo_ok X G (c.fact 37 (f := .glo "good_steps_in") rfl)⟩
  f_one_in := ⟨c.def_ 38 (d := d_one_in) rfl, He.glo_ok X G (c.fact 38 (f := .glo "one_in") rfl)⟩
  f_a_least := ⟨c.def_ 39 (d := d_a_least) rfl, He.glo_ok X G (c.fact 39 (f := .glo "a_least") rfl)⟩
  f_common := ⟨c.def_ 40 (d := d_common) rfl, He.glo_ok X G (c.fact 40 (f := .glo "common") rfl)⟩
  f__law_mixed := ⟨c.def_ 41 (d := d__law_mixed) rfl, He.glo_ok X G (c.fact 41 (f := .glo "_law_mixed") rfl)⟩
  f__law_folded := ⟨c.def_ 42 (d := d__law_folded) rfl, He.glo_ok X G (c.fact 42 (f := .glo "_law_folded") rfl)⟩
  f__law_draw := ⟨c.def_ 43 (d := d__law_draw) rfl, He.glo_ok X G (c.fact 43 (f := .glo "_law_draw") rfl)⟩
  f__law_begun := ⟨c.def_ 44 (d := d__law_begun) rfl, He.glo_ok X G (c.fact 44 (f := .glo "_law_begun") rfl)⟩
  f__law_like := ⟨c.def_ 45 (d := d__law_like) rfl, He.glo_ok X G (c.fact 45 (f := .glo "_law_like") rfl)⟩
  f__law_of := ⟨c.def_ 46 (d := d__law_of) rfl, He.glo_ok X G (c.fact 46 (f := .glo "_law_of") rfl)⟩
  f__law_shuffled := ⟨c.def_ 47 (d := d__law_shuffled) rfl, He.glo_ok X G (c.fact 47 (f := .glo "_law_shuffled") rfl)⟩
  f__law_lay := ⟨c.def_ 48 (d := d__law_lay) rfl, He.glo_ok X G (c.fact 48 (f := .glo "_law_lay") rfl)⟩
  f__law_pair := ⟨c.def_ 49 (d := d__law_pair) rfl, He.glo_ok X G (c.fact 49 (f := .glo "_law_pair") rfl)⟩
  f__law_mates := ⟨c.def_ 50 (d := d__law_mates) rfl, He.glo_ok X G (c.fact 50 (f := .glo "_law_mates") rfl)⟩
  f__law_free := ⟨c.def_ 51 (d := d__law_free) rfl, He.glo_ok X G (c.fact 51 (f := .glo "_law_free") rfl)⟩
  f__law_steps := ⟨c.def_ 52 (d := d__law_steps) rfl, He.glo_ok X G (c.fact 52 (f := .glo "_law_steps") rfl)⟩
  f__law_after := ⟨c.def_ 53 (d := d__law_after) rfl, He.glo_ok X G (c.fact 53 (f := .glo "_law_after") rfl)⟩
  f__law_far := ⟨c.def_ 54 (d := d__law_far) rfl, He.glo_ok X G (c.fact 54 (f := .glo "_law_far") rfl)⟩
  f__law_between_right := ⟨c.def_ 55 (d := d__law_between_right) rfl, He.glo_ok X G (c.fact 55 (f := .glo "_law_between_right") rfl)⟩
  f__law_common_right := ⟨c.def_ 56 (d := d__law_common_right) rfl, He.glo_ok X G (c.fact 56 (f := .glo "_law_common_right") rfl)⟩
  f__law_moved_right := ⟨c.def_ 57 (d := d__law_moved_right) rfl, He.glo_ok X G (c.fact 57 (f := .glo "_law_moved_right") rfl)⟩
  f_law := ⟨c.def_ 58 (d := d_law) rfl, He.glo_ok X G (c.fact 58 (f := .glo "law") rfl)⟩
  z_isinstance := He.free_ok X G (c.fact 59 (f := .free "isinstance") rfl)
  z_len := He.free_ok X G (c.fact 60 (f := .free "len") rfl)
  z_all := He.free_ok X G (c.fact 61 (f := .free "all") rfl)
  z_enumerate := He.free_ok X G (c.fact 62 (f := .free "enumerate") rfl)
  z_sorted := He.free_ok X G (c.fact 63 (f := .free "sorted") rfl)
  z_list := He.free_ok X G (c.fact 64 (f := .free "list") rfl)
  z_range := He.free_ok X G (c.fact 65 (f := .free "range") rfl)
  z_tuple := He.free_ok X G (c.fact 66 (f := .free "tuple") rfl)
  z_abs := He.free_ok X G (c.fact 67 (f := .free "abs") rfl)
  z_min := He.free_ok X G (c.fact 68 (f := .free "min") rfl)
  z_max := He.free_ok X G (c.fact 69 (f := .free "max") rfl)
  z_sum := He.free_ok X G (c.fact 70 (f := .free "sum") rfl)
  z_repr := He.free_ok X G (c.fact 71 (f := .free "repr") rfl)
  z_int := He.free_ok X G (c.fact 72 (f := .free "int") rfl)
  z_bool := He.free_ok X G (c.fact 73 (f := .free "bool") rfl)
  c_MOST_LINKS := He.int_ok X G (c.fact 74 (f := .int "MOST_LINKS" 12) rfl)
  c_MOST_JOINTS := He.int_ok X G (c.fact 75 (f := .int "MOST_JOINTS" 2) rfl)
  c_RING := He.str_ok X G (c.fact 76 (f := .str "RING" "ring") rfl)
  c_ODD := He.str_ok X G (c.fact 77 (f := .str "ODD" "odd") rfl)
  c_OPEN := He.str_ok X G (c.fact 78 (f := .str "OPEN" "open") rfl)
  c_SHUT := He.str_ok X G (c.fact 79 (f := .str "SHUT" "shut") rfl)
  c_MOST_STEPS := He.int_ok X G (c.fact 80 (f := .int "MOST_STEPS" 60) rfl)
end DC
open PySem PySem.W PySem.Calls PyProof.Rows
theorem PySem.Challenge.cw_doublecut_k97_whole_common_and_least_ste_holds : PySem.Challenge.rw_doublecut_k97_whole_common_and_least_ste.Holds := by
  refine DC.head_of fun w mg fa h Y G hmg => ?_
  obtain ⟨K, KX, c⟩ := Y
  have T := DC.tx_of KX G c
  obtain ⟨⟨fd, F⟩, hga⟩ := T.f_law
  have e := hmg.symm.trans hga
  cases e
  have b := L2.FunD.bindsA (ps := ["_law_script"]) F fun _ _ _ _ _ _ us hl => match us, hl with | [_], _ => rfl
  exact ⟨K, fd, DC.sp_law K, KX, fun s v => b s [v] rfl, fun H a ns hl hS => ⟨a, ns, rfl, hS, hl, fun _ => rfl⟩, fun base _ _ => DC.law_G T F⟩
end
