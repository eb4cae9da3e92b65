import PyProof.Rows.All
import Wide.All
import OpenK.AllK
import Wide.FinOn
import PyProof.EqAt
import PyProof.EqKinds
import PyProof.TupleCall
import HandS.ForMost
import HandS.Exc
import HandS.TryOnly
import HandS.ExcOwn
import HandS.WordsExc
import HandS.IsInst
import HandS.ExcIs
import HandS.Evl
import HandS.HotCalls
import HandS.Deep
import HandS.Style
import PySem.Challenge.RW_backmarks_k01_one_step
set_option Elab.async false
set_option linter.all false
set_option maxRecDepth 100000
set_option maxHeartbeats 4000000
/-! ## Common words: a def as it stands, what it promises, an error class, things that are whole numbers or not -/
namespace BM
open PySem PySem.Spec PyProof.Rows L2

/-- the def named x of the module's top -/
def Def (K : PySem.W.Frag) (mg : Str → Option Value) (x qual : Str) (st : Stmt) (ps : List Str) : Prop :=
  ∃ (f : Addr) (fd : FuncData), mg x = some (.ref f) ∧ Fun K x qual st f fd ∧ Binds K fd ps []
/-- it keeps its promise -/
def OkF (P : Program) (w : World) (K : PySem.W.Frag) (mg : Str → Option Value) (base : Heap) (x : Str) (k : Nat) (ps : List Str) (sp : Sp) : Prop :=
  ∃ (f : Addr) (fd : FuncData), mg x = some (.ref f) ∧ PySem.W.keepIn K (.ref f) = true ∧ Binds K fd ps [] ∧ FnOk P w K mg base (L2.CX P w) k f fd ps sp
/-- a class of the program's own errors, without a body of its own -/
structure XC (K : PySem.W.Frag) (mg : Str → Option Value) (n : Str) (C : Addr) : Prop where
  g : mg n = some (.ref C)
  x : PySem.W.excIn K C [.type "ValueError", .type "Exception", .type "BaseException", .type "object"] "ValueError.__new__" = true
  k : PySem.W.keepIn K (.ref C) = true
  b : PySem.W.subIn K (.ref C) (.type "BaseException") = some true
  t : PySem.W.typeIn K (.ref C) = some (.type "type")
section
variable {P : Program} {w : World} {K : PySem.W.Frag} {mg : Str → Option Value} {base : Heap}
theorem okf {x qual : Str} {st : Stmt} {N ps : List Str} {k : Nat} {sp : Sp} (D : Def K mg x qual st ps) (S : FnScope N ps (defScope st)) (len : ∀ vs H Q E, sp vs H Q E → vs.length = ps.length)
    (hbody : ∀ (f : Addr) (cdv : Value) (A : Around) (outer : List Env) (s : Shared) (H : Hp) (vs : List V) (Q : VK) (E : XK), Room k (A.deeper (envOfC qual (defScope st) s.heap.objs.size f cdv)) → sp vs H Q E →
      ∃ t, PSs (cxOf (L2.CX P w) P w K mg base N qual (defScope st) f cdv A outer s H E) (defBody st) t ∧ t { nx := fun _ H' => Q .non H', rt := Q } (start N vs) H) : OkF P w K mg base x (k + 1) ps sp := by
  obtain ⟨f, fd, hm, F, hb⟩ := D
  exact ⟨f, fd, hm, F.kp, hb, F.okX S len (fun cdv A outer s H vs Q E hr h => hbody f cdv A outer s H vs Q E hr h)⟩
theorem OkF.mono {x : Str} {j k : Nat} {ps : List Str} {sp : Sp} (F : OkF P w K mg base x j ps sp) (h : j ≤ k) : OkF P w K mg base x k ps sp := by
  obtain ⟨f, fd, hm, hk, hb, G⟩ := F
  exact ⟨f, fd, hm, hk, hb, G.mono h⟩
end
/-- a thing, and the whole number that it is (no truth value is one) -/
inductive Thg (K : PySem.W.Frag) (H : Hp) : V → Option Int → Prop where
  | int (i : Int) : Thg K H (.int i) (some i)
  | bl (b : Bool) : Thg K H (.bl b) none
  | oth {x : V} {t : Value} (ty : TyX K H x t) (ni : PySem.W.kitOne K t (.type "int") = some false) : Thg K H x none
theorem Thg.non {K : PySem.W.Frag} {H : Hp} : Thg K H .non none := .oth (.base .non) (kit_ty (by decide +kernel))
theorem Thg.str {K : PySem.W.Frag} {H : Hp} (x : Str) : Thg K H (.str x) none := .oth (.base (.str x)) (kit_ty (by decide +kernel))
theorem Thg.lst {K : PySem.W.Frag} {H : Hp} {a : Addr} {xs : List V} (e : H a = some (.lst xs)) : Thg K H (.ref a) none := .oth (.base (.lst e)) (kit_ty (by decide +kernel))
theorem Thg.tup {K : PySem.W.Frag} {H : Hp} {a : Addr} {xs : List V} (e : H a = some (.tup xs)) : Thg K H (.ref a) none := .oth (.base (.tup e)) (kit_ty (by decide +kernel))
theorem Thg.dK {K : PySem.W.Frag} {H : Hp} {a : Addr} {xs : List (Key × V)} (e : H a = some (.dK xs)) : Thg K H (.ref a) none := .oth (.base (.dK e)) (kit_ty (by decide +kernel))
theorem tyOf_same {K : PySem.W.Frag} {H H' : Hp} {x : V} {t : Value} (e : Same H H') (h : TyOf K H x t) : TyOf K H' x t := by
  cases h with
  | non => exact .non
  | bl b => exact .bl b
  | int i => exact .int i
  | str z => exact .str z
  | flt z => exact .flt z
  | lst q => exact .lst (e _ _ q)
  | frz q => exact .frz (e _ _ q)
  | tup q => exact .tup (e _ _ q)
  | dK q => exact .dK (e _ _ q)
  | dT q => exact .dT (e _ _ q)
  | ins q cl ha hn htk hm => exact .ins (e _ _ q) cl ha hn htk hm
theorem tyX_same {K : PySem.W.Frag} {H H' : Hp} {x : V} {t : Value} (e : Same H H') (h : TyX K H x t) : TyX K H' x t := by
  cases h with
  | base b => exact .base (tyOf_same e b)
  | byt b => exact .byt b
  | set q => exact .set (e _ _ q)
  | kList q c => exact .kList q c
  | kTuple q c => exact .kTuple q c
  | kDict q c => exact .kDict q c
  | fTuple q => exact .fTuple (e _ _ q)
  | fDict q => exact .fDict (e _ _ q)
theorem Thg.same {K : PySem.W.Frag} {H H' : Hp} {x : V} {o : Option Int} (e : Same H H') (h : Thg K H x o) : Thg K H' x o := by
  cases h with
  | int i => exact .int i
  | bl b => exact .bl b
  | oth ty ni => exact .oth (tyX_same e ty) ni
theorem pick {α : Type} {P : α → Prop} {xs : List α} (h : ∀ x ∈ xs, P x) {j : Nat} (hj : j < xs.length) : ∃ x, xs[j]? = some x ∧ P x := ⟨xs[j], List.getElem?_eq_getElem hj, h _ (List.getElem_mem hj)⟩
def among (o : Option Int) (lo hi : Int) : Bool := match o with
  | some i => decide (lo ≤ i) && decide (i ≤ hi)
  | none => false
def whole (o : Option Int) : Bool := o.isSome
/-- a new list, a new tuple: what stood stands, and it is there -/
def RetL (H : Hp) (xs : List V) (Q : VK) : Prop := ∀ p H', H p = none → Same H H' → H' p = some (.lst xs) → Q (.ref p) H'
def RetT (H : Hp) (xs : List V) (Q : VK) : Prop := ∀ p H', H p = none → Same H H' → H' p = some (.tup xs) → Q (.ref p) H'
theorem Same.new {H : Hp} {p : Addr} {o : HO} (h : H p = none) : Same H (upd H p o) := fun a u e => by
  rw [upd_ne (ne_of_none e h)]
  exact e
theorem new_at {H : Hp} {p : Addr} {o : HO} (_ : H p = none) : upd H p o p = some o := upd_same
theorem Same.mut {H H' : Hp} {p : Addr} {o : HO} (e : Same H H') (h : H p = none) : Same H (upd H' p o) := fun a u ha => by
  rw [upd_ne (ne_of_none ha h)]
  exact e a u ha
theorem get_map {α β : Type} {f : α → β} {xs : List α} {i : Nat} {y : β} (h : (xs.map f)[i]? = some y) : ∃ x, xs[i]? = some x ∧ y = f x := by
  rw [List.getElem?_map] at h
  cases e : xs[i]? with
  | none =>
    rw [e] at h
    cases h
  | some x =>
    rw [e] at h
    exact ⟨x, rfl, (Option.some.inj h).symm⟩
theorem take_succ {α : Type} {l : List α} {i : Nat} {x : α} (h : l[i]? = some x) : l.take (i + 1) = l.take i ++ [x] := by
  rw [List.take_add_one, h] <;> rfl
theorem at_map {xs : List Int} {z : Int} {j : Nat} {v : Int} (e : z = (j : Int)) (h : xs[j]? = some v) : atI (xs.map V.int) z = some (V.int v) := by
  rw [e]
  refine atI_nat ?_
  rw [List.getElem?_map, h] <;> rfl
theorem sz5 {n : Nat} (h : n ≤ 100000) : n ≤ sizeLine := Nat.le_trans h (by decide)
theorem sz5' {n : Nat} (h : n < 100000) : n < sizeLine := Nat.lt_of_lt_of_le h (by decide)
theorem cx0_no {P : Program} {w : World} {H : Hp} {s : Shared} {e : Value} {s' : Shared} (h : L2.CX P w [] H s (fun _ _ _ => False) e s') : False := by
  obtain ⟨_, _, _, _, _, _, _, _, _, _, _, _, z⟩ := h
  exact z.elim
/-- the law's: a list of at most 63 whole numbers is handed in, True comes out -/
def sp_law (K : PySem.W.Frag) : Sp := fun vs H Q _ => ∃ (a : Addr) (ns : List Int), vs = [.ref a] ∧ SqL K H a (ns.map V.int) ∧ ns.length ≤ 63 ∧ ∀ H', Q (.bl true) H'
theorem law_true {K : PySem.W.Frag} {H : Hp} {a : Addr} {ns : List Int} (hS : SqL K H a (ns.map V.int)) (hl : ns.length ≤ 63) : sp_law K [.ref a] H (fun v _ => v = .bl true) (fun _ _ _ => False) := ⟨a, ns, rfl, hS, hl, fun _ => rfl⟩
/-- a remainder as a natural number -/
theorem rem_nat {z m : Int} (hm : 0 < m) : ∃ s : Nat, (s : Int) < m ∧ z % m = (s : Int) := by
  have h1 := Int.emod_nonneg z (show m ≠ 0 by omega)
  have h2 := Int.emod_lt_of_pos z hm
  exact ⟨(z % m).toNat, by omega, by omega⟩
end BM

/-! ## Data that is compared -/
namespace BM
open PySem PySem.Spec PyProof.Rows L2
def Sh (n : Nat) (d : PyData) : Prop := d.canLay0 = true ∧ d.depth ≤ n
theorem canAll : ∀ {ds : List PyData}, (∀ d ∈ ds, d.canLay0 = true) → PyData.canLayAll0 ds = true
  | [], _ => rfl
  | d :: r, h => by
    have h1 := h d List.mem_cons_self
    have h2 := canAll (ds := r) fun e he => h e (List.mem_cons_of_mem _ he)
    simp [PyData.canLayAll0, h1, h2]
theorem depAll {n : Nat} : ∀ {ds : List PyData}, (∀ d ∈ ds, d.depth ≤ n) → PyData.depthAll ds ≤ n
  | [], _ => by
    show 0 ≤ n
    omega
  | d :: r, h => by
    have h1 := h d List.mem_cons_self
    have h2 := depAll (ds := r) fun e he => h e (List.mem_cons_of_mem _ he)
    show max d.depth (PyData.depthAll r) ≤ n
    omega
theorem Sh.non {n : Nat} : Sh n .none := ⟨rfl, Nat.zero_le _⟩
theorem Sh.bl {n : Nat} (b : Bool) : Sh n (.bool b) := ⟨rfl, Nat.zero_le _⟩
theorem Sh.int {n : Nat} (i : Int) : Sh n (.int i) := ⟨rfl, Nat.zero_le _⟩
theorem Sh.str {n : Nat} {x : Str} (h : (PyData.str x).canLay0 = true) : Sh n (.str x) := ⟨h, Nat.zero_le _⟩
theorem Sh.lst {n : Nat} {ds : List PyData} (h : ∀ d ∈ ds, Sh n d) : Sh (n + 1) (.list ds) :=
  ⟨canAll fun d hd => (h d hd).1, by
    have := depAll fun d hd => (h d hd).2
    show PyData.depthAll ds + 1 ≤ n + 1
    omega⟩
theorem Sh.tup {n : Nat} {ds : List PyData} (h : ∀ d ∈ ds, Sh n d) : Sh (n + 1) (.tuple ds) :=
  ⟨canAll fun d hd => (h d hd).1, by
    have := depAll fun d hd => (h d hd).2
    show PyData.depthAll ds + 1 ≤ n + 1
    omega⟩
theorem Sh.shaped {n : Nat} {d : PyData} (h : Sh n d) (hn : n ≤ 64) : SeqAt.shaped d = true := by
  unfold SeqAt.shaped
  rw [h.1, Bool.true_and]
  exact decide_eq_true (Nat.le_trans h.2 hn)
theorem Sh.refl {n : Nat} {d : PyData} (h : Sh n d) : PyData.eqv d d = true := SeqAt.eqv_refl d h.1
theorem sh_ints {n : Nat} (ns : List Int) : Sh (n + 1) (.list (ns.map PyData.int)) := .lst fun d hd => by
  obtain ⟨i, _, rfl⟩ := List.mem_map.mp hd
  exact .int i
/-- values paired with data, by place -/
theorem dp_all {K : PySem.W.Frag} {H : Hp} : ∀ {vs : List V} {ds : List PyData}, vs.length = ds.length → (∀ (i : Nat) (v : V) (d : PyData), vs[i]? = some v → ds[i]? = some d → Dp K H v d) → DpAll K H vs ds
  | [], [], _, _ => .nil
  | [], _ :: _, h, _ => by simp at h
  | _ :: _, [], h, _ => by simp at h
  | v :: vs, d :: ds, h, k => .cons (k 0 v d rfl rfl) (dp_all (by simpa using h) fun i w e hw he => k (i + 1) w e hw he)
theorem dp_ints {K : PySem.W.Frag} {H : Hp} : ∀ ns : List Int, DpAll K H (ns.map V.int) (ns.map PyData.int)
  | [] => .nil
  | i :: r => .cons (.int i) (dp_ints r)
theorem atI_end {α : Type} {xs : List α} {v : α} (h : xs[xs.length - 1]? = some v) : atI xs (-1) = some v := by
  obtain ⟨hl, e⟩ := List.getElem?_eq_some_iff.mp h
  unfold atI ixN
  rw [if_neg (by decide), if_pos (by omega)]
  have e1 : ((-1 : Int) + (xs.length : Int)).toNat = xs.length - 1 := by omega
  rw [e1]
  exact h
def rListOf (K : PySem.W.Frag) : List V → Hp → VK → Prop := fun xs H Q => ∃ p ys, xs = [.ref p] ∧ (SqL K H p ys ∨ SqT K H p ys) ∧ ∀ l, H l = none → Q (.ref l) (upd H l (.lst ys))
end BM

/-! ## Rules and things, as they stand in memory -/
namespace BM
open PySem PySem.Spec PyProof.Rows L2
inductive Rule where
  | add (k : Nat) | times (k : Nat) | square | half
def Rule.word : Rule → Str
  | .add _ => "add"
  | .times _ => "times"
  | .square => "square"
  | .half => "half"
def Rule.vs : Rule → List V
  | .add k => [.str "add", .int (k : Int)]
  | .times k => [.str "times", .int (k : Int)]
  | .square => [.str "square"]
  | .half => [.str "half"]
def Rule.ok : Rule → Prop
  | .add k => k < 999983
  | .times k => k < 999983
  | _ => True
theorem Rule.at0 (r : Rule) : atI r.vs 0 = some (.str r.word) := by cases r <;> rfl
def forthN : Rule → Nat → Nat
  | .add k, s => (s + k) % 999983
  | .times k, s => s * k % 999983
  | .square, s => s * s % 999983
  | .half, s => s / 2
theorem forthN_lt (r : Rule) {s : Nat} (h : s < 999983) : forthN r s < 999983 := by
  cases r with
  | add k => exact Nat.mod_lt _ (by decide)
  | times k => exact Nat.mod_lt _ (by decide)
  | square => exact Nat.mod_lt _ (by decide)
  | half =>
    show s / 2 < 999983
    omega
/-- a thing, and whether it is a rule -/
inductive RuleTh (K : PySem.W.Frag) (H : Hp) : V → Bool → Prop where
  | ntup {x : V} {t : Value} (ty : TyX K H x t) (ni : PySem.W.kitOne K t (.type "tuple") = some false) : RuleTh K H x false
  | nil {q : Addr} (h : H q = some (.tup [])) : RuleTh K H (.ref q) false
  | nstr {q : Addr} {v : V} {r : List V} {t : Value} (h : H q = some (.tup (v :: r))) (ty : TyX K H v t) (ni : PySem.W.kitOne K t (.type "str") = some false) : RuleTh K H (.ref q) false
  | two {q : Addr} {w : Str} {r : List V} (h : H q = some (.tup (.str w :: r))) (hw : w = "add" ∨ w = "times") (hl : r.length ≠ 1) : RuleTh K H (.ref q) false
  | num {q : Addr} {w : Str} {v : V} {o : Option Int} (h : H q = some (.tup [.str w, v])) (hw : w = "add" ∨ w = "times") (th : Thg K H v o) : RuleTh K H (.ref q) (among o 0 999982)
  | one {q : Addr} {w : Str} {r : List V} {b : Bool} (h : H q = some (.tup (.str w :: r))) (h1 : w ≠ "add") (h2 : w ≠ "times") (hb : b = (decide (r = []) && (decide (w = "square") || decide (w = "half")))) : RuleTh K H (.ref q) b
theorem RuleTh.same {K : PySem.W.Frag} {H H' : Hp} {x : V} {b : Bool} (e : Same H H') (h : RuleTh K H x b) : RuleTh K H' x b := by
  cases h with
  | ntup ty ni => exact .ntup (tyX_same e ty) ni
  | nil h => exact .nil (e _ _ h)
  | nstr h ty ni => exact .nstr (e _ _ h) (tyX_same e ty) ni
  | two h hw hl => exact .two (e _ _ h) hw hl
  | num h hw th => exact .num (e _ _ h) hw (th.same e)
  | one h h1 h2 hb => exact .one (e _ _ h) h1 h2 hb
theorem Rule.th {K : PySem.W.Frag} {H : Hp} {q : Addr} (r : Rule) (ok : r.ok) (h : H q = some (.tup r.vs)) : RuleTh K H (.ref q) true := by
  cases r with
  | add k =>
    have e : among (some (k : Int)) 0 999982 = true := by
      have h : k < 999983 := ok
      show (decide ((0 : Int) ≤ (k : Int)) && decide ((k : Int) ≤ 999982)) = true
      simp only [Bool.and_eq_true, decide_eq_true_eq]
      omega
    rw [← e]
    exact .num h (.inl rfl) (.int _)
  | times k =>
    have e : among (some (k : Int)) 0 999982 = true := by
      have h : k < 999983 := ok
      show (decide ((0 : Int) ≤ (k : Int)) && decide ((k : Int) ≤ 999982)) = true
      simp only [Bool.and_eq_true, decide_eq_true_eq]
      omega
    rw [← e]
    exact .num h (.inr rfl) (.int _)
  | square => exact .one h (by decide +kernel) (by decide +kernel) (by decide +kernel)
  | half => exact .one h (by decide +kernel) (by decide +kernel) (by decide +kernel)
/-- a new rule is told -/
def RetR (H : Hp) (Q : VK) : Prop := ∀ (r : Rule) (p : Addr) (H' : Hp), r.ok → H p = none → Same H H' → H' p = some (.tup r.vs) → Q (.ref p) H'
end BM

namespace BM
open PySem PySem.Spec PyProof.Rows L2
def top (i : Nat) : Stmt := PySem.Challenge.pw_backmarks_k01_one_step.main.body.getD i (.Pass ⟨0, 0, 0, 0⟩)
abbrev s_is_among : Stmt := top 2
abbrev s_is_state : Stmt := top 3
abbrev s_is_rule : Stmt := top 4
abbrev s_forth : Stmt := top 5
abbrev s_l_cell_at : Stmt := top 7
abbrev s_l_number : Stmt := top 8
abbrev s_l_whole : Stmt := top 9
abbrev s_l_rule : Stmt := top 10
abbrev s_l_forth : Stmt := top 11
abbrev s_l_row : Stmt := top 12
abbrev s_l_states : Stmt := top 13
abbrev s_l_things : Stmt := top 14
abbrev s_law : Stmt := top 15
/-- what the top has left -/
structure Txt (K : PySem.W.Frag) (mg : Str → Option Value) : Type where
  d_is_among : Def K mg "is_among" "is_among" s_is_among ["thing", "low", "high"]
  d_is_state : Def K mg "is_state" "is_state" s_is_state ["thing"]
  d_is_rule : Def K mg "is_rule" "is_rule" s_is_rule ["thing"]
  d_forth : Def K mg "forth" "forth" s_forth ["rule", "state"]
  d_l_cell_at : Def K mg "_law_cell_at" "_law_cell_at" s_l_cell_at ["_law_script", "_law_k"]
  d_l_number : Def K mg "_law_number" "_law_number" s_l_number ["_law_script", "_law_k"]
  d_l_whole : Def K mg "_law_whole" "_law_whole" s_l_whole ["_law_found"]
  d_l_rule : Def K mg "_law_rule" "_law_rule" s_l_rule ["_law_number_here"]
  d_l_forth : Def K mg "_law_forth" "_law_forth" s_l_forth ["_law_rule_here", "_law_state"]
  d_l_things : Def K mg "_law_things" "_law_things" s_l_things []
  d_law : Def K mg "law" "law" s_law ["_law_script"]
  c_MODULUS : ∃ t, mg "MODULUS" = some (.int 999983 t)
  n_isinstance : mg "isinstance" = none
  n_bool : mg "bool" = none
  n_int : mg "int" = none
  n_str : mg "str" = none
  n_len : mg "len" = none
  n_tuple : mg "tuple" = none
theorem sc_is_among : FnScope ["thing", "low", "high"] ["thing", "low", "high"] (defScope s_is_among) := ⟨rfl, rfl, rfl, by decide +kernel, rfl, by decide +kernel, by decide +kernel⟩
theorem sc_is_state : FnScope ["thing"] ["thing"] (defScope s_is_state) := ⟨rfl, rfl, rfl, by decide +kernel, rfl, by decide +kernel, by decide +kernel⟩
theorem sc_is_rule : FnScope ["thing"] ["thing"] (defScope s_is_rule) := ⟨rfl, rfl, rfl, by decide +kernel, rfl, by decide +kernel, by decide +kernel⟩
theorem sc_forth : FnScope ["rule", "state"] ["rule", "state"] (defScope s_forth) := ⟨rfl, rfl, rfl, by decide +kernel, rfl, by decide +kernel, by decide +kernel⟩
theorem sc_l_cell_at : FnScope ["_law_script", "_law_k"] ["_law_script", "_law_k"] (defScope s_l_cell_at) := ⟨rfl, rfl, rfl, by decide +kernel, rfl, by decide +kernel, by decide +kernel⟩
theorem sc_l_number : FnScope ["_law_script", "_law_k", "_law_base"] ["_law_script", "_law_k"] (defScope s_l_number) := ⟨rfl, rfl, rfl, by decide +kernel, rfl, by decide +kernel, by decide +kernel⟩
theorem sc_l_whole : FnScope ["_law_found"] ["_law_found"] (defScope s_l_whole) := ⟨rfl, rfl, rfl, by decide +kernel, rfl, by decide +kernel, by decide +kernel⟩
theorem sc_l_rule : FnScope ["_law_number_here", "_law_k"] ["_law_number_here"] (defScope s_l_rule) := ⟨rfl, rfl, rfl, by decide +kernel, rfl, by decide +kernel, by decide +kernel⟩
theorem sc_l_forth : FnScope ["_law_rule_here", "_law_state"] ["_law_rule_here", "_law_state"] (defScope s_l_forth) := ⟨rfl, rfl, rfl, by decide +kernel, rfl, by decide +kernel, by decide +kernel⟩
theorem sc_l_things : FnScope ["_law_some"] [] (defScope s_l_things) := ⟨rfl, rfl, rfl, by decide +kernel, rfl, by decide +kernel, by decide +kernel⟩
theorem sc_law : FnScope ["_law_script", "_law_rule_here", "_law_cell", "_law_state", "_law_found", "_law_thing", "_law_state_due", "_law_rule_due", "_law_told"] ["_law_script"] (defScope s_law) := ⟨rfl, rfl, rfl, by decide +kernel, rfl, by decide +kernel, by decide +kernel⟩
section
variable {P : Program} {w : World} {K : PySem.W.Frag} {mg : Str → Option Value} {base : Heap}
/-- is_among(thing, low, high) -/
def sp_is_among (K : PySem.W.Frag) : Sp := fun vs H Q _ => ∃ (x : V) (lo hi : Int) (o : Option Int), vs = [x, .int lo, .int hi] ∧ Thg K H x o ∧ Q (.bl (among o lo hi)) H
theorem ok_is_among (T : Txt K mg) : OkF P w K mg base "is_among" 1 ["thing", "low", "high"] (sp_is_among K) := by
  refine okf T.d_is_among sc_is_among (fun vs H Q E h => ?_) (fun f cdv A outer s H vs Q E hr h => ?_)
  · obtain ⟨x, lo, hi, o, rfl, th, k⟩ := h
    rfl
  · obtain ⟨x, lo, hi, o, rfl, th, k⟩ := h
    refine ⟨_, (pss_one (ps_ret (pe_and (pe_callB call_isi (by rfl) T.n_isinstance (by decide +kernel) (pa_cons (pv 0) (pa_cons (pe_bltn (v := .ty "int") (by rfl) T.n_int (by decide +kernel) rfl) pa_nil))) (pe_and (pe_not (pe_callB call_isi (by rfl) T.n_isinstance (by decide +kernel) (pa_cons (pv 0) (pa_cons (pe_bltn (v := .ty "bool") (by rfl) T.n_bool (by decide +kernel) rfl) pa_nil)))) (pe_one (pe_chain op_le op_le (pv 1) (pv 0) (pv 2))))))), ?_⟩
    refine ⟨_, rfl, ?_⟩
    cases th with
    | int i =>
      refine ⟨_, _, _, _, true, rfl, .ty "int", .base (.int i), kit_ty (by decide +kernel), true, rfl, iteT ?_⟩
      refine ⟨_, rfl, _, _, _, _, false, rfl, .ty "bool", .base (.int i), kit_ty (by decide +kernel), false, rfl, true, rfl, iteT ?_⟩
      refine ⟨_, rfl, _, rfl, _, _, rfl, rfl, _, rfl, ?_⟩
      refine ite2 (fun c => ?_) (fun c => ?_)
      · refine ⟨_, rfl, _, _, rfl, rfl, ?_⟩
        have e : among (some i) lo hi = decide (i ≤ hi) := by
          show (decide (lo ≤ i) && decide (i ≤ hi)) = decide (i ≤ hi)
          rw [c, Bool.true_and]
        rw [e] at k
        exact k
      · have e : among (some i) lo hi = false := by
          show (decide (lo ≤ i) && decide (i ≤ hi)) = false
          rw [Bool.eq_false_iff.mpr c, Bool.false_and]
        rw [e] at k
        exact k
    | bl b =>
      refine ⟨_, _, _, _, true, rfl, .ty "int", .base (.bl b), kit_ty (by decide +kernel), true, rfl, iteT ?_⟩
      refine ⟨_, rfl, _, _, _, _, true, rfl, .ty "bool", .base (.bl b), kit_ty (by decide +kernel), true, rfl, false, rfl, iteF ?_⟩
      exact k
    | oth ty ni =>
      refine ⟨_, _, _, _, false, rfl, .ty "int", ty, ni, false, rfl, iteF ?_⟩
      exact k
def sp_is_state (K : PySem.W.Frag) : Sp := fun vs H Q _ => ∃ (x : V) (o : Option Int), vs = [x] ∧ Thg K H x o ∧ Q (.bl (among o 0 999982)) H
theorem ok_is_state (T : Txt K mg) : OkF P w K mg base "is_state" 2 ["thing"] (sp_is_state K) := by
  obtain ⟨f_is_among, fd_is_among, m_is_among, k_is_among, b_is_among, G_is_among⟩ := ok_is_among (P := P) (w := w) (base := base) T
  refine okf T.d_is_state sc_is_state (fun vs H Q E h => ?_) (fun f cdv A outer s H vs Q E hr h => ?_)
  · obtain ⟨x, o, rfl, th, k⟩ := h
    rfl
  · obtain ⟨x, o, rfl, th, k⟩ := h
    refine ⟨_, (pss_one (ps_ret (pe_call G_is_among (hr.mono (by decide)) (by rfl) m_is_among k_is_among b_is_among .nil passL (pa_cons (pv 0) (pa_cons pe_int (pa_cons (pe_op op_sub (pe_glob (v := .int 999983) (by rfl) T.c_MODULUS.choose_spec ⟨_, rfl⟩) pe_int) pa_nil)))))), ?_⟩
    exact ⟨_, rfl, _, _, rfl, rfl, x, 0, 999982, o, rfl, th, k⟩
def sp_is_rule (K : PySem.W.Frag) : Sp := fun vs H Q _ => ∃ (x : V) (b : Bool), vs = [x] ∧ RuleTh K H x b ∧ Q (.bl b) H
theorem str_eq (w v : Str) : decide (V.str w = V.str v) = decide (w = v) := decide_eq_decide.mpr ⟨V.str.inj, fun e => by rw [e]⟩
theorem len_ne0 {v : V} {r : List V} : decide (V.int ((v :: r).length : Int) = V.int 0) = false := decide_eq_false (fun z => by have := V.int.inj z; rw [List.length_cons] at this; omega)
def RTail (K : PySem.W.Frag) (H : Hp) (w : Str) (r : List V) (b : Bool) : Prop :=
  ((w = "add" ∨ w = "times") ∧ r.length ≠ 1 ∧ b = false) ∨ (∃ v o, (w = "add" ∨ w = "times") ∧ r = [v] ∧ Thg K H v o ∧ b = among o 0 999982) ∨ (w ≠ "add" ∧ w ≠ "times" ∧ b = (decide (r = []) && (decide (w = "square") || decide (w = "half"))))
theorem ok_is_rule (T : Txt K mg) : OkF P w K mg base "is_rule" 3 ["thing"] (sp_is_rule K) := by
  obtain ⟨f_is_state, fd_is_state, m_is_state, k_is_state, b_is_state, G_is_state⟩ := ok_is_state (P := P) (w := w) (base := base) T
  refine okf T.d_is_rule sc_is_rule (fun vs H Q E h => ?_) (fun f cdv A outer s H vs Q E hr h => ?_)
  · obtain ⟨x, b, rfl, th, k⟩ := h
    rfl
  · obtain ⟨x, b, rfl, th, k⟩ := h
    refine ⟨_, (Evl.pss_cut (ps_if (PW.pt (pw_or (pt_not (pt_val (pe_callB call_isi (by rfl) T.n_isinstance (by decide +kernel) (pa_cons (pv 0) (pa_cons (pe_bltn (v := .ty "tuple") (by rfl) T.n_tuple (by decide +kernel) rfl) pa_nil))))) (pw_or (pt_cmpR op_eq (pe_callB call_len_seq (by rfl) T.n_len PySem.boot_len (pa_cons (pv 0) pa_nil)) pe_int (nomark _)) (pw_or1 (pt_not (pt_val (pe_callB call_isi (by rfl) T.n_isinstance (by decide +kernel) (pa_cons (pe_ix ix_tup (pv 0) pe_int (fun _ _ => rfl)) (pa_cons (pe_bltn (v := .ty "str") (by rfl) T.n_str (by decide +kernel) rfl) pa_nil)))))))))
        (pss_one (ps_ret pe_bl))
        pss_nil)
        (Evl.pss_cut (ps_if (PW.pt (pw_or (pt_cmpR op_eq (pe_ix ix_tup (pv 0) pe_int (fun _ _ => rfl)) pe_str (nomark _)) (pw_or1 (pt_cmpR op_eq (pe_ix ix_tup (pv 0) pe_int (fun _ _ => rfl)) pe_str (nomark _)))))
        (pss_one (ps_ret (pe_and (pe_cmpR op_eq (pe_callB call_len_seq (by rfl) T.n_len PySem.boot_len (pa_cons (pv 0) pa_nil)) pe_int (nomark _)) (pe_one (pe_call G_is_state (hr.mono (by decide)) (by rfl) m_is_state k_is_state b_is_state .nil passL (pa_cons (pe_ix ix_tup (pv 0) pe_int (fun _ _ => rfl)) pa_nil))))))
        pss_nil)
        (pss_one (ps_ret (pe_and (pe_cmpR op_eq (pe_callB call_len_seq (by rfl) T.n_len PySem.boot_len (pa_cons (pv 0) pa_nil)) pe_int (nomark _)) (pe_one (pe_or (pe_cmpR op_eq (pe_ix ix_tup (pv 0) pe_int (fun _ _ => rfl)) pe_str (nomark _)) (pe_one (pe_cmpR op_eq (pe_ix ix_tup (pv 0) pe_int (fun _ _ => rfl)) pe_str (nomark _)))))))))), ?_⟩
    refine ⟨fun σ H' => H' = H ∧ σ = [some x] ∧ ∃ q w r, x = .ref q ∧ H q = some (.tup (.str w :: r)) ∧ RTail K H w r b, ?_, ?_⟩
    · cases th with
      | ntup ty ni =>
        exact ⟨_, rfl, x, _, _, _, false, rfl, .ty "tuple", ty, ni, false, rfl, iteT k⟩
      | @nil q hq =>
        refine ⟨_, rfl, .ref q, _, _, _, true, rfl, .ty "tuple", .base (.tup hq), kit_ty (by decide +kernel), true, rfl, iteF ?_⟩
        exact ⟨_, rfl, q, _, rfl, .inr (SqT.of hq), rfl, _, rfl, iteT k⟩
      | @nstr q v r t hq ty ni =>
        refine ⟨_, rfl, .ref q, _, _, _, true, rfl, .ty "tuple", .base (.tup hq), kit_ty (by decide +kernel), true, rfl, iteF ?_⟩
        refine ⟨_, rfl, q, _, rfl, .inr (SqT.of hq), rfl, _, rfl, ?_⟩
        rw [len_ne0]
        refine iteF ?_
        exact ⟨_, rfl, q, _, _, v, rfl, rfl, SqT.of hq, atI_nat (j := 0) rfl, v, _, _, _, false, rfl, .ty "str", ty, ni, false, rfl, iteT k⟩
      | @two q w r hq hw hl =>
        refine ⟨_, rfl, .ref q, _, _, _, true, rfl, .ty "tuple", .base (.tup hq), kit_ty (by decide +kernel), true, rfl, iteF ?_⟩
        refine ⟨_, rfl, q, _, rfl, .inr (SqT.of hq), rfl, _, rfl, ?_⟩
        rw [len_ne0]
        refine iteF ?_
        exact ⟨_, rfl, q, _, _, .str w, rfl, rfl, SqT.of hq, atI_nat (j := 0) rfl, .str w, _, _, _, true, rfl, .ty "str", .base (.str _), kit_ty (by decide +kernel), true, rfl, iteF ⟨rfl, rfl, q, w, r, rfl, hq, .inl ⟨hw, hl, rfl⟩⟩⟩
      | @num q w v o hq hw th =>
        refine ⟨_, rfl, .ref q, _, _, _, true, rfl, .ty "tuple", .base (.tup hq), kit_ty (by decide +kernel), true, rfl, iteF ?_⟩
        refine ⟨_, rfl, q, _, rfl, .inr (SqT.of hq), rfl, _, rfl, iteF ?_⟩
        exact ⟨_, rfl, q, _, _, .str w, rfl, rfl, SqT.of hq, atI_nat (j := 0) rfl, .str w, _, _, _, true, rfl, .ty "str", .base (.str _), kit_ty (by decide +kernel), true, rfl, iteF ⟨rfl, rfl, q, w, _, rfl, hq, .inr (.inl ⟨v, o, hw, rfl, th, rfl⟩)⟩⟩
      | @one q w r _ hq h1 h2 hb =>
        refine ⟨_, rfl, .ref q, _, _, _, true, rfl, .ty "tuple", .base (.tup hq), kit_ty (by decide +kernel), true, rfl, iteF ?_⟩
        refine ⟨_, rfl, q, _, rfl, .inr (SqT.of hq), rfl, _, rfl, ?_⟩
        rw [len_ne0]
        refine iteF ?_
        exact ⟨_, rfl, q, _, _, .str w, rfl, rfl, SqT.of hq, atI_nat (j := 0) rfl, .str w, _, _, _, true, rfl, .ty "str", .base (.str _), kit_ty (by decide +kernel), true, rfl, iteF ⟨rfl, rfl, q, w, r, rfl, hq, .inr (.inr ⟨h1, h2, hb⟩)⟩⟩
    rintro σ H' ⟨rfl, rfl, q, w, r, rfl, hq, tl⟩
    refine ⟨fun σ H1 => H1 = H' ∧ σ = [some (.ref q)] ∧ b = (decide (r = []) && (decide (w = "square") || decide (w = "half"))), ?_, ?_⟩
    · have go : (w = "add" ∨ w = "times") → (tAndV (tOp rEq (tCB (fun xs H Q => ∃ p ys, xs = [V.ref p] ∧ (SqL K H p ys ∨ SqT K H p ys) ∧ Q (V.int ys.length) H) (tCons (tVar 0) tNil)) (tC (.int 2))) (tCall (sp_is_state K) [] E0 (tCons (tOp (rIxT K) (tVar 0) (tC (.int 1))) tNil))) [some (.ref q)] H' (fun v H2 => Q v H2) := fun hw => by
        refine ⟨_, rfl, q, _, rfl, .inr (SqT.of hq), rfl, _, rfl, ?_⟩
        rcases tl with ⟨_, hl, hb⟩ | ⟨v, o, _, rfl, th, hb⟩ | ⟨h1, h2, _⟩
        · rw [show decide (V.int ((V.str w :: r).length : Int) = V.int 2) = false from decide_eq_false (fun z => by have := V.int.inj z; rw [List.length_cons] at this; omega)]
          rw [hb] at k
          exact iteF k
        · refine iteT ?_
          rw [hb] at k
          exact ⟨_, rfl, q, _, _, v, rfl, rfl, SqT.of hq, atI_nat (j := 1) rfl, v, o, rfl, th, k⟩
        · exact absurd hw (fun z => z.elim h1 h2)
      refine ⟨_, rfl, q, _, _, .str w, rfl, rfl, SqT.of hq, atI_nat (j := 0) rfl, rfl, _, rfl, ?_⟩
      rw [str_eq]
      refine ite2 (fun c => ?_) (fun c => ?_)
      · exact iteT (go (.inl (of_decide_eq_true c)))
      · refine ⟨_, rfl, q, _, _, .str w, rfl, rfl, SqT.of hq, atI_nat (j := 0) rfl, rfl, _, rfl, ?_⟩
        rw [str_eq]
        refine ite2 (fun c2 => ?_) (fun c2 => ?_)
        · exact go (.inr (of_decide_eq_true c2))
        · rcases tl with ⟨hw, _⟩ | ⟨v, o, hw, _⟩ | ⟨h1, h2, hb⟩
          · exact absurd hw (fun z => z.elim (fun z => c (decide_eq_true z)) (fun z => c2 (decide_eq_true z)))
          · exact absurd hw (fun z => z.elim (fun z => c (decide_eq_true z)) (fun z => c2 (decide_eq_true z)))
          · exact ⟨rfl, rfl, hb⟩
    rintro σ H1 ⟨rfl, rfl, hb⟩
    refine ⟨_, rfl, q, _, rfl, .inr (SqT.of hq), rfl, _, rfl, ?_⟩
    have el : decide (V.int ((V.str w :: r).length : Int) = V.int 1) = decide (r = []) := decide_eq_decide.mpr ⟨fun z => by
      have := V.int.inj z
      rw [List.length_cons] at this
      exact List.length_eq_zero_iff.mp (by omega), fun z => by rw [z] <;> rfl⟩
    rw [el]
    rw [hb] at k
    refine ite2 (fun c => ?_) (fun c => ?_)
    · rw [c, Bool.true_and] at k
      refine ⟨_, rfl, q, _, _, .str w, rfl, rfl, SqT.of hq, atI_nat (j := 0) rfl, rfl, _, rfl, ?_⟩
      rw [str_eq]
      refine ite2 (fun c1 => ?_) (fun c1 => ?_)
      · rw [c1, Bool.true_or] at k
        exact k
      · rw [Bool.eq_false_iff.mpr c1, Bool.false_or] at k
        refine ⟨_, rfl, q, _, _, .str w, rfl, rfl, SqT.of hq, atI_nat (j := 0) rfl, rfl, ?_⟩
        rw [str_eq]
        exact k
    · rw [Bool.eq_false_iff.mpr c, Bool.false_and] at k
      exact k
def sp_forth (K : PySem.W.Frag) : Sp := fun vs H Q _ => ∃ (q : Addr) (r : Rule) (s : Nat), vs = [.ref q, .int (s : Int)] ∧ H q = some (.tup r.vs) ∧ r.ok ∧ s < 999983 ∧ Q (.int (forthN r s : Int)) H
theorem ok_forth (T : Txt K mg) : OkF P w K mg base "forth" 1 ["rule", "state"] (sp_forth K) := by
  refine okf T.d_forth sc_forth (fun vs H Q E h => ?_) (fun f cdv A outer s H vs Q E hr h => ?_)
  · obtain ⟨q, r, s', rfl, hq, ok, hs, k⟩ := h
    rfl
  · obtain ⟨q, r, s', rfl, hq, ok, hs, k⟩ := h
    refine ⟨_, (pss_cons (ps_if (pt_cmpR op_eq (pe_ix ix_tup (pv 0) pe_int (fun _ _ => rfl)) pe_str (nomark _))
        (pss_one (ps_ret (pe_op op_mod (pe_op op_add (pv 1) (pe_ix ix_tup (pv 0) pe_int (fun _ _ => rfl))) (pe_glob (v := .int 999983) (by rfl) T.c_MODULUS.choose_spec ⟨_, rfl⟩))))
        pss_nil)
        (pss_cons (ps_if (pt_cmpR op_eq (pe_ix ix_tup (pv 0) pe_int (fun _ _ => rfl)) pe_str (nomark _))
        (pss_one (ps_ret (pe_op op_mod (pe_op op_mul (pv 1) (pe_ix ix_tup (pv 0) pe_int (fun _ _ => rfl))) (pe_glob (v := .int 999983) (by rfl) T.c_MODULUS.choose_spec ⟨_, rfl⟩))))
        pss_nil)
        (pss_cons (ps_if (pt_cmpR op_eq (pe_ix ix_tup (pv 0) pe_int (fun _ _ => rfl)) pe_str (nomark _))
        (pss_one (ps_ret (pe_op op_mod (pe_op op_mul (pv 1) (pv 1)) (pe_glob (v := .int 999983) (by rfl) T.c_MODULUS.choose_spec ⟨_, rfl⟩))))
        pss_nil)
        (pss_one (ps_ret (pe_op op_fdiv (pv 1) pe_int)))))), ?_⟩
    refine ⟨_, rfl, q, _, _, .str r.word, rfl, rfl, SqT.of hq, r.at0, rfl, _, rfl, ?_⟩
    have ne : ∀ {a b : Str}, a ≠ b → decide (V.str a = V.str b) = false := fun h => decide_eq_false fun z => h (V.str.inj z)
    cases r with
    | add j =>
      have hj : j < 999983 := ok
      refine iteT ?_
      refine ⟨_, rfl, _, rfl, q, _, _, .int (j : Int), rfl, rfl, SqT.of hq, rfl, _, _, rfl, rfl, _, _, rfl, rfl, by show (0 : Int) < 999983; decide, ?_⟩
      have e : ((s' : Int) + (j : Int)) % 999983 = (forthN (.add j) s' : Int) := by
        show _ = (((s' + j) % 999983 : Nat) : Int)
        omega
      show Q (V.int (((s' : Int) + (j : Int)) % 999983)) H
      rw [e]
      exact k
    | times j =>
      have hj : j < 999983 := ok
      rw [ne (show Rule.word (.times j) ≠ "add" from (by decide +kernel : ("times" : Str) ≠ "add"))]
      refine iteF ?_
      refine ⟨_, rfl, q, _, _, .str "times", rfl, rfl, SqT.of hq, rfl, rfl, _, rfl, iteT ?_⟩
      refine ⟨_, rfl, _, rfl, q, _, _, .int (j : Int), rfl, rfl, SqT.of hq, rfl, _, _, rfl, rfl, .inl ⟨by omega, by omega⟩, _, _, rfl, rfl, by show (0 : Int) < 999983; decide, ?_⟩
      have e : ((s' : Int) * (j : Int)) % 999983 = (forthN (.times j) s' : Int) := by
        show _ = ((s' * j % 999983 : Nat) : Int)
        rw [Int.natCast_emod, Int.natCast_mul] <;> rfl
      show Q (V.int (((s' : Int) * (j : Int)) % 999983)) H
      rw [e]
      exact k
    | square =>
      rw [ne (show Rule.word .square ≠ "add" from (by decide +kernel : ("square" : Str) ≠ "add"))]
      refine iteF ?_
      refine ⟨_, rfl, q, _, _, .str "square", rfl, rfl, SqT.of hq, rfl, rfl, _, rfl, ?_⟩
      rw [ne (show ("square" : Str) ≠ "times" by decide +kernel)]
      refine iteF ?_
      refine ⟨_, rfl, q, _, _, .str "square", rfl, rfl, SqT.of hq, rfl, rfl, _, rfl, iteT ?_⟩
      refine ⟨_, rfl, _, rfl, _, _, rfl, rfl, .inl ⟨by omega, by omega⟩, _, _, rfl, rfl, by show (0 : Int) < 999983; decide, ?_⟩
      have e : ((s' : Int) * (s' : Int)) % 999983 = (forthN .square s' : Int) := by
        show _ = ((s' * s' % 999983 : Nat) : Int)
        rw [Int.natCast_emod, Int.natCast_mul] <;> rfl
      show Q (V.int (((s' : Int) * (s' : Int)) % 999983)) H
      rw [e]
      exact k
    | half =>
      rw [ne (show Rule.word .half ≠ "add" from (by decide +kernel : ("half" : Str) ≠ "add"))]
      refine iteF ?_
      refine ⟨_, rfl, q, _, _, .str "half", rfl, rfl, SqT.of hq, rfl, rfl, _, rfl, ?_⟩
      rw [ne (show ("half" : Str) ≠ "times" by decide +kernel)]
      refine iteF ?_
      refine ⟨_, rfl, q, _, _, .str "half", rfl, rfl, SqT.of hq, rfl, rfl, _, rfl, ?_⟩
      rw [ne (show ("half" : Str) ≠ "square" by decide +kernel)]
      refine iteF ?_
      refine ⟨_, rfl, _, _, rfl, rfl, ⟨by decide, by decide⟩, ?_⟩
      have e : (s' : Int) / 2 = (forthN .half s' : Int) := by
        show _ = ((s' / 2 : Nat) : Int)
        omega
      show Q (V.int ((s' : Int) / 2)) H
      rw [e]
      exact k
/-- _law_cell_at(script, k): the k-th number, or 0 -/
def cellAt (ns : List Int) (k : Nat) : Int := ns.getD k 0
def sp_l_cell_at (K : PySem.W.Frag) : Sp := fun vs H Q _ => ∃ (a : Addr) (ns : List Int) (j : Nat), vs = [.ref a, .int (j : Int)] ∧ SqL K H a (ns.map V.int) ∧ Q (.int (cellAt ns j)) H
theorem ok_l_cell_at (T : Txt K mg) : OkF P w K mg base "_law_cell_at" 1 ["_law_script", "_law_k"] (sp_l_cell_at K) := by
  refine okf T.d_l_cell_at sc_l_cell_at (fun vs H Q E h => ?_) (fun f cdv A outer s H vs Q E hr h => ?_)
  · obtain ⟨a, ns, j, rfl, hS, k⟩ := h
    rfl
  · obtain ⟨a, ns, j, rfl, hS, k⟩ := h
    refine ⟨_, (pss_cons (ps_if (pt_cmpR op_lt (pv 1) (pe_callB call_len_seq (by rfl) T.n_len PySem.boot_len (pa_cons (pv 0) pa_nil)) (nomark _))
        (pss_one (ps_ret (pe_ix ix_list (pv 0) (pv 1) (fun _ _ => rfl))))
        pss_nil)
        (pss_one (ps_ret pe_int))), ?_⟩
    refine ⟨_, rfl, _, rfl, a, _, rfl, .inl hS, _, _, rfl, rfl, _, rfl, ?_⟩
    refine ite2 (fun c => ?_) (fun c => ?_)
    · have c' := of_decide_eq_true c
      rw [List.length_map] at c'
      have hj : j < ns.length := by omega
      refine ⟨_, rfl, _, rfl, a, _, _, .int (cellAt ns j), rfl, rfl, hS, ?_, k⟩
      refine at_map rfl ?_
      unfold cellAt
      rw [List.getElem?_eq_getElem hj, List.getD_eq_getElem?_getD, List.getElem?_eq_getElem hj] <;> rfl
    · have c' : ¬ ((j : Int) < ((ns.map V.int).length : Int)) := fun z => c (decide_eq_true z)
      rw [List.length_map] at c'
      have e : cellAt ns j = 0 := by
        unfold cellAt
        rw [List.getD_eq_getElem?_getD, List.getElem?_eq_none (by omega)] <;> rfl
      rw [e] at k
      exact k

def numN (ns : List Int) (j : Nat) : Int := if ns = [] then 5003 * (j : Int) else (ns.getD (j % ns.length) 0 + 7919 * ((j / ns.length : Nat) : Int) + 101 * (j : Int)) * 48271 % 2147483647
theorem num_nn (ns : List Int) (j : Nat) : 0 ≤ numN ns j := by
  unfold numN
  split
  · omega
  · exact Int.emod_nonneg _ (by decide)
def sp_l_number (K : PySem.W.Frag) : Sp := fun vs H Q _ => ∃ (a : Addr) (ns : List Int) (j : Nat), vs = [.ref a, .int (j : Int)] ∧ SqL K H a (ns.map V.int) ∧ ns.length ≤ 63 ∧ j < 100000 ∧ Q (.int (numN ns j)) H
theorem ok_l_number (T : Txt K mg) : OkF P w K mg base "_law_number" 1 ["_law_script", "_law_k"] (sp_l_number K) := by
  refine okf T.d_l_number sc_l_number (fun vs H Q E h => ?_) (fun f cdv A outer s H vs Q E hr h => ?_)
  · obtain ⟨a, ns, j, rfl, hS, hl, hj, k⟩ := h
    rfl
  · obtain ⟨a, ns, j, rfl, hS, hl, hj, k⟩ := h
    refine ⟨_, (pss_cons (ps_if (pt_cmpR op_eq (pe_callB call_len_seq (by rfl) T.n_len PySem.boot_len (pa_cons (pv 0) pa_nil)) pe_int (nomark _))
        (pss_one (ps_ret (pe_op op_mul pe_int (pv 1))))
        pss_nil)
        (pss_cons (ps_set (i := 2) sc_l_number.nd rfl (Or.inl rfl) (pe_op op_add (pe_op op_add (pe_ix ix_list (pv 0) (pe_op op_mod (pv 1) (pe_callB call_len_seq (by rfl) T.n_len PySem.boot_len (pa_cons (pv 0) pa_nil))) (fun _ _ => rfl)) (pe_op op_mul pe_int (pe_op op_fdiv (pv 1) (pe_callB call_len_seq (by rfl) T.n_len PySem.boot_len (pa_cons (pv 0) pa_nil))))) (pe_op op_mul pe_int (pv 1))))
        (pss_one (ps_ret (pe_op op_mod (pe_op op_mul (pv 2) pe_int) pe_int))))), ?_⟩
    refine ⟨_, rfl, a, _, rfl, .inl hS, rfl, _, rfl, ?_⟩
    refine ite2 (fun c => ?_) (fun c => ?_)
    · have e : ns = [] := by
        have := V.int.inj (of_decide_eq_true c)
        rw [List.length_map] at this
        exact List.length_eq_zero_iff.mp (by omega)
      have en : numN ns j = 5003 * (j : Int) := by
        unfold numN
        rw [if_pos e]
      rw [en] at k
      exact ⟨_, rfl, _, _, rfl, rfl, .inl ⟨by decide, by decide⟩, k⟩
    · have hp : 0 < ns.length := by
        by_cases z : ns.length = 0
        · exact absurd (decide_eq_true (by rw [List.length_map, z] <;> rfl)) c
        · omega
      have en : numN ns j = (ns.getD (j % ns.length) 0 + 7919 * ((j / ns.length : Nat) : Int) + 101 * (j : Int)) * 48271 % 2147483647 := by
        unfold numN
        rw [if_neg (fun z => by rw [z] at hp; exact absurd hp (by decide))]
      have el : ((ns.map V.int).length : Int) = (ns.length : Int) := by rw [List.length_map]
      have hm := Nat.mod_lt j hp
      refine ⟨_, rfl, _, rfl, _, rfl, a, _, rfl, .inl hS, _, _, rfl, rfl, by rw [el]; show (0 : Int) < (ns.length : Int); omega, a, _, _, .int (ns.getD (j % ns.length) 0), rfl, rfl, hS, ?_, ?_⟩
      · refine at_map (j := j % ns.length) ?_ ?_
        · rw [el, Int.natCast_emod]
        · rw [List.getElem?_eq_getElem hm, List.getD_eq_getElem?_getD, List.getElem?_eq_getElem hm] <;> rfl
      refine ⟨_, rfl, _, rfl, a, _, rfl, .inl hS, _, _, rfl, rfl, ⟨by rw [el]; omega, by rw [el]; omega⟩, _, _, rfl, rfl, .inl ⟨by decide, by decide⟩, _, _, rfl, rfl, _, rfl, _, _, rfl, rfl, .inl ⟨by decide, by decide⟩, _, _, rfl, rfl, ?_⟩
      refine ⟨_, rfl, _, _, rfl, rfl, .inr ⟨by decide, by decide⟩, _, _, rfl, rfl, by show (0 : Int) < 2147483647; decide, ?_⟩
      rw [en, Int.natCast_ediv, ← el] at k
      exact k
def sp_l_whole (K : PySem.W.Frag) : Sp := fun vs H Q _ => ∃ (x : V) (o : Option Int), vs = [x] ∧ Thg K H x o ∧ Q (.bl (whole o)) H
theorem ok_l_whole (T : Txt K mg) : OkF P w K mg base "_law_whole" 1 ["_law_found"] (sp_l_whole K) := by
  refine okf T.d_l_whole sc_l_whole (fun vs H Q E h => ?_) (fun f cdv A outer s H vs Q E hr h => ?_)
  · obtain ⟨x, o, rfl, th, k⟩ := h
    rfl
  · obtain ⟨x, o, rfl, th, k⟩ := h
    refine ⟨_, (pss_one (ps_ret (pe_and (pe_callB call_isi (by rfl) T.n_isinstance (by decide +kernel) (pa_cons (pv 0) (pa_cons (pe_bltn (v := .ty "int") (by rfl) T.n_int (by decide +kernel) rfl) pa_nil))) (pe_one (pe_not (pe_callB call_isi (by rfl) T.n_isinstance (by decide +kernel) (pa_cons (pv 0) (pa_cons (pe_bltn (v := .ty "bool") (by rfl) T.n_bool (by decide +kernel) rfl) pa_nil)))))))), ?_⟩
    refine ⟨_, rfl, ?_⟩
    cases th with
    | int i =>
      refine ⟨_, _, _, _, true, rfl, .ty "int", .base (.int i), kit_ty (by decide +kernel), true, rfl, iteT ?_⟩
      exact ⟨_, rfl, _, _, _, _, false, rfl, .ty "bool", .base (.int i), kit_ty (by decide +kernel), false, rfl, k⟩
    | bl b =>
      refine ⟨_, _, _, _, true, rfl, .ty "int", .base (.bl b), kit_ty (by decide +kernel), true, rfl, iteT ?_⟩
      exact ⟨_, rfl, _, _, _, _, true, rfl, .ty "bool", .base (.bl b), kit_ty (by decide +kernel), true, rfl, k⟩
    | oth ty ni =>
      refine ⟨_, _, _, _, false, rfl, .ty "int", ty, ni, false, rfl, iteF ?_⟩
      exact k
def sp_l_rule : Sp := fun vs H Q _ => ∃ n : Int, vs = [.int n] ∧ 0 ≤ n ∧ RetR H Q
theorem ok_l_rule (T : Txt K mg) : OkF P w K mg base "_law_rule" 1 ["_law_number_here"] (sp_l_rule) := by
  refine okf T.d_l_rule sc_l_rule (fun vs H Q E h => ?_) (fun f cdv A outer s H vs Q E hr h => ?_)
  · obtain ⟨n, rfl, hn, k⟩ := h
    rfl
  · obtain ⟨n, rfl, hn, k⟩ := h
    refine ⟨_, (Evl.pss_cut (ps_set (i := 1) sc_l_rule.nd rfl (Or.inl rfl) (pe_op op_mod (pe_op op_fdiv (pv 0) pe_int) pe_int))
        (Evl.pss_cut (ps_if (pt_cmpR op_eq (pe_op op_mod (pe_op op_fdiv (pv 0) pe_int) pe_int) pe_int (nomark _))
        (pss_one (ps_set (i := 1) sc_l_rule.nd rfl (Or.inl rfl) (pe_ix ix_list (pe_lst (pa_cons pe_int (pa_cons pe_int (pa_cons pe_int (pa_cons pe_int (pa_cons pe_int pa_nil)))))) (pe_op op_mod (pe_op op_fdiv (pv 0) pe_int) pe_int) (fun _ _ => rfl))))
        pss_nil)
        (pss_cons (ps_if (pt_cmpR op_lt (pe_op op_mod (pv 0) pe_int) pe_int (nomark _))
        (pss_one (ps_ret (pe_tup (pa_cons pe_str (pa_cons (pv 1) pa_nil)))))
        pss_nil)
        (pss_cons (ps_if (pt_cmpR op_eq (pe_op op_mod (pv 0) pe_int) pe_int (nomark _))
        (pss_one (ps_ret (pe_tup (pa_cons pe_str (pa_cons (pv 1) pa_nil)))))
        pss_nil)
        (pss_one (ps_ret (pe_tup (pa_cons (pe_ix ix_list (pe_lst (pa_cons pe_str (pa_cons pe_str pa_nil))) (pe_op op_sub (pe_op op_mod (pv 0) pe_int) pe_int) (fun _ _ => rfl)) pa_nil)))))))), ?_⟩
    refine ⟨fun σ H' => H' = H ∧ ∃ j : Nat, j < 999983 ∧ σ = [some (.int n), some (.int (j : Int))], ?_, ?_⟩
    · obtain ⟨j, hj, ej⟩ := rem_nat (z := n / 5) (m := 999983) (by decide)
      refine ⟨_, rfl, _, _, rfl, rfl, ⟨by decide, by decide⟩, _, _, rfl, rfl, by show (0 : Int) < 999983; decide, rfl, j, by omega, ?_⟩
      rw [← ej] <;> rfl
    rintro σ H' ⟨rfl, j, hj, rfl⟩
    refine ⟨fun σ H1 => Same H' H1 ∧ ∃ j : Nat, j < 999983 ∧ σ = [some (.int n), some (.int (j : Int))], ?_, ?_⟩
    · refine ⟨_, rfl, _, _, rfl, rfl, ⟨by decide, by decide⟩, _, _, rfl, rfl, by show (0 : Int) < 3; decide, rfl, _, rfl, ?_⟩
      refine ite2 (fun _ => ?_) (fun _ => ?_)
      · refine ⟨by show 5 ≤ sizeLine; decide, fun l hl => ?_⟩
        obtain ⟨i, hi, ei⟩ := rem_nat (z := n / 15) (m := 5) (by decide)
        obtain ⟨v, hv, m, rfl, hm⟩ := pick (P := fun v => ∃ m : Nat, v = V.int (m : Int) ∧ m < 999983) (xs := [.int 0, .int 1, .int 2, .int 999982, .int 999981]) (fun v hv => by
          simp only [List.mem_cons, List.not_mem_nil, or_false] at hv
          rcases hv with rfl | rfl | rfl | rfl | rfl
          · exact ⟨0, rfl, by decide⟩
          · exact ⟨1, rfl, by decide⟩
          · exact ⟨2, rfl, by decide⟩
          · exact ⟨999982, rfl, by decide⟩
          · exact ⟨999981, rfl, by decide⟩) (j := i) (by show i < 5; omega)
        exact ⟨_, rfl, _, _, rfl, rfl, ⟨by decide, by decide⟩, _, _, rfl, rfl, by show (0 : Int) < 5; decide, l, _, _, .int (m : Int), rfl, rfl, SqL.of upd_same, at_of ei hv, Same.new hl, m, hm, rfl⟩
      · exact ⟨Same.refl _, j, hj, rfl⟩
    rintro σ H1 ⟨s1, j, hj, rfl⟩
    have e5 : 0 ≤ n % 5 ∧ n % 5 < 5 := ⟨Int.emod_nonneg _ (by decide), Int.emod_lt_of_pos _ (by decide)⟩
    refine ⟨_, rfl, _, _, rfl, rfl, by show (0 : Int) < 5; decide, _, _, rfl, rfl, _, rfl, ?_⟩
    refine ite2 (fun c => ?_) (fun c => ?_)
    · refine ⟨_, rfl, by show 2 ≤ sizeLine; decide, fun t ht => ?_⟩
      exact k (.add j) t _ hj (s1.free ht) (s1.trans (Same.new ht)) upd_same
    · have c' : ¬ n % 5 < 2 := fun z => c (decide_eq_true z)
      refine ⟨_, rfl, _, _, rfl, rfl, by show (0 : Int) < 5; decide, rfl, _, rfl, ?_⟩
      refine ite2 (fun c2 => ?_) (fun c2 => ?_)
      · refine ⟨_, rfl, by show 2 ≤ sizeLine; decide, fun t ht => ?_⟩
        exact k (.times j) t _ hj (s1.free ht) (s1.trans (Same.new ht)) upd_same
      · have c3 : ¬ n % 5 = 2 := fun z => c2 (decide_eq_true (by show V.int (n % 5) = V.int 2; rw [z]))
        refine ⟨by show 2 ≤ sizeLine; decide, fun l hl => ?_⟩
        obtain ⟨i, hi, ei⟩ : ∃ i : Nat, i < 2 ∧ n % 5 - 3 = (i : Int) := ⟨(n % 5 - 3).toNat, by omega, by omega⟩
        obtain ⟨v, hv, r, rfl, hr1, hr2⟩ := pick (P := fun v => ∃ r : Rule, v = V.str r.word ∧ r.vs = [V.str r.word] ∧ r.ok) (xs := [.str "square", .str "half"]) (fun v hv => by
          simp only [List.mem_cons, List.not_mem_nil, or_false] at hv
          rcases hv with rfl | rfl
          · exact ⟨.square, rfl, rfl, trivial⟩
          · exact ⟨.half, rfl, rfl, trivial⟩) (j := i) (by show i < 2; omega)
        refine ⟨_, rfl, _, _, rfl, rfl, by show (0 : Int) < 5; decide, _, _, rfl, rfl, l, _, _, .str r.word, rfl, rfl, SqL.of upd_same, at_of ei hv, by show 1 ≤ sizeLine; decide, fun t ht => ?_⟩
        refine k r t _ hr2 (s1.free ((Same.new hl).free ht)) ((s1.trans (Same.new hl)).trans (Same.new ht)) ?_
        rw [upd_same, hr1]

def sp_l_forth (K : PySem.W.Frag) : Sp := fun vs H Q _ => ∃ (q : Addr) (r : Rule) (s : Nat), vs = [.ref q, .int (s : Int)] ∧ H q = some (.tup r.vs) ∧ r.ok ∧ s < 999983 ∧ Q (.int (forthN r s : Int)) H
theorem ok_l_forth (T : Txt K mg) : OkF P w K mg base "_law_forth" 1 ["_law_rule_here", "_law_state"] (sp_l_forth K) := by
  refine okf T.d_l_forth sc_l_forth (fun vs H Q E h => ?_) (fun f cdv A outer s H vs Q E hr h => ?_)
  · obtain ⟨q, r, s', rfl, hq, ok, hs, k⟩ := h
    rfl
  · obtain ⟨q, r, s', rfl, hq, ok, hs, k⟩ := h
    refine ⟨_, (pss_cons (ps_if (pt_cmpR op_eq (pe_ix ix_tup (pv 0) pe_int (fun _ _ => rfl)) pe_str (nomark _))
        (pss_one (ps_ret (pe_op op_mod (pe_op op_add (pv 1) (pe_ix ix_tup (pv 0) pe_int (fun _ _ => rfl))) pe_int)))
        pss_nil)
        (pss_cons (ps_if (pt_cmpR op_eq (pe_ix ix_tup (pv 0) pe_int (fun _ _ => rfl)) pe_str (nomark _))
        (pss_one (ps_ret (pe_op op_mod (pe_op op_mul (pv 1) (pe_ix ix_tup (pv 0) pe_int (fun _ _ => rfl))) pe_int)))
        pss_nil)
        (pss_cons (ps_if (pt_cmpR op_eq (pe_ix ix_tup (pv 0) pe_int (fun _ _ => rfl)) pe_str (nomark _))
        (pss_one (ps_ret (pe_op op_mod (pe_op op_mul (pv 1) (pv 1)) pe_int)))
        pss_nil)
        (pss_one (ps_ret (pe_op op_fdiv (pv 1) pe_int)))))), ?_⟩
    refine ⟨_, rfl, q, _, _, .str r.word, rfl, rfl, SqT.of hq, r.at0, rfl, _, rfl, ?_⟩
    have ne : ∀ {a b : Str}, a ≠ b → decide (V.str a = V.str b) = false := fun h => decide_eq_false fun z => h (V.str.inj z)
    cases r with
    | add j =>
      have hj : j < 999983 := ok
      refine iteT ?_
      refine ⟨_, rfl, _, rfl, q, _, _, .int (j : Int), rfl, rfl, SqT.of hq, rfl, _, _, rfl, rfl, _, _, rfl, rfl, by show (0 : Int) < 999983; decide, ?_⟩
      have e : ((s' : Int) + (j : Int)) % 999983 = (forthN (.add j) s' : Int) := by
        show _ = (((s' + j) % 999983 : Nat) : Int)
        omega
      show Q (V.int (((s' : Int) + (j : Int)) % 999983)) H
      rw [e]
      exact k
    | times j =>
      have hj : j < 999983 := ok
      rw [ne (show Rule.word (.times j) ≠ "add" from (by decide +kernel : ("times" : Str) ≠ "add"))]
      refine iteF ?_
      refine ⟨_, rfl, q, _, _, .str "times", rfl, rfl, SqT.of hq, rfl, rfl, _, rfl, iteT ?_⟩
      refine ⟨_, rfl, _, rfl, q, _, _, .int (j : Int), rfl, rfl, SqT.of hq, rfl, _, _, rfl, rfl, .inl ⟨by omega, by omega⟩, _, _, rfl, rfl, by show (0 : Int) < 999983; decide, ?_⟩
      have e : ((s' : Int) * (j : Int)) % 999983 = (forthN (.times j) s' : Int) := by
        show _ = ((s' * j % 999983 : Nat) : Int)
        rw [Int.natCast_emod, Int.natCast_mul] <;> rfl
      show Q (V.int (((s' : Int) * (j : Int)) % 999983)) H
      rw [e]
      exact k
    | square =>
      rw [ne (show Rule.word .square ≠ "add" from (by decide +kernel : ("square" : Str) ≠ "add"))]
      refine iteF ?_
      refine ⟨_, rfl, q, _, _, .str "square", rfl, rfl, SqT.of hq, rfl, rfl, _, rfl, ?_⟩
      rw [ne (show ("square" : Str) ≠ "times" by decide +kernel)]
      refine iteF ?_
      refine ⟨_, rfl, q, _, _, .str "square", rfl, rfl, SqT.of hq, rfl, rfl, _, rfl, iteT ?_⟩
      refine ⟨_, rfl, _, rfl, _, _, rfl, rfl, .inl ⟨by omega, by omega⟩, _, _, rfl, rfl, by show (0 : Int) < 999983; decide, ?_⟩
      have e : ((s' : Int) * (s' : Int)) % 999983 = (forthN .square s' : Int) := by
        show _ = ((s' * s' % 999983 : Nat) : Int)
        rw [Int.natCast_emod, Int.natCast_mul] <;> rfl
      show Q (V.int (((s' : Int) * (s' : Int)) % 999983)) H
      rw [e]
      exact k
    | half =>
      rw [ne (show Rule.word .half ≠ "add" from (by decide +kernel : ("half" : Str) ≠ "add"))]
      refine iteF ?_
      refine ⟨_, rfl, q, _, _, .str "half", rfl, rfl, SqT.of hq, rfl, rfl, _, rfl, ?_⟩
      rw [ne (show ("half" : Str) ≠ "times" by decide +kernel)]
      refine iteF ?_
      refine ⟨_, rfl, q, _, _, .str "half", rfl, rfl, SqT.of hq, rfl, rfl, _, rfl, ?_⟩
      rw [ne (show ("half" : Str) ≠ "square" by decide +kernel)]
      refine iteF ?_
      refine ⟨_, rfl, _, _, rfl, rfl, ⟨by decide, by decide⟩, ?_⟩
      have e : (s' : Int) / 2 = (forthN .half s' : Int) := by
        show _ = ((s' / 2 : Nat) : Int)
        omega
      show Q (V.int ((s' : Int) / 2)) H
      rw [e]
      exact k
/-- a row of the law's table of things -/
def Good (K : PySem.W.Frag) (H : Hp) (a : Addr) : Prop := ∃ x o b, H a = some (.tup [x, .bl (among o 0 999982), .bl b]) ∧ Thg K H x o ∧ RuleTh K H x b
theorem Good.same {K : PySem.W.Frag} {H H' : Hp} {a : Addr} (e : Same H H') (h : Good K H a) : Good K H' a := by
  obtain ⟨x, o, b, h1, h2, h3⟩ := h
  exact ⟨x, o, b, e _ _ h1, h2.same e, h3.same e⟩
def sp_l_things (K : PySem.W.Frag) : Sp := fun vs H Q _ => vs = [] ∧ ∀ (p : Addr) (H' : Hp) (as : List Addr), Same H H' → H' p = some (.lst (as.map V.ref)) → as.length = 35 → (∀ a ∈ as, Good K H' a) → Q (.ref p) H'
theorem ok_l_things (T : Txt K mg) : OkF P w K mg base "_law_things" 1 [] (sp_l_things K) := by
  refine okf T.d_l_things sc_l_things (fun vs H Q E h => ?_) (fun f cdv A outer s H vs Q E hr h => ?_)
  · obtain ⟨rfl, k⟩ := h
    rfl
  · obtain ⟨rfl, k⟩ := h
    refine ⟨_, (Evl.pss_cut (ps_set (i := 0) sc_l_things.nd rfl (Or.inl rfl) (pe_lst (pa_cons (pe_tup (pa_cons pe_int (pa_cons pe_bl (pa_cons pe_bl pa_nil)))) (pa_cons (pe_tup (pa_cons pe_int (pa_cons pe_bl (pa_cons pe_bl pa_nil)))) (pa_cons (pe_tup (pa_cons pe_int (pa_cons pe_bl (pa_cons pe_bl pa_nil)))) (pa_cons (pe_tup (pa_cons (pe_un un_neg pe_int) (pa_cons pe_bl (pa_cons pe_bl pa_nil)))) pa_nil))))))
        (Evl.pss_cut (ps_set (i := 0) sc_l_things.nd rfl (Or.inl rfl) (pe_op op_cat (pv 0) (pe_lst (pa_cons (pe_tup (pa_cons pe_bl (pa_cons pe_bl (pa_cons pe_bl pa_nil)))) (pa_cons (pe_tup (pa_cons pe_bl (pa_cons pe_bl (pa_cons pe_bl pa_nil)))) (pa_cons (pe_tup (pa_cons pe_str (pa_cons pe_bl (pa_cons pe_bl pa_nil)))) (pa_cons (pe_tup (pa_cons pe_non (pa_cons pe_bl (pa_cons pe_bl pa_nil)))) pa_nil)))))))
        (Evl.pss_cut (ps_set (i := 0) sc_l_things.nd rfl (Or.inl rfl) (pe_op op_cat (pv 0) (pe_lst (pa_cons (pe_tup (pa_cons (pe_lst (pa_cons pe_int pa_nil)) (pa_cons pe_bl (pa_cons pe_bl pa_nil)))) (pa_cons (pe_tup (pa_cons (pe_tup pa_nil) (pa_cons pe_bl (pa_cons pe_bl pa_nil)))) (pa_cons (pe_tup (pa_cons (pe_tup (pa_cons pe_int pa_nil)) (pa_cons pe_bl (pa_cons pe_bl pa_nil)))) (pa_cons (pe_tup (pa_cons pe_str (pa_cons pe_bl (pa_cons pe_bl pa_nil)))) pa_nil)))))))
        (Evl.pss_cut (ps_set (i := 0) sc_l_things.nd rfl (Or.inl rfl) (pe_op op_cat (pv 0) (pe_lst (pa_cons (pe_tup (pa_cons (pe_tup (pa_cons pe_str pa_nil)) (pa_cons pe_bl (pa_cons pe_bl pa_nil)))) (pa_cons (pe_tup (pa_cons (pe_tup (pa_cons pe_str (pa_cons pe_int pa_nil))) (pa_cons pe_bl (pa_cons pe_bl pa_nil)))) (pa_cons (pe_tup (pa_cons (pe_tup (pa_cons pe_str (pa_cons (pe_un un_neg pe_int) pa_nil))) (pa_cons pe_bl (pa_cons pe_bl pa_nil)))) pa_nil))))))
        (Evl.pss_cut (ps_set (i := 0) sc_l_things.nd rfl (Or.inl rfl) (pe_op op_cat (pv 0) (pe_lst (pa_cons (pe_tup (pa_cons (pe_tup (pa_cons pe_str (pa_cons pe_bl pa_nil))) (pa_cons pe_bl (pa_cons pe_bl pa_nil)))) (pa_cons (pe_tup (pa_cons (pe_tup (pa_cons pe_str (pa_cons pe_int (pa_cons pe_int pa_nil)))) (pa_cons pe_bl (pa_cons pe_bl pa_nil)))) (pa_cons (pe_tup (pa_cons (pe_lst (pa_cons pe_str (pa_cons pe_int pa_nil))) (pa_cons pe_bl (pa_cons pe_bl pa_nil)))) pa_nil))))))
        (Evl.pss_cut (ps_set (i := 0) sc_l_things.nd rfl (Or.inl rfl) (pe_op op_cat (pv 0) (pe_lst (pa_cons (pe_tup (pa_cons (pe_tup (pa_cons pe_str pa_nil)) (pa_cons pe_bl (pa_cons pe_bl pa_nil)))) (pa_cons (pe_tup (pa_cons (pe_tup (pa_cons pe_str (pa_cons pe_str pa_nil))) (pa_cons pe_bl (pa_cons pe_bl pa_nil)))) (pa_cons (pe_tup (pa_cons (pe_tup (pa_cons pe_str (pa_cons pe_non pa_nil))) (pa_cons pe_bl (pa_cons pe_bl pa_nil)))) pa_nil))))))
        (Evl.pss_cut (ps_set (i := 0) sc_l_things.nd rfl (Or.inl rfl) (pe_op op_cat (pv 0) (pe_lst (pa_cons (pe_tup (pa_cons (pe_tup (pa_cons pe_str (pa_cons pe_int pa_nil))) (pa_cons pe_bl (pa_cons pe_bl pa_nil)))) (pa_cons (pe_tup (pa_cons (pe_tup (pa_cons pe_str (pa_cons pe_int pa_nil))) (pa_cons pe_bl (pa_cons pe_bl pa_nil)))) (pa_cons (pe_tup (pa_cons (pe_tup (pa_cons pe_str pa_nil)) (pa_cons pe_bl (pa_cons pe_bl pa_nil)))) pa_nil))))))
        (Evl.pss_cut (ps_set (i := 0) sc_l_things.nd rfl (Or.inl rfl) (pe_op op_cat (pv 0) (pe_lst (pa_cons (pe_tup (pa_cons (pe_tup (pa_cons pe_str (pa_cons pe_int pa_nil))) (pa_cons pe_bl (pa_cons pe_bl pa_nil)))) (pa_cons (pe_tup (pa_cons (pe_tup (pa_cons pe_non (pa_cons pe_int pa_nil))) (pa_cons pe_bl (pa_cons pe_bl pa_nil)))) (pa_cons (pe_tup (pa_cons (pe_tup (pa_cons pe_str pa_nil)) (pa_cons pe_bl (pa_cons pe_bl pa_nil)))) pa_nil))))))
        (Evl.pss_cut (ps_set (i := 0) sc_l_things.nd rfl (Or.inl rfl) (pe_op op_cat (pv 0) (pe_lst (pa_cons (pe_tup (pa_cons (pe_tup (pa_cons (pe_lst (pa_cons pe_str pa_nil)) pa_nil)) (pa_cons pe_bl (pa_cons pe_bl pa_nil)))) (pa_cons (pe_tup (pa_cons (pe_tup (pa_cons pe_dnewK (pa_cons pe_int pa_nil))) (pa_cons pe_bl (pa_cons pe_bl pa_nil)))) (pa_cons (pe_tup (pa_cons (pe_tup (pa_cons pe_str (pa_cons (pe_lst (pa_cons pe_int pa_nil)) pa_nil))) (pa_cons pe_bl (pa_cons pe_bl pa_nil)))) pa_nil))))))
        (Evl.pss_cut (ps_set (i := 0) sc_l_things.nd rfl (Or.inl rfl) (pe_op op_cat (pv 0) (pe_lst (pa_cons (pe_tup (pa_cons pe_dnewK (pa_cons pe_bl (pa_cons pe_bl pa_nil)))) (pa_cons (pe_tup (pa_cons (pe_tup (pa_cons pe_str (pa_cons pe_dnewK pa_nil))) (pa_cons pe_bl (pa_cons pe_bl pa_nil)))) pa_nil)))))
        (pss_one (ps_ret (pe_op op_cat (pv 0) (pe_lst (pa_cons (pe_tup (pa_cons (pe_tup (pa_cons pe_str pa_nil)) (pa_cons pe_bl (pa_cons pe_bl pa_nil)))) (pa_cons (pe_tup (pa_cons (pe_tup (pa_cons pe_str (pa_cons pe_int pa_nil))) (pa_cons pe_bl (pa_cons pe_bl pa_nil)))) (pa_cons (pe_tup (pa_cons (pe_tup (pa_cons pe_str (pa_cons pe_int pa_nil))) (pa_cons pe_bl (pa_cons pe_bl pa_nil)))) pa_nil))))))))))))))))), ?_⟩
    have sm := Same.refl H
    refine ⟨fun σ H1 => ∃ (p : Addr) (as : List Addr), σ = [some (.ref p)] ∧ Same H H1 ∧ H1 p = some (.lst (as.map V.ref)) ∧ as.length = 4 ∧ ∀ a ∈ as, Good K H1 a, ?_, ?_⟩
    · refine ⟨by show 3 ≤ sizeLine; decide, fun p1 h1 => ?_⟩
      have nw := Same.new (o := .tup [V.int 0, V.bl true, V.bl false]) h1
      have sm := sm.trans nw
      have f1 := new_at (o := .tup [V.int 0, V.bl true, V.bl false]) h1
      have g1 : Good K _ p1 := ⟨_, _, _, f1, .int _, .ntup (.base (.int _)) (kit_ty (by decide +kernel))⟩
      refine ⟨by show 3 ≤ sizeLine; decide, fun p2 h2 => ?_⟩
      have nw := Same.new (o := .tup [V.int 999982, V.bl true, V.bl false]) h2
      have sm := sm.trans nw
      have f1 := nw _ _ f1
      have g1 := g1.same nw
      have f2 := new_at (o := .tup [V.int 999982, V.bl true, V.bl false]) h2
      have g2 : Good K _ p2 := ⟨_, _, _, f2, .int _, .ntup (.base (.int _)) (kit_ty (by decide +kernel))⟩
      refine ⟨by show 3 ≤ sizeLine; decide, fun p3 h3 => ?_⟩
      have nw := Same.new (o := .tup [V.int 999983, V.bl false, V.bl false]) h3
      have sm := sm.trans nw
      have f1 := nw _ _ f1
      have f2 := nw _ _ f2
      have g1 := g1.same nw
      have g2 := g2.same nw
      have f3 := new_at (o := .tup [V.int 999983, V.bl false, V.bl false]) h3
      have g3 : Good K _ p3 := ⟨_, _, _, f3, .int _, .ntup (.base (.int _)) (kit_ty (by decide +kernel))⟩
      refine ⟨_, rfl, ?_⟩
      refine ⟨by show 3 ≤ sizeLine; decide, fun p4 h4 => ?_⟩
      have nw := Same.new (o := .tup [V.int (-1), V.bl false, V.bl false]) h4
      have sm := sm.trans nw
      have f1 := nw _ _ f1
      have f2 := nw _ _ f2
      have f3 := nw _ _ f3
      have g1 := g1.same nw
      have g2 := g2.same nw
      have g3 := g3.same nw
      have f4 := new_at (o := .tup [V.int (-1), V.bl false, V.bl false]) h4
      have g4 : Good K _ p4 := ⟨_, _, _, f4, .int _, .ntup (.base (.int _)) (kit_ty (by decide +kernel))⟩
      refine ⟨by show 4 ≤ sizeLine; decide, fun p5 h5 => ?_⟩
      have nw := Same.new (o := .lst [V.ref p1, V.ref p2, V.ref p3, V.ref p4]) h5
      have sm := sm.trans nw
      have f1 := nw _ _ f1
      have f2 := nw _ _ f2
      have f3 := nw _ _ f3
      have f4 := nw _ _ f4
      have g1 := g1.same nw
      have g2 := g2.same nw
      have g3 := g3.same nw
      have g4 := g4.same nw
      have f5 := new_at (o := .lst [V.ref p1, V.ref p2, V.ref p3, V.ref p4]) h5
      refine ⟨p5, [p1, p2, p3, p4], rfl, sm, f5, rfl, ?_⟩
      intro a ha
      simp only [List.mem_cons, List.not_mem_nil, or_false] at ha
      rcases ha with rfl | rfl | rfl | rfl
      · exact g1
      · exact g2
      · exact g3
      · exact g4
    rintro σ H1 ⟨p, as, rfl, sm, hP, hL, hG⟩
    refine ⟨fun σ H1 => ∃ (p : Addr) (as : List Addr), σ = [some (.ref p)] ∧ Same H H1 ∧ H1 p = some (.lst (as.map V.ref)) ∧ as.length = 8 ∧ ∀ a ∈ as, Good K H1 a, ?_, ?_⟩
    · refine ⟨_, rfl, ?_⟩
      refine ⟨by show 3 ≤ sizeLine; decide, fun p6 h6 => ?_⟩
      have nw := Same.new (o := .tup [V.bl true, V.bl false, V.bl false]) h6
      have sm := sm.trans nw
      have hP := nw _ _ hP
      have hG : ∀ a ∈ as, Good K _ a := fun a ha => (hG a ha).same nw
      have f6 := new_at (o := .tup [V.bl true, V.bl false, V.bl false]) h6
      have g6 : Good K _ p6 := ⟨_, _, _, f6, .bl _, .ntup (.base (.bl _)) (kit_ty (by decide +kernel))⟩
      refine ⟨by show 3 ≤ sizeLine; decide, fun p7 h7 => ?_⟩
      have nw := Same.new (o := .tup [V.bl false, V.bl false, V.bl false]) h7
      have sm := sm.trans nw
      have hP := nw _ _ hP
      have hG : ∀ a ∈ as, Good K _ a := fun a ha => (hG a ha).same nw
      have f6 := nw _ _ f6
      have g6 := g6.same nw
      have f7 := new_at (o := .tup [V.bl false, V.bl false, V.bl false]) h7
      have g7 : Good K _ p7 := ⟨_, _, _, f7, .bl _, .ntup (.base (.bl _)) (kit_ty (by decide +kernel))⟩
      refine ⟨by show 3 ≤ sizeLine; decide, fun p8 h8 => ?_⟩
      have nw := Same.new (o := .tup [V.str "7", V.bl false, V.bl false]) h8
      have sm := sm.trans nw
      have hP := nw _ _ hP
      have hG : ∀ a ∈ as, Good K _ a := fun a ha => (hG a ha).same nw
      have f6 := nw _ _ f6
      have f7 := nw _ _ f7
      have g6 := g6.same nw
      have g7 := g7.same nw
      have f8 := new_at (o := .tup [V.str "7", V.bl false, V.bl false]) h8
      have g8 : Good K _ p8 := ⟨_, _, _, f8, .str _, .ntup (.base (.str _)) (kit_ty (by decide +kernel))⟩
      refine ⟨by show 3 ≤ sizeLine; decide, fun p9 h9 => ?_⟩
      have nw := Same.new (o := .tup [V.non, V.bl false, V.bl false]) h9
      have sm := sm.trans nw
      have hP := nw _ _ hP
      have hG : ∀ a ∈ as, Good K _ a := fun a ha => (hG a ha).same nw
      have f6 := nw _ _ f6
      have f7 := nw _ _ f7
      have f8 := nw _ _ f8
      have g6 := g6.same nw
      have g7 := g7.same nw
      have g8 := g8.same nw
      have f9 := new_at (o := .tup [V.non, V.bl false, V.bl false]) h9
      have g9 : Good K _ p9 := ⟨_, _, _, f9, .non, .ntup (.base .non) (kit_ty (by decide +kernel))⟩
      refine ⟨by show 4 ≤ sizeLine; decide, fun p10 h10 => ?_⟩
      have nw := Same.new (o := .lst [V.ref p6, V.ref p7, V.ref p8, V.ref p9]) h10
      have sm := sm.trans nw
      have hP := nw _ _ hP
      have hG : ∀ a ∈ as, Good K _ a := fun a ha => (hG a ha).same nw
      have f6 := nw _ _ f6
      have f7 := nw _ _ f7
      have f8 := nw _ _ f8
      have f9 := nw _ _ f9
      have g6 := g6.same nw
      have g7 := g7.same nw
      have g8 := g8.same nw
      have g9 := g9.same nw
      have f10 := new_at (o := .lst [V.ref p6, V.ref p7, V.ref p8, V.ref p9]) h10
      refine ⟨_, p10, _, _, rfl, rfl, hP, f10, sz5 (by rw [List.length_map, hL]; show 4 + 4 ≤ 100000; decide), fun p11 h11 => ?_⟩
      have nw := Same.new (o := .lst (as.map V.ref ++ [V.ref p6, V.ref p7, V.ref p8, V.ref p9])) h11
      have sm := sm.trans nw
      have hG : ∀ a ∈ as, Good K _ a := fun a ha => (hG a ha).same nw
      have g6 := g6.same nw
      have g7 := g7.same nw
      have g8 := g8.same nw
      have g9 := g9.same nw
      refine ⟨p11, as ++ [p6, p7, p8, p9], rfl, sm, by rw [upd_same, List.map_append] <;> rfl, by rw [List.length_append, hL] <;> rfl, ?_⟩
      intro a ha
      rcases List.mem_append.mp ha with ha | ha
      · exact hG a ha
      · simp only [List.mem_cons, List.not_mem_nil, or_false] at ha
        rcases ha with rfl | rfl | rfl | rfl
        · exact g6
        · exact g7
        · exact g8
        · exact g9
    rintro σ H2 ⟨p, as, rfl, sm, hP, hL, hG⟩
    refine ⟨fun σ H1 => ∃ (p : Addr) (as : List Addr), σ = [some (.ref p)] ∧ Same H H1 ∧ H1 p = some (.lst (as.map V.ref)) ∧ as.length = 12 ∧ ∀ a ∈ as, Good K H1 a, ?_, ?_⟩
    · refine ⟨_, rfl, ?_⟩
      refine ⟨by show 1 ≤ sizeLine; decide, fun p12 h12 => ?_⟩
      have nw := Same.new (o := .lst [V.int 7]) h12
      have sm := sm.trans nw
      have hP := nw _ _ hP
      have hG : ∀ a ∈ as, Good K _ a := fun a ha => (hG a ha).same nw
      have f12 := new_at (o := .lst [V.int 7]) h12
      refine ⟨by show 3 ≤ sizeLine; decide, fun p13 h13 => ?_⟩
      have nw := Same.new (o := .tup [V.ref p12, V.bl false, V.bl false]) h13
      have sm := sm.trans nw
      have hP := nw _ _ hP
      have hG : ∀ a ∈ as, Good K _ a := fun a ha => (hG a ha).same nw
      have f12 := nw _ _ f12
      have f13 := new_at (o := .tup [V.ref p12, V.bl false, V.bl false]) h13
      have g13 : Good K _ p13 := ⟨_, _, _, f13, (.lst f12), .ntup (.base (.lst f12)) (kit_ty (by decide +kernel))⟩
      refine ⟨by show 0 ≤ sizeLine; decide, fun p14 h14 => ?_⟩
      have nw := Same.new (o := .tup []) h14
      have sm := sm.trans nw
      have hP := nw _ _ hP
      have hG : ∀ a ∈ as, Good K _ a := fun a ha => (hG a ha).same nw
      have f12 := nw _ _ f12
      have f13 := nw _ _ f13
      have g13 := g13.same nw
      have f14 := new_at (o := .tup []) h14
      refine ⟨by show 3 ≤ sizeLine; decide, fun p15 h15 => ?_⟩
      have nw := Same.new (o := .tup [V.ref p14, V.bl false, V.bl false]) h15
      have sm := sm.trans nw
      have hP := nw _ _ hP
      have hG : ∀ a ∈ as, Good K _ a := fun a ha => (hG a ha).same nw
      have f12 := nw _ _ f12
      have f13 := nw _ _ f13
      have f14 := nw _ _ f14
      have g13 := g13.same nw
      have f15 := new_at (o := .tup [V.ref p14, V.bl false, V.bl false]) h15
      have g15 : Good K _ p15 := ⟨_, _, _, f15, (.tup f14), .nil f14⟩
      refine ⟨by show 1 ≤ sizeLine; decide, fun p16 h16 => ?_⟩
      have nw := Same.new (o := .tup [V.int 7]) h16
      have sm := sm.trans nw
      have hP := nw _ _ hP
      have hG : ∀ a ∈ as, Good K _ a := fun a ha => (hG a ha).same nw
      have f12 := nw _ _ f12
      have f13 := nw _ _ f13
      have f14 := nw _ _ f14
      have f15 := nw _ _ f15
      have g13 := g13.same nw
      have g15 := g15.same nw
      have f16 := new_at (o := .tup [V.int 7]) h16
      refine ⟨by show 3 ≤ sizeLine; decide, fun p17 h17 => ?_⟩
      have nw := Same.new (o := .tup [V.ref p16, V.bl false, V.bl false]) h17
      have sm := sm.trans nw
      have hP := nw _ _ hP
      have hG : ∀ a ∈ as, Good K _ a := fun a ha => (hG a ha).same nw
      have f12 := nw _ _ f12
      have f13 := nw _ _ f13
      have f14 := nw _ _ f14
      have f15 := nw _ _ f15
      have f16 := nw _ _ f16
      have g13 := g13.same nw
      have g15 := g15.same nw
      have f17 := new_at (o := .tup [V.ref p16, V.bl false, V.bl false]) h17
      have g17 : Good K _ p17 := ⟨_, _, _, f17, (.tup f16), .nstr f16 (.base (.int _)) (kit_ty (by decide +kernel))⟩
      refine ⟨by show 3 ≤ sizeLine; decide, fun p18 h18 => ?_⟩
      have nw := Same.new (o := .tup [V.str "add", V.bl false, V.bl false]) h18
      have sm := sm.trans nw
      have hP := nw _ _ hP
      have hG : ∀ a ∈ as, Good K _ a := fun a ha => (hG a ha).same nw
      have f12 := nw _ _ f12
      have f13 := nw _ _ f13
      have f14 := nw _ _ f14
      have f15 := nw _ _ f15
      have f16 := nw _ _ f16
      have f17 := nw _ _ f17
      have g13 := g13.same nw
      have g15 := g15.same nw
      have g17 := g17.same nw
      have f18 := new_at (o := .tup [V.str "add", V.bl false, V.bl false]) h18
      have g18 : Good K _ p18 := ⟨_, _, _, f18, .str _, .ntup (.base (.str _)) (kit_ty (by decide +kernel))⟩
      refine ⟨by show 4 ≤ sizeLine; decide, fun p19 h19 => ?_⟩
      have nw := Same.new (o := .lst [V.ref p13, V.ref p15, V.ref p17, V.ref p18]) h19
      have sm := sm.trans nw
      have hP := nw _ _ hP
      have hG : ∀ a ∈ as, Good K _ a := fun a ha => (hG a ha).same nw
      have f12 := nw _ _ f12
      have f13 := nw _ _ f13
      have f14 := nw _ _ f14
      have f15 := nw _ _ f15
      have f16 := nw _ _ f16
      have f17 := nw _ _ f17
      have f18 := nw _ _ f18
      have g13 := g13.same nw
      have g15 := g15.same nw
      have g17 := g17.same nw
      have g18 := g18.same nw
      have f19 := new_at (o := .lst [V.ref p13, V.ref p15, V.ref p17, V.ref p18]) h19
      refine ⟨_, p19, _, _, rfl, rfl, hP, f19, sz5 (by rw [List.length_map, hL]; show 8 + 4 ≤ 100000; decide), fun p20 h20 => ?_⟩
      have nw := Same.new (o := .lst (as.map V.ref ++ [V.ref p13, V.ref p15, V.ref p17, V.ref p18])) h20
      have sm := sm.trans nw
      have hG : ∀ a ∈ as, Good K _ a := fun a ha => (hG a ha).same nw
      have g13 := g13.same nw
      have g15 := g15.same nw
      have g17 := g17.same nw
      have g18 := g18.same nw
      refine ⟨p20, as ++ [p13, p15, p17, p18], rfl, sm, by rw [upd_same, List.map_append] <;> rfl, by rw [List.length_append, hL] <;> rfl, ?_⟩
      intro a ha
      rcases List.mem_append.mp ha with ha | ha
      · exact hG a ha
      · simp only [List.mem_cons, List.not_mem_nil, or_false] at ha
        rcases ha with rfl | rfl | rfl | rfl
        · exact g13
        · exact g15
        · exact g17
        · exact g18
    rintro σ H3 ⟨p, as, rfl, sm, hP, hL, hG⟩
    refine ⟨fun σ H1 => ∃ (p : Addr) (as : List Addr), σ = [some (.ref p)] ∧ Same H H1 ∧ H1 p = some (.lst (as.map V.ref)) ∧ as.length = 15 ∧ ∀ a ∈ as, Good K H1 a, ?_, ?_⟩
    · refine ⟨_, rfl, ?_⟩
      refine ⟨by show 1 ≤ sizeLine; decide, fun p21 h21 => ?_⟩
      have nw := Same.new (o := .tup [V.str "add"]) h21
      have sm := sm.trans nw
      have hP := nw _ _ hP
      have hG : ∀ a ∈ as, Good K _ a := fun a ha => (hG a ha).same nw
      have f21 := new_at (o := .tup [V.str "add"]) h21
      refine ⟨by show 3 ≤ sizeLine; decide, fun p22 h22 => ?_⟩
      have nw := Same.new (o := .tup [V.ref p21, V.bl false, V.bl false]) h22
      have sm := sm.trans nw
      have hP := nw _ _ hP
      have hG : ∀ a ∈ as, Good K _ a := fun a ha => (hG a ha).same nw
      have f21 := nw _ _ f21
      have f22 := new_at (o := .tup [V.ref p21, V.bl false, V.bl false]) h22
      have g22 : Good K _ p22 := ⟨_, _, _, f22, (.tup f21), .two f21 (.inl rfl) (by show 0 ≠ 1; decide)⟩
      refine ⟨by show 2 ≤ sizeLine; decide, fun p23 h23 => ?_⟩
      have nw := Same.new (o := .tup [V.str "add", V.int 999983]) h23
      have sm := sm.trans nw
      have hP := nw _ _ hP
      have hG : ∀ a ∈ as, Good K _ a := fun a ha => (hG a ha).same nw
      have f21 := nw _ _ f21
      have f22 := nw _ _ f22
      have g22 := g22.same nw
      have f23 := new_at (o := .tup [V.str "add", V.int 999983]) h23
      refine ⟨by show 3 ≤ sizeLine; decide, fun p24 h24 => ?_⟩
      have nw := Same.new (o := .tup [V.ref p23, V.bl false, V.bl false]) h24
      have sm := sm.trans nw
      have hP := nw _ _ hP
      have hG : ∀ a ∈ as, Good K _ a := fun a ha => (hG a ha).same nw
      have f21 := nw _ _ f21
      have f22 := nw _ _ f22
      have f23 := nw _ _ f23
      have g22 := g22.same nw
      have f24 := new_at (o := .tup [V.ref p23, V.bl false, V.bl false]) h24
      have g24 : Good K _ p24 := ⟨_, _, _, f24, (.tup f23), .num f23 (.inl rfl) (.int _)⟩
      refine ⟨_, rfl, ?_⟩
      refine ⟨by show 2 ≤ sizeLine; decide, fun p25 h25 => ?_⟩
      have nw := Same.new (o := .tup [V.str "add", V.int (-1)]) h25
      have sm := sm.trans nw
      have hP := nw _ _ hP
      have hG : ∀ a ∈ as, Good K _ a := fun a ha => (hG a ha).same nw
      have f21 := nw _ _ f21
      have f22 := nw _ _ f22
      have f23 := nw _ _ f23
      have f24 := nw _ _ f24
      have g22 := g22.same nw
      have g24 := g24.same nw
      have f25 := new_at (o := .tup [V.str "add", V.int (-1)]) h25
      refine ⟨by show 3 ≤ sizeLine; decide, fun p26 h26 => ?_⟩
      have nw := Same.new (o := .tup [V.ref p25, V.bl false, V.bl false]) h26
      have sm := sm.trans nw
      have hP := nw _ _ hP
      have hG : ∀ a ∈ as, Good K _ a := fun a ha => (hG a ha).same nw
      have f21 := nw _ _ f21
      have f22 := nw _ _ f22
      have f23 := nw _ _ f23
      have f24 := nw _ _ f24
      have f25 := nw _ _ f25
      have g22 := g22.same nw
      have g24 := g24.same nw
      have f26 := new_at (o := .tup [V.ref p25, V.bl false, V.bl false]) h26
      have g26 : Good K _ p26 := ⟨_, _, _, f26, (.tup f25), .num f25 (.inl rfl) (.int _)⟩
      refine ⟨by show 3 ≤ sizeLine; decide, fun p27 h27 => ?_⟩
      have nw := Same.new (o := .lst [V.ref p22, V.ref p24, V.ref p26]) h27
      have sm := sm.trans nw
      have hP := nw _ _ hP
      have hG : ∀ a ∈ as, Good K _ a := fun a ha => (hG a ha).same nw
      have f21 := nw _ _ f21
      have f22 := nw _ _ f22
      have f23 := nw _ _ f23
      have f24 := nw _ _ f24
      have f25 := nw _ _ f25
      have f26 := nw _ _ f26
      have g22 := g22.same nw
      have g24 := g24.same nw
      have g26 := g26.same nw
      have f27 := new_at (o := .lst [V.ref p22, V.ref p24, V.ref p26]) h27
      refine ⟨_, p27, _, _, rfl, rfl, hP, f27, sz5 (by rw [List.length_map, hL]; show 12 + 3 ≤ 100000; decide), fun p28 h28 => ?_⟩
      have nw := Same.new (o := .lst (as.map V.ref ++ [V.ref p22, V.ref p24, V.ref p26])) h28
      have sm := sm.trans nw
      have hG : ∀ a ∈ as, Good K _ a := fun a ha => (hG a ha).same nw
      have g22 := g22.same nw
      have g24 := g24.same nw
      have g26 := g26.same nw
      refine ⟨p28, as ++ [p22, p24, p26], rfl, sm, by rw [upd_same, List.map_append] <;> rfl, by rw [List.length_append, hL] <;> rfl, ?_⟩
      intro a ha
      rcases List.mem_append.mp ha with ha | ha
      · exact hG a ha
      · simp only [List.mem_cons, List.not_mem_nil, or_false] at ha
        rcases ha with rfl | rfl | rfl
        · exact g22
        · exact g24
        · exact g26
    rintro σ H4 ⟨p, as, rfl, sm, hP, hL, hG⟩
    refine ⟨fun σ H1 => ∃ (p : Addr) (as : List Addr), σ = [some (.ref p)] ∧ Same H H1 ∧ H1 p = some (.lst (as.map V.ref)) ∧ as.length = 18 ∧ ∀ a ∈ as, Good K H1 a, ?_, ?_⟩
    · refine ⟨_, rfl, ?_⟩
      refine ⟨by show 2 ≤ sizeLine; decide, fun p29 h29 => ?_⟩
      have nw := Same.new (o := .tup [V.str "add", V.bl true]) h29
      have sm := sm.trans nw
      have hP := nw _ _ hP
      have hG : ∀ a ∈ as, Good K _ a := fun a ha => (hG a ha).same nw
      have f29 := new_at (o := .tup [V.str "add", V.bl true]) h29
      refine ⟨by show 3 ≤ sizeLine; decide, fun p30 h30 => ?_⟩
      have nw := Same.new (o := .tup [V.ref p29, V.bl false, V.bl false]) h30
      have sm := sm.trans nw
      have hP := nw _ _ hP
      have hG : ∀ a ∈ as, Good K _ a := fun a ha => (hG a ha).same nw
      have f29 := nw _ _ f29
      have f30 := new_at (o := .tup [V.ref p29, V.bl false, V.bl false]) h30
      have g30 : Good K _ p30 := ⟨_, _, _, f30, (.tup f29), .num f29 (.inl rfl) (.bl _)⟩
      refine ⟨by show 3 ≤ sizeLine; decide, fun p31 h31 => ?_⟩
      have nw := Same.new (o := .tup [V.str "add", V.int 5, V.int 5]) h31
      have sm := sm.trans nw
      have hP := nw _ _ hP
      have hG : ∀ a ∈ as, Good K _ a := fun a ha => (hG a ha).same nw
      have f29 := nw _ _ f29
      have f30 := nw _ _ f30
      have g30 := g30.same nw
      have f31 := new_at (o := .tup [V.str "add", V.int 5, V.int 5]) h31
      refine ⟨by show 3 ≤ sizeLine; decide, fun p32 h32 => ?_⟩
      have nw := Same.new (o := .tup [V.ref p31, V.bl false, V.bl false]) h32
      have sm := sm.trans nw
      have hP := nw _ _ hP
      have hG : ∀ a ∈ as, Good K _ a := fun a ha => (hG a ha).same nw
      have f29 := nw _ _ f29
      have f30 := nw _ _ f30
      have f31 := nw _ _ f31
      have g30 := g30.same nw
      have f32 := new_at (o := .tup [V.ref p31, V.bl false, V.bl false]) h32
      have g32 : Good K _ p32 := ⟨_, _, _, f32, (.tup f31), .two f31 (.inl rfl) (by show 2 ≠ 1; decide)⟩
      refine ⟨by show 2 ≤ sizeLine; decide, fun p33 h33 => ?_⟩
      have nw := Same.new (o := .lst [V.str "add", V.int 5]) h33
      have sm := sm.trans nw
      have hP := nw _ _ hP
      have hG : ∀ a ∈ as, Good K _ a := fun a ha => (hG a ha).same nw
      have f29 := nw _ _ f29
      have f30 := nw _ _ f30
      have f31 := nw _ _ f31
      have f32 := nw _ _ f32
      have g30 := g30.same nw
      have g32 := g32.same nw
      have f33 := new_at (o := .lst [V.str "add", V.int 5]) h33
      refine ⟨by show 3 ≤ sizeLine; decide, fun p34 h34 => ?_⟩
      have nw := Same.new (o := .tup [V.ref p33, V.bl false, V.bl false]) h34
      have sm := sm.trans nw
      have hP := nw _ _ hP
      have hG : ∀ a ∈ as, Good K _ a := fun a ha => (hG a ha).same nw
      have f29 := nw _ _ f29
      have f30 := nw _ _ f30
      have f31 := nw _ _ f31
      have f32 := nw _ _ f32
      have f33 := nw _ _ f33
      have g30 := g30.same nw
      have g32 := g32.same nw
      have f34 := new_at (o := .tup [V.ref p33, V.bl false, V.bl false]) h34
      have g34 : Good K _ p34 := ⟨_, _, _, f34, (.lst f33), .ntup (.base (.lst f33)) (kit_ty (by decide +kernel))⟩
      refine ⟨by show 3 ≤ sizeLine; decide, fun p35 h35 => ?_⟩
      have nw := Same.new (o := .lst [V.ref p30, V.ref p32, V.ref p34]) h35
      have sm := sm.trans nw
      have hP := nw _ _ hP
      have hG : ∀ a ∈ as, Good K _ a := fun a ha => (hG a ha).same nw
      have f29 := nw _ _ f29
      have f30 := nw _ _ f30
      have f31 := nw _ _ f31
      have f32 := nw _ _ f32
      have f33 := nw _ _ f33
      have f34 := nw _ _ f34
      have g30 := g30.same nw
      have g32 := g32.same nw
      have g34 := g34.same nw
      have f35 := new_at (o := .lst [V.ref p30, V.ref p32, V.ref p34]) h35
      refine ⟨_, p35, _, _, rfl, rfl, hP, f35, sz5 (by rw [List.length_map, hL]; show 15 + 3 ≤ 100000; decide), fun p36 h36 => ?_⟩
      have nw := Same.new (o := .lst (as.map V.ref ++ [V.ref p30, V.ref p32, V.ref p34])) h36
      have sm := sm.trans nw
      have hG : ∀ a ∈ as, Good K _ a := fun a ha => (hG a ha).same nw
      have g30 := g30.same nw
      have g32 := g32.same nw
      have g34 := g34.same nw
      refine ⟨p36, as ++ [p30, p32, p34], rfl, sm, by rw [upd_same, List.map_append] <;> rfl, by rw [List.length_append, hL] <;> rfl, ?_⟩
      intro a ha
      rcases List.mem_append.mp ha with ha | ha
      · exact hG a ha
      · simp only [List.mem_cons, List.not_mem_nil, or_false] at ha
        rcases ha with rfl | rfl | rfl
        · exact g30
        · exact g32
        · exact g34
    rintro σ H5 ⟨p, as, rfl, sm, hP, hL, hG⟩
    refine ⟨fun σ H1 => ∃ (p : Addr) (as : List Addr), σ = [some (.ref p)] ∧ Same H H1 ∧ H1 p = some (.lst (as.map V.ref)) ∧ as.length = 21 ∧ ∀ a ∈ as, Good K H1 a, ?_, ?_⟩
    · refine ⟨_, rfl, ?_⟩
      refine ⟨by show 1 ≤ sizeLine; decide, fun p37 h37 => ?_⟩
      have nw := Same.new (o := .tup [V.str "times"]) h37
      have sm := sm.trans nw
      have hP := nw _ _ hP
      have hG : ∀ a ∈ as, Good K _ a := fun a ha => (hG a ha).same nw
      have f37 := new_at (o := .tup [V.str "times"]) h37
      refine ⟨by show 3 ≤ sizeLine; decide, fun p38 h38 => ?_⟩
      have nw := Same.new (o := .tup [V.ref p37, V.bl false, V.bl false]) h38
      have sm := sm.trans nw
      have hP := nw _ _ hP
      have hG : ∀ a ∈ as, Good K _ a := fun a ha => (hG a ha).same nw
      have f37 := nw _ _ f37
      have f38 := new_at (o := .tup [V.ref p37, V.bl false, V.bl false]) h38
      have g38 : Good K _ p38 := ⟨_, _, _, f38, (.tup f37), .two f37 (.inr rfl) (by show 0 ≠ 1; decide)⟩
      refine ⟨by show 2 ≤ sizeLine; decide, fun p39 h39 => ?_⟩
      have nw := Same.new (o := .tup [V.str "times", V.str "5"]) h39
      have sm := sm.trans nw
      have hP := nw _ _ hP
      have hG : ∀ a ∈ as, Good K _ a := fun a ha => (hG a ha).same nw
      have f37 := nw _ _ f37
      have f38 := nw _ _ f38
      have g38 := g38.same nw
      have f39 := new_at (o := .tup [V.str "times", V.str "5"]) h39
      refine ⟨by show 3 ≤ sizeLine; decide, fun p40 h40 => ?_⟩
      have nw := Same.new (o := .tup [V.ref p39, V.bl false, V.bl false]) h40
      have sm := sm.trans nw
      have hP := nw _ _ hP
      have hG : ∀ a ∈ as, Good K _ a := fun a ha => (hG a ha).same nw
      have f37 := nw _ _ f37
      have f38 := nw _ _ f38
      have f39 := nw _ _ f39
      have g38 := g38.same nw
      have f40 := new_at (o := .tup [V.ref p39, V.bl false, V.bl false]) h40
      have g40 : Good K _ p40 := ⟨_, _, _, f40, (.tup f39), .num f39 (.inr rfl) (.str _)⟩
      refine ⟨by show 2 ≤ sizeLine; decide, fun p41 h41 => ?_⟩
      have nw := Same.new (o := .tup [V.str "times", V.non]) h41
      have sm := sm.trans nw
      have hP := nw _ _ hP
      have hG : ∀ a ∈ as, Good K _ a := fun a ha => (hG a ha).same nw
      have f37 := nw _ _ f37
      have f38 := nw _ _ f38
      have f39 := nw _ _ f39
      have f40 := nw _ _ f40
      have g38 := g38.same nw
      have g40 := g40.same nw
      have f41 := new_at (o := .tup [V.str "times", V.non]) h41
      refine ⟨by show 3 ≤ sizeLine; decide, fun p42 h42 => ?_⟩
      have nw := Same.new (o := .tup [V.ref p41, V.bl false, V.bl false]) h42
      have sm := sm.trans nw
      have hP := nw _ _ hP
      have hG : ∀ a ∈ as, Good K _ a := fun a ha => (hG a ha).same nw
      have f37 := nw _ _ f37
      have f38 := nw _ _ f38
      have f39 := nw _ _ f39
      have f40 := nw _ _ f40
      have f41 := nw _ _ f41
      have g38 := g38.same nw
      have g40 := g40.same nw
      have f42 := new_at (o := .tup [V.ref p41, V.bl false, V.bl false]) h42
      have g42 : Good K _ p42 := ⟨_, _, _, f42, (.tup f41), .num f41 (.inr rfl) (.non)⟩
      refine ⟨by show 3 ≤ sizeLine; decide, fun p43 h43 => ?_⟩
      have nw := Same.new (o := .lst [V.ref p38, V.ref p40, V.ref p42]) h43
      have sm := sm.trans nw
      have hP := nw _ _ hP
      have hG : ∀ a ∈ as, Good K _ a := fun a ha => (hG a ha).same nw
      have f37 := nw _ _ f37
      have f38 := nw _ _ f38
      have f39 := nw _ _ f39
      have f40 := nw _ _ f40
      have f41 := nw _ _ f41
      have f42 := nw _ _ f42
      have g38 := g38.same nw
      have g40 := g40.same nw
      have g42 := g42.same nw
      have f43 := new_at (o := .lst [V.ref p38, V.ref p40, V.ref p42]) h43
      refine ⟨_, p43, _, _, rfl, rfl, hP, f43, sz5 (by rw [List.length_map, hL]; show 18 + 3 ≤ 100000; decide), fun p44 h44 => ?_⟩
      have nw := Same.new (o := .lst (as.map V.ref ++ [V.ref p38, V.ref p40, V.ref p42])) h44
      have sm := sm.trans nw
      have hG : ∀ a ∈ as, Good K _ a := fun a ha => (hG a ha).same nw
      have g38 := g38.same nw
      have g40 := g40.same nw
      have g42 := g42.same nw
      refine ⟨p44, as ++ [p38, p40, p42], rfl, sm, by rw [upd_same, List.map_append] <;> rfl, by rw [List.length_append, hL] <;> rfl, ?_⟩
      intro a ha
      rcases List.mem_append.mp ha with ha | ha
      · exact hG a ha
      · simp only [List.mem_cons, List.not_mem_nil, or_false] at ha
        rcases ha with rfl | rfl | rfl
        · exact g38
        · exact g40
        · exact g42
    rintro σ H6 ⟨p, as, rfl, sm, hP, hL, hG⟩
    refine ⟨fun σ H1 => ∃ (p : Addr) (as : List Addr), σ = [some (.ref p)] ∧ Same H H1 ∧ H1 p = some (.lst (as.map V.ref)) ∧ as.length = 24 ∧ ∀ a ∈ as, Good K H1 a, ?_, ?_⟩
    · refine ⟨_, rfl, ?_⟩
      refine ⟨by show 2 ≤ sizeLine; decide, fun p45 h45 => ?_⟩
      have nw := Same.new (o := .tup [V.str "square", V.int 2]) h45
      have sm := sm.trans nw
      have hP := nw _ _ hP
      have hG : ∀ a ∈ as, Good K _ a := fun a ha => (hG a ha).same nw
      have f45 := new_at (o := .tup [V.str "square", V.int 2]) h45
      refine ⟨by show 3 ≤ sizeLine; decide, fun p46 h46 => ?_⟩
      have nw := Same.new (o := .tup [V.ref p45, V.bl false, V.bl false]) h46
      have sm := sm.trans nw
      have hP := nw _ _ hP
      have hG : ∀ a ∈ as, Good K _ a := fun a ha => (hG a ha).same nw
      have f45 := nw _ _ f45
      have f46 := new_at (o := .tup [V.ref p45, V.bl false, V.bl false]) h46
      have g46 : Good K _ p46 := ⟨_, _, _, f46, (.tup f45), .one f45 (by decide +kernel) (by decide +kernel) (rfl)⟩
      refine ⟨by show 2 ≤ sizeLine; decide, fun p47 h47 => ?_⟩
      have nw := Same.new (o := .tup [V.str "half", V.int 0]) h47
      have sm := sm.trans nw
      have hP := nw _ _ hP
      have hG : ∀ a ∈ as, Good K _ a := fun a ha => (hG a ha).same nw
      have f45 := nw _ _ f45
      have f46 := nw _ _ f46
      have g46 := g46.same nw
      have f47 := new_at (o := .tup [V.str "half", V.int 0]) h47
      refine ⟨by show 3 ≤ sizeLine; decide, fun p48 h48 => ?_⟩
      have nw := Same.new (o := .tup [V.ref p47, V.bl false, V.bl false]) h48
      have sm := sm.trans nw
      have hP := nw _ _ hP
      have hG : ∀ a ∈ as, Good K _ a := fun a ha => (hG a ha).same nw
      have f45 := nw _ _ f45
      have f46 := nw _ _ f46
      have f47 := nw _ _ f47
      have g46 := g46.same nw
      have f48 := new_at (o := .tup [V.ref p47, V.bl false, V.bl false]) h48
      have g48 : Good K _ p48 := ⟨_, _, _, f48, (.tup f47), .one f47 (by decide +kernel) (by decide +kernel) (rfl)⟩
      refine ⟨by show 1 ≤ sizeLine; decide, fun p49 h49 => ?_⟩
      have nw := Same.new (o := .tup [V.str "Half"]) h49
      have sm := sm.trans nw
      have hP := nw _ _ hP
      have hG : ∀ a ∈ as, Good K _ a := fun a ha => (hG a ha).same nw
      have f45 := nw _ _ f45
      have f46 := nw _ _ f46
      have f47 := nw _ _ f47
      have f48 := nw _ _ f48
      have g46 := g46.same nw
      have g48 := g48.same nw
      have f49 := new_at (o := .tup [V.str "Half"]) h49
      refine ⟨by show 3 ≤ sizeLine; decide, fun p50 h50 => ?_⟩
      have nw := Same.new (o := .tup [V.ref p49, V.bl false, V.bl false]) h50
      have sm := sm.trans nw
      have hP := nw _ _ hP
      have hG : ∀ a ∈ as, Good K _ a := fun a ha => (hG a ha).same nw
      have f45 := nw _ _ f45
      have f46 := nw _ _ f46
      have f47 := nw _ _ f47
      have f48 := nw _ _ f48
      have f49 := nw _ _ f49
      have g46 := g46.same nw
      have g48 := g48.same nw
      have f50 := new_at (o := .tup [V.ref p49, V.bl false, V.bl false]) h50
      have g50 : Good K _ p50 := ⟨_, _, _, f50, (.tup f49), .one f49 (by decide +kernel) (by decide +kernel) (by decide +kernel)⟩
      refine ⟨by show 3 ≤ sizeLine; decide, fun p51 h51 => ?_⟩
      have nw := Same.new (o := .lst [V.ref p46, V.ref p48, V.ref p50]) h51
      have sm := sm.trans nw
      have hP := nw _ _ hP
      have hG : ∀ a ∈ as, Good K _ a := fun a ha => (hG a ha).same nw
      have f45 := nw _ _ f45
      have f46 := nw _ _ f46
      have f47 := nw _ _ f47
      have f48 := nw _ _ f48
      have f49 := nw _ _ f49
      have f50 := nw _ _ f50
      have g46 := g46.same nw
      have g48 := g48.same nw
      have g50 := g50.same nw
      have f51 := new_at (o := .lst [V.ref p46, V.ref p48, V.ref p50]) h51
      refine ⟨_, p51, _, _, rfl, rfl, hP, f51, sz5 (by rw [List.length_map, hL]; show 21 + 3 ≤ 100000; decide), fun p52 h52 => ?_⟩
      have nw := Same.new (o := .lst (as.map V.ref ++ [V.ref p46, V.ref p48, V.ref p50])) h52
      have sm := sm.trans nw
      have hG : ∀ a ∈ as, Good K _ a := fun a ha => (hG a ha).same nw
      have g46 := g46.same nw
      have g48 := g48.same nw
      have g50 := g50.same nw
      refine ⟨p52, as ++ [p46, p48, p50], rfl, sm, by rw [upd_same, List.map_append] <;> rfl, by rw [List.length_append, hL] <;> rfl, ?_⟩
      intro a ha
      rcases List.mem_append.mp ha with ha | ha
      · exact hG a ha
      · simp only [List.mem_cons, List.not_mem_nil, or_false] at ha
        rcases ha with rfl | rfl | rfl
        · exact g46
        · exact g48
        · exact g50
    rintro σ H7 ⟨p, as, rfl, sm, hP, hL, hG⟩
    refine ⟨fun σ H1 => ∃ (p : Addr) (as : List Addr), σ = [some (.ref p)] ∧ Same H H1 ∧ H1 p = some (.lst (as.map V.ref)) ∧ as.length = 27 ∧ ∀ a ∈ as, Good K H1 a, ?_, ?_⟩
    · refine ⟨_, rfl, ?_⟩
      refine ⟨by show 2 ≤ sizeLine; decide, fun p53 h53 => ?_⟩
      have nw := Same.new (o := .tup [V.str "sub", V.int 5]) h53
      have sm := sm.trans nw
      have hP := nw _ _ hP
      have hG : ∀ a ∈ as, Good K _ a := fun a ha => (hG a ha).same nw
      have f53 := new_at (o := .tup [V.str "sub", V.int 5]) h53
      refine ⟨by show 3 ≤ sizeLine; decide, fun p54 h54 => ?_⟩
      have nw := Same.new (o := .tup [V.ref p53, V.bl false, V.bl false]) h54
      have sm := sm.trans nw
      have hP := nw _ _ hP
      have hG : ∀ a ∈ as, Good K _ a := fun a ha => (hG a ha).same nw
      have f53 := nw _ _ f53
      have f54 := new_at (o := .tup [V.ref p53, V.bl false, V.bl false]) h54
      have g54 : Good K _ p54 := ⟨_, _, _, f54, (.tup f53), .one f53 (by decide +kernel) (by decide +kernel) (rfl)⟩
      refine ⟨by show 2 ≤ sizeLine; decide, fun p55 h55 => ?_⟩
      have nw := Same.new (o := .tup [V.non, V.int 5]) h55
      have sm := sm.trans nw
      have hP := nw _ _ hP
      have hG : ∀ a ∈ as, Good K _ a := fun a ha => (hG a ha).same nw
      have f53 := nw _ _ f53
      have f54 := nw _ _ f54
      have g54 := g54.same nw
      have f55 := new_at (o := .tup [V.non, V.int 5]) h55
      refine ⟨by show 3 ≤ sizeLine; decide, fun p56 h56 => ?_⟩
      have nw := Same.new (o := .tup [V.ref p55, V.bl false, V.bl false]) h56
      have sm := sm.trans nw
      have hP := nw _ _ hP
      have hG : ∀ a ∈ as, Good K _ a := fun a ha => (hG a ha).same nw
      have f53 := nw _ _ f53
      have f54 := nw _ _ f54
      have f55 := nw _ _ f55
      have g54 := g54.same nw
      have f56 := new_at (o := .tup [V.ref p55, V.bl false, V.bl false]) h56
      have g56 : Good K _ p56 := ⟨_, _, _, f56, (.tup f55), .nstr f55 (.base .non) (kit_ty (by decide +kernel))⟩
      refine ⟨by show 1 ≤ sizeLine; decide, fun p57 h57 => ?_⟩
      have nw := Same.new (o := .tup [V.str "half"]) h57
      have sm := sm.trans nw
      have hP := nw _ _ hP
      have hG : ∀ a ∈ as, Good K _ a := fun a ha => (hG a ha).same nw
      have f53 := nw _ _ f53
      have f54 := nw _ _ f54
      have f55 := nw _ _ f55
      have f56 := nw _ _ f56
      have g54 := g54.same nw
      have g56 := g56.same nw
      have f57 := new_at (o := .tup [V.str "half"]) h57
      refine ⟨by show 3 ≤ sizeLine; decide, fun p58 h58 => ?_⟩
      have nw := Same.new (o := .tup [V.ref p57, V.bl false, V.bl true]) h58
      have sm := sm.trans nw
      have hP := nw _ _ hP
      have hG : ∀ a ∈ as, Good K _ a := fun a ha => (hG a ha).same nw
      have f53 := nw _ _ f53
      have f54 := nw _ _ f54
      have f55 := nw _ _ f55
      have f56 := nw _ _ f56
      have f57 := nw _ _ f57
      have g54 := g54.same nw
      have g56 := g56.same nw
      have f58 := new_at (o := .tup [V.ref p57, V.bl false, V.bl true]) h58
      have g58 : Good K _ p58 := ⟨_, _, _, f58, (.tup f57), .one f57 (by decide +kernel) (by decide +kernel) (by decide +kernel)⟩
      refine ⟨by show 3 ≤ sizeLine; decide, fun p59 h59 => ?_⟩
      have nw := Same.new (o := .lst [V.ref p54, V.ref p56, V.ref p58]) h59
      have sm := sm.trans nw
      have hP := nw _ _ hP
      have hG : ∀ a ∈ as, Good K _ a := fun a ha => (hG a ha).same nw
      have f53 := nw _ _ f53
      have f54 := nw _ _ f54
      have f55 := nw _ _ f55
      have f56 := nw _ _ f56
      have f57 := nw _ _ f57
      have f58 := nw _ _ f58
      have g54 := g54.same nw
      have g56 := g56.same nw
      have g58 := g58.same nw
      have f59 := new_at (o := .lst [V.ref p54, V.ref p56, V.ref p58]) h59
      refine ⟨_, p59, _, _, rfl, rfl, hP, f59, sz5 (by rw [List.length_map, hL]; show 24 + 3 ≤ 100000; decide), fun p60 h60 => ?_⟩
      have nw := Same.new (o := .lst (as.map V.ref ++ [V.ref p54, V.ref p56, V.ref p58])) h60
      have sm := sm.trans nw
      have hG : ∀ a ∈ as, Good K _ a := fun a ha => (hG a ha).same nw
      have g54 := g54.same nw
      have g56 := g56.same nw
      have g58 := g58.same nw
      refine ⟨p60, as ++ [p54, p56, p58], rfl, sm, by rw [upd_same, List.map_append] <;> rfl, by rw [List.length_append, hL] <;> rfl, ?_⟩
      intro a ha
      rcases List.mem_append.mp ha with ha | ha
      · exact hG a ha
      · simp only [List.mem_cons, List.not_mem_nil, or_false] at ha
        rcases ha with rfl | rfl | rfl
        · exact g54
        · exact g56
        · exact g58
    rintro σ H8 ⟨p, as, rfl, sm, hP, hL, hG⟩
    refine ⟨fun σ H1 => ∃ (p : Addr) (as : List Addr), σ = [some (.ref p)] ∧ Same H H1 ∧ H1 p = some (.lst (as.map V.ref)) ∧ as.length = 30 ∧ ∀ a ∈ as, Good K H1 a, ?_, ?_⟩
    · refine ⟨_, rfl, ?_⟩
      refine ⟨by show 1 ≤ sizeLine; decide, fun p61 h61 => ?_⟩
      have nw := Same.new (o := .lst [V.str "half"]) h61
      have sm := sm.trans nw
      have hP := nw _ _ hP
      have hG : ∀ a ∈ as, Good K _ a := fun a ha => (hG a ha).same nw
      have f61 := new_at (o := .lst [V.str "half"]) h61
      refine ⟨by show 1 ≤ sizeLine; decide, fun p62 h62 => ?_⟩
      have nw := Same.new (o := .tup [V.ref p61]) h62
      have sm := sm.trans nw
      have hP := nw _ _ hP
      have hG : ∀ a ∈ as, Good K _ a := fun a ha => (hG a ha).same nw
      have f61 := nw _ _ f61
      have f62 := new_at (o := .tup [V.ref p61]) h62
      refine ⟨by show 3 ≤ sizeLine; decide, fun p63 h63 => ?_⟩
      have nw := Same.new (o := .tup [V.ref p62, V.bl false, V.bl false]) h63
      have sm := sm.trans nw
      have hP := nw _ _ hP
      have hG : ∀ a ∈ as, Good K _ a := fun a ha => (hG a ha).same nw
      have f61 := nw _ _ f61
      have f62 := nw _ _ f62
      have f63 := new_at (o := .tup [V.ref p62, V.bl false, V.bl false]) h63
      have g63 : Good K _ p63 := ⟨_, _, _, f63, (.tup f62), .nstr f62 (.base (.lst f61)) (kit_ty (by decide +kernel))⟩
      refine fun p64 h64 => ?_
      have nw := Same.new (o := .dK []) h64
      have sm := sm.trans nw
      have hP := nw _ _ hP
      have hG : ∀ a ∈ as, Good K _ a := fun a ha => (hG a ha).same nw
      have f61 := nw _ _ f61
      have f62 := nw _ _ f62
      have f63 := nw _ _ f63
      have g63 := g63.same nw
      have f64 := new_at (o := .dK []) h64
      refine ⟨by show 2 ≤ sizeLine; decide, fun p65 h65 => ?_⟩
      have nw := Same.new (o := .tup [V.ref p64, V.int 5]) h65
      have sm := sm.trans nw
      have hP := nw _ _ hP
      have hG : ∀ a ∈ as, Good K _ a := fun a ha => (hG a ha).same nw
      have f61 := nw _ _ f61
      have f62 := nw _ _ f62
      have f63 := nw _ _ f63
      have f64 := nw _ _ f64
      have g63 := g63.same nw
      have f65 := new_at (o := .tup [V.ref p64, V.int 5]) h65
      refine ⟨by show 3 ≤ sizeLine; decide, fun p66 h66 => ?_⟩
      have nw := Same.new (o := .tup [V.ref p65, V.bl false, V.bl false]) h66
      have sm := sm.trans nw
      have hP := nw _ _ hP
      have hG : ∀ a ∈ as, Good K _ a := fun a ha => (hG a ha).same nw
      have f61 := nw _ _ f61
      have f62 := nw _ _ f62
      have f63 := nw _ _ f63
      have f64 := nw _ _ f64
      have f65 := nw _ _ f65
      have g63 := g63.same nw
      have f66 := new_at (o := .tup [V.ref p65, V.bl false, V.bl false]) h66
      have g66 : Good K _ p66 := ⟨_, _, _, f66, (.tup f65), .nstr f65 (.base (.dK f64)) (kit_ty (by decide +kernel))⟩
      refine ⟨by show 1 ≤ sizeLine; decide, fun p67 h67 => ?_⟩
      have nw := Same.new (o := .lst [V.int 5]) h67
      have sm := sm.trans nw
      have hP := nw _ _ hP
      have hG : ∀ a ∈ as, Good K _ a := fun a ha => (hG a ha).same nw
      have f61 := nw _ _ f61
      have f62 := nw _ _ f62
      have f63 := nw _ _ f63
      have f64 := nw _ _ f64
      have f65 := nw _ _ f65
      have f66 := nw _ _ f66
      have g63 := g63.same nw
      have g66 := g66.same nw
      have f67 := new_at (o := .lst [V.int 5]) h67
      refine ⟨by show 2 ≤ sizeLine; decide, fun p68 h68 => ?_⟩
      have nw := Same.new (o := .tup [V.str "add", V.ref p67]) h68
      have sm := sm.trans nw
      have hP := nw _ _ hP
      have hG : ∀ a ∈ as, Good K _ a := fun a ha => (hG a ha).same nw
      have f61 := nw _ _ f61
      have f62 := nw _ _ f62
      have f63 := nw _ _ f63
      have f64 := nw _ _ f64
      have f65 := nw _ _ f65
      have f66 := nw _ _ f66
      have f67 := nw _ _ f67
      have g63 := g63.same nw
      have g66 := g66.same nw
      have f68 := new_at (o := .tup [V.str "add", V.ref p67]) h68
      refine ⟨by show 3 ≤ sizeLine; decide, fun p69 h69 => ?_⟩
      have nw := Same.new (o := .tup [V.ref p68, V.bl false, V.bl false]) h69
      have sm := sm.trans nw
      have hP := nw _ _ hP
      have hG : ∀ a ∈ as, Good K _ a := fun a ha => (hG a ha).same nw
      have f61 := nw _ _ f61
      have f62 := nw _ _ f62
      have f63 := nw _ _ f63
      have f64 := nw _ _ f64
      have f65 := nw _ _ f65
      have f66 := nw _ _ f66
      have f67 := nw _ _ f67
      have f68 := nw _ _ f68
      have g63 := g63.same nw
      have g66 := g66.same nw
      have f69 := new_at (o := .tup [V.ref p68, V.bl false, V.bl false]) h69
      have g69 : Good K _ p69 := ⟨_, _, _, f69, (.tup f68), .num f68 (.inl rfl) ((.lst f67))⟩
      refine ⟨by show 3 ≤ sizeLine; decide, fun p70 h70 => ?_⟩
      have nw := Same.new (o := .lst [V.ref p63, V.ref p66, V.ref p69]) h70
      have sm := sm.trans nw
      have hP := nw _ _ hP
      have hG : ∀ a ∈ as, Good K _ a := fun a ha => (hG a ha).same nw
      have f61 := nw _ _ f61
      have f62 := nw _ _ f62
      have f63 := nw _ _ f63
      have f64 := nw _ _ f64
      have f65 := nw _ _ f65
      have f66 := nw _ _ f66
      have f67 := nw _ _ f67
      have f68 := nw _ _ f68
      have f69 := nw _ _ f69
      have g63 := g63.same nw
      have g66 := g66.same nw
      have g69 := g69.same nw
      have f70 := new_at (o := .lst [V.ref p63, V.ref p66, V.ref p69]) h70
      refine ⟨_, p70, _, _, rfl, rfl, hP, f70, sz5 (by rw [List.length_map, hL]; show 27 + 3 ≤ 100000; decide), fun p71 h71 => ?_⟩
      have nw := Same.new (o := .lst (as.map V.ref ++ [V.ref p63, V.ref p66, V.ref p69])) h71
      have sm := sm.trans nw
      have hG : ∀ a ∈ as, Good K _ a := fun a ha => (hG a ha).same nw
      have g63 := g63.same nw
      have g66 := g66.same nw
      have g69 := g69.same nw
      refine ⟨p71, as ++ [p63, p66, p69], rfl, sm, by rw [upd_same, List.map_append] <;> rfl, by rw [List.length_append, hL] <;> rfl, ?_⟩
      intro a ha
      rcases List.mem_append.mp ha with ha | ha
      · exact hG a ha
      · simp only [List.mem_cons, List.not_mem_nil, or_false] at ha
        rcases ha with rfl | rfl | rfl
        · exact g63
        · exact g66
        · exact g69
    rintro σ H9 ⟨p, as, rfl, sm, hP, hL, hG⟩
    refine ⟨fun σ H1 => ∃ (p : Addr) (as : List Addr), σ = [some (.ref p)] ∧ Same H H1 ∧ H1 p = some (.lst (as.map V.ref)) ∧ as.length = 32 ∧ ∀ a ∈ as, Good K H1 a, ?_, ?_⟩
    · refine ⟨_, rfl, ?_⟩
      refine fun p72 h72 => ?_
      have nw := Same.new (o := .dK []) h72
      have sm := sm.trans nw
      have hP := nw _ _ hP
      have hG : ∀ a ∈ as, Good K _ a := fun a ha => (hG a ha).same nw
      have f72 := new_at (o := .dK []) h72
      refine ⟨by show 3 ≤ sizeLine; decide, fun p73 h73 => ?_⟩
      have nw := Same.new (o := .tup [V.ref p72, V.bl false, V.bl false]) h73
      have sm := sm.trans nw
      have hP := nw _ _ hP
      have hG : ∀ a ∈ as, Good K _ a := fun a ha => (hG a ha).same nw
      have f72 := nw _ _ f72
      have f73 := new_at (o := .tup [V.ref p72, V.bl false, V.bl false]) h73
      have g73 : Good K _ p73 := ⟨_, _, _, f73, (.dK f72), .ntup (.base (.dK f72)) (kit_ty (by decide +kernel))⟩
      refine fun p74 h74 => ?_
      have nw := Same.new (o := .dK []) h74
      have sm := sm.trans nw
      have hP := nw _ _ hP
      have hG : ∀ a ∈ as, Good K _ a := fun a ha => (hG a ha).same nw
      have f72 := nw _ _ f72
      have f73 := nw _ _ f73
      have g73 := g73.same nw
      have f74 := new_at (o := .dK []) h74
      refine ⟨by show 2 ≤ sizeLine; decide, fun p75 h75 => ?_⟩
      have nw := Same.new (o := .tup [V.str "times", V.ref p74]) h75
      have sm := sm.trans nw
      have hP := nw _ _ hP
      have hG : ∀ a ∈ as, Good K _ a := fun a ha => (hG a ha).same nw
      have f72 := nw _ _ f72
      have f73 := nw _ _ f73
      have f74 := nw _ _ f74
      have g73 := g73.same nw
      have f75 := new_at (o := .tup [V.str "times", V.ref p74]) h75
      refine ⟨by show 3 ≤ sizeLine; decide, fun p76 h76 => ?_⟩
      have nw := Same.new (o := .tup [V.ref p75, V.bl false, V.bl false]) h76
      have sm := sm.trans nw
      have hP := nw _ _ hP
      have hG : ∀ a ∈ as, Good K _ a := fun a ha => (hG a ha).same nw
      have f72 := nw _ _ f72
      have f73 := nw _ _ f73
      have f74 := nw _ _ f74
      have f75 := nw _ _ f75
      have g73 := g73.same nw
      have f76 := new_at (o := .tup [V.ref p75, V.bl false, V.bl false]) h76
      have g76 : Good K _ p76 := ⟨_, _, _, f76, (.tup f75), .num f75 (.inr rfl) ((.dK f74))⟩
      refine ⟨by show 2 ≤ sizeLine; decide, fun p77 h77 => ?_⟩
      have nw := Same.new (o := .lst [V.ref p73, V.ref p76]) h77
      have sm := sm.trans nw
      have hP := nw _ _ hP
      have hG : ∀ a ∈ as, Good K _ a := fun a ha => (hG a ha).same nw
      have f72 := nw _ _ f72
      have f73 := nw _ _ f73
      have f74 := nw _ _ f74
      have f75 := nw _ _ f75
      have f76 := nw _ _ f76
      have g73 := g73.same nw
      have g76 := g76.same nw
      have f77 := new_at (o := .lst [V.ref p73, V.ref p76]) h77
      refine ⟨_, p77, _, _, rfl, rfl, hP, f77, sz5 (by rw [List.length_map, hL]; show 30 + 2 ≤ 100000; decide), fun p78 h78 => ?_⟩
      have nw := Same.new (o := .lst (as.map V.ref ++ [V.ref p73, V.ref p76])) h78
      have sm := sm.trans nw
      have hG : ∀ a ∈ as, Good K _ a := fun a ha => (hG a ha).same nw
      have g73 := g73.same nw
      have g76 := g76.same nw
      refine ⟨p78, as ++ [p73, p76], rfl, sm, by rw [upd_same, List.map_append] <;> rfl, by rw [List.length_append, hL] <;> rfl, ?_⟩
      intro a ha
      rcases List.mem_append.mp ha with ha | ha
      · exact hG a ha
      · simp only [List.mem_cons, List.not_mem_nil, or_false] at ha
        rcases ha with rfl | rfl
        · exact g73
        · exact g76
    rintro σ H10 ⟨p, as, rfl, sm, hP, hL, hG⟩
    refine ⟨_, rfl, ?_⟩
    refine ⟨by show 1 ≤ sizeLine; decide, fun p79 h79 => ?_⟩
    have nw := Same.new (o := .tup [V.str "square"]) h79
    have sm := sm.trans nw
    have hP := nw _ _ hP
    have hG : ∀ a ∈ as, Good K _ a := fun a ha => (hG a ha).same nw
    have f79 := new_at (o := .tup [V.str "square"]) h79
    refine ⟨by show 3 ≤ sizeLine; decide, fun p80 h80 => ?_⟩
    have nw := Same.new (o := .tup [V.ref p79, V.bl false, V.bl true]) h80
    have sm := sm.trans nw
    have hP := nw _ _ hP
    have hG : ∀ a ∈ as, Good K _ a := fun a ha => (hG a ha).same nw
    have f79 := nw _ _ f79
    have f80 := new_at (o := .tup [V.ref p79, V.bl false, V.bl true]) h80
    have g80 : Good K _ p80 := ⟨_, _, _, f80, (.tup f79), .one f79 (by decide +kernel) (by decide +kernel) (by decide +kernel)⟩
    refine ⟨by show 2 ≤ sizeLine; decide, fun p81 h81 => ?_⟩
    have nw := Same.new (o := .tup [V.str "add", V.int 0]) h81
    have sm := sm.trans nw
    have hP := nw _ _ hP
    have hG : ∀ a ∈ as, Good K _ a := fun a ha => (hG a ha).same nw
    have f79 := nw _ _ f79
    have f80 := nw _ _ f80
    have g80 := g80.same nw
    have f81 := new_at (o := .tup [V.str "add", V.int 0]) h81
    refine ⟨by show 3 ≤ sizeLine; decide, fun p82 h82 => ?_⟩
    have nw := Same.new (o := .tup [V.ref p81, V.bl false, V.bl true]) h82
    have sm := sm.trans nw
    have hP := nw _ _ hP
    have hG : ∀ a ∈ as, Good K _ a := fun a ha => (hG a ha).same nw
    have f79 := nw _ _ f79
    have f80 := nw _ _ f80
    have f81 := nw _ _ f81
    have g80 := g80.same nw
    have f82 := new_at (o := .tup [V.ref p81, V.bl false, V.bl true]) h82
    have g82 : Good K _ p82 := ⟨_, _, _, f82, (.tup f81), .num f81 (.inl rfl) (.int _)⟩
    refine ⟨by show 2 ≤ sizeLine; decide, fun p83 h83 => ?_⟩
    have nw := Same.new (o := .tup [V.str "times", V.int 999982]) h83
    have sm := sm.trans nw
    have hP := nw _ _ hP
    have hG : ∀ a ∈ as, Good K _ a := fun a ha => (hG a ha).same nw
    have f79 := nw _ _ f79
    have f80 := nw _ _ f80
    have f81 := nw _ _ f81
    have f82 := nw _ _ f82
    have g80 := g80.same nw
    have g82 := g82.same nw
    have f83 := new_at (o := .tup [V.str "times", V.int 999982]) h83
    refine ⟨by show 3 ≤ sizeLine; decide, fun p84 h84 => ?_⟩
    have nw := Same.new (o := .tup [V.ref p83, V.bl false, V.bl true]) h84
    have sm := sm.trans nw
    have hP := nw _ _ hP
    have hG : ∀ a ∈ as, Good K _ a := fun a ha => (hG a ha).same nw
    have f79 := nw _ _ f79
    have f80 := nw _ _ f80
    have f81 := nw _ _ f81
    have f82 := nw _ _ f82
    have f83 := nw _ _ f83
    have g80 := g80.same nw
    have g82 := g82.same nw
    have f84 := new_at (o := .tup [V.ref p83, V.bl false, V.bl true]) h84
    have g84 : Good K _ p84 := ⟨_, _, _, f84, (.tup f83), .num f83 (.inr rfl) (.int _)⟩
    refine ⟨by show 3 ≤ sizeLine; decide, fun p85 h85 => ?_⟩
    have nw := Same.new (o := .lst [V.ref p80, V.ref p82, V.ref p84]) h85
    have sm := sm.trans nw
    have hP := nw _ _ hP
    have hG : ∀ a ∈ as, Good K _ a := fun a ha => (hG a ha).same nw
    have f79 := nw _ _ f79
    have f80 := nw _ _ f80
    have f81 := nw _ _ f81
    have f82 := nw _ _ f82
    have f83 := nw _ _ f83
    have f84 := nw _ _ f84
    have g80 := g80.same nw
    have g82 := g82.same nw
    have g84 := g84.same nw
    have f85 := new_at (o := .lst [V.ref p80, V.ref p82, V.ref p84]) h85
    refine ⟨_, p85, _, _, rfl, rfl, hP, f85, sz5 (by rw [List.length_map, hL]; show 32 + 3 ≤ 100000; decide), fun p86 h86 => ?_⟩
    have nw := Same.new (o := .lst (as.map V.ref ++ [V.ref p80, V.ref p82, V.ref p84])) h86
    have sm := sm.trans nw
    have hG : ∀ a ∈ as, Good K _ a := fun a ha => (hG a ha).same nw
    have g80 := g80.same nw
    have g82 := g82.same nw
    have g84 := g84.same nw
    refine k p86 _ (as ++ [p80, p82, p84]) sm (by rw [upd_same, List.map_append] <;> rfl) (by rw [List.length_append, hL] <;> rfl) ?_
    intro a ha
    rcases List.mem_append.mp ha with ha | ha
    · exact hG a ha
    · simp only [List.mem_cons, List.not_mem_nil, or_false] at ha
      rcases ha with rfl | rfl | rfl
      · exact g80
      · exact g82
      · exact g84
theorem among_st {s : Nat} (h : s < 999983) : among (some (s : Int)) 0 999982 = true := by
  show (decide ((0 : Int) ≤ (s : Int)) && decide ((s : Int) ≤ 999982)) = true
  simp only [Bool.and_eq_true, decide_eq_true_eq]
  omega
theorem ok_law_at (T : Txt K mg) {f : Addr} {fd : FuncData} (F : Fun K "law" "law" s_law f fd) : FnOk P w K mg base (L2.CX P w) 4 f fd ["_law_script"] (sp_law K) := by
  obtain ⟨f_l_rule, fd_l_rule, m_l_rule, k_l_rule, b_l_rule, G_l_rule⟩ := ok_l_rule (P := P) (w := w) (base := base) T
  obtain ⟨f_l_number, fd_l_number, m_l_number, k_l_number, b_l_number, G_l_number⟩ := ok_l_number (P := P) (w := w) (base := base) T
  obtain ⟨f_forth, fd_forth, m_forth, k_forth, b_forth, G_forth⟩ := ok_forth (P := P) (w := w) (base := base) T
  obtain ⟨f_l_forth, fd_l_forth, m_l_forth, k_l_forth, b_l_forth, G_l_forth⟩ := ok_l_forth (P := P) (w := w) (base := base) T
  obtain ⟨f_l_whole, fd_l_whole, m_l_whole, k_l_whole, b_l_whole, G_l_whole⟩ := ok_l_whole (P := P) (w := w) (base := base) T
  obtain ⟨f_is_state, fd_is_state, m_is_state, k_is_state, b_is_state, G_is_state⟩ := ok_is_state (P := P) (w := w) (base := base) T
  obtain ⟨f_is_rule, fd_is_rule, m_is_rule, k_is_rule, b_is_rule, G_is_rule⟩ := ok_is_rule (P := P) (w := w) (base := base) T
  obtain ⟨f_l_things, fd_l_things, m_l_things, k_l_things, b_l_things, G_l_things⟩ := ok_l_things (P := P) (w := w) (base := base) T
  obtain ⟨f_l_cell_at, fd_l_cell_at, m_l_cell_at, k_l_cell_at, b_l_cell_at, G_l_cell_at⟩ := ok_l_cell_at (P := P) (w := w) (base := base) T
  refine F.okX sc_law (fun vs H Q E h => ?_) (fun cdv A outer s H vs Q E hr h => ?_)
  · obtain ⟨a, ns, rfl, hS, hl, k⟩ := h
    rfl
  · obtain ⟨a, ns, rfl, hS, hl, k⟩ := h
    refine ⟨_, (pss_cons (ps_set (i := 1) sc_law.nd rfl (Or.inl rfl) (pe_call G_l_rule (hr.mono (by decide)) (by rfl) m_l_rule k_l_rule b_l_rule .nil passL (pa_cons (pe_call G_l_number (hr.mono (by decide)) (by rfl) m_l_number k_l_number b_l_number .nil passL (pa_cons (pv 0) (pa_cons pe_int pa_nil))) pa_nil)))
        (Evl.pss_cut (ps_set (i := 2) sc_law.nd rfl (Or.inl rfl) (pe_call G_l_number (hr.mono (by decide)) (by rfl) m_l_number k_l_number b_l_number .nil passL (pa_cons (pv 0) (pa_cons pe_int pa_nil))))
        (Evl.pss_cut (ps_set (i := 3) sc_law.nd rfl (Or.inl rfl) (pe_ix ix_list (pe_lst (pa_cons pe_int (pa_cons pe_int (pa_cons pe_int (pa_cons (pe_op op_mod (pe_op op_fdiv (pv 2) pe_int) pe_int) pa_nil))))) (pe_op op_mod (pv 2) pe_int) (fun _ _ => rfl)))
        (pss_cons (ps_set (i := 4) sc_law.nd rfl (Or.inl rfl) (pe_call G_forth (hr.mono (by decide)) (by rfl) m_forth k_forth b_forth .nil passL (pa_cons (pv 1) (pa_cons (pv 3) pa_nil))))
        (pss_cons (ps_if (PW.pt (pw_or (pt_not (pt_val (pe_call G_l_whole (hr.mono (by decide)) (by rfl) m_l_whole k_l_whole b_l_whole .nil passL (pa_cons (pv 4) pa_nil)))) (pw_or1 (pt_cmpR op_ne (pv 4) (pe_call G_l_forth (hr.mono (by decide)) (by rfl) m_l_forth k_l_forth b_l_forth .nil passL (pa_cons (pv 1) (pa_cons (pv 3) pa_nil))) (nomark _)))))
        (pss_one (ps_ret pe_bl))
        pss_nil)
        (pss_cons (ps_if (PW.pt (pw_or (pt_cmpR op_notBl (pe_call G_is_rule (hr.mono (by decide)) (by rfl) m_is_rule k_is_rule b_is_rule .nil passL (pa_cons (pv 1) pa_nil)) pe_bl (nomark _)) (pw_or (pt_cmpR op_notBl (pe_call G_is_state (hr.mono (by decide)) (by rfl) m_is_state k_is_state b_is_state .nil passL (pa_cons (pv 3) pa_nil)) pe_bl (nomark _)) (pw_or1 (pt_cmpR op_notBl (pe_call G_is_state (hr.mono (by decide)) (by rfl) m_is_state k_is_state b_is_state .nil passL (pa_cons (pv 4) pa_nil)) pe_bl (nomark _))))))
        (pss_one (ps_ret pe_bl))
        pss_nil)
        (pss_cons (ps_asg (pe_ix ix_list (pe_call0 G_l_things (hr.mono (by decide)) (by rfl) m_l_things k_l_things b_l_things .nil passL) (pe_op op_mod (pe_call G_l_cell_at (hr.mono (by decide)) (by rfl) m_l_cell_at k_l_cell_at b_l_cell_at .nil passL (pa_cons (pv 0) (pa_cons pe_int pa_nil))) pe_int) (fun _ _ => rfl)) (pg_tup rfl (pgs_cons (pg_name (i := 5) sc_law.nd rfl (Or.inl rfl)) (pgs_cons (pg_name (i := 6) sc_law.nd rfl (Or.inl rfl)) (pgs_cons (pg_name (i := 7) sc_law.nd rfl (Or.inl rfl)) pgs_nil)))))
        (pss_cons (ps_set (i := 8) sc_law.nd rfl (Or.inl rfl) (pe_lst (pa_cons (pe_call G_is_state (hr.mono (by decide)) (by rfl) m_is_state k_is_state b_is_state .nil passL (pa_cons (pv 5) pa_nil)) (pa_cons (pe_call G_is_rule (hr.mono (by decide)) (by rfl) m_is_rule k_is_rule b_is_rule .nil passL (pa_cons (pv 5) pa_nil)) pa_nil))))
        (pss_one (ps_ret (pe_and (pe_cmpR (op_eqD hr.units) (pv 8) (pe_lst (pa_cons (pv 6) (pa_cons (pv 7) pa_nil))) (nomark _)) (pe_and (pe_callB call_isi (by rfl) T.n_isinstance (by decide +kernel) (pa_cons (pe_ix ix_list (pv 8) pe_int (fun _ _ => rfl)) (pa_cons (pe_bltn (v := .ty "bool") (by rfl) T.n_bool (by decide +kernel) rfl) pa_nil))) (pe_one (pe_callB call_isi (by rfl) T.n_isinstance (by decide +kernel) (pa_cons (pe_ix ix_list (pv 8) pe_int (fun _ _ => rfl)) (pa_cons (pe_bltn (v := .ty "bool") (by rfl) T.n_bool (by decide +kernel) rfl) pa_nil)))))))))))))))), ?_⟩
    refine ⟨_, rfl, a, ns, 0, rfl, hS, hl, by decide, numN ns 0, rfl, num_nn _ _, fun r q H1 ok hq s1 hR => ?_⟩
    refine ⟨fun σ H2 => H2 = H1 ∧ ∃ c : Int, σ = [some (.ref a), some (.ref q), some (.int c), none, none, none, none, none, none], ⟨_, rfl, a, ns, 1, rfl, s1.seq hS, hl, by decide, rfl, _, rfl⟩, ?_⟩
    rintro σ H2 ⟨rfl, c, rfl⟩
    refine ⟨fun σ H3 => Same H2 H3 ∧ ∃ s : Nat, s < 999983 ∧ σ = [some (.ref a), some (.ref q), some (.int c), some (.int (s : Int)), none, none, none, none, none], ?_, ?_⟩
    · obtain ⟨m, hm, em⟩ := rem_nat (z := c / 4) (m := 999983) (by decide)
      obtain ⟨j, hj, ej⟩ := rem_nat (z := c) (m := 4) (by decide)
      refine ⟨_, rfl, _, _, rfl, rfl, ⟨by decide, by decide⟩, _, _, rfl, rfl, by show (0 : Int) < 999983; decide, by show 4 ≤ sizeLine; decide, fun l hl' => ?_⟩
      obtain ⟨v, hv, t, rfl, ht⟩ := pick (P := fun v => ∃ m : Nat, v = V.int (m : Int) ∧ m < 999983) (xs := [.int 0, .int 1, .int 999982, .int (c / 4 % 999983)]) (fun v hv => by
        simp only [List.mem_cons, List.not_mem_nil, or_false] at hv
        rcases hv with rfl | rfl | rfl | rfl
        · exact ⟨0, rfl, by decide⟩
        · exact ⟨1, rfl, by decide⟩
        · exact ⟨999982, rfl, by decide⟩
        · exact ⟨m, by rw [em], by omega⟩) (j := j) (by show j < 4; omega)
      exact ⟨_, rfl, _, _, rfl, rfl, by show (0 : Int) < 4; decide, l, _, _, .int (t : Int), rfl, rfl, SqL.of upd_same, at_of ej hv, Same.new hl', t, ht, rfl⟩
    rintro σ H3 ⟨s3, s', hs, rfl⟩
    have hR3 := s3 _ _ hR
    have hf := forthN_lt r hs
    refine ⟨_, rfl, _, rfl, q, r, s', rfl, hR3, ok, hs, ?_⟩
    refine ⟨_, rfl, .int _, some _, rfl, .int _, _, rfl, iteF ?_⟩
    refine ⟨_, rfl, _, rfl, _, rfl, q, r, s', rfl, hR3, ok, hs, rfl, _, rfl, iteNS rfl ?_⟩
    refine ⟨_, rfl, .ref q, true, rfl, r.th ok hR3, true, true, rfl, rfl, _, rfl, iteNS rfl ?_⟩
    refine ⟨_, rfl, .int (s' : Int), some _, rfl, .int _, _, true, rfl, rfl, _, rfl, iteNS (among_st hs) ?_⟩
    refine ⟨_, rfl, .int (forthN r s' : Int), some _, rfl, .int _, _, true, rfl, rfl, _, rfl, iteNS (among_st hf) ?_⟩
    refine ⟨rfl, fun p H4 as s4 hP hL hG => ?_⟩
    obtain ⟨i, hi, ei⟩ := rem_nat (z := cellAt ns 2) (m := 35) (by decide)
    have sA := (s1.trans s3).trans s4
    obtain ⟨b, hb⟩ : ∃ b, as[i]? = some b := ⟨as[i]'(by omega), List.getElem?_eq_getElem _⟩
    obtain ⟨x, o, b2, hT, th, rt⟩ := hG b (List.mem_of_getElem? hb)
    refine ⟨_, rfl, a, ns, 2, rfl, sA.seq hS, _, _, rfl, rfl, by show (0 : Int) < 35; decide, p, _, _, .ref b, rfl, rfl, SqL.of hP, at_of ei (by rw [List.getElem?_map, hb] <;> rfl), ?_⟩
    refine ⟨b, _, rfl, SqT.of hT, rfl, _, _, rfl, _, _, rfl, _, _, rfl, rfl, ?_⟩
    refine ⟨_, rfl, x, o, rfl, th, _, rfl, x, b2, rfl, rt, by show 2 ≤ sizeLine; decide, fun l hl' => ?_⟩
    refine ⟨_, rfl, _, rfl, _, rfl, by show 2 ≤ sizeLine; decide, fun l2 hl2 => ?_⟩
    have hl3 := (Same.new (o := .lst [.bl (among o 0 999982), .bl b2]) hl2) _ _ (upd_same (H := H4) (a := l) (o := .lst [.bl (among o 0 999982), .bl b2]))
    have sh : Sh 1 (.list [.bool (among o 0 999982), .bool b2]) := .lst fun d hd => by
      simp only [List.mem_cons, List.not_mem_nil, or_false] at hd
      rcases hd with rfl | rfl
      · exact .bl _
      · exact .bl _
    refine ⟨.list [.bool (among o 0 999982), .bool b2], .list [.bool (among o 0 999982), .bool b2], .lst (SqL.of hl3) (.cons (.bl _) (.cons (.bl _) .nil)), .lst (SqL.of upd_same) (.cons (.bl _) (.cons (.bl _) .nil)), sh.shaped (by decide), sh.shaped (by decide), _, rfl, ?_⟩
    rw [sh.refl]
    refine iteT ?_
    refine ⟨_, rfl, l, _, _, .bl _, rfl, rfl, SqL.of hl3, atI_nat (j := 0) rfl, .bl _, _, _, _, true, rfl, .ty "bool", .base (.bl _), kit_ty (by decide +kernel), true, rfl, iteT ?_⟩
    exact ⟨_, rfl, l, _, _, .bl _, rfl, rfl, SqL.of hl3, atI_nat (j := 1) rfl, .bl _, _, _, _, true, rfl, .ty "bool", .base (.bl _), kit_ty (by decide +kernel), k _⟩

end
theorem all_mk {l : PySem.W.OpenLaw} {w : World} {K : PySem.W.Frag} {h : Heap} {mg : Str → Option Value} {fa : Addr} (X : K.In h) (G : h.Ns mainGlobals mg) (hfa : mg "law" = some (.ref fa))
    {oc_is_among kV_is_among dc_is_among pm_is_among cd_is_among ct_is_among : Value} {od_is_among an_is_among : Option Addr} {sl_is_among : Array (Option Value)} {f_is_among : Addr}
    {oc_is_state kV_is_state dc_is_state pm_is_state cd_is_state ct_is_state : Value} {od_is_state an_is_state : Option Addr} {sl_is_state : Array (Option Value)} {f_is_state : Addr}
    {oc_is_rule kV_is_rule dc_is_rule pm_is_rule cd_is_rule ct_is_rule : Value} {od_is_rule an_is_rule : Option Addr} {sl_is_rule : Array (Option Value)} {f_is_rule : Addr}
    {oc_forth kV_forth dc_forth pm_forth cd_forth ct_forth : Value} {od_forth an_forth : Option Addr} {sl_forth : Array (Option Value)} {f_forth : Addr}
    {oc_l_cell_at kV_l_cell_at dc_l_cell_at pm_l_cell_at cd_l_cell_at ct_l_cell_at : Value} {od_l_cell_at an_l_cell_at : Option Addr} {sl_l_cell_at : Array (Option Value)} {f_l_cell_at : Addr}
    {oc_l_number kV_l_number dc_l_number pm_l_number cd_l_number ct_l_number : Value} {od_l_number an_l_number : Option Addr} {sl_l_number : Array (Option Value)} {f_l_number : Addr}
    {oc_l_whole kV_l_whole dc_l_whole pm_l_whole cd_l_whole ct_l_whole : Value} {od_l_whole an_l_whole : Option Addr} {sl_l_whole : Array (Option Value)} {f_l_whole : Addr}
    {oc_l_rule kV_l_rule dc_l_rule pm_l_rule cd_l_rule ct_l_rule : Value} {od_l_rule an_l_rule : Option Addr} {sl_l_rule : Array (Option Value)} {f_l_rule : Addr}
    {oc_l_forth kV_l_forth dc_l_forth pm_l_forth cd_l_forth ct_l_forth : Value} {od_l_forth an_l_forth : Option Addr} {sl_l_forth : Array (Option Value)} {f_l_forth : Addr}
    {oc_l_things kV_l_things dc_l_things pm_l_things cd_l_things ct_l_things : Value} {od_l_things an_l_things : Option Addr} {sl_l_things : Array (Option Value)} {f_l_things : Addr}
    {oc_law kV_law dc_law pm_law cd_law ct_law : Value} {od_law an_law : Option Addr} {sl_law : Array (Option Value)} {f_law : Addr}
    {t_MODULUS : Tok}
    (a_is_among : PySem.W.nsIn K mainGlobals "is_among" = some (some (.ref f_is_among)))
    (l_is_among : K.lookup f_is_among = some ⟨oc_is_among, od_is_among, .func (PySem.W.fnOf "is_among" "is_among" (defArgs s_is_among) (defBody s_is_among) (defScope s_is_among) .none kV_is_among dc_is_among pm_is_among an_is_among cd_is_among ct_is_among), sl_is_among⟩)
    (c_is_among : PySem.W.codeIn K cd_is_among "is_among" = true)
    (k_is_among : PySem.W.keepIn K (.ref f_is_among) = true)
    (a_is_state : PySem.W.nsIn K mainGlobals "is_state" = some (some (.ref f_is_state)))
    (l_is_state : K.lookup f_is_state = some ⟨oc_is_state, od_is_state, .func (PySem.W.fnOf "is_state" "is_state" (defArgs s_is_state) (defBody s_is_state) (defScope s_is_state) .none kV_is_state dc_is_state pm_is_state an_is_state cd_is_state ct_is_state), sl_is_state⟩)
    (c_is_state : PySem.W.codeIn K cd_is_state "is_state" = true)
    (k_is_state : PySem.W.keepIn K (.ref f_is_state) = true)
    (a_is_rule : PySem.W.nsIn K mainGlobals "is_rule" = some (some (.ref f_is_rule)))
    (l_is_rule : K.lookup f_is_rule = some ⟨oc_is_rule, od_is_rule, .func (PySem.W.fnOf "is_rule" "is_rule" (defArgs s_is_rule) (defBody s_is_rule) (defScope s_is_rule) .none kV_is_rule dc_is_rule pm_is_rule an_is_rule cd_is_rule ct_is_rule), sl_is_rule⟩)
    (c_is_rule : PySem.W.codeIn K cd_is_rule "is_rule" = true)
    (k_is_rule : PySem.W.keepIn K (.ref f_is_rule) = true)
    (a_forth : PySem.W.nsIn K mainGlobals "forth" = some (some (.ref f_forth)))
    (l_forth : K.lookup f_forth = some ⟨oc_forth, od_forth, .func (PySem.W.fnOf "forth" "forth" (defArgs s_forth) (defBody s_forth) (defScope s_forth) .none kV_forth dc_forth pm_forth an_forth cd_forth ct_forth), sl_forth⟩)
    (c_forth : PySem.W.codeIn K cd_forth "forth" = true)
    (k_forth : PySem.W.keepIn K (.ref f_forth) = true)
    (a_l_cell_at : PySem.W.nsIn K mainGlobals "_law_cell_at" = some (some (.ref f_l_cell_at)))
    (l_l_cell_at : K.lookup f_l_cell_at = some ⟨oc_l_cell_at, od_l_cell_at, .func (PySem.W.fnOf "_law_cell_at" "_law_cell_at" (defArgs s_l_cell_at) (defBody s_l_cell_at) (defScope s_l_cell_at) .none kV_l_cell_at dc_l_cell_at pm_l_cell_at an_l_cell_at cd_l_cell_at ct_l_cell_at), sl_l_cell_at⟩)
    (c_l_cell_at : PySem.W.codeIn K cd_l_cell_at "_law_cell_at" = true)
    (k_l_cell_at : PySem.W.keepIn K (.ref f_l_cell_at) = true)
    (a_l_number : PySem.W.nsIn K mainGlobals "_law_number" = some (some (.ref f_l_number)))
    (l_l_number : K.lookup f_l_number = some ⟨oc_l_number, od_l_number, .func (PySem.W.fnOf "_law_number" "_law_number" (defArgs s_l_number) (defBody s_l_number) (defScope s_l_number) .none kV_l_number dc_l_number pm_l_number an_l_number cd_l_number ct_l_number), sl_l_number⟩)
    (c_l_number : PySem.W.codeIn K cd_l_number "_law_number" = true)
    (k_l_number : PySem.W.keepIn K (.ref f_l_number) = true)
    (a_l_whole : PySem.W.nsIn K mainGlobals "_law_whole" = some (some (.ref f_l_whole)))
    (l_l_whole : K.lookup f_l_whole = some ⟨oc_l_whole, od_l_whole, .func (PySem.W.fnOf "_law_whole" "_law_whole" (defArgs s_l_whole) (defBody s_l_whole) (defScope s_l_whole) .none kV_l_whole dc_l_whole pm_l_whole an_l_whole cd_l_whole ct_l_whole), sl_l_whole⟩)
    (c_l_whole : PySem.W.codeIn K cd_l_whole "_law_whole" = true)
    (k_l_whole : PySem.W.keepIn K (.ref f_l_whole) = true)
    (a_l_rule : PySem.W.nsIn K mainGlobals "_law_rule" = some (some (.ref f_l_rule)))
    (l_l_rule : K.lookup f_l_rule = some ⟨oc_l_rule, od_l_rule, .func (PySem.W.fnOf "_law_rule" "_law_rule" (defArgs s_l_rule) (defBody s_l_rule) (defScope s_l_rule) .none kV_l_rule dc_l_rule pm_l_rule an_l_rule cd_l_rule ct_l_rule), sl_l_rule⟩)
    (c_l_rule : PySem.W.codeIn K cd_l_rule "_law_rule" = true)
    (k_l_rule : PySem.W.keepIn K (.ref f_l_rule) = true)
    (a_l_forth : PySem.W.nsIn K mainGlobals "_law_forth" = some (some (.ref f_l_forth)))
    (l_l_forth : K.lookup f_l_forth = some ⟨oc_l_forth, od_l_forth, .func (PySem.W.fnOf "_law_forth" "_law_forth" (defArgs s_l_forth) (defBody s_l_forth) (defScope s_l_forth) .none kV_l_forth dc_l_forth pm_l_forth an_l_forth cd_l_forth ct_l_forth), sl_l_forth⟩)
    (c_l_forth : PySem.W.codeIn K cd_l_forth "_law_forth" = true)
    (k_l_forth : PySem.W.keepIn K (.ref f_l_forth) = true)
    (a_l_things : PySem.W.nsIn K mainGlobals "_law_things" = some (some (.ref f_l_things)))
    (l_l_things : K.lookup f_l_things = some ⟨oc_l_things, od_l_things, .func (PySem.W.fnOf "_law_things" "_law_things" (defArgs s_l_things) (defBody s_l_things) (defScope s_l_things) .none kV_l_things dc_l_things pm_l_things an_l_things cd_l_things ct_l_things), sl_l_things⟩)
    (c_l_things : PySem.W.codeIn K cd_l_things "_law_things" = true)
    (k_l_things : PySem.W.keepIn K (.ref f_l_things) = true)
    (a_law : PySem.W.nsIn K mainGlobals "law" = some (some (.ref f_law)))
    (l_law : K.lookup f_law = some ⟨oc_law, od_law, .func (PySem.W.fnOf "law" "law" (defArgs s_law) (defBody s_law) (defScope s_law) .none kV_law dc_law pm_law an_law cd_law ct_law), sl_law⟩)
    (c_law : PySem.W.codeIn K cd_law "law" = true)
    (k_law : PySem.W.keepIn K (.ref f_law) = true)
    (v_MODULUS : PySem.W.nsIn K mainGlobals "MODULUS" = some (some (.int 999983 t_MODULUS)))
    (z_isinstance : PySem.W.nsIn K mainGlobals "isinstance" = some none)
    (z_bool : PySem.W.nsIn K mainGlobals "bool" = some none)
    (z_int : PySem.W.nsIn K mainGlobals "int" = some none)
    (z_str : PySem.W.nsIn K mainGlobals "str" = some none)
    (z_len : PySem.W.nsIn K mainGlobals "len" = some none)
    (z_tuple : PySem.W.nsIn K mainGlobals "tuple" = some none) :
    ∃ fd : FuncData, (∀ (s : Shared) (v : Value), BindsTo s fd ⟨[v], []⟩ [("_law_script", v)]) ∧ ∀ base : Heap, K.In base → base.Ns mainGlobals mg → FnOk l.prog w K mg base (L2.CX l.prog w) 4 fa fd ["_law_script"] (sp_law K) := by
  have e := hfa.symm.trans (PySem.W.mg_of X G a_law)
  cases e
  have T : Txt K mg := {
    d_is_among := ⟨_, _, PySem.W.mg_of X G a_is_among, fun_mk (st := s_is_among) l_is_among c_is_among k_is_among, (fun_mk (st := s_is_among) l_is_among c_is_among k_is_among).binds (ps := ["thing", "low", "high"]) fun _ _ _ _ _ _ us hl => match us, hl with | [_, _, _], _ => rfl⟩,
    d_is_state := ⟨_, _, PySem.W.mg_of X G a_is_state, fun_mk (st := s_is_state) l_is_state c_is_state k_is_state, (fun_mk (st := s_is_state) l_is_state c_is_state k_is_state).binds (ps := ["thing"]) fun _ _ _ _ _ _ us hl => match us, hl with | [_], _ => rfl⟩,
    d_is_rule := ⟨_, _, PySem.W.mg_of X G a_is_rule, fun_mk (st := s_is_rule) l_is_rule c_is_rule k_is_rule, (fun_mk (st := s_is_rule) l_is_rule c_is_rule k_is_rule).binds (ps := ["thing"]) fun _ _ _ _ _ _ us hl => match us, hl with | [_], _ => rfl⟩,
    d_forth := ⟨_, _, PySem.W.mg_of X G a_forth, fun_mk (st := s_forth) l_forth c_forth k_forth, (fun_mk (st := s_forth) l_forth c_forth k_forth).binds (ps := ["rule", "state"]) fun _ _ _ _ _ _ us hl => match us, hl with | [_, _], _ => rfl⟩,
    d_l_cell_at := ⟨_, _, PySem.W.mg_of X G a_l_cell_at, fun_mk (st := s_l_cell_at) l_l_cell_at c_l_cell_at k_l_cell_at, (fun_mk (st := s_l_cell_at) l_l_cell_at c_l_cell_at k_l_cell_at).binds (ps := ["_law_script", "_law_k"]) fun _ _ _ _ _ _ us hl => match us, hl with | [_, _], _ => rfl⟩,
    d_l_number := ⟨_, _, PySem.W.mg_of X G a_l_number, fun_mk (st := s_l_number) l_l_number c_l_number k_l_number, (fun_mk (st := s_l_number) l_l_number c_l_number k_l_number).binds (ps := ["_law_script", "_law_k"]) fun _ _ _ _ _ _ us hl => match us, hl with | [_, _], _ => rfl⟩,
    d_l_whole := ⟨_, _, PySem.W.mg_of X G a_l_whole, fun_mk (st := s_l_whole) l_l_whole c_l_whole k_l_whole, (fun_mk (st := s_l_whole) l_l_whole c_l_whole k_l_whole).binds (ps := ["_law_found"]) fun _ _ _ _ _ _ us hl => match us, hl with | [_], _ => rfl⟩,
    d_l_rule := ⟨_, _, PySem.W.mg_of X G a_l_rule, fun_mk (st := s_l_rule) l_l_rule c_l_rule k_l_rule, (fun_mk (st := s_l_rule) l_l_rule c_l_rule k_l_rule).binds (ps := ["_law_number_here"]) fun _ _ _ _ _ _ us hl => match us, hl with | [_], _ => rfl⟩,
    d_l_forth := ⟨_, _, PySem.W.mg_of X G a_l_forth, fun_mk (st := s_l_forth) l_l_forth c_l_forth k_l_forth, (fun_mk (st := s_l_forth) l_l_forth c_l_forth k_l_forth).binds (ps := ["_law_rule_here", "_law_state"]) fun _ _ _ _ _ _ us hl => match us, hl with | [_, _], _ => rfl⟩,
    d_l_things := ⟨_, _, PySem.W.mg_of X G a_l_things, fun_mk (st := s_l_things) l_l_things c_l_things k_l_things, (fun_mk (st := s_l_things) l_l_things c_l_things k_l_things).binds (ps := []) fun _ _ _ _ _ _ us hl => match us, hl with | [], _ => rfl⟩,
    d_law := ⟨_, _, PySem.W.mg_of X G a_law, fun_mk (st := s_law) l_law c_law k_law, (fun_mk (st := s_law) l_law c_law k_law).binds (ps := ["_law_script"]) fun _ _ _ _ _ _ us hl => match us, hl with | [_], _ => rfl⟩,
    c_MODULUS := ⟨_, PySem.W.mg_of X G v_MODULUS⟩,
    n_isinstance := PySem.W.mg_none_of X G z_isinstance,
    n_bool := PySem.W.mg_none_of X G z_bool,
    n_int := PySem.W.mg_none_of X G z_int,
    n_str := PySem.W.mg_none_of X G z_str,
    n_len := PySem.W.mg_none_of X G z_len,
    n_tuple := PySem.W.mg_none_of X G z_tuple }
  refine ⟨PySem.W.fnOf "law" "law" (defArgs s_law) (defBody s_law) (defScope s_law) .none kV_law dc_law pm_law an_law cd_law ct_law, fun s v => .of_eq rfl, fun base _ _ => ?_⟩
  exact ok_law_at T (fun_mk (st := s_law) l_law c_law k_law)
theorem walk {l : PySem.W.OpenLaw} {q : Program} {loose : List Str} {XP : (Str → Option Value) → Heap → Prop} {YP : World → Heap → Prop} {d : DefRec} {K : Params → PySem.W.Frag} (hn : l.most = some 63) (hdf : d.params.defaults = [])
    (hY : ∀ (w : World) (h : Heap), YP w h → (K w.params).In h)
    (F : ∀ (w : World) (mg : Str → Option Value) (fa : Addr) (h : Heap), (K w.params).In h → h.Ns mainGlobals mg → mg d.name = some (.ref fa) →
      ∃ fd : FuncData, (∀ (s : Shared) (u : Value), BindsTo s fd ⟨[u], []⟩ [("_law_script", u)]) ∧ ∀ base : Heap, (K w.params).In base → base.Ns mainGlobals mg → FnOk l.prog w (K w.params) mg base (L2.CX l.prog w) 4 fa fd ["_law_script"] (sp_law (K w.params))) :
    PySem.W.WalkO q loose XP YP l.row.toRowW d [] (fun f vs => PySem.call f vs) :=
  L2.walk_of (n := 63) (k := 4) (x := "_law_script") (CX := fun w => L2.CX l.prog w) (sp := fun w => sp_law (K w.params)) hn (by decide) hdf ⟨rfl, by decide, by decide⟩ hY F (fun _ _ _ _ hl _ hS => law_true hS hl) fun _ _ _ _ _ z => cx0_no z
end BM
open PySem PySem.W PyProof.Rows
set_option maxRecDepth 100000 in
set_option maxHeartbeats 0 in
theorem PySem.Challenge.cw_backmarks_k01_one_step_holds : PySem.Challenge.rw_backmarks_k01_one_step.Holds := by
  w_on; o_law; k_head; (case hw => w_witness2)
  k_fill
  refine BM.walk (l := PySem.Challenge.rw_backmarks_k01_one_step) rfl rfl (fun w h Y => PySem.W.kIn_of Y) ?F
  case F =>
    intro w mg fa h KX G hmg
    refine' BM.all_mk (l := PySem.Challenge.rw_backmarks_k01_one_step) KX G hmg ?a_is_among ?l_is_among ?c_is_among ?k_is_among ?a_is_state ?l_is_state ?c_is_state ?k_is_state ?a_is_rule ?l_is_rule ?c_is_rule ?k_is_rule ?a_forth ?l_forth ?c_forth ?k_forth ?a_l_cell_at ?l_l_cell_at ?c_l_cell_at ?k_l_cell_at ?a_l_number ?l_l_number ?c_l_number ?k_l_number ?a_l_whole ?l_l_whole ?c_l_whole ?k_l_whole ?a_l_rule ?l_l_rule ?c_l_rule ?k_l_rule ?a_l_forth ?l_l_forth ?c_l_forth ?k_l_forth ?a_l_things ?l_l_things ?c_l_things ?k_l_things ?a_law ?l_law ?c_law ?k_law ?v_MODULUS ?z_isinstance ?z_bool ?z_int ?z_str ?z_len ?z_tuple
    (case a_is_among => k_is)
    (case l_is_among => k_is)
    (case c_is_among => k_is)
    (case k_is_among => k_is)
    (case a_is_state => k_is)
    (case l_is_state => k_is)
    (case c_is_state => k_is)
    (case k_is_state => k_is)
    (case a_is_rule => k_is)
    (case l_is_rule => k_is)
    (case c_is_rule => k_is)
    (case k_is_rule => k_is)
    (case a_forth => k_is)
    (case l_forth => k_is)
    (case c_forth => k_is)
    (case k_forth => k_is)
    (case a_l_cell_at => k_is)
    (case l_l_cell_at => k_is)
    (case c_l_cell_at => k_is)
    (case k_l_cell_at => k_is)
    (case a_l_number => k_is)
    (case l_l_number => k_is)
    (case c_l_number => k_is)
    (case k_l_number => k_is)
    (case a_l_whole => k_is)
    (case l_l_whole => k_is)
    (case c_l_whole => k_is)
    (case k_l_whole => k_is)
    (case a_l_rule => k_is)
    (case l_l_rule => k_is)
    (case c_l_rule => k_is)
    (case k_l_rule => k_is)
    (case a_l_forth => k_is)
    (case l_l_forth => k_is)
    (case c_l_forth => k_is)
    (case k_l_forth => k_is)
    (case a_l_things => k_is)
    (case l_l_things => k_is)
    (case c_l_things => k_is)
    (case k_l_things => k_is)
    (case a_law => k_is)
    (case l_law => k_is)
    (case c_law => k_is)
    (case k_law => k_is)
    (case v_MODULUS => k_is)
    (case z_isinstance => k_is)
    (case z_bool => k_is)
    (case z_int => k_is)
    (case z_str => k_is)
    (case z_len => k_is)
    (case z_tuple => k_is)
#print axioms PySem.Challenge.cw_backmarks_k01_one_step_holds
