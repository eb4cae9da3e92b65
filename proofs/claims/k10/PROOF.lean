import PyProof.Rows.All
import Wide.All
import OpenK.AllK
import Wide.FinOn
import PyProof.EqAt
import PyProof.EqKinds
import PyProof.TupleCall
import HandS.ForMost
import HandS.Exc
import HandS.TryOnly
import HandS.ExcOwn
import HandS.WordsExc
import HandS.IsInst
import HandS.ExcIs
import HandS.Evl
import HandS.HotCalls
import HandS.Deep
import HandS.Style
import HandS.Rev
import PySem.Challenge.RW_backmarks_k10_whole_drawn_deeds
set_option Elab.async false
set_option linter.all false
set_option maxRecDepth 100000
set_option maxHeartbeats 4000000
/-! ## Common words: a def as it stands, what it promises, an error class, things that are whole numbers or not -/
namespace BM
open PySem PySem.Spec PyProof.Rows L2

/-- the def named x of the module's top -/
def Def (K : PySem.W.Frag) (mg : Str → Option Value) (x qual : Str) (st : Stmt) (ps : List Str) : Prop :=
  ∃ (f : Addr) (fd : FuncData), mg x = some (.ref f) ∧ Fun K x qual st f fd ∧ Binds K fd ps []
/-- it keeps its promise -/
def OkF (P : Program) (w : World) (K : PySem.W.Frag) (mg : Str → Option Value) (base : Heap) (x : Str) (k : Nat) (ps : List Str) (sp : Sp) : Prop :=
  ∃ (f : Addr) (fd : FuncData), mg x = some (.ref f) ∧ PySem.W.keepIn K (.ref f) = true ∧ Binds K fd ps [] ∧ FnOk P w K mg base (L2.CX P w) k f fd ps sp
/-- a class of the program's own errors, without a body of its own -/
structure XC (K : PySem.W.Frag) (mg : Str → Option Value) (n : Str) (C : Addr) : Prop where
  g : mg n = some (.ref C)
  x : PySem.W.excIn K C [.type "ValueError", .type "Exception", .type "BaseException", .type "object"] "ValueError.__new__" = true
  k : PySem.W.keepIn K (.ref C) = true
  b : PySem.W.subIn K (.ref C) (.type "BaseException") = some true
  t : PySem.W.typeIn K (.ref C) = some (.type "type")
section
variable {P : Program} {w : World} {K : PySem.W.Frag} {mg : Str → Option Value} {base : Heap}
theorem okf {x qual : Str} {st : Stmt} {N ps : List Str} {k : Nat} {sp : Sp} (D : Def K mg x qual st ps) (S : FnScope N ps (defScope st)) (len : ∀ vs H Q E, sp vs H Q E → vs.length = ps.length)
    (hbody : ∀ (f : Addr) (cdv : Value) (A : Around) (outer : List Env) (s : Shared) (H : Hp) (vs : List V) (Q : VK) (E : XK), Room k (A.deeper (envOfC qual (defScope st) s.heap.objs.size f cdv)) → sp vs H Q E →
      ∃ t, PSs (cxOf (L2.CX P w) P w K mg base N qual (defScope st) f cdv A outer s H E) (defBody st) t ∧ t { nx := fun _ H' => Q .non H', rt := Q } (start N vs) H) : OkF P w K mg base x (k + 1) ps sp := by
  obtain ⟨f, fd, hm, F, hb⟩ := D
  exact ⟨f, fd, hm, F.kp, hb, F.okX S len (fun cdv A outer s H vs Q E hr h => hbody f cdv A outer s H vs Q E hr h)⟩
theorem OkF.mono {x : Str} {j k : Nat} {ps : List Str} {sp : Sp} (F : OkF P w K mg base x j ps sp) (h : j ≤ k) : OkF P w K mg base x k ps sp := by
  obtain ⟨f, fd, hm, hk, hb, G⟩ := F
  exact ⟨f, fd, hm, hk, hb, G.mono h⟩
end
/-- a method, an __init__ of the class at C -/
def DefM (K : PySem.W.Frag) (C : Addr) (m qual : Str) (st : Stmt) (ps : List Str) : Prop := ∃ (f : Addr) (fd : FuncData), Meth K C m f ∧ Fun K m qual st f fd ∧ Binds K fd ps []
def DefI (K : PySem.W.Frag) (C : Addr) (m qual : Str) (st : Stmt) (ps : List Str) : Prop := ∃ (f : Addr) (fd : FuncData), Mk K C f ∧ Fun K m qual st f fd ∧ Binds K fd ps []
def OkM (P : Program) (w : World) (K : PySem.W.Frag) (mg : Str → Option Value) (base : Heap) (C : Addr) (m : Str) (k : Nat) (ps : List Str) (sp : Sp) : Prop :=
  ∃ (f : Addr) (fd : FuncData), Meth K C m f ∧ Binds K fd ps [] ∧ FnOk P w K mg base (L2.CX P w) k f fd ps sp
def OkI (P : Program) (w : World) (K : PySem.W.Frag) (mg : Str → Option Value) (base : Heap) (C : Addr) (m : Str) (k : Nat) (ps : List Str) (sp : Sp) : Prop :=
  ∃ (f : Addr) (fd : FuncData), Mk K C f ∧ Binds K fd ps [] ∧ FnOk P w K mg base (L2.CX P w) k f fd ps sp
section
variable {P : Program} {w : World} {K : PySem.W.Frag} {mg : Str → Option Value} {base : Heap}
theorem okm {C : Addr} {m qual : Str} {st : Stmt} {N ps : List Str} {k : Nat} {sp : Sp} (D : DefM K C m qual st ps) (S : FnScope N ps (defScope st)) (len : ∀ vs H Q E, sp vs H Q E → vs.length = ps.length)
    (hbody : ∀ (f : Addr) (cdv : Value) (A : Around) (outer : List Env) (s : Shared) (H : Hp) (vs : List V) (Q : VK) (E : XK), Room k (A.deeper (envOfC qual (defScope st) s.heap.objs.size f cdv)) → sp vs H Q E →
      ∃ t, PSs (cxOf (L2.CX P w) P w K mg base N qual (defScope st) f cdv A outer s H E) (defBody st) t ∧ t { nx := fun _ H' => Q .non H', rt := Q } (start N vs) H) : OkM P w K mg base C m (k + 1) ps sp := by
  obtain ⟨f, fd, hm, F, hb⟩ := D
  exact ⟨f, fd, hm, hb, F.okX S len (fun cdv A outer s H vs Q E hr h => hbody f cdv A outer s H vs Q E hr h)⟩
theorem oki {C : Addr} {m qual : Str} {st : Stmt} {N ps : List Str} {k : Nat} {sp : Sp} (D : DefI K C m qual st ps) (S : FnScope N ps (defScope st)) (len : ∀ vs H Q E, sp vs H Q E → vs.length = ps.length)
    (hbody : ∀ (f : Addr) (cdv : Value) (A : Around) (outer : List Env) (s : Shared) (H : Hp) (vs : List V) (Q : VK) (E : XK), Room k (A.deeper (envOfC qual (defScope st) s.heap.objs.size f cdv)) → sp vs H Q E →
      ∃ t, PSs (cxOf (L2.CX P w) P w K mg base N qual (defScope st) f cdv A outer s H E) (defBody st) t ∧ t { nx := fun _ H' => Q .non H', rt := Q } (start N vs) H) : OkI P w K mg base C m (k + 1) ps sp := by
  obtain ⟨f, fd, hm, F, hb⟩ := D
  exact ⟨f, fd, hm, hb, F.okX S len (fun cdv A outer s H vs Q E hr h => hbody f cdv A outer s H vs Q E hr h)⟩
end
/-- a thing, and the whole number that it is (no truth value is one) -/
inductive Thg (K : PySem.W.Frag) (H : Hp) : V → Option Int → Prop where
  | int (i : Int) : Thg K H (.int i) (some i)
  | bl (b : Bool) : Thg K H (.bl b) none
  | oth {x : V} {t : Value} (ty : TyX K H x t) (ni : PySem.W.kitOne K t (.type "int") = some false) : Thg K H x none
theorem Thg.non {K : PySem.W.Frag} {H : Hp} : Thg K H .non none := .oth (.base .non) (kit_ty (by decide +kernel))
theorem Thg.str {K : PySem.W.Frag} {H : Hp} (x : Str) : Thg K H (.str x) none := .oth (.base (.str x)) (kit_ty (by decide +kernel))
theorem Thg.lst {K : PySem.W.Frag} {H : Hp} {a : Addr} {xs : List V} (e : H a = some (.lst xs)) : Thg K H (.ref a) none := .oth (.base (.lst e)) (kit_ty (by decide +kernel))
theorem Thg.tup {K : PySem.W.Frag} {H : Hp} {a : Addr} {xs : List V} (e : H a = some (.tup xs)) : Thg K H (.ref a) none := .oth (.base (.tup e)) (kit_ty (by decide +kernel))
theorem Thg.dK {K : PySem.W.Frag} {H : Hp} {a : Addr} {xs : List (Key × V)} (e : H a = some (.dK xs)) : Thg K H (.ref a) none := .oth (.base (.dK e)) (kit_ty (by decide +kernel))
theorem tyOf_same {K : PySem.W.Frag} {H H' : Hp} {x : V} {t : Value} (e : Same H H') (h : TyOf K H x t) : TyOf K H' x t := by
  cases h with
  | non => exact .non
  | bl b => exact .bl b
  | int i => exact .int i
  | str z => exact .str z
  | flt z => exact .flt z
  | lst q => exact .lst (e _ _ q)
  | frz q => exact .frz (e _ _ q)
  | tup q => exact .tup (e _ _ q)
  | dK q => exact .dK (e _ _ q)
  | dT q => exact .dT (e _ _ q)
  | ins q cl ha hn htk hm => exact .ins (e _ _ q) cl ha hn htk hm
theorem tyX_same {K : PySem.W.Frag} {H H' : Hp} {x : V} {t : Value} (e : Same H H') (h : TyX K H x t) : TyX K H' x t := by
  cases h with
  | base b => exact .base (tyOf_same e b)
  | byt b => exact .byt b
  | set q => exact .set (e _ _ q)
  | kList q c => exact .kList q c
  | kTuple q c => exact .kTuple q c
  | kDict q c => exact .kDict q c
  | fTuple q => exact .fTuple (e _ _ q)
  | fDict q => exact .fDict (e _ _ q)
theorem Thg.same {K : PySem.W.Frag} {H H' : Hp} {x : V} {o : Option Int} (e : Same H H') (h : Thg K H x o) : Thg K H' x o := by
  cases h with
  | int i => exact .int i
  | bl b => exact .bl b
  | oth ty ni => exact .oth (tyX_same e ty) ni
theorem pick {α : Type} {P : α → Prop} {xs : List α} (h : ∀ x ∈ xs, P x) {j : Nat} (hj : j < xs.length) : ∃ x, xs[j]? = some x ∧ P x := ⟨xs[j], List.getElem?_eq_getElem hj, h _ (List.getElem_mem hj)⟩
def among (o : Option Int) (lo hi : Int) : Bool := match o with
  | some i => decide (lo ≤ i) && decide (i ≤ hi)
  | none => false
def whole (o : Option Int) : Bool := o.isSome
/-- a new list, a new tuple: what stood stands, and it is there -/
def RetL (H : Hp) (xs : List V) (Q : VK) : Prop := ∀ p H', H p = none → Same H H' → H' p = some (.lst xs) → Q (.ref p) H'
def RetT (H : Hp) (xs : List V) (Q : VK) : Prop := ∀ p H', H p = none → Same H H' → H' p = some (.tup xs) → Q (.ref p) H'
theorem Same.new {H : Hp} {p : Addr} {o : HO} (h : H p = none) : Same H (upd H p o) := fun a u e => by
  rw [upd_ne (ne_of_none e h)]
  exact e
theorem new_at {H : Hp} {p : Addr} {o : HO} (_ : H p = none) : upd H p o p = some o := upd_same
theorem Same.mut {H H' : Hp} {p : Addr} {o : HO} (e : Same H H') (h : H p = none) : Same H (upd H' p o) := fun a u ha => by
  rw [upd_ne (ne_of_none ha h)]
  exact e a u ha
theorem get_map {α β : Type} {f : α → β} {xs : List α} {i : Nat} {y : β} (h : (xs.map f)[i]? = some y) : ∃ x, xs[i]? = some x ∧ y = f x := by
  rw [List.getElem?_map] at h
  cases e : xs[i]? with
  | none =>
    rw [e] at h
    cases h
  | some x =>
    rw [e] at h
    exact ⟨x, rfl, (Option.some.inj h).symm⟩
theorem take_succ {α : Type} {l : List α} {i : Nat} {x : α} (h : l[i]? = some x) : l.take (i + 1) = l.take i ++ [x] := by
  rw [List.take_add_one, h] <;> rfl
theorem at_map {xs : List Int} {z : Int} {j : Nat} {v : Int} (e : z = (j : Int)) (h : xs[j]? = some v) : atI (xs.map V.int) z = some (V.int v) := by
  rw [e]
  refine atI_nat ?_
  rw [List.getElem?_map, h] <;> rfl
theorem sz5 {n : Nat} (h : n ≤ 100000) : n ≤ sizeLine := Nat.le_trans h (by decide)
theorem sz5' {n : Nat} (h : n < 100000) : n < sizeLine := Nat.lt_of_lt_of_le h (by decide)
theorem cx0_no {P : Program} {w : World} {H : Hp} {s : Shared} {e : Value} {s' : Shared} (h : L2.CX P w [] H s (fun _ _ _ => False) e s') : False := by
  obtain ⟨_, _, _, _, _, _, _, _, _, _, _, _, z⟩ := h
  exact z.elim
/-- the law's: a list of at most 63 whole numbers is handed in, True comes out -/
def sp_law (K : PySem.W.Frag) : Sp := fun vs H Q _ => ∃ (a : Addr) (ns : List Int), vs = [.ref a] ∧ SqL K H a (ns.map V.int) ∧ ns.length ≤ 63 ∧ ∀ H', Q (.bl true) H'
theorem law_true {K : PySem.W.Frag} {H : Hp} {a : Addr} {ns : List Int} (hS : SqL K H a (ns.map V.int)) (hl : ns.length ≤ 63) : sp_law K [.ref a] H (fun v _ => v = .bl true) (fun _ _ _ => False) := ⟨a, ns, rfl, hS, hl, fun _ => rfl⟩
/-- a remainder as a natural number -/
theorem rem_nat {z m : Int} (hm : 0 < m) : ∃ s : Nat, (s : Int) < m ∧ z % m = (s : Int) := by
  have h1 := Int.emod_nonneg z (show m ≠ 0 by omega)
  have h2 := Int.emod_lt_of_pos z hm
  exact ⟨(z % m).toNat, by omega, by omega⟩
end BM

/-! ## Data that is compared -/
namespace BM
open PySem PySem.Spec PyProof.Rows L2
def Sh (n : Nat) (d : PyData) : Prop := d.canLay0 = true ∧ d.depth ≤ n
theorem canAll : ∀ {ds : List PyData}, (∀ d ∈ ds, d.canLay0 = true) → PyData.canLayAll0 ds = true
  | [], _ => rfl
  | d :: r, h => by
    have h1 := h d List.mem_cons_self
    have h2 := canAll (ds := r) fun e he => h e (List.mem_cons_of_mem _ he)
    simp [PyData.canLayAll0, h1, h2]
theorem depAll {n : Nat} : ∀ {ds : List PyData}, (∀ d ∈ ds, d.depth ≤ n) → PyData.depthAll ds ≤ n
  | [], _ => by
    show 0 ≤ n
    omega
  | d :: r, h => by
    have h1 := h d List.mem_cons_self
    have h2 := depAll (ds := r) fun e he => h e (List.mem_cons_of_mem _ he)
    show max d.depth (PyData.depthAll r) ≤ n
    omega
theorem Sh.non {n : Nat} : Sh n .none := ⟨rfl, Nat.zero_le _⟩
theorem Sh.bl {n : Nat} (b : Bool) : Sh n (.bool b) := ⟨rfl, Nat.zero_le _⟩
theorem Sh.int {n : Nat} (i : Int) : Sh n (.int i) := ⟨rfl, Nat.zero_le _⟩
theorem Sh.str {n : Nat} {x : Str} (h : (PyData.str x).canLay0 = true) : Sh n (.str x) := ⟨h, Nat.zero_le _⟩
theorem Sh.lst {n : Nat} {ds : List PyData} (h : ∀ d ∈ ds, Sh n d) : Sh (n + 1) (.list ds) :=
  ⟨canAll fun d hd => (h d hd).1, by
    have := depAll fun d hd => (h d hd).2
    show PyData.depthAll ds + 1 ≤ n + 1
    omega⟩
theorem Sh.tup {n : Nat} {ds : List PyData} (h : ∀ d ∈ ds, Sh n d) : Sh (n + 1) (.tuple ds) :=
  ⟨canAll fun d hd => (h d hd).1, by
    have := depAll fun d hd => (h d hd).2
    show PyData.depthAll ds + 1 ≤ n + 1
    omega⟩
theorem Sh.shaped {n : Nat} {d : PyData} (h : Sh n d) (hn : n ≤ 64) : SeqAt.shaped d = true := by
  unfold SeqAt.shaped
  rw [h.1, Bool.true_and]
  exact decide_eq_true (Nat.le_trans h.2 hn)
theorem Sh.refl {n : Nat} {d : PyData} (h : Sh n d) : PyData.eqv d d = true := SeqAt.eqv_refl d h.1
theorem sh_ints {n : Nat} (ns : List Int) : Sh (n + 1) (.list (ns.map PyData.int)) := .lst fun d hd => by
  obtain ⟨i, _, rfl⟩ := List.mem_map.mp hd
  exact .int i
/-- values paired with data, by place -/
theorem dp_all {K : PySem.W.Frag} {H : Hp} : ∀ {vs : List V} {ds : List PyData}, vs.length = ds.length → (∀ (i : Nat) (v : V) (d : PyData), vs[i]? = some v → ds[i]? = some d → Dp K H v d) → DpAll K H vs ds
  | [], [], _, _ => .nil
  | [], _ :: _, h, _ => by simp at h
  | _ :: _, [], h, _ => by simp at h
  | v :: vs, d :: ds, h, k => .cons (k 0 v d rfl rfl) (dp_all (by simpa using h) fun i w e hw he => k (i + 1) w e hw he)
theorem dp_ints {K : PySem.W.Frag} {H : Hp} : ∀ ns : List Int, DpAll K H (ns.map V.int) (ns.map PyData.int)
  | [] => .nil
  | i :: r => .cons (.int i) (dp_ints r)
theorem atI_end {α : Type} {xs : List α} {v : α} (h : xs[xs.length - 1]? = some v) : atI xs (-1) = some v := by
  obtain ⟨hl, e⟩ := List.getElem?_eq_some_iff.mp h
  unfold atI ixN
  rw [if_neg (by decide), if_pos (by omega)]
  have e1 : ((-1 : Int) + (xs.length : Int)).toNat = xs.length - 1 := by omega
  rw [e1]
  exact h
def rListOf (K : PySem.W.Frag) : List V → Hp → VK → Prop := fun xs H Q => ∃ p ys, xs = [.ref p] ∧ (SqL K H p ys ∨ SqT K H p ys) ∧ ∀ l, H l = none → Q (.ref l) (upd H l (.lst ys))
end BM

/-! ## The tables, in plain Lean -/
namespace BM
open PySem PySem.Spec PyProof.Rows L2
def choStep (m : Nat) (f t : Nat) : Nat := f * (m - t) / (t + 1)
def choN (m c : Nat) : Nat := (List.range c).foldl (choStep m) 1
def waysN (r t : Nat) : Nat := choN (r + t) r
def oftGo (s r : Nat) : Nat → Nat → Nat
  | 0, t => t
  | n + 1, t => if waysN r t ≤ s then oftGo s r n (t + 1) else t
/-- how often -/
def oftN (s r : Nat) : Nat := oftGo s r 101 0
def costN (s r : Nat) : Int := if oftN s r = 0 then 0 else (oftN s r : Int) * ((s : Int) + 1) - (waysN (r + 1) (oftN s r - 1) : Int)
theorem choN_succ (m c : Nat) : choN m (c + 1) = choStep m (choN m c) c := by
  unfold choN
  rw [List.range_succ, List.foldl_append] <;> rfl
theorem ways_far : ∀ r, r < 14 → 1 ≤ r → 100 < waysN r 101 := by decide +kernel
theorem oftGo_le {s r : Nat} : ∀ n t, oftGo s r n t ≤ n + t
  | 0, t => by
    show t ≤ 0 + t
    omega
  | n + 1, t => by
    have h := oftGo_le (s := s) (r := r) n (t + 1)
    show (if waysN r t ≤ s then oftGo s r n (t + 1) else t) ≤ n + 1 + t
    split <;> omega
theorem oftN_le (s r : Nat) : oftN s r ≤ 101 := oftGo_le 101 0
theorem oft_yes {s r n t : Nat} (h : waysN r t ≤ s) : oftGo s r (n + 1) t = oftGo s r n (t + 1) := if_pos h
theorem oft_no {s r n t : Nat} (h : ¬ waysN r t ≤ s) : oftGo s r n t = t := by
  cases n with
  | zero => rfl
  | succ n => exact if_neg h
def goodC (o1 o2 : Option Int) : Bool := among o1 0 100 && among o2 1 12
/-- the best of the marks met so far -/
def bestStep (above found : List Int) (many : Nat) (b : Option Int) (j : Nat) : Option Int :=
  let w := ((j : Int) + 1) + above.getD (many - (j + 1)) 0 + found.getD j 0
  match b with
  | none => some w
  | some v => if w < v then some w else some v
def bestN (above found : List Int) (many : Nat) (j : Nat) : Option Int := (List.range j).foldl (bestStep above found many) none
def nextN (above : List Int) : Nat → List Int
  | 0 => [0]
  | n + 1 => nextN above n ++ [(bestN above (nextN above n) (n + 1) (n + 1)).getD 0]
theorem nextN_len (above : List Int) : ∀ n, (nextN above n).length = n + 1
  | 0 => rfl
  | n + 1 => by
    show (nextN above n ++ [_]).length = n + 1 + 1
    rw [List.length_append, nextN_len above n] <;> rfl
theorem bestN_succ (above found : List Int) (many j : Nat) : bestN above found many (j + 1) = bestStep above found many (bestN above found many j) j := by
  unfold bestN
  rw [List.range_succ, List.foldl_append] <;> rfl
theorem bestStep_some (above found : List Int) (many : Nat) (b : Option Int) (j : Nat) : ∃ v, bestStep above found many b j = some v := by
  unfold bestStep
  cases b with
  | none => exact ⟨_, rfl⟩
  | some v =>
    dsimp only
    split
    · exact ⟨_, rfl⟩
    · exact ⟨_, rfl⟩
def lineOne (n : Nat) : List Int := (List.range (n + 1)).map fun (m : Nat) => ((m : Int) * ((m : Int) + 1)) / 2
def tableN (n : Nat) : Nat → List (List Int)
  | 0 => [lineOne n]
  | r + 1 => tableN n r ++ [nextN ((tableN n r).getLastD []) n]
def oV : Option Int → V
  | none => .non
  | some i => .int i
theorem tableN_len (n : Nat) : ∀ r, (tableN n r).length = r + 1
  | 0 => rfl
  | r + 1 => by
    show (tableN n r ++ [_]).length = r + 1 + 1
    rw [List.length_append, tableN_len n r] <;> rfl
end BM
namespace BM
open PySem PySem.Spec PyProof.Rows L2
def lineK (n : Nat) : Nat → List Int
  | 0 => lineOne n
  | k + 1 => nextN (lineK n k) n
theorem lineK_len (n : Nat) : ∀ k, (lineK n k).length = n + 1
  | 0 => by
    show (lineOne n).length = n + 1
    unfold lineOne
    rw [List.length_map, List.length_range]
  | k + 1 => nextN_len _ n
/-- the rows stand at these places -/
structure Rows (H : Hp) (as : List Addr) (r : Nat) (f : Nat → List Int) : Prop where
  len : as.length = r
  at' : ∀ i a, as[i]? = some a → H a = some (.lst ((f i).map V.int))
def RetRows (H : Hp) (r : Nat) (f : Nat → List Int) (Q : VK) : Prop :=
  ∀ p as H', H p = none → (∀ a ∈ as, H a = none) → Same H H' → H' p = some (.lst (as.map V.ref)) → Rows H' as r f → Q (.ref p) H'
theorem lineOne_take (m : Nat) : (((List.range m).map fun (m : Nat) => ((m : Int) * ((m : Int) + 1)) / 2).map V.int) ++ [V.int (((m : Int) * ((m : Int) + 1)) / 2)] = ((List.range (m + 1)).map fun (m : Nat) => ((m : Int) * ((m : Int) + 1)) / 2).map V.int := by
  rw [List.range_succ, List.map_append, List.map_append] <;> rfl
end BM

/-! ## The least cost: as a greatest of straight lines -/
namespace BM
theorem ways_zero : ∀ r, r < 15 → waysN r 0 = 1 := by decide +kernel
theorem ways_nil : ∀ t, t < 104 → waysN 0 t = 1 := by decide +kernel
theorem pascal' : ((List.range 13).all fun r => (List.range 103).all fun t => waysN (r + 1) (t + 1) == waysN (r + 1) t + waysN r (t + 1)) = true := by decide +kernel
theorem pascal {r t : Nat} (hr : r < 13) (ht : t < 103) : waysN (r + 1) (t + 1) = waysN (r + 1) t + waysN r (t + 1) :=
  eq_of_beq (List.all_eq_true.mp (List.all_eq_true.mp pascal' r (List.mem_range.mpr hr)) t (List.mem_range.mpr ht))
theorem ways_pos : ∀ r t, r < 14 → t < 104 → 1 ≤ waysN r t
  | 0, t, _, ht => by rw [ways_nil t ht]; omega
  | r + 1, 0, hr, _ => by rw [ways_zero (r + 1) (by omega)]; omega
  | r + 1, t + 1, hr, ht => by
    have h := ways_pos (r + 1) t hr (by omega)
    rw [pascal (by omega) (by omega)]
    omega
theorem ways_up {r t : Nat} (hr : r < 13) (ht : t < 103) : waysN (r + 1) t < waysN (r + 1) (t + 1) := by
  have h := ways_pos r (t + 1) (by omega) (by omega)
  rw [pascal hr ht]
  omega
theorem ways_mono {r t : Nat} (h1 : 1 ≤ r) (hr : r < 14) : ∀ d, t + d < 104 → waysN r t + d ≤ waysN r (t + d)
  | 0, _ => Nat.le_refl _
  | d + 1, h => by
    have i := ways_mono (t := t) h1 hr d (by omega)
    obtain ⟨q, rfl⟩ : ∃ q, r = q + 1 := ⟨r - 1, by omega⟩
    have u := ways_up (r := q) (t := t + d) (by omega) (by omega)
    show waysN (q + 1) t + (d + 1) ≤ waysN (q + 1) (t + d + 1)
    omega
theorem ways_lt {r a b : Nat} (h1 : 1 ≤ r) (hr : r < 14) (hb : b < 104) (h : a ≤ b) : waysN r a + (b - a) ≤ waysN r b := by
  have := ways_mono (t := a) h1 hr (b - a) (by omega)
  have e : a + (b - a) = b := by omega
  rw [e] at this
  exact this
theorem ways_ge {r t : Nat} (h1 : 1 ≤ r) (hr : r < 14) (ht : t < 104) : t + 1 ≤ waysN r t := by
  have := ways_lt (a := 0) (b := t) h1 hr ht (Nat.zero_le _)
  rw [ways_zero r (by omega)] at this
  omega
theorem oftGo_spec {s r : Nat} : ∀ n t, (∀ u, u < t → waysN r u ≤ s) → (s < waysN r (n + t)) → (∀ u, u < oftGo s r n t → waysN r u ≤ s) ∧ s < waysN r (oftGo s r n t)
  | 0, t, h, hs => by
    rw [Nat.zero_add] at hs
    exact ⟨h, hs⟩
  | n + 1, t, h, hs => by
    by_cases c : waysN r t ≤ s
    · rw [oft_yes c]
      refine oftGo_spec n (t + 1) (fun u hu => ?_) (by rw [show n + (t + 1) = n + 1 + t by omega]; exact hs)
      by_cases e : u = t
      · rw [e]
        exact c
      · exact h u (by omega)
    · rw [oft_no c]
      exact ⟨h, by omega⟩
theorem oft_spec {s r : Nat} (hs : s ≤ 101) (h1 : 1 ≤ r) (hr : r < 14) : (∀ u, u < oftN s r → waysN r u ≤ s) ∧ s < waysN r (oftN s r) := by
  refine oftGo_spec 101 0 (fun u hu => by omega) ?_
  show s < waysN r 101
  have := ways_ge (t := 101) h1 hr (by omega)
  omega
theorem oft_le {s r : Nat} (hs : s ≤ 101) (h1 : 1 ≤ r) (hr : r < 14) : oftN s r ≤ s := by
  have h := (oft_spec hs h1 hr).1
  by_cases c : oftN s r ≤ s
  · exact c
  · have q := h s (by omega)
    have := ways_ge (t := s) h1 hr (by omega)
    omega
def phi (r s t : Nat) : Int := if t = 0 then 0 else (t : Int) * ((s : Int) + 1) - (waysN (r + 1) (t - 1) : Int)
theorem cost_phi (s r : Nat) : costN s r = phi r s (oftN s r) := rfl
theorem phi_step {r s t : Nat} (hr : r < 13) (ht : t < 103) : phi r s (t + 1) = phi r s t + ((s : Int) + 1) - (waysN r t : Int) := by
  cases t with
  | zero =>
    show (if (0 + 1 : Nat) = 0 then (0 : Int) else ((0 + 1 : Nat) : Int) * ((s : Int) + 1) - (waysN (r + 1) 0 : Int)) = 0 + ((s : Int) + 1) - (waysN r 0 : Int)
    rw [if_neg (by omega), ways_zero (r + 1) (by omega), ways_zero r (by omega)]
    omega
  | succ t =>
    have p := pascal (r := r) (t := t) hr (by omega)
    show (if (t + 1 + 1 : Nat) = 0 then (0 : Int) else ((t + 1 + 1 : Nat) : Int) * ((s : Int) + 1) - (waysN (r + 1) (t + 1) : Int)) = (if (t + 1 : Nat) = 0 then (0 : Int) else ((t + 1 : Nat) : Int) * ((s : Int) + 1) - (waysN (r + 1) t : Int)) + ((s : Int) + 1) - (waysN r (t + 1) : Int)
    rw [if_neg (by omega), if_neg (by omega), p]
    have e : ((t + 1 + 1 : Nat) : Int) * ((s : Int) + 1) = ((t + 1 : Nat) : Int) * ((s : Int) + 1) + ((s : Int) + 1) := by
      rw [Int.natCast_add (t + 1) 1, Int.add_mul]
      show _ + (1 : Int) * _ = _
      rw [Int.one_mul]
    rw [e, Int.natCast_add]
    omega
/-- the least cost is the greatest of the lines -/
theorem phi_le {r s t : Nat} (hs : s ≤ 101) (h1 : 1 ≤ r) (hr : r < 13) (ht : t ≤ 103) : phi r s t ≤ costN s r := by
  obtain ⟨a, b⟩ := oft_spec (s := s) (r := r) hs h1 (by omega)
  have o := oft_le (s := s) (r := r) hs h1 (by omega)
  rw [cost_phi]
  have up : ∀ d, d ≤ oftN s r → phi r s (oftN s r - d) ≤ phi r s (oftN s r) := by
    intro d
    induction d with
    | zero => intro _; exact Int.le_refl _
    | succ d ih =>
      intro hd
      have i := ih (by omega)
      have st := phi_step (r := r) (s := s) (t := oftN s r - (d + 1)) (by omega) (by omega)
      have w := a (oftN s r - (d + 1)) (by omega)
      have e : oftN s r - (d + 1) + 1 = oftN s r - d := by omega
      rw [e] at st
      omega
  have down : ∀ d, oftN s r + d ≤ 103 → phi r s (oftN s r + d) ≤ phi r s (oftN s r) := by
    intro d
    induction d with
    | zero => intro _; exact Int.le_refl _
    | succ d ih =>
      intro hd
      have i := ih (by omega)
      have st := phi_step (r := r) (s := s) (t := oftN s r + d) (by omega) (by omega)
      have w := ways_lt (r := r) (a := oftN s r) (b := oftN s r + d) h1 (by omega) (by omega) (by omega)
      rw [show oftN s r + (d + 1) = oftN s r + d + 1 by omega]
      omega
  by_cases c : t ≤ oftN s r
  · have := up (oftN s r - t) (by omega)
    rw [show oftN s r - (oftN s r - t) = t by omega] at this
    exact this
  · have := down (t - oftN s r) (by omega)
    rw [show oftN s r + (t - oftN s r) = t by omega] at this
    exact this
theorem cost_nonneg {s r : Nat} (hs : s ≤ 101) (h1 : 1 ≤ r) (hr : r < 13) : 0 ≤ costN s r := phi_le (t := 0) hs h1 hr (by omega)
/-- no mark does better -/
theorem cost_mark {s r m : Nat} (hs : s ≤ 101) (h1 : 1 ≤ r) (hr : r < 12) (hm : 1 ≤ m) (hms : m ≤ s) : costN s (r + 1) ≤ (m : Int) + costN (s - m) r + costN (m - 1) (r + 1) := by
  rw [cost_phi s (r + 1)]
  have o := oft_le (s := s) (r := r + 1) hs (by omega) (by omega)
  cases e : oftN s (r + 1) with
  | zero =>
    have a := cost_nonneg (s := s - m) (r := r) (by omega) h1 (by omega)
    have b := cost_nonneg (s := m - 1) (r := r + 1) (by omega) (by omega) (by omega)
    show (0 : Int) ≤ _
    omega
  | succ t =>
    rw [e] at o
    have a := phi_le (s := s - m) (r := r) (t := t + 1) (by omega) h1 (by omega) (by omega)
    have b := phi_le (s := m - 1) (r := r + 1) (t := t) (by omega) (by omega) (by omega) (by omega)
    have e1 : phi (r + 1) s (t + 1) = ((t + 1 : Nat) : Int) * ((s : Int) + 1) - (waysN (r + 1 + 1) t : Int) := by
      show (if (t + 1 : Nat) = 0 then (0 : Int) else _) = _
      rw [if_neg (by omega)] <;> rfl
    have e2 : phi r (s - m) (t + 1) = ((t + 1 : Nat) : Int) * (((s - m : Nat) : Int) + 1) - (waysN (r + 1) t : Int) := by
      show (if (t + 1 : Nat) = 0 then (0 : Int) else _) = _
      rw [if_neg (by omega)] <;> rfl
    have q1 : ((t + 1 : Nat) : Int) * (((s - m : Nat) : Int) + 1) + ((t + 1 : Nat) : Int) * (m : Int) = ((t + 1 : Nat) : Int) * ((s : Int) + 1) := by
      rw [← Int.mul_add]
      congr 1
      omega
    have e3 : phi (r + 1) (m - 1) t = (t : Int) * (m : Int) - (if t = 0 then 0 else (waysN (r + 1 + 1) (t - 1) : Int)) := by
      show (if t = 0 then (0 : Int) else (t : Int) * (((m - 1 : Nat) : Int) + 1) - _) = _
      by_cases c : t = 0
      · rw [if_pos c, if_pos c, c]
        show (0 : Int) = 0 * (m : Int) - 0
        rw [Int.zero_mul] <;> rfl
      · rw [if_neg c, if_neg c, show (((m - 1 : Nat) : Int) + 1) = (m : Int) by omega]
    have q2 : ((t + 1 : Nat) : Int) * (m : Int) = (t : Int) * (m : Int) + (m : Int) := by
      rw [Int.natCast_add t 1, Int.add_mul]
      show _ + (1 : Int) * _ = _
      rw [Int.one_mul]
    have p : (waysN (r + 1 + 1) t : Int) = (if t = 0 then 0 else (waysN (r + 1 + 1) (t - 1) : Int)) + (waysN (r + 1) t : Int) := by
      cases t with
      | zero =>
        rw [if_pos rfl, ways_zero (r + 1 + 1) (by omega), ways_zero (r + 1) (by omega)] <;> rfl
      | succ t =>
        rw [if_neg (by omega), pascal (r := r + 1) (t := t) (by omega) (by omega), Int.natCast_add] <;> rfl
    omega
/-- one room more never costs more -/
theorem cost_room {s r : Nat} (hs : s ≤ 101) (h1 : 1 ≤ r) (hr : r < 12) : costN s (r + 1) ≤ costN s r := by
  rw [cost_phi s (r + 1)]
  have o := oft_le (s := s) (r := r + 1) hs (by omega) (by omega)
  refine Int.le_trans ?_ (phi_le (t := oftN s (r + 1)) hs h1 (by omega) (by omega))
  unfold phi
  by_cases c : oftN s (r + 1) = 0
  · rw [if_pos c, if_pos c]
    exact Int.le_refl _
  · rw [if_neg c, if_neg c]
    have : waysN (r + 1) (oftN s (r + 1) - 1) ≤ waysN (r + 1 + 1) (oftN s (r + 1) - 1) := by
      have hu : oftN s (r + 1) - 1 < 103 := by omega
      generalize oftN s (r + 1) - 1 = u at hu ⊢
      cases u with
      | zero => rw [ways_zero (r + 1) (by omega), ways_zero (r + 1 + 1) (by omega)]; omega
      | succ t =>
        rw [pascal (r := r + 1) (t := t) (by omega) (by omega)]
        omega
    omega
end BM

/-! ## The table's lines tell the least cost -/
namespace BM
def markN (s r : Nat) : Nat := min (waysN r (oftN s r - 1)) (s + 1 - waysN (r - 1) (oftN s r - 1))
def markOk (s r : Nat) : Bool := s == 0 || (decide (1 ≤ markN s (r + 1)) && decide (markN s (r + 1) ≤ s) && decide (costN s (r + 1) = (markN s (r + 1) : Int) + costN (s - markN s (r + 1)) r + costN (markN s (r + 1) - 1) (r + 1)))
theorem markOk1 : ((List.range 101).all fun s => (List.range 2).all fun r => markOk s (r + 1)) = true := by decide +kernel
theorem markOk2 : ((List.range 101).all fun s => (List.range 4).all fun r => markOk s (r + 3)) = true := by decide +kernel
theorem markOk3 : ((List.range 101).all fun s => (List.range 5).all fun r => markOk s (r + 7)) = true := by decide +kernel
theorem mark_ok {s r : Nat} (hs : s ≤ 100) (h0 : 1 ≤ s) (h1 : 1 ≤ r) (hr : r < 12) : 1 ≤ markN s (r + 1) ∧ markN s (r + 1) ≤ s ∧ costN s (r + 1) = (markN s (r + 1) : Int) + costN (s - markN s (r + 1)) r + costN (markN s (r + 1) - 1) (r + 1) := by
  have h : markOk s r = true := by
    by_cases c : r < 3
    · have := List.all_eq_true.mp (List.all_eq_true.mp markOk1 s (List.mem_range.mpr (by omega))) (r - 1) (List.mem_range.mpr (by omega))
      rw [show r - 1 + 1 = r by omega] at this
      exact this
    · by_cases c2 : r < 7
      · have := List.all_eq_true.mp (List.all_eq_true.mp markOk2 s (List.mem_range.mpr (by omega))) (r - 3) (List.mem_range.mpr (by omega))
        rw [show r - 3 + 3 = r by omega] at this
        exact this
      · have := List.all_eq_true.mp (List.all_eq_true.mp markOk3 s (List.mem_range.mpr (by omega))) (r - 7) (List.mem_range.mpr (by omega))
        rw [show r - 7 + 7 = r by omega] at this
        exact this
  unfold markOk at h
  rw [Bool.or_eq_true] at h
  rcases h with h | h
  · have := eq_of_beq h
    omega
  · simp only [Bool.and_eq_true, decide_eq_true_eq] at h
    exact ⟨h.1.1, h.1.2, h.2⟩
theorem one_ok : ((List.range 101).all fun s => decide (costN s 1 = ((s : Int) * ((s : Int) + 1)) / 2)) = true := by decide +kernel
theorem cost_one {s : Nat} (hs : s ≤ 100) : costN s 1 = ((s : Int) * ((s : Int) + 1)) / 2 :=
  of_decide_eq_true (List.all_eq_true.mp one_ok s (List.mem_range.mpr (by omega)))
theorem best_min {above found : List Int} {many : Nat} {w : Nat → Int} (hw : ∀ j, j < many → ((j : Int) + 1) + above.getD (many - (j + 1)) 0 + found.getD j 0 = w j) :
    ∀ j, j ≤ many → (bestN above found many j = none ∧ j = 0) ∨ ∃ v, bestN above found many j = some v ∧ (∃ i, i < j ∧ v = w i) ∧ ∀ i, i < j → v ≤ w i
  | 0, _ => .inl ⟨rfl, rfl⟩
  | j + 1, h => by
    have e := bestN_succ above found many j
    have ew := hw j (by omega)
    have st : ∀ b, bestStep above found many b j = match b with | none => some (w j) | some v => if w j < v then some (w j) else some v := by
      intro b
      unfold bestStep
      rw [ew]
    rw [st] at e
    rcases best_min hw j (by omega) with ⟨h0, rfl⟩ | ⟨v, hv, ⟨i, hi, hvi⟩, hm⟩
    · rw [h0] at e
      refine .inr ⟨w 0, e, ⟨0, by omega, rfl⟩, fun i hi => ?_⟩
      rw [show i = 0 by omega]
      exact Int.le_refl _
    · rw [hv] at e
      by_cases c : w j < v
      · have e' : bestN above found many (j + 1) = some (w j) := e.trans (if_pos c)
        refine .inr ⟨w j, e', ⟨j, by omega, rfl⟩, fun i' hi' => ?_⟩
        by_cases q : i' = j
        · rw [q]
          exact Int.le_refl _
        · have := hm i' (by omega)
          omega
      · have e' : bestN above found many (j + 1) = some v := e.trans (if_neg c)
        refine .inr ⟨v, e', ⟨i, by omega, hvi⟩, fun i' hi' => ?_⟩
        by_cases q : i' = j
        · rw [q]
          omega
        · exact hm i' (by omega)
def lineC (n r : Nat) : List Int := (List.range (n + 1)).map fun m => costN m r
theorem lineC_get {n r j : Nat} (h : j ≤ n) : (lineC n r).getD j 0 = costN j r := by
  unfold lineC
  rw [List.getD_eq_getElem?_getD, List.getElem?_map, List.getElem?_range (by omega)] <;> rfl
theorem next_line {n r : Nat} (h1 : 1 ≤ r) (hr : r < 12) : ∀ k, k ≤ n → n ≤ 100 → nextN (lineC n r) k = lineC k (r + 1)
  | 0, _, _ => by
    show [(0 : Int)] = [costN 0 (r + 1)]
    have o := oft_le (s := 0) (r := r + 1) (by omega) (by omega) (by omega)
    have e : costN 0 (r + 1) = 0 := by
      unfold costN
      rw [if_pos (by omega)]
    rw [e]
  | k + 1, hk, hn => by
    have ih := next_line h1 hr k (by omega) hn
    have e : lineC (k + 1) (r + 1) = lineC k (r + 1) ++ [costN (k + 1) (r + 1)] := by
      unfold lineC
      rw [List.range_succ (n := k + 1), List.map_append] <;> rfl
    show nextN (lineC n r) k ++ [(bestN (lineC n r) (nextN (lineC n r) k) (k + 1) (k + 1)).getD 0] = _
    rw [ih, e]
    have hw : ∀ j, j < k + 1 → ((j : Int) + 1) + (lineC n r).getD (k + 1 - (j + 1)) 0 + (lineC k (r + 1)).getD j 0 = ((j : Int) + 1) + costN (k + 1 - (j + 1)) r + costN j (r + 1) := fun j hj => by
      rw [lineC_get (by omega), lineC_get (by omega)]
    rcases best_min hw (k + 1) (Nat.le_refl _) with ⟨_, h0⟩ | ⟨v, hv, ⟨i, hi, hvi⟩, hm⟩
    · omega
    · rw [hv]
      obtain ⟨m1, m2, m3⟩ := mark_ok (s := k + 1) (r := r) (by omega) (by omega) h1 hr
      have a := hm (markN (k + 1) (r + 1) - 1) (by omega)
      have b := cost_mark (s := k + 1) (r := r) (m := i + 1) (by omega) h1 hr (by omega) (by omega)
      rw [show markN (k + 1) (r + 1) - 1 + 1 = markN (k + 1) (r + 1) by omega] at a
      rw [show i + 1 - 1 = i by omega] at b
      have ev : v = costN (k + 1) (r + 1) := by omega
      rw [ev] <;> rfl
theorem lineK_eq {n : Nat} (hn : n ≤ 100) : ∀ k, k < 12 → lineK n k = lineC n (k + 1)
  | 0, _ => by
    show lineOne n = lineC n 1
    unfold lineOne lineC
    refine List.map_congr_left fun m hm => ?_
    exact (cost_one (by have := List.mem_range.mp hm; omega)).symm
  | k + 1, hk => by
    show nextN (lineK n k) n = lineC n (k + 1 + 1)
    rw [lineK_eq hn k (by omega)]
    exact next_line (by omega) (by omega) n (Nat.le_refl _) hn
end BM

/-! ## Deeds and plans, in plain Lean -/
namespace BM
inductive Deed where
  | keep | meet | take (p : Nat) | drop (p : Nat) | go (n : Nat)
  deriving DecidableEq
def aPre (start steps : Nat) : Nat → List Deed
  | 0 => []
  | i + 1 => aPre start steps i ++ [.go (steps - i), .meet, .take start]
def againN (start steps : Nat) : List Deed := aPre start steps steps ++ [.meet]
def fromN : Nat → Nat → Nat → Nat → List Deed
  | 0, _, _, _ => []
  | k + 1, start, steps, room => if steps = 0 ∨ room = 1 then againN start steps else
      ([.go (markN steps room), .keep] ++ fromN k (start + markN steps room) (steps - markN steps room) (room - 1) ++ [.drop (start + markN steps room), .take start]) ++ fromN k start (markN steps room - 1) room
def planN (steps room : Nat) : List Deed := if steps = 0 then [.meet] else [.keep] ++ fromN 101 0 steps room
def costD1 : Deed → Nat
  | .go n => n
  | _ => 0
def costD (ds : List Deed) : Nat := (ds.map costD1).sum
def mostStep (s : Int × Int) : Deed → Int × Int
  | .keep => (s.1 + 1, max s.2 (s.1 + 1))
  | .drop _ => (s.1 - 1, max s.2 (s.1 - 1))
  | _ => (s.1, max s.2 s.1)
def mostD (ds : List Deed) : Int := (ds.foldl mostStep (0, 0)).2
/-- a hand with its kept places -/
structure WSt where
  pl : Nat
  mks : List Nat
  wa : Int
  co : Nat
  mo : Nat
  deriving DecidableEq
def stepW (n R : Nat) (s : WSt) : Deed → Option WSt
  | .keep => if s.pl ∉ s.mks ∧ s.mks.length < R then some { s with mks := s.mks ++ [s.pl], mo := max s.mo (s.mks.length + 1) } else none
  | .meet => if (s.pl : Int) = s.wa then some { s with wa := s.wa - 1 } else none
  | .go m => if 0 < m ∧ s.pl + m ≤ n then some { s with pl := s.pl + m, co := s.co + m } else none
  | .take p => if p ∈ s.mks then some { s with pl := p } else none
  | .drop p => if p ∈ s.mks then some { s with mks := s.mks.filter (· ≠ p) } else none
def runW (n R : Nat) : List Deed → WSt → Option WSt
  | [], s => some s
  | d :: ds, s => (stepW n R s d).bind (runW n R ds)
theorem ite_some {α : Type} {c : Prop} [Decidable c] {x u : α} (h : (if c then some x else none) = some u) : c ∧ x = u := by
  by_cases q : c
  · rw [if_pos q] at h
    exact ⟨q, Option.some.inj h⟩
  · rw [if_neg q] at h
    cases h
theorem runW_append (n R : Nat) : ∀ (ds es : List Deed) (s : WSt), runW n R (ds ++ es) s = (runW n R ds s).bind (runW n R es)
  | [], _, _ => rfl
  | d :: ds, es, s => by
    show (stepW n R s d).bind (runW n R (ds ++ es)) = ((stepW n R s d).bind (runW n R ds)).bind (runW n R es)
    cases stepW n R s d with
    | none => rfl
    | some t => exact runW_append n R ds es t
theorem costD_append (ds es : List Deed) : costD (ds ++ es) = costD ds + costD es := by
  unfold costD
  rw [List.map_append, List.sum_append]
theorem runW_cost {n R : Nat} : ∀ {ds : List Deed} {s t : WSt}, runW n R ds s = some t → t.co = s.co + costD ds
  | [], s, t, h => by
    have e : s = t := Option.some.inj h
    rw [e]
    show t.co = t.co + 0
    omega
  | d :: ds, s, t, h => by
    have h : (stepW n R s d).bind (runW n R ds) = some t := h
    cases e : stepW n R s d with
    | none => rw [e] at h; cases h
    | some u =>
      rw [e] at h
      have ih := runW_cost (s := u) h
      have e2 : u.co = s.co + costD1 d := by
        cases d with
        | keep => obtain ⟨_, rfl⟩ := ite_some (α := WSt) e; rfl
        | meet => obtain ⟨_, rfl⟩ := ite_some (α := WSt) e; rfl
        | go m => obtain ⟨_, rfl⟩ := ite_some (α := WSt) e; rfl
        | take p => obtain ⟨_, rfl⟩ := ite_some (α := WSt) e; rfl
        | drop p => obtain ⟨_, rfl⟩ := ite_some (α := WSt) e; rfl
      have e3 : costD (d :: ds) = costD1 d + costD ds := by
        unfold costD
        rw [List.map_cons, List.sum_cons]
      omega
theorem filter_len_drop {p : Nat} : ∀ {l : List Nat}, l.Nodup → p ∈ l → (l.filter (· ≠ p)).length + 1 = l.length
  | [], _, h => by cases h
  | x :: r, hn, h => by
    obtain ⟨h1, h2⟩ := List.nodup_cons.mp hn
    by_cases e : x = p
    · subst e
      have q : r.filter (· ≠ x) = r := List.filter_eq_self.mpr fun y hy => decide_eq_true fun z => h1 (z ▸ hy)
      rw [List.filter_cons, if_neg (by simp), q] <;> rfl
    · have hm : p ∈ r := by
        rcases List.mem_cons.mp h with z | z
        · exact absurd z.symm e
        · exact z
      have ih := filter_len_drop h2 hm
      rw [List.filter_cons, if_pos (decide_eq_true e), List.length_cons, List.length_cons]
      omega
theorem nodup_snoc {l : List Nat} {x : Nat} (h : l.Nodup) (hx : x ∉ l) : (l ++ [x]).Nodup := by
  rw [List.nodup_append]
  refine ⟨h, by simp, ?_⟩
  intro a ha b hb
  rw [List.mem_singleton.mp hb]
  rintro rfl
  exact hx ha
/-- the count of the kept ones goes along -/
theorem runW_most {n R : Nat} : ∀ {ds : List Deed} {s t : WSt} {m : Int × Int}, runW n R ds s = some t → s.mks.Nodup → m.1 = (s.mks.length : Int) → m.2 = (s.mo : Int) → s.mks.length ≤ s.mo → (ds.foldl mostStep m).2 = (t.mo : Int)
  | [], s, t, m, h, _, _, h2, _ => by
    have e : s = t := Option.some.inj h
    rw [← e]
    exact h2
  | d :: ds, s, t, m, h, hn, h1, h2, h3 => by
    have h : (stepW n R s d).bind (runW n R ds) = some t := h
    cases e : stepW n R s d with
    | none => rw [e] at h; cases h
    | some u =>
      rw [e] at h
      have key : u.mks.Nodup ∧ (mostStep m d).1 = (u.mks.length : Int) ∧ (mostStep m d).2 = (u.mo : Int) ∧ u.mks.length ≤ u.mo := by
        cases d with
        | keep =>
          obtain ⟨c, rfl⟩ := ite_some (α := WSt) e
          refine ⟨nodup_snoc hn c.1, ?_, ?_, ?_⟩
          · show m.1 + 1 = ((s.mks ++ [s.pl]).length : Int)
            rw [List.length_append, h1] <;> rfl
          · show max m.2 (m.1 + 1) = ((max s.mo (s.mks.length + 1) : Nat) : Int)
            omega
          · show (s.mks ++ [s.pl]).length ≤ max s.mo (s.mks.length + 1)
            rw [List.length_append]
            show s.mks.length + 1 ≤ _
            omega
        | meet =>
          obtain ⟨c, rfl⟩ := ite_some (α := WSt) e
          refine ⟨hn, h1, ?_, h3⟩
          show max m.2 m.1 = (s.mo : Int)
          omega
        | go k =>
          obtain ⟨c, rfl⟩ := ite_some (α := WSt) e
          refine ⟨hn, h1, ?_, h3⟩
          show max m.2 m.1 = (s.mo : Int)
          omega
        | take p =>
          obtain ⟨c, rfl⟩ := ite_some (α := WSt) e
          refine ⟨hn, h1, ?_, h3⟩
          show max m.2 m.1 = (s.mo : Int)
          omega
        | drop p =>
          obtain ⟨c, rfl⟩ := ite_some (α := WSt) e
          have fl := filter_len_drop hn c
          refine ⟨hn.filter _, ?_, ?_, ?_⟩
          · show m.1 - 1 = ((s.mks.filter (· ≠ p)).length : Int)
            omega
          · show max m.2 (m.1 - 1) = (s.mo : Int)
            omega
          · show (s.mks.filter (· ≠ p)).length ≤ s.mo
            omega
      exact runW_most (s := u) (m := mostStep m d) h key.1 key.2.1 key.2.2.1 key.2.2.2
theorem filter_last {M : List Nat} {x : Nat} (hx : x ∉ M) : (M ++ [x]).filter (· ≠ x) = M := by
  rw [List.filter_append, List.filter_cons, if_neg (by simp), List.filter_nil, List.append_nil]
  exact List.filter_eq_self.mpr fun y hy => decide_eq_true fun z => hx (z ▸ hy)
theorem again_run {n R start : Nat} {M : List Nat} {mo : Nat} (hM : start ∈ M) : ∀ steps i co, i ≤ steps → start + steps ≤ n →
    ∃ c, runW n R (aPre start steps i) { pl := start, mks := M, wa := ((start + steps : Nat) : Int), co := co, mo := mo } = some { pl := start, mks := M, wa := ((start + steps : Nat) : Int) - (i : Int), co := c, mo := mo }
  | steps, 0, co, _, _ => ⟨co, by show some _ = some _; simp⟩
  | steps, i + 1, co, hi, hn => by
    obtain ⟨c, ih⟩ := again_run hM steps i co (by omega) hn
    refine ⟨c + (steps - i), ?_⟩
    show runW n R (aPre start steps i ++ [.go (steps - i), .meet, .take start]) _ = _
    rw [runW_append, ih]
    show ((stepW n R _ (.go (steps - i))).bind fun s => (stepW n R s .meet).bind fun s => (stepW n R s (.take start)).bind fun s => some s) = _
    have e1 : stepW n R { pl := start, mks := M, wa := ((start + steps : Nat) : Int) - (i : Int), co := c, mo := mo } (.go (steps - i)) = some { pl := start + (steps - i), mks := M, wa := ((start + steps : Nat) : Int) - (i : Int), co := c + (steps - i), mo := mo } := by
      show (if 0 < steps - i ∧ start + (steps - i) ≤ n then _ else _) = _
      rw [if_pos ⟨by omega, by omega⟩]
    have e2 : stepW n R { pl := start + (steps - i), mks := M, wa := ((start + steps : Nat) : Int) - (i : Int), co := c + (steps - i), mo := mo } .meet = some { pl := start + (steps - i), mks := M, wa := ((start + steps : Nat) : Int) - (i : Int) - 1, co := c + (steps - i), mo := mo } := by
      show (if ((start + (steps - i) : Nat) : Int) = ((start + steps : Nat) : Int) - (i : Int) then _ else _) = _
      rw [if_pos (by omega)]
    have e3 : stepW n R { pl := start + (steps - i), mks := M, wa := ((start + steps : Nat) : Int) - (i : Int) - 1, co := c + (steps - i), mo := mo } (.take start) = some { pl := start, mks := M, wa := ((start + steps : Nat) : Int) - (i : Int) - 1, co := c + (steps - i), mo := mo } := if_pos hM
    rw [e1]
    show ((stepW n R _ .meet).bind _) = _
    rw [e2]
    show ((stepW n R _ (.take start)).bind _) = _
    rw [e3]
    show some _ = some _
    congr 2
    omega
theorem aPre_cost (start steps : Nat) : ∀ i, i ≤ steps → (2 * costD (aPre start steps i) : Nat) + i * i = i * (2 * steps + 1)
  | 0, _ => by
    show 2 * 0 + 0 * 0 = 0 * (2 * steps + 1)
    simp
  | i + 1, h => by
    have ih := aPre_cost start steps i (by omega)
    have e : costD (aPre start steps (i + 1)) = costD (aPre start steps i) + (steps - i) := by
      show costD (aPre start steps i ++ [.go (steps - i), .meet, .take start]) = _
      rw [costD_append]
      show _ + ((steps - i) + (0 + (0 + 0))) = _
      omega
    rw [e]
    have q1 : (i + 1) * (i + 1) = i * i + 2 * i + 1 := by
      rw [Nat.add_mul, Nat.mul_add, Nat.one_mul, Nat.mul_one]
      omega
    have q2 : (i + 1) * (2 * steps + 1) = i * (2 * steps + 1) + 2 * steps + 1 := by
      rw [Nat.add_mul, Nat.one_mul]
      omega
    omega
theorem again_cost {start steps : Nat} (hs : steps ≤ 100) : (costD (againN start steps) : Int) = costN steps 1 := by
  rw [cost_one hs]
  unfold againN
  have h := aPre_cost start steps steps (Nat.le_refl _)
  rw [costD_append]
  have e : costD [Deed.meet] = 0 := rfl
  rw [e]
  have q : steps * (2 * steps + 1) = 2 * (steps * steps) + steps := by
    rw [Nat.mul_add, Nat.mul_one, Nat.mul_left_comm]
  have q2 : (steps : Int) * ((steps : Int) + 1) = ((steps * steps + steps : Nat) : Int) := by
    rw [Int.mul_add, Int.mul_one, Int.natCast_add, Int.natCast_mul]
  rw [q2]
  omega
/-- the plan's deeds from a kept place on: all from the end down to it are met, and what was kept is kept -/
theorem from_run {n R : Nat} : ∀ k start steps room (M : List Nat) (co mo : Nat), steps < k → 1 ≤ room → room ≤ 12 → steps ≤ 100 → start + steps ≤ n → start ∈ M → (∀ x ∈ M, x ≤ start) → M.length + room ≤ R + 1 →
    ∃ c m, runW n R (fromN k start steps room) { pl := start, mks := M, wa := ((start + steps : Nat) : Int), co := co, mo := mo } = some { pl := start, mks := M, wa := (start : Int) - 1, co := c, mo := m }
  | 0, _, steps, _, _, _, _, h, _, _, _, _, _, _, _ => by omega
  | k + 1, start, steps, room, M, co, mo, hk, h1, h2, h3, h4, hM, hU, hR => by
    by_cases c : steps = 0 ∨ room = 1
    · obtain ⟨c', e⟩ := again_run (n := n) (R := R) (mo := mo) hM steps steps co (Nat.le_refl _) h4
      refine ⟨c', mo, ?_⟩
      show runW n R (if steps = 0 ∨ room = 1 then againN start steps else _) _ = _
      rw [if_pos c]
      unfold againN
      rw [runW_append, e]
      show (stepW n R _ .meet).bind (fun s => some s) = _
      have e2 : stepW n R { pl := start, mks := M, wa := ((start + steps : Nat) : Int) - (steps : Int), co := c', mo := mo } .meet = some { pl := start, mks := M, wa := ((start + steps : Nat) : Int) - (steps : Int) - 1, co := c', mo := mo } := by
        show (if ((start : Nat) : Int) = ((start + steps : Nat) : Int) - (steps : Int) then _ else _) = _
        rw [if_pos (by omega)]
      rw [e2]
      show some _ = some _
      congr 2
      omega
    · obtain ⟨m1, m2, _⟩ := mark_ok (s := steps) (r := room - 1) h3 (by omega) (by omega) (by omega)
      rw [show room - 1 + 1 = room by omega] at m1 m2
      have hx : start + markN steps room ∉ M := fun z => by
        have := hU _ z
        omega
      show ∃ c m, runW n R (if steps = 0 ∨ room = 1 then againN start steps else _) _ = _
      rw [if_neg c]
      obtain ⟨c1, q1, e1⟩ := from_run (n := n) (R := R) k (start + markN steps room) (steps - markN steps room) (room - 1) (M ++ [start + markN steps room]) (co + markN steps room) (max mo (M.length + 1)) (by omega) (by omega) (by omega) (by omega) (by omega) (by simp) (fun x hx => by
        rcases List.mem_append.mp hx with z | z
        · have := hU x z
          omega
        · rw [List.mem_singleton.mp z]
          exact Nat.le_refl _) (by rw [List.length_append]; show M.length + 1 + (room - 1) ≤ R + 1; omega)
      obtain ⟨c2, q2, e2⟩ := from_run (n := n) (R := R) k start (markN steps room - 1) room M c1 q1 (by omega) h1 h2 (by omega) (by omega) hM hU hR
      refine ⟨c2, q2, ?_⟩
      rw [List.append_assoc, List.append_assoc, runW_append]
      have s1 : runW n R [.go (markN steps room), .keep] { pl := start, mks := M, wa := ((start + steps : Nat) : Int), co := co, mo := mo } = some { pl := start + markN steps room, mks := M ++ [start + markN steps room], wa := ((start + steps : Nat) : Int), co := co + markN steps room, mo := max mo (M.length + 1) } := by
        show (stepW n R _ (.go (markN steps room))).bind (fun s => (stepW n R s .keep).bind fun s => some s) = _
        have a1 : stepW n R { pl := start, mks := M, wa := ((start + steps : Nat) : Int), co := co, mo := mo } (.go (markN steps room)) = some { pl := start + markN steps room, mks := M, wa := ((start + steps : Nat) : Int), co := co + markN steps room, mo := mo } := if_pos ⟨by omega, by show start + markN steps room ≤ n; omega⟩
        have a2 : stepW n R { pl := start + markN steps room, mks := M, wa := ((start + steps : Nat) : Int), co := co + markN steps room, mo := mo } .keep = some { pl := start + markN steps room, mks := M ++ [start + markN steps room], wa := ((start + steps : Nat) : Int), co := co + markN steps room, mo := max mo (M.length + 1) } := if_pos ⟨hx, by show M.length < R; omega⟩
        rw [a1]
        show (stepW n R _ .keep).bind _ = _
        rw [a2] <;> rfl
      rw [s1]
      show runW n R (fromN k (start + markN steps room) (steps - markN steps room) (room - 1) ++ ([.drop (start + markN steps room), .take start] ++ fromN k start (markN steps room - 1) room)) _ = _
      rw [runW_append]
      rw [show ((start + markN steps room + (steps - markN steps room) : Nat) : Int) = ((start + steps : Nat) : Int) by omega] at e1
      rw [e1]
      show runW n R ([.drop (start + markN steps room), .take start] ++ fromN k start (markN steps room - 1) room) _ = _
      rw [runW_append]
      have s2 : runW n R [.drop (start + markN steps room), .take start] { pl := start + markN steps room, mks := M ++ [start + markN steps room], wa := ((start + markN steps room : Nat) : Int) - 1, co := c1, mo := q1 } = some { pl := start, mks := M, wa := ((start + markN steps room : Nat) : Int) - 1, co := c1, mo := q1 } := by
        show (stepW n R _ (.drop (start + markN steps room))).bind (fun s => (stepW n R s (.take start)).bind fun s => some s) = _
        have a1 : stepW n R { pl := start + markN steps room, mks := M ++ [start + markN steps room], wa := ((start + markN steps room : Nat) : Int) - 1, co := c1, mo := q1 } (.drop (start + markN steps room)) = some { pl := start + markN steps room, mks := M, wa := ((start + markN steps room : Nat) : Int) - 1, co := c1, mo := q1 } := by
          show (if _ then _ else _) = _
          rw [if_pos (by simp), filter_last hx]
        have a2 : stepW n R { pl := start + markN steps room, mks := M, wa := ((start + markN steps room : Nat) : Int) - 1, co := c1, mo := q1 } (.take start) = some { pl := start, mks := M, wa := ((start + markN steps room : Nat) : Int) - 1, co := c1, mo := q1 } := if_pos hM
        rw [a1]
        show (stepW n R _ (.take start)).bind _ = _
        rw [a2] <;> rfl
      rw [s2]
      show runW n R (fromN k start (markN steps room - 1) room) _ = _
      rw [show ((start + markN steps room : Nat) : Int) - 1 = ((start + (markN steps room - 1) : Nat) : Int) by omega]
      exact e2
theorem from_cost : ∀ k start steps room, steps < k → 1 ≤ room → room ≤ 12 → steps ≤ 100 → (costD (fromN k start steps room) : Int) = costN steps room
  | 0, _, steps, _, h, _, _, _ => by omega
  | k + 1, start, steps, room, hk, h1, h2, h3 => by
    show (costD (if steps = 0 ∨ room = 1 then againN start steps else _) : Int) = _
    by_cases c : steps = 0 ∨ room = 1
    · rw [if_pos c, again_cost h3]
      rcases c with c | c
      · have z : ∀ r, 1 ≤ r → r ≤ 12 → costN 0 r = 0 := fun r q1 q2 => by
          have o := oft_le (s := 0) (r := r) (by omega) q1 (by omega)
          unfold costN
          rw [if_pos (by omega)]
        rw [c, z 1 (by omega) (by omega), z room h1 h2]
      · rw [c]
    · rw [if_neg c]
      obtain ⟨m1, m2, m3⟩ := mark_ok (s := steps) (r := room - 1) h3 (by omega) (by omega) (by omega)
      rw [show room - 1 + 1 = room by omega] at m1 m2 m3
      have i1 := from_cost k (start + markN steps room) (steps - markN steps room) (room - 1) (by omega) (by omega) (by omega) (by omega)
      have i2 := from_cost k start (markN steps room - 1) room (by omega) h1 h2 (by omega)
      rw [costD_append, costD_append, costD_append]
      have a : costD [Deed.go (markN steps room), Deed.keep] = markN steps room := rfl
      have b : costD [Deed.drop (start + markN steps room), Deed.take start] = 0 := rfl
      rw [a, b, m3, Int.natCast_add, Int.natCast_add, Int.natCast_add, i1, i2]
      omega
def wst0 (n : Nat) : WSt := { pl := 0, mks := [], wa := (n : Int), co := 0, mo := 0 }
/-- the plan meets all, at the least cost -/
theorem plan_run {s r : Nat} (hs : s ≤ 100) (h1 : 1 ≤ r) (h2 : r ≤ 12) : ∃ t, runW s r (planN s r) (wst0 s) = some t ∧ t.wa = -1 ∧ (t.co : Int) = costN s r ∧ t.pl = 0 := by
  unfold planN
  by_cases c : s = 0
  · rw [if_pos c]
    have o := oft_le (s := 0) (r := r) (by omega) h1 (by omega)
    have z : costN 0 r = 0 := by
      unfold costN
      rw [if_pos (by omega)]
    rw [c, z]
    exact ⟨{ pl := 0, mks := [], wa := -1, co := 0, mo := 0 }, rfl, rfl, rfl, rfl⟩
  · rw [if_neg c, runW_append]
    have a : runW s r [.keep] (wst0 s) = some { pl := 0, mks := [0], wa := (s : Int), co := 0, mo := 1 } := by
      show (stepW s r (wst0 s) .keep).bind (fun s => some s) = _
      have : stepW s r (wst0 s) .keep = some { pl := 0, mks := [0], wa := (s : Int), co := 0, mo := 1 } := if_pos ⟨by simp [wst0], by show 0 < r; omega⟩
      rw [this] <;> rfl
    obtain ⟨c', m, e⟩ := from_run (n := s) (R := r) 101 0 s r [0] 0 1 (by omega) h1 h2 hs (by omega) (by simp) (fun x hx => by rw [List.mem_singleton.mp hx]; exact Nat.le_refl _) (by show 1 + r ≤ r + 1; omega)
    rw [Nat.zero_add] at e
    refine ⟨_, by rw [a]; exact e, rfl, ?_, rfl⟩
    have q := runW_cost e
    have fc := from_cost 101 0 s r (by omega) h1 h2 hs
    show (c' : Int) = _
    have q' : c' = 0 + costD (fromN 101 0 s r) := q
    rw [q', Nat.zero_add]
    exact fc
end BM

/-! ## Deeds as they stand in memory -/
namespace BM
open PySem PySem.Spec PyProof.Rows L2
def Deed.word : Deed → Str
  | .keep => "keep"
  | .meet => "meet"
  | .take _ => "take"
  | .drop _ => "drop"
  | .go _ => "go"
def Deed.vs : Deed → List V
  | .keep => [.str "keep"]
  | .meet => [.str "meet"]
  | .take p => [.str "take", .int (p : Int)]
  | .drop p => [.str "drop", .int (p : Int)]
  | .go n => [.str "go", .int (n : Int)]
theorem Deed.at0 (d : Deed) : atI d.vs 0 = some (.str d.word) := by cases d <;> rfl
def DS (H : Hp) (ps : List (Addr × Deed)) : Prop := ∀ q ∈ ps, H q.1 = some (.tup q.2.vs)
def refs (ps : List (Addr × Deed)) : List V := ps.map fun q => V.ref q.1
theorem DS.same {H H' : Hp} {ps : List (Addr × Deed)} (e : Same H H') (h : DS H ps) : DS H' ps := fun q hq => e _ _ (h q hq)
theorem DS.append {H : Hp} {ps qs : List (Addr × Deed)} (h : DS H ps) (h' : DS H qs) : DS H (ps ++ qs) := fun q hq => (List.mem_append.mp hq).elim (h q) (h' q)
theorem refs_append (ps qs : List (Addr × Deed)) : refs (ps ++ qs) = refs ps ++ refs qs := List.map_append
theorem refs_len (ps : List (Addr × Deed)) : (refs ps).length = ps.length := List.length_map ..
/-- a new list of deeds is told -/
def RetD (H : Hp) (ds : List Deed) (Q : VK) : Prop := ∀ (p : Addr) (H' : Hp) (ps : List (Addr × Deed)), H p = none → Same H H' → ps.map (·.2) = ds → H' p = some (.lst (refs ps)) → DS H' ps → Q (.ref p) H'
theorem len_of {ps : List (Addr × Deed)} {ds : List Deed} (h : ps.map (·.2) = ds) : ps.length = ds.length := by rw [← h, List.length_map]
theorem aPre_len (start steps : Nat) : ∀ i, (aPre start steps i).length = 3 * i
  | 0 => rfl
  | i + 1 => by
    show (aPre start steps i ++ _).length = _
    rw [List.length_append, aPre_len start steps i]
    show 3 * i + 3 = _
    omega
theorem again_len (start steps : Nat) : (againN start steps).length = 3 * steps + 1 := by
  unfold againN
  rw [List.length_append, aPre_len] <;> rfl
theorem from_len : ∀ k a steps room, steps < k → 1 ≤ room → room ≤ 12 → steps ≤ 100 → (fromN k a steps room).length ≤ 5 * steps + 1
  | 0, _, steps, _, h, _, _, _ => by omega
  | k + 1, a, steps, room, hk, h1, h2, h3 => by
    show (if steps = 0 ∨ room = 1 then againN a steps else _).length ≤ _
    by_cases c : steps = 0 ∨ room = 1
    · rw [if_pos c, again_len]
      omega
    · rw [if_neg c]
      obtain ⟨m1, m2, _⟩ := mark_ok (s := steps) (r := room - 1) h3 (by omega) (by omega) (by omega)
      rw [show room - 1 + 1 = room by omega] at m1 m2
      have i1 := from_len k (a + markN steps room) (steps - markN steps room) (room - 1) (by omega) (by omega) (by omega) (by omega)
      have i2 := from_len k a (markN steps room - 1) room (by omega) h1 h2 (by omega)
      simp only [List.length_append, List.length_cons, List.length_nil]
      omega
theorem plan_len {s r : Nat} (hs : s ≤ 100) (h1 : 1 ≤ r) (h2 : r ≤ 12) : (planN s r).length ≤ 600 := by
  unfold planN
  by_cases c : s = 0
  · rw [if_pos c]
    show 1 ≤ 600
    omega
  · rw [if_neg c, List.length_append]
    have := from_len 101 0 s r (by omega) h1 h2 hs
    show 1 + _ ≤ 600
    omega
def goes : List Deed → List Int
  | [] => []
  | .go n :: ds => (n : Int) :: goes ds
  | _ :: ds => goes ds
theorem goes_snoc : ∀ (ds : List Deed) (d : Deed), goes (ds ++ [d]) = goes ds ++ (match d with | .go n => [(n : Int)] | _ => [])
  | [], d => by cases d <;> rfl
  | e :: ds, d => by
    have ih := goes_snoc ds d
    cases e with
    | go n =>
      show (n : Int) :: goes (ds ++ [d]) = (n : Int) :: goes ds ++ _
      rw [ih] <;> rfl
    | keep => exact ih
    | meet => exact ih
    | take _ => exact ih
    | drop _ => exact ih
theorem goes_sum : ∀ ds : List Deed, (goes ds).sum = (costD ds : Int)
  | [] => rfl
  | e :: ds => by
    have ih := goes_sum ds
    have c : costD (e :: ds) = costD1 e + costD ds := by
      unfold costD
      rw [List.map_cons, List.sum_cons]
    rw [c]
    cases e with
    | go n =>
      show ((n : Int) :: goes ds).sum = ((n + costD ds : Nat) : Int)
      rw [List.sum_cons, ih, Int.natCast_add]
    | keep => show (goes ds).sum = ((0 + costD ds : Nat) : Int); rw [Nat.zero_add]; exact ih
    | meet => show (goes ds).sum = ((0 + costD ds : Nat) : Int); rw [Nat.zero_add]; exact ih
    | take _ => show (goes ds).sum = ((0 + costD ds : Nat) : Int); rw [Nat.zero_add]; exact ih
    | drop _ => show (goes ds).sum = ((0 + costD ds : Nat) : Int); rw [Nat.zero_add]; exact ih
theorem goes_len : ∀ ds : List Deed, (goes ds).length ≤ ds.length
  | [] => Nat.le_refl _
  | e :: ds => by
    have ih := goes_len ds
    cases e with
    | go n => exact Nat.succ_le_succ ih
    | keep => exact Nat.le_succ_of_le ih
    | meet => exact Nat.le_succ_of_le ih
    | take _ => exact Nat.le_succ_of_le ih
    | drop _ => exact Nat.le_succ_of_le ih
theorem max_if (a b : Int) : (if b > a then b else a) = max a b := by
  by_cases h : b > a
  · rw [if_pos h]; omega
  · rw [if_neg h]; omega
end BM

/-! ## Rules and things, as they stand in memory -/
namespace BM
open PySem PySem.Spec PyProof.Rows L2
inductive Rule where
  | add (k : Nat) | times (k : Nat) | square | half
def Rule.word : Rule → Str
  | .add _ => "add"
  | .times _ => "times"
  | .square => "square"
  | .half => "half"
def Rule.vs : Rule → List V
  | .add k => [.str "add", .int (k : Int)]
  | .times k => [.str "times", .int (k : Int)]
  | .square => [.str "square"]
  | .half => [.str "half"]
def Rule.ok : Rule → Prop
  | .add k => k < 999983
  | .times k => k < 999983
  | _ => True
theorem Rule.at0 (r : Rule) : atI r.vs 0 = some (.str r.word) := by cases r <;> rfl
def forthN : Rule → Nat → Nat
  | .add k, s => (s + k) % 999983
  | .times k, s => s * k % 999983
  | .square, s => s * s % 999983
  | .half, s => s / 2
theorem forthN_lt (r : Rule) {s : Nat} (h : s < 999983) : forthN r s < 999983 := by
  cases r with
  | add k => exact Nat.mod_lt _ (by decide)
  | times k => exact Nat.mod_lt _ (by decide)
  | square => exact Nat.mod_lt _ (by decide)
  | half =>
    show s / 2 < 999983
    omega
/-- a thing, and whether it is a rule -/
inductive RuleTh (K : PySem.W.Frag) (H : Hp) : V → Bool → Prop where
  | ntup {x : V} {t : Value} (ty : TyX K H x t) (ni : PySem.W.kitOne K t (.type "tuple") = some false) : RuleTh K H x false
  | nil {q : Addr} (h : H q = some (.tup [])) : RuleTh K H (.ref q) false
  | nstr {q : Addr} {v : V} {r : List V} {t : Value} (h : H q = some (.tup (v :: r))) (ty : TyX K H v t) (ni : PySem.W.kitOne K t (.type "str") = some false) : RuleTh K H (.ref q) false
  | two {q : Addr} {w : Str} {r : List V} (h : H q = some (.tup (.str w :: r))) (hw : w = "add" ∨ w = "times") (hl : r.length ≠ 1) : RuleTh K H (.ref q) false
  | num {q : Addr} {w : Str} {v : V} {o : Option Int} (h : H q = some (.tup [.str w, v])) (hw : w = "add" ∨ w = "times") (th : Thg K H v o) : RuleTh K H (.ref q) (among o 0 999982)
  | one {q : Addr} {w : Str} {r : List V} {b : Bool} (h : H q = some (.tup (.str w :: r))) (h1 : w ≠ "add") (h2 : w ≠ "times") (hb : b = (decide (r = []) && (decide (w = "square") || decide (w = "half")))) : RuleTh K H (.ref q) b
theorem RuleTh.same {K : PySem.W.Frag} {H H' : Hp} {x : V} {b : Bool} (e : Same H H') (h : RuleTh K H x b) : RuleTh K H' x b := by
  cases h with
  | ntup ty ni => exact .ntup (tyX_same e ty) ni
  | nil h => exact .nil (e _ _ h)
  | nstr h ty ni => exact .nstr (e _ _ h) (tyX_same e ty) ni
  | two h hw hl => exact .two (e _ _ h) hw hl
  | num h hw th => exact .num (e _ _ h) hw (th.same e)
  | one h h1 h2 hb => exact .one (e _ _ h) h1 h2 hb
theorem Rule.th {K : PySem.W.Frag} {H : Hp} {q : Addr} (r : Rule) (ok : r.ok) (h : H q = some (.tup r.vs)) : RuleTh K H (.ref q) true := by
  cases r with
  | add k =>
    have e : among (some (k : Int)) 0 999982 = true := by
      have h : k < 999983 := ok
      show (decide ((0 : Int) ≤ (k : Int)) && decide ((k : Int) ≤ 999982)) = true
      simp only [Bool.and_eq_true, decide_eq_true_eq]
      omega
    rw [← e]
    exact .num h (.inl rfl) (.int _)
  | times k =>
    have e : among (some (k : Int)) 0 999982 = true := by
      have h : k < 999983 := ok
      show (decide ((0 : Int) ≤ (k : Int)) && decide ((k : Int) ≤ 999982)) = true
      simp only [Bool.and_eq_true, decide_eq_true_eq]
      omega
    rw [← e]
    exact .num h (.inr rfl) (.int _)
  | square => exact .one h (by decide +kernel) (by decide +kernel) (by decide +kernel)
  | half => exact .one h (by decide +kernel) (by decide +kernel) (by decide +kernel)
/-- a new rule is told -/
def RetR (H : Hp) (Q : VK) : Prop := ∀ (r : Rule) (p : Addr) (H' : Hp), r.ok → H p = none → Same H H' → H' p = some (.tup r.vs) → Q (.ref p) H'
end BM

/-! ## Walkers: what they are between two deeds -/
namespace BM
open PySem PySem.Spec PyProof.Rows L2
def lastN (s : Nat) (rs : List Rule) : Nat := rs.foldl (fun s r => forthN r s) s
theorem lastN_lt {rs : List Rule} : ∀ {s : Nat}, s < 999983 → lastN s rs < 999983 := by
  induction rs with
  | nil => intro s h; exact h
  | cons r rs ih => intro s h; exact ih (forthN_lt r h)
theorem lastN_snoc (s : Nat) (rs : List Rule) (r : Rule) : lastN s (rs ++ [r]) = forthN r (lastN s rs) := by
  unfold lastN
  rw [List.foldl_append] <;> rfl
theorem lastN_append (s : Nat) (rs qs : List Rule) : lastN s (rs ++ qs) = lastN (lastN s rs) qs := by
  unfold lastN
  rw [List.foldl_append]
structure WK where
  pl : Nat
  st : Nat
  dn : Nat
  wa : Option Nat
  mks : List (Nat × Nat)
  sn : List Nat
def waI : Option Nat → Int
  | none => -1
  | some n => (n : Int)
def oW : Option Nat → V
  | none => .non
  | some n => .int (n : Int)
def stOf (ms : List (Nat × Nat)) (p : Nat) : Option Nat := (ms.find? fun q => q.1 == p).map (·.2)
/-- what a deed does; which class refuses it (by its number among the eight) -/
def stepK (rs : List Rule) (R : Nat) (w : WK) : Deed → Except Nat WK
  | .keep => if (stOf w.mks w.pl).isSome = true then .error 4 else if w.mks.length = R then .error 3 else .ok { w with mks := w.mks ++ [(w.pl, w.st)] }
  | .meet => if some w.pl = w.wa then .ok { w with sn := w.sn ++ [w.st], wa := if w.pl = 0 then none else some (w.pl - 1) } else .error 7
  | .go m => if w.pl + m > rs.length then .error 6 else .ok { w with pl := w.pl + m, st := lastN w.st ((rs.drop w.pl).take m), dn := w.dn + m }
  | .take p => match stOf w.mks p with | none => .error 5 | some s => .ok { w with pl := p, st := s }
  | .drop p => match stOf w.mks p with | none => .error 5 | some _ => .ok { w with mks := w.mks.filter fun q => q.1 != p }
def wk0 (f n : Nat) : WK := { pl := 0, st := f, dn := 0, wa := some n, mks := [], sn := [] }
/-- places and states within their bounds -/
structure WK.Ok (n : Nat) (w : WK) : Prop where
  pl : w.pl ≤ n
  st : w.st < 999983
  mo : ∀ q ∈ w.mks, q.1 ≤ n ∧ q.2 < 999983
  nd : (w.mks.map (·.1)).Nodup
  wa : ∀ m, w.wa = some m → m ≤ n
theorem stOf_mem {ms : List (Nat × Nat)} {p s : Nat} (h : stOf ms p = some s) : (p, s) ∈ ms := by
  unfold stOf at h
  cases e : ms.find? fun q => q.1 == p with
  | none => rw [e] at h; cases h
  | some q =>
    rw [e] at h
    have e1 : q.2 = s := Option.some.inj h
    have e2 : q.1 = p := by simpa using List.find?_some e
    rw [← e1, ← e2]
    exact List.mem_of_find?_eq_some e
theorem stOf_none {ms : List (Nat × Nat)} {p : Nat} (h : stOf ms p = none) : p ∉ ms.map (·.1) := by
  unfold stOf at h
  cases e : ms.find? fun q => q.1 == p with
  | none =>
    intro m
    obtain ⟨q, hq, rfl⟩ := List.mem_map.mp m
    have := List.find?_eq_none.mp e q hq
    simp at this
  | some q => rw [e] at h; cases h
theorem WK.Ok.step {rs : List Rule} {R : Nat} {w v : WK} {d : Deed} (o : w.Ok rs.length) (h : stepK rs R w d = .ok v) : v.Ok rs.length := by
  cases d with
  | keep =>
    have h : (if (stOf w.mks w.pl).isSome = true then Except.error 4 else if w.mks.length = R then .error 3 else .ok { w with mks := w.mks ++ [(w.pl, w.st)] }) = Except.ok v := h
    by_cases c : (stOf w.mks w.pl).isSome = true
    · rw [if_pos c] at h; cases h
    · rw [if_neg c] at h
      by_cases c2 : w.mks.length = R
      · rw [if_pos c2] at h; cases h
      · rw [if_neg c2] at h
        cases h
        have hn : stOf w.mks w.pl = none := by
          cases e : stOf w.mks w.pl with
          | none => rfl
          | some _ => rw [e] at c; exact absurd rfl c
        refine ⟨o.pl, o.st, fun q hq => ?_, ?_, o.wa⟩
        · rcases List.mem_append.mp hq with z | z
          · exact o.mo q z
          · rw [List.mem_singleton.mp z]
            exact ⟨o.pl, o.st⟩
        · show ((w.mks ++ [(w.pl, w.st)]).map (·.1)).Nodup
          rw [List.map_append, List.nodup_append]
          refine ⟨o.nd, by simp, ?_⟩
          intro a ha b hb
          have hb' : b = w.pl := by simpa using hb
          rw [hb']
          rintro rfl
          exact stOf_none hn ha
  | meet =>
    have h : (if some w.pl = w.wa then Except.ok { w with sn := w.sn ++ [w.st], wa := if w.pl = 0 then none else some (w.pl - 1) } else .error 7) = Except.ok v := h
    by_cases c : some w.pl = w.wa
    · rw [if_pos c] at h
      cases h
      refine ⟨o.pl, o.st, o.mo, o.nd, fun m hm => ?_⟩
      have hm : (if w.pl = 0 then none else some (w.pl - 1)) = some m := hm
      by_cases z : w.pl = 0
      · rw [if_pos z] at hm; cases hm
      · rw [if_neg z] at hm
        have := Option.some.inj hm
        have := o.pl
        omega
    · rw [if_neg c] at h; cases h
  | go m =>
    have h : (if w.pl + m > rs.length then Except.error 6 else .ok { w with pl := w.pl + m, st := lastN w.st ((rs.drop w.pl).take m), dn := w.dn + m }) = Except.ok v := h
    by_cases c : w.pl + m > rs.length
    · rw [if_pos c] at h; cases h
    · rw [if_neg c] at h
      cases h
      exact ⟨by show w.pl + m ≤ rs.length; omega, lastN_lt o.st, o.mo, o.nd, o.wa⟩
  | take p =>
    have h : (match stOf w.mks p with | none => Except.error 5 | some s => .ok { w with pl := p, st := s }) = Except.ok v := h
    cases e : stOf w.mks p with
    | none => rw [e] at h; cases h
    | some s =>
      rw [e] at h
      cases h
      have := o.mo _ (stOf_mem e)
      exact ⟨this.1, this.2, o.mo, o.nd, o.wa⟩
  | drop p =>
    have h : (match stOf w.mks p with | none => Except.error 5 | some _ => .ok { w with mks := w.mks.filter fun q => q.1 != p }) = Except.ok v := h
    cases e : stOf w.mks p with
    | none => rw [e] at h; cases h
    | some s =>
      rw [e] at h
      cases h
      refine ⟨o.pl, o.st, fun q hq => o.mo q (List.mem_filter.mp hq).1, ?_, o.wa⟩
      exact o.nd.sublist (List.Sublist.map _ List.filter_sublist)
/-! ### in memory -/
def mkK (ms : List (Nat × Nat)) : List (Key × V) := ms.map fun (q : Nat × Nat) => ((Sum.inl (q.1 : Int) : Key), V.int (q.2 : Int))
theorem mkK_len (ms : List (Nat × Nat)) : (mkK ms).length = ms.length := List.length_map ..
theorem mkK_val : ∀ (ms : List (Nat × Nat)) (p : Nat), valV (mkK ms) (Sum.inl (p : Int) : Key) = (stOf ms p).map fun s => V.int (s : Int)
  | [], _ => rfl
  | q :: ms, p => by
    have ih := mkK_val ms p
    by_cases e : q.1 = p
    · have e1 : stOf (q :: ms) p = some q.2 := by
        unfold stOf
        rw [List.find?_cons, e, beq_self_eq_true] <;> rfl
      rw [e1]
      exact valV_pos (p := ((Sum.inl (q.1 : Int) : Key), V.int (q.2 : Int))) (by show (Sum.inl (q.1 : Int) : Key) = Sum.inl (p : Int); rw [e])
    · have e1 : stOf (q :: ms) p = stOf ms p := by
        unfold stOf
        rw [List.find?_cons, beq_false_of_ne e]
      rw [e1, ← ih]
      exact valV_neg (p := ((Sum.inl (q.1 : Int) : Key), V.int (q.2 : Int))) (fun z : (Sum.inl (q.1 : Int) : Key) = Sum.inl (p : Int) => e (by have := Sum.inl.inj z; omega))
theorem mkK_put {ms : List (Nat × Nat)} {p s : Nat} (h : stOf ms p = none) : putK (mkK ms) (Sum.inl (p : Int) : Key) (.int (s : Int)) = mkK (ms ++ [(p, s)]) := by
  rw [putK_new _ (by rw [mkK_val, h] <;> rfl)]
  unfold mkK
  rw [List.map_append] <;> rfl
theorem mkK_drop (p : Nat) : ∀ ms : List (Nat × Nat), dropK (mkK ms) (Sum.inl (p : Int) : Key) = mkK (ms.filter fun q => q.1 != p)
  | [] => rfl
  | q :: ms => by
    have ih := mkK_drop p ms
    show dropK (((Sum.inl (q.1 : Int) : Key), V.int (q.2 : Int)) :: mkK ms) _ = _
    by_cases e : q.1 = p
    · rw [dropK_pos (by show (Sum.inl (q.1 : Int) : Key) = Sum.inl (p : Int); rw [e]), ih, List.filter_cons, if_neg (by rw [e]; simp)]
    · rw [dropK_neg (fun z : (Sum.inl (q.1 : Int) : Key) = Sum.inl (p : Int) => e (by have := Sum.inl.inj z; omega)), ih, List.filter_cons, if_pos (by simpa using e)] <;> rfl
def refsR (rs : List (Addr × Rule)) : List V := rs.map fun q => V.ref q.1
def RS (H : Hp) (rs : List (Addr × Rule)) : Prop := ∀ q ∈ rs, H q.1 = some (.tup q.2.vs) ∧ q.2.ok
theorem RS.same {H H' : Hp} {rs : List (Addr × Rule)} (e : Same H H') (h : RS H rs) : RS H' rs := fun q hq => ⟨e _ _ (h q hq).1, (h q hq).2⟩
theorem refsR_len (rs : List (Addr × Rule)) : (refsR rs).length = rs.length := List.length_map ..
def wF (rl : Addr) (room pl st dn : Int) (wa : V) (mk sn : Addr) : List (Str × V) :=
  [("rules", .ref rl), ("room", .int room), ("place", .int pl), ("state", .int st), ("done", .int dn), ("wanted", wa), ("marks", .ref mk), ("seen", .ref sn)]
section
variable (rl : Addr) (room pl st dn x : Int) (wa v : V) (mk sn : Addr)
theorem wF_rules : (wF rl room pl st dn wa mk sn).lookup ("rules" : Str) = some (V.ref rl) := by kernel_rfl
theorem wF_room : (wF rl room pl st dn wa mk sn).lookup ("room" : Str) = some (V.int room) := by kernel_rfl
theorem wF_place : (wF rl room pl st dn wa mk sn).lookup ("place" : Str) = some (V.int pl) := by kernel_rfl
theorem wF_state : (wF rl room pl st dn wa mk sn).lookup ("state" : Str) = some (V.int st) := by kernel_rfl
theorem wF_done : (wF rl room pl st dn wa mk sn).lookup ("done" : Str) = some (V.int dn) := by kernel_rfl
theorem wF_wanted : (wF rl room pl st dn wa mk sn).lookup ("wanted" : Str) = some wa := by kernel_rfl
theorem wF_marks : (wF rl room pl st dn wa mk sn).lookup ("marks" : Str) = some (V.ref mk) := by kernel_rfl
theorem wF_seen : (wF rl room pl st dn wa mk sn).lookup ("seen" : Str) = some (V.ref sn) := by kernel_rfl
theorem wF_do : (wF rl room pl st dn wa mk sn).lookup ("do" : Str) = none := by kernel_rfl
theorem wF_keep : (wF rl room pl st dn wa mk sn).lookup ("keep" : Str) = none := by kernel_rfl
theorem wF_go : (wF rl room pl st dn wa mk sn).lookup ("go" : Str) = none := by kernel_rfl
theorem wF_meet : (wF rl room pl st dn wa mk sn).lookup ("meet" : Str) = none := by kernel_rfl
theorem wF_kept : (wF rl room pl st dn wa mk sn).lookup ("kept" : Str) = none := by kernel_rfl
theorem wF_met : (wF rl room pl st dn wa mk sn).lookup ("met" : Str) = none := by kernel_rfl
theorem wF_len : (wF rl room pl st dn wa mk sn).length < 1000 := by show 8 < 1000; decide
theorem wF_sp : putF "place" (.int x) (wF rl room pl st dn wa mk sn) = wF rl room x st dn wa mk sn := by kernel_rfl
theorem wF_ss : putF "state" (.int x) (wF rl room pl st dn wa mk sn) = wF rl room pl x dn wa mk sn := by kernel_rfl
theorem wF_sd : putF "done" (.int x) (wF rl room pl st dn wa mk sn) = wF rl room pl st x wa mk sn := by kernel_rfl
theorem wF_sw : putF "wanted" v (wF rl room pl st dn wa mk sn) = wF rl room pl st dn v mk sn := by kernel_rfl
theorem wF_made : putF "seen" (.ref sn) (putF "marks" (.ref mk) (putF "wanted" wa (putF "done" (.int dn) (putF "state" (.int st) (putF "place" (.int pl) (putF "room" (.int room) (putF "rules" (.ref rl) []))))))) = wF rl room pl st dn wa mk sn := by kernel_rfl
end
/-- what the top has written of the class -/
structure OCW (K : PySem.W.Frag) (mg : Str → Option Value) (C : Addr) : Prop where
  cl : Cls K C
  mgC : mg "Walker" = some (.ref C)
  nru : NoAttr K C "rules"
  nro : NoAttr K C "room"
  npl : NoAttr K C "place"
  nst : NoAttr K C "state"
  ndn : NoAttr K C "done"
  nwa : NoAttr K C "wanted"
  nma : NoAttr K C "marks"
  nse : NoAttr K C "seen"
/-- a thing, and whether it is a list of rules -/
inductive ListTh (K : PySem.W.Frag) (H : Hp) : V → Bool → Prop where
  | nlist {x : V} {t : Value} (ty : TyX K H x t) (ni : PySem.W.kitOne K t (.type "list") = some false) : ListTh K H x false
  | big {p : Addr} {xs : List V} (h : H p = some (.lst xs)) (hl : 100 < xs.length) : ListTh K H (.ref p) false
  | all {p : Addr} {xs : List V} {bs : List Bool} (h : H p = some (.lst xs)) (hl : xs.length ≤ 100) (hb : bs.length = xs.length) (ht : ∀ (i : Nat) (x : V) (b : Bool), xs[i]? = some x → bs[i]? = some b → RuleTh K H x b) : ListTh K H (.ref p) (bs.all id)
theorem ListTh.good {K : PySem.W.Frag} {H : Hp} {p : Addr} {rs : List (Addr × Rule)} (h : H p = some (.lst (refsR rs))) (hR : RS H rs) (hl : rs.length ≤ 100) : ListTh K H (.ref p) true := by
  have e : (List.replicate rs.length true).all id = true := List.all_eq_true.mpr fun b hb => by rw [(List.mem_replicate.mp hb).2] <;> rfl
  rw [← e]
  refine .all h (by rw [refsR_len]; exact hl) (by rw [List.length_replicate, refsR_len]) fun i x b hx hb => ?_
  obtain ⟨q, hq, rfl⟩ := get_map hx
  have eb : b = true := (List.mem_replicate.mp (List.mem_of_getElem? hb)).2
  rw [eb]
  have := hR q (List.mem_of_getElem? hq)
  exact q.2.th this.2 this.1
/-- a thing, and whether it is a deed -/
inductive DeedTh (K : PySem.W.Frag) (H : Hp) : V → Bool → Prop where
  | ntup {x : V} {t : Value} (ty : TyX K H x t) (ni : PySem.W.kitOne K t (.type "tuple") = some false) : DeedTh K H x false
  | nil {q : Addr} (h : H q = some (.tup [])) : DeedTh K H (.ref q) false
  | nstr {q : Addr} {v : V} {r : List V} {t : Value} (h : H q = some (.tup (v :: r))) (ty : TyX K H v t) (ni : PySem.W.kitOne K t (.type "str") = some false) : DeedTh K H (.ref q) false
  | one {q : Addr} {w : Str} {r : List V} {b : Bool} (h : H q = some (.tup (.str w :: r))) (hw : w = "keep" ∨ w = "meet") (hb : b = decide (r = [])) : DeedTh K H (.ref q) b
  | two {q : Addr} {w : Str} {r : List V} (h : H q = some (.tup (.str w :: r))) (h1 : w ≠ "keep") (h2 : w ≠ "meet") (hl : r.length ≠ 1) : DeedTh K H (.ref q) false
  | num {q : Addr} {w : Str} {v : V} {o : Option Int} {b : Bool} (h : H q = some (.tup [.str w, v])) (h1 : w ≠ "keep") (h2 : w ≠ "meet") (th : Thg K H v o)
      (hb : b = if w = "go" then among o 1 100 else (decide (w = "take") || decide (w = "drop")) && among o 0 100) : DeedTh K H (.ref q) b
theorem DeedTh.same {K : PySem.W.Frag} {H H' : Hp} {x : V} {b : Bool} (e : Same H H') (h : DeedTh K H x b) : DeedTh K H' x b := by
  cases h with
  | ntup ty ni => exact .ntup (tyX_same e ty) ni
  | nil h => exact .nil (e _ _ h)
  | nstr h ty ni => exact .nstr (e _ _ h) (tyX_same e ty) ni
  | one h hw hb => exact .one (e _ _ h) hw hb
  | two h h1 h2 hl => exact .two (e _ _ h) h1 h2 hl
  | num h h1 h2 th hb => exact .num (e _ _ h) h1 h2 (th.same e) hb
def Deed.ok : Deed → Prop
  | .go n => 1 ≤ n ∧ n ≤ 100
  | .take p => p ≤ 100
  | .drop p => p ≤ 100
  | _ => True
theorem among_of {n : Nat} {lo hi : Int} (h1 : lo ≤ (n : Int)) (h2 : (n : Int) ≤ hi) : among (some (n : Int)) lo hi = true := by
  show (decide (lo ≤ (n : Int)) && decide ((n : Int) ≤ hi)) = true
  rw [decide_eq_true h1, decide_eq_true h2] <;> rfl
theorem Deed.th {K : PySem.W.Frag} {H : Hp} {q : Addr} (d : Deed) (ok : d.ok) (h : H q = some (.tup d.vs)) : DeedTh K H (.ref q) true := by
  cases d with
  | keep => exact .one h (.inl rfl) rfl
  | meet => exact .one h (.inr rfl) rfl
  | go n =>
    refine .num h (by decide +kernel) (by decide +kernel) (.int _) ?_
    have ok : 1 ≤ n ∧ n ≤ 100 := ok
    rw [if_pos rfl, among_of (by omega) (by omega)]
  | take p =>
    refine .num h (by decide +kernel) (by decide +kernel) (.int _) ?_
    have ok : p ≤ 100 := ok
    rw [if_neg (by decide +kernel), among_of (by omega) (by omega)]
    decide +kernel
  | drop p =>
    refine .num h (by decide +kernel) (by decide +kernel) (.int _) ?_
    have ok : p ≤ 100 := ok
    rw [if_neg (by decide +kernel), among_of (by omega) (by omega)]
    decide +kernel
/-- where a walker lies -/
structure WA where
  x : Addr
  dx : Addr
  rl : Addr
  md : Addr
  sn : Addr
/-- a walker stands there -/
structure WAt (C : Addr) (H : Hp) (A : WA) (rs : List (Addr × Rule)) (R : Nat) (w : WK) : Prop where
  ob : H A.x = some (.ins C A.dx (wF A.rl (R : Int) (w.pl : Int) (w.st : Int) (w.dn : Int) (oW w.wa) A.md A.sn))
  ru : H A.rl = some (.lst (refsR rs))
  ma : H A.md = some (.dK (mkK w.mks))
  se : H A.sn = some (.lst (w.sn.map fun (s : Nat) => V.int (s : Int)))
  n1 : A.rl ≠ A.sn
/-- all but the walker's own stands -/
def But (A : WA) (H H' : Hp) : Prop := ∀ b o, H b = some o → b ≠ A.x → b ≠ A.md → b ≠ A.sn → H' b = some o
theorem But.refl (A : WA) (H : Hp) : But A H H := fun _ _ h _ _ _ => h
theorem But.trans {A : WA} {H H1 H2 : Hp} (a : But A H H1) (b : But A H1 H2) : But A H H2 := fun c o h n1 n2 n3 => b c o (a c o h n1 n2 n3) n1 n2 n3
theorem But.same {A : WA} {H H1 H2 : Hp} (a : But A H H1) (b : Same H1 H2) : But A H H2 := fun c o h n1 n2 n3 => b c o (a c o h n1 n2 n3)
theorem Same.but {A : WA} {H H1 : Hp} (a : Same H H1) : But A H H1 := fun c o h _ _ _ => a c o h
theorem But.upd_x {A : WA} {H : Hp} {o : HO} : But A H (upd H A.x o) := fun c u h n1 _ _ => by rw [upd_ne n1]; exact h
theorem But.upd_mk {A : WA} {H : Hp} {o : HO} : But A H (upd H A.md o) := fun c u h _ n1 _ => by rw [upd_ne n1]; exact h
theorem But.upd_sn {A : WA} {H : Hp} {o : HO} : But A H (upd H A.sn o) := fun c u h _ _ n1 => by rw [upd_ne n1]; exact h
section
variable {C : Addr} {H : Hp} {A : WA} {rs : List (Addr × Rule)} {R : Nat} {w : WK}
theorem WAt.xr (W : WAt C H A rs R w) : A.x ≠ A.rl := ne_of W.ob W.ru (by intro z; cases z)
theorem WAt.xm (W : WAt C H A rs R w) : A.x ≠ A.md := ne_of W.ob W.ma (by intro z; cases z)
theorem WAt.xs (W : WAt C H A rs R w) : A.x ≠ A.sn := ne_of W.ob W.se (by intro z; cases z)
theorem WAt.rm (W : WAt C H A rs R w) : A.rl ≠ A.md := ne_of W.ru W.ma (by intro z; cases z)
theorem WAt.ms (W : WAt C H A rs R w) : A.md ≠ A.sn := ne_of W.ma W.se (by intro z; cases z)
theorem WAt.same {H' : Hp} (W : WAt C H A rs R w) (e : Same H H') : WAt C H' A rs R w := ⟨e _ _ W.ob, e _ _ W.ru, e _ _ W.ma, e _ _ W.se, W.n1⟩
/-- a deed's promise -/
def StepP (K : PySem.W.Frag) (C : Addr) (c8 : Nat → Addr) (H : Hp) (A : WA) (rs : List (Addr × Rule)) (R : Nat) (w : WK) (d : Deed) (Q : VK) (E : XK) : Prop :=
  WAt C H A rs R w ∧ RS H rs ∧ w.Ok rs.length ∧ rs.length ≤ 100 ∧ w.mks.length ≤ 1000 ∧ w.sn.length ≤ 10000 ∧
  (∀ v, stepK (rs.map (·.2)) R w d = .ok v → ∀ H', But A H H' → WAt C H' A rs R v → Q .non H') ∧ ∀ i, stepK (rs.map (·.2)) R w d = .error i → E (.ref (c8 i)) none H
theorem RS.but {H' : Hp} (W : WAt C H A rs R w) (b : But A H H') {qs : List (Addr × Rule)} (h : RS H qs) : RS H' qs := fun q hq => by
  have e := (h q hq).1
  exact ⟨b _ _ e (ne_of e W.ob (by intro z; cases z)) (ne_of e W.ma (by intro z; cases z)) (ne_of e W.se (by intro z; cases z)), (h q hq).2⟩
end
end BM

/-! ## Deeds in a row -/
namespace BM
open PySem PySem.Spec PyProof.Rows L2
def runT (rs : List Rule) (R : Nat) : List (Option Deed) → WK → Except Nat WK
  | [], w => .ok w
  | none :: _, _ => .error 2
  | some d :: ts, w => match stepK rs R w d with
    | .ok v => runT rs R ts v
    | .error i => .error i
def ThingD (K : PySem.W.Frag) (H : Hp) (x : V) : Option Deed → Prop
  | none => DeedTh K H x false
  | some d => ∃ a, x = .ref a ∧ H a = some (.tup d.vs) ∧ d.ok
theorem ThingD.same {K : PySem.W.Frag} {H H' : Hp} {x : V} {t : Option Deed} (e : Same H H') (h : ThingD K H x t) : ThingD K H' x t := by
  cases t with
  | none => exact DeedTh.same e h
  | some d =>
    obtain ⟨a, h1, h2, h3⟩ := h
    exact ⟨a, h1, e _ _ h2, h3⟩
structure WK.Ok2 (n R : Nat) (w : WK) : Prop where
  mo : w.mks.length ≤ R
  sn : (w.sn.length : Int) + waI w.wa = (n : Int)
theorem WK.Ok2.step {rs : List Rule} {n R : Nat} {w v : WK} {d : Deed} (o : w.Ok2 n R) (h : stepK rs R w d = .ok v) : v.Ok2 n R := by
  cases d with
  | keep =>
    have h : (if (stOf w.mks w.pl).isSome = true then Except.error 4 else if w.mks.length = R then .error 3 else .ok { w with mks := w.mks ++ [(w.pl, w.st)] }) = Except.ok v := h
    by_cases c : (stOf w.mks w.pl).isSome = true
    · rw [if_pos c] at h; cases h
    · rw [if_neg c] at h
      by_cases c2 : w.mks.length = R
      · rw [if_pos c2] at h; cases h
      · rw [if_neg c2] at h
        cases h
        refine ⟨?_, o.sn⟩
        have := o.mo
        show (w.mks ++ [(w.pl, w.st)]).length ≤ R
        rw [List.length_append]
        show w.mks.length + 1 ≤ R
        omega
  | meet =>
    have h : (if some w.pl = w.wa then Except.ok { w with sn := w.sn ++ [w.st], wa := if w.pl = 0 then none else some (w.pl - 1) } else .error 7) = Except.ok v := h
    by_cases c : some w.pl = w.wa
    · rw [if_pos c] at h
      cases h
      refine ⟨o.mo, ?_⟩
      have s := o.sn
      rw [← c] at s
      have s : (w.sn.length : Int) + (w.pl : Int) = (n : Int) := s
      show ((w.sn ++ [w.st]).length : Int) + waI (if w.pl = 0 then none else some (w.pl - 1)) = (n : Int)
      rw [List.length_append]
      by_cases z : w.pl = 0
      · rw [if_pos z]
        show ((w.sn.length + 1 : Nat) : Int) + -1 = _
        omega
      · rw [if_neg z]
        show ((w.sn.length + 1 : Nat) : Int) + ((w.pl - 1 : Nat) : Int) = _
        omega
    · rw [if_neg c] at h; cases h
  | go m =>
    have h : (if w.pl + m > rs.length then Except.error 6 else .ok { w with pl := w.pl + m, st := lastN w.st ((rs.drop w.pl).take m), dn := w.dn + m }) = Except.ok v := h
    by_cases c : w.pl + m > rs.length
    · rw [if_pos c] at h; cases h
    · rw [if_neg c] at h
      cases h
      exact ⟨o.mo, o.sn⟩
  | take p =>
    have h : (match stOf w.mks p with | none => Except.error 5 | some s => .ok { w with pl := p, st := s }) = Except.ok v := h
    cases e : stOf w.mks p with
    | none => rw [e] at h; cases h
    | some s =>
      rw [e] at h
      cases h
      exact ⟨o.mo, o.sn⟩
  | drop p =>
    have h : (match stOf w.mks p with | none => Except.error 5 | some _ => .ok { w with mks := w.mks.filter fun q => q.1 != p }) = Except.ok v := h
    cases e : stOf w.mks p with
    | none => rw [e] at h; cases h
    | some s =>
      rw [e] at h
      cases h
      refine ⟨?_, o.sn⟩
      have := o.mo
      have l := List.length_filter_le (fun q => q.1 != p) w.mks
      show (w.mks.filter fun q => q.1 != p).length ≤ R
      omega
theorem WK.Ok2.sn_le {n R : Nat} {w : WK} (o : w.Ok2 n R) (hn : n ≤ 100) : w.sn.length ≤ 10000 := by
  have s := o.sn
  cases h : w.wa with
  | none =>
    rw [h] at s
    have s : (w.sn.length : Int) + -1 = (n : Int) := s
    omega
  | some m =>
    rw [h] at s
    have s : (w.sn.length : Int) + (m : Int) = (n : Int) := s
    omega
theorem wk0_ok {f n : Nat} (hf : f < 999983) : (wk0 f n).Ok n := ⟨Nat.zero_le _, hf, fun q hq => (nomatch hq), List.nodup_nil, fun m hm => by
  have e : n = m := Option.some.inj hm
  omega⟩
theorem wk0_ok2 {f n R : Nat} : (wk0 f n).Ok2 n R := ⟨Nat.zero_le _, by show ((0 : Nat) : Int) + (n : Int) = (n : Int); omega⟩
theorem runT_append (rs : List Rule) (R : Nat) : ∀ (ts us : List (Option Deed)) (w : WK), runT rs R (ts ++ us) w = match runT rs R ts w with | .ok v => runT rs R us v | .error i => .error i
  | [], _, _ => rfl
  | none :: _, _, _ => rfl
  | some d :: ts, us, w => by
    show (match stepK rs R w d with | .ok v => runT rs R (ts ++ us) v | .error i => .error i) = match (match stepK rs R w d with | .ok v => runT rs R ts v | .error i => .error i) with | .ok v => runT rs R us v | .error i => .error i
    cases stepK rs R w d with
    | error i => rfl
    | ok v => exact runT_append rs R ts us v
theorem runT_take_err {rs : List Rule} {R : Nat} {ts : List (Option Deed)} {w v : WK} {i : Nat} {t : Option Deed} {e : Nat} (h : runT rs R (ts.take i) w = .ok v) (ht : ts[i]? = some t) (he : runT rs R [t] v = .error e) : runT rs R ts w = .error e := by
  have q : ts.take (i + 1) ++ ts.drop (i + 1) = ts := List.take_append_drop (i + 1) ts
  have q2 : runT rs R (ts.take (i + 1)) w = .error e := by
    rw [take_succ ht, runT_append, h]
    exact he
  rw [← q, runT_append, q2]
end BM

/-! ## A plain hand and a walker go alike -/
namespace BM
def stAt (rs : List Rule) (f p : Nat) : Nat := lastN f (rs.take p)
structure Sim (rs : List Rule) (f : Nat) (s : WSt) (w : WK) : Prop where
  pl : w.pl = s.pl
  mq : w.mks.map (·.1) = s.mks
  wa : waI w.wa = s.wa
  dn : w.dn = s.co
  st : w.st = stAt rs f s.pl
  ms : ∀ q ∈ w.mks, q.2 = stAt rs f q.1
  sn : w.sn = (List.range w.sn.length).map fun i => stAt rs f (rs.length - i)
  sl : (w.sn.length : Int) + waI w.wa = (rs.length : Int)
  le : s.pl ≤ rs.length
  ml : ∀ x ∈ s.mks, x ≤ rs.length
theorem stOf_some : ∀ {ms : List (Nat × Nat)} {p : Nat}, p ∈ ms.map (·.1) → ∃ s, stOf ms p = some s := fun {ms p} h => by
  cases e : stOf ms p with
  | some s => exact ⟨s, rfl⟩
  | none => exact absurd h (stOf_none e)
theorem map_filter_fst (p : Nat) : ∀ ms : List (Nat × Nat), (ms.filter fun q => q.1 != p).map (·.1) = (ms.map (·.1)).filter (· ≠ p)
  | [] => rfl
  | q :: ms => by
    have ih := map_filter_fst p ms
    by_cases e : q.1 = p
    · rw [List.filter_cons, if_neg (by rw [e]; simp), ih, List.map_cons, List.filter_cons, if_neg (by simpa using e)]
    · rw [List.filter_cons, if_pos (by simpa using e), List.map_cons, ih, List.map_cons, List.filter_cons, if_pos (by simpa using e)]
theorem sim_step {rs : List Rule} {f R : Nat} {s t : WSt} {w : WK} {d : Deed} (hn : rs.length ≤ 100) (S : Sim rs f s w) (h : stepW rs.length R s d = some t) : d.ok ∧ ∃ v, stepK rs R w d = .ok v ∧ Sim rs f t v := by
  cases d with
  | keep =>
    obtain ⟨⟨c1, c2⟩, rfl⟩ := ite_some h
    have hno : stOf w.mks w.pl = none := by
      cases e : stOf w.mks w.pl with
      | none => rfl
      | some z =>
        refine absurd ?_ c1
        rw [← S.mq, ← S.pl]
        exact List.mem_map.mpr ⟨_, stOf_mem e, rfl⟩
    have hl : w.mks.length = s.mks.length := by rw [← S.mq, List.length_map]
    refine ⟨trivial, { w with mks := w.mks ++ [(w.pl, w.st)] }, ?_, ⟨S.pl, ?_, S.wa, S.dn, S.st, ?_, S.sn, S.sl, S.le, ?_⟩⟩
    · show (if (stOf w.mks w.pl).isSome = true then Except.error 4 else if w.mks.length = R then .error 3 else .ok { w with mks := w.mks ++ [(w.pl, w.st)] }) = _
      rw [hno, if_neg (by decide), if_neg (by omega)]
    · show (w.mks ++ [(w.pl, w.st)]).map (·.1) = s.mks ++ [s.pl]
      rw [List.map_append, S.mq, ← S.pl] <;> rfl
    · intro q hq
      rcases List.mem_append.mp hq with z | z
      · exact S.ms q z
      · rw [List.mem_singleton.mp z]
        show w.st = stAt rs f w.pl
        rw [S.pl]
        exact S.st
    · intro x hx
      rcases List.mem_append.mp hx with z | z
      · exact S.ml x z
      · rw [List.mem_singleton.mp z]
        exact S.le
  | meet =>
    obtain ⟨c1, rfl⟩ := ite_some h
    have e1 : some w.pl = w.wa := by
      have a := S.wa
      rw [← c1, ← S.pl] at a
      cases e : w.wa with
      | none =>
        rw [e] at a
        have a : (-1 : Int) = (w.pl : Int) := a
        omega
      | some m =>
        rw [e] at a
        have a : (m : Int) = (w.pl : Int) := a
        congr 1
        omega
    refine ⟨trivial, { w with sn := w.sn ++ [w.st], wa := if w.pl = 0 then none else some (w.pl - 1) }, ?_, ⟨S.pl, S.mq, ?_, S.dn, S.st, S.ms, ?_, ?_, S.le, S.ml⟩⟩
    · show (if some w.pl = w.wa then Except.ok { w with sn := w.sn ++ [w.st], wa := if w.pl = 0 then none else some (w.pl - 1) } else .error 7) = _
      rw [if_pos e1]
    · show waI (if w.pl = 0 then none else some (w.pl - 1)) = s.wa - 1
      rw [← c1, ← S.pl]
      by_cases z : w.pl = 0
      · rw [if_pos z]
        show (-1 : Int) = (w.pl : Int) - 1
        omega
      · rw [if_neg z]
        show ((w.pl - 1 : Nat) : Int) = (w.pl : Int) - 1
        omega
    · show w.sn ++ [w.st] = (List.range (w.sn ++ [w.st]).length).map fun i => stAt rs f (rs.length - i)
      rw [List.length_append]
      show w.sn ++ [w.st] = (List.range (w.sn.length + 1)).map fun i => stAt rs f (rs.length - i)
      rw [List.range_succ, List.map_append, ← S.sn]
      have z := S.sl
      rw [← e1] at z
      have z : (w.sn.length : Int) + (w.pl : Int) = (rs.length : Int) := z
      have y : rs.length - w.sn.length = s.pl := by have := S.pl; omega
      show w.sn ++ [w.st] = w.sn ++ [stAt rs f (rs.length - w.sn.length)]
      rw [y, S.st]
    · have z := S.sl
      rw [← e1] at z
      have z : (w.sn.length : Int) + (w.pl : Int) = (rs.length : Int) := z
      show ((w.sn ++ [w.st]).length : Int) + waI (if w.pl = 0 then none else some (w.pl - 1)) = (rs.length : Int)
      rw [List.length_append]
      by_cases y : w.pl = 0
      · rw [if_pos y]
        show ((w.sn.length + 1 : Nat) : Int) + (-1) = _
        omega
      · rw [if_neg y]
        show ((w.sn.length + 1 : Nat) : Int) + ((w.pl - 1 : Nat) : Int) = _
        omega
  | go m =>
    obtain ⟨⟨c1, c2⟩, rfl⟩ := ite_some h
    have hp := S.pl
    refine ⟨⟨by omega, by omega⟩, { w with pl := w.pl + m, st := lastN w.st ((rs.drop w.pl).take m), dn := w.dn + m }, ?_, ⟨?_, S.mq, S.wa, ?_, ?_, S.ms, S.sn, S.sl, c2, S.ml⟩⟩
    · show (if w.pl + m > rs.length then Except.error 6 else .ok { w with pl := w.pl + m, st := lastN w.st ((rs.drop w.pl).take m), dn := w.dn + m }) = _
      rw [if_neg (by omega)]
    · show w.pl + m = s.pl + m
      omega
    · show w.dn + m = s.co + m
      rw [S.dn]
    · show lastN w.st ((rs.drop w.pl).take m) = lastN f (rs.take (s.pl + m))
      rw [S.st, S.pl]
      show lastN (lastN f (rs.take s.pl)) _ = _
      rw [← lastN_append]
      congr 1
      rw [List.take_add]
  | take p =>
    obtain ⟨c1, rfl⟩ := ite_some h
    obtain ⟨z, hz⟩ := stOf_some (ms := w.mks) (p := p) (by rw [S.mq]; exact c1)
    refine ⟨by have := S.ml p c1; show p ≤ 100; omega, { w with pl := p, st := z }, ?_, ⟨rfl, S.mq, S.wa, S.dn, ?_, S.ms, S.sn, S.sl, S.ml p c1, S.ml⟩⟩
    · show (match stOf w.mks p with | none => Except.error 5 | some s => .ok { w with pl := p, st := s }) = _
      rw [hz]
    · exact S.ms _ (stOf_mem hz)
  | drop p =>
    obtain ⟨c1, rfl⟩ := ite_some h
    obtain ⟨z, hz⟩ := stOf_some (ms := w.mks) (p := p) (by rw [S.mq]; exact c1)
    refine ⟨by have := S.ml p c1; show p ≤ 100; omega, { w with mks := w.mks.filter fun q => q.1 != p }, ?_, ⟨S.pl, ?_, S.wa, S.dn, S.st, fun q hq => S.ms q (List.mem_filter.mp hq).1, S.sn, S.sl, S.le, fun x hx => S.ml x (List.mem_filter.mp hx).1⟩⟩
    · show (match stOf w.mks p with | none => Except.error 5 | some _ => .ok { w with mks := w.mks.filter fun q => q.1 != p }) = _
      rw [hz]
    · show (w.mks.filter fun q => q.1 != p).map (·.1) = s.mks.filter (· ≠ p)
      rw [map_filter_fst, S.mq]
theorem sim_run {rs : List Rule} {f R : Nat} (hn : rs.length ≤ 100) : ∀ {ds : List Deed} {s t : WSt} {w : WK}, Sim rs f s w → runW rs.length R ds s = some t → (∀ d ∈ ds, d.ok) ∧ ∃ v, runT rs R (ds.map some) w = .ok v ∧ Sim rs f t v
  | [], s, t, w, S, h => by
    have e : s = t := Option.some.inj h
    rw [← e]
    exact ⟨fun d hd => (nomatch hd), w, rfl, S⟩
  | d :: ds, s, t, w, S, h => by
    have h : (stepW rs.length R s d).bind (runW rs.length R ds) = some t := h
    cases e : stepW rs.length R s d with
    | none =>
      rw [e] at h
      cases h
    | some u =>
      rw [e] at h
      obtain ⟨ok, v, hv, S2⟩ := sim_step hn S e
      obtain ⟨oks, z, hz, S3⟩ := sim_run hn S2 h
      refine ⟨fun d' hd => ?_, z, ?_, S3⟩
      · rcases List.mem_cons.mp hd with q | q
        · rw [q]; exact ok
        · exact oks d' q
      · show (match stepK rs R w d with | .ok v => runT rs R (ds.map some) v | .error i => .error i) = .ok z
        rw [hv]
        exact hz
theorem sim0 (rs : List Rule) (f : Nat) : Sim rs f (wst0 rs.length) (wk0 f rs.length) :=
  ⟨rfl, rfl, rfl, rfl, rfl, fun q hq => (nomatch hq), rfl, by show ((0 : Nat) : Int) + (rs.length : Int) = _; omega, Nat.zero_le _, fun x hx => (nomatch hx)⟩
/-- all states of a row -/
def rowN (f : Nat) (rs : List Rule) : List Nat := (List.range (rs.length + 1)).map fun p => stAt rs f p
theorem rowN_snoc (f : Nat) (rs : List Rule) (r : Rule) : rowN f (rs ++ [r]) = rowN f rs ++ [forthN r (lastN f rs)] := by
  unfold rowN
  rw [List.length_append]
  show (List.range (rs.length + 1 + 1)).map _ = _
  rw [List.range_succ, List.map_append]
  congr 1
  · refine List.map_congr_left fun p hp => ?_
    have := List.mem_range.mp hp
    unfold stAt
    rw [List.take_append_of_le_length (by omega)]
  · show [stAt (rs ++ [r]) f (rs.length + 1)] = _
    unfold stAt
    rw [List.take_of_length_le (by rw [List.length_append]; exact Nat.le_refl _), lastN_snoc]
theorem rowN_len (f : Nat) (rs : List Rule) : (rowN f rs).length = rs.length + 1 := by
  unfold rowN
  rw [List.length_map, List.length_range]
theorem rowN_last (f : Nat) (rs : List Rule) : (rowN f rs)[rs.length]? = some (lastN f rs) := by
  unfold rowN
  rw [List.getElem?_map, List.getElem?_range (by omega)]
  show some (stAt rs f rs.length) = _
  unfold stAt
  rw [List.take_length]
theorem sim_met {rs : List Rule} {f : Nat} {s : WSt} {w : WK} (S : Sim rs f s w) (h : s.wa = -1) : w.wa = none ∧ w.sn = (rowN f rs).reverse := by
  have a := S.wa
  rw [h] at a
  have e : w.wa = none := by
    cases e : w.wa with
    | none => rfl
    | some m =>
      rw [e] at a
      have a : (m : Int) = -1 := a
      omega
  refine ⟨e, ?_⟩
  have l := S.sl
  rw [e] at l
  have l : (w.sn.length : Int) + -1 = (rs.length : Int) := l
  have l : w.sn.length = rs.length + 1 := by omega
  rw [S.sn, l]
  apply List.ext_getElem?
  intro i
  by_cases hi : i < rs.length + 1
  · rw [List.getElem?_map, List.getElem?_range hi, List.getElem?_reverse (by rw [rowN_len]; exact hi), rowN_len]
    unfold rowN
    rw [List.getElem?_map, List.getElem?_range (by omega)]
    show some (stAt rs f (rs.length - i)) = some (stAt rs f (rs.length + 1 - 1 - i))
    rw [show rs.length + 1 - 1 - i = rs.length - i by omega]
  · rw [List.getElem?_eq_none (by rw [List.length_map, List.length_range]; omega), List.getElem?_eq_none (by rw [List.length_reverse, rowN_len]; omega)]
end BM

/-! ## Drawn deeds: a pile of tasks -/
namespace BM
/-- a task: from a kept place on, so many steps to be met with so much room; or a mark that is dropped -/
inductive Task where
  | meet (a m l : Nat)
  | close (a m l : Nat)
def Task.wt : Task → Nat
  | .meet _ m _ => 3 * m + 1
  | .close _ _ _ => 1
def Task.lo : Task → Int
  | .meet _ m l => costN m l
  | .close _ _ _ => 0
/-- what the hand must be ahead of the pile -/
def Pre (n R : Nat) : List Task → Nat → List Nat → Int → Prop
  | [], _, _, wa => wa = -1
  | .meet a m l :: ts, pl, M, wa => pl = a ∧ (∃ M', M = M' ++ [a]) ∧ (∀ x ∈ M, x ≤ a) ∧ M.Nodup ∧ wa = ((a + m : Nat) : Int) ∧ 1 ≤ l ∧ l ≤ 12 ∧ M.length + l ≤ R + 1 ∧ a + m ≤ n ∧ Pre n R ts a M ((a : Int) - 1)
  | .close a m l :: ts, pl, M, wa => ∃ M', M = M' ++ [a + m] ∧ 1 ≤ m ∧ a ∈ M' ∧ a + m ∉ M' ∧ pl = a + m ∧ wa = ((a + m : Nat) : Int) - 1 ∧ Pre n R ts a M' wa
theorem run_cons {n R : Nat} {d : Deed} {ds : List Deed} {s u t : WSt} (h : stepW n R s d = some u) (h2 : runW n R ds u = some t) : runW n R (d :: ds) s = some t := by
  show (stepW n R s d).bind (runW n R ds) = some t
  rw [h]
  exact h2
theorem run_snoc {n R : Nat} {ds es : List Deed} {s u t : WSt} (h : runW n R ds s = some u) (h2 : runW n R es u = some t) : runW n R (ds ++ es) s = some t := by
  rw [runW_append, h]
  exact h2
theorem filter_mid {M : List Nat} {a : Nat} (h : (M ++ [a]).Nodup) : (M ++ [a]).filter (· ≠ a) ++ [a] = M ++ [a] := by
  have ha : a ∉ M := by
    rw [List.nodup_append] at h
    intro z
    exact h.2.2 a z a (List.mem_singleton.mpr rfl) rfl
  rw [filter_last ha]
/-- gone in vain -/
theorem vain1 {n R a m : Nat} {M : List Nat} {wa : Int} {co mo : Nat} (hM : a ∈ M) (hm : a + 1 ≤ n) :
    runW n R [.go 1, .take a] { pl := a, mks := M, wa := wa, co := co, mo := mo } = some { pl := a, mks := M, wa := wa, co := co + 1, mo := mo } :=
  run_cons (if_pos ⟨by omega, hm⟩) (run_cons (if_pos hM) rfl)
theorem vain2 {n R a : Nat} {M : List Nat} {wa : Int} {co mo : Nat} (hM : (M ++ [a]).Nodup) (hR : (M ++ [a]).length ≤ R) :
    runW n R [.drop a, .keep] { pl := a, mks := M ++ [a], wa := wa, co := co, mo := mo } = some { pl := a, mks := M ++ [a], wa := wa, co := co, mo := max mo (M.length + 1) } := by
  have ha : a ∉ M := by
    rw [List.nodup_append] at hM
    intro z
    exact hM.2.2 a z a (List.mem_singleton.mpr rfl) rfl
  have h1 : stepW n R { pl := a, mks := M ++ [a], wa := wa, co := co, mo := mo } (.drop a) = some { pl := a, mks := M, wa := wa, co := co, mo := mo } := by
    show (if _ then _ else _) = _
    rw [if_pos (by simp), filter_last ha]
  refine run_cons h1 (run_cons (if_pos ⟨ha, ?_⟩) rfl)
  rw [List.length_append] at hR
  show M.length < R
  have : [a].length = 1 := rfl
  omega
/-- the deeds of one turn, and the tasks behind it -/
theorem turn_zero {n R a l : Nat} {ts : List Task} {pl : Nat} {M : List Nat} {wa : Int} {co mo : Nat} (h : Pre n R (.meet a 0 l :: ts) pl M wa) :
    ∃ s, runW n R [.meet] { pl := pl, mks := M, wa := wa, co := co, mo := mo } = some s ∧ Pre n R ts s.pl s.mks s.wa ∧ s.co = co := by
  obtain ⟨rfl, h2, h3, h4, rfl, h6, h6', h7, h8, h9⟩ := h
  refine ⟨{ pl := pl, mks := M, wa := ((pl + 0 : Nat) : Int) - 1, co := co, mo := mo }, run_cons (if_pos (by show (pl : Int) = ((pl + 0 : Nat) : Int); rfl)) rfl, ?_, rfl⟩
  have e : ((pl + 0 : Nat) : Int) - 1 = (pl : Int) - 1 := rfl
  show Pre n R ts pl M (((pl + 0 : Nat) : Int) - 1)
  rw [e]
  exact h9
theorem turn_end {n R a m l : Nat} {ts : List Task} {pl : Nat} {M : List Nat} {wa : Int} {co mo : Nat} (hm : 1 ≤ m) (h : Pre n R (.meet a m l :: ts) pl M wa) :
    ∃ s, runW n R [.go m, .meet, .take a] { pl := pl, mks := M, wa := wa, co := co, mo := mo } = some s ∧ Pre n R (.meet a (m - 1) l :: ts) s.pl s.mks s.wa ∧ s.co = co + m := by
  obtain ⟨rfl, ⟨M', rfl⟩, h3, h4, rfl, h6, h6', h7, h8, h9⟩ := h
  refine ⟨{ pl := pl, mks := M' ++ [pl], wa := ((pl + m : Nat) : Int) - 1, co := co + m, mo := mo }, run_cons (if_pos ⟨by omega, h8⟩) (run_cons (if_pos rfl) (run_cons (if_pos (by simp)) rfl)), ?_, rfl⟩
  refine ⟨rfl, ⟨M', rfl⟩, h3, h4, ?_, h6, h6', h7, by omega, h9⟩
  show ((pl + m : Nat) : Int) - 1 = ((pl + (m - 1) : Nat) : Int)
  omega
theorem turn_mark {n R a m l k : Nat} {ts : List Task} {pl : Nat} {M : List Nat} {wa : Int} {co mo : Nat} (hk : 1 ≤ k) (hkm : k ≤ m) (hl : 2 ≤ l) (h : Pre n R (.meet a m l :: ts) pl M wa) :
    ∃ s, runW n R [.go k, .keep] { pl := pl, mks := M, wa := wa, co := co, mo := mo } = some s ∧ Pre n R (.meet (a + k) (m - k) (l - 1) :: .close a k l :: .meet a (k - 1) l :: ts) s.pl s.mks s.wa ∧ s.co = co + k := by
  obtain ⟨rfl, ⟨M', rfl⟩, h3, h4, rfl, h6, h6', h7, h8, h9⟩ := h
  have hx : pl + k ∉ M' ++ [pl] := fun z => by
    have := h3 _ z
    omega
  have hlen : (M' ++ [pl]).length = M'.length + 1 := by rw [List.length_append] <;> rfl
  refine ⟨{ pl := pl + k, mks := (M' ++ [pl]) ++ [pl + k], wa := ((pl + m : Nat) : Int), co := co + k, mo := max mo ((M' ++ [pl]).length + 1) }, run_cons (if_pos ⟨by omega, by show pl + k ≤ n; omega⟩) (run_cons (if_pos ⟨hx, by show (M' ++ [pl]).length < R; omega⟩) rfl), ?_, rfl⟩
  refine ⟨rfl, ⟨M' ++ [pl], rfl⟩, fun x hx => ?_, nodup_snoc h4 hx, ?_, by omega, by omega, ?_, by omega, ?_⟩
  · rcases List.mem_append.mp hx with z | z
    · have := h3 x z
      omega
    · rw [List.mem_singleton.mp z]
      exact Nat.le_refl _
  · show ((pl + m : Nat) : Int) = ((pl + k + (m - k) : Nat) : Int)
    omega
  · rw [List.length_append]
    show (M' ++ [pl]).length + 1 + (l - 1) ≤ R + 1
    omega
  · refine ⟨M' ++ [pl], rfl, hk, by simp, hx, rfl, rfl, ?_⟩
    refine ⟨rfl, ⟨M', rfl⟩, h3, h4, ?_, h6, h6', h7, by omega, h9⟩
    show ((pl + k : Nat) : Int) - 1 = ((pl + (k - 1) : Nat) : Int)
    omega
theorem turn_close {n R a m l : Nat} {ts : List Task} {pl : Nat} {M : List Nat} {wa : Int} {co mo : Nat} (h : Pre n R (.close a m l :: ts) pl M wa) :
    ∃ s, runW n R [.drop (a + m), .take a] { pl := pl, mks := M, wa := wa, co := co, mo := mo } = some s ∧ Pre n R ts s.pl s.mks s.wa ∧ s.co = co := by
  obtain ⟨M', rfl, h2, h3, h4, rfl, rfl, h7⟩ := h
  have h1 : stepW n R { pl := a + m, mks := M' ++ [a + m], wa := ((a + m : Nat) : Int) - 1, co := co, mo := mo } (.drop (a + m)) = some { pl := a + m, mks := M', wa := ((a + m : Nat) : Int) - 1, co := co, mo := mo } := by
    show (if _ then _ else _) = _
    rw [if_pos (by simp), filter_last h4]
  exact ⟨{ pl := a, mks := M', wa := ((a + m : Nat) : Int) - 1, co := co, mo := mo }, run_cons h1 (run_cons (if_pos h3) rfl), h7, rfl⟩
theorem cost_end {m l : Nat} (hm : 1 ≤ m) (hm2 : m ≤ 100) (h1 : 1 ≤ l) (h2 : l ≤ 12) : costN m l ≤ (m : Int) + costN (m - 1) l := by
  by_cases c : l = 1
  · rw [c, cost_one (by omega), cost_one (by omega)]
    obtain ⟨k, rfl⟩ : ∃ k, m = k + 1 := ⟨m - 1, by omega⟩
    have e : ((k + 1 - 1 : Nat) : Int) = (k : Int) := rfl
    rw [e]
    have q : ((k + 1 : Nat) : Int) * (((k + 1 : Nat) : Int) + 1) = (k : Int) * ((k : Int) + 1) + 2 * ((k : Int) + 1) := by
      have e2 : ((k + 1 : Nat) : Int) = (k : Int) + 1 := rfl
      rw [e2, ← Int.add_mul, Int.mul_comm]
      rfl
    rw [q]
    omega
  · obtain ⟨r, rfl⟩ : ∃ r, l = r + 1 := ⟨l - 1, by omega⟩
    have := cost_mark (s := m) (r := r) (m := m) (by omega) (by omega) (by omega) hm (Nat.le_refl _)
    rw [Nat.sub_self] at this
    have z : costN 0 r = 0 := by
      have o := oft_le (s := 0) (r := r) (by omega) (by omega) (by omega)
      unfold costN
      rw [if_pos (by omega)]
    omega
theorem cost_zero {l : Nat} (h1 : 1 ≤ l) (h2 : l ≤ 12) : costN 0 l = 0 := by
  have o := oft_le (s := 0) (r := l) (by omega) (by omega) (by omega)
  unfold costN
  rw [if_pos (by omega)]
end BM

/-! ## Drawn deeds: turn by turn -/
namespace BM
def Task.a : Task → Nat
  | .meet a _ _ => a
  | .close a _ _ => a
def Task.z : Task → Int
  | .meet _ m _ => (m : Int)
  | .close _ m _ => -(m : Int)
def Task.l : Task → Nat
  | .meet _ _ l => l
  | .close _ _ l => l
def wts (ts : List Task) : Nat := (ts.map Task.wt).sum
def los (ts : List Task) : Int := (ts.map Task.lo).sum
theorem wts_cons (t : Task) (ts : List Task) : wts (t :: ts) = t.wt + wts ts := by
  unfold wts
  rw [List.map_cons, List.sum_cons]
theorem los_cons (t : Task) (ts : List Task) : los (t :: ts) = t.lo + los ts := by
  unfold los
  rw [List.map_cons, List.sum_cons]
/-- x: how many deeds of this turn are done -/
def DInv (n R x : Nat) (ds : List Deed) (ts : List Task) (tn : Nat) : Prop :=
  ∃ s, runW n R ds (wst0 n) = some s ∧ Pre n R ts s.pl s.mks s.wa ∧ costN n R ≤ (s.co : Int) + los ts ∧ ds.length + 5 * wts ts ≤ 5 * (3 * n + 1) + 1 + x ∧ tn + wts ts ≤ 3 * n + 1
def VainD (s e : Nat) (ds : List Deed) : Prop := (ds = [.go 1, .take s] ∧ s < e) ∨ ds = [.drop s, .keep] ∨ ds = []
theorem d_init {n R : Nat} (h1 : 1 ≤ R) (h2 : R ≤ 12) : DInv n R 0 [.keep] [.meet 0 n R] 0 := by
  refine ⟨{ pl := 0, mks := [0], wa := (n : Int), co := 0, mo := 1 }, run_cons (if_pos ⟨by show 0 ∉ ([] : List Nat); simp, by show ([] : List Nat).length < R; show 0 < R; omega⟩) rfl, ⟨rfl, ⟨[], rfl⟩, fun x hx => ?_, by simp, ?_, h1, h2, by show 1 + R ≤ R + 1; omega, by omega, ?_⟩, ?_, ?_, ?_⟩
  · have e : x = 0 := by simpa using hx
    omega
  · show (n : Int) = ((0 + n : Nat) : Int)
    rw [Nat.zero_add]
  · show ((0 : Nat) : Int) - 1 = -1
    rfl
  · rw [los_cons]
    show costN n R ≤ ((0 : Nat) : Int) + (costN n R + los [])
    have : los [] = 0 := rfl
    omega
  · rw [wts_cons]
    show 1 + 5 * ((3 * n + 1) + 0) ≤ _
    omega
  · rw [wts_cons]
    show 0 + ((3 * n + 1) + 0) ≤ _
    omega
theorem d_close {n R a k l tn : Nat} {ds : List Deed} {ts : List Task} (h : DInv n R 0 ds (.close a k l :: ts) tn) : DInv n R 0 (ds ++ [.drop (a + k), .take a]) ts (tn + 1) := by
  obtain ⟨s, hr, hp, hc, hl, ht⟩ := h
  obtain ⟨t, hr2, hp2, hc2⟩ := turn_close (co := s.co) (mo := s.mo) hp
  rw [los_cons] at hc
  rw [wts_cons] at hl ht
  have hc : costN n R ≤ (s.co : Int) + (0 + los ts) := hc
  have hl : ds.length + 5 * (1 + wts ts) ≤ 5 * (3 * n + 1) + 1 + 0 := hl
  have ht : tn + (1 + wts ts) ≤ 3 * n + 1 := ht
  refine ⟨t, run_snoc hr hr2, hp2, by omega, ?_, by omega⟩
  rw [List.length_append]
  show ds.length + 2 + _ ≤ _
  omega
theorem d_vain {n R a m l tn : Nat} {ds vs : List Deed} {ts : List Task} (h : DInv n R 0 ds (.meet a m l :: ts) tn) (hv : VainD a (a + m) vs) : DInv n R 2 (ds ++ vs) (.meet a m l :: ts) tn := by
  obtain ⟨⟨pl, M, wa, co, mo⟩, hr, hp, hc, hl, ht⟩ := h
  have hp : Pre n R (.meet a m l :: ts) pl M wa := hp
  have hc : costN n R ≤ (co : Int) + los (.meet a m l :: ts) := hc
  obtain ⟨e1, ⟨M', e2⟩, h3, h4, h5, h6, h6', h7, h8, h9⟩ := id hp
  subst e1
  subst e2
  rcases hv with ⟨rfl, hlt⟩ | rfl | rfl
  · refine ⟨{ pl := pl, mks := M' ++ [pl], wa := wa, co := co + 1, mo := mo }, run_snoc hr (vain1 (m := 0) (by simp) (by omega)), hp, ?_, ?_, ht⟩
    · show costN n R ≤ ((co + 1 : Nat) : Int) + _
      omega
    · rw [List.length_append]
      show ds.length + 2 + _ ≤ _
      omega
  · refine ⟨{ pl := pl, mks := M' ++ [pl], wa := wa, co := co, mo := max mo (M'.length + 1) }, run_snoc hr (vain2 h4 (by omega)), hp, hc, ?_, ht⟩
    rw [List.length_append]
    show ds.length + 2 + _ ≤ _
    omega
  · rw [List.append_nil]
    exact ⟨_, hr, hp, hc, by omega, ht⟩
theorem d_zero {n R a l tn : Nat} {ds : List Deed} {ts : List Task} (h : DInv n R 2 ds (.meet a 0 l :: ts) tn) : DInv n R 0 (ds ++ [.meet]) ts (tn + 1) := by
  obtain ⟨s, hr, hp, hc, hl, ht⟩ := h
  obtain ⟨t, hr2, hp2, hc2⟩ := turn_zero (co := s.co) (mo := s.mo) hp
  have hz := cost_zero (l := l) hp.2.2.2.2.2.1 hp.2.2.2.2.2.2.1
  rw [los_cons] at hc
  rw [wts_cons] at hl ht
  have hc : costN n R ≤ (s.co : Int) + (costN 0 l + los ts) := hc
  have hl : ds.length + 5 * (3 * 0 + 1 + wts ts) ≤ 5 * (3 * n + 1) + 1 + 2 := hl
  have ht : tn + (3 * 0 + 1 + wts ts) ≤ 3 * n + 1 := ht
  refine ⟨t, run_snoc hr hr2, hp2, by omega, ?_, by omega⟩
  rw [List.length_append]
  show ds.length + 1 + _ ≤ _
  omega
theorem d_end {n R a m l tn : Nat} {ds : List Deed} {ts : List Task} (hn : n ≤ 100) (hm : 1 ≤ m) (h : DInv n R 2 ds (.meet a m l :: ts) tn) : DInv n R 0 (ds ++ [.go m, .meet, .take a]) (.meet a (m - 1) l :: ts) (tn + 1) := by
  obtain ⟨s, hr, hp, hc, hl, ht⟩ := h
  obtain ⟨t, hr2, hp2, hc2⟩ := turn_end (co := s.co) (mo := s.mo) hm hp
  have hb := hp.2.2.2.2.2.2.2.2.1
  have hz := cost_end (m := m) (l := l) hm (by omega) hp.2.2.2.2.2.1 hp.2.2.2.2.2.2.1
  rw [los_cons] at hc
  rw [wts_cons] at hl ht
  have hc : costN n R ≤ (s.co : Int) + (costN m l + los ts) := hc
  have hl : ds.length + 5 * (3 * m + 1 + wts ts) ≤ 5 * (3 * n + 1) + 1 + 2 := hl
  have ht : tn + (3 * m + 1 + wts ts) ≤ 3 * n + 1 := ht
  refine ⟨t, run_snoc hr hr2, hp2, ?_, ?_, ?_⟩
  · rw [los_cons]
    show costN n R ≤ (t.co : Int) + (costN (m - 1) l + los ts)
    omega
  · rw [List.length_append, wts_cons]
    show ds.length + 3 + 5 * (3 * (m - 1) + 1 + wts ts) ≤ _
    omega
  · rw [wts_cons]
    show tn + 1 + (3 * (m - 1) + 1 + wts ts) ≤ _
    omega
theorem d_mark {n R a m l k tn : Nat} {ds : List Deed} {ts : List Task} (hn : n ≤ 100) (hk : 1 ≤ k) (hkm : k ≤ m) (hl2 : 2 ≤ l) (h : DInv n R 2 ds (.meet a m l :: ts) tn) :
    DInv n R 0 (ds ++ [.go k, .keep]) (.meet (a + k) (m - k) (l - 1) :: .close a k l :: .meet a (k - 1) l :: ts) (tn + 1) := by
  obtain ⟨s, hr, hp, hc, hl, ht⟩ := h
  obtain ⟨t, hr2, hp2, hc2⟩ := turn_mark (co := s.co) (mo := s.mo) hk hkm hl2 hp
  have hb := hp.2.2.2.2.2.2.2.2.1
  have hl12 := hp.2.2.2.2.2.2.1
  have hz := cost_mark (s := m) (r := l - 1) (m := k) (by omega) (by omega) (by omega) hk hkm
  rw [show l - 1 + 1 = l by omega] at hz
  rw [los_cons] at hc
  rw [wts_cons] at hl ht
  have hc : costN n R ≤ (s.co : Int) + (costN m l + los ts) := hc
  have hl : ds.length + 5 * (3 * m + 1 + wts ts) ≤ 5 * (3 * n + 1) + 1 + 2 := hl
  have ht : tn + (3 * m + 1 + wts ts) ≤ 3 * n + 1 := ht
  refine ⟨t, run_snoc hr hr2, hp2, ?_, ?_, ?_⟩
  · rw [los_cons, los_cons, los_cons]
    show costN n R ≤ (t.co : Int) + (costN (m - k) (l - 1) + (0 + (costN (k - 1) l + los ts)))
    omega
  · rw [List.length_append, wts_cons, wts_cons, wts_cons]
    show ds.length + 2 + 5 * (3 * (m - k) + 1 + (1 + (3 * (k - 1) + 1 + wts ts))) ≤ _
    omega
  · rw [wts_cons, wts_cons, wts_cons]
    show tn + 1 + (3 * (m - k) + 1 + (1 + (3 * (k - 1) + 1 + wts ts))) ≤ _
    omega
end BM

/-! ## Deeds as data -/
namespace BM
open PySem PySem.Spec PyProof.Rows L2
def Deed.pd : Deed → PyData
  | .keep => .tuple [.str "keep"]
  | .meet => .tuple [.str "meet"]
  | .take p => .tuple [.str "take", .int (p : Int)]
  | .drop p => .tuple [.str "drop", .int (p : Int)]
  | .go n => .tuple [.str "go", .int (n : Int)]
theorem Deed.sh (d : Deed) : Sh 1 d.pd := by
  have w : ∀ s : Str, (PyData.str s).canLay0 = true → Sh 1 (.tuple [.str s]) := fun s h => .tup fun d hd => by
    rw [List.mem_singleton.mp hd]
    exact .str h
  have w2 : ∀ (s : Str) (i : Int), (PyData.str s).canLay0 = true → Sh 1 (.tuple [.str s, .int i]) := fun s i h => .tup fun d hd => by
    rcases List.mem_cons.mp hd with e | hd
    · rw [e]; exact .str h
    · rw [List.mem_singleton.mp hd]; exact .int i
  cases d with
  | keep => exact w _ (by decide +kernel)
  | meet => exact w _ (by decide +kernel)
  | take p => exact w2 _ _ (by decide +kernel)
  | drop p => exact w2 _ _ (by decide +kernel)
  | go n => exact w2 _ _ (by decide +kernel)
theorem Deed.dp {K : PySem.W.Frag} {H : Hp} {a : Addr} (d : Deed) (h : H a = some (.tup d.vs)) : Dp K H (.ref a) d.pd := by
  cases d with
  | keep => exact .tup (SqT.of h) (.cons (.str _) .nil)
  | meet => exact .tup (SqT.of h) (.cons (.str _) .nil)
  | take p => exact .tup (SqT.of h) (.cons (.str _) (.cons (.int _) .nil))
  | drop p => exact .tup (SqT.of h) (.cons (.str _) (.cons (.int _) .nil))
  | go n => exact .tup (SqT.of h) (.cons (.str _) (.cons (.int _) .nil))
theorem deeds_dp {K : PySem.W.Frag} {H : Hp} : ∀ {ps : List (Addr × Deed)}, DS H ps → DpAll K H (refs ps) (ps.map fun q => q.2.pd)
  | [], _ => .nil
  | q :: ps, h => .cons (q.2.dp (h q List.mem_cons_self)) (deeds_dp fun x hx => h x (List.mem_cons_of_mem _ hx))
theorem deeds_sh (ps : List (Addr × Deed)) : Sh 2 (.list (ps.map fun q => q.2.pd)) := .lst fun d hd => by
  obtain ⟨q, _, rfl⟩ := List.mem_map.mp hd
  exact q.2.sh
theorem dp_nats {K : PySem.W.Frag} {H : Hp} : ∀ ns : List Nat, DpAll K H (ns.map fun (s : Nat) => V.int (s : Int)) (ns.map fun (s : Nat) => PyData.int (s : Int))
  | [] => .nil
  | i :: r => .cons (.int i) (dp_nats r)
theorem sh_nats {n : Nat} (ns : List Nat) : Sh (n + 1) (.list (ns.map fun (s : Nat) => PyData.int (s : Int))) := .lst fun d hd => by
  obtain ⟨i, _, rfl⟩ := List.mem_map.mp hd
  exact .int i
end BM

/-! ## Drawn deeds in memory: the deeds so far, the open tasks -/
namespace BM
open PySem PySem.Spec PyProof.Rows L2
def Task.vs (t : Task) : List V := [.int (t.a : Int), .int t.z, .int (t.l : Int)]
def Task.pd (t : Task) : PyData := .tuple [.int (t.a : Int), .int t.z, .int (t.l : Int)]
def refsT (as : List (Addr × Task)) : List V := as.map fun q => V.ref q.1
def TS (H : Hp) (as : List (Addr × Task)) : Prop := ∀ q ∈ as, H q.1 = some (.tup q.2.vs)
theorem TS.same {H H' : Hp} {as : List (Addr × Task)} (e : Same H H') (h : TS H as) : TS H' as := fun q hq => e _ _ (h q hq)
theorem tasks_dp {K : PySem.W.Frag} {H : Hp} : ∀ {as : List (Addr × Task)}, TS H as → DpAll K H (refsT as) (as.map fun q => q.2.pd)
  | [], _ => .nil
  | q :: as, h => .cons (.tup (SqT.of (h q List.mem_cons_self)) (.cons (.int _) (.cons (.int _) (.cons (.int _) .nil)))) (tasks_dp fun x hx => h x (List.mem_cons_of_mem _ hx))
theorem tasks_sh (as : List (Addr × Task)) : Sh 2 (.list (as.map fun q => q.2.pd)) := .lst fun d hd => by
  obtain ⟨q, _, rfl⟩ := List.mem_map.mp hd
  refine .tup fun e he => ?_
  simp only [List.mem_cons, List.not_mem_nil, or_false] at he
  rcases he with rfl | rfl | rfl
  · exact .int _
  · exact .int _
  · exact .int _
theorem eqv_nil {d : PyData} {ds : List PyData} : PyData.eqv (.list (d :: ds)) (.list []) = false := rfl
structure Pile (H0 H : Hp) (D T : Addr) (ps : List (Addr × Deed)) (as : List (Addr × Task)) : Prop where
  s : Same H0 H
  fD : H0 D = none
  fT : H0 T = none
  d : H D = some (.lst (refs ps))
  dd : DS H ps
  t : H T = some (.lst (refsT as))
  tt : TS H as
  ne : D ≠ T
section
variable {H0 H H' : Hp} {D T : Addr} {ps : List (Addr × Deed)} {as : List (Addr × Task)}
theorem Pile.same (P : Pile H0 H D T ps as) (e : Same H H') : Pile H0 H' D T ps as := ⟨P.s.trans e, P.fD, P.fT, e _ _ P.d, P.dd.same e, e _ _ P.t, P.tt.same e, P.ne⟩
theorem Pile.deeds (P : Pile H0 H D T ps as) {qs : List (Addr × Deed)} (hq : DS H qs) {vs : List V} (e : vs = refs ps ++ refs qs) : Pile H0 (upd H D (.lst vs)) D T (ps ++ qs) as := by
  have nd : ∀ {b : Addr} {xs : List V}, H b = some (.tup xs) → b ≠ D := fun h => ne_of h P.d (by intro z; cases z)
  refine ⟨Same.mut P.s P.fD, P.fD, P.fT, ?_, fun q hq' => ?_, ?_, fun q hq' => ?_, P.ne⟩
  · rw [upd_same, e, refs_append]
  · rcases List.mem_append.mp hq' with z | z
    · rw [upd_ne (nd (P.dd q z))]
      exact P.dd q z
    · rw [upd_ne (nd (hq q z))]
      exact hq q z
  · rw [upd_ne P.ne.symm]
    exact P.t
  · rw [upd_ne (nd (P.tt q hq'))]
    exact P.tt q hq'
theorem Pile.pop {b : Addr × Task} (P : Pile H0 H D T ps (as ++ [b])) : (refsT (as ++ [b]))[(refsT (as ++ [b])).length - 1]? = some (V.ref b.1) ∧ H b.1 = some (.tup b.2.vs) ∧ Pile H0 (upd H T (.lst (refsT (as ++ [b])).dropLast)) D T ps as ∧ (upd H T (.lst (refsT (as ++ [b])).dropLast)) b.1 = some (.tup b.2.vs) := by
  have nd : ∀ {b : Addr} {xs : List V}, H b = some (.tup xs) → b ≠ T := fun h => ne_of h P.t (by intro z; cases z)
  have e : refsT (as ++ [b]) = refsT as ++ [V.ref b.1] := by unfold refsT; rw [List.map_append] <;> rfl
  have hb := P.tt b (List.mem_append.mpr (.inr (List.mem_singleton.mpr rfl)))
  refine ⟨?_, hb, ⟨Same.mut P.s P.fT, P.fD, P.fT, ?_, fun q hq => ?_, ?_, fun q hq => ?_, P.ne⟩, ?_⟩
  · rw [e, List.length_append]
    show (refsT as ++ [V.ref b.1])[(refsT as).length + 1 - 1]? = _
    rw [Nat.add_sub_cancel, List.getElem?_append_right (Nat.le_refl _), Nat.sub_self] <;> rfl
  · rw [upd_ne P.ne]
    exact P.d
  · rw [upd_ne (nd (P.dd q hq))]
    exact P.dd q hq
  · rw [upd_same, e, List.dropLast_concat]
  · have := P.tt q (List.mem_append.mpr (.inl hq))
    rw [upd_ne (nd this)]
    exact this
  · rw [upd_ne (nd hb)]
    exact hb
theorem Pile.push (P : Pile H0 H D T ps as) {b : Addr × Task} (hb : H b.1 = some (.tup b.2.vs)) {v : V} (e : v = .ref b.1) : Pile H0 (upd H T (.lst (refsT as ++ [v]))) D T ps (as ++ [b]) := by
  have nd : ∀ {b : Addr} {xs : List V}, H b = some (.tup xs) → b ≠ T := fun h => ne_of h P.t (by intro z; cases z)
  refine ⟨Same.mut P.s P.fT, P.fD, P.fT, ?_, fun q hq => ?_, ?_, fun q hq => ?_, P.ne⟩
  · rw [upd_ne P.ne]
    exact P.d
  · rw [upd_ne (nd (P.dd q hq))]
    exact P.dd q hq
  · rw [upd_same, e]
    unfold refsT
    rw [List.map_append] <;> rfl
  · rcases List.mem_append.mp hq with z | z
    · rw [upd_ne (nd (P.tt q z))]
      exact P.tt q z
    · rw [List.mem_singleton.mp z, upd_ne (nd hb)]
      exact hb
end
end BM

/-! ## list(reversed(a list)) -/
namespace BM
open PySem PySem.Spec PyProof.Rows L2
section
variable {prog : Program} {w : World} {A : Around} {E : Value → Shared → Prop} {s : Shared}
theorem call_list_rev {it l : Addr} {items : Array Value} {Q : Value → Shared → Prop} (hh : A.handled = none) (hit : s.heap.IsRevIter it l ((items.size : Int) - 1)) (hl : s.heap.IsList l items) (hne : l ≠ it) (hn : items.size ≤ sizeLine)
    (hQ : ∀ (h' : Heap) (tk : Nat) (acc : Array Value) (c : Nat), (∀ b o, b ≠ it → s.heap.get? b = some o → h'.get? b = some o) → h'.get? s.heap.objs.size = some { cls := .type "list", dict := none, data := .seq acc c, slots := #[] } →
      ItemsOf (fun i v => items[items.size - 1 - i]? = some v) acc items.size → Q (.ref s.heap.objs.size) { s with heap := h', toks := tk }) :
    wpAny (model prog w) A (call (.type "list") [.ref it]) Q E s := by
  obtain ⟨oi, hoi, _⟩ := id hit
  obtain ⟨ol, hol, _⟩ := id hl
  have hSi : s.heap.objs.size ≠ it := Nat.ne_of_gt (Heap.lt_size hoi)
  have hSl : s.heap.objs.size ≠ l := Nat.ne_of_gt (Heap.lt_size hol)
  have hSf : s.heap.objs.size ∉ [it, l] := by simp only [List.mem_cons, List.not_mem_nil, or_false, not_or]; exact ⟨hSi, hSl⟩
  have W := (Walks.listRev (prog := prog) (w := w) (A := A.in1.in1) hh it l hne items).toS
  refine callType_codes (Q₁ := fun obj s₁ => obj = .ref s.heap.objs.size ∧ s₁ = { s with heap := s.heap.push { cls := .type "list", data := .seq #[] } }) F.called_list (F.typeCall_list_1 _) F.entry_list_init
    (code_list_new _ ⟨rfl, rfl⟩) fun obj s₁ h₁ => ?_
  obtain ⟨rfl, rfl⟩ := h₁
  have hS : (s.heap.push { cls := .type "list", data := .seq #[] }).get? s.heap.objs.size = some { cls := .type "list", data := .seq #[] } := Heap.get?_push_size _ rfl
  refine ⟨⟨_, hS, rfl⟩, F.args_list_init_2 _ _, ?_⟩
  show wpAny _ A.in1.in1 (do let old ← Builtin.List.listItems (.ref s.heap.objs.size); Builtin.List.listUpdate (.ref s.heap.objs.size) (fun _ => #[]); letGo old.toList.reverse; Builtin.List.listExtendWith (.ref s.heap.objs.size) (.ref it) .none) _ _ _
  refine wpAny_bind ?_
  unfold Builtin.List.listItems
  refine wpAny_bind (wpAny_seqItems hS rfl (wpAny_pure ?_))
  show wpAny _ A.in1.in1 (updateSeq s.heap.objs.size (fun _ => #[]) >>= fun _ => letGo (#[] : Array Value).toList.reverse >>= fun _ => Builtin.List.listExtendWith (.ref s.heap.objs.size) (.ref it) .none) _ _ _
  refine wpAny_bind (wpAny_updateSeq hS rfl ?_)
  have hS2 := Heap.get?_update_self (Obj.mapSeq (fun _ => (#[] : Array Value))) hS rfl
  refine wpAny_bind (wpAny_letGo ?_)
  have k2 : ∀ b o, s.heap.get? b = some o → ((s.heap.push { cls := .type "list", data := .seq #[] }).update s.heap.objs.size (Obj.mapSeq (fun _ => (#[] : Array Value)))).get? b = some o := fun b o e =>
    (Heap.get?_update_other _ _ (Ne.symm (Nat.ne_of_lt (Heap.lt_size e)))).trans (Heap.get?_push_of_some _ e)
  have hit2 := hit.at fun o e => k2 it o e
  have hl2 : ((s.heap.push { cls := .type "list", data := .seq #[] }).update s.heap.objs.size (Obj.mapSeq (fun _ => (#[] : Array Value)))).IsList l items := by
    obtain ⟨o, ho, r⟩ := hl
    exact ⟨o, k2 _ _ ho, r⟩
  have h1 : Builtin.List.listSameRef (.ref s.heap.objs.size) (.ref it) = false := by simp [Builtin.List.listSameRef, hSi]
  unfold Builtin.List.listExtendWith
  refine wpAny_bind (wpAny_typeOf (Heap.IsRevIter.typeIs (s := { s with heap := _ }) hit2) ?_)
  rw [if_neg (by rw [h1]; decide)]
  refine wpAny_bind (wpAny_pyIter_revIter (s := { s with heap := _ }) hit2 ?_)
  refine wpAny_bind (wpAny_holding ?_)
  unfold Builtin.List.listLengthHint
  refine wpAny_bind (wpAny_specialOf (Heap.IsRevIter.typeIs (s := { s with heap := _ }) hit2) RT.nolen_lri ?_)
  show wpAny _ A.in1.in1 (specialOf (Value.ref it) (Str.ofString "__length_hint__") >>= _) _ _ _
  refine wpAny_bind (wpAny_specialOf (Heap.IsRevIter.typeIs (s := { s with heap := _ }) hit2) RT.hint_lri ?_)
  generalize hid : ("list_reverseiterator.__length_hint__" : String) = id0
  wp_delta
  rw [show splitId id0 = some ("list_reverseiterator", "__length_hint__") from by subst hid; decide +kernel]
  subst hid
  refine wpAny_bind (wpAny_isInstance (b := true) (Heap.IsRevIter.typeIs (s := { s with heap := _ }) hit2) (by rw [isSubtype_type]; kernel_rfl) ?_)
  refine wpAny_pure ?_
  rw [if_neg (by decide)]
  have e0 : ((items.size : Nat) : Int) - 1 - ((0 : Nat) : Int) = (items.size : Int) - 1 := by omega
  refine wpAny_pure ⟨plainId_quiet F.plain_extend_loop _, codeAny_extend_loopS W hn _ hSf _ items.size 0 _ _ _ rfl (Nat.zero_le _) ⟨Nat.zero_le _, by rw [e0]; exact hit2, hl2⟩ hS2 (ItemsOf.nil _) fun s' acc' c' hm hS' hacc => ?_⟩
  refine ⟨rfl, ?_⟩
  rw [Moved.eq_with hm]
  refine hQ s'.heap s'.toks acc' c' (fun b o hb e => hm.heap b o (fun hmem => ?_) (k2 _ _ e)) hS' hacc
  rcases List.mem_cons.mp hmem with e' | hmem
  · exact absurd (Heap.lt_size e) (by rw [e']; exact Nat.lt_irrefl _)
  · exact hb (List.mem_singleton.mp hmem)
end
/-- a new list, the other way round -/
def tListRev (K : PySem.W.Frag) (te : TE) : TE := fun σ H Q => te σ H fun v H1 => ∃ (a : Addr) (xs : List V), v = .ref a ∧ SqL K H1 a xs ∧ ∀ q, H1 q = none → Q (.ref q) (upd H1 q (.lst xs.reverse))
theorem pe_listRev {X : Cx} {e : Expr} {te : TE} {p p2 pos pos2 : Pos} (hc : X.calm = true) (hg : Gl X "list") (hm : X.mg "list" = none) (hg2 : Gl X "reversed") (hm2 : X.mg "reversed" = none) (he : PE X e te)
    (hs : starEach [e] X.env = (false, eval e X.env) :: starEach [] X.env := by rfl)
    (hs2 : starEach [.Call (.Name "reversed" p2) [e] [] pos2] X.env = (false, eval (.Call (.Name "reversed" p2) [e] [] pos2) X.env) :: starEach [] X.env := by rfl) :
    PE X (.Call (.Name "list" p) [.Call (.Name "reversed" p2) [e] [] pos2] [] pos) (tListRev X.K te) := by
  refine ⟨fun pins s σ H Q I h => ?_⟩
  refine Call_ (ld_blt I hg hm boot_list (PyProof.Rows.callWith_type1 (args_cons (Call_ (ld_blt I hg2 hm2 PyProof.Rows.boot_reversed (PyProof.Rows.callWith_type1 (args_cons (thn (he.run pins s σ H _ I h) fun u s1 ⟨v, H1, I1, r1, q1⟩ => args_nil ?_) hs) hs rfl))) hs2) hs2 rfl))
  obtain ⟨a, xs, ev, hq, q⟩ := q1
  subst ev
  obtain rfl : u = Value.ref a := r1
  obtain ⟨its, rv, p', hz⟩ := I1.list hq
  refine call_reversed_list p'.isList (args_nil ?_)
  have k0 : ∀ b o, s1.heap.get? b = some o → (s1.heap.push (revObj a ((its.toArray.size : Int) - 1))).get? b = some o := fun b o e => Heap.get?_push_of_some _ e
  have hl := p'.isList
  obtain ⟨ol, hol, _⟩ := id hl
  have hne : a ≠ s1.heap.objs.size := Nat.ne_of_lt (Heap.lt_size hol)
  have hn : its.toArray.size ≤ sizeLine := by rw [List.size_toArray, ← rv.length]; exact hz
  refine call_list_rev (s := { s1 with heap := s1.heap.push (revObj a ((its.toArray.size : Int) - 1)) }) (I1.ok.hd hc) ⟨_, Heap.get?_push_size _ rfl, rfl, rfl⟩ (hl.push _) hne hn fun h' tk acc c hk hS hi => ?_
  have le : s1.heap.objs.size ≤ (s1.heap.push (revObj a ((its.toArray.size : Int) - 1))).objs.size := by
    show s1.heap.objs.size ≤ (s1.heap.objs.push _).size
    rw [Array.size_push]
    exact Nat.le_succ _
  exact ⟨.ref (s1.heap.push (revObj a ((its.toArray.size : Int) - 1))).objs.size, upd H1 _ (.lst xs.reverse), I1.laid (t' := tk) (fun b o e => hk b o (Nat.ne_of_lt (Heap.lt_size e)) (k0 b o e)) le (show ObjOk X.prog X.w _ h' _ (.lst xs.reverse) from ⟨by rw [List.length_reverse]; exact hz, acc.toList, c, RT.vals_rev rv hi, by rw [Array.toArray_toList]; exact hS⟩), rfl, q _ (I1.hok.fresh le)⟩
end BM

namespace BM
open PySem PySem.Spec PyProof.Rows L2
def top (i : Nat) : Stmt := PySem.Challenge.pw_backmarks_k10_whole_drawn_deeds.main.body.getD i (.Pass ⟨0, 0, 0, 0⟩)
abbrev s_is_among : Stmt := top 13
abbrev s_is_state : Stmt := top 14
abbrev s_is_rule : Stmt := top 15
abbrev s_need_row : Stmt := top 16
abbrev s_forth : Stmt := top 17
abbrev s_need_counts : Stmt := top 20
abbrev s_choices : Stmt := top 21
abbrev s_ways : Stmt := top 22
abbrev s_often : Stmt := top 23
abbrev s_cost : Stmt := top 24
abbrev s_least : Stmt := top 25
abbrev s_cost_of : Stmt := top 27
abbrev s_most_kept : Stmt := top 28
abbrev s_is_deed : Stmt := top 30
abbrev s_Walker_init : Stmt := inClass (top 32) 0
abbrev s_Walker_do : Stmt := inClass (top 32) 1
abbrev s_Walker_keep : Stmt := inClass (top 32) 2
abbrev s_Walker_go : Stmt := inClass (top 32) 3
abbrev s_Walker_meet : Stmt := inClass (top 32) 4
abbrev s_Walker_kept : Stmt := inClass (top 32) 5
abbrev s_Walker_met : Stmt := inClass (top 32) 6
abbrev s_walked : Stmt := top 34
abbrev s_l_cell_at : Stmt := top 36
abbrev s_l_number : Stmt := top 37
abbrev s_l_whole : Stmt := top 38
abbrev s_l_rule : Stmt := top 39
abbrev s_l_forth : Stmt := top 40
abbrev s_l_row : Stmt := top 41
abbrev s_l_states : Stmt := top 42
abbrev s_l_vain : Stmt := top 43
abbrev s_l_drawn : Stmt := top 44
abbrev s_l_sums : Stmt := top 45
abbrev s_law : Stmt := top 46
/-- what the top has left -/
structure Txt (K : PySem.W.Frag) (mg : Str → Option Value) : Type where
  aBadCount : Addr
  aBadRule : Addr
  aBadDeed : Addr
  aNotKept : Addr
  aTwice : Addr
  aFull : Addr
  aAtEnd : Addr
  aNotWanted : Addr
  aWalker : Addr
  d_is_among : Def K mg "is_among" "is_among" s_is_among ["thing", "low", "high"]
  d_is_state : Def K mg "is_state" "is_state" s_is_state ["thing"]
  d_is_rule : Def K mg "is_rule" "is_rule" s_is_rule ["thing"]
  d_need_row : Def K mg "need_row" "need_row" s_need_row ["first", "rules"]
  d_forth : Def K mg "forth" "forth" s_forth ["rule", "state"]
  d_need_counts : Def K mg "need_counts" "need_counts" s_need_counts ["steps", "room"]
  d_choices : Def K mg "choices" "choices" s_choices ["many", "chosen"]
  d_ways : Def K mg "ways" "ways" s_ways ["room", "times"]
  d_often : Def K mg "often" "often" s_often ["steps", "room"]
  d_cost : Def K mg "cost" "cost" s_cost ["steps", "room"]
  d_least : Def K mg "least" "least" s_least ["steps", "room"]
  d_cost_of : Def K mg "cost_of" "cost_of" s_cost_of ["deeds"]
  d_most_kept : Def K mg "most_kept" "most_kept" s_most_kept ["deeds"]
  d_is_deed : Def K mg "is_deed" "is_deed" s_is_deed ["thing"]
  d_walked : Def K mg "walked" "walked" s_walked ["first", "rules", "room", "deeds"]
  d_l_cell_at : Def K mg "_law_cell_at" "_law_cell_at" s_l_cell_at ["_law_script", "_law_k"]
  d_l_number : Def K mg "_law_number" "_law_number" s_l_number ["_law_script", "_law_k"]
  d_l_whole : Def K mg "_law_whole" "_law_whole" s_l_whole ["_law_found"]
  d_l_rule : Def K mg "_law_rule" "_law_rule" s_l_rule ["_law_number_here"]
  d_l_forth : Def K mg "_law_forth" "_law_forth" s_l_forth ["_law_rule_here", "_law_state"]
  d_l_row : Def K mg "_law_row" "_law_row" s_l_row ["_law_script", "_law_start", "_law_most"]
  d_l_states : Def K mg "_law_states" "_law_states" s_l_states ["_law_first", "_law_rules"]
  d_l_vain : Def K mg "_law_vain" "_law_vain" s_l_vain ["_law_start", "_law_place", "_law_steps", "_law_number_here"]
  d_l_drawn : Def K mg "_law_drawn" "_law_drawn" s_l_drawn ["_law_script", "_law_steps", "_law_room"]
  d_l_sums : Def K mg "_law_sums" "_law_sums" s_l_sums ["_law_deeds"]
  d_law : Def K mg "law" "law" s_law ["_law_script"]
  o_Walker : OCW K mg aWalker
  d_Walker_init : DefI K aWalker "__init__" "Walker.__init__" s_Walker_init ["self", "first", "rules", "room"]
  d_Walker_keep : DefM K aWalker "keep" "Walker.keep" s_Walker_keep ["self"]
  d_Walker_meet : DefM K aWalker "meet" "Walker.meet" s_Walker_meet ["self"]
  d_Walker_go : DefM K aWalker "go" "Walker.go" s_Walker_go ["self", "many"]
  d_Walker_do : DefM K aWalker "do" "Walker.do" s_Walker_do ["self", "deed"]
  d_Walker_met : DefM K aWalker "met" "Walker.met" s_Walker_met ["self"]
  c_MODULUS : ∃ t, mg "MODULUS" = some (.int 999983 t)
  c_MOST_STEPS : ∃ t, mg "MOST_STEPS" = some (.int 100 t)
  c_MOST_ROOM : ∃ t, mg "MOST_ROOM" = some (.int 12 t)
  n_isinstance : mg "isinstance" = none
  n_bool : mg "bool" = none
  n_int : mg "int" = none
  n_str : mg "str" = none
  n_len : mg "len" = none
  n_tuple : mg "tuple" = none
  n_list : mg "list" = none
  n_range : mg "range" = none
  n_sum : mg "sum" = none
  n_max : mg "max" = none
  n_reversed : mg "reversed" = none
  n_all : mg "all" = none
  x_BadCount : XC K mg "BadCount" aBadCount
  x_BadRule : XC K mg "BadRule" aBadRule
  x_BadDeed : XC K mg "BadDeed" aBadDeed
  x_NotKept : XC K mg "NotKept" aNotKept
  x_Twice : XC K mg "Twice" aTwice
  x_Full : XC K mg "Full" aFull
  x_AtEnd : XC K mg "AtEnd" aAtEnd
  x_NotWanted : XC K mg "NotWanted" aNotWanted
def Txt.w8 {K : PySem.W.Frag} {mg : Str → Option Value} (T : Txt K mg) : Nat → Addr := fun j => [0, 0, T.aBadDeed, T.aFull, T.aTwice, T.aNotKept, T.aAtEnd, T.aNotWanted].getD j 0
theorem sc_is_among : FnScope ["thing", "low", "high"] ["thing", "low", "high"] (defScope s_is_among) := ⟨rfl, rfl, rfl, by decide +kernel, rfl, by decide +kernel, by decide +kernel⟩
theorem sc_is_state : FnScope ["thing"] ["thing"] (defScope s_is_state) := ⟨rfl, rfl, rfl, by decide +kernel, rfl, by decide +kernel, by decide +kernel⟩
theorem sc_is_rule : FnScope ["thing"] ["thing"] (defScope s_is_rule) := ⟨rfl, rfl, rfl, by decide +kernel, rfl, by decide +kernel, by decide +kernel⟩
theorem sc_need_row : FnScope ["first", "rules", "rule"] ["first", "rules"] (defScope s_need_row) := ⟨rfl, rfl, rfl, by decide +kernel, rfl, by decide +kernel, by decide +kernel⟩
theorem sc_forth : FnScope ["rule", "state"] ["rule", "state"] (defScope s_forth) := ⟨rfl, rfl, rfl, by decide +kernel, rfl, by decide +kernel, by decide +kernel⟩
theorem sc_need_counts : FnScope ["steps", "room"] ["steps", "room"] (defScope s_need_counts) := ⟨rfl, rfl, rfl, by decide +kernel, rfl, by decide +kernel, by decide +kernel⟩
theorem sc_choices : FnScope ["many", "chosen", "found", "turn"] ["many", "chosen"] (defScope s_choices) := ⟨rfl, rfl, rfl, by decide +kernel, rfl, by decide +kernel, by decide +kernel⟩
theorem sc_ways : FnScope ["room", "times"] ["room", "times"] (defScope s_ways) := ⟨rfl, rfl, rfl, by decide +kernel, rfl, by decide +kernel, by decide +kernel⟩
theorem sc_often : FnScope ["steps", "room", "times"] ["steps", "room"] (defScope s_often) := ⟨rfl, rfl, rfl, by decide +kernel, rfl, by decide +kernel, by decide +kernel⟩
theorem sc_cost : FnScope ["steps", "room", "times"] ["steps", "room"] (defScope s_cost) := ⟨rfl, rfl, rfl, by decide +kernel, rfl, by decide +kernel, by decide +kernel⟩
theorem sc_least : FnScope ["steps", "room"] ["steps", "room"] (defScope s_least) := ⟨rfl, rfl, rfl, by decide +kernel, rfl, by decide +kernel, by decide +kernel⟩
theorem sc_cost_of : FnScope ["deeds", "deed"] ["deeds"] (defScope s_cost_of) := ⟨rfl, rfl, rfl, by decide +kernel, rfl, by decide +kernel, by decide +kernel⟩
theorem sc_most_kept : FnScope ["deeds", "many", "most", "deed"] ["deeds"] (defScope s_most_kept) := ⟨rfl, rfl, rfl, by decide +kernel, rfl, by decide +kernel, by decide +kernel⟩
theorem sc_is_deed : FnScope ["thing"] ["thing"] (defScope s_is_deed) := ⟨rfl, rfl, rfl, by decide +kernel, rfl, by decide +kernel, by decide +kernel⟩
theorem sc_Walker_init : FnScope ["self", "first", "rules", "room"] ["self", "first", "rules", "room"] (defScope s_Walker_init) := ⟨rfl, rfl, rfl, by decide +kernel, rfl, by decide +kernel, by decide +kernel⟩
theorem sc_Walker_keep : FnScope ["self"] ["self"] (defScope s_Walker_keep) := ⟨rfl, rfl, rfl, by decide +kernel, rfl, by decide +kernel, by decide +kernel⟩
theorem sc_Walker_meet : FnScope ["self"] ["self"] (defScope s_Walker_meet) := ⟨rfl, rfl, rfl, by decide +kernel, rfl, by decide +kernel, by decide +kernel⟩
theorem sc_Walker_go : FnScope ["self", "many", "rule"] ["self", "many"] (defScope s_Walker_go) := ⟨rfl, rfl, rfl, by decide +kernel, rfl, by decide +kernel, by decide +kernel⟩
theorem sc_Walker_do : FnScope ["self", "deed"] ["self", "deed"] (defScope s_Walker_do) := ⟨rfl, rfl, rfl, by decide +kernel, rfl, by decide +kernel, by decide +kernel⟩
theorem sc_Walker_met : FnScope ["self"] ["self"] (defScope s_Walker_met) := ⟨rfl, rfl, rfl, by decide +kernel, rfl, by decide +kernel, by decide +kernel⟩
theorem sc_walked : FnScope ["first", "rules", "room", "deeds", "walker", "deed"] ["first", "rules", "room", "deeds"] (defScope s_walked) := ⟨rfl, rfl, rfl, by decide +kernel, rfl, by decide +kernel, by decide +kernel⟩
theorem sc_l_cell_at : FnScope ["_law_script", "_law_k"] ["_law_script", "_law_k"] (defScope s_l_cell_at) := ⟨rfl, rfl, rfl, by decide +kernel, rfl, by decide +kernel, by decide +kernel⟩
theorem sc_l_number : FnScope ["_law_script", "_law_k", "_law_base"] ["_law_script", "_law_k"] (defScope s_l_number) := ⟨rfl, rfl, rfl, by decide +kernel, rfl, by decide +kernel, by decide +kernel⟩
theorem sc_l_whole : FnScope ["_law_found"] ["_law_found"] (defScope s_l_whole) := ⟨rfl, rfl, rfl, by decide +kernel, rfl, by decide +kernel, by decide +kernel⟩
theorem sc_l_rule : FnScope ["_law_number_here", "_law_k"] ["_law_number_here"] (defScope s_l_rule) := ⟨rfl, rfl, rfl, by decide +kernel, rfl, by decide +kernel, by decide +kernel⟩
theorem sc_l_forth : FnScope ["_law_rule_here", "_law_state"] ["_law_rule_here", "_law_state"] (defScope s_l_forth) := ⟨rfl, rfl, rfl, by decide +kernel, rfl, by decide +kernel, by decide +kernel⟩
theorem sc_l_row : FnScope ["_law_script", "_law_start", "_law_most", "_law_first", "_law_many", "_law_k"] ["_law_script", "_law_start", "_law_most"] (defScope s_l_row) := ⟨rfl, rfl, rfl, by decide +kernel, rfl, by decide +kernel, by decide +kernel⟩
theorem sc_l_states : FnScope ["_law_first", "_law_rules", "_law_found", "_law_rule_here"] ["_law_first", "_law_rules"] (defScope s_l_states) := ⟨rfl, rfl, rfl, by decide +kernel, rfl, by decide +kernel, by decide +kernel⟩
theorem sc_l_vain : FnScope ["_law_start", "_law_place", "_law_steps", "_law_number_here"] ["_law_start", "_law_place", "_law_steps", "_law_number_here"] (defScope s_l_vain) := ⟨rfl, rfl, rfl, by decide +kernel, rfl, by decide +kernel, by decide +kernel⟩
theorem sc_l_drawn : FnScope ["_law_script", "_law_steps", "_law_room", "_law_deeds", "_law_tasks", "_law_turn", "_law_start", "_law_many", "_law_left", "_law_number_here", "_law_mark"] ["_law_script", "_law_steps", "_law_room"] (defScope s_l_drawn) := ⟨rfl, rfl, rfl, by decide +kernel, rfl, by decide +kernel, by decide +kernel⟩
theorem sc_l_sums : FnScope ["_law_deeds", "_law_price", "_law_kept", "_law_most", "_law_deed"] ["_law_deeds"] (defScope s_l_sums) := ⟨rfl, rfl, rfl, by decide +kernel, rfl, by decide +kernel, by decide +kernel⟩
theorem sc_law : FnScope ["_law_script", "_law_steps", "_law_first", "_law_rules", "_law_room", "_law_deeds", "_law_price", "_law_most", "_law_handed", "_law_walker", "_law_told", "_law_several", "_law_k", "_law_one", "_law_deed"] ["_law_script"] (defScope s_law) := ⟨rfl, rfl, rfl, by decide +kernel, rfl, by decide +kernel, by decide +kernel⟩
section
variable {P : Program} {w : World} {K : PySem.W.Frag} {mg : Str → Option Value} {base : Heap}
/-- is_among(thing, low, high) -/
def sp_is_among (K : PySem.W.Frag) : Sp := fun vs H Q _ => ∃ (x : V) (lo hi : Int) (o : Option Int), vs = [x, .int lo, .int hi] ∧ Thg K H x o ∧ Q (.bl (among o lo hi)) H
theorem ok_is_among (T : Txt K mg) : OkF P w K mg base "is_among" 1 ["thing", "low", "high"] (sp_is_among K) := by
  refine okf T.d_is_among sc_is_among (fun vs H Q E h => ?_) (fun f cdv A outer s H vs Q E hr h => ?_)
  · obtain ⟨x, lo, hi, o, rfl, th, k⟩ := h
    rfl
  · obtain ⟨x, lo, hi, o, rfl, th, k⟩ := h
    refine ⟨_, (pss_one (ps_ret (pe_and (pe_callB call_isi (by rfl) T.n_isinstance (by decide +kernel) (pa_cons (pv 0) (pa_cons (pe_bltn (v := .ty "int") (by rfl) T.n_int (by decide +kernel) rfl) pa_nil))) (pe_and (pe_not (pe_callB call_isi (by rfl) T.n_isinstance (by decide +kernel) (pa_cons (pv 0) (pa_cons (pe_bltn (v := .ty "bool") (by rfl) T.n_bool (by decide +kernel) rfl) pa_nil)))) (pe_one (pe_chain op_le op_le (pv 1) (pv 0) (pv 2))))))), ?_⟩
    refine ⟨_, rfl, ?_⟩
    cases th with
    | int i =>
      refine ⟨_, _, _, _, true, rfl, .ty "int", .base (.int i), kit_ty (by decide +kernel), true, rfl, iteT ?_⟩
      refine ⟨_, rfl, _, _, _, _, false, rfl, .ty "bool", .base (.int i), kit_ty (by decide +kernel), false, rfl, true, rfl, iteT ?_⟩
      refine ⟨_, rfl, _, rfl, _, _, rfl, rfl, _, rfl, ?_⟩
      refine ite2 (fun c => ?_) (fun c => ?_)
      · refine ⟨_, rfl, _, _, rfl, rfl, ?_⟩
        have e : among (some i) lo hi = decide (i ≤ hi) := by
          show (decide (lo ≤ i) && decide (i ≤ hi)) = decide (i ≤ hi)
          rw [c, Bool.true_and]
        rw [e] at k
        exact k
      · have e : among (some i) lo hi = false := by
          show (decide (lo ≤ i) && decide (i ≤ hi)) = false
          rw [Bool.eq_false_iff.mpr c, Bool.false_and]
        rw [e] at k
        exact k
    | bl b =>
      refine ⟨_, _, _, _, true, rfl, .ty "int", .base (.bl b), kit_ty (by decide +kernel), true, rfl, iteT ?_⟩
      refine ⟨_, rfl, _, _, _, _, true, rfl, .ty "bool", .base (.bl b), kit_ty (by decide +kernel), true, rfl, false, rfl, iteF ?_⟩
      exact k
    | oth ty ni =>
      refine ⟨_, _, _, _, false, rfl, .ty "int", ty, ni, false, rfl, iteF ?_⟩
      exact k
def sp_is_state (K : PySem.W.Frag) : Sp := fun vs H Q _ => ∃ (x : V) (o : Option Int), vs = [x] ∧ Thg K H x o ∧ Q (.bl (among o 0 999982)) H
theorem ok_is_state (T : Txt K mg) : OkF P w K mg base "is_state" 2 ["thing"] (sp_is_state K) := by
  obtain ⟨f_is_among, fd_is_among, m_is_among, k_is_among, b_is_among, G_is_among⟩ := ok_is_among (P := P) (w := w) (base := base) T
  refine okf T.d_is_state sc_is_state (fun vs H Q E h => ?_) (fun f cdv A outer s H vs Q E hr h => ?_)
  · obtain ⟨x, o, rfl, th, k⟩ := h
    rfl
  · obtain ⟨x, o, rfl, th, k⟩ := h
    refine ⟨_, (pss_one (ps_ret (pe_call G_is_among (hr.mono (by decide)) (by rfl) m_is_among k_is_among b_is_among .nil passL (pa_cons (pv 0) (pa_cons pe_int (pa_cons (pe_op op_sub (pe_glob (v := .int 999983) (by rfl) T.c_MODULUS.choose_spec ⟨_, rfl⟩) pe_int) pa_nil)))))), ?_⟩
    exact ⟨_, rfl, _, _, rfl, rfl, x, 0, 999982, o, rfl, th, k⟩
def sp_is_rule (K : PySem.W.Frag) : Sp := fun vs H Q _ => ∃ (x : V) (b : Bool), vs = [x] ∧ RuleTh K H x b ∧ Q (.bl b) H
theorem str_eq (w v : Str) : decide (V.str w = V.str v) = decide (w = v) := decide_eq_decide.mpr ⟨V.str.inj, fun e => by rw [e]⟩
theorem len_ne0 {v : V} {r : List V} : decide (V.int ((v :: r).length : Int) = V.int 0) = false := decide_eq_false (fun z => by have := V.int.inj z; rw [List.length_cons] at this; omega)
def RTail (K : PySem.W.Frag) (H : Hp) (w : Str) (r : List V) (b : Bool) : Prop :=
  ((w = "add" ∨ w = "times") ∧ r.length ≠ 1 ∧ b = false) ∨ (∃ v o, (w = "add" ∨ w = "times") ∧ r = [v] ∧ Thg K H v o ∧ b = among o 0 999982) ∨ (w ≠ "add" ∧ w ≠ "times" ∧ b = (decide (r = []) && (decide (w = "square") || decide (w = "half"))))
theorem ok_is_rule (T : Txt K mg) : OkF P w K mg base "is_rule" 3 ["thing"] (sp_is_rule K) := by
  obtain ⟨f_is_state, fd_is_state, m_is_state, k_is_state, b_is_state, G_is_state⟩ := ok_is_state (P := P) (w := w) (base := base) T
  refine okf T.d_is_rule sc_is_rule (fun vs H Q E h => ?_) (fun f cdv A outer s H vs Q E hr h => ?_)
  · obtain ⟨x, b, rfl, th, k⟩ := h
    rfl
  · obtain ⟨x, b, rfl, th, k⟩ := h
    refine ⟨_, (Evl.pss_cut (ps_if (PW.pt (pw_or (pt_not (pt_val (pe_callB call_isi (by rfl) T.n_isinstance (by decide +kernel) (pa_cons (pv 0) (pa_cons (pe_bltn (v := .ty "tuple") (by rfl) T.n_tuple (by decide +kernel) rfl) pa_nil))))) (pw_or (pt_cmpR op_eq (pe_callB call_len_seq (by rfl) T.n_len PySem.boot_len (pa_cons (pv 0) pa_nil)) pe_int (nomark _)) (pw_or1 (pt_not (pt_val (pe_callB call_isi (by rfl) T.n_isinstance (by decide +kernel) (pa_cons (pe_ix ix_tup (pv 0) pe_int (fun _ _ => rfl)) (pa_cons (pe_bltn (v := .ty "str") (by rfl) T.n_str (by decide +kernel) rfl) pa_nil)))))))))
        (pss_one (ps_ret pe_bl))
        pss_nil)
        (Evl.pss_cut (ps_if (PW.pt (pw_or (pt_cmpR op_eq (pe_ix ix_tup (pv 0) pe_int (fun _ _ => rfl)) pe_str (nomark _)) (pw_or1 (pt_cmpR op_eq (pe_ix ix_tup (pv 0) pe_int (fun _ _ => rfl)) pe_str (nomark _)))))
        (pss_one (ps_ret (pe_and (pe_cmpR op_eq (pe_callB call_len_seq (by rfl) T.n_len PySem.boot_len (pa_cons (pv 0) pa_nil)) pe_int (nomark _)) (pe_one (pe_call G_is_state (hr.mono (by decide)) (by rfl) m_is_state k_is_state b_is_state .nil passL (pa_cons (pe_ix ix_tup (pv 0) pe_int (fun _ _ => rfl)) pa_nil))))))
        pss_nil)
        (pss_one (ps_ret (pe_and (pe_cmpR op_eq (pe_callB call_len_seq (by rfl) T.n_len PySem.boot_len (pa_cons (pv 0) pa_nil)) pe_int (nomark _)) (pe_one (pe_or (pe_cmpR op_eq (pe_ix ix_tup (pv 0) pe_int (fun _ _ => rfl)) pe_str (nomark _)) (pe_one (pe_cmpR op_eq (pe_ix ix_tup (pv 0) pe_int (fun _ _ => rfl)) pe_str (nomark _)))))))))), ?_⟩
    refine ⟨fun σ H' => H' = H ∧ σ = [some x] ∧ ∃ q w r, x = .ref q ∧ H q = some (.tup (.str w :: r)) ∧ RTail K H w r b, ?_, ?_⟩
    · cases th with
      | ntup ty ni =>
        exact ⟨_, rfl, x, _, _, _, false, rfl, .ty "tuple", ty, ni, false, rfl, iteT k⟩
      | @nil q hq =>
        refine ⟨_, rfl, .ref q, _, _, _, true, rfl, .ty "tuple", .base (.tup hq), kit_ty (by decide +kernel), true, rfl, iteF ?_⟩
        exact ⟨_, rfl, q, _, rfl, .inr (SqT.of hq), rfl, _, rfl, iteT k⟩
      | @nstr q v r t hq ty ni =>
        refine ⟨_, rfl, .ref q, _, _, _, true, rfl, .ty "tuple", .base (.tup hq), kit_ty (by decide +kernel), true, rfl, iteF ?_⟩
        refine ⟨_, rfl, q, _, rfl, .inr (SqT.of hq), rfl, _, rfl, ?_⟩
        rw [len_ne0]
        refine iteF ?_
        exact ⟨_, rfl, q, _, _, v, rfl, rfl, SqT.of hq, atI_nat (j := 0) rfl, v, _, _, _, false, rfl, .ty "str", ty, ni, false, rfl, iteT k⟩
      | @two q w r hq hw hl =>
        refine ⟨_, rfl, .ref q, _, _, _, true, rfl, .ty "tuple", .base (.tup hq), kit_ty (by decide +kernel), true, rfl, iteF ?_⟩
        refine ⟨_, rfl, q, _, rfl, .inr (SqT.of hq), rfl, _, rfl, ?_⟩
        rw [len_ne0]
        refine iteF ?_
        exact ⟨_, rfl, q, _, _, .str w, rfl, rfl, SqT.of hq, atI_nat (j := 0) rfl, .str w, _, _, _, true, rfl, .ty "str", .base (.str _), kit_ty (by decide +kernel), true, rfl, iteF ⟨rfl, rfl, q, w, r, rfl, hq, .inl ⟨hw, hl, rfl⟩⟩⟩
      | @num q w v o hq hw th =>
        refine ⟨_, rfl, .ref q, _, _, _, true, rfl, .ty "tuple", .base (.tup hq), kit_ty (by decide +kernel), true, rfl, iteF ?_⟩
        refine ⟨_, rfl, q, _, rfl, .inr (SqT.of hq), rfl, _, rfl, iteF ?_⟩
        exact ⟨_, rfl, q, _, _, .str w, rfl, rfl, SqT.of hq, atI_nat (j := 0) rfl, .str w, _, _, _, true, rfl, .ty "str", .base (.str _), kit_ty (by decide +kernel), true, rfl, iteF ⟨rfl, rfl, q, w, _, rfl, hq, .inr (.inl ⟨v, o, hw, rfl, th, rfl⟩)⟩⟩
      | @one q w r _ hq h1 h2 hb =>
        refine ⟨_, rfl, .ref q, _, _, _, true, rfl, .ty "tuple", .base (.tup hq), kit_ty (by decide +kernel), true, rfl, iteF ?_⟩
        refine ⟨_, rfl, q, _, rfl, .inr (SqT.of hq), rfl, _, rfl, ?_⟩
        rw [len_ne0]
        refine iteF ?_
        exact ⟨_, rfl, q, _, _, .str w, rfl, rfl, SqT.of hq, atI_nat (j := 0) rfl, .str w, _, _, _, true, rfl, .ty "str", .base (.str _), kit_ty (by decide +kernel), true, rfl, iteF ⟨rfl, rfl, q, w, r, rfl, hq, .inr (.inr ⟨h1, h2, hb⟩)⟩⟩
    rintro σ H' ⟨rfl, rfl, q, w, r, rfl, hq, tl⟩
    refine ⟨fun σ H1 => H1 = H' ∧ σ = [some (.ref q)] ∧ b = (decide (r = []) && (decide (w = "square") || decide (w = "half"))), ?_, ?_⟩
    · have go : (w = "add" ∨ w = "times") → (tAndV (tOp rEq (tCB (fun xs H Q => ∃ p ys, xs = [V.ref p] ∧ (SqL K H p ys ∨ SqT K H p ys) ∧ Q (V.int ys.length) H) (tCons (tVar 0) tNil)) (tC (.int 2))) (tCall (sp_is_state K) [] E0 (tCons (tOp (rIxT K) (tVar 0) (tC (.int 1))) tNil))) [some (.ref q)] H' (fun v H2 => Q v H2) := fun hw => by
        refine ⟨_, rfl, q, _, rfl, .inr (SqT.of hq), rfl, _, rfl, ?_⟩
        rcases tl with ⟨_, hl, hb⟩ | ⟨v, o, _, rfl, th, hb⟩ | ⟨h1, h2, _⟩
        · rw [show decide (V.int ((V.str w :: r).length : Int) = V.int 2) = false from decide_eq_false (fun z => by have := V.int.inj z; rw [List.length_cons] at this; omega)]
          rw [hb] at k
          exact iteF k
        · refine iteT ?_
          rw [hb] at k
          exact ⟨_, rfl, q, _, _, v, rfl, rfl, SqT.of hq, atI_nat (j := 1) rfl, v, o, rfl, th, k⟩
        · exact absurd hw (fun z => z.elim h1 h2)
      refine ⟨_, rfl, q, _, _, .str w, rfl, rfl, SqT.of hq, atI_nat (j := 0) rfl, rfl, _, rfl, ?_⟩
      rw [str_eq]
      refine ite2 (fun c => ?_) (fun c => ?_)
      · exact iteT (go (.inl (of_decide_eq_true c)))
      · refine ⟨_, rfl, q, _, _, .str w, rfl, rfl, SqT.of hq, atI_nat (j := 0) rfl, rfl, _, rfl, ?_⟩
        rw [str_eq]
        refine ite2 (fun c2 => ?_) (fun c2 => ?_)
        · exact go (.inr (of_decide_eq_true c2))
        · rcases tl with ⟨hw, _⟩ | ⟨v, o, hw, _⟩ | ⟨h1, h2, hb⟩
          · exact absurd hw (fun z => z.elim (fun z => c (decide_eq_true z)) (fun z => c2 (decide_eq_true z)))
          · exact absurd hw (fun z => z.elim (fun z => c (decide_eq_true z)) (fun z => c2 (decide_eq_true z)))
          · exact ⟨rfl, rfl, hb⟩
    rintro σ H1 ⟨rfl, rfl, hb⟩
    refine ⟨_, rfl, q, _, rfl, .inr (SqT.of hq), rfl, _, rfl, ?_⟩
    have el : decide (V.int ((V.str w :: r).length : Int) = V.int 1) = decide (r = []) := decide_eq_decide.mpr ⟨fun z => by
      have := V.int.inj z
      rw [List.length_cons] at this
      exact List.length_eq_zero_iff.mp (by omega), fun z => by rw [z] <;> rfl⟩
    rw [el]
    rw [hb] at k
    refine ite2 (fun c => ?_) (fun c => ?_)
    · rw [c, Bool.true_and] at k
      refine ⟨_, rfl, q, _, _, .str w, rfl, rfl, SqT.of hq, atI_nat (j := 0) rfl, rfl, _, rfl, ?_⟩
      rw [str_eq]
      refine ite2 (fun c1 => ?_) (fun c1 => ?_)
      · rw [c1, Bool.true_or] at k
        exact k
      · rw [Bool.eq_false_iff.mpr c1, Bool.false_or] at k
        refine ⟨_, rfl, q, _, _, .str w, rfl, rfl, SqT.of hq, atI_nat (j := 0) rfl, rfl, ?_⟩
        rw [str_eq]
        exact k
    · rw [Bool.eq_false_iff.mpr c, Bool.false_and] at k
      exact k
def sp_need_row (K : PySem.W.Frag) (C1 C2 : Addr) : Sp := fun vs H Q E => ∃ (x y : V) (o : Option Int) (b : Bool), vs = [x, y] ∧ Thg K H x o ∧ ListTh K H y b ∧ (among o 0 999982 = false → E (.ref C1) none H) ∧ (among o 0 999982 = true → b = false → E (.ref C2) none H) ∧ (among o 0 999982 = true → b = true → Q .non H)
theorem ok_need_row (T : Txt K mg) : OkF P w K mg base "need_row" 4 ["first", "rules"] (sp_need_row K T.aBadCount T.aBadRule) := by
  obtain ⟨f_is_state, fd_is_state, m_is_state, k_is_state, b_is_state, G_is_state⟩ := ok_is_state (P := P) (w := w) (base := base) T
  obtain ⟨f_is_rule, fd_is_rule, m_is_rule, k_is_rule, b_is_rule, G_is_rule⟩ := ok_is_rule (P := P) (w := w) (base := base) T
  refine okf T.d_need_row sc_need_row (fun vs H Q E h => ?_) (fun f cdv A outer s H vs Q E hr h => ?_)
  · obtain ⟨x, y, o, b, rfl, tx, ty, k1, k2, k3⟩ := h
    rfl
  · obtain ⟨x, y, o, b, rfl, tx, ty, k1, k2, k3⟩ := h
    refine ⟨_, (pss_cons (ps_if (pt_not (pt_val (pe_call G_is_state (hr.mono (by decide)) (by rfl) m_is_state k_is_state b_is_state .nil passL (pa_cons (pv 0) pa_nil))))
        (pss_one (ps_raise rfl (takes_of rfl rfl rfl rfl) (pmk_own PySem.F.excBase_ValueError T.x_BadCount.x T.x_BadCount.g T.x_BadCount.k (raises_own T.x_BadCount.b T.x_BadCount.t) rfl)))
        pss_nil)
        (pss_cons (ps_if (PW.pt (pw_or (pt_not (pt_val (pe_callB call_isi (by rfl) T.n_isinstance (by decide +kernel) (pa_cons (pv 1) (pa_cons (pe_bltn (v := .ty "list") (by rfl) T.n_list (by decide +kernel) rfl) pa_nil))))) (pw_or1 (pt_cmpR op_gt (pe_callB call_len_seq (by rfl) T.n_len PySem.boot_len (pa_cons (pv 1) pa_nil)) (pe_glob (v := .int 100) (by rfl) T.c_MOST_STEPS.choose_spec ⟨_, rfl⟩) (nomark _)))))
        (pss_one (ps_raise rfl (takes_of rfl rfl rfl rfl) (pmk_own PySem.F.excBase_ValueError T.x_BadRule.x T.x_BadRule.g T.x_BadRule.k (raises_own T.x_BadRule.b T.x_BadRule.t) rfl)))
        pss_nil)
        (pss_one (ps_for (passes_of rfl) rfl (pi_list (pv 1)) (pg_name (i := 2) sc_need_row.nd rfl (Or.inl rfl))
        (pss_one (ps_if (pt_not (pt_val (pe_call G_is_rule (hr.mono (by decide)) (by rfl) m_is_rule k_is_rule b_is_rule .nil passL (pa_cons (pv 2) pa_nil))))
        (pss_one (ps_raise rfl (takes_of rfl rfl rfl rfl) (pmk_own PySem.F.excBase_ValueError T.x_BadRule.x T.x_BadRule.g T.x_BadRule.k (raises_own T.x_BadRule.b T.x_BadRule.t) rfl)))
        pss_nil)))))), ?_⟩
    refine ⟨_, rfl, x, o, rfl, tx, _, rfl, ?_⟩
    cases c : among o 0 999982 with
    | false => exact iteT (k1 c)
    | true =>
      refine iteF ?_
      cases ty with
      | nlist ty ni =>
        exact ⟨_, rfl, y, _, _, _, false, rfl, .ty "list", ty, ni, false, rfl, iteT (k2 c rfl)⟩
      | @big p xs hP hl =>
        refine ⟨_, rfl, .ref p, _, _, _, true, rfl, .ty "list", .base (.lst hP), kit_ty (by decide +kernel), true, rfl, iteF ?_⟩
        refine ⟨_, rfl, p, _, rfl, .inl (SqL.of hP), _, _, rfl, rfl, _, rfl, ?_⟩
        rw [decide_eq_true (show (100 : Int) < (xs.length : Int) by omega)]
        exact iteT (k2 c rfl)
      | @all p xs bs hP hl hb ht =>
        refine ⟨_, rfl, .ref p, _, _, _, true, rfl, .ty "list", .base (.lst hP), kit_ty (by decide +kernel), true, rfl, iteF ?_⟩
        refine ⟨_, rfl, p, _, rfl, .inl (SqL.of hP), _, _, rfl, rfl, _, rfl, ?_⟩
        rw [decide_eq_false (show ¬ (100 : Int) < (xs.length : Int) by omega)]
        refine iteF ?_
        refine ⟨_, rfl, p, rfl, ⟨_, SqL.of hP⟩, ?_⟩
        refine for_list (K := K) (a := p) (xs := xs) (fun i σ H' => H' = H ∧ (∃ u, σ = [some x, some (.ref p), u]) ∧ ∀ (j : Nat), j < i → bs[j]? = some true) ⟨rfl, ⟨none, rfl⟩, fun j hj => by omega⟩ (fun i σ H' _ ⟨e, _⟩ => by rw [e]; exact SqL.of hP) ?_ ?_
        · rintro i z σ H' hi ⟨rfl, ⟨u, rfl⟩, hj⟩
          have hil := (List.getElem?_eq_some_iff.mp hi).1
          obtain ⟨b', hb'⟩ : ∃ b', bs[i]? = some b' := ⟨bs[i]'(by omega), List.getElem?_eq_getElem _⟩
          have th := ht i z b' hi hb'
          refine ⟨_, rfl, z, b', rfl, th, _, rfl, ?_⟩
          cases b' with
          | false =>
            refine iteT ?_
            refine k2 c ?_
            refine Bool.eq_false_iff.mpr fun e => ?_
            have := List.all_eq_true.mp e false (List.mem_of_getElem? hb')
            exact absurd this (by decide)
          | true =>
            refine iteF ⟨rfl, ⟨_, rfl⟩, fun j hj' => ?_⟩
            by_cases e : j = i
            · rw [e]
              exact hb'
            · exact hj j (by omega)
        · rintro σ H' ⟨rfl, ⟨u, rfl⟩, hj⟩
          refine k3 c ?_
          refine List.all_eq_true.mpr fun b' hb' => ?_
          obtain ⟨j, hj1, hj2⟩ := List.getElem_of_mem hb'
          have := hj j (by omega)
          rw [List.getElem?_eq_getElem hj1, hj2] at this
          exact Option.some.inj this
def sp_forth (K : PySem.W.Frag) : Sp := fun vs H Q _ => ∃ (q : Addr) (r : Rule) (s : Nat), vs = [.ref q, .int (s : Int)] ∧ H q = some (.tup r.vs) ∧ r.ok ∧ s < 999983 ∧ Q (.int (forthN r s : Int)) H
theorem ok_forth (T : Txt K mg) : OkF P w K mg base "forth" 1 ["rule", "state"] (sp_forth K) := by
  refine okf T.d_forth sc_forth (fun vs H Q E h => ?_) (fun f cdv A outer s H vs Q E hr h => ?_)
  · obtain ⟨q, r, s', rfl, hq, ok, hs, k⟩ := h
    rfl
  · obtain ⟨q, r, s', rfl, hq, ok, hs, k⟩ := h
    refine ⟨_, (pss_cons (ps_if (pt_cmpR op_eq (pe_ix ix_tup (pv 0) pe_int (fun _ _ => rfl)) pe_str (nomark _))
        (pss_one (ps_ret (pe_op op_mod (pe_op op_add (pv 1) (pe_ix ix_tup (pv 0) pe_int (fun _ _ => rfl))) (pe_glob (v := .int 999983) (by rfl) T.c_MODULUS.choose_spec ⟨_, rfl⟩))))
        pss_nil)
        (pss_cons (ps_if (pt_cmpR op_eq (pe_ix ix_tup (pv 0) pe_int (fun _ _ => rfl)) pe_str (nomark _))
        (pss_one (ps_ret (pe_op op_mod (pe_op op_mul (pv 1) (pe_ix ix_tup (pv 0) pe_int (fun _ _ => rfl))) (pe_glob (v := .int 999983) (by rfl) T.c_MODULUS.choose_spec ⟨_, rfl⟩))))
        pss_nil)
        (pss_cons (ps_if (pt_cmpR op_eq (pe_ix ix_tup (pv 0) pe_int (fun _ _ => rfl)) pe_str (nomark _))
        (pss_one (ps_ret (pe_op op_mod (pe_op op_mul (pv 1) (pv 1)) (pe_glob (v := .int 999983) (by rfl) T.c_MODULUS.choose_spec ⟨_, rfl⟩))))
        pss_nil)
        (pss_one (ps_ret (pe_op op_fdiv (pv 1) pe_int)))))), ?_⟩
    refine ⟨_, rfl, q, _, _, .str r.word, rfl, rfl, SqT.of hq, r.at0, rfl, _, rfl, ?_⟩
    have ne : ∀ {a b : Str}, a ≠ b → decide (V.str a = V.str b) = false := fun h => decide_eq_false fun z => h (V.str.inj z)
    cases r with
    | add j =>
      have hj : j < 999983 := ok
      refine iteT ?_
      refine ⟨_, rfl, _, rfl, q, _, _, .int (j : Int), rfl, rfl, SqT.of hq, rfl, _, _, rfl, rfl, _, _, rfl, rfl, by show (0 : Int) < 999983; decide, ?_⟩
      have e : ((s' : Int) + (j : Int)) % 999983 = (forthN (.add j) s' : Int) := by
        show _ = (((s' + j) % 999983 : Nat) : Int)
        omega
      show Q (V.int (((s' : Int) + (j : Int)) % 999983)) H
      rw [e]
      exact k
    | times j =>
      have hj : j < 999983 := ok
      rw [ne (show Rule.word (.times j) ≠ "add" from (by decide +kernel : ("times" : Str) ≠ "add"))]
      refine iteF ?_
      refine ⟨_, rfl, q, _, _, .str "times", rfl, rfl, SqT.of hq, rfl, rfl, _, rfl, iteT ?_⟩
      refine ⟨_, rfl, _, rfl, q, _, _, .int (j : Int), rfl, rfl, SqT.of hq, rfl, _, _, rfl, rfl, .inl ⟨by omega, by omega⟩, _, _, rfl, rfl, by show (0 : Int) < 999983; decide, ?_⟩
      have e : ((s' : Int) * (j : Int)) % 999983 = (forthN (.times j) s' : Int) := by
        show _ = ((s' * j % 999983 : Nat) : Int)
        rw [Int.natCast_emod, Int.natCast_mul] <;> rfl
      show Q (V.int (((s' : Int) * (j : Int)) % 999983)) H
      rw [e]
      exact k
    | square =>
      rw [ne (show Rule.word .square ≠ "add" from (by decide +kernel : ("square" : Str) ≠ "add"))]
      refine iteF ?_
      refine ⟨_, rfl, q, _, _, .str "square", rfl, rfl, SqT.of hq, rfl, rfl, _, rfl, ?_⟩
      rw [ne (show ("square" : Str) ≠ "times" by decide +kernel)]
      refine iteF ?_
      refine ⟨_, rfl, q, _, _, .str "square", rfl, rfl, SqT.of hq, rfl, rfl, _, rfl, iteT ?_⟩
      refine ⟨_, rfl, _, rfl, _, _, rfl, rfl, .inl ⟨by omega, by omega⟩, _, _, rfl, rfl, by show (0 : Int) < 999983; decide, ?_⟩
      have e : ((s' : Int) * (s' : Int)) % 999983 = (forthN .square s' : Int) := by
        show _ = ((s' * s' % 999983 : Nat) : Int)
        rw [Int.natCast_emod, Int.natCast_mul] <;> rfl
      show Q (V.int (((s' : Int) * (s' : Int)) % 999983)) H
      rw [e]
      exact k
    | half =>
      rw [ne (show Rule.word .half ≠ "add" from (by decide +kernel : ("half" : Str) ≠ "add"))]
      refine iteF ?_
      refine ⟨_, rfl, q, _, _, .str "half", rfl, rfl, SqT.of hq, rfl, rfl, _, rfl, ?_⟩
      rw [ne (show ("half" : Str) ≠ "times" by decide +kernel)]
      refine iteF ?_
      refine ⟨_, rfl, q, _, _, .str "half", rfl, rfl, SqT.of hq, rfl, rfl, _, rfl, ?_⟩
      rw [ne (show ("half" : Str) ≠ "square" by decide +kernel)]
      refine iteF ?_
      refine ⟨_, rfl, _, _, rfl, rfl, ⟨by decide, by decide⟩, ?_⟩
      have e : (s' : Int) / 2 = (forthN .half s' : Int) := by
        show _ = ((s' / 2 : Nat) : Int)
        omega
      show Q (V.int ((s' : Int) / 2)) H
      rw [e]
      exact k
def sp_need_counts (K : PySem.W.Frag) (C : Addr) : Sp := fun vs H Q E => ∃ (x y : V) (o1 o2 : Option Int), vs = [x, y] ∧ Thg K H x o1 ∧ Thg K H y o2 ∧ (goodC o1 o2 = true → Q .non H) ∧ (goodC o1 o2 = false → E (.ref C) none H)
theorem ok_need_counts (T : Txt K mg) : OkF P w K mg base "need_counts" 2 ["steps", "room"] (sp_need_counts K T.aBadCount) := by
  obtain ⟨f_is_among, fd_is_among, m_is_among, k_is_among, b_is_among, G_is_among⟩ := ok_is_among (P := P) (w := w) (base := base) T
  refine okf T.d_need_counts sc_need_counts (fun vs H Q E h => ?_) (fun f cdv A outer s H vs Q E hr h => ?_)
  · obtain ⟨x, y, o1, o2, rfl, t1, t2, kg, kb⟩ := h
    rfl
  · obtain ⟨x, y, o1, o2, rfl, t1, t2, kg, kb⟩ := h
    refine ⟨_, (pss_cons (ps_if (pt_not (pt_val (pe_call G_is_among (hr.mono (by decide)) (by rfl) m_is_among k_is_among b_is_among .nil passL (pa_cons (pv 0) (pa_cons pe_int (pa_cons (pe_glob (v := .int 100) (by rfl) T.c_MOST_STEPS.choose_spec ⟨_, rfl⟩) pa_nil))))))
        (pss_one (ps_raise rfl (takes_of rfl rfl rfl rfl) (pmk_own PySem.F.excBase_ValueError T.x_BadCount.x T.x_BadCount.g T.x_BadCount.k (raises_own T.x_BadCount.b T.x_BadCount.t) rfl)))
        pss_nil)
        (pss_one (ps_if (pt_not (pt_val (pe_call G_is_among (hr.mono (by decide)) (by rfl) m_is_among k_is_among b_is_among .nil passL (pa_cons (pv 1) (pa_cons pe_int (pa_cons (pe_glob (v := .int 12) (by rfl) T.c_MOST_ROOM.choose_spec ⟨_, rfl⟩) pa_nil))))))
        (pss_one (ps_raise rfl (takes_of rfl rfl rfl rfl) (pmk_own PySem.F.excBase_ValueError T.x_BadCount.x T.x_BadCount.g T.x_BadCount.k (raises_own T.x_BadCount.b T.x_BadCount.t) rfl)))
        pss_nil))), ?_⟩
    refine ⟨_, rfl, x, 0, 100, o1, rfl, t1, _, rfl, ?_⟩
    cases c1 : among o1 0 100 with
    | false =>
      refine iteT ?_
      refine kb ?_
      unfold goodC
      rw [c1, Bool.false_and]
    | true =>
      refine iteF ?_
      refine ⟨_, rfl, y, 1, 12, o2, rfl, t2, _, rfl, ?_⟩
      cases c2 : among o2 1 12 with
      | false =>
        refine iteT ?_
        refine kb ?_
        unfold goodC
        rw [c1, c2, Bool.true_and]
      | true =>
        refine iteF ?_
        refine kg ?_
        unfold goodC
        rw [c1, c2, Bool.true_and]
def sp_choices : Sp := fun vs H Q _ => ∃ m c : Nat, vs = [.int (m : Int), .int (c : Int)] ∧ c ≤ m ∧ m ≤ 1000 ∧ Q (.int (choN m c : Int)) H
theorem ok_choices (T : Txt K mg) : OkF P w K mg base "choices" 1 ["many", "chosen"] (sp_choices) := by
  refine okf T.d_choices sc_choices (fun vs H Q E h => ?_) (fun f cdv A outer s H vs Q E hr h => ?_)
  · obtain ⟨m, c, rfl, hc, hm, k⟩ := h
    rfl
  · obtain ⟨m, c, rfl, hc, hm, k⟩ := h
    refine ⟨_, (pss_cons (ps_set (i := 2) sc_choices.nd rfl (Or.inl rfl) pe_int)
        (pss_cons (ps_for (passes_of rfl) rfl (pi_range1 (by rfl) T.n_range (pa_cons (pv 1) pa_nil)) (pg_name (i := 3) sc_choices.nd rfl (Or.inl rfl))
        (pss_one (ps_set (i := 2) sc_choices.nd rfl (Or.inl rfl) (pe_op op_fdiv (pe_op op_mul (pv 2) (pe_op op_sub (pv 0) (pv 3))) (pe_op op_add (pv 3) pe_int)))))
        (pss_one (ps_ret (pv 2))))), ?_⟩
    refine ⟨_, rfl, _, rfl, by omega, by omega, ?_⟩
    refine for_range (lo := 0) (n := (c : Int).toNat) (fun i σ H' => H' = H ∧ ∃ v, σ = [some (.int (m : Int)), some (.int (c : Int)), some (.int (choN m i : Int)), v]) ⟨rfl, none, rfl⟩ ?_ ?_
    · rintro i σ H' hi ⟨rfl, v, rfl⟩
      rw [Int.toNat_natCast] at hi
      refine ⟨_, rfl, _, rfl, _, rfl, _, _, rfl, rfl, _, _, rfl, rfl, .inr ⟨by show -(2 ^ 64 : Int) < (m : Int) - (0 + (i : Int)); omega, by show (m : Int) - (0 + (i : Int)) < 2 ^ 64; omega⟩, _, rfl, _, _, rfl, rfl, _, _, rfl, rfl, ⟨by show (0 : Int) < 0 + (i : Int) + 1; omega, by show (0 : Int) + (i : Int) + 1 < 1073741824; omega⟩, ?_⟩
      refine ⟨rfl, some (.int (0 + (i : Int))), ?_⟩
      have e1 : ((m : Int) - (0 + (i : Int))) = ((m - i : Nat) : Int) := by omega
      have e2 : ((0 : Int) + (i : Int) + 1) = ((i + 1 : Nat) : Int) := by omega
      have e : ((choN m i : Int) * ((m : Int) - (0 + (i : Int)))) / (0 + (i : Int) + 1) = (choN m (i + 1) : Int) := by
        rw [e1, e2, choN_succ]
        show _ = ((choN m i * (m - i) / (i + 1) : Nat) : Int)
        rw [Int.natCast_ediv, Int.natCast_mul]
      show [some (V.int (m : Int)), some (V.int (c : Int)), some (V.int (((choN m i : Int) * ((m : Int) - (0 + (i : Int)))) / (0 + (i : Int) + 1))), some (V.int (0 + (i : Int)))] = _
      rw [e]
    · rintro σ H' ⟨rfl, v, rfl⟩
      rw [Int.toNat_natCast]
      exact ⟨_, rfl, k⟩
def sp_ways : Sp := fun vs H Q _ => ∃ r t : Nat, vs = [.int (r : Int), .int (t : Int)] ∧ r + t ≤ 1000 ∧ Q (.int (waysN r t : Int)) H
theorem ok_ways (T : Txt K mg) : OkF P w K mg base "ways" 2 ["room", "times"] (sp_ways) := by
  obtain ⟨f_choices, fd_choices, m_choices, k_choices, b_choices, G_choices⟩ := ok_choices (P := P) (w := w) (base := base) T
  refine okf T.d_ways sc_ways (fun vs H Q E h => ?_) (fun f cdv A outer s H vs Q E hr h => ?_)
  · obtain ⟨r, t, rfl, hb, k⟩ := h
    rfl
  · obtain ⟨r, t, rfl, hb, k⟩ := h
    refine ⟨_, (pss_one (ps_ret (pe_call G_choices (hr.mono (by decide)) (by rfl) m_choices k_choices b_choices .nil passL (pa_cons (pe_op op_add (pv 0) (pv 1)) (pa_cons (pv 0) pa_nil))))), ?_⟩
    exact ⟨_, rfl, _, rfl, _, _, rfl, rfl, _, rfl, r + t, r, by rw [Int.natCast_add] <;> rfl, Nat.le_add_right _ _, hb, k⟩
def sp_often : Sp := fun vs H Q _ => ∃ s r : Nat, vs = [.int (s : Int), .int (r : Int)] ∧ s ≤ 100 ∧ 1 ≤ r ∧ r ≤ 12 ∧ Q (.int (oftN s r : Int)) H
theorem ok_often (T : Txt K mg) : OkF P w K mg base "often" 3 ["steps", "room"] (sp_often) := by
  obtain ⟨f_ways, fd_ways, m_ways, k_ways, b_ways, G_ways⟩ := ok_ways (P := P) (w := w) (base := base) T
  refine okf T.d_often sc_often (fun vs H Q E h => ?_) (fun f cdv A outer s H vs Q E hr h => ?_)
  · obtain ⟨s', r, rfl, hs, h1, h2, k⟩ := h
    rfl
  · obtain ⟨s', r, rfl, hs, h1, h2, k⟩ := h
    refine ⟨_, (pss_cons (ps_set (i := 2) sc_often.nd rfl (Or.inl rfl) pe_int)
        (pss_cons (ps_while (passes_of rfl) (pt_cmpR op_le (pe_call G_ways (hr.mono (by decide)) (by rfl) m_ways k_ways b_ways .nil passL (pa_cons (pv 1) (pa_cons (pv 2) pa_nil))) (pv 0) (nomark _))
        (pss_one (ps_set (i := 2) sc_often.nd rfl (Or.inl rfl) (pe_op op_add (pv 2) pe_int))))
        (pss_one (ps_ret (pv 2))))), ?_⟩
    refine ⟨fun n σ H' => ∃ t : Nat, t + n = 101 ∧ H' = H ∧ σ = [some (.int (s' : Int)), some (.int (r : Int)), some (.int (t : Int))] ∧ oftGo s' r n t = oftN s' r, ⟨101, 0, rfl, rfl, rfl, rfl⟩, ?_⟩
    rintro n σ H' ⟨t, ht, rfl, rfl, e⟩
    refine ⟨_, rfl, _, rfl, r, t, rfl, by omega, _, rfl, _, _, rfl, rfl, _, rfl, ?_⟩
    refine ite2 (fun c => ?_) (fun c => ?_)
    · have c' : waysN r t ≤ s' := by
        have := of_decide_eq_true c
        omega
      cases n with
      | zero =>
        have f := ways_far r (by omega) h1
        have z : t = 101 := by omega
        rw [z] at c'
        omega
      | succ n =>
        rw [oft_yes c'] at e
        refine ⟨fun σ' H'' => ∃ t : Nat, t + n = 101 ∧ H'' = H' ∧ σ' = [some (.int (s' : Int)), some (.int (r : Int)), some (.int (t : Int))] ∧ oftGo s' r n t = oftN s' r, fun σ' H'' q => ⟨n, Nat.lt_succ_self n, q⟩, ?_⟩
        exact ⟨_, rfl, _, _, rfl, rfl, t + 1, by omega, rfl, rfl, e⟩
    · have c' : ¬ waysN r t ≤ s' := fun z => c (decide_eq_true (by omega))
      rw [oft_no c'] at e
      rw [← e] at k
      exact ⟨_, rfl, k⟩
def sp_cost : Sp := fun vs H Q _ => ∃ s r : Nat, vs = [.int (s : Int), .int (r : Int)] ∧ s ≤ 100 ∧ 1 ≤ r ∧ r ≤ 12 ∧ Q (.int (costN s r)) H
theorem ok_cost (T : Txt K mg) : OkF P w K mg base "cost" 4 ["steps", "room"] (sp_cost) := by
  obtain ⟨f_often, fd_often, m_often, k_often, b_often, G_often⟩ := ok_often (P := P) (w := w) (base := base) T
  obtain ⟨f_ways, fd_ways, m_ways, k_ways, b_ways, G_ways⟩ := ok_ways (P := P) (w := w) (base := base) T
  refine okf T.d_cost sc_cost (fun vs H Q E h => ?_) (fun f cdv A outer s H vs Q E hr h => ?_)
  · obtain ⟨s', r, rfl, hs, h1, h2, k⟩ := h
    rfl
  · obtain ⟨s', r, rfl, hs, h1, h2, k⟩ := h
    refine ⟨_, (pss_cons (ps_set (i := 2) sc_cost.nd rfl (Or.inl rfl) (pe_call G_often (hr.mono (by decide)) (by rfl) m_often k_often b_often .nil passL (pa_cons (pv 0) (pa_cons (pv 1) pa_nil))))
        (pss_cons (ps_if (pt_cmpR op_eq (pv 2) pe_int (nomark _))
        (pss_one (ps_ret pe_int))
        pss_nil)
        (pss_one (ps_ret (pe_op op_sub (pe_op op_mul (pv 2) (pe_op op_add (pv 0) pe_int)) (pe_call G_ways (hr.mono (by decide)) (by rfl) m_ways k_ways b_ways .nil passL (pa_cons (pe_op op_add (pv 1) pe_int) (pa_cons (pe_op op_sub (pv 2) pe_int) pa_nil)))))))), ?_⟩
    refine ⟨_, rfl, _, rfl, s', r, rfl, hs, h1, h2, ?_⟩
    refine ⟨_, rfl, rfl, _, rfl, ?_⟩
    have lb := oftN_le s' r
    refine ite2 (fun c => ?_) (fun c => ?_)
    · have c' : oftN s' r = 0 := by
        have := V.int.inj (of_decide_eq_true c)
        omega
      unfold costN at k
      rw [if_pos c'] at k
      exact k
    · have c' : ¬ oftN s' r = 0 := fun z => c (decide_eq_true (by rw [z] <;> rfl))
      unfold costN at k
      rw [if_neg c'] at k
      refine ⟨_, rfl, _, rfl, _, _, rfl, rfl, _, _, rfl, rfl, .inl ⟨by omega, by omega⟩, _, rfl, _, _, rfl, rfl, _, rfl, _, _, rfl, rfl, r + 1, oftN s' r - 1, ?_, by omega, _, _, rfl, rfl, k⟩
      have e : ((oftN s' r : Int) - 1) = ((oftN s' r - 1 : Nat) : Int) := by omega
      show [V.int ((r : Int) + 1), V.int ((oftN s' r : Int) - 1)] = _
      rw [e] <;> rfl
def sp_least (K : PySem.W.Frag) (C : Addr) : Sp := fun vs H Q E => (∃ s r : Nat, vs = [.int (s : Int), .int (r : Int)] ∧ s ≤ 100 ∧ 1 ≤ r ∧ r ≤ 12 ∧ Q (.int (costN s r)) H) ∨
  (∃ (x y : V) (o1 o2 : Option Int), vs = [x, y] ∧ Thg K H x o1 ∧ Thg K H y o2 ∧ goodC o1 o2 = false ∧ E (.ref C) none H)
theorem good_ok {s r : Nat} (h1 : s ≤ 100) (h2 : 1 ≤ r) (h3 : r ≤ 12) : goodC (some (s : Int)) (some (r : Int)) = true := by
  show ((decide ((0 : Int) ≤ (s : Int)) && decide ((s : Int) ≤ 100)) && (decide ((1 : Int) ≤ (r : Int)) && decide ((r : Int) ≤ 12))) = true
  simp only [Bool.and_eq_true, decide_eq_true_eq]
  omega
theorem good_nums {K : PySem.W.Frag} {H : Hp} {x y : V} {o1 o2 : Option Int} (t1 : Thg K H x o1) (t2 : Thg K H y o2) (g : goodC o1 o2 = true) : ∃ s r : Nat, s ≤ 100 ∧ 1 ≤ r ∧ r ≤ 12 ∧ x = .int (s : Int) ∧ y = .int (r : Int) := by
  unfold goodC at g
  obtain ⟨g1, g2⟩ := (Bool.and_eq_true _ _ ▸ g : _ ∧ _)
  cases t1 with
  | int i =>
    cases t2 with
    | int j =>
      have g1' : (decide ((0 : Int) ≤ i) && decide (i ≤ 100)) = true := g1
      have g2' : (decide ((1 : Int) ≤ j) && decide (j ≤ 12)) = true := g2
      simp only [Bool.and_eq_true, decide_eq_true_eq] at g1' g2'
      exact ⟨i.toNat, j.toNat, by omega, by omega, by omega, by rw [Int.toNat_of_nonneg g1'.1], by rw [Int.toNat_of_nonneg (by omega)]⟩
    | bl b => exact absurd (show false = true from g2) (by decide)
    | oth _ _ => exact absurd (show false = true from g2) (by decide)
  | bl b => exact absurd (show false = true from g1) (by decide)
  | oth _ _ => exact absurd (show false = true from g1) (by decide)
theorem ok_least (T : Txt K mg) : OkF P w K mg base "least" 5 ["steps", "room"] (sp_least K T.aBadCount) := by
  obtain ⟨f_need_counts, fd_need_counts, m_need_counts, k_need_counts, b_need_counts, G_need_counts⟩ := ok_need_counts (P := P) (w := w) (base := base) T
  obtain ⟨f_cost, fd_cost, m_cost, k_cost, b_cost, G_cost⟩ := ok_cost (P := P) (w := w) (base := base) T
  refine okf T.d_least sc_least (fun vs H Q E h => ?_) (fun f cdv A outer s H vs Q E hr h => ?_)
  · rcases h with ⟨s', r, rfl, h1, h2, h3, k⟩ | ⟨x, y, o1, o2, rfl, t1, t2, g, k⟩ <;> rfl
  · skip
    refine ⟨_, (pss_cons (ps_expr (pe_call G_need_counts (hr.mono (by decide)) (by rfl) m_need_counts k_need_counts b_need_counts .nil (passes_call (W := fun cls d _ H => E cls d H) (takes_of rfl rfl rfl rfl) (fun _ _ _ _ h => h)) (pa_cons (pv 0) (pa_cons (pv 1) pa_nil))))
        (pss_one (ps_ret (pe_call G_cost (hr.mono (by decide)) (by rfl) m_cost k_cost b_cost .nil passL (pa_cons (pv 0) (pa_cons (pv 1) pa_nil)))))), ?_⟩
    rcases h with ⟨s', r, rfl, h1, h2, h3, k⟩ | ⟨x, y, o1, o2, rfl, t1, t2, g, k⟩
    · refine ⟨_, rfl, _, rfl, _, _, _, _, rfl, .int _, .int _, fun _ => ?_, fun z => absurd (good_ok h1 h2 h3) (by rw [z]; decide)⟩
      exact ⟨_, rfl, _, rfl, s', r, rfl, h1, h2, h3, k⟩
    · exact ⟨_, rfl, _, rfl, x, y, o1, o2, rfl, t1, t2, fun z => absurd g (by rw [z]; decide), fun _ => k⟩
def sp_cost_of (K : PySem.W.Frag) : Sp := fun vs H Q _ => ∃ (p : Addr) (ps : List (Addr × Deed)), vs = [.ref p] ∧ SqL K H p (refs ps) ∧ DS H ps ∧ ps.length ≤ 10000 ∧ ∀ H', Same H H' → Q (.int (costD (ps.map (·.2)) : Int)) H'
theorem ok_cost_of (T : Txt K mg) : OkF P w K mg base "cost_of" 1 ["deeds"] (sp_cost_of K) := by
  refine okf T.d_cost_of sc_cost_of (fun vs H Q E h => ?_) (fun f cdv A outer s H vs Q E hr h => ?_)
  · obtain ⟨p, ps, rfl, hP, hD, hl, k⟩ := h
    rfl
  · obtain ⟨p, ps, rfl, hP, hD, hl, k⟩ := h
    refine ⟨_, (pss_one (ps_ret (pe_callB (cr_sum rfl) (by rfl) T.n_sum (by decide +kernel) (pa_cons (pe_lc (own := [("deed", 1)]) rfl sc_cost_of.nd (pi_list (pv 0)) (blkOk_by (own := [("deed", 1)]) (N := ["deeds", "deed"]) (sc := defScope s_cost_of) (by decide +kernel)) (fun _ _ _ _ _ => (pg_name (i := 1) sc_cost_of.nd rfl (Or.inl rfl))) (fun _ _ _ _ _ => (pts_one (pt_cmpR op_eq (pe_ix (r := rIxT K) ix_tup (pv 1) pe_int (fun _ _ => rfl)) pe_str (nomark _)))) (fun _ _ _ _ _ => (pe_ix (r := rIxT K) ix_tup (pv 1) pe_int (fun _ _ => rfl)))) pa_nil)))), ?_⟩
    refine ⟨_, rfl, p, rfl, ⟨_, hP⟩, fun D hD' => ?_⟩
    refine lc_list (K := K) (a := p) (xs := refs ps) (fun i H' => Same H H' ∧ H' D = some (.lst ((goes ((ps.take i).map (·.2))).map V.int))) ⟨Same.new hD', upd_same⟩ (fun i H' _ ⟨s1, _⟩ => s1.seq hP) ?_ ?_
    · rintro i y H' hi ⟨s1, hQ⟩
      obtain ⟨q, hq, rfl⟩ := get_map hi
      have hq' := hD q (List.mem_of_getElem? hq)
      have lt : ((goes ((ps.take i).map (·.2))).map V.int).length < sizeLine := sz5' (by
        rw [List.length_map]
        have := goes_len ((ps.take i).map (·.2))
        rw [List.length_map, List.length_take] at this
        omega)
      refine ⟨rfl, ?_⟩
      refine ⟨_, rfl, q.1, q.2.vs, _, _, rfl, rfl, SqT.of (s1 _ _ hq'), q.2.at0, rfl, _, rfl, ?_⟩
      have key : goes ((ps.take (i + 1)).map (·.2)) = goes ((ps.take i).map (·.2)) ++ (match q.2 with | .go n => [(n : Int)] | _ => []) := by
        rw [take_succ hq, List.map_append]
        exact goes_snoc _ _
      cases ed : q.2 with
      | go n =>
        refine iteT ?_
        rw [ed] at hq'
        refine ⟨_, rfl, q.1, (Deed.go n).vs, _, .int (n : Int), rfl, rfl, SqT.of (s1 _ _ hq'), rfl, _, hQ, lt, Same.mut s1 hD', ?_⟩
        rw [upd_same, key, ed, List.map_append] <;> rfl
      | keep =>
        rw [show decide (V.str Deed.keep.word = V.str "go") = false by decide +kernel]
        refine iteF ⟨s1, ?_⟩
        rw [hQ, key, ed, List.append_nil]
      | meet =>
        rw [show decide (V.str Deed.meet.word = V.str "go") = false by decide +kernel]
        refine iteF ⟨s1, ?_⟩
        rw [hQ, key, ed, List.append_nil]
      | take m =>
        rw [show decide (V.str (Deed.take m).word = V.str "go") = false from (by decide +kernel : decide (V.str "take" = V.str "go") = false)]
        refine iteF ⟨s1, ?_⟩
        rw [hQ, key, ed, List.append_nil]
      | drop m =>
        rw [show decide (V.str (Deed.drop m).word = V.str "go") = false from (by decide +kernel : decide (V.str "drop" = V.str "go") = false)]
        refine iteF ⟨s1, ?_⟩
        rw [hQ, key, ed, List.append_nil]
    · rintro H' ⟨s1, hQ⟩
      rw [refs_len, List.take_length] at hQ
      refine ⟨D, _, rfl, SqL.of hQ, ?_⟩
      rw [goes_sum]
      exact k _ s1
def sp_most_kept (K : PySem.W.Frag) : Sp := fun vs H Q _ => ∃ (p : Addr) (ps : List (Addr × Deed)), vs = [.ref p] ∧ SqL K H p (refs ps) ∧ DS H ps ∧ Q (.int (mostD (ps.map (·.2)))) H
theorem ok_most_kept (T : Txt K mg) : OkF P w K mg base "most_kept" 1 ["deeds"] (sp_most_kept K) := by
  refine okf T.d_most_kept sc_most_kept (fun vs H Q E h => ?_) (fun f cdv A outer s H vs Q E hr h => ?_)
  · obtain ⟨p, ps, rfl, hP, hD, k⟩ := h
    rfl
  · obtain ⟨p, ps, rfl, hP, hD, k⟩ := h
    refine ⟨_, (pss_cons (ps_set (i := 1) sc_most_kept.nd rfl (Or.inl rfl) pe_int)
        (pss_cons (ps_set (i := 2) sc_most_kept.nd rfl (Or.inl rfl) pe_int)
        (pss_cons (ps_for (passes_of rfl) rfl (pi_list (pv 0)) (pg_name (i := 3) sc_most_kept.nd rfl (Or.inl rfl))
        (Evl.pss_cut (ps_if (pt_cmpR op_eq (pe_ix ix_tup (pv 3) pe_int (fun _ _ => rfl)) pe_str (nomark _))
        (pss_one (ps_set (i := 1) sc_most_kept.nd rfl (Or.inl rfl) (pe_op op_add (pv 1) pe_int)))
        pss_nil)
        (Evl.pss_cut (ps_if (pt_cmpR op_eq (pe_ix ix_tup (pv 3) pe_int (fun _ _ => rfl)) pe_str (nomark _))
        (pss_one (ps_set (i := 1) sc_most_kept.nd rfl (Or.inl rfl) (pe_op op_sub (pv 1) pe_int)))
        pss_nil)
        (pss_one (ps_set (i := 2) sc_most_kept.nd rfl (Or.inl rfl) (pe_callB (call_max2 rfl) (by rfl) T.n_max (by decide +kernel) (pa_cons (pv 2) (pa_cons (pv 1) pa_nil))))))))
        (pss_one (ps_ret (pv 2)))))), ?_⟩
    refine ⟨_, rfl, p, rfl, ⟨_, hP⟩, ?_⟩
    refine for_list (K := K) (a := p) (xs := refs ps) (fun i σ H' => H' = H ∧ ∃ u, σ = [some (.ref p), some (.int (((ps.take i).map (·.2)).foldl mostStep (0, 0)).1), some (.int (((ps.take i).map (·.2)).foldl mostStep (0, 0)).2), u]) ⟨rfl, none, rfl⟩ (fun i σ H' _ ⟨e, _⟩ => by rw [e]; exact hP) ?_ ?_
    · rintro i y σ H' hi ⟨rfl, u, rfl⟩
      obtain ⟨q, hq, rfl⟩ := get_map hi
      have hq' := hD q (List.mem_of_getElem? hq)
      rw [take_succ hq, List.map_append, List.foldl_append]
      generalize ((ps.take i).map (·.2)).foldl mostStep (0, 0) = m
      refine ⟨fun σ H2 => H2 = H' ∧ σ = [some (.ref p), some (.int (if q.2 = .keep then m.1 + 1 else m.1)), some (.int m.2), some (.ref q.1)], ?_, ?_⟩
      · refine ⟨_, rfl, q.1, q.2.vs, _, _, rfl, rfl, SqT.of hq', q.2.at0, rfl, _, rfl, ?_⟩
        cases ed : q.2 with
        | keep =>
          rw [if_pos rfl]
          refine iteT ?_
          exact ⟨_, rfl, _, _, rfl, rfl, rfl, rfl⟩
        | go n =>
          rw [show decide (V.str (Deed.go n).word = V.str "keep") = false from (by decide +kernel : decide (V.str "go" = V.str "keep") = false), if_neg (by intro z; cases z)]
          exact ⟨rfl, rfl⟩
        | meet =>
          rw [show decide (V.str Deed.meet.word = V.str "keep") = false by decide +kernel, if_neg (by intro z; cases z)]
          exact ⟨rfl, rfl⟩
        | take n =>
          rw [show decide (V.str (Deed.take n).word = V.str "keep") = false from (by decide +kernel : decide (V.str "take" = V.str "keep") = false), if_neg (by intro z; cases z)]
          exact ⟨rfl, rfl⟩
        | drop n =>
          rw [show decide (V.str (Deed.drop n).word = V.str "keep") = false from (by decide +kernel : decide (V.str "drop" = V.str "keep") = false), if_neg (by intro z; cases z)]
          exact ⟨rfl, rfl⟩
      rintro σ H2 ⟨rfl, rfl⟩
      refine ⟨fun σ H3 => H3 = H2 ∧ σ = [some (.ref p), some (.int (mostStep m q.2).1), some (.int m.2), some (.ref q.1)], ?_, ?_⟩
      · refine ⟨_, rfl, q.1, q.2.vs, _, _, rfl, rfl, SqT.of hq', q.2.at0, rfl, _, rfl, ?_⟩
        cases ed : q.2 with
        | drop n =>
          rw [if_neg (show ¬ (Deed.drop n = Deed.keep) by intro z; cases z)]
          refine iteT ?_
          exact ⟨_, rfl, _, _, rfl, rfl, rfl, rfl⟩
        | keep =>
          rw [show decide (V.str Deed.keep.word = V.str "drop") = false by decide +kernel, if_pos rfl]
          exact ⟨rfl, rfl⟩
        | go n =>
          rw [show decide (V.str (Deed.go n).word = V.str "drop") = false from (by decide +kernel : decide (V.str "go" = V.str "drop") = false), if_neg (by intro z; cases z)]
          exact ⟨rfl, rfl⟩
        | meet =>
          rw [show decide (V.str Deed.meet.word = V.str "drop") = false by decide +kernel, if_neg (by intro z; cases z)]
          exact ⟨rfl, rfl⟩
        | take n =>
          rw [show decide (V.str (Deed.take n).word = V.str "drop") = false from (by decide +kernel : decide (V.str "take" = V.str "drop") = false), if_neg (by intro z; cases z)]
          exact ⟨rfl, rfl⟩
      rintro σ H3 ⟨rfl, rfl⟩
      refine ⟨_, rfl, _, rfl, _, _, rfl, rfl, some (.ref q.1), ?_⟩
      have em : (if (mostStep m q.2).1 > m.2 then (mostStep m q.2).1 else m.2) = (mostStep m q.2).2 := by
        rw [max_if]
        cases q.2 <;> rfl
      show [some (V.ref p), some (V.int (mostStep m q.2).1), some (V.int (if (mostStep m q.2).1 > m.2 then (mostStep m q.2).1 else m.2)), some (V.ref q.1)] = _
      rw [em] <;> rfl
    · rintro σ H' ⟨rfl, u, rfl⟩
      rw [refs_len, List.take_length]
      exact ⟨_, rfl, k⟩

def sp_is_deed (K : PySem.W.Frag) : Sp := fun vs H Q _ => ∃ (x : V) (b : Bool), vs = [x] ∧ DeedTh K H x b ∧ Q (.bl b) H
theorem str_eqD (w v : Str) : decide (V.str w = V.str v) = decide (w = v) := decide_eq_decide.mpr ⟨V.str.inj, fun e => by rw [e]⟩
theorem len_ne0D {v : V} {r : List V} : decide (V.int ((v :: r).length : Int) = V.int 0) = false := decide_eq_false (fun z => by have := V.int.inj z; rw [List.length_cons] at this; omega)
def DTail (K : PySem.W.Frag) (H : Hp) (w : Str) (r : List V) (b : Bool) : Prop :=
  ((w = "keep" ∨ w = "meet") ∧ b = decide (r = [])) ∨ (w ≠ "keep" ∧ w ≠ "meet" ∧ r.length ≠ 1 ∧ b = false) ∨ (∃ v o, w ≠ "keep" ∧ w ≠ "meet" ∧ r = [v] ∧ Thg K H v o ∧ b = if w = "go" then among o 1 100 else (decide (w = "take") || decide (w = "drop")) && among o 0 100)
theorem ok_is_deed (T : Txt K mg) : OkF P w K mg base "is_deed" 2 ["thing"] (sp_is_deed K) := by
  obtain ⟨f_is_among, fd_is_among, m_is_among, k_is_among, b_is_among, G_is_among⟩ := ok_is_among (P := P) (w := w) (base := base) T
  refine okf T.d_is_deed sc_is_deed (fun vs H Q E h => ?_) (fun f cdv A outer s H vs Q E hr h => ?_)
  · obtain ⟨x, b, rfl, th, k⟩ := h
    rfl
  · obtain ⟨x, b, rfl, th, k⟩ := h
    refine ⟨_, (Evl.pss_cut (ps_if (PW.pt (pw_or (pt_not (pt_val (pe_callB call_isi (by rfl) T.n_isinstance (by decide +kernel) (pa_cons (pv 0) (pa_cons (pe_bltn (v := .ty "tuple") (by rfl) T.n_tuple (by decide +kernel) rfl) pa_nil))))) (pw_or (pt_cmpR op_eq (pe_callB call_len_seq (by rfl) T.n_len PySem.boot_len (pa_cons (pv 0) pa_nil)) pe_int (nomark _)) (pw_or1 (pt_not (pt_val (pe_callB call_isi (by rfl) T.n_isinstance (by decide +kernel) (pa_cons (pe_ix ix_tup (pv 0) pe_int (fun _ _ => rfl)) (pa_cons (pe_bltn (v := .ty "str") (by rfl) T.n_str (by decide +kernel) rfl) pa_nil)))))))))
        (pss_one (ps_ret pe_bl))
        pss_nil)
        (Evl.pss_cut (ps_if (PW.pt (pw_or (pt_cmpR op_eq (pe_ix ix_tup (pv 0) pe_int (fun _ _ => rfl)) pe_str (nomark _)) (pw_or1 (pt_cmpR op_eq (pe_ix ix_tup (pv 0) pe_int (fun _ _ => rfl)) pe_str (nomark _)))))
        (pss_one (ps_ret (pe_cmpR op_eq (pe_callB call_len_seq (by rfl) T.n_len PySem.boot_len (pa_cons (pv 0) pa_nil)) pe_int (nomark _))))
        pss_nil)
        (pss_cons (ps_if (pt_cmpR op_ne (pe_callB call_len_seq (by rfl) T.n_len PySem.boot_len (pa_cons (pv 0) pa_nil)) pe_int (nomark _))
        (pss_one (ps_ret pe_bl))
        pss_nil)
        (pss_cons (ps_if (pt_cmpR op_eq (pe_ix ix_tup (pv 0) pe_int (fun _ _ => rfl)) pe_str (nomark _))
        (pss_one (ps_ret (pe_call G_is_among (hr.mono (by decide)) (by rfl) m_is_among k_is_among b_is_among .nil passL (pa_cons (pe_ix ix_tup (pv 0) pe_int (fun _ _ => rfl)) (pa_cons pe_int (pa_cons (pe_glob (v := .int 100) (by rfl) T.c_MOST_STEPS.choose_spec ⟨_, rfl⟩) pa_nil))))))
        pss_nil)
        (pss_one (ps_ret (pe_and (pe_or (pe_cmpR op_eq (pe_ix ix_tup (pv 0) pe_int (fun _ _ => rfl)) pe_str (nomark _)) (pe_one (pe_cmpR op_eq (pe_ix ix_tup (pv 0) pe_int (fun _ _ => rfl)) pe_str (nomark _)))) (pe_one (pe_call G_is_among (hr.mono (by decide)) (by rfl) m_is_among k_is_among b_is_among .nil passL (pa_cons (pe_ix ix_tup (pv 0) pe_int (fun _ _ => rfl)) (pa_cons pe_int (pa_cons (pe_glob (v := .int 100) (by rfl) T.c_MOST_STEPS.choose_spec ⟨_, rfl⟩) pa_nil)))))))))))), ?_⟩
    refine ⟨fun σ H' => H' = H ∧ σ = [some x] ∧ ∃ q w r, x = .ref q ∧ H q = some (.tup (.str w :: r)) ∧ DTail K H w r b, ?_, ?_⟩
    · have body : ∀ q w r, H q = some (.tup (.str w :: r)) → DTail K H w r b → x = .ref q → (tIfS (tOr (tNot (tB (tCB (rIsi K) (tCons (tVar 0) (tCons (tC (.ty "tuple")) tNil))))) (tOr (tTest (tOp rEq (tCB (fun xs H Q => ∃ p ys, xs = [V.ref p] ∧ (SqL K H p ys ∨ SqT K H p ys) ∧ Q (V.int ys.length) H) (tCons (tVar 0) tNil)) (tC (.int 0)))) (tNot (tB (tCB (rIsi K) (tCons (tOp (rIxT K) (tVar 0) (tC (.int 0))) (tCons (tC (.ty "str")) tNil))))))) (tRet (tC (.bl false))) tNext)
          { nx := fun σ H' => H' = H ∧ σ = [some x] ∧ ∃ q w r, x = .ref q ∧ H q = some (.tup (.str w :: r)) ∧ DTail K H w r b, rt := Q } [some x] H := fun q w r hq tl hx => by
        refine ⟨_, rfl, x, _, _, _, true, rfl, .ty "tuple", by rw [hx]; exact .base (.tup hq), kit_ty (by decide +kernel), true, rfl, iteF ?_⟩
        refine ⟨_, rfl, q, _, by rw [hx], .inr (SqT.of hq), rfl, _, rfl, ?_⟩
        rw [len_ne0D]
        refine iteF ?_
        exact ⟨_, rfl, q, _, _, .str w, hx, rfl, SqT.of hq, atI_nat (j := 0) rfl, .str w, _, _, _, true, rfl, .ty "str", .base (.str _), kit_ty (by decide +kernel), true, rfl, iteF ⟨rfl, rfl, q, w, r, hx, hq, tl⟩⟩
      cases th with
      | ntup ty ni =>
        exact ⟨_, rfl, x, _, _, _, false, rfl, .ty "tuple", ty, ni, false, rfl, iteT k⟩
      | @nil q hq =>
        refine ⟨_, rfl, .ref q, _, _, _, true, rfl, .ty "tuple", .base (.tup hq), kit_ty (by decide +kernel), true, rfl, iteF ?_⟩
        exact ⟨_, rfl, q, _, rfl, .inr (SqT.of hq), rfl, _, rfl, iteT k⟩
      | @nstr q v r t hq ty ni =>
        refine ⟨_, rfl, .ref q, _, _, _, true, rfl, .ty "tuple", .base (.tup hq), kit_ty (by decide +kernel), true, rfl, iteF ?_⟩
        refine ⟨_, rfl, q, _, rfl, .inr (SqT.of hq), rfl, _, rfl, ?_⟩
        rw [len_ne0D]
        refine iteF ?_
        exact ⟨_, rfl, q, _, _, v, rfl, rfl, SqT.of hq, atI_nat (j := 0) rfl, v, _, _, _, false, rfl, .ty "str", ty, ni, false, rfl, iteT k⟩
      | @one q w r _ hq hw hb => exact body q w r hq (.inl ⟨hw, hb⟩) rfl
      | @two q w r hq h1 h2 hl => exact body q w r hq (.inr (.inl ⟨h1, h2, hl, rfl⟩)) rfl
      | @num q w v o _ hq h1 h2 th hb => exact body q w [v] hq (.inr (.inr ⟨v, o, h1, h2, rfl, th, hb⟩)) rfl
    rintro σ H' ⟨rfl, rfl, q, w, r, rfl, hq, tl⟩
    have lenq : ∀ n : Nat, decide (V.int ((V.str w :: r).length : Int) = V.int (n : Int)) = decide (r.length + 1 = n) := fun n => decide_eq_decide.mpr ⟨fun z => by
      have := V.int.inj z
      rw [List.length_cons] at this
      omega, fun z => by rw [List.length_cons, z]⟩
    refine ⟨fun σ H1 => H1 = H' ∧ σ = [some (.ref q)] ∧ w ≠ "keep" ∧ w ≠ "meet", ?_, ?_⟩
    · have go : (w = "keep" ∨ w = "meet") → Q (.bl (decide (V.int ((V.str w :: r).length : Int) = V.int 1))) H' := fun hw => by
        rcases tl with ⟨_, hb⟩ | ⟨h1, h2, _⟩ | ⟨v, o, h1, h2, _⟩
        · rw [show (decide (V.int ((V.str w :: r).length : Int) = V.int 1)) = decide (r = []) from (lenq 1).trans (decide_eq_decide.mpr ⟨fun z => List.length_eq_zero_iff.mp (by omega), fun z => by rw [z] <;> rfl⟩), ← hb]
          exact k
        · exact absurd hw (fun z => z.elim h1 h2)
        · exact absurd hw (fun z => z.elim h1 h2)
      refine ⟨_, rfl, q, _, _, .str w, rfl, rfl, SqT.of hq, atI_nat (j := 0) rfl, rfl, _, rfl, ?_⟩
      rw [str_eqD]
      refine ite2 (fun c => ?_) (fun c => ?_)
      · exact iteT ⟨_, rfl, q, _, rfl, .inr (SqT.of hq), rfl, go (.inl (of_decide_eq_true c))⟩
      · refine ⟨_, rfl, q, _, _, .str w, rfl, rfl, SqT.of hq, atI_nat (j := 0) rfl, rfl, _, rfl, ?_⟩
        rw [str_eqD]
        refine ite2 (fun c2 => ?_) (fun c2 => ?_)
        · exact ⟨_, rfl, q, _, rfl, .inr (SqT.of hq), rfl, go (.inr (of_decide_eq_true c2))⟩
        · exact ⟨rfl, rfl, fun z => c (decide_eq_true z), fun z => c2 (decide_eq_true z)⟩
    rintro σ H1 ⟨rfl, rfl, h1, h2⟩
    refine ⟨_, rfl, q, _, rfl, .inr (SqT.of hq), rfl, _, rfl, ?_⟩
    rw [show (decide (V.int ((V.str w :: r).length : Int) = V.int 2)) = decide (r.length + 1 = 2) from lenq 2]
    rcases tl with ⟨hw, _⟩ | ⟨_, _, hl, hb⟩ | ⟨v, o, _, _, rfl, th, hb⟩
    · exact absurd hw (fun z => z.elim h1 h2)
    · rw [decide_eq_false (show ¬ (r.length + 1 = 2) by omega)]
      rw [hb] at k
      exact iteT k
    · refine iteF ?_
      refine ⟨_, rfl, q, _, _, .str w, rfl, rfl, SqT.of hq, atI_nat (j := 0) rfl, rfl, _, rfl, ?_⟩
      rw [str_eqD]
      by_cases cg : w = "go"
      · rw [decide_eq_true cg]
        rw [if_pos cg] at hb
        rw [hb] at k
        exact iteT ⟨_, rfl, q, _, _, v, rfl, rfl, SqT.of hq, atI_nat (j := 1) rfl, v, 1, 100, o, rfl, th, k⟩
      · rw [decide_eq_false cg]
        rw [if_neg cg] at hb
        rw [hb] at k
        refine iteF ?_
        have last : ∀ c : Bool, c = (decide (w = "take") || decide (w = "drop")) → (if c = true then (tCall (sp_is_among K) [] E0 (tCons (tOp (rIxT K) (tVar 0) (tC (.int 1))) (tCons (tC (.int 0)) (tCons (tC (.int 100)) tNil)))) [some (.ref q)] H1 (fun v H2 => Q v H2) else Q (.bl false) H1) := fun c hc => by
          rw [← hc] at k
          cases c with
          | true =>
            rw [Bool.true_and] at k
            exact iteT ⟨_, rfl, q, _, _, v, rfl, rfl, SqT.of hq, atI_nat (j := 1) rfl, v, 0, 100, o, rfl, th, k⟩
          | false =>
            rw [Bool.false_and] at k
            exact iteF k
        refine ⟨_, rfl, q, _, _, .str w, rfl, rfl, SqT.of hq, atI_nat (j := 0) rfl, rfl, _, rfl, ?_⟩
        rw [str_eqD]
        refine ite2 (fun c => ?_) (fun c => ?_)
        · exact ⟨true, rfl, last true (by rw [c, Bool.true_or])⟩
        · refine ⟨_, rfl, q, _, _, .str w, rfl, rfl, SqT.of hq, atI_nat (j := 0) rfl, rfl, ?_⟩
          rw [str_eqD]
          exact ⟨_, rfl, last _ (by rw [Bool.eq_false_iff.mpr c, Bool.false_or])⟩
def InitBad (K : PySem.W.Frag) (C1 C2 : Addr) (H : Hp) (fx y rm : V) (E : XK) : Prop := ∃ o b o3, Thg K H fx o ∧ ListTh K H y b ∧ Thg K H rm o3 ∧
  ((among o 0 999982 = false ∧ E (.ref C1) none H) ∨ (among o 0 999982 = true ∧ b = false ∧ E (.ref C2) none H) ∨ (among o 0 999982 = true ∧ b = true ∧ among o3 1 12 = false ∧ E (.ref C1) none H))
def sp_Walker_init (K : PySem.W.Frag) (C C1 C2 : Addr) : Sp := fun vs H Q E =>
  (∃ (x dx p : Addr) (f R : Nat) (rs : List (Addr × Rule)), vs = [.ref x, .int (f : Int), .ref p, .int (R : Int)] ∧ H x = some (.ins C dx []) ∧ H p = some (.lst (refsR rs)) ∧ RS H rs ∧ f < 999983 ∧ rs.length ≤ 100 ∧ 1 ≤ R ∧ R ≤ 12 ∧
    ∀ (A : WA) (H' : Hp), A.x = x → A.dx = dx → H A.rl = none → H A.md = none → H A.sn = none → (∀ b o, H b = some o → b ≠ x → H' b = some o) → WAt C H' A rs R (wk0 f rs.length) → Q .non H') ∨
  (∃ (x : Addr) (fx y rm : V), vs = [.ref x, fx, y, rm] ∧ InitBad K C1 C2 H fx y rm E)
theorem ok_Walker_init (T : Txt K mg) : OkI P w K mg base T.aWalker "__init__" 5 ["self", "first", "rules", "room"] (sp_Walker_init K T.aWalker T.aBadCount T.aBadRule) := by
  obtain ⟨f_need_row, fd_need_row, m_need_row, k_need_row, b_need_row, G_need_row⟩ := ok_need_row (P := P) (w := w) (base := base) T
  obtain ⟨f_is_among, fd_is_among, m_is_among, k_is_among, b_is_among, G_is_among⟩ := ok_is_among (P := P) (w := w) (base := base) T
  refine oki T.d_Walker_init sc_Walker_init (fun vs H Q E h => ?_) (fun f cdv A outer s H vs Q E hr h => ?_)
  · rcases h with ⟨x, dx, p, f, R, rs, rfl, _⟩ | ⟨x, fx, y, rm, rfl, _⟩ <;> rfl
  · skip
    refine ⟨_, (pss_cons (ps_expr (pe_call G_need_row (hr.mono (by decide)) (by rfl) m_need_row k_need_row b_need_row .nil (passes_call (W := fun cls d _ H => E cls d H) (takes_of rfl rfl rfl rfl) (fun _ _ _ _ h => h)) (pa_cons (pv 1) (pa_cons (pv 2) pa_nil))))
        (pss_cons (ps_if (pt_not (pt_val (pe_call G_is_among (hr.mono (by decide)) (by rfl) m_is_among k_is_among b_is_among .nil passL (pa_cons (pv 3) (pa_cons pe_int (pa_cons (pe_glob (v := .int 12) (by rfl) T.c_MOST_ROOM.choose_spec ⟨_, rfl⟩) pa_nil))))))
        (pss_one (ps_raise rfl (takes_of rfl rfl rfl rfl) (pmk_own PySem.F.excBase_ValueError T.x_BadCount.x T.x_BadCount.g T.x_BadCount.k (raises_own T.x_BadCount.b T.x_BadCount.t) rfl)))
        pss_nil)
        (pss_cons (ps_fld (pv 0) (pe_callTy (T := "list") (r := rListOf K) call_list_of (by rfl) T.n_list (by decide +kernel) (pa_cons (pv 2) pa_nil)) rfl)
        (pss_cons (ps_fld (pv 0) (pv 3) rfl)
        (pss_cons (ps_fld (pv 0) pe_int rfl)
        (pss_cons (ps_fld (pv 0) (pv 1) rfl)
        (pss_cons (ps_fld (pv 0) pe_int rfl)
        (pss_cons (ps_fld (pv 0) (pe_callB call_len_seq (by rfl) T.n_len PySem.boot_len (pa_cons (pv 2) pa_nil)) rfl)
        (pss_cons (ps_fld (pv 0) pe_dnewK rfl)
        (pss_one (ps_fld (pv 0) (pe_lst pa_nil) rfl))))))))))), ?_⟩
    rcases h with ⟨x, dx, p, f, R, rs, rfl, hx, hP, hR, hf, hl, r1, r2, k⟩ | ⟨x, fx, y, rm, rfl, o, b, o3, t1, t2, t3, bad⟩
    case inr =>
      refine ⟨_, rfl, _, rfl, fx, y, o, b, rfl, t1, t2, fun c => ?_, fun c c2 => ?_, fun c c2 => ?_⟩
      · rcases bad with ⟨_, e⟩ | ⟨c', _⟩ | ⟨c', _⟩
        · exact e
        · rw [c] at c'; cases c'
        · rw [c] at c'; cases c'
      · rcases bad with ⟨c', _⟩ | ⟨_, _, e⟩ | ⟨_, c', _⟩
        · rw [c] at c'; cases c'
        · exact e
        · rw [c2] at c'; cases c'
      · rcases bad with ⟨c', _⟩ | ⟨_, c', _⟩ | ⟨_, _, c3, e⟩
        · rw [c] at c'; cases c'
        · rw [c2] at c'; cases c'
        · refine ⟨_, rfl, rm, 1, 12, o3, rfl, t3, _, rfl, ?_⟩
          rw [c3]
          exact iteT e
    have cl := T.o_Walker.cl
    have am : among (some (f : Int)) 0 999982 = true := among_of (by omega) (by omega)
    refine ⟨_, rfl, _, rfl, .int (f : Int), .ref p, some _, true, rfl, .int _, ListTh.good hP hR hl, fun c => absurd c (by rw [am]; decide), fun _ c => absurd c (by decide), fun _ _ => ?_⟩
    have am2 : among (some (R : Int)) 1 12 = true := among_of (by omega) (by omega)
    refine ⟨_, rfl, .int (R : Int), 1, 12, some _, rfl, .int _, _, rfl, ?_⟩
    rw [am2]
    refine iteF ?_
    refine ⟨_, rfl, p, _, rfl, .inl (SqL.of hP), fun l hl1 => ?_⟩
    have nxl : x ≠ l := ne_of_none hx hl1
    refine ⟨_, rfl, x, T.aWalker, dx, [], rfl, by rw [upd_ne nxl]; exact hx, cl, T.o_Walker.nru, by show 0 < 1000; decide, ?_⟩
    refine ⟨_, rfl, _, rfl, x, T.aWalker, dx, _, rfl, upd_same, cl, T.o_Walker.nro, by show 1 < 1000; decide, ?_⟩
    refine ⟨_, rfl, x, T.aWalker, dx, _, rfl, upd_same, cl, T.o_Walker.npl, by show 2 < 1000; decide, ?_⟩
    refine ⟨_, rfl, _, rfl, x, T.aWalker, dx, _, rfl, upd_same, cl, T.o_Walker.nst, by show 3 < 1000; decide, ?_⟩
    refine ⟨_, rfl, x, T.aWalker, dx, _, rfl, upd_same, cl, T.o_Walker.ndn, by show 4 < 1000; decide, ?_⟩
    have npx : p ≠ x := ne_of hP hx (by intro z; cases z)
    have npl : p ≠ l := ne_of_none hP hl1
    refine ⟨_, rfl, p, _, rfl, .inl (SqL.of (by rw [upd_ne npx, upd_ne npx, upd_ne npx, upd_ne npx, upd_ne npx, upd_ne npl]; exact hP)), _, rfl, x, T.aWalker, dx, _, rfl, upd_same, cl, T.o_Walker.nwa, by show 5 < 1000; decide, ?_⟩
    refine fun m hm => ?_
    have nxm : x ≠ m := ne_of_none upd_same hm
    refine ⟨_, rfl, x, T.aWalker, dx, _, rfl, by rw [upd_ne nxm]; exact upd_same, cl, T.o_Walker.nma, by show 6 < 1000; decide, ?_⟩
    refine ⟨by show 0 ≤ sizeLine; decide, fun n hn => ?_⟩
    have nxn : x ≠ n := ne_of_none upd_same hn
    refine ⟨_, rfl, x, T.aWalker, dx, _, rfl, by rw [upd_ne nxn]; exact upd_same, cl, T.o_Walker.nse, by show 7 < 1000; decide, ?_⟩
    have hm0 : (upd H l (.lst (refsR rs))) m = none := by
      simpa only [upd_ne nxm.symm] using hm
    have nlm : l ≠ m := ne_of_none upd_same hm0
    have hn0 : (upd (upd H l (.lst (refsR rs))) m (.dK [])) n = none := by
      have z := hn
      rw [upd_ne nxn.symm] at z
      by_cases e : n = m
      · rw [e, upd_same] at z; cases z
      · rw [upd_ne e] at z ⊢
        simpa only [upd_ne nxn.symm] using z
    have nmn : m ≠ n := ne_of_none upd_same hn0
    have nln : l ≠ n := ne_of_none (o := .lst (refsR rs)) (by rw [upd_ne nlm]; exact upd_same) hn0
    have keepl : ∀ b o, b ≠ x → (upd H l (.lst (refsR rs))) b = some o → b ≠ m → b ≠ n → upd (upd (upd (upd (upd (upd (upd (upd (upd (upd (upd H l (.lst (refsR rs))) x (.ins T.aWalker dx (putF "rules" (.ref l) []))) x (.ins T.aWalker dx (putF "room" (.int (R : Int)) (putF "rules" (.ref l) [])))) x (.ins T.aWalker dx (putF "place" (.int 0) (putF "room" (.int (R : Int)) (putF "rules" (.ref l) []))))) x (.ins T.aWalker dx (putF "state" (.int (f : Int)) (putF "place" (.int 0) (putF "room" (.int (R : Int)) (putF "rules" (.ref l) [])))))) x (.ins T.aWalker dx (putF "done" (.int 0) (putF "state" (.int (f : Int)) (putF "place" (.int 0) (putF "room" (.int (R : Int)) (putF "rules" (.ref l) []))))))) x (.ins T.aWalker dx (putF "wanted" (.int ((refsR rs).length : Int)) (putF "done" (.int 0) (putF "state" (.int (f : Int)) (putF "place" (.int 0) (putF "room" (.int (R : Int)) (putF "rules" (.ref l) [])))))))) m (.dK [])) x (.ins T.aWalker dx (putF "marks" (.ref m) (putF "wanted" (.int ((refsR rs).length : Int)) (putF "done" (.int 0) (putF "state" (.int (f : Int)) (putF "place" (.int 0) (putF "room" (.int (R : Int)) (putF "rules" (.ref l) []))))))))) n (.lst [])) x (.ins T.aWalker dx (putF "seen" (.ref n) (putF "marks" (.ref m) (putF "wanted" (.int ((refsR rs).length : Int)) (putF "done" (.int 0) (putF "state" (.int (f : Int)) (putF "place" (.int 0) (putF "room" (.int (R : Int)) (putF "rules" (.ref l) [])))))))))  b = some o := fun b o hb h n1 n2 => by
      rw [upd_ne hb, upd_ne n2, upd_ne hb, upd_ne n1, upd_ne hb, upd_ne hb, upd_ne hb, upd_ne hb, upd_ne hb, upd_ne hb]
      exact h
    refine k ⟨x, dx, l, m, n⟩ _ rfl rfl hl1 ((Same.new hl1).free hm0) ((Same.new hl1).free ((Same.new hm0).free hn0)) (fun b o h hb => ?_) ?_
    · have h1 := (Same.new (o := .lst (refsR rs)) hl1) _ _ h
      have h2 := (Same.new (o := .dK []) hm0) _ _ h1
      exact keepl b o hb h1 (ne_of_none h1 hm0) (ne_of_none h2 hn0)
    · refine ⟨?_, keepl l _ nxl.symm upd_same nlm nln, ?_, ?_, nln⟩
      · show upd _ x _ x = _
        rw [upd_same, wF_made, refsR_len] <;> rfl
      · show upd _ x _ m = _
        rw [upd_ne nxm.symm, upd_ne nmn, upd_ne nxm.symm, upd_same] <;> rfl
      · show upd _ x _ n = _
        rw [upd_ne nxn.symm, upd_same] <;> rfl
theorem cut_rules (rs : List (Addr × Rule)) (i m : Nat) : cutV (refsR rs) (some (i : Int)) (some ((i : Int) + (m : Int))) = refsR ((rs.drop i).take m) := by
  unfold cutV refsR
  have e1 : ∀ (n j d : Nat), HT.sIx n d (some (j : Int)) = min j n := fun n j d => by
    unfold HT.sIx
    first | rfl | (simp; omega) | (split <;> simp <;> omega)
  rw [show ((i : Int) + (m : Int)) = ((i + m : Nat) : Int) from rfl, e1, e1, List.length_map]
  by_cases c : i ≤ rs.length
  · rw [Nat.min_eq_left c, ← List.map_drop, ← List.map_take]
    congr 1
    by_cases c2 : i + m ≤ rs.length
    · rw [Nat.min_eq_left c2, show i + m - i = m by omega]
    · rw [Nat.min_eq_right (by omega), List.take_of_length_le (by rw [List.length_drop]; omega), List.take_of_length_le (by rw [List.length_drop]; omega)]
  · rw [Nat.min_eq_right (by omega), Nat.min_eq_right (by omega), List.drop_of_length_le (by rw [List.length_map]; omega), List.drop_of_length_le (by omega), List.take_nil, List.take_nil] <;> rfl
def sp_Walker_keep (K : PySem.W.Frag) (C : Addr) (c8 : Nat → Addr) : Sp := fun vs H Q E => ∃ (A : WA) (rs : List (Addr × Rule)) (R : Nat) (w : WK), vs = [.ref A.x] ∧ StepP K C c8 H A rs R w .keep Q E
theorem ok_Walker_keep (T : Txt K mg) : OkM P w K mg base T.aWalker "keep" 1 ["self"] (sp_Walker_keep K T.aWalker T.w8) := by
  refine okm T.d_Walker_keep sc_Walker_keep (fun vs H Q E h => ?_) (fun f cdv A outer s H vs Q E hr h => ?_)
  · obtain ⟨A, rs, R, w', rfl, W, hR, ok, hl, hm, hs, kg, kb⟩ := h
    rfl
  · obtain ⟨A, rs, R, w', rfl, W, hR, ok, hl, hm, hs, kg, kb⟩ := h
    refine ⟨_, (pss_cons (ps_if (pt_cmp (pc_din (hu_of hr) (pe_fld (pv 0) rfl) (pe_fld (pv 0) rfl)))
        (pss_one (ps_raise rfl (takes_of rfl rfl rfl rfl) (pmk_own PySem.F.excBase_ValueError T.x_Twice.x T.x_Twice.g T.x_Twice.k (raises_own T.x_Twice.b T.x_Twice.t) rfl)))
        pss_nil)
        (pss_cons (ps_if (pt_cmpR op_eq (pe_callB call_lenD (by rfl) T.n_len PySem.boot_len (pa_cons (pe_fld (pv 0) rfl) pa_nil)) (pe_fld (pv 0) rfl) (nomark _))
        (pss_one (ps_raise rfl (takes_of rfl rfl rfl rfl) (pmk_own PySem.F.excBase_ValueError T.x_Full.x T.x_Full.g T.x_Full.k (raises_own T.x_Full.b T.x_Full.t) rfl)))
        pss_nil)
        (pss_one (ps_dput (hu_of hr) (pe_fld (pv 0) rfl) (pe_fld (pv 0) rfl) (pe_fld (pv 0) rfl) rfl)))), ?_⟩
    have hu := hu_of hr
    have cl := T.o_Walker.cl
    have O := T.o_Walker
    refine ⟨_, rfl, A.x, T.aWalker, A.dx, _, _, rfl, W.ob, cl, O.npl, wF_place .., _, rfl, A.x, T.aWalker, A.dx, _, _, rfl, W.ob, cl, O.nma, wF_marks .., A.md, _, rfl, DGet.k (k := Sum.inl (w'.pl : Int)) W.ma, _, rfl, ?_⟩
    rw [mkK_val]
    cases e : stOf w'.mks w'.pl with
    | some s =>
      refine iteT ?_
      refine kb 4 ?_
      show (if (stOf w'.mks w'.pl).isSome = true then Except.error 4 else _) = Except.error 4
      rw [e] <;> rfl
    | none =>
      refine iteF ?_
      refine ⟨_, rfl, A.x, T.aWalker, A.dx, _, _, rfl, W.ob, cl, O.nma, wF_marks .., A.md, _, rfl, W.ma, _, rfl, A.x, T.aWalker, A.dx, _, _, rfl, W.ob, cl, O.nro, wF_room .., rfl, _, rfl, ?_⟩
      have eq : decide (V.int ((mkK w'.mks).length : Int) = V.int (R : Int)) = decide (w'.mks.length = R) := decide_eq_decide.mpr ⟨fun z => by
        have := V.int.inj z
        rw [mkK_len] at this
        omega, fun z => by rw [mkK_len, z]⟩
      rw [eq]
      refine ite2 (fun c => ?_) (fun c => ?_)
      · refine kb 3 ?_
        show (if (stOf w'.mks w'.pl).isSome = true then Except.error 4 else if w'.mks.length = R then Except.error 3 else _) = Except.error 3
        rw [e, if_neg (by decide), if_pos (of_decide_eq_true c)]
      · refine ⟨_, rfl, A.x, T.aWalker, A.dx, _, _, rfl, W.ob, cl, O.nst, wF_state .., _, rfl, A.x, T.aWalker, A.dx, _, _, rfl, W.ob, cl, O.nma, wF_marks .., _, rfl, A.x, T.aWalker, A.dx, _, _, rfl, W.ob, cl, O.npl, wF_place .., A.md, _, rfl, DPut.k (k := Sum.inl (w'.pl : Int)) W.ma (small1000 (by rw [mkK_len]; exact hm)), ?_⟩
        rw [mkK_put e]
        refine kg { w' with mks := w'.mks ++ [(w'.pl, w'.st)] } ?_ _ But.upd_mk ⟨?_, ?_, upd_same, ?_, W.n1⟩
        · show (if (stOf w'.mks w'.pl).isSome = true then Except.error 4 else if w'.mks.length = R then Except.error 3 else _) = _
          rw [e, if_neg (by decide), if_neg (fun z => c (decide_eq_true z))]
        · rw [upd_ne W.xm]
          exact W.ob
        · rw [upd_ne W.rm]
          exact W.ru
        · rw [upd_ne W.ms.symm]
          exact W.se
def sp_Walker_meet (K : PySem.W.Frag) (C : Addr) (c8 : Nat → Addr) : Sp := fun vs H Q E => ∃ (A : WA) (rs : List (Addr × Rule)) (R : Nat) (w : WK), vs = [.ref A.x] ∧ StepP K C c8 H A rs R w .meet Q E
theorem ok_Walker_meet (T : Txt K mg) : OkM P w K mg base T.aWalker "meet" 1 ["self"] (sp_Walker_meet K T.aWalker T.w8) := by
  refine okm T.d_Walker_meet sc_Walker_meet (fun vs H Q E h => ?_) (fun f cdv A outer s H vs Q E hr h => ?_)
  · obtain ⟨A, rs, R, w', rfl, W, hR, ok, hl, hm, hs, kg, kb⟩ := h
    rfl
  · obtain ⟨A, rs, R, w', rfl, W, hR, ok, hl, hm, hs, kg, kb⟩ := h
    refine ⟨_, (pss_cons (ps_if (pt_cmpR op_ne (pe_fld (pv 0) rfl) (pe_fld (pv 0) rfl) (nomark _))
        (pss_one (ps_raise rfl (takes_of rfl rfl rfl rfl) (pmk_own PySem.F.excBase_ValueError T.x_NotWanted.x T.x_NotWanted.g T.x_NotWanted.k (raises_own T.x_NotWanted.b T.x_NotWanted.t) rfl)))
        pss_nil)
        (pss_cons (ps_expr (pe_bm PySem.F.plainAttrs_list PySem.F.slot_list_append PySem.F.type_list_append mt_append (pe_fld (pv 0) rfl) (pa_cons (pe_fld (pv 0) rfl) pa_nil)))
        (pss_one (ps_fld (pv 0) (pe_ifExp (pt_cmpR op_eq (pe_fld (pv 0) rfl) pe_int (nomark _)) pe_non (pe_op op_sub (pe_fld (pv 0) rfl) pe_int)) rfl)))), ?_⟩
    have cl := T.o_Walker.cl
    have O := T.o_Walker
    have eq : decide (V.int (w'.pl : Int) = oW w'.wa) = decide (some w'.pl = w'.wa) := decide_eq_decide.mpr (by
      cases w'.wa with
      | none => exact ⟨fun z => (by cases z), fun z => (by cases z)⟩
      | some n => exact ⟨fun z => by have := V.int.inj z; congr 1; omega, fun z => by rw [Option.some.inj z] <;> rfl⟩)
    have D : WAt T.aWalker H A rs R w' := W
    refine ⟨_, rfl, A.x, T.aWalker, A.dx, _, _, rfl, W.ob, cl, O.npl, wF_place .., _, rfl, A.x, T.aWalker, A.dx, _, _, rfl, W.ob, cl, O.nwa, wF_wanted .., ?_⟩
    refine ⟨by cases w'.wa <;> rfl, _, rfl, ?_⟩
    rw [eq]
    refine ite2 (fun c => ?_) (fun c => ?_)
    · refine kb 7 ?_
      show (if some w'.pl = w'.wa then _ else Except.error 7) = Except.error 7
      rw [if_neg (fun z => by rw [decide_eq_true z] at c; exact absurd c (by decide))]
    have c' : some w'.pl = w'.wa := by
      by_cases z : some w'.pl = w'.wa
      · exact z
      · exact absurd (by rw [decide_eq_false z] <;> rfl) c
    refine ⟨_, rfl, A.x, T.aWalker, A.dx, _, _, rfl, W.ob, cl, O.nse, wF_seen .., .inl ⟨rfl, _, SqL.of W.se⟩, _, rfl, A.x, T.aWalker, A.dx, _, _, rfl, W.ob, cl, O.nst, wF_state .., A.sn, _, _, rfl, rfl, W.se, sz5' (by rw [List.length_map]; omega), ?_⟩
    have hob : (upd H A.sn (.lst (w'.sn.map (fun (s : Nat) => V.int (s : Int)) ++ [V.int (w'.st : Int)]))) A.x = some (.ins T.aWalker A.dx (wF A.rl (R : Int) (w'.pl : Int) (w'.st : Int) (w'.dn : Int) (oW w'.wa) A.md A.sn)) := by
      rw [upd_ne W.xs]
      exact W.ob
    have fin : ∀ wa', wa' = (if w'.pl = 0 then none else some (w'.pl - 1)) → Q .non (upd (upd H A.sn (.lst (w'.sn.map (fun (s : Nat) => V.int (s : Int)) ++ [V.int (w'.st : Int)]))) A.x (.ins T.aWalker A.dx (putF "wanted" (oW wa') (wF A.rl (R : Int) (w'.pl : Int) (w'.st : Int) (w'.dn : Int) (oW w'.wa) A.md A.sn)))) := fun wa' hwa => by
      rw [wF_sw]
      refine kg { w' with sn := w'.sn ++ [w'.st], wa := if w'.pl = 0 then none else some (w'.pl - 1) } ?_ _ (But.upd_sn.trans But.upd_x) ⟨?_, ?_, ?_, ?_, W.n1⟩
      · show (if some w'.pl = w'.wa then _ else Except.error 7) = _
        rw [if_pos c']
      · rw [upd_same, hwa]
      · rw [upd_ne W.xr.symm, upd_ne W.n1]
        exact W.ru
      · rw [upd_ne W.xm.symm, upd_ne W.ms]
        exact W.ma
      · rw [upd_ne W.xs.symm, upd_same, List.map_append] <;> rfl
    refine ⟨_, rfl, A.x, T.aWalker, A.dx, _, _, rfl, hob, cl, O.npl, wF_place .., rfl, _, rfl, ?_⟩
    refine ite2 (fun z => ?_) (fun z => ?_)
    · have z' : w'.pl = 0 := by
        have := V.int.inj (of_decide_eq_true z)
        omega
      exact ⟨_, rfl, A.x, T.aWalker, A.dx, _, rfl, hob, cl, O.nwa, wF_len .., fin none (by rw [if_pos z'])⟩
    · have z' : ¬ w'.pl = 0 := fun q => z (decide_eq_true (by rw [q] <;> rfl))
      refine ⟨_, rfl, A.x, T.aWalker, A.dx, _, _, rfl, hob, cl, O.npl, wF_place .., _, _, rfl, rfl, _, rfl, A.x, T.aWalker, A.dx, _, rfl, hob, cl, O.nwa, wF_len .., ?_⟩
      have f := fin (some (w'.pl - 1)) (by rw [if_neg z'])
      have e1 : ((w'.pl : Int) - 1) = ((w'.pl - 1 : Nat) : Int) := by omega
      show Q .non (upd _ A.x (.ins T.aWalker A.dx (putF "wanted" (.int ((w'.pl : Int) - 1)) _)))
      rw [e1]
      exact f
def sp_Walker_go (K : PySem.W.Frag) (C : Addr) (c8 : Nat → Addr) : Sp := fun vs H Q E => ∃ (A : WA) (rs : List (Addr × Rule)) (R : Nat) (w : WK) (m : Nat), vs = [.ref A.x, .int (m : Int)] ∧ StepP K C c8 H A rs R w (.go m) Q E
theorem ok_Walker_go (T : Txt K mg) : OkM P w K mg base T.aWalker "go" 2 ["self", "many"] (sp_Walker_go K T.aWalker T.w8) := by
  obtain ⟨f_forth, fd_forth, m_forth, k_forth, b_forth, G_forth⟩ := ok_forth (P := P) (w := w) (base := base) T
  refine okm T.d_Walker_go sc_Walker_go (fun vs H Q E h => ?_) (fun f cdv A outer s H vs Q E hr h => ?_)
  · obtain ⟨A, rs, R, w', m, rfl, W, hR, ok, hl, hm, hs, kg, kb⟩ := h
    rfl
  · obtain ⟨A, rs, R, w', m, rfl, W, hR, ok, hl, hm, hs, kg, kb⟩ := h
    refine ⟨_, (pss_cons (ps_if (pt_cmpR op_gt (pe_op op_add (pe_fld (pv 0) rfl) (pv 1)) (pe_callB call_len_seq (by rfl) T.n_len PySem.boot_len (pa_cons (pe_fld (pv 0) rfl) pa_nil)) (nomark _))
        (pss_one (ps_raise rfl (takes_of rfl rfl rfl rfl) (pmk_own PySem.F.excBase_ValueError T.x_AtEnd.x T.x_AtEnd.g T.x_AtEnd.k (raises_own T.x_AtEnd.b T.x_AtEnd.t) rfl)))
        pss_nil)
        (pss_cons (ps_for (passes_of rfl) rfl (pi_list (pe_slice sl_list (pe_fld (pv 0) rfl) (po_some (pe_fld (pv 0) rfl)) (po_some (pe_op op_add (pe_fld (pv 0) rfl) (pv 1))))) (pg_name (i := 2) sc_Walker_go.nd rfl (Or.inl rfl))
        (pss_one (ps_fld (pv 0) (pe_call G_forth (hr.mono (by decide)) (by rfl) m_forth k_forth b_forth .nil passL (pa_cons (pv 2) (pa_cons (pe_fld (pv 0) rfl) pa_nil))) rfl)))
        (pss_cons (ps_fld (pv 0) (pe_op op_add (pe_fld (pv 0) rfl) (pv 1)) rfl)
        (pss_one (ps_fld (pv 0) (pe_op op_add (pe_fld (pv 0) rfl) (pv 1)) rfl))))), ?_⟩
    have cl := T.o_Walker.cl
    have O := T.o_Walker
    refine ⟨_, rfl, A.x, T.aWalker, A.dx, _, _, rfl, W.ob, cl, O.npl, wF_place .., _, rfl, _, _, rfl, rfl, _, rfl, A.x, T.aWalker, A.dx, _, _, rfl, W.ob, cl, O.nru, wF_rules .., A.rl, _, rfl, .inl (SqL.of W.ru), _, _, rfl, rfl, _, rfl, ?_⟩
    have el : (rs.map (·.2)).length = rs.length := List.length_map ..
    rw [refsR_len]
    refine ite2 (fun c => ?_) (fun c => ?_)
    · refine kb 6 ?_
      have := of_decide_eq_true c
      show (if w'.pl + m > (rs.map (·.2)).length then Except.error 6 else _) = Except.error 6
      rw [if_pos (by rw [el]; omega)]
    have c' : ¬ w'.pl + m > rs.length := fun z => c (decide_eq_true (by omega))
    refine ⟨_, rfl, A.x, T.aWalker, A.dx, _, _, rfl, W.ob, cl, O.nru, wF_rules .., ?_⟩
    refine ⟨_, rfl, A.x, T.aWalker, A.dx, _, _, rfl, W.ob, cl, O.npl, wF_place .., _, rfl, ?_⟩
    refine ⟨_, rfl, A.x, T.aWalker, A.dx, _, _, rfl, W.ob, cl, O.npl, wF_place .., _, rfl, _, _, rfl, rfl, _, rfl, ?_⟩
    refine ⟨A.rl, _, rfl, SqL.of W.ru, fun p hp => ?_⟩
    rw [cut_rules]
    have W1 := W.same (Same.new (o := .lst (refsR ((rs.drop w'.pl).take m))) hp)
    have nxp : A.x ≠ p := ne_of_none W.ob hp
    refine ⟨p, rfl, ⟨_, SqL.of upd_same⟩, ?_⟩
    refine for_list (K := K) (a := p) (xs := refsR ((rs.drop w'.pl).take m)) (fun i σ H' => (∃ u, σ = [some (.ref A.x), some (.int (m : Int)), u]) ∧ But A H H' ∧ H' p = some (.lst (refsR ((rs.drop w'.pl).take m))) ∧
        WAt T.aWalker H' A rs R { w' with st := lastN w'.st ((((rs.drop w'.pl).take m).take i).map (·.2)) }) ⟨⟨none, rfl⟩, Same.but (Same.new hp), upd_same, W1⟩ (fun i σ H' _ ⟨_, _, h, _⟩ => SqL.of h) ?_ ?_
    · rintro i y σ H' hi ⟨⟨u, rfl⟩, bt, hP, W2⟩
      obtain ⟨q, hq, rfl⟩ := get_map hi
      have hqm : q ∈ rs := List.mem_of_mem_drop (List.mem_of_mem_take (List.mem_of_getElem? hq))
      obtain ⟨hqt, hqo⟩ := (RS.but W bt hR) q hqm
      refine ⟨_, rfl, _, rfl, A.x, T.aWalker, A.dx, _, _, rfl, W2.ob, cl, O.nst, wF_state .., q.1, q.2, _, rfl, hqt, hqo, lastN_lt ok.st, ?_⟩
      refine ⟨_, rfl, A.x, T.aWalker, A.dx, _, rfl, W2.ob, cl, O.nst, wF_len .., ?_⟩
      rw [wF_ss]
      refine ⟨⟨_, rfl⟩, bt.trans But.upd_x, by rw [upd_ne nxp.symm]; exact hP, ⟨?_, ?_, ?_, ?_, W.n1⟩⟩
      · rw [upd_same, take_succ hq, List.map_append, List.map_cons, List.map_nil, lastN_snoc]
      · rw [upd_ne W.xr.symm]
        exact W2.ru
      · rw [upd_ne W.xm.symm]
        exact W2.ma
      · rw [upd_ne W.xs.symm]
        exact W2.se
    · rintro σ H' ⟨⟨u, rfl⟩, bt, hP, W2⟩
      rw [refsR_len, List.take_length] at W2
      refine ⟨_, rfl, A.x, T.aWalker, A.dx, _, _, rfl, W2.ob, cl, O.npl, wF_place .., _, rfl, _, _, rfl, rfl, _, rfl, A.x, T.aWalker, A.dx, _, rfl, W2.ob, cl, O.npl, wF_len .., ?_⟩
      rw [wF_sp]
      refine ⟨_, rfl, A.x, T.aWalker, A.dx, _, _, rfl, upd_same, cl, O.ndn, wF_done .., _, rfl, _, _, rfl, rfl, _, rfl, A.x, T.aWalker, A.dx, _, rfl, upd_same, cl, O.ndn, wF_len .., ?_⟩
      rw [wF_sd]
      refine kg { w' with pl := w'.pl + m, st := lastN w'.st (((rs.map (·.2)).drop w'.pl).take m), dn := w'.dn + m } ?_ _ ((bt.trans But.upd_x).trans But.upd_x) ⟨?_, ?_, ?_, ?_, W.n1⟩
      · show (if w'.pl + m > (rs.map (·.2)).length then Except.error 6 else _) = _
        rw [if_neg (by rw [el]; exact c')]
      · rw [upd_same, ← List.map_drop, ← List.map_take, Int.natCast_add, Int.natCast_add]
      · rw [upd_ne W.xr.symm, upd_ne W.xr.symm]
        exact W2.ru
      · rw [upd_ne W.xm.symm, upd_ne W.xm.symm]
        exact W2.ma
      · rw [upd_ne W.xs.symm, upd_ne W.xs.symm]
        exact W2.se
def sp_Walker_do (K : PySem.W.Frag) (C : Addr) (c8 : Nat → Addr) : Sp := fun vs H Q E => ∃ (A : WA) (x : V), vs = [.ref A.x, x] ∧
  ((DeedTh K H x false ∧ E (.ref (c8 2)) none H) ∨ (∃ (a : Addr) (d : Deed) (rs : List (Addr × Rule)) (R : Nat) (w : WK), x = .ref a ∧ H a = some (.tup d.vs) ∧ d.ok ∧ StepP K C c8 H A rs R w d Q E))
theorem ok_Walker_do (T : Txt K mg) : OkM P w K mg base T.aWalker "do" 3 ["self", "deed"] (sp_Walker_do K T.aWalker T.w8) := by
  obtain ⟨f_is_deed, fd_is_deed, m_is_deed, k_is_deed, b_is_deed, G_is_deed⟩ := ok_is_deed (P := P) (w := w) (base := base) T
  obtain ⟨f_Walker_keep, fd_Walker_keep, M_Walker_keep, b_Walker_keep, G_Walker_keep⟩ := ok_Walker_keep (P := P) (w := w) (base := base) T
  obtain ⟨f_Walker_meet, fd_Walker_meet, M_Walker_meet, b_Walker_meet, G_Walker_meet⟩ := ok_Walker_meet (P := P) (w := w) (base := base) T
  obtain ⟨f_Walker_go, fd_Walker_go, M_Walker_go, b_Walker_go, G_Walker_go⟩ := ok_Walker_go (P := P) (w := w) (base := base) T
  refine okm T.d_Walker_do sc_Walker_do (fun vs H Q E h => ?_) (fun f cdv A outer s H vs Q E hr h => ?_)
  · obtain ⟨A, x, rfl, h⟩ := h
    rfl
  · obtain ⟨A, x, rfl, h⟩ := h
    refine ⟨_, (pss_cons (ps_if (pt_not (pt_val (pe_call G_is_deed (hr.mono (by decide)) (by rfl) m_is_deed k_is_deed b_is_deed .nil passL (pa_cons (pv 1) pa_nil))))
        (pss_one (ps_raise rfl (takes_of rfl rfl rfl rfl) (pmk_own PySem.F.excBase_ValueError T.x_BadDeed.x T.x_BadDeed.g T.x_BadDeed.k (raises_own T.x_BadDeed.b T.x_BadDeed.t) rfl)))
        pss_nil)
        (pss_one (ps_if (pt_cmpR op_eq (pe_ix ix_tup (pv 1) pe_int (fun _ _ => rfl)) pe_str (nomark _))
        (pss_one (ps_expr (pe_meth0 (pv 0) T.o_Walker.cl M_Walker_keep G_Walker_keep (hr.mono (by decide)) b_Walker_keep .nil (passes_call (W := fun cls d _ H => E cls d H) (takes_of rfl rfl rfl rfl) (fun _ _ _ _ h => h)))))
        (pss_one (ps_if (pt_cmpR op_eq (pe_ix ix_tup (pv 1) pe_int (fun _ _ => rfl)) pe_str (nomark _))
        (pss_one (ps_expr (pe_meth0 (pv 0) T.o_Walker.cl M_Walker_meet G_Walker_meet (hr.mono (by decide)) b_Walker_meet .nil (passes_call (W := fun cls d _ H => E cls d H) (takes_of rfl rfl rfl rfl) (fun _ _ _ _ h => h)))))
        (pss_one (ps_if (pt_cmpR op_eq (pe_ix ix_tup (pv 1) pe_int (fun _ _ => rfl)) pe_str (nomark _))
        (pss_one (ps_expr (pe_meth (pv 0) T.o_Walker.cl M_Walker_go G_Walker_go (hr.mono (by decide)) b_Walker_go .nil (passes_call (W := fun cls d _ H => E cls d H) (takes_of rfl rfl rfl rfl) (fun _ _ _ _ h => h)) (pa_cons (pe_ix ix_tup (pv 1) pe_int (fun _ _ => rfl)) pa_nil))))
        (pss_cons (ps_if (pt_cmp (pc_dnotin (hu_of hr) (pe_ix ix_tup (pv 1) pe_int (fun _ _ => rfl)) (pe_fld (pv 0) rfl)))
        (pss_one (ps_raise rfl (takes_of rfl rfl rfl rfl) (pmk_own PySem.F.excBase_ValueError T.x_NotKept.x T.x_NotKept.g T.x_NotKept.k (raises_own T.x_NotKept.b T.x_NotKept.t) rfl)))
        pss_nil)
        (pss_one (ps_if (pt_cmpR op_eq (pe_ix ix_tup (pv 1) pe_int (fun _ _ => rfl)) pe_str (nomark _))
        (pss_one (ps_expr (pe_dpop1 (pe_fld (pv 0) rfl) (pe_ix ix_tup (pv 1) pe_int (fun _ _ => rfl)) ⟨rfl, rfl, rfl, rfl⟩)))
        (pss_cons (ps_fld (pv 0) (pe_ix ix_tup (pv 1) pe_int (fun _ _ => rfl)) rfl)
        (pss_one (ps_fld (pv 0) (pe_dget (hu_of hr) (pe_fld (pv 0) rfl) (pe_ix ix_tup (pv 1) pe_int (fun _ _ => rfl)) (fun _ _ => rfl)) rfl))))))))))))), ?_⟩
    have hu := hu_of hr
    have cl := T.o_Walker.cl
    have O := T.o_Walker
    rcases h with ⟨th, e⟩ | ⟨a, d, rs, R, w', rfl, ha, dok, SP⟩
    · exact ⟨_, rfl, x, false, rfl, th, _, rfl, iteT e⟩
    have W := SP.1
    refine ⟨_, rfl, .ref a, true, rfl, d.th dok ha, _, rfl, iteF ?_⟩
    refine ⟨_, rfl, a, _, _, .str d.word, rfl, rfl, SqT.of ha, d.at0, rfl, _, rfl, ?_⟩
    cases d with
    | keep =>
      refine iteT ?_
      exact ⟨_, rfl, A.x, A.dx, _, rfl, W.ob, wF_keep .., A, rs, R, w', rfl, SP⟩
    | meet =>
      rw [show decide (V.str Deed.meet.word = V.str "keep") = false by decide +kernel]
      refine iteF ?_
      refine ⟨_, rfl, a, _, _, .str "meet", rfl, rfl, SqT.of ha, rfl, rfl, _, rfl, iteT ?_⟩
      exact ⟨_, rfl, A.x, A.dx, _, rfl, W.ob, wF_meet .., A, rs, R, w', rfl, SP⟩
    | go m =>
      rw [show decide (V.str (Deed.go m).word = V.str "keep") = false from (by decide +kernel : decide (V.str "go" = V.str "keep") = false)]
      refine iteF ?_
      refine ⟨_, rfl, a, _, _, .str "go", rfl, rfl, SqT.of ha, rfl, rfl, _, rfl, ?_⟩
      rw [show decide (V.str "go" = V.str "meet") = false by decide +kernel]
      refine iteF ?_
      refine ⟨_, rfl, a, _, _, .str "go", rfl, rfl, SqT.of ha, rfl, rfl, _, rfl, iteT ?_⟩
      exact ⟨_, rfl, A.x, A.dx, _, rfl, W.ob, wF_go .., _, rfl, a, _, _, .int (m : Int), rfl, rfl, SqT.of ha, rfl, A, rs, R, w', m, rfl, SP⟩
    | take p =>
      obtain ⟨_, hR, ok, hl, hm, hs, kg, kb⟩ := SP
      rw [show decide (V.str (Deed.take p).word = V.str "keep") = false from (by decide +kernel : decide (V.str "take" = V.str "keep") = false)]
      refine iteF ?_
      refine ⟨_, rfl, a, _, _, .str "take", rfl, rfl, SqT.of ha, rfl, rfl, _, rfl, ?_⟩
      rw [show decide (V.str "take" = V.str "meet") = false by decide +kernel]
      refine iteF ?_
      refine ⟨_, rfl, a, _, _, .str "take", rfl, rfl, SqT.of ha, rfl, rfl, _, rfl, ?_⟩
      rw [show decide (V.str "take" = V.str "go") = false by decide +kernel]
      refine iteF ?_
      refine ⟨_, rfl, a, _, _, .int (p : Int), rfl, rfl, SqT.of ha, rfl, _, rfl, A.x, T.aWalker, A.dx, _, _, rfl, W.ob, cl, O.nma, wF_marks .., A.md, _, rfl, DGet.k (k := Sum.inl (p : Int)) W.ma, _, rfl, ?_⟩
      have mv := mkK_val w'.mks p
      rw [mv]
      cases e : stOf w'.mks p with
      | none =>
        refine iteT ?_
        refine kb 5 ?_
        show (match stOf w'.mks p with | none => Except.error 5 | some s => _) = Except.error 5
        rw [e]
      | some s' =>
        refine iteF ?_
        rw [e] at mv
        refine ⟨_, rfl, a, _, _, .str "take", rfl, rfl, SqT.of ha, rfl, rfl, _, rfl, ?_⟩
        rw [show decide (V.str "take" = V.str "drop") = false by decide +kernel]
        refine iteF ?_
        refine ⟨_, rfl, a, _, _, .int (p : Int), rfl, rfl, SqT.of ha, rfl, _, rfl, A.x, T.aWalker, A.dx, _, rfl, W.ob, cl, O.npl, wF_len .., ?_⟩
        rw [wF_sp]
        have nax : a ≠ A.x := ne_of ha W.ob (by intro z; cases z)
        have ha1 : (upd H A.x (.ins T.aWalker A.dx (wF A.rl (R : Int) (p : Int) (w'.st : Int) (w'.dn : Int) (oW w'.wa) A.md A.sn))) a = some (.tup (Deed.take p).vs) := by
          rw [upd_ne nax]
          exact ha
        have hm1 : (upd H A.x (.ins T.aWalker A.dx (wF A.rl (R : Int) (p : Int) (w'.st : Int) (w'.dn : Int) (oW w'.wa) A.md A.sn))) A.md = some (.dK (mkK w'.mks)) := by
          rw [upd_ne W.xm.symm]
          exact W.ma
        refine ⟨_, rfl, A.x, T.aWalker, A.dx, _, _, rfl, upd_same, cl, O.nma, wF_marks .., _, rfl, a, _, _, .int (p : Int), rfl, rfl, SqT.of ha1, rfl, A.md, .int (s' : Int), rfl, ?_, ?_⟩
        · have g := DGet.k (k := Sum.inl (p : Int)) hm1
          rw [mv] at g
          exact g
        refine ⟨_, rfl, A.x, T.aWalker, A.dx, _, rfl, upd_same, cl, O.nst, wF_len .., ?_⟩
        rw [wF_ss]
        refine kg { w' with pl := p, st := s' } ?_ _ (But.upd_x.trans But.upd_x) ⟨upd_same, ?_, ?_, ?_, W.n1⟩
        · show (match stOf w'.mks p with | none => Except.error 5 | some s => _) = _
          rw [e]
        · rw [upd_ne W.xr.symm, upd_ne W.xr.symm]
          exact W.ru
        · rw [upd_ne W.xm.symm]
          exact hm1
        · rw [upd_ne W.xs.symm, upd_ne W.xs.symm]
          exact W.se
    | drop p =>
      obtain ⟨_, hR, ok, hl, hm, hs, kg, kb⟩ := SP
      rw [show decide (V.str (Deed.drop p).word = V.str "keep") = false from (by decide +kernel : decide (V.str "drop" = V.str "keep") = false)]
      refine iteF ?_
      refine ⟨_, rfl, a, _, _, .str "drop", rfl, rfl, SqT.of ha, rfl, rfl, _, rfl, ?_⟩
      rw [show decide (V.str "drop" = V.str "meet") = false by decide +kernel]
      refine iteF ?_
      refine ⟨_, rfl, a, _, _, .str "drop", rfl, rfl, SqT.of ha, rfl, rfl, _, rfl, ?_⟩
      rw [show decide (V.str "drop" = V.str "go") = false by decide +kernel]
      refine iteF ?_
      refine ⟨_, rfl, a, _, _, .int (p : Int), rfl, rfl, SqT.of ha, rfl, _, rfl, A.x, T.aWalker, A.dx, _, _, rfl, W.ob, cl, O.nma, wF_marks .., A.md, _, rfl, DGet.k (k := Sum.inl (p : Int)) W.ma, _, rfl, ?_⟩
      have mv := mkK_val w'.mks p
      rw [mv]
      cases e : stOf w'.mks p with
      | none =>
        refine iteT ?_
        refine kb 5 ?_
        show (match stOf w'.mks p with | none => Except.error 5 | some s => _) = Except.error 5
        rw [e]
      | some s' =>
        refine iteF ?_
        rw [e] at mv
        refine ⟨_, rfl, a, _, _, .str "drop", rfl, rfl, SqT.of ha, rfl, rfl, _, rfl, iteT ?_⟩
        refine ⟨_, rfl, A.x, T.aWalker, A.dx, _, _, rfl, W.ob, cl, O.nma, wF_marks .., A.md, rfl, .inl ⟨_, .inl W.ma⟩, _, rfl, a, _, _, .int (p : Int), rfl, rfl, SqT.of ha, rfl, _, Sum.inl (p : Int), .int (s' : Int), W.ma, rfl, mv, ?_⟩
        rw [mkK_drop]
        refine kg { w' with mks := w'.mks.filter fun q => q.1 != p } ?_ _ But.upd_mk ⟨?_, ?_, upd_same, ?_, W.n1⟩
        · show (match stOf w'.mks p with | none => Except.error 5 | some s => _) = _
          rw [e]
        · rw [upd_ne W.xm]
          exact W.ob
        · rw [upd_ne W.rm]
          exact W.ru
        · rw [upd_ne W.ms.symm]
          exact W.se
def sp_Walker_met (K : PySem.W.Frag) (C : Addr) : Sp := fun vs H Q E => ∃ (A : WA) (rs : List (Addr × Rule)) (R : Nat) (w : WK), vs = [.ref A.x] ∧ WAt C H A rs R w ∧ ∀ (p : Addr) (H' : Hp), H p = none → Same H H' → H' p = some (.lst (w.sn.map fun (s : Nat) => V.int (s : Int))) → Q (.ref p) H'
theorem ok_Walker_met (T : Txt K mg) : OkM P w K mg base T.aWalker "met" 1 ["self"] (sp_Walker_met K T.aWalker) := by
  refine okm T.d_Walker_met sc_Walker_met (fun vs H Q E h => ?_) (fun f cdv A outer s H vs Q E hr h => ?_)
  · obtain ⟨A, rs, R, w', rfl, W, k⟩ := h
    rfl
  · obtain ⟨A, rs, R, w', rfl, W, k⟩ := h
    refine ⟨_, (pss_one (ps_ret (pe_callTy (T := "list") (r := rListOf K) call_list_of (by rfl) T.n_list (by decide +kernel) (pa_cons (pe_fld (pv 0) rfl) pa_nil)))), ?_⟩
    exact ⟨_, rfl, A.x, T.aWalker, A.dx, _, _, rfl, W.ob, T.o_Walker.cl, T.o_Walker.nse, wF_seen .., A.sn, _, rfl, .inl (SqL.of W.se), fun l hl => k l _ hl (Same.new hl) upd_same⟩
def sp_walked (K : PySem.W.Frag) (C C1 C2 : Addr) (c8 : Nat → Addr) : Sp := fun vs H Q E =>
  (∃ (p q : Addr) (f R : Nat) (rs : List (Addr × Rule)) (xs : List V) (ts : List (Option Deed)), vs = [.int (f : Int), .ref p, .int (R : Int), .ref q] ∧ H p = some (.lst (refsR rs)) ∧ RS H rs ∧ f < 999983 ∧ rs.length ≤ 100 ∧ 1 ≤ R ∧ R ≤ 12 ∧
    SqL K H q xs ∧ ts.length = xs.length ∧ (∀ (i : Nat) (x : V) (t : Option Deed), xs[i]? = some x → ts[i]? = some t → ThingD K H x t) ∧
    (∀ v A H', runT (rs.map (·.2)) R ts (wk0 f rs.length) = .ok v → H A.x = none → H A.md = none → H A.sn = none → Same H H' → WAt C H' A rs R v → Q (.ref A.x) H') ∧
    (∀ i H', Same H H' → runT (rs.map (·.2)) R ts (wk0 f rs.length) = .error i → E (.ref (c8 i)) none H')) ∨
  (∃ (fx y rm z : V), vs = [fx, y, rm, z] ∧ InitBad K C1 C2 H fx y rm (fun c d _ => ∀ H', Same H H' → E c d H'))
theorem InitBad.up {K : PySem.W.Frag} {C1 C2 : Addr} {H H0 : Hp} {fx y rm : V} {E : XK} (e : Same H H0) (h : InitBad K C1 C2 H fx y rm (fun c d _ => ∀ H', Same H H' → E c d H')) : InitBad K C1 C2 H0 fx y rm E := by
  obtain ⟨o, b, o3, t1, t2, t3, bad⟩ := h
  have lt : ListTh K H0 y b := by
    cases t2 with
    | nlist ty ni => exact .nlist (tyX_same e ty) ni
    | big h hl => exact .big (e _ _ h) hl
    | all h hl hb ht => exact .all (e _ _ h) hl hb fun i x b hx hb => (ht i x b hx hb).same e
  refine ⟨o, b, o3, t1.same e, lt, t3.same e, ?_⟩
  rcases bad with ⟨a, z⟩ | ⟨a, b', z⟩ | ⟨a, b', c, z⟩
  · exact .inl ⟨a, z _ e⟩
  · exact .inr (.inl ⟨a, b', z _ e⟩)
  · exact .inr (.inr ⟨a, b', c, z _ e⟩)
theorem ok_walked (T : Txt K mg) : OkF P w K mg base "walked" 7 ["first", "rules", "room", "deeds"] (sp_walked K T.aWalker T.aBadCount T.aBadRule T.w8) := by
  obtain ⟨f_Walker_init, fd_Walker_init, M_Walker_init, b_Walker_init, G_Walker_init⟩ := ok_Walker_init (P := P) (w := w) (base := base) T
  obtain ⟨f_Walker_do, fd_Walker_do, M_Walker_do, b_Walker_do, G_Walker_do⟩ := ok_Walker_do (P := P) (w := w) (base := base) T
  refine okf T.d_walked sc_walked (fun vs H Q E h => ?_) (fun f cdv A outer s H vs Q E hr h => ?_)
  · rcases h with ⟨p, q, f, R, rs, xs, ts, rfl, _⟩ | ⟨fx, y, rm, z, rfl, _⟩ <;> rfl
  · skip
    refine ⟨_, (pss_cons (ps_set (i := 4) sc_walked.nd rfl (Or.inl rfl) (pe_make M_Walker_init G_Walker_init (hr.mono (by decide)) (by rfl) T.o_Walker.mgC b_Walker_init .nil (passes_call (W := fun cls d _ H => E cls d H) (takes_of rfl rfl rfl rfl) (fun _ _ _ _ h => h)) (pa_cons (pv 0) (pa_cons (pv 1) (pa_cons (pv 2) pa_nil)))))
        (pss_cons (ps_for (passes_of rfl) rfl (pi_list (pv 3)) (pg_name (i := 5) sc_walked.nd rfl (Or.inl rfl))
        (pss_one (ps_expr (pe_meth (pv 4) T.o_Walker.cl M_Walker_do G_Walker_do (hr.mono (by decide)) b_Walker_do .nil (passes_call (W := fun cls d _ H => E cls d H) (takes_of rfl rfl rfl rfl) (fun _ _ _ _ h => h)) (pa_cons (pv 5) pa_nil)))))
        (pss_one (ps_ret (pv 4))))), ?_⟩
    rcases h with ⟨p, q, f, R, rs, xs, ts, rfl, hP, hR, hf, hl, r1, r2, hS, hlen, hT, kg, kb⟩ | ⟨fx, y, rm, z, rfl, bad⟩
    case inr =>
      refine ⟨_, rfl, _, rfl, _, rfl, fun x dx hx hdx hne => .inr ⟨x, fx, y, rm, rfl, ?_⟩⟩
      refine bad.up fun b o e => ?_
      rw [upd_ne (ne_of_none e hx), upd_ne (ne_of_none e hdx)]
      exact e
    refine ⟨_, rfl, _, rfl, _, rfl, fun x dx hx hdx hne => ?_⟩
    have s0 : Same H (upd (upd H dx (.own x)) x (.ins T.aWalker dx [])) := fun b o e => by
      rw [upd_ne (ne_of_none e hx), upd_ne (ne_of_none e hdx)]
      exact e
    refine .inl ⟨x, dx, p, f, R, rs, rfl, upd_same, s0 _ _ hP, hR.same s0, hf, hl, r1, r2, fun A H1 e1 e2 a1 a2 a3 kp W => ⟨rfl, ?_⟩⟩
    subst e1
    have fr : ∀ z, (upd (upd H dx (.own A.x)) A.x (.ins T.aWalker dx [])) z = none → H z = none := fun z h => s0.free h
    have s1 : Same H H1 := fun b o e => kp b o (s0 b o e) (ne_of_none e hx)
    refine ⟨_, rfl, q, rfl, ⟨_, s1.seq hS⟩, ?_⟩
    refine for_list (K := K) (a := q) (xs := xs) (fun i σ H2 => ∃ u w, σ = [some (.int (f : Int)), some (.ref p), some (.int (R : Int)), some (.ref q), some (.ref A.x), u] ∧ runT (rs.map (·.2)) R (ts.take i) (wk0 f rs.length) = .ok w ∧ Same H H2 ∧ WAt T.aWalker H2 A rs R w ∧ w.Ok rs.length ∧ w.Ok2 rs.length R)
      ⟨none, wk0 f rs.length, rfl, rfl, s1, W, wk0_ok hf, wk0_ok2⟩ (fun i σ H2 _ ⟨_, _, _, _, s2, _⟩ => s2.seq hS) ?_ ?_
    · rintro i y σ H2 hi ⟨u, w', rfl, hrun, s2, W2, o1, o2⟩
      have hil := (List.getElem?_eq_some_iff.mp hi).1
      obtain ⟨t, ht⟩ : ∃ t, ts[i]? = some t := ⟨ts[i]'(by omega), List.getElem?_eq_getElem _⟩
      have th := (hT i y t hi ht).same s2
      refine ⟨_, rfl, A.x, A.dx, _, rfl, W2.ob, wF_do .., _, rfl, A, y, rfl, ?_⟩
      cases t with
      | none =>
        exact .inl ⟨th, kb 2 H2 s2 (runT_take_err hrun ht rfl)⟩
      | some d =>
        obtain ⟨a, rfl, ha, dok⟩ := th
        refine .inr ⟨a, d, rs, R, w', rfl, ha, dok, W2, hR.same s2, o1, hl, by have := o2.mo; omega, o2.sn_le hl, fun v hv H3 bt W3 => ?_, fun j hj => kb j H2 s2 (runT_take_err hrun ht (by show (match stepK _ R w' d with | .ok v => _ | .error i => _) = _; rw [hj]))⟩
        have hv' : stepK (rs.map (·.2)) R w' d = .ok v := hv
        refine ⟨_, v, rfl, ?_, fun b o e => bt b o (s2 _ _ e) (ne_of_none e hx) (ne_of_none e (fr _ a2)) (ne_of_none e (fr _ a3)), W3, ?_, o2.step hv'⟩
        · rw [take_succ ht, runT_append, hrun]
          show (match stepK _ R w' d with | .ok v => _ | .error i => _) = _
          rw [hv'] <;> rfl
        · have o1' : w'.Ok (rs.map (·.2)).length := by rw [List.length_map]; exact o1
          have := o1'.step hv'
          rw [List.length_map] at this
          exact this
    · rintro σ H2 ⟨u, w', rfl, hrun, s2, W2, o1, o2⟩
      rw [← hlen, List.take_length] at hrun
      exact ⟨_, rfl, kg w' A H2 hrun hx (fr _ a2) (fr _ a3) s2 W2⟩

/-- _law_cell_at(script, k): the k-th number, or 0 -/
def cellAt (ns : List Int) (k : Nat) : Int := ns.getD k 0
def sp_l_cell_at (K : PySem.W.Frag) : Sp := fun vs H Q _ => ∃ (a : Addr) (ns : List Int) (j : Nat), vs = [.ref a, .int (j : Int)] ∧ SqL K H a (ns.map V.int) ∧ Q (.int (cellAt ns j)) H
theorem ok_l_cell_at (T : Txt K mg) : OkF P w K mg base "_law_cell_at" 1 ["_law_script", "_law_k"] (sp_l_cell_at K) := by
  refine okf T.d_l_cell_at sc_l_cell_at (fun vs H Q E h => ?_) (fun f cdv A outer s H vs Q E hr h => ?_)
  · obtain ⟨a, ns, j, rfl, hS, k⟩ := h
    rfl
  · obtain ⟨a, ns, j, rfl, hS, k⟩ := h
    refine ⟨_, (pss_cons (ps_if (pt_cmpR op_lt (pv 1) (pe_callB call_len_seq (by rfl) T.n_len PySem.boot_len (pa_cons (pv 0) pa_nil)) (nomark _))
        (pss_one (ps_ret (pe_ix ix_list (pv 0) (pv 1) (fun _ _ => rfl))))
        pss_nil)
        (pss_one (ps_ret pe_int))), ?_⟩
    refine ⟨_, rfl, _, rfl, a, _, rfl, .inl hS, _, _, rfl, rfl, _, rfl, ?_⟩
    refine ite2 (fun c => ?_) (fun c => ?_)
    · have c' := of_decide_eq_true c
      rw [List.length_map] at c'
      have hj : j < ns.length := by omega
      refine ⟨_, rfl, _, rfl, a, _, _, .int (cellAt ns j), rfl, rfl, hS, ?_, k⟩
      refine at_map rfl ?_
      unfold cellAt
      rw [List.getElem?_eq_getElem hj, List.getD_eq_getElem?_getD, List.getElem?_eq_getElem hj] <;> rfl
    · have c' : ¬ ((j : Int) < ((ns.map V.int).length : Int)) := fun z => c (decide_eq_true z)
      rw [List.length_map] at c'
      have e : cellAt ns j = 0 := by
        unfold cellAt
        rw [List.getD_eq_getElem?_getD, List.getElem?_eq_none (by omega)] <;> rfl
      rw [e] at k
      exact k

def numN (ns : List Int) (j : Nat) : Int := if ns = [] then 5003 * (j : Int) else (ns.getD (j % ns.length) 0 + 7919 * ((j / ns.length : Nat) : Int) + 101 * (j : Int)) * 48271 % 2147483647
theorem num_nn (ns : List Int) (j : Nat) : 0 ≤ numN ns j := by
  unfold numN
  split
  · omega
  · exact Int.emod_nonneg _ (by decide)
def sp_l_number (K : PySem.W.Frag) : Sp := fun vs H Q _ => ∃ (a : Addr) (ns : List Int) (j : Nat), vs = [.ref a, .int (j : Int)] ∧ SqL K H a (ns.map V.int) ∧ ns.length ≤ 63 ∧ j < 100000 ∧ Q (.int (numN ns j)) H
theorem ok_l_number (T : Txt K mg) : OkF P w K mg base "_law_number" 1 ["_law_script", "_law_k"] (sp_l_number K) := by
  refine okf T.d_l_number sc_l_number (fun vs H Q E h => ?_) (fun f cdv A outer s H vs Q E hr h => ?_)
  · obtain ⟨a, ns, j, rfl, hS, hl, hj, k⟩ := h
    rfl
  · obtain ⟨a, ns, j, rfl, hS, hl, hj, k⟩ := h
    refine ⟨_, (pss_cons (ps_if (pt_cmpR op_eq (pe_callB call_len_seq (by rfl) T.n_len PySem.boot_len (pa_cons (pv 0) pa_nil)) pe_int (nomark _))
        (pss_one (ps_ret (pe_op op_mul pe_int (pv 1))))
        pss_nil)
        (pss_cons (ps_set (i := 2) sc_l_number.nd rfl (Or.inl rfl) (pe_op op_add (pe_op op_add (pe_ix ix_list (pv 0) (pe_op op_mod (pv 1) (pe_callB call_len_seq (by rfl) T.n_len PySem.boot_len (pa_cons (pv 0) pa_nil))) (fun _ _ => rfl)) (pe_op op_mul pe_int (pe_op op_fdiv (pv 1) (pe_callB call_len_seq (by rfl) T.n_len PySem.boot_len (pa_cons (pv 0) pa_nil))))) (pe_op op_mul pe_int (pv 1))))
        (pss_one (ps_ret (pe_op op_mod (pe_op op_mul (pv 2) pe_int) pe_int))))), ?_⟩
    refine ⟨_, rfl, a, _, rfl, .inl hS, rfl, _, rfl, ?_⟩
    refine ite2 (fun c => ?_) (fun c => ?_)
    · have e : ns = [] := by
        have := V.int.inj (of_decide_eq_true c)
        rw [List.length_map] at this
        exact List.length_eq_zero_iff.mp (by omega)
      have en : numN ns j = 5003 * (j : Int) := by
        unfold numN
        rw [if_pos e]
      rw [en] at k
      exact ⟨_, rfl, _, _, rfl, rfl, .inl ⟨by decide, by decide⟩, k⟩
    · have hp : 0 < ns.length := by
        by_cases z : ns.length = 0
        · exact absurd (decide_eq_true (by rw [List.length_map, z] <;> rfl)) c
        · omega
      have en : numN ns j = (ns.getD (j % ns.length) 0 + 7919 * ((j / ns.length : Nat) : Int) + 101 * (j : Int)) * 48271 % 2147483647 := by
        unfold numN
        rw [if_neg (fun z => by rw [z] at hp; exact absurd hp (by decide))]
      have el : ((ns.map V.int).length : Int) = (ns.length : Int) := by rw [List.length_map]
      have hm := Nat.mod_lt j hp
      refine ⟨_, rfl, _, rfl, _, rfl, a, _, rfl, .inl hS, _, _, rfl, rfl, by rw [el]; show (0 : Int) < (ns.length : Int); omega, a, _, _, .int (ns.getD (j % ns.length) 0), rfl, rfl, hS, ?_, ?_⟩
      · refine at_map (j := j % ns.length) ?_ ?_
        · rw [el, Int.natCast_emod]
        · rw [List.getElem?_eq_getElem hm, List.getD_eq_getElem?_getD, List.getElem?_eq_getElem hm] <;> rfl
      refine ⟨_, rfl, _, rfl, a, _, rfl, .inl hS, _, _, rfl, rfl, ⟨by rw [el]; omega, by rw [el]; omega⟩, _, _, rfl, rfl, .inl ⟨by decide, by decide⟩, _, _, rfl, rfl, _, rfl, _, _, rfl, rfl, .inl ⟨by decide, by decide⟩, _, _, rfl, rfl, ?_⟩
      refine ⟨_, rfl, _, _, rfl, rfl, .inr ⟨by decide, by decide⟩, _, _, rfl, rfl, by show (0 : Int) < 2147483647; decide, ?_⟩
      rw [en, Int.natCast_ediv, ← el] at k
      exact k
def sp_l_whole (K : PySem.W.Frag) : Sp := fun vs H Q _ => ∃ (x : V) (o : Option Int), vs = [x] ∧ Thg K H x o ∧ Q (.bl (whole o)) H
theorem ok_l_whole (T : Txt K mg) : OkF P w K mg base "_law_whole" 1 ["_law_found"] (sp_l_whole K) := by
  refine okf T.d_l_whole sc_l_whole (fun vs H Q E h => ?_) (fun f cdv A outer s H vs Q E hr h => ?_)
  · obtain ⟨x, o, rfl, th, k⟩ := h
    rfl
  · obtain ⟨x, o, rfl, th, k⟩ := h
    refine ⟨_, (pss_one (ps_ret (pe_and (pe_callB call_isi (by rfl) T.n_isinstance (by decide +kernel) (pa_cons (pv 0) (pa_cons (pe_bltn (v := .ty "int") (by rfl) T.n_int (by decide +kernel) rfl) pa_nil))) (pe_one (pe_not (pe_callB call_isi (by rfl) T.n_isinstance (by decide +kernel) (pa_cons (pv 0) (pa_cons (pe_bltn (v := .ty "bool") (by rfl) T.n_bool (by decide +kernel) rfl) pa_nil)))))))), ?_⟩
    refine ⟨_, rfl, ?_⟩
    cases th with
    | int i =>
      refine ⟨_, _, _, _, true, rfl, .ty "int", .base (.int i), kit_ty (by decide +kernel), true, rfl, iteT ?_⟩
      exact ⟨_, rfl, _, _, _, _, false, rfl, .ty "bool", .base (.int i), kit_ty (by decide +kernel), false, rfl, k⟩
    | bl b =>
      refine ⟨_, _, _, _, true, rfl, .ty "int", .base (.bl b), kit_ty (by decide +kernel), true, rfl, iteT ?_⟩
      exact ⟨_, rfl, _, _, _, _, true, rfl, .ty "bool", .base (.bl b), kit_ty (by decide +kernel), true, rfl, k⟩
    | oth ty ni =>
      refine ⟨_, _, _, _, false, rfl, .ty "int", ty, ni, false, rfl, iteF ?_⟩
      exact k
def sp_l_rule : Sp := fun vs H Q _ => ∃ n : Int, vs = [.int n] ∧ 0 ≤ n ∧ RetR H Q
theorem ok_l_rule (T : Txt K mg) : OkF P w K mg base "_law_rule" 1 ["_law_number_here"] (sp_l_rule) := by
  refine okf T.d_l_rule sc_l_rule (fun vs H Q E h => ?_) (fun f cdv A outer s H vs Q E hr h => ?_)
  · obtain ⟨n, rfl, hn, k⟩ := h
    rfl
  · obtain ⟨n, rfl, hn, k⟩ := h
    refine ⟨_, (Evl.pss_cut (ps_set (i := 1) sc_l_rule.nd rfl (Or.inl rfl) (pe_op op_mod (pe_op op_fdiv (pv 0) pe_int) pe_int))
        (Evl.pss_cut (ps_if (pt_cmpR op_eq (pe_op op_mod (pe_op op_fdiv (pv 0) pe_int) pe_int) pe_int (nomark _))
        (pss_one (ps_set (i := 1) sc_l_rule.nd rfl (Or.inl rfl) (pe_ix ix_list (pe_lst (pa_cons pe_int (pa_cons pe_int (pa_cons pe_int (pa_cons pe_int (pa_cons pe_int pa_nil)))))) (pe_op op_mod (pe_op op_fdiv (pv 0) pe_int) pe_int) (fun _ _ => rfl))))
        pss_nil)
        (pss_cons (ps_if (pt_cmpR op_lt (pe_op op_mod (pv 0) pe_int) pe_int (nomark _))
        (pss_one (ps_ret (pe_tup (pa_cons pe_str (pa_cons (pv 1) pa_nil)))))
        pss_nil)
        (pss_cons (ps_if (pt_cmpR op_eq (pe_op op_mod (pv 0) pe_int) pe_int (nomark _))
        (pss_one (ps_ret (pe_tup (pa_cons pe_str (pa_cons (pv 1) pa_nil)))))
        pss_nil)
        (pss_one (ps_ret (pe_tup (pa_cons (pe_ix ix_list (pe_lst (pa_cons pe_str (pa_cons pe_str pa_nil))) (pe_op op_sub (pe_op op_mod (pv 0) pe_int) pe_int) (fun _ _ => rfl)) pa_nil)))))))), ?_⟩
    refine ⟨fun σ H' => H' = H ∧ ∃ j : Nat, j < 999983 ∧ σ = [some (.int n), some (.int (j : Int))], ?_, ?_⟩
    · obtain ⟨j, hj, ej⟩ := rem_nat (z := n / 5) (m := 999983) (by decide)
      refine ⟨_, rfl, _, _, rfl, rfl, ⟨by decide, by decide⟩, _, _, rfl, rfl, by show (0 : Int) < 999983; decide, rfl, j, by omega, ?_⟩
      rw [← ej] <;> rfl
    rintro σ H' ⟨rfl, j, hj, rfl⟩
    refine ⟨fun σ H1 => Same H' H1 ∧ ∃ j : Nat, j < 999983 ∧ σ = [some (.int n), some (.int (j : Int))], ?_, ?_⟩
    · refine ⟨_, rfl, _, _, rfl, rfl, ⟨by decide, by decide⟩, _, _, rfl, rfl, by show (0 : Int) < 3; decide, rfl, _, rfl, ?_⟩
      refine ite2 (fun _ => ?_) (fun _ => ?_)
      · refine ⟨by show 5 ≤ sizeLine; decide, fun l hl => ?_⟩
        obtain ⟨i, hi, ei⟩ := rem_nat (z := n / 15) (m := 5) (by decide)
        obtain ⟨v, hv, m, rfl, hm⟩ := pick (P := fun v => ∃ m : Nat, v = V.int (m : Int) ∧ m < 999983) (xs := [.int 0, .int 1, .int 2, .int 999982, .int 999981]) (fun v hv => by
          simp only [List.mem_cons, List.not_mem_nil, or_false] at hv
          rcases hv with rfl | rfl | rfl | rfl | rfl
          · exact ⟨0, rfl, by decide⟩
          · exact ⟨1, rfl, by decide⟩
          · exact ⟨2, rfl, by decide⟩
          · exact ⟨999982, rfl, by decide⟩
          · exact ⟨999981, rfl, by decide⟩) (j := i) (by show i < 5; omega)
        exact ⟨_, rfl, _, _, rfl, rfl, ⟨by decide, by decide⟩, _, _, rfl, rfl, by show (0 : Int) < 5; decide, l, _, _, .int (m : Int), rfl, rfl, SqL.of upd_same, at_of ei hv, Same.new hl, m, hm, rfl⟩
      · exact ⟨Same.refl _, j, hj, rfl⟩
    rintro σ H1 ⟨s1, j, hj, rfl⟩
    have e5 : 0 ≤ n % 5 ∧ n % 5 < 5 := ⟨Int.emod_nonneg _ (by decide), Int.emod_lt_of_pos _ (by decide)⟩
    refine ⟨_, rfl, _, _, rfl, rfl, by show (0 : Int) < 5; decide, _, _, rfl, rfl, _, rfl, ?_⟩
    refine ite2 (fun c => ?_) (fun c => ?_)
    · refine ⟨_, rfl, by show 2 ≤ sizeLine; decide, fun t ht => ?_⟩
      exact k (.add j) t _ hj (s1.free ht) (s1.trans (Same.new ht)) upd_same
    · have c' : ¬ n % 5 < 2 := fun z => c (decide_eq_true z)
      refine ⟨_, rfl, _, _, rfl, rfl, by show (0 : Int) < 5; decide, rfl, _, rfl, ?_⟩
      refine ite2 (fun c2 => ?_) (fun c2 => ?_)
      · refine ⟨_, rfl, by show 2 ≤ sizeLine; decide, fun t ht => ?_⟩
        exact k (.times j) t _ hj (s1.free ht) (s1.trans (Same.new ht)) upd_same
      · have c3 : ¬ n % 5 = 2 := fun z => c2 (decide_eq_true (by show V.int (n % 5) = V.int 2; rw [z]))
        refine ⟨by show 2 ≤ sizeLine; decide, fun l hl => ?_⟩
        obtain ⟨i, hi, ei⟩ : ∃ i : Nat, i < 2 ∧ n % 5 - 3 = (i : Int) := ⟨(n % 5 - 3).toNat, by omega, by omega⟩
        obtain ⟨v, hv, r, rfl, hr1, hr2⟩ := pick (P := fun v => ∃ r : Rule, v = V.str r.word ∧ r.vs = [V.str r.word] ∧ r.ok) (xs := [.str "square", .str "half"]) (fun v hv => by
          simp only [List.mem_cons, List.not_mem_nil, or_false] at hv
          rcases hv with rfl | rfl
          · exact ⟨.square, rfl, rfl, trivial⟩
          · exact ⟨.half, rfl, rfl, trivial⟩) (j := i) (by show i < 2; omega)
        refine ⟨_, rfl, _, _, rfl, rfl, by show (0 : Int) < 5; decide, _, _, rfl, rfl, l, _, _, .str r.word, rfl, rfl, SqL.of upd_same, at_of ei hv, by show 1 ≤ sizeLine; decide, fun t ht => ?_⟩
        refine k r t _ hr2 (s1.free ((Same.new hl).free ht)) ((s1.trans (Same.new hl)).trans (Same.new ht)) ?_
        rw [upd_same, hr1]

def sp_l_forth (K : PySem.W.Frag) : Sp := fun vs H Q _ => ∃ (q : Addr) (r : Rule) (s : Nat), vs = [.ref q, .int (s : Int)] ∧ H q = some (.tup r.vs) ∧ r.ok ∧ s < 999983 ∧ Q (.int (forthN r s : Int)) H
theorem ok_l_forth (T : Txt K mg) : OkF P w K mg base "_law_forth" 1 ["_law_rule_here", "_law_state"] (sp_l_forth K) := by
  refine okf T.d_l_forth sc_l_forth (fun vs H Q E h => ?_) (fun f cdv A outer s H vs Q E hr h => ?_)
  · obtain ⟨q, r, s', rfl, hq, ok, hs, k⟩ := h
    rfl
  · obtain ⟨q, r, s', rfl, hq, ok, hs, k⟩ := h
    refine ⟨_, (pss_cons (ps_if (pt_cmpR op_eq (pe_ix ix_tup (pv 0) pe_int (fun _ _ => rfl)) pe_str (nomark _))
        (pss_one (ps_ret (pe_op op_mod (pe_op op_add (pv 1) (pe_ix ix_tup (pv 0) pe_int (fun _ _ => rfl))) pe_int)))
        pss_nil)
        (pss_cons (ps_if (pt_cmpR op_eq (pe_ix ix_tup (pv 0) pe_int (fun _ _ => rfl)) pe_str (nomark _))
        (pss_one (ps_ret (pe_op op_mod (pe_op op_mul (pv 1) (pe_ix ix_tup (pv 0) pe_int (fun _ _ => rfl))) pe_int)))
        pss_nil)
        (pss_cons (ps_if (pt_cmpR op_eq (pe_ix ix_tup (pv 0) pe_int (fun _ _ => rfl)) pe_str (nomark _))
        (pss_one (ps_ret (pe_op op_mod (pe_op op_mul (pv 1) (pv 1)) pe_int)))
        pss_nil)
        (pss_one (ps_ret (pe_op op_fdiv (pv 1) pe_int)))))), ?_⟩
    refine ⟨_, rfl, q, _, _, .str r.word, rfl, rfl, SqT.of hq, r.at0, rfl, _, rfl, ?_⟩
    have ne : ∀ {a b : Str}, a ≠ b → decide (V.str a = V.str b) = false := fun h => decide_eq_false fun z => h (V.str.inj z)
    cases r with
    | add j =>
      have hj : j < 999983 := ok
      refine iteT ?_
      refine ⟨_, rfl, _, rfl, q, _, _, .int (j : Int), rfl, rfl, SqT.of hq, rfl, _, _, rfl, rfl, _, _, rfl, rfl, by show (0 : Int) < 999983; decide, ?_⟩
      have e : ((s' : Int) + (j : Int)) % 999983 = (forthN (.add j) s' : Int) := by
        show _ = (((s' + j) % 999983 : Nat) : Int)
        omega
      show Q (V.int (((s' : Int) + (j : Int)) % 999983)) H
      rw [e]
      exact k
    | times j =>
      have hj : j < 999983 := ok
      rw [ne (show Rule.word (.times j) ≠ "add" from (by decide +kernel : ("times" : Str) ≠ "add"))]
      refine iteF ?_
      refine ⟨_, rfl, q, _, _, .str "times", rfl, rfl, SqT.of hq, rfl, rfl, _, rfl, iteT ?_⟩
      refine ⟨_, rfl, _, rfl, q, _, _, .int (j : Int), rfl, rfl, SqT.of hq, rfl, _, _, rfl, rfl, .inl ⟨by omega, by omega⟩, _, _, rfl, rfl, by show (0 : Int) < 999983; decide, ?_⟩
      have e : ((s' : Int) * (j : Int)) % 999983 = (forthN (.times j) s' : Int) := by
        show _ = ((s' * j % 999983 : Nat) : Int)
        rw [Int.natCast_emod, Int.natCast_mul] <;> rfl
      show Q (V.int (((s' : Int) * (j : Int)) % 999983)) H
      rw [e]
      exact k
    | square =>
      rw [ne (show Rule.word .square ≠ "add" from (by decide +kernel : ("square" : Str) ≠ "add"))]
      refine iteF ?_
      refine ⟨_, rfl, q, _, _, .str "square", rfl, rfl, SqT.of hq, rfl, rfl, _, rfl, ?_⟩
      rw [ne (show ("square" : Str) ≠ "times" by decide +kernel)]
      refine iteF ?_
      refine ⟨_, rfl, q, _, _, .str "square", rfl, rfl, SqT.of hq, rfl, rfl, _, rfl, iteT ?_⟩
      refine ⟨_, rfl, _, rfl, _, _, rfl, rfl, .inl ⟨by omega, by omega⟩, _, _, rfl, rfl, by show (0 : Int) < 999983; decide, ?_⟩
      have e : ((s' : Int) * (s' : Int)) % 999983 = (forthN .square s' : Int) := by
        show _ = ((s' * s' % 999983 : Nat) : Int)
        rw [Int.natCast_emod, Int.natCast_mul] <;> rfl
      show Q (V.int (((s' : Int) * (s' : Int)) % 999983)) H
      rw [e]
      exact k
    | half =>
      rw [ne (show Rule.word .half ≠ "add" from (by decide +kernel : ("half" : Str) ≠ "add"))]
      refine iteF ?_
      refine ⟨_, rfl, q, _, _, .str "half", rfl, rfl, SqT.of hq, rfl, rfl, _, rfl, ?_⟩
      rw [ne (show ("half" : Str) ≠ "times" by decide +kernel)]
      refine iteF ?_
      refine ⟨_, rfl, q, _, _, .str "half", rfl, rfl, SqT.of hq, rfl, rfl, _, rfl, ?_⟩
      rw [ne (show ("half" : Str) ≠ "square" by decide +kernel)]
      refine iteF ?_
      refine ⟨_, rfl, _, _, rfl, rfl, ⟨by decide, by decide⟩, ?_⟩
      have e : (s' : Int) / 2 = (forthN .half s' : Int) := by
        show _ = ((s' / 2 : Nat) : Int)
        omega
      show Q (V.int ((s' : Int) / 2)) H
      rw [e]
      exact k
def sp_l_row (K : PySem.W.Frag) : Sp := fun vs H Q _ => ∃ (a : Addr) (ns : List Int) (j m : Nat), vs = [.ref a, .int (j : Int), .int (m : Int)] ∧ SqL K H a (ns.map V.int) ∧ ns.length ≤ 63 ∧ j ≤ 1000 ∧ m ≤ 1000 ∧
  ∀ (t l : Addr) (f : Nat) (rs : List (Addr × Rule)) (H' : Hp), H t = none → H l = none → (∀ q ∈ rs, H q.1 = none) → Same H H' → H' t = some (.tup [.int (f : Int), .ref l]) → H' l = some (.lst (refsR rs)) → RS H' rs → f < 999983 → rs.length ≤ m → Q (.ref t) H'
theorem ok_l_row (T : Txt K mg) : OkF P w K mg base "_law_row" 2 ["_law_script", "_law_start", "_law_most"] (sp_l_row K) := by
  obtain ⟨f_l_number, fd_l_number, m_l_number, k_l_number, b_l_number, G_l_number⟩ := ok_l_number (P := P) (w := w) (base := base) T
  obtain ⟨f_l_rule, fd_l_rule, m_l_rule, k_l_rule, b_l_rule, G_l_rule⟩ := ok_l_rule (P := P) (w := w) (base := base) T
  refine okf T.d_l_row sc_l_row (fun vs H Q E h => ?_) (fun f cdv A outer s H vs Q E hr h => ?_)
  · obtain ⟨a, ns, j, m, rfl, hS, hl, hj, hm, k⟩ := h
    rfl
  · obtain ⟨a, ns, j, m, rfl, hS, hl, hj, hm, k⟩ := h
    refine ⟨_, (Evl.pss_cut (ps_set (i := 3) sc_l_row.nd rfl (Or.inl rfl) (pe_ix ix_list (pe_lst (pa_cons pe_int (pa_cons pe_int (pa_cons pe_int (pa_cons (pe_op op_mod (pe_op op_fdiv (pe_call G_l_number (hr.mono (by decide)) (by rfl) m_l_number k_l_number b_l_number .nil passL (pa_cons (pv 0) (pa_cons (pv 1) pa_nil))) pe_int) pe_int) pa_nil))))) (pe_op op_mod (pe_call G_l_number (hr.mono (by decide)) (by rfl) m_l_number k_l_number b_l_number .nil passL (pa_cons (pv 0) (pa_cons (pv 1) pa_nil))) pe_int) (fun _ _ => rfl)))
        (Evl.pss_cut (ps_set (i := 4) sc_l_row.nd rfl (Or.inl rfl) (pe_op op_mod (pe_call G_l_number (hr.mono (by decide)) (by rfl) m_l_number k_l_number b_l_number .nil passL (pa_cons (pv 0) (pa_cons (pe_op op_add (pv 1) pe_int) pa_nil))) (pe_op op_add (pv 2) pe_int)))
        (pss_one (ps_ret (pe_tup (pa_cons (pv 3) (pa_cons (pe_lc (own := [("_law_k", 5)]) rfl sc_l_row.nd (pi_range1 (by rfl) T.n_range (pa_cons (pv 4) pa_nil)) (blkOk_by (own := [("_law_k", 5)]) (N := ["_law_script", "_law_start", "_law_most", "_law_first", "_law_many", "_law_k"]) (sc := defScope s_l_row) (by decide +kernel)) (fun _ _ _ _ _ => (pg_name (i := 5) sc_l_row.nd rfl (Or.inl rfl))) (fun _ _ _ _ _ => pts_nil) (fun _ _ _ _ _ => (pe_call G_l_rule (hr.mono (by decide)) (by rfl) m_l_rule k_l_rule b_l_rule .nil passL (pa_cons (pe_call G_l_number (hr.mono (by decide)) (by rfl) m_l_number k_l_number b_l_number .nil passL (pa_cons (pv 0) (pa_cons (pe_op op_add (pe_op op_add (pv 1) pe_int) (pv 5)) pa_nil))) pa_nil)))) pa_nil))))))), ?_⟩
    refine ⟨fun σ H' => Same H H' ∧ ∃ f : Nat, f < 999983 ∧ σ = [some (.ref a), some (.int (j : Int)), some (.int (m : Int)), some (.int (f : Int)), none, none], ?_, ?_⟩
    · obtain ⟨f0, hf0, ef0⟩ := rem_nat (z := numN ns j / 4) (m := 999983) (by decide)
      obtain ⟨i, hi, ei⟩ := rem_nat (z := numN ns j) (m := 4) (by decide)
      obtain ⟨v, hv, f, rfl, hf⟩ := pick (P := fun v => ∃ f : Nat, v = V.int (f : Int) ∧ f < 999983) (xs := [.int 0, .int 1, .int 999982, .int (numN ns j / 4 % 999983)]) (fun v hv => by
        simp only [List.mem_cons, List.not_mem_nil, or_false] at hv
        rcases hv with rfl | rfl | rfl | rfl
        · exact ⟨0, rfl, by decide⟩
        · exact ⟨1, rfl, by decide⟩
        · exact ⟨999982, rfl, by decide⟩
        · exact ⟨f0, by rw [ef0], by omega⟩) (j := i) (by show i < 4; omega)
      refine ⟨_, rfl, _, rfl, a, ns, j, rfl, hS, hl, by omega, _, _, rfl, rfl, ⟨by decide, by decide⟩, _, _, rfl, rfl, by show (0 : Int) < 999983; decide, by show 4 ≤ sizeLine; decide, fun l hl0 => ?_⟩
      refine ⟨_, rfl, _, rfl, a, ns, j, rfl, (Same.new hl0).seq hS, hl, by omega, _, _, rfl, rfl, by show (0 : Int) < 4; decide, l, _, _, .int (f : Int), rfl, rfl, SqL.of upd_same, at_of ei hv, Same.new hl0, f, hf, rfl⟩
    rintro σ H1 ⟨s1, f, hf, rfl⟩
    refine ⟨fun σ H' => H' = H1 ∧ ∃ c : Nat, c ≤ m ∧ σ = [some (.ref a), some (.int (j : Int)), some (.int (m : Int)), some (.int (f : Int)), some (.int (c : Int)), none], ?_, ?_⟩
    · obtain ⟨c, hc, ec⟩ := rem_nat (z := numN ns (j + 1)) (m := (m : Int) + 1) (by omega)
      refine ⟨_, rfl, _, rfl, _, _, rfl, rfl, a, ns, j + 1, rfl, s1.seq hS, hl, by omega, _, rfl, _, _, rfl, rfl, _, _, rfl, rfl, by show (0 : Int) < (m : Int) + 1; omega, rfl, c, by omega, ?_⟩
      rw [← ec] <;> rfl
    rintro σ H2 ⟨rfl, c, hc, rfl⟩
    refine ⟨_, rfl, _, rfl, _, rfl, by omega, by omega, fun D hD => ?_⟩
    have e0 : (c : Int).toNat = c := by omega
    refine lc_range (lo := 0) (n := (c : Int).toNat) (fun i H' => Same H2 H' ∧ ∃ rs : List (Addr × Rule), rs.length = i ∧ H' D = some (.lst (refsR rs)) ∧ RS H' rs ∧ ∀ q ∈ rs, H2 q.1 = none) ⟨Same.new hD, [], rfl, upd_same, fun q hq => (nomatch hq), fun q hq => (nomatch hq)⟩ ?_ ?_
    · rintro i H' hi ⟨sm, rs, hrs, hP, hR, hN⟩
      rw [e0] at hi
      have ei : (0 : Int) + (i : Int) = (i : Int) := Int.zero_add _
      rw [ei]
      refine ⟨rfl, ?_⟩
      refine ⟨_, rfl, _, rfl, _, _, rfl, rfl, _, rfl, _, _, rfl, rfl, a, ns, j + 2 + i, rfl, (s1.trans sm).seq hS, hl, by omega, _, rfl, num_nn _ _, fun r p H3 ok hp s3 hp3 => ?_⟩
      have nDp : D ≠ p := ne_of_none hP hp
      have sD : ∀ b o, b ≠ D → H3 b = some o → upd H3 D (.lst (refsR rs ++ [.ref p])) b = some o := fun b o hb h => by rw [upd_ne hb]; exact h
      refine ⟨_, s3 _ _ hP, sz5' (by rw [refsR_len]; omega), Same.mut (sm.trans s3) hD, rs ++ [(p, r)], by rw [List.length_append, hrs] <;> rfl, ?_, fun q hq => ?_, fun q hq => ?_⟩
      · rw [upd_same]
        unfold refsR
        rw [List.map_append] <;> rfl
      · rcases List.mem_append.mp hq with z | z
        · have e := (hR.same s3 q z).1
          refine ⟨sD _ _ (fun y => ?_) e, (hR q z).2⟩
          rw [y, s3 _ _ hP] at e
          cases e
        · rw [List.mem_singleton.mp z]
          exact ⟨sD _ _ nDp.symm hp3, ok⟩
      · rcases List.mem_append.mp hq with z | z
        · exact hN q z
        · rw [List.mem_singleton.mp z]
          exact sm.free hp
    · rintro H3 ⟨s3, rs, hrs, hP, hR, hN⟩
      refine ⟨by show 2 ≤ sizeLine; decide, fun t ht => ?_⟩
      exact k t D f rs _ (s1.free (s3.free ht)) (s1.free hD) (fun q hq => s1.free (hN q hq)) ((s1.trans s3).trans (Same.new ht)) upd_same ((Same.new ht) _ _ hP) (hR.same (Same.new ht)) hf (by omega)
def sp_l_states (K : PySem.W.Frag) : Sp := fun vs H Q _ => ∃ (p : Addr) (f : Nat) (rs : List (Addr × Rule)), vs = [.int (f : Int), .ref p] ∧ SqL K H p (refsR rs) ∧ RS H rs ∧ f < 999983 ∧ rs.length ≤ 100 ∧ RetL H ((rowN f (rs.map (·.2))).map fun (s : Nat) => V.int (s : Int)) Q
theorem ok_l_states (T : Txt K mg) : OkF P w K mg base "_law_states" 2 ["_law_first", "_law_rules"] (sp_l_states K) := by
  obtain ⟨f_l_forth, fd_l_forth, m_l_forth, k_l_forth, b_l_forth, G_l_forth⟩ := ok_l_forth (P := P) (w := w) (base := base) T
  refine okf T.d_l_states sc_l_states (fun vs H Q E h => ?_) (fun f cdv A outer s H vs Q E hr h => ?_)
  · obtain ⟨p, f, rs, rfl, hP, hR, hf, hl, k⟩ := h
    rfl
  · obtain ⟨p, f, rs, rfl, hP, hR, hf, hl, k⟩ := h
    refine ⟨_, (pss_cons (ps_set (i := 2) sc_l_states.nd rfl (Or.inl rfl) (pe_lst (pa_cons (pv 0) pa_nil)))
        (pss_cons (ps_for (passes_of rfl) rfl (pi_list (pv 1)) (pg_name (i := 3) sc_l_states.nd rfl (Or.inl rfl))
        (pss_one (ps_expr (pe_bm PySem.F.plainAttrs_list PySem.F.slot_list_append PySem.F.type_list_append mt_append (pv 2) (pa_cons (pe_call G_l_forth (hr.mono (by decide)) (by rfl) m_l_forth k_l_forth b_l_forth .nil passL (pa_cons (pv 3) (pa_cons (pe_ix ix_list (pv 2) (pe_un un_neg pe_int) (fun _ _ => rfl)) pa_nil))) pa_nil)))))
        (pss_one (ps_ret (pv 2))))), ?_⟩
    refine ⟨_, rfl, by show 1 ≤ sizeLine; decide, fun l hl0 => ?_⟩
    refine ⟨_, rfl, p, rfl, ⟨_, (Same.new hl0).seq hP⟩, ?_⟩
    refine for_list (K := K) (a := p) (xs := refsR rs) (fun i σ H' => ∃ u, σ = [some (.int (f : Int)), some (.ref p), some (.ref l), u] ∧ Same H H' ∧ H' l = some (.lst ((rowN f ((rs.take i).map (·.2))).map fun (s : Nat) => V.int (s : Int)))) ⟨none, rfl, Same.new hl0, upd_same⟩ (fun i σ H' _ ⟨_, _, s1, _⟩ => s1.seq hP) ?_ ?_
    · rintro i y σ H' hi ⟨u, rfl, s1, hQ⟩
      obtain ⟨q, hq, rfl⟩ := get_map hi
      have hil := (List.getElem?_eq_some_iff.mp hq).1
      have lt : ((rs.take i).map (·.2)).length = i := by rw [List.length_map, List.length_take]; omega
      have hla := rowN_last f ((rs.take i).map (·.2))
      refine ⟨_, rfl, .inl ⟨rfl, _, SqL.of hQ⟩, _, rfl, _, rfl, _, rfl, l, _, _, _, rfl, rfl, SqL.of hQ, atI_end (v := V.int (lastN f ((rs.take i).map (·.2)) : Int)) ?_, q.1, q.2, _, rfl, s1 _ _ (hR q (List.mem_of_getElem? hq)).1, (hR q (List.mem_of_getElem? hq)).2, lastN_lt hf, ?_⟩
      · rw [List.length_map, rowN_len, List.getElem?_map, show ((rs.take i).map (·.2)).length + 1 - 1 = ((rs.take i).map (·.2)).length from rfl, hla] <;> rfl
      refine ⟨l, _, _, rfl, rfl, hQ, sz5' (by rw [List.length_map, rowN_len, lt]; omega), _, rfl, Same.mut s1 hl0, ?_⟩
      rw [upd_same, take_succ hq, List.map_append]
      show _ = some (HO.lst ((rowN f ((rs.take i).map (·.2) ++ [q.2])).map _))
      rw [rowN_snoc, List.map_append] <;> rfl
    · rintro σ H' ⟨u, rfl, s1, hQ⟩
      rw [refsR_len, List.take_length] at hQ
      exact ⟨_, rfl, k l H' hl0 s1 hQ⟩

def sp_l_vain : Sp := fun vs H Q _ => ∃ (s e : Nat) (n : Int), vs = [.int (s : Int), .int (s : Int), .int (e : Int), .int n] ∧ ∀ ds, VainD s e ds → RetD H ds Q
theorem ok_l_vain (T : Txt K mg) : OkF P w K mg base "_law_vain" 1 ["_law_start", "_law_place", "_law_steps", "_law_number_here"] (sp_l_vain) := by
  refine okf T.d_l_vain sc_l_vain (fun vs H Q E h => ?_) (fun f cdv A outer s H vs Q E hr h => ?_)
  · obtain ⟨s', e, n, rfl, k⟩ := h
    rfl
  · obtain ⟨s', e, n, rfl, k⟩ := h
    refine ⟨_, (pss_cons (ps_if (PW.pt (pw_and (pt_cmpR op_eq (pe_op op_mod (pv 3) pe_int) pe_int (nomark _)) (pw_and1 (pt_cmpR op_lt (pv 1) (pv 2) (nomark _)))))
        (pss_one (ps_ret (pe_lst (pa_cons (pe_tup (pa_cons pe_str (pa_cons pe_int pa_nil))) (pa_cons (pe_tup (pa_cons pe_str (pa_cons (pv 0) pa_nil))) pa_nil)))))
        pss_nil)
        (pss_cons (ps_if (pt_cmpR op_eq (pe_op op_mod (pv 3) pe_int) pe_int (nomark _))
        (pss_one (ps_ret (pe_lst (pa_cons (pe_tup (pa_cons pe_str (pa_cons (pv 0) pa_nil))) (pa_cons (pe_tup (pa_cons pe_str pa_nil)) pa_nil)))))
        pss_nil)
        (pss_one (ps_ret (pe_lst pa_nil))))), ?_⟩
    have two : ∀ (H1 : Hp) (d1 d2 : Deed) (v1 v2 : List V), v1 = d1.vs → v2 = d2.vs → Same H H1 → VainD s' e [d1, d2] → ∀ t1, H1 t1 = none → ∀ t2, upd H1 t1 (.tup v1) t2 = none → ∀ l, upd (upd H1 t1 (.tup v1)) t2 (.tup v2) l = none → Q (.ref l) (upd (upd (upd H1 t1 (.tup v1)) t2 (.tup v2)) l (.lst [.ref t1, .ref t2])) := by
      intro H1 d1 d2 v1 v2 ev1 ev2 s1 hv t1 h1 t2 h2 l hl
      have w1 := Same.new (o := .tup v1) h1
      have w2 := Same.new (o := .tup v2) h2
      have w3 := Same.new (o := .lst [.ref t1, .ref t2]) hl
      refine k _ hv l _ [(t1, d1), (t2, d2)] (s1.free (w1.free (w2.free hl))) ((s1.trans w1).trans (w2.trans w3)) rfl upd_same fun q hq => ?_
      simp only [List.mem_cons, List.not_mem_nil, or_false] at hq
      rcases hq with rfl | rfl
      · show _ = some (HO.tup d1.vs)
        rw [← ev1]
        exact w3 _ _ (w2 _ _ upd_same)
      · show _ = some (HO.tup d2.vs)
        rw [← ev2]
        exact w3 _ _ upd_same
    refine ⟨_, rfl, _, _, rfl, rfl, by show (0 : Int) < 5; decide, rfl, _, rfl, ?_⟩
    refine ite2 (fun _ => ?_) (fun _ => ?_)
    · refine ⟨_, rfl, _, rfl, _, _, rfl, rfl, _, rfl, ?_⟩
      refine ite2 (fun c => ?_) (fun _ => ?_)
      · have c' : s' < e := by
          have := of_decide_eq_true c
          omega
        refine ⟨by show 2 ≤ sizeLine; decide, fun t1 h1 => ?_⟩
        refine ⟨_, rfl, by show 2 ≤ sizeLine; decide, fun t2 h2 => ?_⟩
        exact ⟨by show 2 ≤ sizeLine; decide, fun l hl => two H (.go 1) (.take s') _ _ rfl rfl (Same.refl _) (.inl ⟨rfl, c'⟩) t1 h1 t2 h2 l hl⟩
      · refine ⟨_, rfl, _, _, rfl, rfl, by show (0 : Int) < 5; decide, rfl, _, rfl, ?_⟩
        refine ite2 (fun _ => ?_) (fun _ => ?_)
        · refine ⟨_, rfl, by show 2 ≤ sizeLine; decide, fun t1 h1 => ?_⟩
          refine ⟨by show 1 ≤ sizeLine; decide, fun t2 h2 => ?_⟩
          exact ⟨by show 2 ≤ sizeLine; decide, fun l hl => two H (.drop s') .keep _ _ rfl rfl (Same.refl _) (.inr (.inl rfl)) t1 h1 t2 h2 l hl⟩
        · exact ⟨by show 0 ≤ sizeLine; decide, fun l hl => k [] (.inr (.inr rfl)) l _ [] hl (Same.new hl) rfl upd_same fun q hq => (nomatch hq)⟩
    · refine ⟨_, rfl, _, _, rfl, rfl, by show (0 : Int) < 5; decide, rfl, _, rfl, ?_⟩
      refine ite2 (fun _ => ?_) (fun _ => ?_)
      · refine ⟨_, rfl, by show 2 ≤ sizeLine; decide, fun t1 h1 => ?_⟩
        refine ⟨by show 1 ≤ sizeLine; decide, fun t2 h2 => ?_⟩
        exact ⟨by show 2 ≤ sizeLine; decide, fun l hl => two H (.drop s') .keep _ _ rfl rfl (Same.refl _) (.inr (.inl rfl)) t1 h1 t2 h2 l hl⟩
      · exact ⟨by show 0 ≤ sizeLine; decide, fun l hl => k [] (.inr (.inr rfl)) l _ [] hl (Same.new hl) rfl upd_same fun q hq => (nomatch hq)⟩
def sp_l_drawn (K : PySem.W.Frag) : Sp := fun vs H Q _ => ∃ (a : Addr) (ns : List Int) (n R : Nat), vs = [.ref a, .int (n : Int), .int (R : Int)] ∧ SqL K H a (ns.map V.int) ∧ ns.length ≤ 63 ∧ n ≤ 100 ∧ 1 ≤ R ∧ R ≤ 12 ∧
  ∀ ds s, runW n R ds (wst0 n) = some s → s.wa = -1 → costN n R ≤ (s.co : Int) → ds.length ≤ 2000 → RetD H ds Q
def snds {α β : Type} (as : List (α × β)) : List β := (as.map (·.2)).reverse
theorem snds_snoc {α β : Type} (as : List (α × β)) (b : α × β) : snds (as ++ [b]) = b.2 :: snds as := by
  unfold snds
  rw [List.map_append, List.reverse_append] <;> rfl
theorem ok_l_drawn (T : Txt K mg) : OkF P w K mg base "_law_drawn" 2 ["_law_script", "_law_steps", "_law_room"] (sp_l_drawn K) := by
  obtain ⟨f_l_number, fd_l_number, m_l_number, k_l_number, b_l_number, G_l_number⟩ := ok_l_number (P := P) (w := w) (base := base) T
  obtain ⟨f_l_vain, fd_l_vain, m_l_vain, k_l_vain, b_l_vain, G_l_vain⟩ := ok_l_vain (P := P) (w := w) (base := base) T
  refine okf T.d_l_drawn sc_l_drawn (fun vs H Q E h => ?_) (fun f cdv A outer s H vs Q E hr h => ?_)
  · obtain ⟨a, ns, n, R, rfl, hS, hl, hn, h1, h2, k⟩ := h
    rfl
  · obtain ⟨a, ns, n, R, rfl, hS, hl, hn, h1, h2, k⟩ := h
    refine ⟨_, (pss_cons (ps_set (i := 3) sc_l_drawn.nd rfl (Or.inl rfl) (pe_lst (pa_cons (pe_tup (pa_cons pe_str pa_nil)) pa_nil)))
        (pss_cons (ps_set (i := 4) sc_l_drawn.nd rfl (Or.inl rfl) (pe_lst (pa_cons (pe_tup (pa_cons pe_int (pa_cons (pv 1) (pa_cons (pv 2) pa_nil)))) pa_nil)))
        (pss_cons (ps_set (i := 5) sc_l_drawn.nd rfl (Or.inl rfl) pe_int)
        (pss_cons (ps_while (passes_of rfl) (pt_cmpR (op_neD hr.units) (pv 4) (pe_lst pa_nil) (nomark _))
        (pss_cons (ps_asg (pe_bm0 PySem.F.plainAttrs_list PySem.F.slot_list_pop PySem.F.type_list_pop mt_pop (pv 4)) (pg_tup rfl (pgs_cons (pg_name (i := 6) sc_l_drawn.nd rfl (Or.inl rfl)) (pgs_cons (pg_name (i := 7) sc_l_drawn.nd rfl (Or.inl rfl)) (pgs_cons (pg_name (i := 8) sc_l_drawn.nd rfl (Or.inl rfl)) pgs_nil)))))
        (pss_cons (ps_set (i := 9) sc_l_drawn.nd rfl (Or.inl rfl) (pe_call G_l_number (hr.mono (by decide)) (by rfl) m_l_number k_l_number b_l_number .nil passL (pa_cons (pv 0) (pa_cons (pe_op op_add pe_int (pv 5)) pa_nil))))
        (Evl.pss_cut (ps_set (i := 5) sc_l_drawn.nd rfl (Or.inl rfl) (pe_op op_add (pv 5) pe_int))
        (pss_cons (ps_if (pt_cmpR op_lt (pv 7) pe_int (nomark _))
        (pss_cons (ps_expr (pe_bm PySem.F.plainAttrs_list PySem.F.slot_list_extend PySem.F.type_list_extend mt_extend (pv 3) (pa_cons (pe_lst (pa_cons (pe_tup (pa_cons pe_str (pa_cons (pe_op op_sub (pv 6) (pv 7)) pa_nil))) (pa_cons (pe_tup (pa_cons pe_str (pa_cons (pv 6) pa_nil))) pa_nil))) pa_nil)))
        (pss_one ps_continue))
        pss_nil)
        (pss_cons (ps_expr (pe_bm PySem.F.plainAttrs_list PySem.F.slot_list_extend PySem.F.type_list_extend mt_extend (pv 3) (pa_cons (pe_call G_l_vain (hr.mono (by decide)) (by rfl) m_l_vain k_l_vain b_l_vain .nil passL (pa_cons (pv 6) (pa_cons (pv 6) (pa_cons (pe_op op_add (pv 6) (pv 7)) (pa_cons (pe_op op_fdiv (pv 9) pe_int) pa_nil))))) pa_nil)))
        (pss_one (ps_if (pt_cmpR op_eq (pv 7) pe_int (nomark _))
        (pss_one (ps_expr (pe_bm PySem.F.plainAttrs_list PySem.F.slot_list_append PySem.F.type_list_append mt_append (pv 3) (pa_cons (pe_tup (pa_cons pe_str pa_nil)) pa_nil))))
        (pss_one (ps_if (PW.pt (pw_or (pt_cmpR op_eq (pv 8) pe_int (nomark _)) (pw_or1 (pt_cmpR op_eq (pe_op op_mod (pv 9) pe_int) pe_int (nomark _)))))
        (pss_cons (ps_expr (pe_bm PySem.F.plainAttrs_list PySem.F.slot_list_extend PySem.F.type_list_extend mt_extend (pv 3) (pa_cons (pe_lst (pa_cons (pe_tup (pa_cons pe_str (pa_cons (pv 7) pa_nil))) (pa_cons (pe_tup (pa_cons pe_str pa_nil)) (pa_cons (pe_tup (pa_cons pe_str (pa_cons (pv 6) pa_nil))) pa_nil)))) pa_nil)))
        (pss_one (ps_expr (pe_bm PySem.F.plainAttrs_list PySem.F.slot_list_append PySem.F.type_list_append mt_append (pv 4) (pa_cons (pe_tup (pa_cons (pv 6) (pa_cons (pe_op op_sub (pv 7) pe_int) (pa_cons (pv 8) pa_nil)))) pa_nil)))))
        (Evl.pss_cut (ps_set (i := 10) sc_l_drawn.nd rfl (Or.inl rfl) (pe_op op_add pe_int (pe_op op_mod (pe_op op_fdiv (pv 9) pe_int) (pv 7))))
        (pss_cons (ps_expr (pe_bm PySem.F.plainAttrs_list PySem.F.slot_list_extend PySem.F.type_list_extend mt_extend (pv 3) (pa_cons (pe_lst (pa_cons (pe_tup (pa_cons pe_str (pa_cons (pv 10) pa_nil))) (pa_cons (pe_tup (pa_cons pe_str pa_nil)) pa_nil))) pa_nil)))
        (pss_cons (ps_expr (pe_bm PySem.F.plainAttrs_list PySem.F.slot_list_append PySem.F.type_list_append mt_append (pv 4) (pa_cons (pe_tup (pa_cons (pv 6) (pa_cons (pe_op op_sub (pv 10) pe_int) (pa_cons (pv 8) pa_nil)))) pa_nil)))
        (pss_cons (ps_expr (pe_bm PySem.F.plainAttrs_list PySem.F.slot_list_append PySem.F.type_list_append mt_append (pv 4) (pa_cons (pe_tup (pa_cons (pv 6) (pa_cons (pe_un un_neg (pv 10)) (pa_cons (pv 8) pa_nil)))) pa_nil)))
        (pss_one (ps_expr (pe_bm PySem.F.plainAttrs_list PySem.F.slot_list_append PySem.F.type_list_append mt_append (pv 4) (pa_cons (pe_tup (pa_cons (pe_op op_add (pv 6) (pv 10)) (pa_cons (pe_op op_sub (pv 7) (pv 10)) (pa_cons (pe_op op_sub (pv 8) pe_int) pa_nil)))) pa_nil))))))))))))))))))
        (pss_one (ps_ret (pv 3))))))), ?_⟩
    refine ⟨by show 1 ≤ sizeLine; decide, fun t0 ht0 => ?_⟩
    refine ⟨by show 1 ≤ sizeLine; decide, fun D hD => ?_⟩
    refine ⟨_, rfl, _, rfl, by show 3 ≤ sizeLine; decide, fun t1 ht1 => ?_⟩
    refine ⟨by show 1 ≤ sizeLine; decide, fun T0 hT => ?_⟩
    have w1 := Same.new (o := .tup [.str "keep"]) ht0
    have w2 := Same.new (o := .lst [.ref t0]) hD
    have w3 := Same.new (o := .tup [.int 0, .int (n : Int), .int (R : Int)]) ht1
    have w4 := Same.new (o := .lst [.ref t1]) hT
    have P0 : Pile H (upd (upd (upd (upd H t0 (.tup [.str "keep"])) D (.lst [.ref t0])) t1 (.tup [.int 0, .int (n : Int), .int (R : Int)])) T0 (.lst [.ref t1])) D T0 [(t0, .keep)] [(t1, .meet 0 n R)] := by
      refine ⟨(w1.trans w2).trans (w3.trans w4), w1.free hD, w1.free (w2.free (w3.free hT)), w4 _ _ (w3 _ _ upd_same), fun q hq => ?_, upd_same, fun q hq => ?_, ne_of_none (w3 _ _ upd_same) hT⟩
      · rw [List.mem_singleton.mp hq]
        exact w4 _ _ (w3 _ _ (w2 _ _ upd_same))
      · rw [List.mem_singleton.mp hq]
        exact w4 _ _ upd_same
    refine ⟨fun m σ H' => ∃ ps as tn u6 u7 u8 u9 u10, σ = [some (.ref a), some (.int (n : Int)), some (.int (R : Int)), some (.ref D), some (.ref T0), some (.int ((tn : Nat) : Int)), u6, u7, u8, u9, u10] ∧ Pile H H' D T0 ps as ∧ DInv n R 0 (ps.map (·.2)) (snds as) tn ∧ m = wts (snds as),
      ⟨_, [(t0, .keep)], [(t1, .meet 0 n R)], 0, none, none, none, none, none, rfl, P0, d_init h1 h2, rfl⟩, ?_⟩
    rintro m σ H1 ⟨ps, as, tn, u6, u7, u8, u9, u10, rfl, P, I, rfl⟩
    refine ⟨_, rfl, by show 0 ≤ sizeLine; decide, fun e0 he0 => ?_⟩
    have P1 := P.same (Same.new (o := .lst []) he0)
    refine ⟨.list (as.map fun q => q.2.pd), .list [], .lst (SqL.of P1.t) (tasks_dp P1.tt), .lst (SqL.of upd_same) .nil, (tasks_sh as).shaped (by decide), by decide, _, rfl, ?_⟩
    rcases List.eq_nil_or_concat as with rfl | ⟨bs, ⟨ba, tk⟩, rfl⟩
    · refine iteF ?_
      obtain ⟨s, hr, hp, hc, hlen, ht⟩ := I
      have hc : costN n R ≤ (s.co : Int) + 0 := hc
      have hlen : (ps.map (·.2)).length + 5 * 0 ≤ 5 * (3 * n + 1) + 1 + 0 := hlen
      exact ⟨_, rfl, k _ s hr hp (by omega) (by omega) D _ ps P1.fD P1.s rfl P1.d P1.dd⟩
    rw [List.concat_eq_append] at P1 I ⊢
    have en : PyData.eqv (.list ((bs ++ [(ba, tk)]).map fun q => q.2.pd)) (.list []) = false := by
      cases bs with
      | nil => exact eqv_nil
      | cons c cs => exact eqv_nil
    rw [en]
    refine iteT ⟨fun σ' H' => ∃ m', m' < wts (snds (bs ++ [(ba, tk)])) ∧ ∃ ps as tn u6 u7 u8 u9 u10, σ' = [some (.ref a), some (.int (n : Int)), some (.int (R : Int)), some (.ref D), some (.ref T0), some (.int ((tn : Nat) : Int)), u6, u7, u8, u9, u10] ∧ Pile H H' D T0 ps as ∧ DInv n R 0 (ps.map (·.2)) (snds as) tn ∧ m' = wts (snds as), fun _ _ h => h, ?_⟩
    obtain ⟨g1, g2, P2, g3⟩ := P1.pop
    rw [snds_snoc] at I ⊢
    have I : DInv n R 0 (ps.map (·.2)) (tk :: snds bs) tn := I
    refine ⟨_, rfl, .inl ⟨rfl, _, SqL.of P1.t⟩, T0, _, .ref ba, rfl, rfl, P1.t, g1, ba, _, rfl, SqT.of g3, rfl, _, _, rfl, _, _, rfl, _, _, rfl, rfl, ?_⟩
    have htn : tn ≤ 301 := by
      obtain ⟨s, hr, hp, hc, hlen, ht⟩ := I
      omega
    refine ⟨_, rfl, _, rfl, _, _, rfl, rfl, a, ns, 5 + tn, rfl, P2.s.seq hS, hl, by omega, ?_⟩
    refine ⟨fun σ H2 => ∃ num u, 0 ≤ num ∧ σ = [some (.ref a), some (.int (n : Int)), some (.int (R : Int)), some (.ref D), some (.ref T0), some (.int ((tn + 1 : Nat) : Int)), some (.int (tk.a : Int)), some (.int tk.z), some (.int (tk.l : Int)), some (.int num), u] ∧ Pile H H2 D T0 ps bs, ?_, ?_⟩
    · exact ⟨_, rfl, _, _, rfl, rfl, _, _, num_nn _ _, rfl, P2⟩
    rintro σ H2 ⟨num, u, hnum, rfl, P3⟩
    clear P P1 P2 g1 g2 g3 u6 u7 u8 u9 u10
    have hlp : ps.length ≤ 2000 := by
      obtain ⟨s, hr, hp, hc, hlen, ht⟩ := I
      rw [List.length_map] at hlen
      omega
    have hlb : bs.length ≤ 400 := by
      obtain ⟨s, hr, hp, hc, hlen, ht⟩ := I
      have : ∀ ts : List Task, ts.length ≤ wts ts := fun ts => by
        induction ts with
        | nil => exact Nat.le_refl _
        | cons t ts ih =>
          rw [wts_cons, List.length_cons]
          have : 1 ≤ t.wt := by
            cases t with
            | meet _ m _ => show 1 ≤ 3 * m + 1; omega
            | close _ _ _ => exact Nat.le_refl _
          omega
      have q := this (snds bs)
      rw [wts_cons] at ht
      have e : (snds bs).length = bs.length := by
        unfold snds
        rw [List.length_reverse, List.length_map]
      omega
    cases tk with
    | close x kk l =>
      have I : DInv n R 0 (ps.map (·.2)) (.close x kk l :: snds bs) tn := I
      have hk : 1 ≤ kk := by
        obtain ⟨s, hr, hp, _⟩ := I
        obtain ⟨_, _, z, _⟩ := hp
        exact z
      refine ⟨_, rfl, _, _, rfl, rfl, _, rfl, ?_⟩
      rw [show decide ((Task.close x kk l).z < 0) = true from decide_eq_true (show (-(kk : Int)) < 0 by omega)]
      refine iteT ?_
      refine ⟨_, rfl, .inl ⟨rfl, _, SqL.of P3.d⟩, _, rfl, _, rfl, _, _, rfl, rfl, by show 2 ≤ sizeLine; decide, fun t1 h1 => ?_⟩
      refine ⟨_, rfl, by show 2 ≤ sizeLine; decide, fun t2 h2 => ?_⟩
      refine ⟨by show 2 ≤ sizeLine; decide, fun l hl0 => ?_⟩
      have s1 := Same.new (o := .tup [.str "drop", .int ((x : Int) - -(kk : Int))]) h1
      have s2 := Same.new (o := .tup [.str "take", .int (x : Int)]) h2
      have s3 := Same.new (o := .lst [.ref t1, .ref t2]) hl0
      have P4 := P3.same ((s1.trans s2).trans s3)
      refine ⟨D, l, _, _, rfl, rfl, P4.d, upd_same, sz5 (by rw [refs_len]; show ps.length + 2 ≤ 100000; omega), ?_⟩
      have P5 := P4.deeds (qs := [(t1, .drop (x + kk)), (t2, .take x)]) (fun q hq => by
        simp only [List.mem_cons, List.not_mem_nil, or_false] at hq
        rcases hq with rfl | rfl
        · show _ = some (HO.tup [V.str "drop", V.int ((x + kk : Nat) : Int)])
          rw [show ((x + kk : Nat) : Int) = (x : Int) - -(kk : Int) by omega]
          exact s3 _ _ (s2 _ _ upd_same)
        · exact s3 _ _ upd_same) rfl
      refine ⟨_, ?_, _, bs, tn + 1, _, _, _, _, _, rfl, P5, ?_, rfl⟩
      · rw [wts_cons]
        show wts (snds bs) < 1 + wts (snds bs)
        omega
      · rw [List.map_append]
        exact d_close I
    | meet x mm l =>
      have I : DInv n R 0 (ps.map (·.2)) (.meet x mm l :: snds bs) tn := I
      refine ⟨_, rfl, _, _, rfl, rfl, _, rfl, ?_⟩
      rw [show decide ((Task.meet x mm l).z < 0) = false from decide_eq_false (show ¬ ((mm : Int)) < 0 by omega)]
      refine iteF ?_
      refine ⟨_, rfl, .inl ⟨rfl, _, SqL.of P3.d⟩, _, rfl, _, rfl, _, rfl, _, rfl, _, _, rfl, rfl, _, rfl, _, _, rfl, rfl, ⟨by decide, by decide⟩, x, x + mm, _, rfl, fun ds hv p H3 qs hp s3 hqs hP hDq => ?_⟩
      have P4 := P3.same s3
      have lq : qs.length ≤ 2 := by
        rw [len_of hqs]
        rcases hv with ⟨rfl, _⟩ | rfl | rfl
        · exact Nat.le_refl _
        · exact Nat.le_refl _
        · exact Nat.zero_le _
      refine ⟨D, p, _, _, rfl, rfl, P4.d, hP, sz5 (by rw [refs_len, refs_len]; omega), ?_⟩
      have P5 := P4.deeds hDq rfl
      have J := d_vain I hv
      rw [← hqs, ← List.map_append] at J
      have hlp5 : (ps ++ qs).length ≤ 2002 := by rw [List.length_append]; omega
      refine ⟨_, rfl, rfl, _, rfl, ?_⟩
      refine ite2 (fun c => ?_) (fun c => ?_)
      · have c' : mm = 0 := by
          have := V.int.inj (of_decide_eq_true c)
          have this : (mm : Int) = 0 := this
          omega
        subst c'
        refine ⟨_, rfl, .inl ⟨rfl, _, SqL.of P5.d⟩, by show 1 ≤ sizeLine; decide, fun t1 h1 => ?_⟩
        have P6 := P5.same (Same.new (o := .tup [.str "meet"]) h1)
        refine ⟨D, _, _, rfl, rfl, P6.d, sz5' (by rw [refs_len]; omega), ?_⟩
        have P7 := P6.deeds (qs := [(t1, .meet)]) (fun q hq => by
          rw [List.mem_singleton.mp hq]
          exact upd_same) rfl
        refine ⟨_, ?_, _, bs, tn + 1, _, _, _, _, _, rfl, P7, ?_, rfl⟩
        · rw [wts_cons]
          show wts (snds bs) < 1 + wts (snds bs)
          omega
        · rw [List.map_append]
          exact d_zero J
      · have hm : 1 ≤ mm := by
          by_cases z : mm = 0
          · exact absurd (decide_eq_true (by rw [z] <;> rfl)) c
          · omega
        refine ⟨_, rfl, rfl, _, rfl, ?_⟩
        refine ite2 (fun _ => iteT ?_) (fun c1 => ?_)
        · refine ⟨_, rfl, .inl ⟨rfl, _, SqL.of P5.d⟩, _, rfl, by show 2 ≤ sizeLine; decide, fun t1 h1 => ?_⟩
          refine ⟨by show 1 ≤ sizeLine; decide, fun t2 h2 => ?_⟩
          refine ⟨_, rfl, by show 2 ≤ sizeLine; decide, fun t3 h3 => ?_⟩
          refine ⟨by show 3 ≤ sizeLine; decide, fun l2 hl2 => ?_⟩
          have s1 := Same.new (o := .tup [.str "go", .int (mm : Int)]) h1
          have s2 := Same.new (o := .tup [.str "meet"]) h2
          have s3' := Same.new (o := .tup [.str "take", .int (x : Int)]) h3
          have s4 := Same.new (o := .lst [.ref t1, .ref t2, .ref t3]) hl2
          have P6 := P5.same ((s1.trans s2).trans (s3'.trans s4))
          refine ⟨D, l2, _, _, rfl, rfl, P6.d, upd_same, sz5 (by rw [refs_len]; show (ps ++ qs).length + 3 ≤ 100000; omega), ?_⟩
          have P7 := P6.deeds (qs := [(t1, .go mm), (t2, .meet), (t3, .take x)]) (fun q hq => by
            simp only [List.mem_cons, List.not_mem_nil, or_false] at hq
            rcases hq with rfl | rfl | rfl
            · exact s4 _ _ (s3' _ _ (s2 _ _ upd_same))
            · exact s4 _ _ (s3' _ _ upd_same)
            · exact s4 _ _ upd_same) rfl
          refine ⟨_, rfl, .inl ⟨rfl, _, SqL.of P7.t⟩, _, rfl, _, rfl, _, _, rfl, rfl, _, rfl, by show 3 ≤ sizeLine; decide, fun t4 h4 => ?_⟩
          have P8 := P7.same (Same.new (o := .tup [.int (x : Int), .int ((mm : Int) - 1), .int (l : Int)]) h4)
          refine ⟨T0, _, _, rfl, rfl, P8.t, sz5' (by rw [show (refsT bs).length = bs.length from List.length_map ..]; omega), ?_⟩
          have P9 := P8.push (b := (t4, .meet x (mm - 1) l)) (by
            show _ = some (HO.tup [V.int (x : Int), V.int ((mm - 1 : Nat) : Int), V.int (l : Int)])
            rw [show ((mm - 1 : Nat) : Int) = (mm : Int) - 1 by omega]
            exact upd_same) rfl
          refine ⟨_, ?_, _, _, tn + 1, _, _, _, _, _, rfl, P9, ?_, rfl⟩
          · rw [snds_snoc, wts_cons, wts_cons]
            show 3 * (mm - 1) + 1 + wts (snds bs) < 3 * mm + 1 + wts (snds bs)
            omega
          · rw [List.map_append, snds_snoc]
            exact d_end hn hm J
        · refine ⟨_, rfl, _, _, rfl, rfl, by show (0 : Int) < 3; decide, rfl, _, rfl, ?_⟩
          refine ite2 (fun _ => ?_) (fun _ => ?_)
          · refine ⟨_, rfl, .inl ⟨rfl, _, SqL.of P5.d⟩, _, rfl, by show 2 ≤ sizeLine; decide, fun t1 h1 => ?_⟩
            refine ⟨by show 1 ≤ sizeLine; decide, fun t2 h2 => ?_⟩
            refine ⟨_, rfl, by show 2 ≤ sizeLine; decide, fun t3 h3 => ?_⟩
            refine ⟨by show 3 ≤ sizeLine; decide, fun l2 hl2 => ?_⟩
            have s1 := Same.new (o := .tup [.str "go", .int (mm : Int)]) h1
            have s2 := Same.new (o := .tup [.str "meet"]) h2
            have s3' := Same.new (o := .tup [.str "take", .int (x : Int)]) h3
            have s4 := Same.new (o := .lst [.ref t1, .ref t2, .ref t3]) hl2
            have P6 := P5.same ((s1.trans s2).trans (s3'.trans s4))
            refine ⟨D, l2, _, _, rfl, rfl, P6.d, upd_same, sz5 (by rw [refs_len]; show (ps ++ qs).length + 3 ≤ 100000; omega), ?_⟩
            have P7 := P6.deeds (qs := [(t1, .go mm), (t2, .meet), (t3, .take x)]) (fun q hq => by
              simp only [List.mem_cons, List.not_mem_nil, or_false] at hq
              rcases hq with rfl | rfl | rfl
              · exact s4 _ _ (s3' _ _ (s2 _ _ upd_same))
              · exact s4 _ _ (s3' _ _ upd_same)
              · exact s4 _ _ upd_same) rfl
            refine ⟨_, rfl, .inl ⟨rfl, _, SqL.of P7.t⟩, _, rfl, _, rfl, _, _, rfl, rfl, _, rfl, by show 3 ≤ sizeLine; decide, fun t4 h4 => ?_⟩
            have P8 := P7.same (Same.new (o := .tup [.int (x : Int), .int ((mm : Int) - 1), .int (l : Int)]) h4)
            refine ⟨T0, _, _, rfl, rfl, P8.t, sz5' (by rw [show (refsT bs).length = bs.length from List.length_map ..]; omega), ?_⟩
            have P9 := P8.push (b := (t4, .meet x (mm - 1) l)) (by
              show _ = some (HO.tup [V.int (x : Int), V.int ((mm - 1 : Nat) : Int), V.int (l : Int)])
              rw [show ((mm - 1 : Nat) : Int) = (mm : Int) - 1 by omega]
              exact upd_same) rfl
            refine ⟨_, ?_, _, _, tn + 1, _, _, _, _, _, rfl, P9, ?_, rfl⟩
            · rw [snds_snoc, wts_cons, wts_cons]
              show 3 * (mm - 1) + 1 + wts (snds bs) < 3 * mm + 1 + wts (snds bs)
              omega
            · rw [List.map_append, snds_snoc]
              exact d_end hn hm J
          · have hl1 : 1 ≤ l := by
              obtain ⟨s, hr, hp, _⟩ := I
              exact hp.2.2.2.2.2.1
            have hl2 : 2 ≤ l := by
              by_cases z : l = 1
              · exact absurd (decide_eq_true (by rw [z] <;> rfl)) c1
              · omega
            refine ⟨fun σ H4 => (∃ kk : Nat, 1 ≤ kk ∧ kk ≤ mm ∧ σ = [some (.ref a), some (.int (n : Int)), some (.int (R : Int)), some (.ref D), some (.ref T0), some (.int ((tn + 1 : Nat) : Int)), some (.int (x : Int)), some (.int (mm : Int)), some (.int (l : Int)), some (.int num), some (.int (kk : Int))]) ∧ Pile H H4 D T0 (ps ++ qs) bs, ?_, ?_⟩
            · obtain ⟨k0, hk0, ek0⟩ := rem_nat (z := num / 3) (m := (mm : Int)) (by omega)
              refine ⟨_, rfl, _, _, rfl, rfl, ⟨by decide, by decide⟩, _, rfl, _, _, rfl, rfl, by show (0 : Int) < (mm : Int); omega, _, _, rfl, rfl, ⟨1 + k0, by omega, by omega, ?_⟩, P5⟩
              exact congrArg (fun z : Int => [some (V.ref a), some (V.int (n : Int)), some (V.int (R : Int)), some (V.ref D), some (V.ref T0), some (V.int ((tn + 1 : Nat) : Int)), some (V.int (x : Int)), some (V.int (mm : Int)), some (V.int (l : Int)), some (V.int num), some (V.int z)]) (show (1 : Int) + num / 3 % (mm : Int) = ((1 + k0 : Nat) : Int) by rw [ek0]; omega)
            rintro σ H4 ⟨⟨kk, hk, hkm, rfl⟩, P5⟩
            refine ⟨_, rfl, .inl ⟨rfl, _, SqL.of P5.d⟩, _, rfl, by show 2 ≤ sizeLine; decide, fun t1 h1 => ?_⟩
            refine ⟨by show 1 ≤ sizeLine; decide, fun t2 h2 => ?_⟩
            refine ⟨by show 2 ≤ sizeLine; decide, fun l2 hl2' => ?_⟩
            have s1 := Same.new (o := .tup [.str "go", .int (kk : Int)]) h1
            have s2 := Same.new (o := .tup [.str "keep"]) h2
            have s4 := Same.new (o := .lst [.ref t1, .ref t2]) hl2'
            have P6 := P5.same ((s1.trans s2).trans s4)
            refine ⟨D, l2, _, _, rfl, rfl, P6.d, upd_same, sz5 (by rw [refs_len]; show (ps ++ qs).length + 2 ≤ 100000; omega), ?_⟩
            have P7 := P6.deeds (qs := [(t1, .go kk), (t2, .keep)]) (fun q hq => by
              simp only [List.mem_cons, List.not_mem_nil, or_false] at hq
              rcases hq with rfl | rfl
              · exact s4 _ _ (s2 _ _ upd_same)
              · exact s4 _ _ upd_same) rfl
            have lT : ∀ cs : List (Addr × Task), (refsT cs).length = cs.length := fun cs => List.length_map ..
            refine ⟨_, rfl, .inl ⟨rfl, _, SqL.of P7.t⟩, _, rfl, _, rfl, _, _, rfl, rfl, _, rfl, by show 3 ≤ sizeLine; decide, fun t4 h4 => ?_⟩
            have P8 := P7.same (Same.new (o := .tup [.int (x : Int), .int ((kk : Int) - 1), .int (l : Int)]) h4)
            refine ⟨T0, _, _, rfl, rfl, P8.t, sz5' (by rw [lT]; omega), ?_⟩
            have P9 := P8.push (b := (t4, .meet x (kk - 1) l)) (by
              show _ = some (HO.tup [V.int (x : Int), V.int ((kk - 1 : Nat) : Int), V.int (l : Int)])
              rw [show ((kk - 1 : Nat) : Int) = (kk : Int) - 1 by omega]
              exact upd_same) rfl
            refine ⟨_, rfl, .inl ⟨rfl, _, SqL.of P9.t⟩, _, rfl, _, rfl, _, rfl, _, rfl, by show 3 ≤ sizeLine; decide, fun t5 h5 => ?_⟩
            have P10 := P9.same (Same.new (o := .tup [.int (x : Int), .int (-(kk : Int)), .int (l : Int)]) h5)
            refine ⟨T0, _, _, rfl, rfl, P10.t, sz5' (by rw [lT, List.length_append]; show bs.length + 1 < 100000; omega), ?_⟩
            have P11 := P10.push (b := (t5, .close x kk l)) (by
              show _ = some (HO.tup [V.int (x : Int), V.int (-(kk : Int)), V.int (l : Int)])
              exact upd_same) rfl
            refine ⟨_, rfl, .inl ⟨rfl, _, SqL.of P11.t⟩, _, rfl, _, rfl, _, _, rfl, rfl, _, rfl, _, rfl, _, _, rfl, rfl, _, rfl, _, _, rfl, rfl, by show 3 ≤ sizeLine; decide, fun t6 h6 => ?_⟩
            have P12 := P11.same (Same.new (o := .tup [.int ((x : Int) + (kk : Int)), .int ((mm : Int) - (kk : Int)), .int ((l : Int) - 1)]) h6)
            refine ⟨T0, _, _, rfl, rfl, P12.t, sz5' (by rw [lT, List.length_append, List.length_append]; show bs.length + 1 + 1 < 100000; omega), ?_⟩
            have P13 := P12.push (b := (t6, .meet (x + kk) (mm - kk) (l - 1))) (by
              show _ = some (HO.tup [V.int ((x + kk : Nat) : Int), V.int ((mm - kk : Nat) : Int), V.int ((l - 1 : Nat) : Int)])
              rw [show ((x + kk : Nat) : Int) = (x : Int) + (kk : Int) by omega, show ((mm - kk : Nat) : Int) = (mm : Int) - (kk : Int) by omega, show ((l - 1 : Nat) : Int) = (l : Int) - 1 by omega]
              exact upd_same) rfl
            refine ⟨_, ?_, _, _, tn + 1, _, _, _, _, _, rfl, P13, ?_, rfl⟩
            · rw [snds_snoc, snds_snoc, snds_snoc, wts_cons, wts_cons, wts_cons, wts_cons]
              show 3 * (mm - kk) + 1 + (1 + (3 * (kk - 1) + 1 + wts (snds bs))) < 3 * mm + 1 + wts (snds bs)
              omega
            · rw [List.map_append, snds_snoc, snds_snoc, snds_snoc]
              exact d_mark hn hk hkm hl2 J
def sp_l_sums (K : PySem.W.Frag) : Sp := fun vs H Q _ => ∃ (p : Addr) (ps : List (Addr × Deed)), vs = [.ref p] ∧ SqL K H p (refs ps) ∧ DS H ps ∧ RetT H [.int (costD (ps.map (·.2)) : Int), .int (mostD (ps.map (·.2)))] Q
theorem costD_snoc (ds : List Deed) (d : Deed) : costD (ds ++ [d]) = costD ds + costD1 d := by
  rw [costD_append]
  show costD ds + (costD1 d + 0) = _
  omega
theorem ok_l_sums (T : Txt K mg) : OkF P w K mg base "_law_sums" 1 ["_law_deeds"] (sp_l_sums K) := by
  refine okf T.d_l_sums sc_l_sums (fun vs H Q E h => ?_) (fun f cdv A outer s H vs Q E hr h => ?_)
  · obtain ⟨p, ps, rfl, hP, hD, k⟩ := h
    rfl
  · obtain ⟨p, ps, rfl, hP, hD, k⟩ := h
    refine ⟨_, (pss_cons (ps_set (i := 1) sc_l_sums.nd rfl (Or.inl rfl) pe_int)
        (pss_cons (ps_set (i := 2) sc_l_sums.nd rfl (Or.inl rfl) pe_int)
        (pss_cons (ps_set (i := 3) sc_l_sums.nd rfl (Or.inl rfl) pe_int)
        (pss_cons (ps_for (passes_of rfl) rfl (pi_list (pv 0)) (pg_name (i := 4) sc_l_sums.nd rfl (Or.inl rfl))
        (Evl.pss_cut (ps_if (pt_cmpR op_eq (pe_ix ix_tup (pv 4) pe_int (fun _ _ => rfl)) pe_str (nomark _))
        (pss_one (ps_set (i := 1) sc_l_sums.nd rfl (Or.inl rfl) (pe_op op_add (pv 1) (pe_ix ix_tup (pv 4) pe_int (fun _ _ => rfl)))))
        pss_nil)
        (pss_cons (ps_set (i := 2) sc_l_sums.nd rfl (Or.inl rfl) (pe_op op_sub (pe_op op_add (pv 2) (pe_callTy (T := "int") call_int1 (by rfl) T.n_int (by decide +kernel) (pa_cons (pe_cmpR op_eq (pe_ix ix_tup (pv 4) pe_int (fun _ _ => rfl)) pe_str (nomark _)) pa_nil))) (pe_callTy (T := "int") call_int1 (by rfl) T.n_int (by decide +kernel) (pa_cons (pe_cmpR op_eq (pe_ix ix_tup (pv 4) pe_int (fun _ _ => rfl)) pe_str (nomark _)) pa_nil))))
        (pss_one (ps_set (i := 3) sc_l_sums.nd rfl (Or.inl rfl) (pe_callB (call_max2 rfl) (by rfl) T.n_max (by decide +kernel) (pa_cons (pv 3) (pa_cons (pv 2) pa_nil))))))))
        (pss_one (ps_ret (pe_tup (pa_cons (pv 1) (pa_cons (pv 3) pa_nil))))))))), ?_⟩
    refine ⟨_, rfl, p, rfl, ⟨_, hP⟩, ?_⟩
    refine for_list (K := K) (a := p) (xs := refs ps) (fun i σ H' => H' = H ∧ ∃ u, σ = [some (.ref p), some (.int (costD ((ps.take i).map (·.2)) : Int)), some (.int (((ps.take i).map (·.2)).foldl mostStep (0, 0)).1), some (.int (((ps.take i).map (·.2)).foldl mostStep (0, 0)).2), u]) ⟨rfl, none, rfl⟩ (fun i σ H' _ ⟨e, _⟩ => by rw [e]; exact hP) ?_ ?_
    · rintro i y σ H' hi ⟨rfl, u, rfl⟩
      obtain ⟨q, hq, rfl⟩ := get_map hi
      have hq' := hD q (List.mem_of_getElem? hq)
      rw [take_succ hq, List.map_append, List.foldl_append]
      rw [show (ps.take i).map (·.2) ++ [q].map (·.2) = (ps.take i).map (·.2) ++ [q.2] from rfl, costD_snoc]
      generalize ((ps.take i).map (·.2)).foldl mostStep (0, 0) = m
      generalize costD ((ps.take i).map (·.2)) = c
      refine ⟨fun σ H2 => H2 = H' ∧ σ = [some (.ref p), some (.int ((c + costD1 q.2 : Nat) : Int)), some (.int m.1), some (.int m.2), some (.ref q.1)], ?_, ?_⟩
      · refine ⟨_, rfl, q.1, q.2.vs, _, _, rfl, rfl, SqT.of hq', q.2.at0, rfl, _, rfl, ?_⟩
        cases ed : q.2 with
        | go n =>
          rw [ed] at hq'
          refine iteT ?_
          exact ⟨_, rfl, _, rfl, q.1, (Deed.go n).vs, _, .int (n : Int), rfl, rfl, SqT.of hq', rfl, _, _, rfl, rfl, rfl, rfl⟩
        | keep =>
          rw [show decide (V.str Deed.keep.word = V.str "go") = false by decide +kernel]
          exact ⟨rfl, rfl⟩
        | meet =>
          rw [show decide (V.str Deed.meet.word = V.str "go") = false by decide +kernel]
          exact ⟨rfl, rfl⟩
        | take n =>
          rw [show decide (V.str (Deed.take n).word = V.str "go") = false from (by decide +kernel : decide (V.str "take" = V.str "go") = false)]
          exact ⟨rfl, rfl⟩
        | drop n =>
          rw [show decide (V.str (Deed.drop n).word = V.str "go") = false from (by decide +kernel : decide (V.str "drop" = V.str "go") = false)]
          exact ⟨rfl, rfl⟩
      rintro σ H2 ⟨rfl, rfl⟩
      refine ⟨_, rfl, _, rfl, q.1, q.2.vs, _, _, rfl, rfl, SqT.of hq', q.2.at0, rfl, .inr ⟨_, rfl, _, _, rfl, rfl, ?_⟩⟩
      refine ⟨_, rfl, q.1, q.2.vs, _, _, rfl, rfl, SqT.of hq', q.2.at0, rfl, .inr ⟨_, rfl, _, _, rfl, rfl, ?_⟩⟩
      have e1 : m.1 + (if decide (V.str q.2.word = V.str "keep") = true then 1 else 0) - (if decide (V.str q.2.word = V.str "drop") = true then 1 else 0) = (mostStep m q.2).1 := by
        cases q.2 with
        | keep =>
          rw [show decide (V.str Deed.keep.word = V.str "keep") = true by decide +kernel, show decide (V.str Deed.keep.word = V.str "drop") = false by decide +kernel]
          show m.1 + 1 - 0 = m.1 + 1
          omega
        | meet =>
          rw [show decide (V.str Deed.meet.word = V.str "keep") = false by decide +kernel, show decide (V.str Deed.meet.word = V.str "drop") = false by decide +kernel]
          show m.1 + 0 - 0 = m.1
          omega
        | go n =>
          rw [show decide (V.str (Deed.go n).word = V.str "keep") = false from (by decide +kernel : decide (V.str "go" = V.str "keep") = false), show decide (V.str (Deed.go n).word = V.str "drop") = false from (by decide +kernel : decide (V.str "go" = V.str "drop") = false)]
          show m.1 + 0 - 0 = m.1
          omega
        | take n =>
          rw [show decide (V.str (Deed.take n).word = V.str "keep") = false from (by decide +kernel : decide (V.str "take" = V.str "keep") = false), show decide (V.str (Deed.take n).word = V.str "drop") = false from (by decide +kernel : decide (V.str "take" = V.str "drop") = false)]
          show m.1 + 0 - 0 = m.1
          omega
        | drop n =>
          rw [show decide (V.str (Deed.drop n).word = V.str "keep") = false from (by decide +kernel : decide (V.str "drop" = V.str "keep") = false), show decide (V.str (Deed.drop n).word = V.str "drop") = true from (by decide +kernel : decide (V.str "drop" = V.str "drop") = true)]
          show m.1 + 0 - 1 = m.1 - 1
          omega
      refine ⟨_, rfl, _, rfl, _, _, rfl, rfl, some (.ref q.1), ?_⟩
      have em : (if (mostStep m q.2).1 > m.2 then (mostStep m q.2).1 else m.2) = (mostStep m q.2).2 := by
        rw [max_if]
        cases q.2 <;> rfl
      have fin := congrArg (fun z : Int => [some (V.ref p), some (V.int ((c + costD1 q.2 : Nat) : Int)), some (V.int z), some (V.int (if z > m.2 then z else m.2)), some (V.ref q.1)]) e1
      refine fin.trans ?_
      show [some (V.ref p), some (V.int ((c + costD1 q.2 : Nat) : Int)), some (V.int (mostStep m q.2).1), some (V.int (if (mostStep m q.2).1 > m.2 then (mostStep m q.2).1 else m.2)), some (V.ref q.1)] = _
      rw [em] <;> rfl
    · rintro σ H' ⟨rfl, u, rfl⟩
      rw [refs_len, List.take_length]
      exact ⟨_, rfl, _, rfl, by show 2 ≤ sizeLine; decide, fun t ht => k t _ ht (Same.new ht) upd_same⟩
theorem most_gos : ∀ (ds : List Deed), (∀ d ∈ ds, ∃ n, d = .go n) → ds.foldl mostStep (0, 0) = (0, 0)
  | [], _ => rfl
  | d :: ds, h => by
    obtain ⟨n, e⟩ := h d List.mem_cons_self
    have ih := most_gos ds fun x hx => h x (List.mem_cons_of_mem _ hx)
    rw [List.foldl_cons, e]
    exact ih
theorem ok_law_at (T : Txt K mg) {f : Addr} {fd : FuncData} (F : Fun K "law" "law" s_law f fd) : FnOk P w K mg base (L2.CX P w) 8 f fd ["_law_script"] (sp_law K) := by
  obtain ⟨f_l_cell_at, fd_l_cell_at, m_l_cell_at, k_l_cell_at, b_l_cell_at, G_l_cell_at⟩ := ok_l_cell_at (P := P) (w := w) (base := base) T
  obtain ⟨f_l_row, fd_l_row, m_l_row, k_l_row, b_l_row, G_l_row⟩ := ok_l_row (P := P) (w := w) (base := base) T
  obtain ⟨f_l_drawn, fd_l_drawn, m_l_drawn, k_l_drawn, b_l_drawn, G_l_drawn⟩ := ok_l_drawn (P := P) (w := w) (base := base) T
  obtain ⟨f_l_sums, fd_l_sums, m_l_sums, k_l_sums, b_l_sums, G_l_sums⟩ := ok_l_sums (P := P) (w := w) (base := base) T
  obtain ⟨f_walked, fd_walked, m_walked, k_walked, b_walked, G_walked⟩ := ok_walked (P := P) (w := w) (base := base) T
  obtain ⟨f_Walker_met, fd_Walker_met, M_Walker_met, b_Walker_met, G_Walker_met⟩ := ok_Walker_met (P := P) (w := w) (base := base) T
  obtain ⟨f_l_states, fd_l_states, m_l_states, k_l_states, b_l_states, G_l_states⟩ := ok_l_states (P := P) (w := w) (base := base) T
  obtain ⟨f_cost_of, fd_cost_of, m_cost_of, k_cost_of, b_cost_of, G_cost_of⟩ := ok_cost_of (P := P) (w := w) (base := base) T
  obtain ⟨f_most_kept, fd_most_kept, m_most_kept, k_most_kept, b_most_kept, G_most_kept⟩ := ok_most_kept (P := P) (w := w) (base := base) T
  obtain ⟨f_l_whole, fd_l_whole, m_l_whole, k_l_whole, b_l_whole, G_l_whole⟩ := ok_l_whole (P := P) (w := w) (base := base) T
  obtain ⟨f_least, fd_least, m_least, k_least, b_least, G_least⟩ := ok_least (P := P) (w := w) (base := base) T
  refine F.okX sc_law (fun vs H Q E h => ?_) (fun cdv A outer s H vs Q E hr h => ?_)
  · obtain ⟨a, ns, rfl, hS, hl, k⟩ := h
    rfl
  · obtain ⟨a, ns, rfl, hS, hl, k⟩ := h
    refine ⟨_, (pss_cons (ps_set (i := 1) sc_law.nd rfl (Or.inl rfl) pe_int)
        (Evl.pss_cut (ps_if (pt_cmpR op_eq (pe_op op_mod (pe_call G_l_cell_at (hr.mono (by decide)) (by rfl) m_l_cell_at k_l_cell_at b_l_cell_at .nil passL (pa_cons (pv 0) (pa_cons pe_int pa_nil))) pe_int) pe_int (nomark _))
        (pss_one (ps_set (i := 1) sc_law.nd rfl (Or.inl rfl) pe_int))
        pss_nil)
        (pss_cons (ps_asg (pe_call G_l_row (hr.mono (by decide)) (by rfl) m_l_row k_l_row b_l_row .nil passL (pa_cons (pv 0) (pa_cons pe_int (pa_cons (pv 1) pa_nil)))) (pg_tup rfl (pgs_cons (pg_name (i := 2) sc_law.nd rfl (Or.inl rfl)) (pgs_cons (pg_name (i := 3) sc_law.nd rfl (Or.inl rfl)) pgs_nil))))
        (Evl.pss_cut (ps_set (i := 4) sc_law.nd rfl (Or.inl rfl) (pe_op op_add pe_int (pe_op op_mod (pe_call G_l_cell_at (hr.mono (by decide)) (by rfl) m_l_cell_at k_l_cell_at b_l_cell_at .nil passL (pa_cons (pv 0) (pa_cons pe_int pa_nil))) pe_int)))
        (pss_cons (ps_set (i := 5) sc_law.nd rfl (Or.inl rfl) (pe_call G_l_drawn (hr.mono (by decide)) (by rfl) m_l_drawn k_l_drawn b_l_drawn .nil passL (pa_cons (pv 0) (pa_cons (pe_callB call_len_seq (by rfl) T.n_len PySem.boot_len (pa_cons (pv 3) pa_nil)) (pa_cons (pv 4) pa_nil)))))
        (pss_cons (ps_asg (pe_call G_l_sums (hr.mono (by decide)) (by rfl) m_l_sums k_l_sums b_l_sums .nil passL (pa_cons (pv 5) pa_nil)) (pg_tup rfl (pgs_cons (pg_name (i := 6) sc_law.nd rfl (Or.inl rfl)) (pgs_cons (pg_name (i := 7) sc_law.nd rfl (Or.inl rfl)) pgs_nil))))
        (pss_cons (ps_set (i := 8) sc_law.nd rfl (Or.inl rfl) (pe_callTy (T := "list") (r := rListOf K) call_list_of (by rfl) T.n_list (by decide +kernel) (pa_cons (pv 5) pa_nil)))
        (pss_cons (ps_set (i := 9) sc_law.nd rfl (Or.inl rfl) (pe_call G_walked (hr.mono (by decide)) (by rfl) m_walked k_walked b_walked .nil passL (pa_cons (pv 2) (pa_cons (pe_callTy (T := "list") (r := rListOf K) call_list_of (by rfl) T.n_list (by decide +kernel) (pa_cons (pv 3) pa_nil)) (pa_cons (pv 4) (pa_cons (pv 8) pa_nil))))))
        (pss_cons (ps_if (PW.pt (pw_or (pt_cmpR (op_neD hr.units) (pe_meth0 (pv 9) T.o_Walker.cl M_Walker_met G_Walker_met (hr.mono (by decide)) b_Walker_met .nil passL) (pe_listRev rfl (by rfl) T.n_list (by rfl) T.n_reversed (pe_call G_l_states (hr.mono (by decide)) (by rfl) m_l_states k_l_states b_l_states .nil passL (pa_cons (pv 2) (pa_cons (pv 3) pa_nil)))) (nomark _)) (pw_or (pt_cmpR op_notN (pe_fld (pv 9) rfl) pe_non (nomark _)) (pw_or1 (pt_cmpR (op_neD hr.units) (pv 8) (pv 5) (nomark _))))))
        (pss_one (ps_ret pe_bl))
        pss_nil)
        (pss_cons (ps_set (i := 10) sc_law.nd rfl (Or.inl rfl) (pe_lst (pa_cons (pe_fld (pv 9) rfl) (pa_cons (pe_call G_cost_of (hr.mono (by decide)) (by rfl) m_cost_of k_cost_of b_cost_of .nil passL (pa_cons (pv 8) pa_nil)) (pa_cons (pe_call G_most_kept (hr.mono (by decide)) (by rfl) m_most_kept k_most_kept b_most_kept .nil passL (pa_cons (pv 8) pa_nil)) pa_nil)))))
        (pss_cons (ps_if (PW.pt (pw_or (pt_cmpR (op_neD hr.units) (pv 10) (pe_lst (pa_cons (pv 6) (pa_cons (pv 6) (pa_cons (pv 7) pa_nil)))) (nomark _)) (pw_or (pt_not (pt_val (pe_callB (cr_all rfl) (by rfl) T.n_all (by decide +kernel) (pa_cons (pe_lc (own := [("_law_one", 13)]) rfl sc_law.nd (pi_list (pv 10)) (blkOk_by (own := [("_law_one", 13)]) (N := ["_law_script", "_law_steps", "_law_first", "_law_rules", "_law_room", "_law_deeds", "_law_price", "_law_most", "_law_handed", "_law_walker", "_law_told", "_law_several", "_law_k", "_law_one", "_law_deed"]) (sc := defScope s_law) (by decide +kernel)) (fun _ _ _ _ _ => (pg_name (i := 13) sc_law.nd rfl (Or.inl rfl))) (fun _ _ _ _ _ => pts_nil) (fun _ _ _ _ _ => (pe_call G_l_whole (hr.mono (by decide)) (by rfl) m_l_whole k_l_whole b_l_whole .nil passL (pa_cons (pv 13) pa_nil)))) pa_nil)))) (pw_or1 (pt_cmpR (op_neD hr.units) (pv 8) (pv 5) (nomark _))))))
        (pss_one (ps_ret pe_bl))
        pss_nil)
        (pss_cons (ps_setLc (i := 11) (own := [("_law_k", 12)]) rfl sc_law.nd rfl rfl (sw_true rfl rfl rfl (by decide +kernel)) (pi_range1 (by rfl) T.n_range (pa_cons (pe_op op_mod (pe_call G_l_cell_at (hr.mono (by decide)) (by rfl) m_l_cell_at k_l_cell_at b_l_cell_at .nil passL (pa_cons (pv 0) (pa_cons pe_int pa_nil))) pe_int) pa_nil)) (blkOk_by (own := [("_law_k", 12)]) (N := ["_law_script", "_law_steps", "_law_first", "_law_rules", "_law_room", "_law_deeds", "_law_price", "_law_most", "_law_handed", "_law_walker", "_law_told", "_law_several", "_law_k", "_law_one", "_law_deed"]) (sc := defScope s_law) (by decide +kernel)) (fun _ _ _ _ _ => (pg_name (i := 12) sc_law.nd rfl (Or.inl rfl))) (fun _ _ _ _ _ => pts_nil) (fun _ _ _ _ _ => (pe_tup (pa_cons pe_str (pa_cons (pe_op op_add pe_int (pv 12)) pa_nil)))))
        (pss_cons (ps_if (pt_cmpR (op_neD hr.units) (pe_lst (pa_cons (pe_call G_cost_of (hr.mono (by decide)) (by rfl) m_cost_of k_cost_of b_cost_of .nil passL (pa_cons (pv 11) pa_nil)) (pa_cons (pe_call G_most_kept (hr.mono (by decide)) (by rfl) m_most_kept k_most_kept b_most_kept .nil passL (pa_cons (pv 11) pa_nil)) pa_nil))) (pe_lst (pa_cons (pe_callB (cr_sum rfl) (by rfl) T.n_sum (by decide +kernel) (pa_cons (pe_lc (own := [("_law_deed", 14)]) rfl sc_law.nd (pi_list (pv 11)) (blkOk_by (own := [("_law_deed", 14)]) (N := ["_law_script", "_law_steps", "_law_first", "_law_rules", "_law_room", "_law_deeds", "_law_price", "_law_most", "_law_handed", "_law_walker", "_law_told", "_law_several", "_law_k", "_law_one", "_law_deed"]) (sc := defScope s_law) (by decide +kernel)) (fun _ _ _ _ _ => (pg_name (i := 14) sc_law.nd rfl (Or.inl rfl))) (fun _ _ _ _ _ => pts_nil) (fun _ _ _ _ _ => (pe_ix (r := rIxT K) ix_tup (pv 14) pe_int (fun _ _ => rfl)))) pa_nil)) (pa_cons pe_int pa_nil))) (nomark _))
        (pss_one (ps_ret pe_bl))
        pss_nil)
        (pss_one (ps_ret (pe_and (pe_cmpR op_le (pe_call G_least (hr.mono (by decide)) (by rfl) m_least k_least b_least .nil passL (pa_cons (pe_callB call_len_seq (by rfl) T.n_len PySem.boot_len (pa_cons (pv 3) pa_nil)) (pa_cons (pv 4) pa_nil))) (pv 6) (nomark _)) (pe_one (pe_cmpR op_le (pe_call G_least (hr.mono (by decide)) (by rfl) m_least k_least b_least .nil passL (pa_cons (pe_callB call_len_seq (by rfl) T.n_len PySem.boot_len (pa_cons (pv 3) pa_nil)) (pa_cons (pe_op op_add (pv 4) pe_int) pa_nil))) (pe_call G_least (hr.mono (by decide)) (by rfl) m_least k_least b_least .nil passL (pa_cons (pe_callB call_len_seq (by rfl) T.n_len PySem.boot_len (pa_cons (pv 3) pa_nil)) (pa_cons (pv 4) pa_nil))) (nomark _))))))))))))))))))), ?_⟩
    refine ⟨fun σ H' => H' = H ∧ ∃ st : Nat, st ≤ 100 ∧ σ = [some (.ref a), some (.int (st : Int)), none, none, none, none, none, none, none, none, none, none, none, none, none], ?_, ?_⟩
    · refine ⟨_, rfl, a, ns, 2, rfl, hS, _, _, rfl, rfl, by show (0 : Int) < 8; decide, rfl, _, rfl, ?_⟩
      exact ite2 (fun _ => ⟨rfl, 60, by decide, rfl⟩) (fun _ => ⟨rfl, 24, by decide, rfl⟩)
    rintro σ H0 ⟨rfl, st, hst, rfl⟩
    refine ⟨_, rfl, _, rfl, a, ns, 3, st, rfl, hS, hl, by omega, by omega, fun t l f rs H1 ht hl0 hN s1 hT hL hR hf hlr => ⟨t, _, rfl, SqT.of hT, rfl, _, _, rfl, _, _, rfl, rfl, ?_⟩⟩
    refine ⟨fun σ H2 => H2 = H1 ∧ ∃ R : Nat, 1 ≤ R ∧ R ≤ 5 ∧ σ = [some (.ref a), some (.int (st : Int)), some (.int (f : Int)), some (.ref l), some (.int (R : Int)), none, none, none, none, none, none, none, none, none, none], ?_, ?_⟩
    · obtain ⟨r0, hr0, er0⟩ := rem_nat (z := cellAt ns 1) (m := 5) (by decide)
      refine ⟨_, rfl, a, ns, 1, rfl, s1.seq hS, _, _, rfl, rfl, by show (0 : Int) < 5; decide, _, _, rfl, rfl, rfl, 1 + r0, by omega, by omega, ?_⟩
      rw [Int.natCast_add, ← er0] <;> rfl
    rintro σ H2 ⟨rfl, R, h1, h2, rfl⟩
    have hn : rs.length ≤ 100 := by omega
    have eL : (rs.map (·.2)).length = rs.length := List.length_map ..
    refine ⟨_, rfl, _, rfl, l, _, rfl, .inl (SqL.of hL), _, rfl, a, ns, rs.length, R, by rw [refsR_len] <;> rfl, s1.seq hS, hl, hn, h1, by omega, fun ds s hrun hwa hcost hlen p H3 ps hp s3 hps hP hD => ?_⟩
    have hlp : ps.length ≤ 2000 := by rw [len_of hps]; exact hlen
    refine ⟨_, rfl, p, ps, rfl, SqL.of hP, hD, fun t2 H4 ht2 s4 hT2 => ⟨t2, _, rfl, SqT.of hT2, rfl, _, _, rfl, _, _, rfl, rfl, ?_⟩⟩
    refine ⟨_, rfl, p, _, rfl, .inl (SqL.of (s4 _ _ hP)), fun hd hhd => ?_⟩
    have w1 := Same.new (o := .lst (refs ps)) hhd
    have s24 := s3.trans (s4.trans w1)
    refine ⟨_, rfl, _, rfl, l, _, rfl, .inl (SqL.of (s24 _ _ hL)), fun l2 hl2 => ⟨_, rfl, _, rfl, ?_⟩⟩
    have w2 := Same.new (o := .lst (refsR rs)) hl2
    rw [← eL] at hrun
    obtain ⟨oks, v0, hv0, S⟩ := sim_run (f := f) (by rw [eL]; exact hn) (sim0 (rs.map (·.2)) f) hrun
    obtain ⟨hwn, hsn⟩ := sim_met S hwa
    have hdn := S.dn
    have hco := runW_cost hrun
    obtain ⟨vpl, vst, vdn, vwa, vmk, vsn⟩ := v0
    have hwn : vwa = none := hwn
    subst hwn
    have hsn : vsn = (rowN f (rs.map (·.2))).reverse := hsn
    have hdn : vdn = s.co := hdn
    have hco : s.co = 0 + costD ds := hco
    refine .inl ⟨l2, hd, f, R, rs, refs ps, ds.map some, rfl, upd_same, (hR.same s24).same w2, hf, hn, h1, by omega, SqL.of (w2 _ _ upd_same), by rw [List.length_map, refs_len, len_of hps], fun i x tt hx htt => ?_, fun v A H5 hv ax am an s5 W => ?_, fun i H5 s5 he => ?_⟩
    · obtain ⟨q, hq, rfl⟩ := get_map hx
      obtain ⟨d, hd', rfl⟩ := get_map htt
      have ed : d = q.2 := by
        rw [← hps, List.getElem?_map, hq] at hd'
        exact (Option.some.inj hd').symm
      rw [ed]
      refine ⟨q.1, rfl, w2 _ _ (w1 _ _ (s4 _ _ (hD q (List.mem_of_getElem? hq)))), oks _ ?_⟩
      rw [← ed]
      exact List.mem_of_getElem? hd'
    case refine_3 =>
      rw [← eL, hv0] at he
      cases he
    rw [← eL, hv0] at hv
    cases hv
    have hP5 := s5 _ _ (w2 _ _ (w1 _ _ (s4 _ _ hP)))
    have hd5 := s5 _ _ (w2 _ _ upd_same)
    have hD5 : DS H5 ps := (((hD.same s4).same w1).same w2).same s5
    have hL5 := s5 _ _ (w2 _ _ (s24 _ _ hL))
    have hR5 : RS H5 rs := ((hR.same s24).same w2).same s5
    have hS5 := (s1.trans ((s24.trans w2).trans s5)).seq hS
    have cl := T.o_Walker.cl
    have O := T.o_Walker
    refine ⟨_, rfl, A.x, A.dx, _, rfl, W.ob, wF_met .., A, rs, R, _, rfl, W, fun p6 H6 hp6 s6 hP6 => ⟨_, rfl, _, rfl, l, f, rs, rfl, SqL.of (s6 _ _ hL5), hR5.same s6, hf, hn, fun q7 H7 hq7 s7 hQ7 => ⟨q7, _, rfl, SqL.of hQ7, fun r8 hr8 => ?_⟩⟩⟩
    have w8 := Same.new (o := .lst ((rowN f (rs.map (·.2))).map fun (s : Nat) => V.int (s : Int)).reverse) hr8
    have s58 := s6.trans (s7.trans w8)
    have dA : Dp K (upd H7 r8 (.lst ((rowN f (rs.map (·.2))).map fun (s : Nat) => V.int (s : Int)).reverse)) (.ref p6) (.list (((rowN f (rs.map (·.2))).reverse).map fun (s : Nat) => PyData.int (s : Int))) := by
      have hP6 : H6 p6 = some (.lst (vsn.map fun (s : Nat) => V.int (s : Int))) := hP6
      rw [hsn] at hP6
      exact .lst (SqL.of (w8 _ _ (s7 _ _ hP6))) (dp_nats _)
    have dB : Dp K (upd H7 r8 (.lst ((rowN f (rs.map (·.2))).map fun (s : Nat) => V.int (s : Int)).reverse)) (.ref r8) (.list (((rowN f (rs.map (·.2))).reverse).map fun (s : Nat) => PyData.int (s : Int))) := by
      refine .lst (SqL.of upd_same) ?_
      rw [← List.map_reverse]
      exact dp_nats _
    refine ⟨_, _, dA, dB, (sh_nats (n := 0) _).shaped (by decide), (sh_nats (n := 0) _).shaped (by decide), _, rfl, ?_⟩
    rw [(sh_nats (n := 0) _).refl]
    refine iteF ?_
    have W8 := W.same s58
    refine ⟨_, rfl, A.x, T.aWalker, A.dx, _, _, rfl, W8.ob, cl, O.nwa, wF_wanted .., ?_⟩
    refine ⟨rfl, _, rfl, iteF ?_⟩
    have hd8 := s58 _ _ hd5
    have hP8 := s58 _ _ hP5
    have hD8 := hD5.same s58
    have shd := deeds_sh ps
    refine ⟨_, rfl, _, rfl, _, _, .lst (SqL.of hd8) (deeds_dp hD8), .lst (SqL.of hP8) (deeds_dp hD8), shd.shaped (by decide), shd.shaped (by decide), _, rfl, ?_⟩
    rw [shd.refl]
    refine iteF ?_
    refine ⟨_, rfl, A.x, T.aWalker, A.dx, _, _, rfl, W8.ob, cl, O.ndn, wF_done .., ?_⟩
    refine ⟨_, rfl, hd, ps, rfl, SqL.of hd8, hD8, by omega, fun H9 s9 => ⟨_, rfl, hd, ps, rfl, SqL.of (s9 _ _ hd8), hD8.same s9, by show 3 ≤ sizeLine; decide, fun tl htl => ?_⟩⟩
    have wA := Same.new (o := .lst [.int (vdn : Int), .int (costD (ps.map (·.2)) : Int), .int (mostD (ps.map (·.2)))]) htl
    have htl0 : (upd H9 tl (.lst [.int (vdn : Int), .int (costD (ps.map (·.2)) : Int), .int (mostD (ps.map (·.2)))])) tl = some (.lst ([(costD (ps.map (·.2)) : Int), (costD (ps.map (·.2)) : Int), mostD (ps.map (·.2))].map V.int)) := by
      rw [upd_same, hdn, hco, hps, Nat.zero_add] <;> rfl
    have sAB := s58.trans (s9.trans wA)
    have hd9 := s9.trans wA _ _ hd8
    have hP9 := s9.trans wA _ _ hP8
    have hD9 := (hD8.same s9).same wA
    have hSA := (s9.trans wA).seq (s58.seq hS5)
    have hLA := s9.trans wA _ _ (s58 _ _ hL5)
    revert htl0 hd9 hP9 hD9 hSA hLA
    generalize upd H9 tl (.lst [.int (vdn : Int), .int (costD (ps.map (·.2)) : Int), .int (mostD (ps.map (·.2)))]) = HA
    intro htl0 hd9 hP9 hD9 hSA hLA
    refine ⟨_, rfl, _, rfl, _, rfl, _, rfl, by show 3 ≤ sizeLine; decide, fun l3 hl3 => ?_⟩
    have wB := Same.new (o := .lst [.int (costD (ps.map (·.2)) : Int), .int (costD (ps.map (·.2)) : Int), .int (mostD (ps.map (·.2)))]) hl3
    refine ⟨.list ([(costD (ps.map (·.2)) : Int), (costD (ps.map (·.2)) : Int), mostD (ps.map (·.2))].map PyData.int), .list ([(costD (ps.map (·.2)) : Int), (costD (ps.map (·.2)) : Int), mostD (ps.map (·.2))].map PyData.int), .lst (SqL.of (wB _ _ htl0)) (dp_ints _), .lst (SqL.of upd_same) (dp_ints [(costD (ps.map (·.2)) : Int), (costD (ps.map (·.2)) : Int), mostD (ps.map (·.2))]), (sh_ints (n := 0) _).shaped (by decide), (sh_ints (n := 0) _).shaped (by decide), _, rfl, ?_⟩
    rw [(sh_ints (n := 0) _).refl]
    refine iteF ?_
    refine ⟨_, rfl, tl, rfl, ⟨_, SqL.of (wB _ _ htl0)⟩, fun D hD' => ?_⟩
    refine lc_list (K := K) (a := tl) (xs := [(costD (ps.map (·.2)) : Int), (costD (ps.map (·.2)) : Int), mostD (ps.map (·.2))].map V.int) (fun j HB => Same HA HB ∧ HB D = some (.lst ((List.replicate j true).map V.bl))) ⟨wB.trans (Same.new hD'), upd_same⟩ (fun j HB _ ⟨sB, _⟩ => SqL.of (sB _ _ htl0)) ?_ ?_
    · rintro j y HB hj ⟨sB, hQ⟩
      obtain ⟨z, hz, rfl⟩ := get_map hj
      have hzl : j < 3 := (List.getElem?_eq_some_iff.mp hz).1
      refine ⟨rfl, ?_⟩
      refine ⟨_, rfl, .int z, some z, rfl, .int z, _, hQ, sz5' (by rw [List.length_map, List.length_replicate]; omega), Same.mut sB (wB.free hD'), ?_⟩
      rw [upd_same, List.replicate_succ', List.map_append] <;> rfl
    rintro HB ⟨sB, hQ⟩
    refine ⟨D, _, rfl, SqL.of hQ, _, rfl, iteF ?_⟩
    have hdB := sB _ _ hd9
    have hPB := sB _ _ hP9
    have hDB := hD9.same sB
    refine ⟨_, rfl, _, rfl, _, _, .lst (SqL.of hdB) (deeds_dp hDB), .lst (SqL.of hPB) (deeds_dp hDB), shd.shaped (by decide), shd.shaped (by decide), _, rfl, ?_⟩
    rw [shd.refl]
    refine iteF ?_
    have hSB := sB.seq hSA
    have hLB := sB _ _ hLA
    have m0 := Int.emod_nonneg (cellAt ns 2) (show (9 : Int) ≠ 0 by decide)
    have m9 := Int.emod_lt_of_pos (cellAt ns 2) (show (0 : Int) < 9 by decide)
    refine ⟨_, rfl, a, ns, 2, rfl, hSB, _, _, rfl, rfl, by show (0 : Int) < 9; decide, _, rfl, by show -2 ^ 62 ≤ cellAt ns 2 % 9; omega, by show cellAt ns 2 % 9 < 2 ^ 62; omega, fun E5 hE => ?_⟩
    refine lc_range (lo := 0) (n := (cellAt ns 2 % 9).toNat) (fun i HC => Same HB HC ∧ ∃ qs : List (Addr × Deed), qs.length = i ∧ HC E5 = some (.lst (refs qs)) ∧ DS HC qs ∧ ∀ q ∈ qs, ∃ m, q.2 = Deed.go m) ⟨Same.new hE, [], rfl, upd_same, fun q hq => (nomatch hq), fun q hq => (nomatch hq)⟩ ?_ ?_
    · rintro i HC hi ⟨sC, qs, hqs, hQ, hDq, hgo⟩
      have ei : (1 : Int) + ((0 : Int) + (i : Int)) = ((1 + i : Nat) : Int) := by omega
      refine ⟨rfl, ?_⟩
      refine ⟨_, rfl, _, _, rfl, rfl, by show 2 ≤ sizeLine; decide, fun t5 ht5 => ?_⟩
      have w5 := Same.new (o := .tup [.str "go", .int ((1 : Int) + ((0 : Int) + (i : Int)))]) ht5
      have hQ5 := w5 _ _ hQ
      refine ⟨_, hQ5, sz5' (by rw [refs_len]; omega), Same.mut (sC.trans w5) hE, qs ++ [(t5, .go (1 + i))], by rw [List.length_append, hqs] <;> rfl, ?_, fun q hq => ?_, fun q hq => ?_⟩
      · rw [upd_same, refs_append] <;> rfl
      · rcases List.mem_append.mp hq with z | z
        · have e := w5 _ _ (hDq q z)
          rw [upd_ne (ne_of e hQ5 (by intro z; cases z))]
          exact e
        · rw [List.mem_singleton.mp z]
          show upd _ E5 _ t5 = some (HO.tup [V.str "go", V.int ((1 + i : Nat) : Int)])
          rw [← ei, upd_ne (ne_of upd_same hQ5 (by intro z; cases z))]
          exact upd_same
      · rcases List.mem_append.mp hq with z | z
        · exact hgo q z
        · rw [List.mem_singleton.mp z]
          exact ⟨_, rfl⟩
    rintro HC ⟨sC, qs, hqs, hQ, hDq, hgo⟩
    have lqs : qs.length ≤ 100 := by omega
    refine ⟨_, rfl, E5, qs, rfl, SqL.of hQ, hDq, by omega, fun HD sD => ⟨_, rfl, E5, qs, rfl, SqL.of (sD _ _ hQ), hDq.same sD, by show 2 ≤ sizeLine; decide, fun l4 hl4 => ?_⟩⟩
    have w4 := Same.new (o := .lst [.int (costD (qs.map (·.2)) : Int), .int (mostD (qs.map (·.2)))]) hl4
    have hmz : mostD (qs.map (·.2)) = 0 := by
      unfold mostD
      rw [most_gos _ fun d hd => ?_]
      obtain ⟨q, hq, rfl⟩ := List.mem_map.mp hd
      exact hgo q hq
    refine ⟨_, rfl, E5, rfl, ⟨_, SqL.of (w4 _ _ (sD _ _ hQ))⟩, fun D2 hD2 => ?_⟩
    have hl4' : (upd HD l4 (.lst [.int (costD (qs.map (·.2)) : Int), .int (mostD (qs.map (·.2)))])) l4 = some (.lst ([(costD (qs.map (·.2)) : Int), 0].map V.int)) := by
      rw [upd_same, hmz] <;> rfl
    have sHD := sC.trans (sD.trans w4)
    have hQD := w4 _ _ (sD _ _ hQ)
    have hDD := (hDq.same sD).same w4
    revert hl4' hD2 sHD hQD hDD
    generalize upd HD l4 (.lst [.int (costD (qs.map (·.2)) : Int), .int (mostD (qs.map (·.2)))]) = HE
    intro hD2 hl4' sHD hQD hDD
    refine lc_list (K := K) (a := E5) (xs := refs qs) (fun i HF => Same HE HF ∧ HF D2 = some (.lst ((goes ((qs.take i).map (·.2))).map V.int))) ⟨Same.new hD2, upd_same⟩ (fun i HF _ ⟨sF, _⟩ => SqL.of (sF _ _ hQD)) ?_ ?_
    · rintro i y HF hi ⟨sF, hF⟩
      obtain ⟨q, hq, rfl⟩ := get_map hi
      obtain ⟨m, hm⟩ := hgo q (List.mem_of_getElem? hq)
      have hqD := hDD q (List.mem_of_getElem? hq)
      rw [hm] at hqD
      have lt : ((goes ((qs.take i).map (·.2))).map V.int).length < sizeLine := sz5' (by
        rw [List.length_map]
        have := goes_len ((qs.take i).map (·.2))
        rw [List.length_map, List.length_take] at this
        omega)
      refine ⟨rfl, ?_⟩
      refine ⟨_, rfl, q.1, (Deed.go m).vs, _, .int (m : Int), rfl, rfl, SqT.of (sF _ _ hqD), rfl, _, hF, lt, Same.mut sF hD2, ?_⟩
      rw [upd_same, take_succ hq, List.map_append]
      show _ = some (HO.lst ((goes ((qs.take i).map (·.2) ++ [q.2])).map V.int))
      rw [goes_snoc, hm, List.map_append] <;> rfl
    rintro HF ⟨sF, hF⟩
    rw [refs_len, List.take_length] at hF
    refine ⟨D2, _, rfl, SqL.of hF, ?_⟩
    refine ⟨by show 2 ≤ sizeLine; decide, fun l5 hl5 => ?_⟩
    have w5 := Same.new (o := .lst [.int (goes (qs.map (·.2))).sum, .int 0]) hl5
    have hl5' : (upd HF l5 (.lst [.int (goes (qs.map (·.2))).sum, .int 0])) l5 = some (.lst ([(costD (qs.map (·.2)) : Int), 0].map V.int)) := by
      rw [upd_same, goes_sum] <;> rfl
    refine ⟨.list ([(costD (qs.map (·.2)) : Int), 0].map PyData.int), .list ([(costD (qs.map (·.2)) : Int), 0].map PyData.int), .lst (SqL.of (w5 _ _ (sF _ _ hl4'))) (dp_ints _), .lst (SqL.of hl5') (dp_ints _), (sh_ints (n := 0) _).shaped (by decide), (sh_ints (n := 0) _).shaped (by decide), _, rfl, ?_⟩
    rw [(sh_ints (n := 0) _).refl]
    refine iteF ?_
    have hLF := w5 _ _ (sF _ _ (sHD _ _ hLB))
    have hn' : (([V.ref l].length : Nat) : Int) = 1 := rfl
    refine ⟨_, rfl, l, _, rfl, .inl (SqL.of hLF), _, rfl, .inl ⟨rs.length, R, by rw [refsR_len] <;> rfl, hn, h1, by omega, ?_⟩⟩
    refine ⟨_, rfl, _, _, rfl, rfl, _, rfl, ?_⟩
    rw [decide_eq_true (show costN rs.length R ≤ (costD (ps.map (·.2)) : Int) by rw [hps]; rw [hco] at hcost; omega)]
    refine iteT ?_
    refine ⟨_, rfl, l, _, rfl, .inl (SqL.of hLF), _, rfl, _, _, rfl, rfl, .inl ⟨rs.length, R + 1, by rw [refsR_len] <;> rfl, hn, by omega, by omega, ?_⟩⟩
    refine ⟨_, rfl, l, _, rfl, .inl (SqL.of hLF), _, rfl, .inl ⟨rs.length, R, by rw [refsR_len] <;> rfl, hn, h1, by omega, ?_⟩⟩
    refine ⟨_, _, rfl, rfl, ?_⟩
    have cr := cost_room (s := rs.length) (r := R) (by omega) h1 (by omega)
    show Q (V.bl (decide (costN rs.length (R + 1) ≤ costN rs.length R))) _
    rw [decide_eq_true cr]
    exact k _

end
theorem all_mk {l : PySem.W.OpenLaw} {w : World} {K : PySem.W.Frag} {h : Heap} {mg : Str → Option Value} {fa : Addr} (X : K.In h) (G : h.Ns mainGlobals mg) (hfa : mg "law" = some (.ref fa))
    {oc_is_among kV_is_among dc_is_among pm_is_among cd_is_among ct_is_among : Value} {od_is_among an_is_among : Option Addr} {sl_is_among : Array (Option Value)} {f_is_among : Addr}
    {oc_is_state kV_is_state dc_is_state pm_is_state cd_is_state ct_is_state : Value} {od_is_state an_is_state : Option Addr} {sl_is_state : Array (Option Value)} {f_is_state : Addr}
    {oc_is_rule kV_is_rule dc_is_rule pm_is_rule cd_is_rule ct_is_rule : Value} {od_is_rule an_is_rule : Option Addr} {sl_is_rule : Array (Option Value)} {f_is_rule : Addr}
    {oc_need_row kV_need_row dc_need_row pm_need_row cd_need_row ct_need_row : Value} {od_need_row an_need_row : Option Addr} {sl_need_row : Array (Option Value)} {f_need_row : Addr}
    {oc_forth kV_forth dc_forth pm_forth cd_forth ct_forth : Value} {od_forth an_forth : Option Addr} {sl_forth : Array (Option Value)} {f_forth : Addr}
    {oc_need_counts kV_need_counts dc_need_counts pm_need_counts cd_need_counts ct_need_counts : Value} {od_need_counts an_need_counts : Option Addr} {sl_need_counts : Array (Option Value)} {f_need_counts : Addr}
    {oc_choices kV_choices dc_choices pm_choices cd_choices ct_choices : Value} {od_choices an_choices : Option Addr} {sl_choices : Array (Option Value)} {f_choices : Addr}
    {oc_ways kV_ways dc_ways pm_ways cd_ways ct_ways : Value} {od_ways an_ways : Option Addr} {sl_ways : Array (Option Value)} {f_ways : Addr}
    {oc_often kV_often dc_often pm_often cd_often ct_often : Value} {od_often an_often : Option Addr} {sl_often : Array (Option Value)} {f_often : Addr}
    {oc_cost kV_cost dc_cost pm_cost cd_cost ct_cost : Value} {od_cost an_cost : Option Addr} {sl_cost : Array (Option Value)} {f_cost : Addr}
    {oc_least kV_least dc_least pm_least cd_least ct_least : Value} {od_least an_least : Option Addr} {sl_least : Array (Option Value)} {f_least : Addr}
    {oc_cost_of kV_cost_of dc_cost_of pm_cost_of cd_cost_of ct_cost_of : Value} {od_cost_of an_cost_of : Option Addr} {sl_cost_of : Array (Option Value)} {f_cost_of : Addr}
    {oc_most_kept kV_most_kept dc_most_kept pm_most_kept cd_most_kept ct_most_kept : Value} {od_most_kept an_most_kept : Option Addr} {sl_most_kept : Array (Option Value)} {f_most_kept : Addr}
    {oc_is_deed kV_is_deed dc_is_deed pm_is_deed cd_is_deed ct_is_deed : Value} {od_is_deed an_is_deed : Option Addr} {sl_is_deed : Array (Option Value)} {f_is_deed : Addr}
    {oc_walked kV_walked dc_walked pm_walked cd_walked ct_walked : Value} {od_walked an_walked : Option Addr} {sl_walked : Array (Option Value)} {f_walked : Addr}
    {oc_l_cell_at kV_l_cell_at dc_l_cell_at pm_l_cell_at cd_l_cell_at ct_l_cell_at : Value} {od_l_cell_at an_l_cell_at : Option Addr} {sl_l_cell_at : Array (Option Value)} {f_l_cell_at : Addr}
    {oc_l_number kV_l_number dc_l_number pm_l_number cd_l_number ct_l_number : Value} {od_l_number an_l_number : Option Addr} {sl_l_number : Array (Option Value)} {f_l_number : Addr}
    {oc_l_whole kV_l_whole dc_l_whole pm_l_whole cd_l_whole ct_l_whole : Value} {od_l_whole an_l_whole : Option Addr} {sl_l_whole : Array (Option Value)} {f_l_whole : Addr}
    {oc_l_rule kV_l_rule dc_l_rule pm_l_rule cd_l_rule ct_l_rule : Value} {od_l_rule an_l_rule : Option Addr} {sl_l_rule : Array (Option Value)} {f_l_rule : Addr}
    {oc_l_forth kV_l_forth dc_l_forth pm_l_forth cd_l_forth ct_l_forth : Value} {od_l_forth an_l_forth : Option Addr} {sl_l_forth : Array (Option Value)} {f_l_forth : Addr}
    {oc_l_row kV_l_row dc_l_row pm_l_row cd_l_row ct_l_row : Value} {od_l_row an_l_row : Option Addr} {sl_l_row : Array (Option Value)} {f_l_row : Addr}
    {oc_l_states kV_l_states dc_l_states pm_l_states cd_l_states ct_l_states : Value} {od_l_states an_l_states : Option Addr} {sl_l_states : Array (Option Value)} {f_l_states : Addr}
    {oc_l_vain kV_l_vain dc_l_vain pm_l_vain cd_l_vain ct_l_vain : Value} {od_l_vain an_l_vain : Option Addr} {sl_l_vain : Array (Option Value)} {f_l_vain : Addr}
    {oc_l_drawn kV_l_drawn dc_l_drawn pm_l_drawn cd_l_drawn ct_l_drawn : Value} {od_l_drawn an_l_drawn : Option Addr} {sl_l_drawn : Array (Option Value)} {f_l_drawn : Addr}
    {oc_l_sums kV_l_sums dc_l_sums pm_l_sums cd_l_sums ct_l_sums : Value} {od_l_sums an_l_sums : Option Addr} {sl_l_sums : Array (Option Value)} {f_l_sums : Addr}
    {oc_law kV_law dc_law pm_law cd_law ct_law : Value} {od_law an_law : Option Addr} {sl_law : Array (Option Value)} {f_law : Addr}
    {oc_Walker_init kV_Walker_init dc_Walker_init pm_Walker_init cd_Walker_init ct_Walker_init : Value} {od_Walker_init an_Walker_init : Option Addr} {sl_Walker_init : Array (Option Value)} {f_Walker_init : Addr}
    {oc_Walker_keep kV_Walker_keep dc_Walker_keep pm_Walker_keep cd_Walker_keep ct_Walker_keep : Value} {od_Walker_keep an_Walker_keep : Option Addr} {sl_Walker_keep : Array (Option Value)} {f_Walker_keep : Addr}
    {oc_Walker_meet kV_Walker_meet dc_Walker_meet pm_Walker_meet cd_Walker_meet ct_Walker_meet : Value} {od_Walker_meet an_Walker_meet : Option Addr} {sl_Walker_meet : Array (Option Value)} {f_Walker_meet : Addr}
    {oc_Walker_go kV_Walker_go dc_Walker_go pm_Walker_go cd_Walker_go ct_Walker_go : Value} {od_Walker_go an_Walker_go : Option Addr} {sl_Walker_go : Array (Option Value)} {f_Walker_go : Addr}
    {oc_Walker_do kV_Walker_do dc_Walker_do pm_Walker_do cd_Walker_do ct_Walker_do : Value} {od_Walker_do an_Walker_do : Option Addr} {sl_Walker_do : Array (Option Value)} {f_Walker_do : Addr}
    {oc_Walker_met kV_Walker_met dc_Walker_met pm_Walker_met cd_Walker_met ct_Walker_met : Value} {od_Walker_met an_Walker_met : Option Addr} {sl_Walker_met : Array (Option Value)} {f_Walker_met : Addr}
    {t_MODULUS : Tok}
    {t_MOST_STEPS : Tok}
    {t_MOST_ROOM : Tok}
    {C_BadCount : Addr}
    {C_BadRule : Addr}
    {C_BadDeed : Addr}
    {C_NotKept : Addr}
    {C_Twice : Addr}
    {C_Full : Addr}
    {C_AtEnd : Addr}
    {C_NotWanted : Addr}
    {C_Walker : Addr}
    (a_is_among : PySem.W.nsIn K mainGlobals "is_among" = some (some (.ref f_is_among)))
    (l_is_among : K.lookup f_is_among = some ⟨oc_is_among, od_is_among, .func (PySem.W.fnOf "is_among" "is_among" (defArgs s_is_among) (defBody s_is_among) (defScope s_is_among) .none kV_is_among dc_is_among pm_is_among an_is_among cd_is_among ct_is_among), sl_is_among⟩)
    (c_is_among : PySem.W.codeIn K cd_is_among "is_among" = true)
    (k_is_among : PySem.W.keepIn K (.ref f_is_among) = true)
    (a_is_state : PySem.W.nsIn K mainGlobals "is_state" = some (some (.ref f_is_state)))
    (l_is_state : K.lookup f_is_state = some ⟨oc_is_state, od_is_state, .func (PySem.W.fnOf "is_state" "is_state" (defArgs s_is_state) (defBody s_is_state) (defScope s_is_state) .none kV_is_state dc_is_state pm_is_state an_is_state cd_is_state ct_is_state), sl_is_state⟩)
    (c_is_state : PySem.W.codeIn K cd_is_state "is_state" = true)
    (k_is_state : PySem.W.keepIn K (.ref f_is_state) = true)
    (a_is_rule : PySem.W.nsIn K mainGlobals "is_rule" = some (some (.ref f_is_rule)))
    (l_is_rule : K.lookup f_is_rule = some ⟨oc_is_rule, od_is_rule, .func (PySem.W.fnOf "is_rule" "is_rule" (defArgs s_is_rule) (defBody s_is_rule) (defScope s_is_rule) .none kV_is_rule dc_is_rule pm_is_rule an_is_rule cd_is_rule ct_is_rule), sl_is_rule⟩)
    (c_is_rule : PySem.W.codeIn K cd_is_rule "is_rule" = true)
    (k_is_rule : PySem.W.keepIn K (.ref f_is_rule) = true)
    (a_need_row : PySem.W.nsIn K mainGlobals "need_row" = some (some (.ref f_need_row)))
    (l_need_row : K.lookup f_need_row = some ⟨oc_need_row, od_need_row, .func (PySem.W.fnOf "need_row" "need_row" (defArgs s_need_row) (defBody s_need_row) (defScope s_need_row) .none kV_need_row dc_need_row pm_need_row an_need_row cd_need_row ct_need_row), sl_need_row⟩)
    (c_need_row : PySem.W.codeIn K cd_need_row "need_row" = true)
    (k_need_row : PySem.W.keepIn K (.ref f_need_row) = true)
    (a_forth : PySem.W.nsIn K mainGlobals "forth" = some (some (.ref f_forth)))
    (l_forth : K.lookup f_forth = some ⟨oc_forth, od_forth, .func (PySem.W.fnOf "forth" "forth" (defArgs s_forth) (defBody s_forth) (defScope s_forth) .none kV_forth dc_forth pm_forth an_forth cd_forth ct_forth), sl_forth⟩)
    (c_forth : PySem.W.codeIn K cd_forth "forth" = true)
    (k_forth : PySem.W.keepIn K (.ref f_forth) = true)
    (a_need_counts : PySem.W.nsIn K mainGlobals "need_counts" = some (some (.ref f_need_counts)))
    (l_need_counts : K.lookup f_need_counts = some ⟨oc_need_counts, od_need_counts, .func (PySem.W.fnOf "need_counts" "need_counts" (defArgs s_need_counts) (defBody s_need_counts) (defScope s_need_counts) .none kV_need_counts dc_need_counts pm_need_counts an_need_counts cd_need_counts ct_need_counts), sl_need_counts⟩)
    (c_need_counts : PySem.W.codeIn K cd_need_counts "need_counts" = true)
    (k_need_counts : PySem.W.keepIn K (.ref f_need_counts) = true)
    (a_choices : PySem.W.nsIn K mainGlobals "choices" = some (some (.ref f_choices)))
    (l_choices : K.lookup f_choices = some ⟨oc_choices, od_choices, .func (PySem.W.fnOf "choices" "choices" (defArgs s_choices) (defBody s_choices) (defScope s_choices) .none kV_choices dc_choices pm_choices an_choices cd_choices ct_choices), sl_choices⟩)
    (c_choices : PySem.W.codeIn K cd_choices "choices" = true)
    (k_choices : PySem.W.keepIn K (.ref f_choices) = true)
    (a_ways : PySem.W.nsIn K mainGlobals "ways" = some (some (.ref f_ways)))
    (l_ways : K.lookup f_ways = some ⟨oc_ways, od_ways, .func (PySem.W.fnOf "ways" "ways" (defArgs s_ways) (defBody s_ways) (defScope s_ways) .none kV_ways dc_ways pm_ways an_ways cd_ways ct_ways), sl_ways⟩)
    (c_ways : PySem.W.codeIn K cd_ways "ways" = true)
    (k_ways : PySem.W.keepIn K (.ref f_ways) = true)
    (a_often : PySem.W.nsIn K mainGlobals "often" = some (some (.ref f_often)))
    (l_often : K.lookup f_often = some ⟨oc_often, od_often, .func (PySem.W.fnOf "often" "often" (defArgs s_often) (defBody s_often) (defScope s_often) .none kV_often dc_often pm_often an_often cd_often ct_often), sl_often⟩)
    (c_often : PySem.W.codeIn K cd_often "often" = true)
    (k_often : PySem.W.keepIn K (.ref f_often) = true)
    (a_cost : PySem.W.nsIn K mainGlobals "cost" = some (some (.ref f_cost)))
    (l_cost : K.lookup f_cost = some ⟨oc_cost, od_cost, .func (PySem.W.fnOf "cost" "cost" (defArgs s_cost) (defBody s_cost) (defScope s_cost) .none kV_cost dc_cost pm_cost an_cost cd_cost ct_cost), sl_cost⟩)
    (c_cost : PySem.W.codeIn K cd_cost "cost" = true)
    (k_cost : PySem.W.keepIn K (.ref f_cost) = true)
    (a_least : PySem.W.nsIn K mainGlobals "least" = some (some (.ref f_least)))
    (l_least : K.lookup f_least = some ⟨oc_least, od_least, .func (PySem.W.fnOf "least" "least" (defArgs s_least) (defBody s_least) (defScope s_least) .none kV_least dc_least pm_least an_least cd_least ct_least), sl_least⟩)
    (c_least : PySem.W.codeIn K cd_least "least" = true)
    (k_least : PySem.W.keepIn K (.ref f_least) = true)
    (a_cost_of : PySem.W.nsIn K mainGlobals "cost_of" = some (some (.ref f_cost_of)))
    (l_cost_of : K.lookup f_cost_of = some ⟨oc_cost_of, od_cost_of, .func (PySem.W.fnOf "cost_of" "cost_of" (defArgs s_cost_of) (defBody s_cost_of) (defScope s_cost_of) .none kV_cost_of dc_cost_of pm_cost_of an_cost_of cd_cost_of ct_cost_of), sl_cost_of⟩)
    (c_cost_of : PySem.W.codeIn K cd_cost_of "cost_of" = true)
    (k_cost_of : PySem.W.keepIn K (.ref f_cost_of) = true)
    (a_most_kept : PySem.W.nsIn K mainGlobals "most_kept" = some (some (.ref f_most_kept)))
    (l_most_kept : K.lookup f_most_kept = some ⟨oc_most_kept, od_most_kept, .func (PySem.W.fnOf "most_kept" "most_kept" (defArgs s_most_kept) (defBody s_most_kept) (defScope s_most_kept) .none kV_most_kept dc_most_kept pm_most_kept an_most_kept cd_most_kept ct_most_kept), sl_most_kept⟩)
    (c_most_kept : PySem.W.codeIn K cd_most_kept "most_kept" = true)
    (k_most_kept : PySem.W.keepIn K (.ref f_most_kept) = true)
    (a_is_deed : PySem.W.nsIn K mainGlobals "is_deed" = some (some (.ref f_is_deed)))
    (l_is_deed : K.lookup f_is_deed = some ⟨oc_is_deed, od_is_deed, .func (PySem.W.fnOf "is_deed" "is_deed" (defArgs s_is_deed) (defBody s_is_deed) (defScope s_is_deed) .none kV_is_deed dc_is_deed pm_is_deed an_is_deed cd_is_deed ct_is_deed), sl_is_deed⟩)
    (c_is_deed : PySem.W.codeIn K cd_is_deed "is_deed" = true)
    (k_is_deed : PySem.W.keepIn K (.ref f_is_deed) = true)
    (a_walked : PySem.W.nsIn K mainGlobals "walked" = some (some (.ref f_walked)))
    (l_walked : K.lookup f_walked = some ⟨oc_walked, od_walked, .func (PySem.W.fnOf "walked" "walked" (defArgs s_walked) (defBody s_walked) (defScope s_walked) .none kV_walked dc_walked pm_walked an_walked cd_walked ct_walked), sl_walked⟩)
    (c_walked : PySem.W.codeIn K cd_walked "walked" = true)
    (k_walked : PySem.W.keepIn K (.ref f_walked) = true)
    (a_l_cell_at : PySem.W.nsIn K mainGlobals "_law_cell_at" = some (some (.ref f_l_cell_at)))
    (l_l_cell_at : K.lookup f_l_cell_at = some ⟨oc_l_cell_at, od_l_cell_at, .func (PySem.W.fnOf "_law_cell_at" "_law_cell_at" (defArgs s_l_cell_at) (defBody s_l_cell_at) (defScope s_l_cell_at) .none kV_l_cell_at dc_l_cell_at pm_l_cell_at an_l_cell_at cd_l_cell_at ct_l_cell_at), sl_l_cell_at⟩)
    (c_l_cell_at : PySem.W.codeIn K cd_l_cell_at "_law_cell_at" = true)
    (k_l_cell_at : PySem.W.keepIn K (.ref f_l_cell_at) = true)
    (a_l_number : PySem.W.nsIn K mainGlobals "_law_number" = some (some (.ref f_l_number)))
    (l_l_number : K.lookup f_l_number = some ⟨oc_l_number, od_l_number, .func (PySem.W.fnOf "_law_number" "_law_number" (defArgs s_l_number) (defBody s_l_number) (defScope s_l_number) .none kV_l_number dc_l_number pm_l_number an_l_number cd_l_number ct_l_number), sl_l_number⟩)
    (c_l_number : PySem.W.codeIn K cd_l_number "_law_number" = true)
    (k_l_number : PySem.W.keepIn K (.ref f_l_number) = true)
    (a_l_whole : PySem.W.nsIn K mainGlobals "_law_whole" = some (some (.ref f_l_whole)))
    (l_l_whole : K.lookup f_l_whole = some ⟨oc_l_whole, od_l_whole, .func (PySem.W.fnOf "_law_whole" "_law_whole" (defArgs s_l_whole) (defBody s_l_whole) (defScope s_l_whole) .none kV_l_whole dc_l_whole pm_l_whole an_l_whole cd_l_whole ct_l_whole), sl_l_whole⟩)
    (c_l_whole : PySem.W.codeIn K cd_l_whole "_law_whole" = true)
    (k_l_whole : PySem.W.keepIn K (.ref f_l_whole) = true)
    (a_l_rule : PySem.W.nsIn K mainGlobals "_law_rule" = some (some (.ref f_l_rule)))
    (l_l_rule : K.lookup f_l_rule = some ⟨oc_l_rule, od_l_rule, .func (PySem.W.fnOf "_law_rule" "_law_rule" (defArgs s_l_rule) (defBody s_l_rule) (defScope s_l_rule) .none kV_l_rule dc_l_rule pm_l_rule an_l_rule cd_l_rule ct_l_rule), sl_l_rule⟩)
    (c_l_rule : PySem.W.codeIn K cd_l_rule "_law_rule" = true)
    (k_l_rule : PySem.W.keepIn K (.ref f_l_rule) = true)
    (a_l_forth : PySem.W.nsIn K mainGlobals "_law_forth" = some (some (.ref f_l_forth)))
    (l_l_forth : K.lookup f_l_forth = some ⟨oc_l_forth, od_l_forth, .func (PySem.W.fnOf "_law_forth" "_law_forth" (defArgs s_l_forth) (defBody s_l_forth) (defScope s_l_forth) .none kV_l_forth dc_l_forth pm_l_forth an_l_forth cd_l_forth ct_l_forth), sl_l_forth⟩)
    (c_l_forth : PySem.W.codeIn K cd_l_forth "_law_forth" = true)
    (k_l_forth : PySem.W.keepIn K (.ref f_l_forth) = true)
    (a_l_row : PySem.W.nsIn K mainGlobals "_law_row" = some (some (.ref f_l_row)))
    (l_l_row : K.lookup f_l_row = some ⟨oc_l_row, od_l_row, .func (PySem.W.fnOf "_law_row" "_law_row" (defArgs s_l_row) (defBody s_l_row) (defScope s_l_row) .none kV_l_row dc_l_row pm_l_row an_l_row cd_l_row ct_l_row), sl_l_row⟩)
    (c_l_row : PySem.W.codeIn K cd_l_row "_law_row" = true)
    (k_l_row : PySem.W.keepIn K (.ref f_l_row) = true)
    (a_l_states : PySem.W.nsIn K mainGlobals "_law_states" = some (some (.ref f_l_states)))
    (l_l_states : K.lookup f_l_states = some ⟨oc_l_states, od_l_states, .func (PySem.W.fnOf "_law_states" "_law_states" (defArgs s_l_states) (defBody s_l_states) (defScope s_l_states) .none kV_l_states dc_l_states pm_l_states an_l_states cd_l_states ct_l_states), sl_l_states⟩)
    (c_l_states : PySem.W.codeIn K cd_l_states "_law_states" = true)
    (k_l_states : PySem.W.keepIn K (.ref f_l_states) = true)
    (a_l_vain : PySem.W.nsIn K mainGlobals "_law_vain" = some (some (.ref f_l_vain)))
    (l_l_vain : K.lookup f_l_vain = some ⟨oc_l_vain, od_l_vain, .func (PySem.W.fnOf "_law_vain" "_law_vain" (defArgs s_l_vain) (defBody s_l_vain) (defScope s_l_vain) .none kV_l_vain dc_l_vain pm_l_vain an_l_vain cd_l_vain ct_l_vain), sl_l_vain⟩)
    (c_l_vain : PySem.W.codeIn K cd_l_vain "_law_vain" = true)
    (k_l_vain : PySem.W.keepIn K (.ref f_l_vain) = true)
    (a_l_drawn : PySem.W.nsIn K mainGlobals "_law_drawn" = some (some (.ref f_l_drawn)))
    (l_l_drawn : K.lookup f_l_drawn = some ⟨oc_l_drawn, od_l_drawn, .func (PySem.W.fnOf "_law_drawn" "_law_drawn" (defArgs s_l_drawn) (defBody s_l_drawn) (defScope s_l_drawn) .none kV_l_drawn dc_l_drawn pm_l_drawn an_l_drawn cd_l_drawn ct_l_drawn), sl_l_drawn⟩)
    (c_l_drawn : PySem.W.codeIn K cd_l_drawn "_law_drawn" = true)
    (k_l_drawn : PySem.W.keepIn K (.ref f_l_drawn) = true)
    (a_l_sums : PySem.W.nsIn K mainGlobals "_law_sums" = some (some (.ref f_l_sums)))
    (l_l_sums : K.lookup f_l_sums = some ⟨oc_l_sums, od_l_sums, .func (PySem.W.fnOf "_law_sums" "_law_sums" (defArgs s_l_sums) (defBody s_l_sums) (defScope s_l_sums) .none kV_l_sums dc_l_sums pm_l_sums an_l_sums cd_l_sums ct_l_sums), sl_l_sums⟩)
    (c_l_sums : PySem.W.codeIn K cd_l_sums "_law_sums" = true)
    (k_l_sums : PySem.W.keepIn K (.ref f_l_sums) = true)
    (a_law : PySem.W.nsIn K mainGlobals "law" = some (some (.ref f_law)))
    (l_law : K.lookup f_law = some ⟨oc_law, od_law, .func (PySem.W.fnOf "law" "law" (defArgs s_law) (defBody s_law) (defScope s_law) .none kV_law dc_law pm_law an_law cd_law ct_law), sl_law⟩)
    (c_law : PySem.W.codeIn K cd_law "law" = true)
    (k_law : PySem.W.keepIn K (.ref f_law) = true)
    (aCWalker : PySem.W.nsIn K mainGlobals "Walker" = some (some (.ref C_Walker)))
    (pgWalker : PySem.W.plainGet K C_Walker Str.empty = true) (hdWalker : PySem.W.hasDictIn K C_Walker = true) (poWalker : PySem.W.plainOver K C_Walker = true) (saWalker : PySem.W.findIn K (.ref C_Walker) "__setattr__" = some (some (.builtin "object.__setattr__"))) (mkWalker : PySem.W.makesIn K C_Walker = true) (kcWalker : PySem.W.keepIn K (.ref C_Walker) = true)
    (nfrules : PySem.W.findIn K (.ref C_Walker) "rules" = some none)
    (nfroom : PySem.W.findIn K (.ref C_Walker) "room" = some none)
    (nfplace : PySem.W.findIn K (.ref C_Walker) "place" = some none)
    (nfstate : PySem.W.findIn K (.ref C_Walker) "state" = some none)
    (nfdone : PySem.W.findIn K (.ref C_Walker) "done" = some none)
    (nfwanted : PySem.W.findIn K (.ref C_Walker) "wanted" = some none)
    (nfmarks : PySem.W.findIn K (.ref C_Walker) "marks" = some none)
    (nfseen : PySem.W.findIn K (.ref C_Walker) "seen" = some none)
    (a_Walker_init : PySem.W.findIn K (.ref C_Walker) "__init__" = some (some (.ref f_Walker_init)))
    (i_Walker_init : PySem.W.isFn K (.ref f_Walker_init) = true)
    (l_Walker_init : K.lookup f_Walker_init = some ⟨oc_Walker_init, od_Walker_init, .func (PySem.W.fnOf "__init__" "Walker.__init__" (defArgs s_Walker_init) (defBody s_Walker_init) (defScope s_Walker_init) .none kV_Walker_init dc_Walker_init pm_Walker_init an_Walker_init cd_Walker_init ct_Walker_init), sl_Walker_init⟩)
    (c_Walker_init : PySem.W.codeIn K cd_Walker_init "Walker.__init__" = true)
    (k_Walker_init : PySem.W.keepIn K (.ref f_Walker_init) = true)
    (a_Walker_keep : PySem.W.findIn K (.ref C_Walker) "keep" = some (some (.ref f_Walker_keep)))
    (i_Walker_keep : PySem.W.isFn K (.ref f_Walker_keep) = true)
    (l_Walker_keep : K.lookup f_Walker_keep = some ⟨oc_Walker_keep, od_Walker_keep, .func (PySem.W.fnOf "keep" "Walker.keep" (defArgs s_Walker_keep) (defBody s_Walker_keep) (defScope s_Walker_keep) .none kV_Walker_keep dc_Walker_keep pm_Walker_keep an_Walker_keep cd_Walker_keep ct_Walker_keep), sl_Walker_keep⟩)
    (c_Walker_keep : PySem.W.codeIn K cd_Walker_keep "Walker.keep" = true)
    (k_Walker_keep : PySem.W.keepIn K (.ref f_Walker_keep) = true)
    (a_Walker_meet : PySem.W.findIn K (.ref C_Walker) "meet" = some (some (.ref f_Walker_meet)))
    (i_Walker_meet : PySem.W.isFn K (.ref f_Walker_meet) = true)
    (l_Walker_meet : K.lookup f_Walker_meet = some ⟨oc_Walker_meet, od_Walker_meet, .func (PySem.W.fnOf "meet" "Walker.meet" (defArgs s_Walker_meet) (defBody s_Walker_meet) (defScope s_Walker_meet) .none kV_Walker_meet dc_Walker_meet pm_Walker_meet an_Walker_meet cd_Walker_meet ct_Walker_meet), sl_Walker_meet⟩)
    (c_Walker_meet : PySem.W.codeIn K cd_Walker_meet "Walker.meet" = true)
    (k_Walker_meet : PySem.W.keepIn K (.ref f_Walker_meet) = true)
    (a_Walker_go : PySem.W.findIn K (.ref C_Walker) "go" = some (some (.ref f_Walker_go)))
    (i_Walker_go : PySem.W.isFn K (.ref f_Walker_go) = true)
    (l_Walker_go : K.lookup f_Walker_go = some ⟨oc_Walker_go, od_Walker_go, .func (PySem.W.fnOf "go" "Walker.go" (defArgs s_Walker_go) (defBody s_Walker_go) (defScope s_Walker_go) .none kV_Walker_go dc_Walker_go pm_Walker_go an_Walker_go cd_Walker_go ct_Walker_go), sl_Walker_go⟩)
    (c_Walker_go : PySem.W.codeIn K cd_Walker_go "Walker.go" = true)
    (k_Walker_go : PySem.W.keepIn K (.ref f_Walker_go) = true)
    (a_Walker_do : PySem.W.findIn K (.ref C_Walker) "do" = some (some (.ref f_Walker_do)))
    (i_Walker_do : PySem.W.isFn K (.ref f_Walker_do) = true)
    (l_Walker_do : K.lookup f_Walker_do = some ⟨oc_Walker_do, od_Walker_do, .func (PySem.W.fnOf "do" "Walker.do" (defArgs s_Walker_do) (defBody s_Walker_do) (defScope s_Walker_do) .none kV_Walker_do dc_Walker_do pm_Walker_do an_Walker_do cd_Walker_do ct_Walker_do), sl_Walker_do⟩)
    (c_Walker_do : PySem.W.codeIn K cd_Walker_do "Walker.do" = true)
    (k_Walker_do : PySem.W.keepIn K (.ref f_Walker_do) = true)
    (a_Walker_met : PySem.W.findIn K (.ref C_Walker) "met" = some (some (.ref f_Walker_met)))
    (i_Walker_met : PySem.W.isFn K (.ref f_Walker_met) = true)
    (l_Walker_met : K.lookup f_Walker_met = some ⟨oc_Walker_met, od_Walker_met, .func (PySem.W.fnOf "met" "Walker.met" (defArgs s_Walker_met) (defBody s_Walker_met) (defScope s_Walker_met) .none kV_Walker_met dc_Walker_met pm_Walker_met an_Walker_met cd_Walker_met ct_Walker_met), sl_Walker_met⟩)
    (c_Walker_met : PySem.W.codeIn K cd_Walker_met "Walker.met" = true)
    (k_Walker_met : PySem.W.keepIn K (.ref f_Walker_met) = true)
    (v_MODULUS : PySem.W.nsIn K mainGlobals "MODULUS" = some (some (.int 999983 t_MODULUS)))
    (v_MOST_STEPS : PySem.W.nsIn K mainGlobals "MOST_STEPS" = some (some (.int 100 t_MOST_STEPS)))
    (v_MOST_ROOM : PySem.W.nsIn K mainGlobals "MOST_ROOM" = some (some (.int 12 t_MOST_ROOM)))
    (z_isinstance : PySem.W.nsIn K mainGlobals "isinstance" = some none)
    (z_bool : PySem.W.nsIn K mainGlobals "bool" = some none)
    (z_int : PySem.W.nsIn K mainGlobals "int" = some none)
    (z_str : PySem.W.nsIn K mainGlobals "str" = some none)
    (z_len : PySem.W.nsIn K mainGlobals "len" = some none)
    (z_tuple : PySem.W.nsIn K mainGlobals "tuple" = some none)
    (z_list : PySem.W.nsIn K mainGlobals "list" = some none)
    (z_range : PySem.W.nsIn K mainGlobals "range" = some none)
    (z_sum : PySem.W.nsIn K mainGlobals "sum" = some none)
    (z_max : PySem.W.nsIn K mainGlobals "max" = some none)
    (z_reversed : PySem.W.nsIn K mainGlobals "reversed" = some none)
    (z_all : PySem.W.nsIn K mainGlobals "all" = some none)
    (gBadCount : PySem.W.nsIn K mainGlobals "BadCount" = some (some (.ref C_BadCount)))
    (xBadCount : PySem.W.excIn K C_BadCount [.type "ValueError", .type "Exception", .type "BaseException", .type "object"] "ValueError.__new__" = true)
    (kBadCount : PySem.W.keepIn K (.ref C_BadCount) = true) (bBadCount : PySem.W.subIn K (.ref C_BadCount) (.type "BaseException") = some true) (tBadCount : PySem.W.typeIn K (.ref C_BadCount) = some (.type "type"))
    (gBadRule : PySem.W.nsIn K mainGlobals "BadRule" = some (some (.ref C_BadRule)))
    (xBadRule : PySem.W.excIn K C_BadRule [.type "ValueError", .type "Exception", .type "BaseException", .type "object"] "ValueError.__new__" = true)
    (kBadRule : PySem.W.keepIn K (.ref C_BadRule) = true) (bBadRule : PySem.W.subIn K (.ref C_BadRule) (.type "BaseException") = some true) (tBadRule : PySem.W.typeIn K (.ref C_BadRule) = some (.type "type"))
    (gBadDeed : PySem.W.nsIn K mainGlobals "BadDeed" = some (some (.ref C_BadDeed)))
    (xBadDeed : PySem.W.excIn K C_BadDeed [.type "ValueError", .type "Exception", .type "BaseException", .type "object"] "ValueError.__new__" = true)
    (kBadDeed : PySem.W.keepIn K (.ref C_BadDeed) = true) (bBadDeed : PySem.W.subIn K (.ref C_BadDeed) (.type "BaseException") = some true) (tBadDeed : PySem.W.typeIn K (.ref C_BadDeed) = some (.type "type"))
    (gNotKept : PySem.W.nsIn K mainGlobals "NotKept" = some (some (.ref C_NotKept)))
    (xNotKept : PySem.W.excIn K C_NotKept [.type "ValueError", .type "Exception", .type "BaseException", .type "object"] "ValueError.__new__" = true)
    (kNotKept : PySem.W.keepIn K (.ref C_NotKept) = true) (bNotKept : PySem.W.subIn K (.ref C_NotKept) (.type "BaseException") = some true) (tNotKept : PySem.W.typeIn K (.ref C_NotKept) = some (.type "type"))
    (gTwice : PySem.W.nsIn K mainGlobals "Twice" = some (some (.ref C_Twice)))
    (xTwice : PySem.W.excIn K C_Twice [.type "ValueError", .type "Exception", .type "BaseException", .type "object"] "ValueError.__new__" = true)
    (kTwice : PySem.W.keepIn K (.ref C_Twice) = true) (bTwice : PySem.W.subIn K (.ref C_Twice) (.type "BaseException") = some true) (tTwice : PySem.W.typeIn K (.ref C_Twice) = some (.type "type"))
    (gFull : PySem.W.nsIn K mainGlobals "Full" = some (some (.ref C_Full)))
    (xFull : PySem.W.excIn K C_Full [.type "ValueError", .type "Exception", .type "BaseException", .type "object"] "ValueError.__new__" = true)
    (kFull : PySem.W.keepIn K (.ref C_Full) = true) (bFull : PySem.W.subIn K (.ref C_Full) (.type "BaseException") = some true) (tFull : PySem.W.typeIn K (.ref C_Full) = some (.type "type"))
    (gAtEnd : PySem.W.nsIn K mainGlobals "AtEnd" = some (some (.ref C_AtEnd)))
    (xAtEnd : PySem.W.excIn K C_AtEnd [.type "ValueError", .type "Exception", .type "BaseException", .type "object"] "ValueError.__new__" = true)
    (kAtEnd : PySem.W.keepIn K (.ref C_AtEnd) = true) (bAtEnd : PySem.W.subIn K (.ref C_AtEnd) (.type "BaseException") = some true) (tAtEnd : PySem.W.typeIn K (.ref C_AtEnd) = some (.type "type"))
    (gNotWanted : PySem.W.nsIn K mainGlobals "NotWanted" = some (some (.ref C_NotWanted)))
    (xNotWanted : PySem.W.excIn K C_NotWanted [.type "ValueError", .type "Exception", .type "BaseException", .type "object"] "ValueError.__new__" = true)
    (kNotWanted : PySem.W.keepIn K (.ref C_NotWanted) = true) (bNotWanted : PySem.W.subIn K (.ref C_NotWanted) (.type "BaseException") = some true) (tNotWanted : PySem.W.typeIn K (.ref C_NotWanted) = some (.type "type")) :
    ∃ fd : FuncData, (∀ (s : Shared) (v : Value), BindsTo s fd ⟨[v], []⟩ [("_law_script", v)]) ∧ ∀ base : Heap, K.In base → base.Ns mainGlobals mg → FnOk l.prog w K mg base (L2.CX l.prog w) 8 fa fd ["_law_script"] (sp_law K) := by
  have e := hfa.symm.trans (PySem.W.mg_of X G a_law)
  cases e
  have T : Txt K mg := {
    d_is_among := ⟨_, _, PySem.W.mg_of X G a_is_among, fun_mk (st := s_is_among) l_is_among c_is_among k_is_among, (fun_mk (st := s_is_among) l_is_among c_is_among k_is_among).binds (ps := ["thing", "low", "high"]) fun _ _ _ _ _ _ us hl => match us, hl with | [_, _, _], _ => rfl⟩,
    d_is_state := ⟨_, _, PySem.W.mg_of X G a_is_state, fun_mk (st := s_is_state) l_is_state c_is_state k_is_state, (fun_mk (st := s_is_state) l_is_state c_is_state k_is_state).binds (ps := ["thing"]) fun _ _ _ _ _ _ us hl => match us, hl with | [_], _ => rfl⟩,
    d_is_rule := ⟨_, _, PySem.W.mg_of X G a_is_rule, fun_mk (st := s_is_rule) l_is_rule c_is_rule k_is_rule, (fun_mk (st := s_is_rule) l_is_rule c_is_rule k_is_rule).binds (ps := ["thing"]) fun _ _ _ _ _ _ us hl => match us, hl with | [_], _ => rfl⟩,
    d_need_row := ⟨_, _, PySem.W.mg_of X G a_need_row, fun_mk (st := s_need_row) l_need_row c_need_row k_need_row, (fun_mk (st := s_need_row) l_need_row c_need_row k_need_row).binds (ps := ["first", "rules"]) fun _ _ _ _ _ _ us hl => match us, hl with | [_, _], _ => rfl⟩,
    d_forth := ⟨_, _, PySem.W.mg_of X G a_forth, fun_mk (st := s_forth) l_forth c_forth k_forth, (fun_mk (st := s_forth) l_forth c_forth k_forth).binds (ps := ["rule", "state"]) fun _ _ _ _ _ _ us hl => match us, hl with | [_, _], _ => rfl⟩,
    d_need_counts := ⟨_, _, PySem.W.mg_of X G a_need_counts, fun_mk (st := s_need_counts) l_need_counts c_need_counts k_need_counts, (fun_mk (st := s_need_counts) l_need_counts c_need_counts k_need_counts).binds (ps := ["steps", "room"]) fun _ _ _ _ _ _ us hl => match us, hl with | [_, _], _ => rfl⟩,
    d_choices := ⟨_, _, PySem.W.mg_of X G a_choices, fun_mk (st := s_choices) l_choices c_choices k_choices, (fun_mk (st := s_choices) l_choices c_choices k_choices).binds (ps := ["many", "chosen"]) fun _ _ _ _ _ _ us hl => match us, hl with | [_, _], _ => rfl⟩,
    d_ways := ⟨_, _, PySem.W.mg_of X G a_ways, fun_mk (st := s_ways) l_ways c_ways k_ways, (fun_mk (st := s_ways) l_ways c_ways k_ways).binds (ps := ["room", "times"]) fun _ _ _ _ _ _ us hl => match us, hl with | [_, _], _ => rfl⟩,
    d_often := ⟨_, _, PySem.W.mg_of X G a_often, fun_mk (st := s_often) l_often c_often k_often, (fun_mk (st := s_often) l_often c_often k_often).binds (ps := ["steps", "room"]) fun _ _ _ _ _ _ us hl => match us, hl with | [_, _], _ => rfl⟩,
    d_cost := ⟨_, _, PySem.W.mg_of X G a_cost, fun_mk (st := s_cost) l_cost c_cost k_cost, (fun_mk (st := s_cost) l_cost c_cost k_cost).binds (ps := ["steps", "room"]) fun _ _ _ _ _ _ us hl => match us, hl with | [_, _], _ => rfl⟩,
    d_least := ⟨_, _, PySem.W.mg_of X G a_least, fun_mk (st := s_least) l_least c_least k_least, (fun_mk (st := s_least) l_least c_least k_least).binds (ps := ["steps", "room"]) fun _ _ _ _ _ _ us hl => match us, hl with | [_, _], _ => rfl⟩,
    d_cost_of := ⟨_, _, PySem.W.mg_of X G a_cost_of, fun_mk (st := s_cost_of) l_cost_of c_cost_of k_cost_of, (fun_mk (st := s_cost_of) l_cost_of c_cost_of k_cost_of).binds (ps := ["deeds"]) fun _ _ _ _ _ _ us hl => match us, hl with | [_], _ => rfl⟩,
    d_most_kept := ⟨_, _, PySem.W.mg_of X G a_most_kept, fun_mk (st := s_most_kept) l_most_kept c_most_kept k_most_kept, (fun_mk (st := s_most_kept) l_most_kept c_most_kept k_most_kept).binds (ps := ["deeds"]) fun _ _ _ _ _ _ us hl => match us, hl with | [_], _ => rfl⟩,
    d_is_deed := ⟨_, _, PySem.W.mg_of X G a_is_deed, fun_mk (st := s_is_deed) l_is_deed c_is_deed k_is_deed, (fun_mk (st := s_is_deed) l_is_deed c_is_deed k_is_deed).binds (ps := ["thing"]) fun _ _ _ _ _ _ us hl => match us, hl with | [_], _ => rfl⟩,
    d_walked := ⟨_, _, PySem.W.mg_of X G a_walked, fun_mk (st := s_walked) l_walked c_walked k_walked, (fun_mk (st := s_walked) l_walked c_walked k_walked).binds (ps := ["first", "rules", "room", "deeds"]) fun _ _ _ _ _ _ us hl => match us, hl with | [_, _, _, _], _ => rfl⟩,
    d_l_cell_at := ⟨_, _, PySem.W.mg_of X G a_l_cell_at, fun_mk (st := s_l_cell_at) l_l_cell_at c_l_cell_at k_l_cell_at, (fun_mk (st := s_l_cell_at) l_l_cell_at c_l_cell_at k_l_cell_at).binds (ps := ["_law_script", "_law_k"]) fun _ _ _ _ _ _ us hl => match us, hl with | [_, _], _ => rfl⟩,
    d_l_number := ⟨_, _, PySem.W.mg_of X G a_l_number, fun_mk (st := s_l_number) l_l_number c_l_number k_l_number, (fun_mk (st := s_l_number) l_l_number c_l_number k_l_number).binds (ps := ["_law_script", "_law_k"]) fun _ _ _ _ _ _ us hl => match us, hl with | [_, _], _ => rfl⟩,
    d_l_whole := ⟨_, _, PySem.W.mg_of X G a_l_whole, fun_mk (st := s_l_whole) l_l_whole c_l_whole k_l_whole, (fun_mk (st := s_l_whole) l_l_whole c_l_whole k_l_whole).binds (ps := ["_law_found"]) fun _ _ _ _ _ _ us hl => match us, hl with | [_], _ => rfl⟩,
    d_l_rule := ⟨_, _, PySem.W.mg_of X G a_l_rule, fun_mk (st := s_l_rule) l_l_rule c_l_rule k_l_rule, (fun_mk (st := s_l_rule) l_l_rule c_l_rule k_l_rule).binds (ps := ["_law_number_here"]) fun _ _ _ _ _ _ us hl => match us, hl with | [_], _ => rfl⟩,
    d_l_forth := ⟨_, _, PySem.W.mg_of X G a_l_forth, fun_mk (st := s_l_forth) l_l_forth c_l_forth k_l_forth, (fun_mk (st := s_l_forth) l_l_forth c_l_forth k_l_forth).binds (ps := ["_law_rule_here", "_law_state"]) fun _ _ _ _ _ _ us hl => match us, hl with | [_, _], _ => rfl⟩,
    d_l_row := ⟨_, _, PySem.W.mg_of X G a_l_row, fun_mk (st := s_l_row) l_l_row c_l_row k_l_row, (fun_mk (st := s_l_row) l_l_row c_l_row k_l_row).binds (ps := ["_law_script", "_law_start", "_law_most"]) fun _ _ _ _ _ _ us hl => match us, hl with | [_, _, _], _ => rfl⟩,
    d_l_states := ⟨_, _, PySem.W.mg_of X G a_l_states, fun_mk (st := s_l_states) l_l_states c_l_states k_l_states, (fun_mk (st := s_l_states) l_l_states c_l_states k_l_states).binds (ps := ["_law_first", "_law_rules"]) fun _ _ _ _ _ _ us hl => match us, hl with | [_, _], _ => rfl⟩,
    d_l_vain := ⟨_, _, PySem.W.mg_of X G a_l_vain, fun_mk (st := s_l_vain) l_l_vain c_l_vain k_l_vain, (fun_mk (st := s_l_vain) l_l_vain c_l_vain k_l_vain).binds (ps := ["_law_start", "_law_place", "_law_steps", "_law_number_here"]) fun _ _ _ _ _ _ us hl => match us, hl with | [_, _, _, _], _ => rfl⟩,
    d_l_drawn := ⟨_, _, PySem.W.mg_of X G a_l_drawn, fun_mk (st := s_l_drawn) l_l_drawn c_l_drawn k_l_drawn, (fun_mk (st := s_l_drawn) l_l_drawn c_l_drawn k_l_drawn).binds (ps := ["_law_script", "_law_steps", "_law_room"]) fun _ _ _ _ _ _ us hl => match us, hl with | [_, _, _], _ => rfl⟩,
    d_l_sums := ⟨_, _, PySem.W.mg_of X G a_l_sums, fun_mk (st := s_l_sums) l_l_sums c_l_sums k_l_sums, (fun_mk (st := s_l_sums) l_l_sums c_l_sums k_l_sums).binds (ps := ["_law_deeds"]) fun _ _ _ _ _ _ us hl => match us, hl with | [_], _ => rfl⟩,
    d_law := ⟨_, _, PySem.W.mg_of X G a_law, fun_mk (st := s_law) l_law c_law k_law, (fun_mk (st := s_law) l_law c_law k_law).binds (ps := ["_law_script"]) fun _ _ _ _ _ _ us hl => match us, hl with | [_], _ => rfl⟩,
    aWalker := C_Walker,
    o_Walker := ⟨⟨pgWalker, hdWalker, poWalker, saWalker⟩, PySem.W.mg_of X G aCWalker, nfrules, nfroom, nfplace, nfstate, nfdone, nfwanted, nfmarks, nfseen⟩,
    d_Walker_init := ⟨_, _, ⟨mkWalker, a_Walker_init, i_Walker_init, kcWalker⟩, fun_mk (st := s_Walker_init) l_Walker_init c_Walker_init k_Walker_init, (fun_mk (st := s_Walker_init) l_Walker_init c_Walker_init k_Walker_init).binds (ps := ["self", "first", "rules", "room"]) fun _ _ _ _ _ _ us hl => match us, hl with | [_, _, _, _], _ => rfl⟩,
    d_Walker_keep := ⟨_, _, ⟨a_Walker_keep, i_Walker_keep, k_Walker_keep⟩, fun_mk (st := s_Walker_keep) l_Walker_keep c_Walker_keep k_Walker_keep, (fun_mk (st := s_Walker_keep) l_Walker_keep c_Walker_keep k_Walker_keep).binds (ps := ["self"]) fun _ _ _ _ _ _ us hl => match us, hl with | [_], _ => rfl⟩,
    d_Walker_meet := ⟨_, _, ⟨a_Walker_meet, i_Walker_meet, k_Walker_meet⟩, fun_mk (st := s_Walker_meet) l_Walker_meet c_Walker_meet k_Walker_meet, (fun_mk (st := s_Walker_meet) l_Walker_meet c_Walker_meet k_Walker_meet).binds (ps := ["self"]) fun _ _ _ _ _ _ us hl => match us, hl with | [_], _ => rfl⟩,
    d_Walker_go := ⟨_, _, ⟨a_Walker_go, i_Walker_go, k_Walker_go⟩, fun_mk (st := s_Walker_go) l_Walker_go c_Walker_go k_Walker_go, (fun_mk (st := s_Walker_go) l_Walker_go c_Walker_go k_Walker_go).binds (ps := ["self", "many"]) fun _ _ _ _ _ _ us hl => match us, hl with | [_, _], _ => rfl⟩,
    d_Walker_do := ⟨_, _, ⟨a_Walker_do, i_Walker_do, k_Walker_do⟩, fun_mk (st := s_Walker_do) l_Walker_do c_Walker_do k_Walker_do, (fun_mk (st := s_Walker_do) l_Walker_do c_Walker_do k_Walker_do).binds (ps := ["self", "deed"]) fun _ _ _ _ _ _ us hl => match us, hl with | [_, _], _ => rfl⟩,
    d_Walker_met := ⟨_, _, ⟨a_Walker_met, i_Walker_met, k_Walker_met⟩, fun_mk (st := s_Walker_met) l_Walker_met c_Walker_met k_Walker_met, (fun_mk (st := s_Walker_met) l_Walker_met c_Walker_met k_Walker_met).binds (ps := ["self"]) fun _ _ _ _ _ _ us hl => match us, hl with | [_], _ => rfl⟩,
    c_MODULUS := ⟨_, PySem.W.mg_of X G v_MODULUS⟩,
    c_MOST_STEPS := ⟨_, PySem.W.mg_of X G v_MOST_STEPS⟩,
    c_MOST_ROOM := ⟨_, PySem.W.mg_of X G v_MOST_ROOM⟩,
    n_isinstance := PySem.W.mg_none_of X G z_isinstance,
    n_bool := PySem.W.mg_none_of X G z_bool,
    n_int := PySem.W.mg_none_of X G z_int,
    n_str := PySem.W.mg_none_of X G z_str,
    n_len := PySem.W.mg_none_of X G z_len,
    n_tuple := PySem.W.mg_none_of X G z_tuple,
    n_list := PySem.W.mg_none_of X G z_list,
    n_range := PySem.W.mg_none_of X G z_range,
    n_sum := PySem.W.mg_none_of X G z_sum,
    n_max := PySem.W.mg_none_of X G z_max,
    n_reversed := PySem.W.mg_none_of X G z_reversed,
    n_all := PySem.W.mg_none_of X G z_all,
    aBadCount := C_BadCount,
    x_BadCount := ⟨PySem.W.mg_of X G gBadCount, xBadCount, kBadCount, bBadCount, tBadCount⟩,
    aBadRule := C_BadRule,
    x_BadRule := ⟨PySem.W.mg_of X G gBadRule, xBadRule, kBadRule, bBadRule, tBadRule⟩,
    aBadDeed := C_BadDeed,
    x_BadDeed := ⟨PySem.W.mg_of X G gBadDeed, xBadDeed, kBadDeed, bBadDeed, tBadDeed⟩,
    aNotKept := C_NotKept,
    x_NotKept := ⟨PySem.W.mg_of X G gNotKept, xNotKept, kNotKept, bNotKept, tNotKept⟩,
    aTwice := C_Twice,
    x_Twice := ⟨PySem.W.mg_of X G gTwice, xTwice, kTwice, bTwice, tTwice⟩,
    aFull := C_Full,
    x_Full := ⟨PySem.W.mg_of X G gFull, xFull, kFull, bFull, tFull⟩,
    aAtEnd := C_AtEnd,
    x_AtEnd := ⟨PySem.W.mg_of X G gAtEnd, xAtEnd, kAtEnd, bAtEnd, tAtEnd⟩,
    aNotWanted := C_NotWanted,
    x_NotWanted := ⟨PySem.W.mg_of X G gNotWanted, xNotWanted, kNotWanted, bNotWanted, tNotWanted⟩ }
  refine ⟨PySem.W.fnOf "law" "law" (defArgs s_law) (defBody s_law) (defScope s_law) .none kV_law dc_law pm_law an_law cd_law ct_law, fun s v => .of_eq rfl, fun base _ _ => ?_⟩
  exact ok_law_at T (fun_mk (st := s_law) l_law c_law k_law)
theorem walk {l : PySem.W.OpenLaw} {q : Program} {loose : List Str} {XP : (Str → Option Value) → Heap → Prop} {YP : World → Heap → Prop} {d : DefRec} {K : Params → PySem.W.Frag} (hn : l.most = some 63) (hdf : d.params.defaults = [])
    (hY : ∀ (w : World) (h : Heap), YP w h → (K w.params).In h)
    (F : ∀ (w : World) (mg : Str → Option Value) (fa : Addr) (h : Heap), (K w.params).In h → h.Ns mainGlobals mg → mg d.name = some (.ref fa) →
      ∃ fd : FuncData, (∀ (s : Shared) (u : Value), BindsTo s fd ⟨[u], []⟩ [("_law_script", u)]) ∧ ∀ base : Heap, (K w.params).In base → base.Ns mainGlobals mg → FnOk l.prog w (K w.params) mg base (L2.CX l.prog w) 8 fa fd ["_law_script"] (sp_law (K w.params))) :
    PySem.W.WalkO q loose XP YP l.row.toRowW d [] (fun f vs => PySem.call f vs) :=
  L2.walk_of (n := 63) (k := 8) (x := "_law_script") (CX := fun w => L2.CX l.prog w) (sp := fun w => sp_law (K w.params)) hn (by decide) hdf ⟨rfl, by decide, by decide⟩ hY F (fun _ _ _ _ hl _ hS => law_true hS hl) fun _ _ _ _ _ z => cx0_no z
end BM
open PySem PySem.W PyProof.Rows
set_option maxRecDepth 100000 in
set_option maxHeartbeats 0 in
theorem PySem.Challenge.cw_backmarks_k10_whole_drawn_deeds_holds : PySem.Challenge.rw_backmarks_k10_whole_drawn_deeds.Holds := by
  w_on; o_law; k_head; (case hw => w_witness2)
  k_fill
  refine BM.walk (l := PySem.Challenge.rw_backmarks_k10_whole_drawn_deeds) rfl rfl (fun w h Y => PySem.W.kIn_of Y) ?F
  case F =>
    intro w mg fa h KX G hmg
    refine' BM.all_mk (l := PySem.Challenge.rw_backmarks_k10_whole_drawn_deeds) KX G hmg ?a_is_among ?l_is_among ?c_is_among ?k_is_among ?a_is_state ?l_is_state ?c_is_state ?k_is_state ?a_is_rule ?l_is_rule ?c_is_rule ?k_is_rule ?a_need_row ?l_need_row ?c_need_row ?k_need_row ?a_forth ?l_forth ?c_forth ?k_forth ?a_need_counts ?l_need_counts ?c_need_counts ?k_need_counts ?a_choices ?l_choices ?c_choices ?k_choices ?a_ways ?l_ways ?c_ways ?k_ways ?a_often ?l_often ?c_often ?k_often ?a_cost ?l_cost ?c_cost ?k_cost ?a_least ?l_least ?c_least ?k_least ?a_cost_of ?l_cost_of ?c_cost_of ?k_cost_of ?a_most_kept ?l_most_kept ?c_most_kept ?k_most_kept ?a_is_deed ?l_is_deed ?c_is_deed ?k_is_deed ?a_walked ?l_walked ?c_walked ?k_walked ?a_l_cell_at ?l_l_cell_at ?c_l_cell_at ?k_l_cell_at ?a_l_number ?l_l_number ?c_l_number ?k_l_number ?a_l_whole ?l_l_whole ?c_l_whole ?k_l_whole ?a_l_rule ?l_l_rule ?c_l_rule ?k_l_rule ?a_l_forth ?l_l_forth ?c_l_forth ?k_l_forth ?a_l_row ?l_l_row ?c_l_row ?k_l_row ?a_l_states ?l_l_states ?c_l_states ?k_l_states ?a_l_vain ?l_l_vain ?c_l_vain ?k_l_vain ?a_l_drawn ?l_l_drawn ?c_l_drawn ?k_l_drawn ?a_l_sums ?l_l_sums ?c_l_sums ?k_l_sums ?a_law ?l_law ?c_law ?k_law ?aCWalker ?pgWalker ?hdWalker ?poWalker ?saWalker ?mkWalker ?kcWalker ?nfrules ?nfroom ?nfplace ?nfstate ?nfdone ?nfwanted ?nfmarks ?nfseen ?a_Walker_init ?i_Walker_init ?l_Walker_init ?c_Walker_init ?k_Walker_init ?a_Walker_keep ?i_Walker_keep ?l_Walker_keep ?c_Walker_keep ?k_Walker_keep ?a_Walker_meet ?i_Walker_meet ?l_Walker_meet ?c_Walker_meet ?k_Walker_meet ?a_Walker_go ?i_Walker_go ?l_Walker_go ?c_Walker_go ?k_Walker_go ?a_Walker_do ?i_Walker_do ?l_Walker_do ?c_Walker_do ?k_Walker_do ?a_Walker_met ?i_Walker_met ?l_Walker_met ?c_Walker_met ?k_Walker_met ?v_MODULUS ?v_MOST_STEPS ?v_MOST_ROOM ?z_isinstance ?z_bool ?z_int ?z_str ?z_len ?z_tuple ?z_list ?z_range ?z_sum ?z_max ?z_reversed ?z_all ?gBadCount ?xBadCount ?kBadCount ?bBadCount ?tBadCount ?gBadRule ?xBadRule ?kBadRule ?bBadRule ?tBadRule ?gBadDeed ?xBadDeed ?kBadDeed ?bBadDeed ?tBadDeed ?gNotKept ?xNotKept ?kNotKept ?bNotKept ?tNotKept ?gTwice ?xTwice ?kTwice ?bTwice ?tTwice ?gFull ?xFull ?kFull ?bFull ?tFull ?gAtEnd ?xAtEnd ?kAtEnd ?bAtEnd ?tAtEnd ?gNotWanted ?xNotWanted ?kNotWanted ?bNotWanted ?tNotWanted
    (case a_is_among => k_is)
    (case l_is_among => k_is)
    (case c_is_among => k_is)
    (case k_is_among => k_is)
    (case a_is_state => k_is)
    (case l_is_state => k_is)
    (case c_is_state => k_is)
    (case k_is_state => k_is)
    (case a_is_rule => k_is)
    (case l_is_rule => k_is)
    (case c_is_rule => k_is)
    (case k_is_rule => k_is)
    (case a_need_row => k_is)
    (case l_need_row => k_is)
    (case c_need_row => k_is)
    (case k_need_row => k_is)
    (case a_forth => k_is)
    (case l_forth => k_is)
    (case c_forth => k_is)
    (case k_forth => k_is)
    (case a_need_counts => k_is)
    (case l_need_counts => k_is)
    (case c_need_counts => k_is)
    (case k_need_counts => k_is)
    (case a_choices => k_is)
    (case l_choices => k_is)
    (case c_choices => k_is)
    (case k_choices => k_is)
    (case a_ways => k_is)
    (case l_ways => k_is)
    (case c_ways => k_is)
    (case k_ways => k_is)
    (case a_often => k_is)
    (case l_often => k_is)
    (case c_often => k_is)
    (case k_often => k_is)
    (case a_cost => k_is)
    (case l_cost => k_is)
    (case c_cost => k_is)
    (case k_cost => k_is)
    (case a_least => k_is)
    (case l_least => k_is)
    (case c_least => k_is)
    (case k_least => k_is)
    (case a_cost_of => k_is)
    (case l_cost_of => k_is)
    (case c_cost_of => k_is)
    (case k_cost_of => k_is)
    (case a_most_kept => k_is)
    (case l_most_kept => k_is)
    (case c_most_kept => k_is)
    (case k_most_kept => k_is)
    (case a_is_deed => k_is)
    (case l_is_deed => k_is)
    (case c_is_deed => k_is)
    (case k_is_deed => k_is)
    (case a_walked => k_is)
    (case l_walked => k_is)
    (case c_walked => k_is)
    (case k_walked => k_is)
    (case a_l_cell_at => k_is)
    (case l_l_cell_at => k_is)
    (case c_l_cell_at => k_is)
    (case k_l_cell_at => k_is)
    (case a_l_number => k_is)
    (case l_l_number => k_is)
    (case c_l_number => k_is)
    (case k_l_number => k_is)
    (case a_l_whole => k_is)
    (case l_l_whole => k_is)
    (case c_l_whole => k_is)
    (case k_l_whole => k_is)
    (case a_l_rule => k_is)
    (case l_l_rule => k_is)
    (case c_l_rule => k_is)
    (case k_l_rule => k_is)
    (case a_l_forth => k_is)
    (case l_l_forth => k_is)
    (case c_l_forth => k_is)
    (case k_l_forth => k_is)
    (case a_l_row => k_is)
    (case l_l_row => k_is)
    (case c_l_row => k_is)
    (case k_l_row => k_is)
    (case a_l_states => k_is)
    (case l_l_states => k_is)
    (case c_l_states => k_is)
    (case k_l_states => k_is)
    (case a_l_vain => k_is)
    (case l_l_vain => k_is)
    (case c_l_vain => k_is)
    (case k_l_vain => k_is)
    (case a_l_drawn => k_is)
    (case l_l_drawn => k_is)
    (case c_l_drawn => k_is)
    (case k_l_drawn => k_is)
    (case a_l_sums => k_is)
    (case l_l_sums => k_is)
    (case c_l_sums => k_is)
    (case k_l_sums => k_is)
    (case a_law => k_is)
    (case l_law => k_is)
    (case c_law => k_is)
    (case k_law => k_is)
    (case aCWalker => k_is)
    (case pgWalker => k_is)
    (case hdWalker => k_is)
    (case poWalker => k_is)
    (case saWalker => k_is)
    (case mkWalker => k_is)
    (case kcWalker => k_is)
    (case nfrules => k_is)
    (case nfroom => k_is)
    (case nfplace => k_is)
    (case nfstate => k_is)
    (case nfdone => k_is)
    (case nfwanted => k_is)
    (case nfmarks => k_is)
    (case nfseen => k_is)
    (case a_Walker_init => k_is)
    (case i_Walker_init => k_is)
    (case l_Walker_init => k_is)
    (case c_Walker_init => k_is)
    (case k_Walker_init => k_is)
    (case a_Walker_keep => k_is)
    (case i_Walker_keep => k_is)
    (case l_Walker_keep => k_is)
    (case c_Walker_keep => k_is)
    (case k_Walker_keep => k_is)
    (case a_Walker_meet => k_is)
    (case i_Walker_meet => k_is)
    (case l_Walker_meet => k_is)
    (case c_Walker_meet => k_is)
    (case k_Walker_meet => k_is)
    (case a_Walker_go => k_is)
    (case i_Walker_go => k_is)
    (case l_Walker_go => k_is)
    (case c_Walker_go => k_is)
    (case k_Walker_go => k_is)
    (case a_Walker_do => k_is)
    (case i_Walker_do => k_is)
    (case l_Walker_do => k_is)
    (case c_Walker_do => k_is)
    (case k_Walker_do => k_is)
    (case a_Walker_met => k_is)
    (case i_Walker_met => k_is)
    (case l_Walker_met => k_is)
    (case c_Walker_met => k_is)
    (case k_Walker_met => k_is)
    (case v_MODULUS => k_is)
    (case v_MOST_STEPS => k_is)
    (case v_MOST_ROOM => k_is)
    (case z_isinstance => k_is)
    (case z_bool => k_is)
    (case z_int => k_is)
    (case z_str => k_is)
    (case z_len => k_is)
    (case z_tuple => k_is)
    (case z_list => k_is)
    (case z_range => k_is)
    (case z_sum => k_is)
    (case z_max => k_is)
    (case z_reversed => k_is)
    (case z_all => k_is)
    (case gBadCount => k_is)
    (case xBadCount => k_exc)
    (case kBadCount => k_is)
    (case bBadCount => k_is)
    (case tBadCount => k_is)
    (case gBadRule => k_is)
    (case xBadRule => k_exc)
    (case kBadRule => k_is)
    (case bBadRule => k_is)
    (case tBadRule => k_is)
    (case gBadDeed => k_is)
    (case xBadDeed => k_exc)
    (case kBadDeed => k_is)
    (case bBadDeed => k_is)
    (case tBadDeed => k_is)
    (case gNotKept => k_is)
    (case xNotKept => k_exc)
    (case kNotKept => k_is)
    (case bNotKept => k_is)
    (case tNotKept => k_is)
    (case gTwice => k_is)
    (case xTwice => k_exc)
    (case kTwice => k_is)
    (case bTwice => k_is)
    (case tTwice => k_is)
    (case gFull => k_is)
    (case xFull => k_exc)
    (case kFull => k_is)
    (case bFull => k_is)
    (case tFull => k_is)
    (case gAtEnd => k_is)
    (case xAtEnd => k_exc)
    (case kAtEnd => k_is)
    (case bAtEnd => k_is)
    (case tAtEnd => k_is)
    (case gNotWanted => k_is)
    (case xNotWanted => k_exc)
    (case kNotWanted => k_is)
    (case bNotWanted => k_is)
    (case tNotWanted => k_is)
#print axioms PySem.Challenge.cw_backmarks_k10_whole_drawn_deeds_holds
