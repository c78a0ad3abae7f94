import PyProof.Rows.All
import Wide.All
import OpenK.AllK
import Wide.FinOn
import HandS.ForMost
import HandS.Defaults
import HandS.Property
import HandS.IsInst
import HandS.Codes
import HandS.Head0
import HandS.Head1
import HandS.Head2
import HandS.HeadEnd
import HandS.HeadHook1
import HandS.HeadHook2
import PySem.Challenge.RW_dearerlater_k14_whole_last_kinds
import HandS.Wide
import HandS.Star
import HandS.Zip
import HandS.Walk
import HandS.Conv
import KE.GoesMore
import KE.GoesEnum
import PyProof.ReprRoads
import PyProof.WalksMore
set_option Elab.async false
set_option linter.all false
set_option maxRecDepth 100000
set_option maxHeartbeats 4000000
/-! ### the head by a hook of our own: facts as Bools, defs by paths -/
namespace Dl
open PySem PySem.Spec PyProof.Rows L2 He
/-- a def of the text: how it is found in the written part, and what stands in the row -/
structure DefX where
  path : PySem.W.Frag → Addr
  name : Str
  qual : Str
  st : Stmt
/-- a global's def, a method, a property's getter -/
def pG (x : Str) : PySem.W.Frag → Addr := fun K => ga K x
def pM (C m : Str) : PySem.W.Frag → Addr := fun K => ma K (ga K C) m
def recG (K : PySem.W.Frag) (p : Addr) (T : String) : Addr := match PySem.W.recIn K p T with
  | some (.ref g :: _) => g
  | _ => 0
def pP (C m : Str) : PySem.W.Frag → Addr := fun K => recG K (ma K (ga K C) m) "property"
def fnX (K : PySem.W.Frag) (a : Addr) : FnW := match K.lookup a with
  | some ⟨_, _, .func fd, _⟩ => some (fd.name, fd.qualname, fd.params, fd.body, fd.scope, fd.globals, fd.closure, fd.builtins)
  | _ => none
def DefX.val (d : DefX) : FnW := some (d.name, d.qual, defArgs d.st, .stmts (defBody d.st), defScope d.st, mainGlobals, [], builtinsNs)
def DefX.ok (K : PySem.W.Frag) (d : DefX) : Bool := PySem.W.keepIn K (.ref (d.path K)) && (match K.lookup (d.path K) with
  | some ⟨_, _, .func fd, _⟩ => PySem.W.codeIn K fd.code d.qual && dflB K fd.defaults []
  | _ => false)
/-- a def of the text as it stands behind the top -/
abbrev FnP (K : PySem.W.Frag) (d : DefX) (fd : FuncData) : Prop := FunD K d.name d.qual (defArgs d.st) (defBody d.st) (defScope d.st) [] [] (d.path K) fd
theorem DefX.funD {K : PySem.W.Frag} {d : DefX} (e : fnX K (d.path K) = d.val) (c : d.ok K = true) : ∃ fd, FnP K d fd := by
  obtain ⟨kp, c2⟩ := ba c
  unfold fnX at e
  cases q : K.lookup (d.path K) with
  | none =>
    rw [q] at c2
    cases c2
  | some o =>
    obtain ⟨oc, od, dt, osl⟩ := o
    rw [q] at c2 e
    cases dt with
    | func fd =>
      obtain ⟨n1, n2, n3, n4, n5, n6, n7, n8, n9, n10, n11, n12, n13, n14, n15⟩ := fd
      have e2 : (some (n1, n2, n3, n4, n5, n6, n7, n15) : FnW) = some (d.name, d.qual, defArgs d.st, .stmts (defBody d.st), defScope d.st, mainGlobals, [], builtinsNs) := e
      simp only [Option.some.injEq, Prod.mk.injEq] at e2
      obtain ⟨h1, h2, h3, h4, h5, h6, h7, h8⟩ := e2
      subst h1 h2 h3 h4 h5 h6 h7 h8
      have c3 : (PySem.W.codeIn K n13 d.qual && dflB K n8 []) = true := c2
      obtain ⟨k1, k2⟩ := ba c3
      exact ⟨_, ⟨oc, od, n8, n9, n10, n11, n12, n13, n14, osl, rfl, q, k1, dflB_ok k2, .inl rfl⟩, kp⟩
    | _ => cases c2
abbrev AlY : Type := Bool × List FnW
def obsY (ex : PySem.W.Frag → Bool) (fn : List DefX) (K : PySem.W.Frag) : AlY := (ex K && fn.all fun d => d.ok K, fn.map fun d => fnX K (d.path K))
def valY (fn : List DefX) : AlY := (true, fn.map DefX.val)
def SaysY (ex : PySem.W.Frag → Bool) (fn : List DefX) (K : PySem.W.Frag) : Prop := obsY ex fn K = valY fn
def obsYG (n : Nat) (ex : PySem.W.Frag → Bool) (fn : List DefX) (g : Addr → Option Obj) : AlY := obsY ex fn (frG g (asD g n))
def hookY (n : Nat) (ex : PySem.W.Frag → Bool) (fn : List DefX) : PySem.W.Hook where
  α := AlY
  obs := fun s => obsYG n ex fn s.heap.get?
  val := fun _ => valY fn
  says := fun _ h => ∃ K : PySem.W.Frag, K.In h ∧ SaysY ex fn K
  of := fun _ _ e => ⟨_, frG_in, e⟩
  keeps := fun _ _ _ ⟨K, hK, c⟩ k => ⟨K, PySem.W.Frag.In.keeps hK k, c⟩
theorem obsYG_eq {n : Nat} {ex : PySem.W.Frag → Bool} {fn : List DefX} {g : Addr → Option Obj} {s : Shared} (h : ∀ a, g a = s.heap.get? a) : obsYG n ex fn g = (hookY n ex fn).obs s := by
  have e : g = s.heap.get? := funext h
  rw [e] <;> rfl
section
variable {ex : PySem.W.Frag → Bool} {fn : List DefX} {K : PySem.W.Frag}
theorem SaysY.more (c : SaysY ex fn K) : ex K = true :=
  (ba (show (ex K && fn.all fun d => d.ok K) = true from congrArg (fun z : AlY => z.1) c)).1
theorem SaysY.def_ (c : SaysY ex fn K) (i : Nat) {d : DefX} (h : fn[i]? = some d := by rfl) : ∃ fd, FnP K d fd := by
  have c2 := (ba (show (ex K && fn.all fun d => d.ok K) = true from congrArg (fun z : AlY => z.1) c)).2
  have e : fn.map (fun d => fnX K (d.path K)) = fn.map DefX.val := congrArg (fun z : AlY => z.2) c
  have e2 : (fn.map fun d => fnX K (d.path K))[i]? = (fn.map DefX.val)[i]? := by rw [e]
  rw [List.getElem?_map, List.getElem?_map, h] at e2
  exact DefX.funD (Option.some.inj e2) (List.all_eq_true.mp c2 d (List.mem_of_getElem? h))
end
/-- what stands behind the top -/
structure Top (K : PySem.W.Frag) (mg : Str → Option Value) : Prop where
  h : ∃ h : Heap, K.In h ∧ h.Ns mainGlobals mg
theorem Top.glo {K : PySem.W.Frag} {mg : Str → Option Value} (T : Top K mg) {x : Str} (c : (Fa.glo x).ok K = true) : mg x = some (.ref (ga K x)) := let ⟨_, X, G⟩ := T.h; glo_ok X G c
theorem Top.free {K : PySem.W.Frag} {mg : Str → Option Value} (T : Top K mg) {x : Str} (c : (Fa.free x).ok K = true) : mg x = none := let ⟨_, X, G⟩ := T.h; free_ok X G c
theorem Top.int {K : PySem.W.Frag} {mg : Str → Option Value} (T : Top K mg) {x : Str} {i : Int} (c : (Fa.int x i).ok K = true) : ∃ u, mg x = some u ∧ RelV (.int i) u :=
  let ⟨_, X, G⟩ := T.h; let ⟨t, e⟩ := int_ok X G c; ⟨_, e, t, rfl⟩
theorem Top.str {K : PySem.W.Frag} {mg : Str → Option Value} (T : Top K mg) {x z : Str} (c : (Fa.str x z).ok K = true) : ∃ u, mg x = some u ∧ RelV (.str z) u :=
  let ⟨_, X, G⟩ := T.h; let ⟨t, e⟩ := str_ok X G c; ⟨_, e, t, rfl⟩
/-- all facts of a list, one by its place -/
theorem facts_at {K : PySem.W.Frag} {fa : List Fa} (h : (fa.all fun f => f.ok K) = true) (i : Nat) {f : Fa} (e : fa[i]? = some f := by rfl) : f.ok K = true :=
  List.all_eq_true.mp h f (List.mem_of_getElem? e)
/-- a property of a class -/
def propB (K : PySem.W.Frag) (C m : Str) : Bool :=
  eqO (PySem.W.findIn K (.ref (ga K C)) m) (some (some (.ref (ma K (ga K C) m)))) && (decide (PySem.W.specialIn K (.ref (ma K (ga K C) m)) "__get__" = some (some (.builtin "property.__get__"))) &&
    (decide (PySem.W.takesIn K (.ref (ma K (ga K C) m)) = some true) && (match PySem.W.recIn K (ma K (ga K C) m) "property" with
      | some (.ref _ :: _) => true
      | _ => false)))
theorem propB_ok {K : PySem.W.Frag} {C m : Str} (h : propB K C m = true) : PropOf K (ga K C) m (ma K (ga K C) m) (recG K (ma K (ga K C) m) "property") := by
  obtain ⟨h1, h⟩ := ba h
  obtain ⟨h2, h⟩ := ba h
  obtain ⟨h3, h4⟩ := ba h
  refine ⟨eqO_ok h1, of_decide_eq_true h2, of_decide_eq_true h3, ?_⟩
  unfold recG
  cases q : PySem.W.recIn K (ma K (ga K C) m) "property" with
  | none => rw [q] at h4; cases h4
  | some l =>
    rw [q] at h4
    cases l with
    | nil => cases h4
    | cons v r =>
      cases v with
      | ref g => exact ⟨r, rfl⟩
      | _ => cases h4
/-- what isinstance asks of an own class -/
def insB (K : PySem.W.Frag) (x : Str) : Bool :=
  decide (PySem.W.findIn K (.ref (ga K x)) "__class__" = some (some (.builtin "object.__class__"))) && (decide (PySem.W.specialIn K (.builtin "object.__class__") "__get__" = some (some (.builtin "getset_descriptor.__get__"))) &&
    (decide (PySem.W.takesIn K (.builtin "object.__class__") = some true) && (decide (PySem.W.mroIn K (ga K x) (.type "object") = some true) && decide (PySem.W.kitOne K (.ref (ga K x)) (.ref (ga K x)) = some true))))
theorem insB_ok {K : PySem.W.Frag} {x : Str} (cl : Cls K (ga K x)) (h : insB K x = true) : C8.InsC K (ga K x) := by
  obtain ⟨h1, h⟩ := ba h
  obtain ⟨h2, h⟩ := ba h
  obtain ⟨h3, h⟩ := ba h
  obtain ⟨h4, h5⟩ := ba h
  exact ⟨cl, of_decide_eq_true h1, of_decide_eq_true h2, of_decide_eq_true h3, of_decide_eq_true h4, of_decide_eq_true h5⟩
end Dl
/-! ### fractions in lowest terms are rationals; plain Lean -/
namespace Dl
/-- the loop of common -/
def euc : Nat → Nat → Nat → Nat
  | 0, a, _ => a
  | n + 1, a, b => if b = 0 then a else euc n b (a % b)
theorem gcd_step (a b : Nat) : Nat.gcd a b = Nat.gcd b (a % b) := by
  rw [Nat.gcd_comm a b, Nat.gcd_rec b a, Nat.gcd_comm]
theorem den_pos (q : Rat) : 0 < (q.den : Int) := by
  have := q.den_pos
  omega
theorem den_dvd_mk (z : Int) (D : Nat) (h : D ≠ 0) : (mkRat z D).den ∣ D := by
  rw [Rat.den_mkRat, if_neg h]
  exact Nat.div_dvd_of_dvd (Nat.gcd_dvd_left _ _)
/-- q has a written form over D -/
def Over (D : Nat) (q : Rat) : Prop := ∃ z : Int, q = mkRat z D
theorem Over.den {D : Nat} {q : Rat} (h : Over D q) (h0 : D ≠ 0) : q.den ≤ D := by
  obtain ⟨z, rfl⟩ := h
  exact Nat.le_of_dvd (Nat.pos_of_ne_zero h0) (den_dvd_mk z D h0)
theorem Over.zero (D : Nat) : Over D 0 := ⟨0, by simp⟩
theorem Over.mk (z : Int) (D : Nat) : Over D (mkRat z D) := ⟨z, rfl⟩
theorem Over.add {D : Nat} {a b : Rat} (ha : Over D a) (hb : Over D b) (h0 : D ≠ 0) : Over D (a + b) := by
  obtain ⟨x, rfl⟩ := ha
  obtain ⟨y, rfl⟩ := hb
  refine ⟨x + y, ?_⟩
  rw [Rat.mkRat_add_mkRat _ _ h0 h0, ← Int.add_mul, Rat.mkRat_mul_right h0]
theorem Over.int (i : Int) {D : Nat} (h0 : D ≠ 0) : Over D (i : Rat) := by
  refine ⟨i * D, ?_⟩
  have := Rat.mkRat_mul_right (n := i) (d := 1) h0
  rw [Nat.one_mul] at this
  rw [this]
  exact (Rat.mkRat_self (i : Rat)).symm
theorem Over.mul {D S : Nat} {a b : Rat} (ha : Over S a) (hb : Over D b) : Over (S * D) (a * b) := by
  obtain ⟨x, rfl⟩ := ha
  obtain ⟨y, rfl⟩ := hb
  exact ⟨x * y, by rw [Rat.mkRat_mul_mkRat]⟩
/-- the two places of a fraction in lowest terms -/
theorem low_num (t : Int) (b : Nat) (h : b ≠ 0) : t / ((Nat.gcd t.natAbs b : Nat) : Int) = (mkRat t b).num := by
  rw [Rat.num_mkRat, if_neg h, Nat.gcd_comm]
theorem low_den (t : Int) (b : Nat) (h : b ≠ 0) : (b : Int) / ((Nat.gcd t.natAbs b : Nat) : Int) = ((mkRat t b).den : Int) := by
  rw [Rat.den_mkRat, if_neg h, Nat.gcd_comm, Int.natCast_ediv]
theorem add_mk (a b : Rat) : mkRat (a.num * b.den + b.num * a.den) (a.den * b.den) = a + b := (Rat.add_def' a b).symm
theorem sub_mk (a b : Rat) : mkRat (a.num * b.den - b.num * a.den) (a.den * b.den) = a - b := (Rat.sub_def' a b).symm
theorem mul_mk (a b : Rat) : mkRat (a.num * b.num) (a.den * b.den) = a * b := (Rat.mul_def' a b).symm
theorem above_iff (a b : Rat) : (a.num * b.den > b.num * a.den) ↔ b < a := (Rat.lt_iff b a).symm
theorem rat_ext {a b : Rat} : (a.num = b.num ∧ (a.den : Int) = (b.den : Int)) ↔ a = b :=
  ⟨fun ⟨h1, h2⟩ => Rat.ext h1 (by omega), fun h => by rw [h]; exact ⟨rfl, rfl⟩⟩
end Dl
set_option Elab.async false
set_option linter.all false
/-! ### the table of worths, in plain Lean. A kind here: its price, its weights -/
namespace Dl
abbrev PW0 := Int × List Int
def chq (ws : List Int) (w : Int) : Rat := mkRat w ws.sum.toNat
def valsOf (price : Int) (n left : Nat) (later : List Rat) : List Rat := (List.range (min n left + 1)).map fun (u : Nat) => ((price * (u : Int) : Int) : Rat) + later.getD (left - u) 0
def mx (b v : Rat) : Rat := if b < v then v else b
def bestOf : List Rat → Rat
  | [] => 0
  | v :: vs => vs.foldl mx v
def cellUpto (k : PW0) (left : Nat) (later : List Rat) : Nat → Rat
  | 0 => 0
  | j + 1 => cellUpto k left later j + chq k.2 (k.2.getD j 0) * bestOf (valsOf k.1 j left later)
def cell (k : PW0) (left : Nat) (later : List Rat) : Rat := cellUpto k left later k.2.length
def rowOf (k : PW0) (later : List Rat) (n : Nat) : List Rat := (List.range (n + 1)).map fun left => cell k left later
def tableOf : List PW0 → Nat → List (List Rat)
  | [], n => [List.replicate (n + 1) 0]
  | k :: r, n => rowOf k ((tableOf r n).headD []) n :: tableOf r n
def headRow (ks : List PW0) (n : Nat) : List Rat := (tableOf ks n).headD []
def dp : List PW0 → Nat
  | [] => 1
  | k :: r => k.2.sum.toNat * dp r
theorem table_len : ∀ (ks : List PW0) (n : Nat), (tableOf ks n).length = ks.length + 1
  | [], _ => rfl
  | _ :: r, n => by
    show (tableOf r n).length + 1 = _
    rw [table_len r n]
    rfl
theorem table_cons (ks : List PW0) (n : Nat) : ∃ t, tableOf ks n = headRow ks n :: t := by
  cases ks with
  | nil => exact ⟨[], rfl⟩
  | cons k r => exact ⟨_, rfl⟩
theorem headRow_len (ks : List PW0) (n : Nat) : (headRow ks n).length = n + 1 := by
  cases ks with
  | nil => exact List.length_replicate
  | cons k r =>
    show (rowOf k _ n).length = _
    unfold rowOf
    rw [List.length_map, List.length_range]
theorem table_drop : ∀ (ks : List PW0) (n j : Nat), j ≤ ks.length → (tableOf ks n).drop j = tableOf (ks.drop j) n
  | ks, n, 0, _ => rfl
  | [], n, j + 1, h => by simp at h
  | k :: r, n, j + 1, h => by
    show (tableOf r n).drop j = _
    rw [table_drop r n j (by simpa using h)]
    rfl
theorem table_at (ks : List PW0) (n j : Nat) (h : j ≤ ks.length) : (tableOf ks n)[j]? = some (headRow (ks.drop j) n) := by
  have e := table_drop ks n j h
  obtain ⟨t, et⟩ := table_cons (ks.drop j) n
  rw [et] at e
  have z : ((tableOf ks n).drop j)[0]? = some (headRow (ks.drop j) n) := by rw [e]; rfl
  rwa [List.getElem?_drop, Nat.add_zero] at z
theorem mx_mem (b : Rat) : ∀ vs : List Rat, vs.foldl mx b = b ∨ vs.foldl mx b ∈ vs
  | [] => .inl rfl
  | v :: vs => by
    show vs.foldl mx (mx b v) = b ∨ vs.foldl mx (mx b v) ∈ v :: vs
    rcases mx_mem (mx b v) vs with h | h
    · rw [h]
      by_cases hb : b < v
      · rw [show mx b v = v from if_pos hb]
        exact .inr List.mem_cons_self
      · rw [show mx b v = b from if_neg hb]
        exact .inl rfl
    · exact .inr (List.mem_cons_of_mem _ h)
theorem bestOf_mem {vs : List Rat} (h : vs ≠ []) : bestOf vs ∈ vs := by
  cases vs with
  | nil => exact absurd rfl h
  | cons v vs =>
    rcases mx_mem v vs with e | e
    · show vs.foldl mx v ∈ _
      rw [e]
      exact List.mem_cons_self
    · exact List.mem_cons_of_mem _ e
theorem vals_ne (price : Int) (n left : Nat) (later : List Rat) : valsOf price n left later ≠ [] := by
  intro h
  have := congrArg List.length h
  unfold valsOf at this
  rw [List.length_map, List.length_range] at this
  simp at this
theorem getD_over {D : Nat} {qs : List Rat} (h : ∀ q ∈ qs, Over D q) (j : Nat) : Over D (qs.getD j 0) := by
  rw [List.getD_eq_getElem?_getD]
  cases e : qs[j]? with
  | none => exact Over.zero D
  | some q => exact h q (List.mem_of_getElem? e)
theorem vals_over {D : Nat} {price : Int} {n left : Nat} {later : List Rat} (h0 : D ≠ 0) (h : ∀ q ∈ later, Over D q) : ∀ v ∈ valsOf price n left later, Over D v := by
  intro v hv
  obtain ⟨u, _, rfl⟩ := List.mem_map.mp hv
  exact (Over.int _ h0).add (getD_over h _) h0
theorem best_over {D : Nat} {price : Int} {n left : Nat} {later : List Rat} (h0 : D ≠ 0) (h : ∀ q ∈ later, Over D q) : Over D (bestOf (valsOf price n left later)) :=
  vals_over h0 h _ (bestOf_mem (vals_ne _ _ _ _))
theorem cell_over {D : Nat} {k : PW0} {left : Nat} {later : List Rat} (h0 : D ≠ 0) (hs : k.2.sum.toNat ≠ 0) (h : ∀ q ∈ later, Over D q) : ∀ j, Over (k.2.sum.toNat * D) (cellUpto k left later j)
  | 0 => Over.zero _
  | j + 1 => (cell_over h0 hs h j).add ((Over.mk _ _).mul (best_over h0 h)) (Nat.mul_ne_zero hs h0)
theorem dp_ne {ks : List PW0} (h : ∀ k ∈ ks, 1 ≤ k.2.sum) : dp ks ≠ 0 := by
  induction ks with
  | nil => exact Nat.one_ne_zero
  | cons k r ih =>
    have h1 := h k List.mem_cons_self
    exact Nat.mul_ne_zero (by omega) (ih fun j hj => h j (List.mem_cons_of_mem _ hj))
theorem dp_le {ks : List PW0} (h : ∀ k ∈ ks, k.2.sum ≤ 1000) : dp ks ≤ 1000 ^ ks.length := by
  induction ks with
  | nil => exact Nat.le_refl _
  | cons k r ih =>
    have h1 := h k List.mem_cons_self
    have h2 := ih fun j hj => h j (List.mem_cons_of_mem _ hj)
    show k.2.sum.toNat * dp r ≤ 1000 ^ (r.length + 1)
    rw [Nat.pow_succ, Nat.mul_comm (1000 ^ r.length)]
    exact Nat.mul_le_mul (by omega) h2
theorem dp_lt {ks : List PW0} (h : ∀ k ∈ ks, k.2.sum ≤ 1000) (hl : ks.length ≤ 5) : dp ks < 2 ^ 64 := by
  have h1 := dp_le h
  have h2 : 1000 ^ ks.length ≤ 1000 ^ 5 := Nat.pow_le_pow_right (by decide) hl
  have h3 : (1000 : Nat) ^ 5 < 2 ^ 64 := by decide
  omega
theorem headRow_over {n : Nat} : ∀ {ks : List PW0}, (∀ k ∈ ks, 1 ≤ k.2.sum) → ∀ q ∈ headRow ks n, Over (dp ks) q
  | [], _, q, hq => by
    have e : q = 0 := List.eq_of_mem_replicate hq
    rw [e]
    exact Over.zero _
  | k :: r, h, q, hq => by
    have hr : ∀ j ∈ r, 1 ≤ j.2.sum := fun j hj => h j (List.mem_cons_of_mem _ hj)
    have hk := h k List.mem_cons_self
    have hq' : q ∈ rowOf k (headRow r n) n := hq
    obtain ⟨left, _, rfl⟩ := List.mem_map.mp hq'
    exact cell_over (dp_ne hr) (by omega) (headRow_over hr) _
end Dl
set_option Elab.async false
set_option linter.all false
set_option maxRecDepth 100000
set_option maxHeartbeats 0
namespace Dl
open PySem PySem.Spec PyProof.Rows L2 He
def top (i : Nat) : Stmt := PySem.Challenge.pw_dearerlater_k14_whole_last_kinds.main.body.getD i (.Pass ⟨0, 0, 0, 0⟩)
abbrev s_InvalidText_init : Stmt := inClass (top 3) 0
abbrev N_InvalidText_init : List Str := ["self", "given"]
theorem sc_InvalidText_init : FnScope N_InvalidText_init ["self", "given"] (defScope s_InvalidText_init) := ⟨rfl, rfl, rfl, by decide +kernel, rfl, by decide +kernel, by decide +kernel⟩
def d_InvalidText_init : DefX := ⟨pM "InvalidText" "__init__", "__init__", "InvalidText.__init__", s_InvalidText_init⟩
abbrev s_InvalidSeats_init : Stmt := inClass (top 4) 0
abbrev N_InvalidSeats_init : List Str := ["self", "given"]
theorem sc_InvalidSeats_init : FnScope N_InvalidSeats_init ["self", "given"] (defScope s_InvalidSeats_init) := ⟨rfl, rfl, rfl, by decide +kernel, rfl, by decide +kernel, by decide +kernel⟩
def d_InvalidSeats_init : DefX := ⟨pM "InvalidSeats" "__init__", "__init__", "InvalidSeats.__init__", s_InvalidSeats_init⟩
abbrev s_InvalidStage_init : Stmt := inClass (top 5) 0
abbrev N_InvalidStage_init : List Str := ["self", "given"]
theorem sc_InvalidStage_init : FnScope N_InvalidStage_init ["self", "given"] (defScope s_InvalidStage_init) := ⟨rfl, rfl, rfl, by decide +kernel, rfl, by decide +kernel, by decide +kernel⟩
def d_InvalidStage_init : DefX := ⟨pM "InvalidStage" "__init__", "__init__", "InvalidStage.__init__", s_InvalidStage_init⟩
abbrev s_InvalidIndex_init : Stmt := inClass (top 6) 0
abbrev N_InvalidIndex_init : List Str := ["self", "given"]
theorem sc_InvalidIndex_init : FnScope N_InvalidIndex_init ["self", "given"] (defScope s_InvalidIndex_init) := ⟨rfl, rfl, rfl, by decide +kernel, rfl, by decide +kernel, by decide +kernel⟩
def d_InvalidIndex_init : DefX := ⟨pM "InvalidIndex" "__init__", "__init__", "InvalidIndex.__init__", s_InvalidIndex_init⟩
abbrev s_InvalidNumber_init : Stmt := inClass (top 7) 0
abbrev N_InvalidNumber_init : List Str := ["self", "given"]
theorem sc_InvalidNumber_init : FnScope N_InvalidNumber_init ["self", "given"] (defScope s_InvalidNumber_init) := ⟨rfl, rfl, rfl, by decide +kernel, rfl, by decide +kernel, by decide +kernel⟩
def d_InvalidNumber_init : DefX := ⟨pM "InvalidNumber" "__init__", "__init__", "InvalidNumber.__init__", s_InvalidNumber_init⟩
abbrev s_NotAPlan_init : Stmt := inClass (top 8) 0
abbrev N_NotAPlan_init : List Str := ["self", "given"]
theorem sc_NotAPlan_init : FnScope N_NotAPlan_init ["self", "given"] (defScope s_NotAPlan_init) := ⟨rfl, rfl, rfl, by decide +kernel, rfl, by decide +kernel, by decide +kernel⟩
def d_NotAPlan_init : DefX := ⟨pM "NotAPlan" "__init__", "__init__", "NotAPlan.__init__", s_NotAPlan_init⟩
abbrev s_InvalidKinds_init : Stmt := inClass (top 9) 0
abbrev N_InvalidKinds_init : List Str := ["self", "index"]
theorem sc_InvalidKinds_init : FnScope N_InvalidKinds_init ["self", "index"] (defScope s_InvalidKinds_init) := ⟨rfl, rfl, rfl, by decide +kernel, rfl, by decide +kernel, by decide +kernel⟩
def d_InvalidKinds_init : DefX := ⟨pM "InvalidKinds" "__init__", "__init__", "InvalidKinds.__init__", s_InvalidKinds_init⟩
abbrev s_is_whole : Stmt := top 21
abbrev N_is_whole : List Str := ["value"]
theorem sc_is_whole : FnScope N_is_whole ["value"] (defScope s_is_whole) := ⟨rfl, rfl, rfl, by decide +kernel, rfl, by decide +kernel, by decide +kernel⟩
def d_is_whole : DefX := ⟨pG "is_whole", "is_whole", "is_whole", s_is_whole⟩
abbrev s_is_integer : Stmt := top 22
abbrev N_is_integer : List Str := ["value", "least", "greatest"]
theorem sc_is_integer : FnScope N_is_integer ["value", "least", "greatest"] (defScope s_is_integer) := ⟨rfl, rfl, rfl, by decide +kernel, rfl, by decide +kernel, by decide +kernel⟩
def d_is_integer : DefX := ⟨pG "is_integer", "is_integer", "is_integer", s_is_integer⟩
abbrev s_is_name : Stmt := top 23
abbrev N_is_name : List Str := ["value", "sign"]
theorem sc_is_name : FnScope N_is_name ["value"] (defScope s_is_name) := ⟨rfl, rfl, rfl, by decide +kernel, rfl, by decide +kernel, by decide +kernel⟩
def d_is_name : DefX := ⟨pG "is_name", "is_name", "is_name", s_is_name⟩
abbrev s_is_tuple_of : Stmt := top 24
abbrev N_is_tuple_of : List Str := ["value", "many"]
theorem sc_is_tuple_of : FnScope N_is_tuple_of ["value", "many"] (defScope s_is_tuple_of) := ⟨rfl, rfl, rfl, by decide +kernel, rfl, by decide +kernel, by decide +kernel⟩
def d_is_tuple_of : DefX := ⟨pG "is_tuple_of", "is_tuple_of", "is_tuple_of", s_is_tuple_of⟩
abbrev s_written : Stmt := top 25
abbrev N_written : List Str := ["text", "sign"]
theorem sc_written : FnScope N_written ["text"] (defScope s_written) := ⟨rfl, rfl, rfl, by decide +kernel, rfl, by decide +kernel, by decide +kernel⟩
def d_written : DefX := ⟨pG "written", "written", "written", s_written⟩
abbrev s_common : Stmt := top 26
abbrev N_common : List Str := ["one", "other"]
theorem sc_common : FnScope N_common ["one", "other"] (defScope s_common) := ⟨rfl, rfl, rfl, by decide +kernel, rfl, by decide +kernel, by decide +kernel⟩
def d_common : DefX := ⟨pG "common", "common", "common", s_common⟩
abbrev s_lowest : Stmt := top 27
abbrev N_lowest : List Str := ["top", "bottom", "shared"]
theorem sc_lowest : FnScope N_lowest ["top", "bottom"] (defScope s_lowest) := ⟨rfl, rfl, rfl, by decide +kernel, rfl, by decide +kernel, by decide +kernel⟩
def d_lowest : DefX := ⟨pG "lowest", "lowest", "lowest", s_lowest⟩
abbrev s_plus : Stmt := top 28
abbrev N_plus : List Str := ["one", "other"]
theorem sc_plus : FnScope N_plus ["one", "other"] (defScope s_plus) := ⟨rfl, rfl, rfl, by decide +kernel, rfl, by decide +kernel, by decide +kernel⟩
def d_plus : DefX := ⟨pG "plus", "plus", "plus", s_plus⟩
abbrev s_minus : Stmt := top 29
abbrev N_minus : List Str := ["one", "other"]
theorem sc_minus : FnScope N_minus ["one", "other"] (defScope s_minus) := ⟨rfl, rfl, rfl, by decide +kernel, rfl, by decide +kernel, by decide +kernel⟩
def d_minus : DefX := ⟨pG "minus", "minus", "minus", s_minus⟩
abbrev s_times : Stmt := top 30
abbrev N_times : List Str := ["one", "other"]
theorem sc_times : FnScope N_times ["one", "other"] (defScope s_times) := ⟨rfl, rfl, rfl, by decide +kernel, rfl, by decide +kernel, by decide +kernel⟩
def d_times : DefX := ⟨pG "times", "times", "times", s_times⟩
abbrev s_is_above : Stmt := top 31
abbrev N_is_above : List Str := ["one", "other"]
theorem sc_is_above : FnScope N_is_above ["one", "other"] (defScope s_is_above) := ⟨rfl, rfl, rfl, by decide +kernel, rfl, by decide +kernel, by decide +kernel⟩
def d_is_above : DefX := ⟨pG "is_above", "is_above", "is_above", s_is_above⟩
abbrev s_are_weights : Stmt := top 34
abbrev N_are_weights : List Str := ["value", "weight"]
theorem sc_are_weights : FnScope N_are_weights ["value"] (defScope s_are_weights) := ⟨rfl, rfl, rfl, by decide +kernel, rfl, by decide +kernel, by decide +kernel⟩
def d_are_weights : DefX := ⟨pG "are_weights", "are_weights", "are_weights", s_are_weights⟩
abbrev s_is_kind : Stmt := top 35
abbrev N_is_kind : List Str := ["value", "ahead", "kind"]
theorem sc_is_kind : FnScope N_is_kind ["value", "ahead"] (defScope s_is_kind) := ⟨rfl, rfl, rfl, by decide +kernel, rfl, by decide +kernel, by decide +kernel⟩
def d_is_kind : DefX := ⟨pG "is_kind", "is_kind", "is_kind", s_is_kind⟩
abbrev s_check_kinds : Stmt := top 36
abbrev N_check_kinds : List Str := ["value", "index", "kind"]
theorem sc_check_kinds : FnScope N_check_kinds ["value"] (defScope s_check_kinds) := ⟨rfl, rfl, rfl, by decide +kernel, rfl, by decide +kernel, by decide +kernel⟩
def d_check_kinds : DefX := ⟨pG "check_kinds", "check_kinds", "check_kinds", s_check_kinds⟩
abbrev s_kind_of : Stmt := top 37
abbrev N_kind_of : List Str := ["row", "words", "word"]
theorem sc_kind_of : FnScope N_kind_of ["row"] (defScope s_kind_of) := ⟨rfl, rfl, rfl, by decide +kernel, rfl, by decide +kernel, by decide +kernel⟩
def d_kind_of : DefX := ⟨pG "kind_of", "kind_of", "kind_of", s_kind_of⟩
abbrev s_Plan_init : Stmt := inClass (top 38) 0
abbrev N_Plan_init : List Str := ["self", "seats", "kinds"]
theorem sc_Plan_init : FnScope N_Plan_init ["self", "seats", "kinds"] (defScope s_Plan_init) := ⟨rfl, rfl, rfl, by decide +kernel, rfl, by decide +kernel, by decide +kernel⟩
def d_Plan_init : DefX := ⟨pM "Plan" "__init__", "__init__", "Plan.__init__", s_Plan_init⟩
abbrev s_Plan_seats : Stmt := inClass (top 38) 2
abbrev N_Plan_seats : List Str := ["self"]
theorem sc_Plan_seats : FnScope N_Plan_seats ["self"] (defScope s_Plan_seats) := ⟨rfl, rfl, rfl, by decide +kernel, rfl, by decide +kernel, by decide +kernel⟩
def d_Plan_seats : DefX := ⟨pP "Plan" "seats", "seats", "Plan.seats", s_Plan_seats⟩
abbrev s_Plan_kinds : Stmt := inClass (top 38) 3
abbrev N_Plan_kinds : List Str := ["self"]
theorem sc_Plan_kinds : FnScope N_Plan_kinds ["self"] (defScope s_Plan_kinds) := ⟨rfl, rfl, rfl, by decide +kernel, rfl, by decide +kernel, by decide +kernel⟩
def d_Plan_kinds : DefX := ⟨pP "Plan" "kinds", "kinds", "Plan.kinds", s_Plan_kinds⟩
abbrev s_Plan_len : Stmt := inClass (top 38) 5
abbrev N_Plan_len : List Str := ["self"]
theorem sc_Plan_len : FnScope N_Plan_len ["self"] (defScope s_Plan_len) := ⟨rfl, rfl, rfl, by decide +kernel, rfl, by decide +kernel, by decide +kernel⟩
def d_Plan_len : DefX := ⟨pM "Plan" "__len__", "__len__", "Plan.__len__", s_Plan_len⟩
abbrev s_Plan_bool : Stmt := inClass (top 38) 6
abbrev N_Plan_bool : List Str := ["self"]
theorem sc_Plan_bool : FnScope N_Plan_bool ["self"] (defScope s_Plan_bool) := ⟨rfl, rfl, rfl, by decide +kernel, rfl, by decide +kernel, by decide +kernel⟩
def d_Plan_bool : DefX := ⟨pM "Plan" "__bool__", "__bool__", "Plan.__bool__", s_Plan_bool⟩
abbrev s_Plan_iter : Stmt := inClass (top 38) 7
abbrev N_Plan_iter : List Str := ["self"]
theorem sc_Plan_iter : FnScope N_Plan_iter ["self"] (defScope s_Plan_iter) := ⟨rfl, rfl, rfl, by decide +kernel, rfl, by decide +kernel, by decide +kernel⟩
def d_Plan_iter : DefX := ⟨pM "Plan" "__iter__", "__iter__", "Plan.__iter__", s_Plan_iter⟩
abbrev s_Plan_str : Stmt := inClass (top 38) 8
abbrev N_Plan_str : List Str := ["self", "rows", "name", "price", "weights", "weight"]
theorem sc_Plan_str : FnScope N_Plan_str ["self"] (defScope s_Plan_str) := ⟨rfl, rfl, rfl, by decide +kernel, rfl, by decide +kernel, by decide +kernel⟩
def d_Plan_str : DefX := ⟨pM "Plan" "__str__", "__str__", "Plan.__str__", s_Plan_str⟩
abbrev s_Plan_eq : Stmt := inClass (top 38) 9
abbrev N_Plan_eq : List Str := ["self", "other"]
theorem sc_Plan_eq : FnScope N_Plan_eq ["self", "other"] (defScope s_Plan_eq) := ⟨rfl, rfl, rfl, by decide +kernel, rfl, by decide +kernel, by decide +kernel⟩
def d_Plan_eq : DefX := ⟨pM "Plan" "__eq__", "__eq__", "Plan.__eq__", s_Plan_eq⟩
abbrev s_Plan_later : Stmt := inClass (top 38) 11
abbrev N_Plan_later : List Str := ["self", "stage"]
theorem sc_Plan_later : FnScope N_Plan_later ["self", "stage"] (defScope s_Plan_later) := ⟨rfl, rfl, rfl, by decide +kernel, rfl, by decide +kernel, by decide +kernel⟩
def d_Plan_later : DefX := ⟨pM "Plan" "later", "later", "Plan.later", s_Plan_later⟩
abbrev s_Plan_chance : Stmt := inClass (top 38) 12
abbrev N_Plan_chance : List Str := ["self", "index", "number", "weights"]
theorem sc_Plan_chance : FnScope N_Plan_chance ["self", "index", "number"] (defScope s_Plan_chance) := ⟨rfl, rfl, rfl, by decide +kernel, rfl, by decide +kernel, by decide +kernel⟩
def d_Plan_chance : DefX := ⟨pM "Plan" "chance", "chance", "Plan.chance", s_Plan_chance⟩
abbrev s_check_plan : Stmt := top 39
abbrev N_check_plan : List Str := ["value"]
theorem sc_check_plan : FnScope N_check_plan ["value"] (defScope s_check_plan) := ⟨rfl, rfl, rfl, by decide +kernel, rfl, by decide +kernel, by decide +kernel⟩
def d_check_plan : DefX := ⟨pG "check_plan", "check_plan", "check_plan", s_check_plan⟩
abbrev s_check_stage : Stmt := top 40
abbrev N_check_stage : List Str := ["plan", "value"]
theorem sc_check_stage : FnScope N_check_stage ["plan", "value"] (defScope s_check_stage) := ⟨rfl, rfl, rfl, by decide +kernel, rfl, by decide +kernel, by decide +kernel⟩
def d_check_stage : DefX := ⟨pG "check_stage", "check_stage", "check_stage", s_check_stage⟩
abbrev s_check_left : Stmt := top 41
abbrev N_check_left : List Str := ["plan", "value"]
theorem sc_check_left : FnScope N_check_left ["plan", "value"] (defScope s_check_left) := ⟨rfl, rfl, rfl, by decide +kernel, rfl, by decide +kernel, by decide +kernel⟩
def d_check_left : DefX := ⟨pG "check_left", "check_left", "check_left", s_check_left⟩
abbrev s_chances_of : Stmt := top 42
abbrev N_chances_of : List Str := ["plan", "index", "weights", "weight"]
theorem sc_chances_of : FnScope N_chances_of ["plan", "index"] (defScope s_chances_of) := ⟨rfl, rfl, rfl, by decide +kernel, rfl, by decide +kernel, by decide +kernel⟩
def d_chances_of : DefX := ⟨pG "chances_of", "chances_of", "chances_of", s_chances_of⟩
abbrev s_value_of : Stmt := top 44
abbrev N_value_of : List Str := ["price", "number", "left", "later"]
theorem sc_value_of : FnScope N_value_of ["price", "number", "left", "later"] (defScope s_value_of) := ⟨rfl, rfl, rfl, by decide +kernel, rfl, by decide +kernel, by decide +kernel⟩
def d_value_of : DefX := ⟨pG "value_of", "value_of", "value_of", s_value_of⟩
abbrev s_best_numbers : Stmt := top 45
abbrev N_best_numbers : List Str := ["price", "wishes", "left", "later", "values", "best", "value", "number"]
theorem sc_best_numbers : FnScope N_best_numbers ["price", "wishes", "left", "later"] (defScope s_best_numbers) := ⟨rfl, rfl, rfl, by decide +kernel, rfl, by decide +kernel, by decide +kernel⟩
def d_best_numbers : DefX := ⟨pG "best_numbers", "best_numbers", "best_numbers", s_best_numbers⟩
abbrev s_table_of : Stmt := top 46
abbrev N_table_of : List Str := ["plan", "rows", "index", "row", "left", "total", "wishes", "chance"]
theorem sc_table_of : FnScope N_table_of ["plan"] (defScope s_table_of) := ⟨rfl, rfl, rfl, by decide +kernel, rfl, by decide +kernel, by decide +kernel⟩
def d_table_of : DefX := ⟨pG "table_of", "table_of", "table_of", s_table_of⟩
abbrev s_rises_of : Stmt := top 47
abbrev N_rises_of : List Str := ["row", "lower", "higher"]
theorem sc_rises_of : FnScope N_rises_of ["row"] (defScope s_rises_of) := ⟨rfl, rfl, rfl, by decide +kernel, rfl, by decide +kernel, by decide +kernel⟩
def d_rises_of : DefX := ⟨pG "rises_of", "rises_of", "rises_of", s_rises_of⟩
abbrev s_worth : Stmt := top 48
abbrev N_worth : List Str := ["plan", "stage", "left"]
theorem sc_worth : FnScope N_worth ["plan", "stage", "left"] (defScope s_worth) := ⟨rfl, rfl, rfl, by decide +kernel, rfl, by decide +kernel, by decide +kernel⟩
def d_worth : DefX := ⟨pG "worth", "worth", "worth", s_worth⟩
abbrev s_rise : Stmt := top 49
abbrev N_rise : List Str := ["plan", "stage", "left"]
theorem sc_rise : FnScope N_rise ["plan", "stage", "left"] (defScope s_rise) := ⟨rfl, rfl, rfl, by decide +kernel, rfl, by decide +kernel, by decide +kernel⟩
def d_rise : DefX := ⟨pG "rise", "rise", "rise", s_rise⟩
abbrev s_l_well : Stmt := top 51
abbrev N_l_well : List Str := ["_law_cells", "_law_at", "_law_own", "_law_stirred", "_law_each", "_law_great"]
theorem sc_l_well : FnScope N_l_well ["_law_cells", "_law_at"] (defScope s_l_well) := ⟨rfl, rfl, rfl, by decide +kernel, rfl, by decide +kernel, by decide +kernel⟩
def d_l_well : DefX := ⟨pG "_law_well", "_law_well", "_law_well", s_l_well⟩
abbrev s_l_dip : Stmt := top 52
abbrev N_l_dip : List Str := ["_law_well_here", "_law_top", "_law_figure", "_law_held"]
theorem sc_l_dip : FnScope N_l_dip ["_law_well_here", "_law_top"] (defScope s_l_dip) := ⟨rfl, rfl, rfl, by decide +kernel, rfl, by decide +kernel, by decide +kernel⟩
def d_l_dip : DefX := ⟨pG "_law_dip", "_law_dip", "_law_dip", s_l_dip⟩
abbrev s_l_from : Stmt := top 53
abbrev N_l_from : List Str := ["_law_well_here", "_law_some"]
theorem sc_l_from : FnScope N_l_from ["_law_well_here", "_law_some"] (defScope s_l_from) := ⟨rfl, rfl, rfl, by decide +kernel, rfl, by decide +kernel, by decide +kernel⟩
def d_l_from : DefX := ⟨pG "_law_from", "_law_from", "_law_from", s_l_from⟩
abbrev s_l_words : Stmt := top 54
abbrev N_l_words : List Str := ["_law_well_here", "_law_many", "_law_menu", "_law_begin", "_law_step", "_law_k"]
theorem sc_l_words : FnScope N_l_words ["_law_well_here", "_law_many"] (defScope s_l_words) := ⟨rfl, rfl, rfl, by decide +kernel, rfl, by decide +kernel, by decide +kernel⟩
def d_l_words : DefX := ⟨pG "_law_words", "_law_words", "_law_words", s_l_words⟩
abbrev s_l_loads : Stmt := top 55
abbrev N_l_loads : List Str := ["_law_well_here", "_law_most", "_law_size", "_law_way_here", "_law_found", "_law_k"]
theorem sc_l_loads : FnScope N_l_loads ["_law_well_here", "_law_most"] (defScope s_l_loads) := ⟨rfl, rfl, rfl, by decide +kernel, rfl, by decide +kernel, by decide +kernel⟩
def d_l_loads : DefX := ⟨pG "_law_loads", "_law_loads", "_law_loads", s_l_loads⟩
abbrev s_l_rows : Stmt := top 56
abbrev N_l_rows : List Str := ["_law_well_here", "_law_many", "_law_most", "_law_found", "_law_price_here", "_law_word"]
theorem sc_l_rows : FnScope N_l_rows ["_law_well_here", "_law_many", "_law_most"] (defScope s_l_rows) := ⟨rfl, rfl, rfl, by decide +kernel, rfl, by decide +kernel, by decide +kernel⟩
def d_l_rows : DefX := ⟨pG "_law_rows", "_law_rows", "_law_rows", s_l_rows⟩
abbrev s_l_case : Stmt := top 57
abbrev N_l_case : List Str := ["_law_well_here", "_law_room", "_law_many", "_law_most"]
theorem sc_l_case : FnScope N_l_case ["_law_well_here", "_law_room", "_law_many", "_law_most"] (defScope s_l_case) := ⟨rfl, rfl, rfl, by decide +kernel, rfl, by decide +kernel, by decide +kernel⟩
def d_l_case : DefX := ⟨pG "_law_case", "_law_case", "_law_case", s_l_case⟩
abbrev s_l_low : Stmt := top 58
abbrev N_l_low : List Str := ["_law_top", "_law_bottom", "_law_first", "_law_second"]
theorem sc_l_low : FnScope N_l_low ["_law_top", "_law_bottom"] (defScope s_l_low) := ⟨rfl, rfl, rfl, by decide +kernel, rfl, by decide +kernel, by decide +kernel⟩
def d_l_low : DefX := ⟨pG "_law_low", "_law_low", "_law_low", s_l_low⟩
abbrev s_l_right : Stmt := top 59
abbrev N_l_right : List Str := ["_law_well_here", "_law_turn", "_law_room", "_law_rows_here", "_law_mine", "_law_last", "_law_word", "_law_price_here", "_law_loads_here", "_law_x", "_law_total", "_law_due", "_law_n"]
theorem sc_l_right : FnScope N_l_right ["_law_well_here"] (defScope s_l_right) := ⟨rfl, rfl, rfl, by decide +kernel, rfl, by decide +kernel, by decide +kernel⟩
def d_l_right : DefX := ⟨pG "_law_right", "_law_right", "_law_right", s_l_right⟩
abbrev s_law : Stmt := top 60
abbrev N_law : List Str := ["_law_cells", "_law_at"]
theorem sc_law : FnScope N_law ["_law_cells"] (defScope s_law) := ⟨rfl, rfl, rfl, by decide +kernel, rfl, by decide +kernel, by decide +kernel⟩
def d_law : DefX := ⟨pG "law", "law", "law", s_law⟩
def fn : List DefX := [d_InvalidText_init, d_InvalidSeats_init, d_InvalidStage_init, d_InvalidIndex_init, d_InvalidNumber_init, d_NotAPlan_init, d_InvalidKinds_init, d_is_whole, d_is_integer, d_is_name, d_is_tuple_of, d_written, d_common, d_lowest, d_plus, d_minus, d_times, d_is_above, d_are_weights, d_is_kind, d_check_kinds, d_kind_of, d_Plan_init, d_Plan_seats, d_Plan_kinds, d_Plan_len, d_Plan_bool, d_Plan_iter, d_Plan_str, d_Plan_eq, d_Plan_later, d_Plan_chance, d_check_plan, d_check_stage, d_check_left, d_chances_of, d_value_of, d_best_numbers, d_table_of, d_rises_of, d_worth, d_rise, d_l_well, d_l_dip, d_l_from, d_l_words, d_l_loads, d_l_rows, d_l_case, d_l_low, d_l_right, d_law]
def facts : List Fa := [.glo "BadValue",
  .glo "InvalidText",
  .glo "InvalidSeats",
  .glo "InvalidStage",
  .glo "InvalidIndex",
  .glo "InvalidNumber",
  .glo "NotAPlan",
  .glo "InvalidKinds",
  .glo "ZERO",
  .glo "is_whole",
  .glo "is_integer",
  .glo "is_name",
  .glo "is_tuple_of",
  .glo "written",
  .glo "common",
  .glo "lowest",
  .glo "plus",
  .glo "minus",
  .glo "times",
  .glo "is_above",
  .glo "are_weights",
  .glo "is_kind",
  .glo "check_kinds",
  .glo "kind_of",
  .glo "Plan",
  .glo "check_plan",
  .glo "check_stage",
  .glo "check_left",
  .glo "chances_of",
  .glo "value_of",
  .glo "best_numbers",
  .glo "table_of",
  .glo "rises_of",
  .glo "worth",
  .glo "rise",
  .glo "_law_well",
  .glo "_law_dip",
  .glo "_law_from",
  .glo "_law_words",
  .glo "_law_loads",
  .glo "_law_rows",
  .glo "_law_case",
  .glo "_law_low",
  .glo "_law_right",
  .glo "law",
  .free "TypeError",
  .free "abs",
  .free "all",
  .free "bool",
  .free "divmod",
  .free "enumerate",
  .free "int",
  .free "isinstance",
  .free "len",
  .free "max",
  .free "min",
  .free "property",
  .free "range",
  .free "repr",
  .free "str",
  .free "sum",
  .free "tuple",
  .free "zip",
  .int "MOST_SEATS" 12,
  .int "MOST_KINDS" 5,
  .int "MOST_PRICE" 1000000,
  .int "MOST_WEIGHTS" 9,
  .int "MOST_SUM" 1000,
  .str "LETTERS" "abcdefghijklmnopqrstuvwxyz",
  .str "DIGITS" "0123456789",
  .int "LONGEST_NAME" 8,
  .int "LONGEST_NUMBER" 10,
  .str "PLAN" "plan",
  .cls "Plan",
  .mkr "Plan",
  .noat "Plan" "held_seats",
  .noat "Plan" "held_kinds",
  .meth "Plan" "__init__",
  .meth "Plan" "__len__",
  .meth "Plan" "__bool__",
  .meth "Plan" "__iter__",
  .meth "Plan" "__str__",
  .meth "Plan" "__eq__",
  .meth "Plan" "later",
  .meth "Plan" "chance"]
def bools (K : PySem.W.Frag) : List Bool := [propB K "Plan" "seats",
  propB K "Plan" "kinds",
  insB K "Plan",
  tupB K "ZERO" [.int 0, .int 1]]
def ex (K : PySem.W.Frag) : Bool := (facts.all fun f => f.ok K) && (bools K).all id
/-- what stands behind the top of this text -/
structure Tp (K : PySem.W.Frag) (mg : Str → Option Value) : Prop where
  c : SaysY ex fn K
  t : Top K mg
section
variable {K : PySem.W.Frag} {mg : Str → Option Value}
theorem Tp.fa (W : Tp K mg) : (facts.all fun f => f.ok K) = true := (ba W.c.more).1
theorem Tp.bo (W : Tp K mg) (i : Nat) {b : Bool} (e : (bools K)[i]? = some b := by rfl) : b = true := List.all_eq_true.mp (ba (show ((facts.all fun f => f.ok K) && (bools K).all id) = true from W.c.more)).2 b (List.mem_of_getElem? e)
theorem g_BadValue (W : Tp K mg) : mg "BadValue" = some (.ref (ga K "BadValue")) := W.t.glo (facts_at W.fa 0)
theorem g_InvalidText (W : Tp K mg) : mg "InvalidText" = some (.ref (ga K "InvalidText")) := W.t.glo (facts_at W.fa 1)
theorem g_InvalidSeats (W : Tp K mg) : mg "InvalidSeats" = some (.ref (ga K "InvalidSeats")) := W.t.glo (facts_at W.fa 2)
theorem g_InvalidStage (W : Tp K mg) : mg "InvalidStage" = some (.ref (ga K "InvalidStage")) := W.t.glo (facts_at W.fa 3)
theorem g_InvalidIndex (W : Tp K mg) : mg "InvalidIndex" = some (.ref (ga K "InvalidIndex")) := W.t.glo (facts_at W.fa 4)
theorem g_InvalidNumber (W : Tp K mg) : mg "InvalidNumber" = some (.ref (ga K "InvalidNumber")) := W.t.glo (facts_at W.fa 5)
theorem g_NotAPlan (W : Tp K mg) : mg "NotAPlan" = some (.ref (ga K "NotAPlan")) := W.t.glo (facts_at W.fa 6)
theorem g_InvalidKinds (W : Tp K mg) : mg "InvalidKinds" = some (.ref (ga K "InvalidKinds")) := W.t.glo (facts_at W.fa 7)
theorem g_ZERO (W : Tp K mg) : mg "ZERO" = some (.ref (ga K "ZERO")) := W.t.glo (facts_at W.fa 8)
theorem g_is_whole (W : Tp K mg) : mg "is_whole" = some (.ref (ga K "is_whole")) := W.t.glo (facts_at W.fa 9)
theorem g_is_integer (W : Tp K mg) : mg "is_integer" = some (.ref (ga K "is_integer")) := W.t.glo (facts_at W.fa 10)
theorem g_is_name (W : Tp K mg) : mg "is_name" = some (.ref (ga K "is_name")) := W.t.glo (facts_at W.fa 11)
theorem g_is_tuple_of (W : Tp K mg) : mg "is_tuple_of" = some (.ref (ga K "is_tuple_of")) := W.t.glo (facts_at W.fa 12)
theorem g_written (W : Tp K mg) : mg "written" = some (.ref (ga K "written")) := W.t.glo (facts_at W.fa 13)
theorem g_common (W : Tp K mg) : mg "common" = some (.ref (ga K "common")) := W.t.glo (facts_at W.fa 14)
theorem g_lowest (W : Tp K mg) : mg "lowest" = some (.ref (ga K "lowest")) := W.t.glo (facts_at W.fa 15)
theorem g_plus (W : Tp K mg) : mg "plus" = some (.ref (ga K "plus")) := W.t.glo (facts_at W.fa 16)
theorem g_minus (W : Tp K mg) : mg "minus" = some (.ref (ga K "minus")) := W.t.glo (facts_at W.fa 17)
theorem g_times (W : Tp K mg) : mg "times" = some (.ref (ga K "times")) := W.t.glo (facts_at W.fa 18)
theorem g_is_above (W : Tp K mg) : mg "is_above" = some (.ref (ga K "is_above")) := W.t.glo (facts_at W.fa 19)
theorem g_are_weights (W : Tp K mg) : mg "are_weights" = some (.ref (ga K "are_weights")) := W.t.glo (facts_at W.fa 20)
theorem g_is_kind (W : Tp K mg) : mg "is_kind" = some (.ref (ga K "is_kind")) := W.t.glo (facts_at W.fa 21)
theorem g_check_kinds (W : Tp K mg) : mg "check_kinds" = some (.ref (ga K "check_kinds")) := W.t.glo (facts_at W.fa 22)
theorem g_kind_of (W : Tp K mg) : mg "kind_of" = some (.ref (ga K "kind_of")) := W.t.glo (facts_at W.fa 23)
theorem g_Plan (W : Tp K mg) : mg "Plan" = some (.ref (ga K "Plan")) := W.t.glo (facts_at W.fa 24)
theorem g_check_plan (W : Tp K mg) : mg "check_plan" = some (.ref (ga K "check_plan")) := W.t.glo (facts_at W.fa 25)
theorem g_check_stage (W : Tp K mg) : mg "check_stage" = some (.ref (ga K "check_stage")) := W.t.glo (facts_at W.fa 26)
theorem g_check_left (W : Tp K mg) : mg "check_left" = some (.ref (ga K "check_left")) := W.t.glo (facts_at W.fa 27)
theorem g_chances_of (W : Tp K mg) : mg "chances_of" = some (.ref (ga K "chances_of")) := W.t.glo (facts_at W.fa 28)
theorem g_value_of (W : Tp K mg) : mg "value_of" = some (.ref (ga K "value_of")) := W.t.glo (facts_at W.fa 29)
theorem g_best_numbers (W : Tp K mg) : mg "best_numbers" = some (.ref (ga K "best_numbers")) := W.t.glo (facts_at W.fa 30)
theorem g_table_of (W : Tp K mg) : mg "table_of" = some (.ref (ga K "table_of")) := W.t.glo (facts_at W.fa 31)
theorem g_rises_of (W : Tp K mg) : mg "rises_of" = some (.ref (ga K "rises_of")) := W.t.glo (facts_at W.fa 32)
theorem g_worth (W : Tp K mg) : mg "worth" = some (.ref (ga K "worth")) := W.t.glo (facts_at W.fa 33)
theorem g_rise (W : Tp K mg) : mg "rise" = some (.ref (ga K "rise")) := W.t.glo (facts_at W.fa 34)
theorem g_l_well (W : Tp K mg) : mg "_law_well" = some (.ref (ga K "_law_well")) := W.t.glo (facts_at W.fa 35)
theorem g_l_dip (W : Tp K mg) : mg "_law_dip" = some (.ref (ga K "_law_dip")) := W.t.glo (facts_at W.fa 36)
theorem g_l_from (W : Tp K mg) : mg "_law_from" = some (.ref (ga K "_law_from")) := W.t.glo (facts_at W.fa 37)
theorem g_l_words (W : Tp K mg) : mg "_law_words" = some (.ref (ga K "_law_words")) := W.t.glo (facts_at W.fa 38)
theorem g_l_loads (W : Tp K mg) : mg "_law_loads" = some (.ref (ga K "_law_loads")) := W.t.glo (facts_at W.fa 39)
theorem g_l_rows (W : Tp K mg) : mg "_law_rows" = some (.ref (ga K "_law_rows")) := W.t.glo (facts_at W.fa 40)
theorem g_l_case (W : Tp K mg) : mg "_law_case" = some (.ref (ga K "_law_case")) := W.t.glo (facts_at W.fa 41)
theorem g_l_low (W : Tp K mg) : mg "_law_low" = some (.ref (ga K "_law_low")) := W.t.glo (facts_at W.fa 42)
theorem g_l_right (W : Tp K mg) : mg "_law_right" = some (.ref (ga K "_law_right")) := W.t.glo (facts_at W.fa 43)
theorem g_law (W : Tp K mg) : mg "law" = some (.ref (ga K "law")) := W.t.glo (facts_at W.fa 44)
theorem n_TypeError (W : Tp K mg) : mg "TypeError" = none := W.t.free (facts_at W.fa 45)
theorem n_abs (W : Tp K mg) : mg "abs" = none := W.t.free (facts_at W.fa 46)
theorem n_all (W : Tp K mg) : mg "all" = none := W.t.free (facts_at W.fa 47)
theorem n_bool (W : Tp K mg) : mg "bool" = none := W.t.free (facts_at W.fa 48)
theorem n_divmod (W : Tp K mg) : mg "divmod" = none := W.t.free (facts_at W.fa 49)
theorem n_enumerate (W : Tp K mg) : mg "enumerate" = none := W.t.free (facts_at W.fa 50)
theorem n_int (W : Tp K mg) : mg "int" = none := W.t.free (facts_at W.fa 51)
theorem n_isinstance (W : Tp K mg) : mg "isinstance" = none := W.t.free (facts_at W.fa 52)
theorem n_len (W : Tp K mg) : mg "len" = none := W.t.free (facts_at W.fa 53)
theorem n_max (W : Tp K mg) : mg "max" = none := W.t.free (facts_at W.fa 54)
theorem n_min (W : Tp K mg) : mg "min" = none := W.t.free (facts_at W.fa 55)
theorem n_property (W : Tp K mg) : mg "property" = none := W.t.free (facts_at W.fa 56)
theorem n_range (W : Tp K mg) : mg "range" = none := W.t.free (facts_at W.fa 57)
theorem n_repr (W : Tp K mg) : mg "repr" = none := W.t.free (facts_at W.fa 58)
theorem n_str (W : Tp K mg) : mg "str" = none := W.t.free (facts_at W.fa 59)
theorem n_sum (W : Tp K mg) : mg "sum" = none := W.t.free (facts_at W.fa 60)
theorem n_tuple (W : Tp K mg) : mg "tuple" = none := W.t.free (facts_at W.fa 61)
theorem n_zip (W : Tp K mg) : mg "zip" = none := W.t.free (facts_at W.fa 62)
theorem i_MOST_SEATS (W : Tp K mg) : ∃ u, mg "MOST_SEATS" = some u ∧ RelV (.int 12) u := W.t.int (facts_at W.fa 63)
theorem i_MOST_KINDS (W : Tp K mg) : ∃ u, mg "MOST_KINDS" = some u ∧ RelV (.int 5) u := W.t.int (facts_at W.fa 64)
theorem i_MOST_PRICE (W : Tp K mg) : ∃ u, mg "MOST_PRICE" = some u ∧ RelV (.int 1000000) u := W.t.int (facts_at W.fa 65)
theorem i_MOST_WEIGHTS (W : Tp K mg) : ∃ u, mg "MOST_WEIGHTS" = some u ∧ RelV (.int 9) u := W.t.int (facts_at W.fa 66)
theorem i_MOST_SUM (W : Tp K mg) : ∃ u, mg "MOST_SUM" = some u ∧ RelV (.int 1000) u := W.t.int (facts_at W.fa 67)
theorem i_LETTERS (W : Tp K mg) : ∃ u, mg "LETTERS" = some u ∧ RelV (.str "abcdefghijklmnopqrstuvwxyz") u := W.t.str (facts_at W.fa 68)
theorem i_DIGITS (W : Tp K mg) : ∃ u, mg "DIGITS" = some u ∧ RelV (.str "0123456789") u := W.t.str (facts_at W.fa 69)
theorem i_LONGEST_NAME (W : Tp K mg) : ∃ u, mg "LONGEST_NAME" = some u ∧ RelV (.int 8) u := W.t.int (facts_at W.fa 70)
theorem i_LONGEST_NUMBER (W : Tp K mg) : ∃ u, mg "LONGEST_NUMBER" = some u ∧ RelV (.int 10) u := W.t.int (facts_at W.fa 71)
theorem i_PLAN (W : Tp K mg) : ∃ u, mg "PLAN" = some u ∧ RelV (.str "plan") u := W.t.str (facts_at W.fa 72)
theorem c_Plan (W : Tp K mg) : Cls K (ga K "Plan") := cls_ok (facts_at W.fa 73)
theorem m_Plan (W : Tp K mg) : Mk K (ga K "Plan") (ma K (ga K "Plan") "__init__") := mkr_ok (facts_at W.fa 74)
theorem a_Plan_held_seats (W : Tp K mg) : NoAttr K (ga K "Plan") "held_seats" := noat_ok (facts_at W.fa 75)
theorem a_Plan_held_kinds (W : Tp K mg) : NoAttr K (ga K "Plan") "held_kinds" := noat_ok (facts_at W.fa 76)
theorem me_Plan_init (W : Tp K mg) : Meth K (ga K "Plan") "__init__" (ma K (ga K "Plan") "__init__") := meth_ok (facts_at W.fa 77)
theorem me_Plan_len (W : Tp K mg) : Meth K (ga K "Plan") "__len__" (ma K (ga K "Plan") "__len__") := meth_ok (facts_at W.fa 78)
theorem me_Plan_bool (W : Tp K mg) : Meth K (ga K "Plan") "__bool__" (ma K (ga K "Plan") "__bool__") := meth_ok (facts_at W.fa 79)
theorem me_Plan_iter (W : Tp K mg) : Meth K (ga K "Plan") "__iter__" (ma K (ga K "Plan") "__iter__") := meth_ok (facts_at W.fa 80)
theorem me_Plan_str (W : Tp K mg) : Meth K (ga K "Plan") "__str__" (ma K (ga K "Plan") "__str__") := meth_ok (facts_at W.fa 81)
theorem me_Plan_eq (W : Tp K mg) : Meth K (ga K "Plan") "__eq__" (ma K (ga K "Plan") "__eq__") := meth_ok (facts_at W.fa 82)
theorem me_Plan_later (W : Tp K mg) : Meth K (ga K "Plan") "later" (ma K (ga K "Plan") "later") := meth_ok (facts_at W.fa 83)
theorem me_Plan_chance (W : Tp K mg) : Meth K (ga K "Plan") "chance" (ma K (ga K "Plan") "chance") := meth_ok (facts_at W.fa 84)
theorem p_Plan_seats (W : Tp K mg) : PropOf K (ga K "Plan") "seats" (ma K (ga K "Plan") "seats") (pP "Plan" "seats" K) := propB_ok (W.bo 0)
theorem p_Plan_kinds (W : Tp K mg) : PropOf K (ga K "Plan") "kinds" (ma K (ga K "Plan") "kinds") (pP "Plan" "kinds" K) := propB_ok (W.bo 1)
theorem is_Plan (W : Tp K mg) : C8.InsC K (ga K "Plan") := insB_ok (c_Plan W) (W.bo 2)
theorem t_ZERO (W : Tp K mg) : ∀ H : Hp, SqT K H (ga K "ZERO") [V.int 0, V.int 1] := tupB_ok (W.bo 3)
theorem f_InvalidText_init (W : Tp K mg) : ∃ fd, FnP K d_InvalidText_init fd := W.c.def_ 0
theorem f_InvalidSeats_init (W : Tp K mg) : ∃ fd, FnP K d_InvalidSeats_init fd := W.c.def_ 1
theorem f_InvalidStage_init (W : Tp K mg) : ∃ fd, FnP K d_InvalidStage_init fd := W.c.def_ 2
theorem f_InvalidIndex_init (W : Tp K mg) : ∃ fd, FnP K d_InvalidIndex_init fd := W.c.def_ 3
theorem f_InvalidNumber_init (W : Tp K mg) : ∃ fd, FnP K d_InvalidNumber_init fd := W.c.def_ 4
theorem f_NotAPlan_init (W : Tp K mg) : ∃ fd, FnP K d_NotAPlan_init fd := W.c.def_ 5
theorem f_InvalidKinds_init (W : Tp K mg) : ∃ fd, FnP K d_InvalidKinds_init fd := W.c.def_ 6
theorem f_is_whole (W : Tp K mg) : ∃ fd, FnP K d_is_whole fd := W.c.def_ 7
theorem f_is_integer (W : Tp K mg) : ∃ fd, FnP K d_is_integer fd := W.c.def_ 8
theorem f_is_name (W : Tp K mg) : ∃ fd, FnP K d_is_name fd := W.c.def_ 9
theorem f_is_tuple_of (W : Tp K mg) : ∃ fd, FnP K d_is_tuple_of fd := W.c.def_ 10
theorem f_written (W : Tp K mg) : ∃ fd, FnP K d_written fd := W.c.def_ 11
theorem f_common (W : Tp K mg) : ∃ fd, FnP K d_common fd := W.c.def_ 12
theorem f_lowest (W : Tp K mg) : ∃ fd, FnP K d_lowest fd := W.c.def_ 13
theorem f_plus (W : Tp K mg) : ∃ fd, FnP K d_plus fd := W.c.def_ 14
theorem f_minus (W : Tp K mg) : ∃ fd, FnP K d_minus fd := W.c.def_ 15
theorem f_times (W : Tp K mg) : ∃ fd, FnP K d_times fd := W.c.def_ 16
theorem f_is_above (W : Tp K mg) : ∃ fd, FnP K d_is_above fd := W.c.def_ 17
theorem f_are_weights (W : Tp K mg) : ∃ fd, FnP K d_are_weights fd := W.c.def_ 18
theorem f_is_kind (W : Tp K mg) : ∃ fd, FnP K d_is_kind fd := W.c.def_ 19
theorem f_check_kinds (W : Tp K mg) : ∃ fd, FnP K d_check_kinds fd := W.c.def_ 20
theorem f_kind_of (W : Tp K mg) : ∃ fd, FnP K d_kind_of fd := W.c.def_ 21
theorem f_Plan_init (W : Tp K mg) : ∃ fd, FnP K d_Plan_init fd := W.c.def_ 22
theorem f_Plan_seats (W : Tp K mg) : ∃ fd, FnP K d_Plan_seats fd := W.c.def_ 23
theorem f_Plan_kinds (W : Tp K mg) : ∃ fd, FnP K d_Plan_kinds fd := W.c.def_ 24
theorem f_Plan_len (W : Tp K mg) : ∃ fd, FnP K d_Plan_len fd := W.c.def_ 25
theorem f_Plan_bool (W : Tp K mg) : ∃ fd, FnP K d_Plan_bool fd := W.c.def_ 26
theorem f_Plan_iter (W : Tp K mg) : ∃ fd, FnP K d_Plan_iter fd := W.c.def_ 27
theorem f_Plan_str (W : Tp K mg) : ∃ fd, FnP K d_Plan_str fd := W.c.def_ 28
theorem f_Plan_eq (W : Tp K mg) : ∃ fd, FnP K d_Plan_eq fd := W.c.def_ 29
theorem f_Plan_later (W : Tp K mg) : ∃ fd, FnP K d_Plan_later fd := W.c.def_ 30
theorem f_Plan_chance (W : Tp K mg) : ∃ fd, FnP K d_Plan_chance fd := W.c.def_ 31
theorem f_check_plan (W : Tp K mg) : ∃ fd, FnP K d_check_plan fd := W.c.def_ 32
theorem f_check_stage (W : Tp K mg) : ∃ fd, FnP K d_check_stage fd := W.c.def_ 33
theorem f_check_left (W : Tp K mg) : ∃ fd, FnP K d_check_left fd := W.c.def_ 34
theorem f_chances_of (W : Tp K mg) : ∃ fd, FnP K d_chances_of fd := W.c.def_ 35
theorem f_value_of (W : Tp K mg) : ∃ fd, FnP K d_value_of fd := W.c.def_ 36
theorem f_best_numbers (W : Tp K mg) : ∃ fd, FnP K d_best_numbers fd := W.c.def_ 37
theorem f_table_of (W : Tp K mg) : ∃ fd, FnP K d_table_of fd := W.c.def_ 38
theorem f_rises_of (W : Tp K mg) : ∃ fd, FnP K d_rises_of fd := W.c.def_ 39
theorem f_worth (W : Tp K mg) : ∃ fd, FnP K d_worth fd := W.c.def_ 40
theorem f_rise (W : Tp K mg) : ∃ fd, FnP K d_rise fd := W.c.def_ 41
theorem f_l_well (W : Tp K mg) : ∃ fd, FnP K d_l_well fd := W.c.def_ 42
theorem f_l_dip (W : Tp K mg) : ∃ fd, FnP K d_l_dip fd := W.c.def_ 43
theorem f_l_from (W : Tp K mg) : ∃ fd, FnP K d_l_from fd := W.c.def_ 44
theorem f_l_words (W : Tp K mg) : ∃ fd, FnP K d_l_words fd := W.c.def_ 45
theorem f_l_loads (W : Tp K mg) : ∃ fd, FnP K d_l_loads fd := W.c.def_ 46
theorem f_l_rows (W : Tp K mg) : ∃ fd, FnP K d_l_rows fd := W.c.def_ 47
theorem f_l_case (W : Tp K mg) : ∃ fd, FnP K d_l_case fd := W.c.def_ 48
theorem f_l_low (W : Tp K mg) : ∃ fd, FnP K d_l_low fd := W.c.def_ 49
theorem f_l_right (W : Tp K mg) : ∃ fd, FnP K d_l_right fd := W.c.def_ 50
theorem f_law (W : Tp K mg) : ∃ fd, FnP K d_law fd := W.c.def_ 51
end
end Dl
set_option Elab.async false
set_option linter.all false
set_option maxRecDepth 100000
set_option maxHeartbeats 0
namespace Dl
open PySem PySem.Spec PyProof.Rows L2 He
def loose0 : List Str := [("_wall" : Str), ("BadValue" : Str), ("InvalidText" : Str), ("InvalidSeats" : Str), ("InvalidStage" : Str), ("InvalidIndex" : Str), ("InvalidNumber" : Str), ("NotAPlan" : Str), ("InvalidKinds" : Str), ("MOST_SEATS" : Str), ("MOST_KINDS" : Str), ("MOST_PRICE" : Str), ("MOST_WEIGHTS" : Str), ("MOST_SUM" : Str), ("LETTERS" : Str), ("DIGITS" : Str), ("LONGEST_NAME" : Str), ("LONGEST_NUMBER" : Str), ("ZERO" : Str), ("is_whole" : Str), ("is_integer" : Str), ("is_name" : Str), ("is_tuple_of" : Str), ("written" : Str), ("common" : Str), ("lowest" : Str), ("plus" : Str), ("minus" : Str), ("times" : Str), ("is_above" : Str), ("PLAN" : Str), ("are_weights" : Str), ("is_kind" : Str), ("check_kinds" : Str), ("kind_of" : Str), ("Plan" : Str), ("check_plan" : Str), ("check_stage" : Str), ("check_left" : Str), ("chances_of" : Str)]
def loose1 : List Str := [("PLAN" : Str), ("are_weights" : Str), ("is_kind" : Str), ("check_kinds" : Str), ("kind_of" : Str), ("Plan" : Str), ("check_plan" : Str), ("check_stage" : Str), ("check_left" : Str), ("chances_of" : Str), ("value_of" : Str), ("best_numbers" : Str), ("table_of" : Str), ("rises_of" : Str), ("worth" : Str), ("rise" : Str), ("_law_well" : Str), ("_law_dip" : Str), ("_law_from" : Str), ("_law_words" : Str), ("_law_loads" : Str), ("_law_rows" : Str), ("_law_case" : Str), ("_law_low" : Str), ("_law_right" : Str)]
abbrev loose : List Str := loose0 ++ loose1
abbrev R : PySem.W.OpenRow := PySem.W.OpenLaw.row PySem.Challenge.rw_dearerlater_k14_whole_last_kinds
abbrev hk : PySem.W.Hook := hookY 6 ex fn
def ob (s : PySem.W.SharedT) : AlY := obsYG 6 ex fn (HandSHeadRun.getT s)
theorem ob_eq (s : PySem.W.SharedT) : ob s = hk.obs s.abs := obsYG_eq (HandSHeadRun.getT_eq s)
theorem run (w : World) : HandSHeadRun.RunEq R (PySem.W.view R.prog [60]) hk ob 20000 loose w := by
  intro os
  kernel_rfl
end Dl
set_option Elab.async false
set_option linter.all false
set_option maxRecDepth 100000
set_option maxHeartbeats 4000000
namespace Dl
open PySem PySem.Spec PyProof.Rows L2 He
/-! ### data without lists -/
mutual
def noL : PyData → Bool
  | .none | .bool _ | .int _ | .str _ => true
  | .tuple ds => noLs ds
  | _ => false
def noLs : List PyData → Bool
  | [] => true
  | d :: ds => noL d && noLs ds
end
/-- what stays where the changing lists (and other changing objects) change -/
def Stab (K : PySem.W.Frag) : HO → Prop
  | .tup _ => True
  | .frz _ _ => True
  | .ins C _ _ => C = ga K "Plan"
  | _ => False
def Sk (K : PySem.W.Frag) (H H' : Hp) : Prop := ∀ b o, H b = some o → Stab K o → H' b = some o
/-- all but the object at a is as it was -/
def But (a : Addr) (H H' : Hp) : Prop := ∀ b o, b ≠ a → H b = some o → H' b = some o
section
variable {K : PySem.W.Frag} {H H1 H2 : Hp} {a b : Addr} {o : HO} {xs : List V} {v : V} {d : PyData}
theorem Sk.refl : Sk K H H := fun _ _ h _ => h
theorem Sk.trans (x : Sk K H H1) (y : Sk K H1 H2) : Sk K H H2 := fun b o h s => y b o (x b o h s) s
theorem Sk.of (x : Same H H1) : Sk K H H1 := fun b o h _ => x b o h
theorem Sk.but (x : But a H H1) (h : H a = some o) (s : ¬ Stab K o) : Sk K H H1 := fun b u e t => x b u (fun z => by
  rw [z, h] at e
  cases e
  exact s t) e
theorem Sk.butL (x : But a H H1) (h : H a = some (.lst xs)) : Sk K H H1 := Sk.but x h fun z => z
theorem But.refl : But a H H := fun _ _ _ h => h
theorem But.trans (x : But a H H1) (y : But a H1 H2) : But a H H2 := fun b o n h => y b o n (x b o n h)
theorem But.of (x : Same H H1) : But a H H1 := fun b o _ h => x b o h
theorem But.upd (x : But a H H1) : But a H (upd H1 a o) := fun b u n e => by
  rw [upd_ne n]
  exact x b u n e
theorem _root_.L2.Same.new (h : H a = none) : Same H (upd H a o) := fun b u e => by
  rw [upd_ne (ne_of_none e h)]
  exact e
/-- a change of what was not there -/
theorem _root_.L2.Same.mut (x : Same H H1) (h : H a = none) : Same H (upd H1 a o) := fun b u e => by
  rw [upd_ne (ne_of_none e h)]
  exact x b u e
theorem _root_.L2.Same.no (x : Same H H1) (h : H1 a = none) : H a = none := x.free h
theorem But.no (x : But a H H1) (hb : H1 b = none) (ha : H1 a = some o) : H b = none := by
  cases q : H b with
  | none => rfl
  | some u =>
    by_cases e : b = a
    · rw [e, ha] at hb
      cases hb
    · rw [x b u e q] at hb
      cases hb
theorem Sk.seqT (x : Sk K H H1) (h : SqT K H a xs) : SqT K H1 a xs := by
  rcases h with (h | ⟨o, h⟩) | h
  · exact .inl (.inl (x _ _ h trivial))
  · exact .inl (.inr ⟨o, x _ _ h trivial⟩)
  · exact .inr h
theorem _root_.L2.Same.seqT (x : Same H H1) (h : SqT K H a xs) : SqT K H1 a xs := (Sk.of x).seqT h
theorem _root_.L2.Same.seqL (x : Same H H1) (h : SqL K H a xs) : SqL K H1 a xs := x.seq h
mutual
theorem dp_sk (x : Sk K H H1) : ∀ (d : PyData) (v : V), noL d = true → Dp K H v d → Dp K H1 v d
  | .none, _, _, h => by cases h; exact .non
  | .bool b, _, _, h => by cases h; exact .bl b
  | .int i, _, _, h => by cases h; exact .int i
  | .str y, _, _, h => by cases h; exact .str y
  | .list ds, _, n, _ => by cases n
  | .dict ds, _, n, _ => by cases n
  | .tuple ds, _, n, h => by
    cases h with
    | tup hs ha => exact .tup (x.seqT hs) (dpall_sk x ds _ n ha)
theorem dpall_sk (x : Sk K H H1) : ∀ (ds : List PyData) (vs : List V), noLs ds = true → DpAll K H vs ds → DpAll K H1 vs ds
  | [], _, _, h => by cases h; exact .nil
  | d :: ds, _, n, h => by
    cases h with
    | cons h1 h2 =>
      have n' : (noL d && noLs ds) = true := n
      rw [Bool.and_eq_true] at n'
      exact .cons (dp_sk x d _ n'.1 h1) (dpall_sk x ds _ n'.2 h2)
end
/-- a value that is data of tuples, numbers, texts -/
structure Dt (K : PySem.W.Frag) (H : Hp) (v : V) (d : PyData) : Prop where
  dp : Dp K H v d
  nl : noL d = true
structure DtAll (K : PySem.W.Frag) (H : Hp) (vs : List V) (ds : List PyData) : Prop where
  dp : DpAll K H vs ds
  nl : noLs ds = true
theorem Dt.sk (x : Sk K H H1) (h : Dt K H v d) : Dt K H1 v d := ⟨dp_sk x d v h.nl h.dp, h.nl⟩
theorem DtAll.sk {vs : List V} {ds : List PyData} (x : Sk K H H1) (h : DtAll K H vs ds) : DtAll K H1 vs ds := ⟨dpall_sk x ds vs h.nl h.dp, h.nl⟩
theorem Dt.same (x : Same H H1) (h : Dt K H v d) : Dt K H1 v d := h.sk (Sk.of x)
theorem DtAll.same {vs : List V} {ds : List PyData} (x : Same H H1) (h : DtAll K H vs ds) : DtAll K H1 vs ds := h.sk (Sk.of x)
theorem DtAll.nil : DtAll K H [] [] := ⟨.nil, rfl⟩
theorem DtAll.cons {vs : List V} {ds : List PyData} (h : Dt K H v d) (t : DtAll K H vs ds) : DtAll K H (v :: vs) (d :: ds) := ⟨.cons h.dp t.dp, by
  show (noL d && noLs ds) = true
  rw [h.nl, t.nl] <;> rfl⟩
theorem DtAll.head {vs : List V} {ds : List PyData} (h : DtAll K H (v :: vs) (d :: ds)) : Dt K H v d := by
  obtain ⟨h1, h2⟩ := h
  have n' : (noL d && noLs ds) = true := h2
  rw [Bool.and_eq_true] at n'
  cases h1 with
  | cons a b => exact ⟨a, n'.1⟩
theorem DtAll.tail {vs : List V} {ds : List PyData} (h : DtAll K H (v :: vs) (d :: ds)) : DtAll K H vs ds := by
  obtain ⟨h1, h2⟩ := h
  have n' : (noL d && noLs ds) = true := h2
  rw [Bool.and_eq_true] at n'
  cases h1 with
  | cons a b => exact ⟨b, n'.2⟩
theorem DtAll.len : ∀ {vs : List V} {ds : List PyData}, DtAll K H vs ds → vs.length = ds.length
  | [], [], _ => rfl
  | [], _ :: _, h => by cases h.dp
  | _ :: _, [], h => by cases h.dp
  | _ :: vs, _ :: ds, h => by
    rw [List.length_cons, List.length_cons, DtAll.len h.tail]
theorem DtAll.at : ∀ {vs : List V} {ds : List PyData} {i : Nat} {d : PyData}, DtAll K H vs ds → ds[i]? = some d → ∃ v, vs[i]? = some v ∧ Dt K H v d
  | [], [], _, _, _, e => by simp at e
  | [], _ :: _, _, _, h, _ => by cases h.dp
  | _ :: _, [], _, _, h, _ => by cases h.dp
  | v :: vs, d :: ds, 0, _, h, e => by
    cases e
    exact ⟨v, rfl, h.head⟩
  | v :: vs, d :: ds, i + 1, _, h, e => DtAll.at (i := i) h.tail e
theorem DtAll.atV {vs : List V} {ds : List PyData} {i : Nat} {v : V} (h : DtAll K H vs ds) (e : vs[i]? = some v) : ∃ d, ds[i]? = some d ∧ Dt K H v d := by
  have hl := h.len
  have hi : i < ds.length := by
    rw [← hl]
    exact (List.getElem?_eq_some_iff.mp e).1
  obtain ⟨w, e2, t⟩ := h.at (List.getElem?_eq_getElem hi)
  rw [e] at e2
  cases e2
  exact ⟨_, List.getElem?_eq_getElem hi, t⟩
theorem DtAll.app : ∀ {vs ws : List V} {ds es : List PyData}, DtAll K H vs ds → DtAll K H ws es → DtAll K H (vs ++ ws) (ds ++ es)
  | [], _, [], _, _, t => t
  | [], _, _ :: _, _, h, _ => by cases h.dp
  | _ :: _, _, [], _, h, _ => by cases h.dp
  | v :: vs, _, d :: ds, _, h, t => .cons h.head (DtAll.app h.tail t)
theorem Dt.tup {vs : List V} {ds : List PyData} (h : SqT K H a vs) (t : DtAll K H vs ds) : Dt K H (.ref a) (.tuple ds) := ⟨.tup h t.dp, t.nl⟩
theorem Dt.tupI {ds : List PyData} (h : Dt K H v (.tuple ds)) : ∃ p vs, v = .ref p ∧ SqT K H p vs ∧ DtAll K H vs ds := by
  obtain ⟨h1, h2⟩ := h
  cases h1 with
  | tup hs ha => exact ⟨_, _, rfl, hs, ⟨ha, h2⟩⟩
theorem Dt.int (i : Int) : Dt K H (.int i) (.int i) := ⟨.int i, rfl⟩
theorem Dt.str (x : Str) : Dt K H (.str x) (.str x) := ⟨.str x, rfl⟩
theorem Dt.non : Dt K H .non .none := ⟨.non, rfl⟩
theorem Dt.bl (x : Bool) : Dt K H (.bl x) (.bool x) := ⟨.bl x, rfl⟩
theorem Dt.intI {i : Int} (h : Dt K H v (.int i)) : v = .int i := by cases h.dp; rfl
theorem Dt.strI {x : Str} (h : Dt K H v (.str x)) : v = .str x := by cases h.dp; rfl
theorem DtAll.ints : ∀ ns : List Int, DtAll K H (ns.map V.int) (ns.map PyData.int)
  | [] => .nil
  | n :: ns => .cons (.int n) (DtAll.ints ns)
theorem DtAll.intsI : ∀ {ns : List Int} {vs : List V}, DtAll K H vs (ns.map PyData.int) → vs = ns.map V.int
  | [], [], _ => rfl
  | [], _ :: _, h => by cases h.dp
  | _ :: _, [], h => by cases h.dp
  | n :: ns, v :: vs, h => by
    have h1 : Dt K H v (.int n) := h.head
    have h2 : DtAll K H vs (ns.map PyData.int) := h.tail
    rw [h1.intI, DtAll.intsI h2] <;> rfl
/-! ### fractions -/
def encQ (q : Rat) : PyData := .tuple [.int q.num, .int q.den]
def Fq (K : PySem.W.Frag) (H : Hp) (v : V) (q : Rat) : Prop := ∃ p, v = .ref p ∧ SqT K H p [.int q.num, .int q.den]
theorem Fq.sk {q : Rat} (x : Sk K H H1) (h : Fq K H v q) : Fq K H1 v q := let ⟨p, e, s⟩ := h; ⟨p, e, x.seqT s⟩
theorem Fq.same {q : Rat} (x : Same H H1) (h : Fq K H v q) : Fq K H1 v q := h.sk (Sk.of x)
theorem Fq.dt {q : Rat} (h : Fq K H v q) : Dt K H v (encQ q) := let ⟨p, e, s⟩ := h; e ▸ Dt.tup s (.cons (.int _) (.cons (.int _) .nil))
theorem Fq.of {q : Rat} (h : Dt K H v (encQ q)) : Fq K H v q := by
  obtain ⟨p, vs, e, s, t⟩ := h.tupI
  have e2 := DtAll.intsI (ns := [q.num, (q.den : Int)]) t
  subst e2
  exact ⟨p, e, s⟩
end
end Dl
set_option Elab.async false
set_option linter.all false
set_option maxRecDepth 100000
set_option maxHeartbeats 4000000
/-! ### defs bundled: a promise, how arguments bind, that it may be called -/
namespace Dl
open PySem PySem.Spec PyProof.Rows L2 He
/-- the def at f keeps sp -/
structure FOk (P : Program) (w : World) (K : PySem.W.Frag) (mg : Str → Option Value) (base : Heap) (CX : CXT) (k : Nat) (f : Addr) (sp : Sp) : Prop where
  ex : ∃ fd ps, FnOk P w K mg base CX k f fd ps sp ∧ Binds K fd ps []
  kp : PySem.W.keepIn K (.ref f) = true
/-- .. of the module's name x -/
structure Cal (P : Program) (w : World) (K : PySem.W.Frag) (mg : Str → Option Value) (base : Heap) (CX : CXT) (k : Nat) (x : Str) (sp : Sp) : Prop where
  ok : FOk P w K mg base CX k (ga K x) sp
  g : mg x = some (.ref (ga K x))
section
variable {P : Program} {w : World} {K : PySem.W.Frag} {mg : Str → Option Value} {base : Heap} {CX : CXT} {k : Nat} {sp : Sp} {N ps : List Str}
theorem fok_mk {d : DefX} (F : ∃ fd, FnP K d fd) (S : FnScope N ps (defScope d.st)) (len : ∀ vs H Q E, sp vs H Q E → vs.length = ps.length)
    (hb : ∀ (kV doc pm : Value) (an : Option Addr) (cdv ct : Value) (us : List Value), us.length = ps.length → bindArgs (PySem.W.fnOf d.name d.qual (defArgs d.st) (defBody d.st) (defScope d.st) .none kV doc pm an cdv ct) ⟨us, []⟩ = pure (ps.zip us))
    (hbody : ∀ (f : Addr) (cdv : Value) (A : Around) (outer : List Env) (s : Shared) (H : Hp) (vs : List V) (Q : VK) (E : XK), Room k (A.deeper (envOfC d.qual (defScope d.st) s.heap.objs.size f cdv)) → sp vs H Q E →
      ∃ t, PSs (cxOf CX P w K mg base N d.qual (defScope d.st) f cdv A outer s H E).nox (defBody d.st) t ∧ t { nx := fun _ H' => Q .non H', rt := Q } (start N vs) H) : FOk P w K mg base CX (k + 1) (d.path K) sp := by
  obtain ⟨fd, F⟩ := F
  exact ⟨⟨fd, ps, FunD.ok F S len (fun cdv A outer s H vs Q E hr h => let ⟨t, h1, h2⟩ := hbody _ cdv A outer s H vs Q E hr h; ⟨t, h1.nox, h2⟩), FunD.bindsN F hb⟩, F.kp⟩
theorem FOk.mono {j : Nat} {f : Addr} (c : FOk P w K mg base CX j f sp) (h : j ≤ k) : FOk P w K mg base CX k f sp := let ⟨⟨fd, ps, F, b⟩, kp⟩ := c; ⟨⟨fd, ps, F.mono h, b⟩, kp⟩
end
section
variable {X : Cx} {CX : CXT} {k j : Nat} {C f : Addr} {sp : Sp} {E : XK} {x m : Str} {p pos apos : Pos} {e o : Expr} {es : List Expr} {te ta : TE} {t : TA}
/-- f(e, ..) -/
theorem pk (c : Cal X.prog X.w X.K X.mg X.base CX k x sp) (hr : Room j X.A) (hx : Passes CX X E) (ha : PA X (e :: es) t) (hk : k ≤ j := by decide) (hg : Gl X x := by rfl)
    (hdb : (x == ("__debug__" : Str)) = false := by decide) (he : starEach (e :: es) X.env = (false, eval e X.env) :: starEach es X.env := by rfl) (hpl : (backTo pos (starEach es X.env)).any (·.1) = false := by rfl) :
    PE X (.Call (.Name x p) (e :: es) [] pos) (tCall sp [] E t) := by
  obtain ⟨⟨⟨fd, ps, F, b⟩, kp⟩, g⟩ := c
  exact pe_call F (hr.mono hk) hg g kp b .nil hx ha hdb he hpl
theorem pk0 (c : Cal X.prog X.w X.K X.mg X.base CX k x sp) (hr : Room j X.A) (hx : Passes CX X E) (hk : k ≤ j := by decide) (hg : Gl X x := by rfl)
    (hdb : (x == ("__debug__" : Str)) = false := by decide) : PE X (.Call (.Name x p) [] [] pos) (tCall sp [] E tNil) := by
  obtain ⟨⟨⟨fd, ps, F, b⟩, kp⟩, g⟩ := c
  exact pe_call0 F (hr.mono hk) hg g kp b .nil hx hdb
/-- C(e, ..) -/
theorem pkMake (M : Mk X.K C f) (c : FOk X.prog X.w X.K X.mg X.base CX k f sp) (hr : Room j X.A) (hm : X.mg x = some (.ref C)) (hx : Passes CX X E)
    (ha : PA X (e :: es) t) (hk : k + 1 ≤ j := by decide) (hg : Gl X x := by rfl) (hdb : (x == ("__debug__" : Str)) = false := by decide) (he : starEach (e :: es) X.env = (false, eval e X.env) :: starEach es X.env := by rfl) (hpl : (backTo pos (starEach es X.env)).any (·.1) = false := by rfl) :
    PE X (.Call (.Name x p) (e :: es) [] pos) (tMake C sp [] E t) := by
  obtain ⟨⟨fd, ps, F, b⟩, kp⟩ := c
  exact pe_make M F (hr.mono hk) hg hm b .nil hx ha hdb he hpl
/-- e.f, a property -/
theorem pkProp {g : Addr} {fn : Str} (he : PE X e te) (c : Cls X.K C) (hp : PropOf X.K C fn p' g) (F : FOk X.prog X.w X.K X.mg X.base CX k g sp) (hr : Room j X.A) (hx : Passes CX X.nox E) (hk : k + 1 ≤ j := by decide)
    (hab : attributeBase e fn X.env (eval e X.env) = eval e X.env := by rfl) : PE X (.Attribute e fn pos) (tProp C sp [] E te) := by
  obtain ⟨⟨fd, ps, F, b⟩, kp⟩ := F
  exact pe_prop he c hp F (hr.mono hk) b .nil hx hab
/-- o.m(e, ..) -/
theorem pkMeth {pl : Sem Bool} (he : PE X o ta) (c : Cls X.K C) (hm : Meth X.K C m f) (F : FOk X.prog X.w X.K X.mg X.base CX k f sp) (hr : Room j X.A) (hx : Passes CX X E) (ha : PA X (e :: es) t) (hk : k ≤ j := by decide)
    (hst : starEach (e :: es) X.env = (false, eval e X.env) :: starEach es X.env := by rfl) (hpl : (backTo pos (starEach es X.env)).any (·.1) = false := by rfl)
    (ht : eval (.Call (.Attribute o m apos) (e :: es) [] pos) X.env = (do
      let ov ← eval o X.env
      standAt apos.atName
      let (f, first) ← holding [ov] (getMethod ov m pl)
      callWith pos f first (backTo pos (starEach (e :: es) X.env)) (backToKw pos (keywordEach [] X.env))) := by rfl) :
    PE X (.Call (.Attribute o m apos) (e :: es) [] pos) (tMeth C m sp [] E ta t) := by
  obtain ⟨⟨fd, ps, F, b⟩, kp⟩ := F
  exact pe_meth he c hm F (hr.mono hk) b .nil hx ha hst hpl ht
/-- len(o), o an instance with its own __len__ -/
def rLenO (C : Addr) (sp : Sp) : List V → Hp → VK → Prop := fun xs H Q => ∃ a dx fs, xs = [.ref a] ∧ H a = some (.ins C dx fs) ∧ sp [.ref a] H (fun v H2 => ∃ n : Int, v = .int n ∧ (0 ≤ n ∧ n < 2 ^ 63) ∧ Q (.int n) H2) E0
theorem call_lenO (c : Cls X.K C) (m : Meth X.K C "__len__" f) (F : FOk X.prog X.w X.K X.mg X.base CX0 k f sp) (hr : Room j X.A) (hk : k + 1 ≤ j := by decide) : CallR X (.builtin "len") (rLenO C sp) := by
  intro pins s σ H xs us Q I r h
  obtain ⟨a, dx, fs, rfl, ea, q⟩ := h
  obtain ⟨u, rfl, r1⟩ := vals1 r
  obtain rfl : u = Value.ref a := r1
  obtain ⟨⟨fd, ps, F, b⟩, kp⟩ := F
  obtain ⟨mA, O, _, _, _, _⟩ := ins_get I.hok ea
  obtain ⟨od, J, _⟩ := O.look
  obtain ⟨mm, Fr0⟩ := I.fr
  have hl : ([Value.ref a] ++ []).length = ps.length := (F.len _ _ _ _ q).symm ▸ rfl
  refine PySem.W.len_K Fr0 I.ok.mod.kin J m.at_ m.fn ?_
  refine wpAny_call (codeAny_mono (F.run X.A.in1 X.stack s H ⟨[.ref a], []⟩ [.ref a] [.ref a] _ E0 ((hr.mono hk).in1) I.env0.in1 (b s [.ref a] I.kIn hl) (.cons rfl .nil) q) fun r s' hq => ?_)
  cases r with
  | error er => exact False.elim hq
  | ok fl =>
    cases fl with
    | ret u =>
      obtain ⟨v, H', I3, rv, n, ev, hn, q3⟩ := I.after hq
      subst ev
      obtain ⟨t, rfl⟩ := rv
      refine ⟨hn, ?_⟩
      exact ⟨.int n, H', I3.tok _, ⟨_, rfl⟩, q3⟩
    | next => exact False.elim hq
    | brk => exact False.elim hq
    | cont => exact False.elim hq
end
/-! ### sum of a tuple of ints -/
def rSumT (K : PySem.W.Frag) : List V → Hp → VK → Prop := fun vs H Q => ∃ (a : Addr) (ns : List Int), vs = [V.ref a] ∧ SqT K H a (ns.map V.int) ∧ Q (.int ns.sum) H
theorem preSum_list (ns : List Int) : ∀ j, PySem.preSum (fun i => ns.getD i 0) j = (ns.take j).sum
  | 0 => by simp [PySem.preSum]
  | j + 1 => by
    show PySem.preSum (fun i => ns.getD i 0) j + ns.getD j 0 = _
    rw [preSum_list ns j]
    by_cases h : j < ns.length
    · rw [sum_take (List.getElem?_eq_getElem h), List.getD_eq_getElem?_getD, List.getElem?_eq_getElem h] <;> rfl
    · rw [List.take_of_length_le (by omega), List.take_of_length_le (by omega), List.getD_eq_getElem?_getD, List.getElem?_eq_none (by omega)]
      exact Int.add_zero _
theorem cr_sumT {X : Cx} (hc : X.calm = true) : CallR X (.builtin "sum") (rSumT X.K) := by
  intro pins s σ H xs us Q I r h
  obtain ⟨a, ns, rfl, hs, q⟩ := h
  obtain ⟨u, rfl, r1⟩ := vals1 r
  obtain rfl : u = Value.ref a := r1
  obtain ⟨its, rv, ht, hz⟩ := I.tuple hs
  have hl : its.length = ns.length := by
    rw [← rv.length, List.length_map]
  refine PySem.call_sum_walkG (PySem.wpAny_pyIter_tuple (items := its.toArray) ht ?_)
  obtain ⟨o, ho, _⟩ := id ht
  have hlt : a < s.heap.objs.size := Heap.lt_size ho
  refine ⟨_, [s.heap.objs.size, a], [s.heap.objs.size], its.toArray.size, _, _, fun i => ns.getD i 0, rfl, PySem.Walks.tuple (A := X.A.in1) (I.ok.hd hc) _ a (Nat.ne_of_lt hlt) its.toArray, ⟨⟨_, Heap.get?_push_size _ rfl, rfl, rfl⟩, ?_⟩, fun b hb => ?_, fun i v hv => ?_, fun h' tk t' hk => ?_⟩
  · obtain ⟨o, ho, x⟩ := ht
    exact ⟨o, Heap.get?_push_of_some _ ho, x⟩
  · show b < _
    rw [Heap.size_push]
    have hb' : b = s.heap.objs.size ∨ b = a := by simpa using hb
    rcases hb' with rfl | rfl
    · exact Nat.lt_succ_self _
    · exact Nat.lt_succ_of_lt hlt
  · have hv' : its[i]? = some v := by simpa using hv
    have hi : i < ns.length := by
      rw [← hl]
      exact (List.getElem?_eq_some_iff.mp hv').1
    obtain ⟨u, hu, ru⟩ := rv.get (i := i) (x := .int ns[i]) (by rw [List.getElem?_map, List.getElem?_eq_getElem hi] <;> rfl)
    rw [hv'] at hu
    cases hu
    obtain ⟨t, rfl⟩ := ru
    refine ⟨t, ?_⟩
    show Value.int ns[i] t = Value.int (ns.getD i 0) t
    rw [List.getD_eq_getElem?_getD, List.getElem?_eq_getElem hi] <;> rfl
  · have e : PySem.preSum (fun i => ns.getD i 0) its.toArray.size = ns.sum := by
      rw [preSum_list, List.take_of_length_le (by rw [List.size_toArray]; omega)]
    rw [e]
    exact ⟨.int ns.sum, H, I.kept (t' := tk) (fun b o eb => hk b o (fun hm => by
      have hb' : b = s.heap.objs.size := by simpa using hm
      rw [hb'] at eb
      exact absurd (Heap.lt_size eb) (Nat.lt_irrefl _)) (Heap.get?_push_of_some _ eb)), ⟨t', rfl⟩, q⟩
/-- the readings by K, for blocks -/
def rLenQ (K : PySem.W.Frag) : List V → Hp → VK → Prop := fun xs H Q => ∃ p ys, xs = [.ref p] ∧ (SqL K H p ys ∨ SqT K H p ys) ∧ Q (.int ys.length) H
def rTupOf (K : PySem.W.Frag) : List V → Hp → VK → Prop := fun xs H Q => ∃ p ys, xs = [.ref p] ∧ ((SqL K H p ys ∧ ∀ l, H l = none → Q (.ref l) (upd H l (.tup ys))) ∨ (SqT K H p ys ∧ Q (.ref p) H))
def rListOf (K : PySem.W.Frag) : List V → Hp → VK → Prop := fun xs H Q => ∃ p ys, xs = [.ref p] ∧ (SqL K H p ys ∨ SqT K H p ys) ∧ ∀ l, H l = none → Q (.ref l) (upd H l (.lst ys))
end Dl
set_option Elab.async false
set_option linter.all false
set_option maxRecDepth 100000
set_option maxHeartbeats 4000000
/-! ### enumerate(tuple) -/
namespace Dl
open PySem PySem.Spec PyProof.Rows L2 He
set_option maxHeartbeats 2000000 in
theorem meets_enum_1 {v : Value} {o : Obj} {H : Heap → Prop} (B : PySem.Begins v o H) :
    Meets (Builtin.«enumerate.__new__» ⟨[.type "enumerate", v], []⟩) (fun _ R s => H s.heap ∧
      R (.ok (.ret (.ref (s.heap.push o).objs.size))) { s with heap := (s.heap.push o).push { cls := .type "enumerate", data := .fields #[.none, .bool false, .ref s.heap.objs.size, rawInt 0, .none, .none] } }) :=
  .of_wp fun prog w A R s h => by
    obtain ⟨hp, g, d, tk, os⟩ := s; obtain ⟨h1, h⟩ := h
    have hsub := sub_enumerate
    have q1 : ∀ {A' : Around} {E : Value → Shared → Prop} {Q : Value → Shared → Prop}, Q (.ref hp.objs.size) ⟨hp.push o, g, d, tk, os⟩ → wpAny (model prog w) A' (pyIter v) Q E ⟨hp, g, d, tk, os⟩ :=
      fun q => B.iter prog w _ _ ⟨hp, g, d, tk, os⟩ _ h1 q
    wp_walk using q1
    refine wpAny_stack_any fun st => wpAny_pure ?_
    split
    · rename_i c _ _ _ _ _
      cases (c == Value.type "enumerate")
      · wp_walk using q1
        exact ⟨_, rfl, h⟩
      · wp_walk using q1
        exact ⟨_, rfl, h⟩
    · wp_walk using q1
      exact ⟨_, rfl, h⟩
theorem call_enum_tup {prog : Program} {w : World} {A : Around} {E : Value → Shared → Prop} {s : Shared} {l : Addr} {items : Array Value} {Q : Value → Shared → Prop} (hL : s.heap.IsTuple l items)
    (h : ∀ h', IsEnum h' (s.heap.objs.size + 1) s.heap.objs.size 0 .none → h'.IsTupleIter s.heap.objs.size l 0 → h'.objs.size = s.heap.objs.size + 2 →
      (∀ b o, s.heap.get? b = some o → h'.get? b = some o) → Q (.ref (s.heap.objs.size + 1)) { s with heap := h' }) :
    wpAny (model prog w) A (call (.type "enumerate") [.ref l]) Q E s := by
  have B := PySem.begins_tuple l items
  refine callType_new PySem.F.called_enumerate (by decide) (PySem.F.typeCall_enumerate_1 _) (PySem.F.newCall_enumerate_1 _) (fun obj => PySem.F.args_object_init_2 obj _) PySem.F.entry_enumerate_new
    (meets_enum_1 B) ⟨hL, ?_⟩
  have hz : (s.heap.push ({ cls := .type "tuple_iterator", data := .fields #[.ref l, .int 0 0] } : Obj)).objs.size = s.heap.objs.size + 1 := Heap.size_push ..
  show _ ∧ _
  rw [hz]
  have he : IsEnum ((s.heap.push ({ cls := .type "tuple_iterator", data := .fields #[.ref l, .int 0 0] } : Obj)).push { cls := .type "enumerate", data := .fields #[.none, .bool false, .ref s.heap.objs.size, rawInt 0, .none, .none] }) (s.heap.objs.size + 1) s.heap.objs.size 0 .none := by
    have := Heap.get?_push_size (s.heap.push ({ cls := .type "tuple_iterator", data := .fields #[.ref l, .int 0 0] } : Obj)) (o := { cls := .type "enumerate", data := .fields #[.none, .bool false, .ref s.heap.objs.size, rawInt 0, .none, .none] }) rfl
    rw [hz] at this; exact this
  exact ⟨⟨_, he, rfl⟩, h _ he ⟨_, Heap.get?_push_of_some _ (Heap.get?_push_size _ rfl), rfl, rfl⟩ (by rw [Heap.size_push, hz]) fun b o x => Heap.get?_push_of_some _ (Heap.get?_push_of_some _ x)⟩
/-- the tuple at a, each item in a new pair -/
def IteT (K : PySem.W.Frag) (a : Addr) : It :=
  ⟨fun i H => ∃ (xs : List V) (x : V), SqT K H a xs ∧ xs[i]? = some x, fun i H v H' => ∃ T x, v = .ref T ∧ H T = none ∧ H' = upd H T (.tup [.int (i : Nat), x]) ∧ ∀ xs, SqT K H a xs → xs[i]? = some x, fun i H => ∃ xs : List V, SqT K H a xs ∧ xs.length ≤ i⟩
theorem turn_enumT {P : Program} {w : World} {K : PySem.W.Frag} {elts : List Expr} {kk : Nat} {tpos : Pos} (a e it : Addr) (n : Nat) :
    Turn P w K (.Tuple elts kk tpos) (IteT K a) [e, it] e (fun i h => (∃ old, IsEnum h e it ((i : Nat) : Int) old) ∧ h.IsTupleIter it a i ∧ e ≠ it ∧ e ≠ a ∧ a ≠ it) where
  mem := by simp
  obj := fun i h st b hb => by
    obtain ⟨⟨old, he⟩, ⟨o, ho, hc, hd⟩, _⟩ := st
    have e' : b = e ∨ b = it := by simpa using hb
    rcases e' with z | z
    · rw [z]; exact ⟨_, he, fun v q => nomatch q⟩
    · rw [z]; exact ⟨o, ho, fun v q => by rw [hd] at q; cases q⟩
  keep := fun i h h' st k => let ⟨⟨old, he⟩, hi, hne⟩ := st; ⟨⟨old, k e (by simp) _ he⟩, hi.at fun o q => k it (by simp) o q, hne⟩
  item := by
    intro X hP hw hK hc i pins s σ H E I hf st hg
    subst hP hw hK
    obtain ⟨⟨old, he⟩, hit, hne, hea, hai⟩ := st
    obtain ⟨xs, x, hq, hx⟩ := hg
    obtain ⟨its, rv, p, hz⟩ := I.tuple hq
    obtain ⟨u, hu, ru⟩ := rv.get hx
    have hel : e < s.heap.objs.size := Heap.lt_size he
    have hil : it < s.heap.objs.size := by obtain ⟨_, q, _⟩ := hit; exact Heap.lt_size q
    have hlt : i < its.toArray.size := by
      rw [List.size_toArray]
      exact (List.getElem?_eq_some_iff.mp hu).1
    refine wpAny_pyNext_enum_itemD (Draws.tuple (prog := X.prog) (w := X.w) (A := X.A.in1) (I.ok.hd hc) it a hai its.toArray) he (show s.heap.IsTupleIter it a i ∧ s.heap.IsTuple a its.toArray from ⟨hit, p⟩) hlt hne (by simp [hne, hea]) fun y h' tk hy ho hst hT hsz hk => ?_
    have hyu : y = u := by
      have hy' : its[i]? = some y := by simpa using hy
      rw [hu] at hy'
      exact (Option.some.inj hy').symm
    subst hyu
    refine ⟨_, rfl, wpAny_letOwnedTupleGo_enum (s := { s with heap := h', toks := tk + 1 }) ho fun h'' he' sb => ?_⟩
    have hT2 : h''.get? s.heap.objs.size = some { cls := .type "tuple", data := .seq #[.int i tk, y] } := (sb.2 _ (Nat.ne_of_gt hel)).trans hT
    have new : ObjOk X.prog X.w (upd H s.heap.objs.size (.tup [.int (i : Nat), x])) h'' s.heap.objs.size (.tup [.int (i : Nat), x]) :=
      ⟨by show 2 ≤ sizeLine; decide, [.int i tk, y], .cons ⟨_, rfl⟩ (.cons ru .nil), ⟨_, hT2, rfl, _, rfl⟩⟩
    have I1 : L2.Inv X pins σ (upd H s.heap.objs.size (.tup [.int (i : Nat), x])) { s with heap := h'', toks := tk + 1 } :=
      I.turnedNew (t' := tk + 1) (ch := [e, it]) (fun b ob hb q => (sb.2 b (fun z => hb (by simp [z]))).trans (hk b ob (fun z => hb (by simp [z])) (fun z => hb (by simp [z])) q)) hf (Nat.le_refl _) new
    refine ⟨.ref s.heap.objs.size, _, I1, rfl, ⟨_, x, rfl, I.hok.fresh (Nat.le_refl _), rfl, fun ys hy => by rw [I.tuple_inj hy hq]; exact hx⟩, ⟨⟨y, ?_⟩, hst.1.at fun o q => (sb.2 it (Ne.symm hne)).trans q, hne, hea, hai⟩, fun b hb => ?_⟩
    · have e1 : ((i + 1 : Nat) : Int) = (i : Int) + 1 := by omega
      rw [e1]; exact he'
    · have hb' : b < s.heap.objs.size := by
        have e' : b = e ∨ b = it := by simpa using hb
        rcases e' with z | z
        · rw [z]; exact hel
        · rw [z]; exact hil
      rw [upd_ne (Nat.ne_of_lt hb')]
      exact (hf b hb).1
  done := by
    intro X hP hw hK hc i pins s σ H E I hf st hg
    subst hP hw hK
    obtain ⟨⟨old, he⟩, hit, hne, hea, hai⟩ := st
    obtain ⟨xs, hq, hx⟩ := hg
    obtain ⟨its, rv, p, hz⟩ := I.tuple hq
    obtain ⟨f0, f1, f2, f3, f4, f5⟩ := hf it (by simp)
    have hl := rv.length
    have hT : s.TypeIs (.ref e) "enumerate" := ⟨_, he, rfl⟩
    unfold pyNext
    refine wpAny_bind (wpAny_attempt (wpAny_callSpecial?_slot (name := Str.ofString "__next__") hT PySem.F.slot_enumerate_next
      (wpAny_call_entry PySem.F.slot_enumerate_next hT PySem.F.entry_enumerate_next ?_ (PySem.F.args_enumerate_next_1 _))))
    show wpAny _ _ (field (.ref e) 2 >>= _) _ _ _
    refine wpAny_bind (wpAny_field he rfl (x := .ref it) rfl ?_)
    refine wpAny_bind (PySem.wpAny_nextOf_tuple_end (items := its.toArray) (I.ok.hd hc) hit p (by simp; omega) fun h' x he' hx' => ?_)
    obtain ⟨o, ho, hc'⟩ := hx'
    refine wpAny_bind (wpAny_isInstance (T := "StopIteration") (b := true) ⟨o, ho, hc'⟩ isSubtype_stop ?_)
    exact wpAny_pure ⟨rfl, I.turned (t' := s.toks) (fun b o hb q => he' b o hb q) f0 f1 f3 f4 f5⟩
  self := fun A i s Q E st h => let ⟨⟨_, he⟩, _⟩ := st; wpAny_pyIter_enum he h
def iEnumT (K : PySem.W.Frag) (ta : TA) : TI := fun σ H R => ta σ H fun vs H1 => ∃ a xs, vs = [.ref a] ∧ SqT K H1 a xs ∧ R (IteT K a) H1
theorem pi_enumT {X : Cx} {e : Expr} {ta : TA} {p pos tpos : Pos} {elts : List Expr} {kk : Nat} (hg : Gl X "enumerate") (hm : X.mg "enumerate" = none) (ha : PA X [e] ta) (hs : starEach [e] X.env = [(false, eval e X.env)] := by rfl) :
    PI X (.Tuple elts kk tpos) (.Call (.Name "enumerate" p) [e] [] pos) (iEnumT X.K ta) := by
  refine ⟨fun pins s σ H R I h => ?_⟩
  refine Call_ (ld_blt I hg hm boot_enumerate (PyProof.Rows.callWith_type1 (thn (ha.run pos pins s σ H _ I h) fun us s1 ⟨vs, H1, I1, r1, q1⟩ => ?_) hs rfl))
  obtain ⟨a, xs, ex, hq, q⟩ := q1
  subst ex
  cases r1 with
  | cons r rr =>
    cases rr
    cases r
    obtain ⟨its, rv, p', hz⟩ := I1.tuple hq
    have hla : a < s1.heap.objs.size := let ⟨_, ho, _⟩ := p'; Heap.lt_size ho
    refine call_enum_tup p' fun h' he hit hsz hk => wpAny_pyIter_enum he ?_
    have I2 : L2.Inv X pins σ H1 { s1 with heap := h' } := I1.kept (t' := s1.toks) hk
    refine ⟨s1.heap.objs.size + 1, [s1.heap.objs.size + 1, s1.heap.objs.size], _, _, H1, rfl, I2, turn_enumT a (s1.heap.objs.size + 1) s1.heap.objs.size 0, ⟨⟨.none, he⟩, hit, Nat.succ_ne_self _, Nat.ne_of_gt (Nat.lt_succ_of_lt hla), Nat.ne_of_lt hla⟩, fun b hb => ?_, q⟩
    have e' : b = s1.heap.objs.size + 1 ∨ b = s1.heap.objs.size := by simpa using hb
    have hle : s1.heap.objs.size ≤ b := by
      rcases e' with z | z
      · rw [z]; exact Nat.le_add_right _ _
      · rw [z]; exact Nat.le_refl _
    exact I1.fpOk hle (I1.hok.fresh hle)
theorem walk_enumT {K : PySem.W.Frag} {a : Addr} {xs : List V} : Walk (IteT K a) xs.length (fun H => SqT K H a xs) (YPair (fun i => some (.int (i : Nat))) (fun i => xs[i]?)) := by
  refine ⟨fun i _ hi q => ⟨xs, xs[i], q, by simp [hi]⟩, fun _ q => ⟨xs, q, Nat.le_refl _⟩, fun i H v H' _ q y => ?_⟩
  obtain ⟨T, x, h1, h2, h3, h4⟩ := y
  exact ⟨T, .int (i : Nat), x, h1, h2, h3, rfl, h4 xs q⟩
theorem walk_zipT {K : PySem.W.Frag} {a b : Addr} {xs ys : List V} {n : Nat} (hn : n = min xs.length ys.length) : Walk (RZ.ItzT K a b) n (fun H => SqT K H a xs ∧ SqT K H b ys) (YPair (fun i => xs[i]?) (fun i => ys[i]?)) := by
  subst hn
  refine ⟨fun i _ hi q => ?_, fun _ q => ⟨xs, ys, q.1, q.2, by omega⟩, fun i H v H' _ q y => ?_⟩
  · have h1 : i < xs.length := by omega
    have h2 : i < ys.length := by omega
    exact ⟨xs, ys, xs[i], ys[i], q.1, q.2, by simp [h1], by simp [h2]⟩
  · obtain ⟨T, x, z, h1, h2, h3, h4, h5⟩ := y
    exact ⟨T, x, z, h1, h2, h3, h4 xs q.1, h5 ys q.2⟩
/-! ### repr of data, where no repr runs -/
def rReprD (K : PySem.W.Frag) : List V → Hp → VK → Prop := fun xs H Q => ∃ x d, xs = [x] ∧ Dp K H x d ∧ (∃ a, x = .ref a) ∧ SeqAt.shaped d = true ∧ d.showable = true ∧ d.shown.length ≤ sizeLine ∧ Q (.str d.shown) H
theorem call_reprD {X : Cx} (hg : X.A.guards = some []) (hu : X.A.units + 66 < cLine) : CallR X (.builtin "repr") (rReprD X.K) := by
  intro pins s σ H xs us Q I r h
  obtain ⟨x, d, rfl, hd, ⟨a, ea⟩, sd, hs, hz, q⟩ := h
  obtain ⟨u, rfl, r1⟩ := vals1 r
  obtain ⟨as, rd⟩ := Dp.reads I d x u hd r1
  subst ea
  obtain rfl : u = Value.ref a := r1
  have sd' : (d.canLay0 && decide (d.depth ≤ 64)) = true := sd
  rw [Bool.and_eq_true] at sd'
  have hdp : d.depth ≤ 64 := of_decide_eq_true sd'.2
  refine repr_of_reads' rd hs (PyData.noDict_hsm (PyData.hasDict_of_canLay d sd'.1)) hg (by omega) (fun _ _ e => e) (fun h' u tk hk => ?_) hz
  exact ⟨.str d.shown, H, I.kept (t' := tk) hk, ⟨u, rfl⟩, q⟩
/-! ### defs that are called where no repr runs -/
structure FnOkG (P : Program) (w : World) (K : PySem.W.Frag) (mg : Str → Option Value) (base : Heap) (CX : CXT) (k : Nat) (f : Addr) (fd : FuncData) (ps : List Str) (sp : Sp) : Prop where
  len : ∀ vs H Q E, sp vs H Q E → vs.length = ps.length
  run : ∀ (A : Around) (outer : List Env) (s : Shared) (H : Hp) (args : Args) (us : List Value) (vs : List V) (Q : VK) (E : XK), Room k A → A.guards = some [] → Env0 P w K mg base A outer s H → BindsTo s fd args (ps.zip us) → Vals vs us → sp vs H Q E →
    codeAny (model P w) A (.call (.ref f) args) (CR CX outer P w H s Q E) s
theorem fn_ofG {CX : CXT} {P : Program} {w : World} {K : PySem.W.Frag} {mg : Str → Option Value} {base : Heap} {k : Nat} {f : Addr} {name qual : Str} {params : Arguments} {body : List Stmt} {scope : Scope} {dV kV doc pm cdv ct oc : Value} {an od : Option Addr}
    {osl : Array (Option Value)} {N ps : List Str} {sp : Sp} (lk : K.lookup f = some ⟨oc, od, .func (PySem.W.fnOf name qual params body scope dV kV doc pm an cdv ct), osl⟩) (hcd : PySem.W.codeIn K cdv qual = true) (S : FnScope N ps scope)
    (len : ∀ vs H Q E, sp vs H Q E → vs.length = ps.length)
    (hbody : ∀ (A : Around) (outer : List Env) (s : Shared) (H : Hp) (vs : List V) (Q : VK) (E : XK), Room k (A.deeper (envOfC qual scope s.heap.objs.size f cdv)) → (A.deeper (envOfC qual scope s.heap.objs.size f cdv)).guards = some [] → sp vs H Q E →
      ∃ t, PSs (cxOf CX P w K mg base N qual scope f cdv A outer s H E) body t ∧ t { nx := fun _ H' => Q .non H', rt := Q } (start N vs) H) :
    FnOkG P w K mg base CX (k + 1) f (PySem.W.fnOf name qual params body scope dV kV doc pm an cdv ct) ps sp := by
  refine ⟨len, fun A outer s H args us vs Q E hr hG e0 hb r hsp => ?_⟩
  have hl := len _ _ _ _ hsp
  have KX : K.In s.heap := e0.mod.kin.keeps fun b o e => (e0.bs b o e).1
  have lim : s.heap.NoLimit := e0.mod.nolimit.keeps fun b o e => (e0.bs b o e).1
  have hkind : ∀ y ∈ ps.zip us, scope.names.lookup y.1 = some .local ∨ (scope.names.lookup y.1 = some .cell ∧ ((cellsFrom (s.heap.objs.size + 1) scope.names []).lookup y.1).isSome = true) := fun ⟨n, v⟩ hy => by
    rcases S.par n (List.of_mem_zip hy).1 with q | q
    · exact .inl q
    · exact .inr ⟨q, PySem.W.cellsFrom_some _ _ _ (.inl q)⟩
  refine codeAny_call_function hr.depth (KX _ _ lk) rfl S.co S.gen rfl (PySem.W.codeRec_of KX hcd) (hb _ _ _ _ ?_)
  refine wpAny_newFunctionEnv_cells S.kind hkind fun env he s1 x => ?_
  subst he
  refine ⟨lim.keeps x.toInCall.keep, codeAny_func ?_⟩
  obtain ⟨t, ht, hq⟩ := hbody A outer s H vs Q E (hr.deeper _) hG hsp
  have I : L2.Inv (cxOf CX P w K mg base N qual scope f cdv A outer s H E) [] (start N vs) H s1 := inv_start S hr.hd e0 hl r x
  refine wpAny_mono (ht.run [] s1 (start N vs) H _ I hq) (fun fl s' hs => ?_) fun e s' hs => hs
  have fin : ∀ {σ' : L2.St} {H' : Hp} {v : V} {u : Value}, L2.Inv (cxOf CX P w K mg base N qual scope f cdv A outer s H E) [] σ' H' s' → RelV v u → Q v H' → CE outer P w H s Q u s' :=
    fun {σ' H' v u} J rv q => ⟨v, H', J.os, J.bare, J.base, J.hok, rv, q⟩
  cases fl with
  | ret u =>
    obtain ⟨v, σ', H', J, rv, q⟩ := hs
    exact fin J rv q
  | next =>
    obtain ⟨σ', H', J, q⟩ := hs
    exact fin (v := V.non) (u := Value.none) J rfl q
  | brk =>
    obtain ⟨_, _, _, q⟩ := hs
    exact False.elim q
  | cont =>
    obtain ⟨_, _, _, q⟩ := hs
    exact False.elim q
structure CalG (P : Program) (w : World) (K : PySem.W.Frag) (mg : Str → Option Value) (base : Heap) (CX : CXT) (k : Nat) (x : Str) (sp : Sp) : Prop where
  ex : ∃ fd ps, FnOkG P w K mg base CX k (ga K x) fd ps sp ∧ Binds K fd ps [] ∧ ∀ (s : Shared) (us : List Value), us.length = ps.length → BindsTo s fd ⟨us, []⟩ (ps.zip us)
  kp : PySem.W.keepIn K (.ref (ga K x)) = true
  g : mg x = some (.ref (ga K x))
section
variable {P : Program} {w : World} {K : PySem.W.Frag} {mg : Str → Option Value} {base : Heap} {CX : CXT} {k : Nat} {sp : Sp} {N ps : List Str}
theorem calG_mk {d : DefX} {x : Str} (F : ∃ fd, FnP K d fd) (hp : d.path K = ga K x) (g : mg x = some (.ref (ga K x))) (S : FnScope N ps (defScope d.st)) (len : ∀ vs H Q E, sp vs H Q E → vs.length = ps.length)
    (hb : ∀ (kV doc pm : Value) (an : Option Addr) (cdv ct : Value) (us : List Value), us.length = ps.length → bindArgs (PySem.W.fnOf d.name d.qual (defArgs d.st) (defBody d.st) (defScope d.st) .none kV doc pm an cdv ct) ⟨us, []⟩ = pure (ps.zip us))
    (hbody : ∀ (f : Addr) (cdv : Value) (A : Around) (outer : List Env) (s : Shared) (H : Hp) (vs : List V) (Q : VK) (E : XK), Room k (A.deeper (envOfC d.qual (defScope d.st) s.heap.objs.size f cdv)) → (A.deeper (envOfC d.qual (defScope d.st) s.heap.objs.size f cdv)).guards = some [] → sp vs H Q E →
      ∃ t, PSs (cxOf CX P w K mg base N d.qual (defScope d.st) f cdv A outer s H E).nox (defBody d.st) t ∧ t { nx := fun _ H' => Q .non H', rt := Q } (start N vs) H) : CalG P w K mg base CX (k + 1) x sp := by
  obtain ⟨fd, F⟩ := F
  obtain ⟨oc, od, dV, kV, doc, pm, an, cdv, ct, osl, rfl, lk, hcd, _, _⟩ := id F.ex
  rw [hp] at lk
  have kp : PySem.W.keepIn K (.ref (d.path K)) = true := F.kp
  rw [hp] at kp
  exact ⟨⟨_, ps, fn_ofG lk hcd S len (fun A outer s H vs Q E hr hG h => let ⟨t, h1, h2⟩ := hbody _ cdv A outer s H vs Q E hr hG h; ⟨t, h1.nox, h2⟩), FunD.bindsN F hb, FunD.bindsA F hb⟩, kp, g⟩
end
section
variable {X : Cx} {CX : CXT} {k j : Nat} {sp : Sp} {E : XK} {x : Str} {p pos : Pos} {e : Expr} {es : List Expr} {t : TA}
theorem pkG (c : CalG X.prog X.w X.K X.mg X.base CX k x sp) (hr : Room j X.A) (hG : X.A.guards = some []) (hx : Passes CX X E) (ha : PA X (e :: es) t) (hk : k ≤ j := by decide) (hg : Gl X x := by rfl)
    (hdb : (x == ("__debug__" : Str)) = false := by decide) (he : starEach (e :: es) X.env = (false, eval e X.env) :: starEach es X.env := by rfl) (hpl : (backTo pos (starEach es X.env)).any (·.1) = false := by rfl) :
    PE X (.Call (.Name x p) (e :: es) [] pos) (tCall sp [] E t) := by
  obtain ⟨⟨fd, ps, F, hb, _⟩, kp, g⟩ := c
  refine ⟨fun pins s σ H Q I h => ?_⟩
  refine wpAny_Call_Name_kw (ld_glob I hg g ?_ hdb)
  refine PySem.W.callWith_K (h₀ := X.base) I.ok.mod.kin kp (thn (ha.run pos pins s σ H _ I h) fun us s1 ⟨vs, H1, I1, r, q⟩ => ⟨I1.kIn, ?_⟩) he hpl
  have r2 : Vals (vs ++ []) (us ++ []) := r.append .nil
  have hl : (us ++ []).length = ps.length := by rw [← r2.length]; exact F.len _ _ _ _ q
  refine wpAny_call (codeAny_mono (F.run X.A X.stack s1 H1 ⟨us, []⟩ (us ++ []) (vs ++ []) Q E (hr.mono hk) hG I1.env0 (hb s1 us I1.kIn hl) r2 q) fun r s' hq => ?_)
  cases r with
  | error e => exact hx pins σ H1 s1 e s' I1 hq
  | ok fl =>
    cases fl with
    | ret u => exact I1.after hq
    | next => exact False.elim hq
    | brk => exact False.elim hq
    | cont => exact False.elim hq
end
/-- the law's call, where no repr runs -/
theorem law_callG {P : Program} {w : World} {K : PySem.W.Frag} {mg mb : Str → Option Value} {CX : CXT} {k : Nat} {fa a : Addr} {fd : FuncData} {x : Str} {sp : Sp} {s₁ : Shared} {vs : List Value} {ns : List Int}
    (KX : K.In s₁.heap) (hns : s₁.heap.Ns mainGlobals mg) (hb : s₁.heap.Ns builtinsNs mb) (hbb : ∀ x : Str, x ≠ "__name__" → mb x = bootBuiltins x) (hlim : s₁.heap.NoLimit) (hg : s₁.gens = #[])
    (ha : s₁.heap.get? a = some { cls := .type "list", data := .seq vs.toArray }) (hi : IntsAre vs ns) (hl : ns.length ≤ sizeLine) (hr : Room k callerA)
    (F : ∀ base : Heap, K.In base → base.Ns mainGlobals mg → FnOkG P w K mg base CX k fa fd [x] sp) (hbind : ∀ (s : Shared) (u : Value), BindsTo s fd ⟨[u], []⟩ [(x, u)])
    (hsp : ∀ H : Hp, Only H → SqL K H a (ns.map V.int) → sp [.ref a] H (fun v _ => v = .bl true) fun _ _ _ => False)
    (hCX : ∀ H e s', CX [] H s₁ (fun _ _ _ => False) e s' → False) :
    codeAny (model P w) callerA (.call (.ref fa) ⟨[.ref a], []⟩) (fun r s' => r = .ok (.ret (.bool true)) ∧ OldK s₁.heap s'.heap ∧ s'.os = s₁.os ∧ AllBare s'.gens) s₁ := by
  have rv := vals_ints hi
  have lenV := hi.length
  have core : ∀ H : Hp, Only H → SqL K H a (ns.map V.int) → HOk P w H s₁.heap → (∀ b, H b ≠ none → b = a) → (H a ≠ none → K.lookup a = none) →
      codeAny (model P w) callerA (.call (.ref fa) ⟨[.ref a], []⟩) (fun r s' => r = .ok (.ret (.bool true)) ∧ OldK s₁.heap s'.heap ∧ s'.os = s₁.os ∧ AllBare s'.gens) s₁ := by
    intro H hO hS hok hA hK
    have base_of : ∀ {b : Addr} {o : Obj}, s₁.heap.get? b = some o → H b = none → (hidT s₁.heap H).get? b = some o := fun e n => hidT_get e n
    have noA : ∀ {b : Addr} {o : Obj} {es : Array DictEntry} {ep : Nat}, s₁.heap.get? b = some o → o.data = .dict es ep → H b = none := fun {b o es ep} e d => by
      cases q : H b with
      | none => rfl
      | some u =>
        have e' : b = a := hA b (by rw [q]; simp)
        subst e'
        rw [ha] at e; cases e
        have d' : Data.seq vs.toArray _ = Data.dict es ep := d
        cases d'
    have nsK : ∀ {b : Addr} {m : Str → Option Value}, s₁.heap.Ns b m → (hidT s₁.heap H).Ns b m := fun {b m} ⟨o, es, ep, e, d, r⟩ => ⟨o, es, ep, base_of e (noA e d), d, r⟩
    have hKb : K.In (hidT s₁.heap H) := fun b o e => base_of (KX b o e) (by
      cases q : H b with
      | none => rfl
      | some u =>
        have e' : b = a := hA b (by rw [q]; simp)
        subst e'
        rw [hK (by rw [q]; simp)] at e; cases e)
    have hM : Mod K mg (hidT s₁.heap H) := ⟨hKb, nsK hns, ⟨mb, nsK hb, hbb⟩, let ⟨mc, h1, h2⟩ := hlim; ⟨mc, nsK h1, h2⟩⟩
    have e0 : Env0 P w K mg (hidT s₁.heap H) callerA [] s₁ H := ⟨rfl, hM, fun b o e => of_hidT e, Nat.le_of_eq (hidT_size _ _), trivial, fun b hb => absurd (show b ∈ ([] : List Addr) from hb) (by simp), hok, .of_eq hg⟩
    refine codeAny_mono ((F _ hKb (nsK hns)).run callerA [] s₁ H ⟨[.ref a], []⟩ [.ref a] [.ref a] _ _ hr rfl e0 (hbind s₁ (.ref a)) (.cons rfl .nil) (hsp H hO hS)) fun r s' h => ?_
    cases r with
    | error e => exact (hCX H e s' h).elim
    | ok fl =>
      cases fl with
      | next => exact False.elim h
      | brk => exact False.elim h
      | cont => exact False.elim h
      | ret u =>
        obtain ⟨v, H', os, bare, un, hok', r', q⟩ := h
        have q' : v = .bl true := q
        subst q'
        obtain rfl : u = Value.bool true := r'
        refine ⟨rfl, OldK.of_keep fun b o e => ?_, os, bare⟩
        cases q : H b with
        | none => exact un.keep b o e q (by intro z; exact absurd (show b ∈ ([] : List Addr) from z) (by simp)) (by simp)
        | some u =>
          rcases hO b with z | ⟨ob, xs, z⟩
          · rw [q] at z; cases z
          · have z2 := un.frzs b ob _ z
            obtain ⟨e1, _⟩ := hok b _ z
            obtain ⟨e2, _⟩ := hok' b _ z2
            rw [e] at e1; cases e1
            exact e2
  cases hk : K.lookup a with
  | some o =>
    have e := KX a o hk
    rw [ha] at e
    cases e
    refine core (fun _ => none) (fun _ => .inl rfl) (.inr ⟨_, vs.toArray, _, hk, rfl, rfl, rfl, by rw [List.size_toArray, lenV]; exact hl, by simpa using rv⟩) (fun b u z => by have z' : (none : Option HO) = some u := z; cases z') (fun b z => absurd rfl z) fun z => absurd rfl z
  | none =>
    refine core (fun b => if b = a then some (.frz { cls := .type "list", data := .seq vs.toArray } (.lst (ns.map V.int))) else none) (fun b => ?_) (.inl (.inr ⟨{ cls := .type "list", data := .seq vs.toArray }, if_pos rfl⟩)) (fun b u z => ?_) (fun b z => ?_) fun _ => hk
    · by_cases hb : b = a
      · exact .inr ⟨_, _, if_pos hb⟩
      · exact .inl (if_neg hb)
    · by_cases hb : b = a
      · have z' := (if_pos hb).symm.trans z
        cases z'
        subst hb
        exact ⟨ha, by rw [List.length_map]; exact hl, vs, _, rv, ha⟩
      · have z' := (if_neg hb).symm.trans z
        cases z'
    · by_cases hb : b = a
      · exact hb
      · exact absurd (if_neg hb) z
theorem walk_ofG {l : PySem.W.OpenLaw} {n k : Nat} {q : Program} {loose : List Str} {XP : (Str → Option Value) → Heap → Prop} {YP : World → Heap → Prop} {d : DefRec} {CX : CXT} {x : Str}
    (hn : l.most = some n) (hn2 : n ≤ sizeLine) (hdf : d.params.defaults = []) (hr : Room k callerA)
    (F : ∀ (w : World) (mg : Str → Option Value) (fa : Addr) (h : Heap), YP w h → h.Ns mainGlobals mg → mg d.name = some (.ref fa) →
      ∃ (K : PySem.W.Frag) (fd : FuncData) (sp : Sp), K.In h ∧ (∀ (s : Shared) (u : Value), BindsTo s fd ⟨[u], []⟩ [(x, u)]) ∧
        (∀ (H : Hp) (a : Addr) (ns : List Int), ns.length ≤ n → Only H → SqL K H a (ns.map V.int) → sp [.ref a] H (fun v _ => v = .bl true) fun _ _ _ => False) ∧
        ∀ base : Heap, K.In base → base.Ns mainGlobals mg → FnOkG l.prog w K mg base CX k fa fd [x] sp)
    (hCX : ∀ (H : Hp) (s : Shared) (e : Value) (s' : Shared), CX [] H s (fun _ _ _ => False) e s' → False) :
    PySem.W.WalkO q loose XP YP l.row.toRowW d [] (fun f vs => PySem.call f vs) := by
  refine Att.attach_call hn hdf fun w s₀ s₁ mg mb fa o pm cd doc a vs ns G Y ho hd hcd hmg hobj hints hlen hg => ?_
  obtain ⟨K, fd, sp, KX, hb, hsp, hF⟩ := F w mg fa _ Y G.T.g hmg
  exact law_callG KX G.T.g G.T.b G.T.builtins G.T.nolimit hg hobj hints (Nat.le_trans hlen hn2) hr hF hb (fun H hO hS => hsp H a ns hlen hO hS) fun H e s' => hCX H s₁ e s'
end Dl
set_option Elab.async false
set_option linter.all false
set_option maxRecDepth 100000
set_option maxHeartbeats 4000000
namespace Dl
open PySem PySem.Spec PyProof.Rows L2 He
section
variable {K : PySem.W.Frag} {J : It} {n : Nat} {G : Hp → Prop} {Y : Nat → Hp → V → Hp → Prop} {g : TG} {te : TE} {vs : List Nat} {σ : L2.St} {H H1 : Hp} {D : Addr} {Qd : Hp → Prop}
/-- a comprehension without a test: I holds between the turns, R of each element -/
theorem lc_gen (w : Walk J n G Y) (I : Nat → Hp → Prop) (R : Nat → V → Hp → Prop) (hn : n < sizeLine) (h0 : I 0 (upd H1 D (.lst [])))
    (hID : ∀ i H a b, I i H → H D = some (.lst a) → I i (upd H D (.lst b))) (hR : ∀ i y H H', Sk K H H' → R i y H → R i y H') (hG : ∀ i H, I i H → G H)
    (hs : ∀ i x H H' (Q2 : VK), i < n → I i H → Y i H x H' → (∀ y H4, I (i + 1) H4 → Sk K H H4 → (∀ a, H D = some (.lst a) → H4 D = some (.lst a)) → R i y H4 → Q2 y H4) → g x (wipe σ vs) H' fun σ2 H2 => wipe σ2 vs = wipe σ vs ∧ te σ2 H2 Q2)
    (hd : ∀ H' ys, I n H' → ys.length = n → (∀ i y, ys[i]? = some y → R i y H') → H' D = some (.lst ys) → Qd H') :
    ∃ W : Nat → Nat → Hp → Prop, (∃ m, W 0 m (upd H1 D (.lst []))) ∧ ∀ i m H, W i m H →
      (J.stop i H ∧ Qd H) ∨ (J.go i H ∧ ∃ Nx : Hp → Prop, (∀ H', Nx H' → ∃ m', m' < m ∧ W (i + 1) m' H') ∧ ∀ x H', J.yld i H x H' → g x (wipe σ vs) H' fun σ2 H2 => wipe σ2 vs = wipe σ vs ∧ tYes σ2 H2 fun b H3 =>
        if b = true then te σ2 H3 fun y H4 => ∃ acc, H4 D = some (.lst acc) ∧ acc.length < sizeLine ∧ Nx (upd H4 D (.lst (acc ++ [y]))) else Nx H3) := by
  refine lc_it w (fun i H => I i H ∧ ∃ ys, H D = some (.lst ys) ∧ ys.length = i ∧ ∀ j y, ys[j]? = some y → R j y H) ⟨h0, [], upd_same, rfl, fun j y e => by simp at e⟩ (fun i H _ p => hG i H p.1) ?_ ?_
  · rintro i x H H' hi ⟨hI, ys, e, el, hy⟩ y
    have ef : ∀ Q2 : VK, ∀ B : Hp → Prop, (fun (σ2 : L2.St) (H2 : Hp) => wipe σ2 vs = wipe σ vs ∧ tYes σ2 H2 fun b H3 => if b = true then te σ2 H3 Q2 else B H3) = fun σ2 H2 => wipe σ2 vs = wipe σ vs ∧ te σ2 H2 Q2 := fun Q2 B => by
      funext σ2 H2
      show (wipe σ2 vs = wipe σ vs ∧ if true = true then te σ2 H2 Q2 else B H2) = _
      rw [if_pos rfl]
    rw [ef]
    refine hs i x H H' _ hi hI y fun v h4 z1 z2 z3 z4 => ?_
    have e4 := z3 ys e
    have sk2 : Sk K h4 (upd h4 D (.lst (ys ++ [v]))) := Sk.butL (But.upd But.refl) e4
    refine ⟨ys, e4, by rw [el]; omega, hID _ _ _ _ z1 e4, ys ++ [v], upd_same, by rw [List.length_append, el] <;> rfl, fun j u ju => ?_⟩
    by_cases hj : j < ys.length
    · rw [List.getElem?_append_left hj] at ju
      exact hR _ _ _ _ sk2 (hR _ _ _ _ z2 (hy j u ju))
    · rw [List.getElem?_append_right (by omega)] at ju
      have hj0 : j - ys.length = 0 := by
        cases q : j - ys.length with
        | zero => rfl
        | succ k => rw [q] at ju; simp at ju
      rw [hj0] at ju
      have eu : v = u := Option.some.inj ju
      subst eu
      have ej : j = i := by omega
      rw [ej]
      exact hR _ _ _ _ sk2 z4
  · rintro H ⟨hI, ys, e, el, hy⟩
    exact hd H ys hI el hy e
theorem walk_range0 {n : Nat} : Walk (Itr 0 n) n (fun _ => True) (YFn fun i => .int (i : Nat)) := walk_range.mono (fun _ h => h) fun i H x H' _ _ y => ⟨y.1, y.2.trans (congrArg V.int (Int.zero_add _))⟩
end
end Dl
set_option Elab.async false
set_option linter.all false
set_option maxRecDepth 100000
set_option maxHeartbeats 4000000
namespace Dl
open PySem PySem.Spec PyProof.Rows L2 He
/-! ### numbers -/
def kinds : List String := ["int", "bool", "str", "tuple", "list", "dict", "NoneType"]
def intIn (v : V) (a b : Int) : Bool := match v with
  | .int i => decide (a ≤ i) && decide (i ≤ b)
  | _ => false
theorem tyX_int {K : PySem.W.Frag} {H : Hp} {v : V} {t : Value} (h : TyX K H v t) (e : t = .type "int") : ∃ i, v = .int i := by
  cases h with
  | base h => cases h <;> first | exact ⟨_, rfl⟩ | (injection e with e; exact absurd e (by decide)) | cases e
  | _ => first | (injection e with e; exact absurd e (by decide)) | cases e
theorem tyX_nint {K : PySem.W.Frag} {H : Hp} {v : V} {t : Value} (h : TyX K H v t) (n : t ≠ .type "int") (a b : Int) : intIn v a b = false := by
  cases h with
  | base h => cases h <;> first | rfl | exact absurd rfl n
  | _ => rfl
def sp_is_whole (K : PySem.W.Frag) : Sp := fun vs H Q _ => ∃ (v : V) (T : String), vs = [v] ∧ TyX K H v (.type T) ∧ T ∈ kinds ∧ Q (.bl (decide (T = "int"))) H
def sp_is_integer (K : PySem.W.Frag) : Sp := fun vs H Q _ => ∃ (v : V) (a b : Int) (T : String), vs = [v, .int a, .int b] ∧ TyX K H v (.type T) ∧ T ∈ kinds ∧ Q (.bl (intIn v a b)) H
def sp_common : Sp := fun vs H Q _ => ∃ (a b : Nat), vs = [.int a, .int b] ∧ Q (.int (Nat.gcd a b)) H
def sp_lowest (K : PySem.W.Frag) : Sp := fun vs H Q _ => ∃ (t : Int) (b : Nat), vs = [.int t, .int b] ∧ 0 < b ∧ b < 2 ^ 200 ∧ ∀ v H', Same H H' → Fq K H' v (mkRat t b) → Q v H'
def sp_plus (K : PySem.W.Frag) : Sp := fun vs H Q _ => ∃ (x y : V) (a b : Rat), vs = [x, y] ∧ Fq K H x a ∧ Fq K H y b ∧ a.den < 2 ^ 64 ∧ b.den < 2 ^ 64 ∧ ∀ v H', Same H H' → Fq K H' v (a + b) → Q v H'
def sp_minus (K : PySem.W.Frag) : Sp := fun vs H Q _ => ∃ (x y : V) (a b : Rat), vs = [x, y] ∧ Fq K H x a ∧ Fq K H y b ∧ a.den < 2 ^ 64 ∧ b.den < 2 ^ 64 ∧ ∀ v H', Same H H' → Fq K H' v (a - b) → Q v H'
def sp_times (K : PySem.W.Frag) : Sp := fun vs H Q _ => ∃ (x y : V) (a b : Rat), vs = [x, y] ∧ Fq K H x a ∧ Fq K H y b ∧ a.den < 2 ^ 64 ∧ b.den < 2 ^ 64 ∧ (-(2 ^ 64) < a.num ∧ a.num < 2 ^ 64) ∧ ∀ v H', Same H H' → Fq K H' v (a * b) → Q v H'
def sp_is_above (K : PySem.W.Frag) : Sp := fun vs H Q _ => ∃ (x y : V) (a b : Rat), vs = [x, y] ∧ Fq K H x a ∧ Fq K H y b ∧ a.den < 2 ^ 64 ∧ b.den < 2 ^ 64 ∧ Q (.bl (decide (b < a))) H
theorem den_mul_lt {a b : Nat} (ha : a < 2 ^ 64) (hb : b < 2 ^ 64) : a * b < 2 ^ 200 := by
  have h : a * b < 2 ^ 64 * 2 ^ 64 := Nat.mul_lt_mul'' ha hb
  exact Nat.lt_trans h (by decide)
section
variable {P : Program} {w : World} {K : PySem.W.Frag} {mg : Str → Option Value} {base : Heap}
theorem ok_is_whole (W : Tp K mg) : Cal P w K mg base CX0 1 "is_whole" (sp_is_whole K) := by
  refine ⟨fok_mk (f_is_whole W) sc_is_whole (fun vs H Q E h => by
    obtain ⟨v, T, rfl, ty, hT, q⟩ := h
    rfl) (fun _ _ _ _ _ _ us hl => match us, hl with | [_], _ => rfl) (fun f cdv A outer s H vs Q E hr h => ?_), g_is_whole W⟩
  obtain ⟨v, T, rfl, ty, hT, q⟩ := h
  refine ⟨_, (pss_one (ps_ret (pe_and (pe_callB (r := rIsi K) call_isi (by rfl) (n_isinstance W) (by decide +kernel) (pa_cons (pv 0) (pa_cons (pe_bltn (v := .ty "int") (by rfl) (n_int W) (by decide +kernel) rfl) pa_nil))) (pe_one (pe_not (pe_callB (r := rIsi K) call_isi (by rfl) (n_isinstance W) (by decide +kernel) (pa_cons (pv 0) (pa_cons (pe_bltn (v := .ty "bool") (by rfl) (n_bool W) (by decide +kernel) rfl) pa_nil)))))))), ?_⟩
  have hi : ∃ b, PySem.W.kitOne K (.type T) (.type "int") = some b ∧ ∃ c, PySem.W.kitOne K (.type T) (.type "bool") = some c ∧ (b && !c) = decide (T = "int") := by
    simp only [kinds, List.mem_cons, List.not_mem_nil, or_false] at hT
    rcases hT with rfl | rfl | rfl | rfl | rfl | rfl | rfl
    · exact ⟨true, kit_ty (by decide +kernel), false, kit_ty (by decide +kernel), rfl⟩
    · exact ⟨true, kit_ty (by decide +kernel), true, kit_ty (by decide +kernel), rfl⟩
    · exact ⟨false, kit_ty (by decide +kernel), false, kit_ty (by decide +kernel), rfl⟩
    · exact ⟨false, kit_ty (by decide +kernel), false, kit_ty (by decide +kernel), rfl⟩
    · exact ⟨false, kit_ty (by decide +kernel), false, kit_ty (by decide +kernel), rfl⟩
    · exact ⟨false, kit_ty (by decide +kernel), false, kit_ty (by decide +kernel), rfl⟩
    · exact ⟨false, kit_ty (by decide +kernel), false, kit_ty (by decide +kernel), rfl⟩
  obtain ⟨b, h1, c, h2, e⟩ := hi
  refine ⟨v, rfl, v, .ty "int", _, _, b, rfl, .ty _, ty, h1, b, rfl, ?_⟩
  cases b with
  | false => exact iteF (by rw [← e] at q; exact q)
  | true => exact iteT ⟨v, rfl, v, .ty "bool", _, _, c, rfl, .ty _, ty, h2, c, rfl, by rw [← e] at q; exact q⟩
theorem ok_is_integer (W : Tp K mg) : Cal P w K mg base CX0 2 "is_integer" (sp_is_integer K) := by
  refine ⟨fok_mk (f_is_integer W) sc_is_integer (fun vs H Q E h => by
    obtain ⟨v, a, b, T, rfl, ty, hT, q⟩ := h
    rfl) (fun _ _ _ _ _ _ us hl => match us, hl with | [_, _, _], _ => rfl) (fun f cdv A outer s H vs Q E hr h => ?_), g_is_integer W⟩
  obtain ⟨v, a, b, T, rfl, ty, hT, q⟩ := h
  refine ⟨_, (pss_one (ps_ret (pe_and (pk (ok_is_whole W) hr pass0 (pa_cons (pv 0) pa_nil)) (pe_one (pe_chain op_le op_le (pv 1) (pv 0) (pv 2)))))), ?_⟩
  refine ⟨v, rfl, v, T, rfl, ty, hT, _, rfl, ?_⟩
  by_cases e : T = "int"
  · subst e
    obtain ⟨i, rfl⟩ := tyX_int ty rfl
    rw [decide_eq_true rfl]
    refine iteT ⟨_, rfl, _, rfl, _, _, rfl, rfl, _, rfl, ?_⟩
    have q' : Q (.bl (decide (a ≤ i) && decide (i ≤ b))) H := q
    by_cases h1 : a ≤ i
    · rw [decide_eq_true h1] at q' ⊢
      exact iteT ⟨_, rfl, _, _, rfl, rfl, q'⟩
    · rw [decide_eq_false h1] at q' ⊢
      exact iteF q'
  · rw [decide_eq_false e]
    rw [tyX_nint ty fun z => e (by injection z)] at q
    exact iteF q
theorem ok_common (W : Tp K mg) : Cal P w K mg base CX0 1 "common" (sp_common) := by
  refine ⟨fok_mk (f_common W) sc_common (fun vs H Q E h => by
    obtain ⟨a, b, rfl, q⟩ := h
    rfl) (fun _ _ _ _ _ _ us hl => match us, hl with | [_, _], _ => rfl) (fun f cdv A outer s H vs Q E hr h => ?_), g_common W⟩
  obtain ⟨a, b, rfl, q⟩ := h
  refine ⟨_, (pss_cons (ps_while PassesOwn.never (pt_cmpR op_gt (pv 1) pe_int (nomark _)) (pss_one (ps_par (i := 0) (j := 1) (by rfl) sc_common.nd rfl rfl (by decide) rfl rfl (pa_cons (pv 1) (pa_cons (pe_op op_mod (pv 0) (pv 1)) pa_nil)) (by rfl))))
      (pss_one (ps_ret (pv 0)))), ?_⟩
  refine ⟨fun m σ H' => ∃ x y : Nat, m = y ∧ σ = [some (.int x), some (.int y)] ∧ Nat.gcd x y = Nat.gcd a b ∧ H' = H, ⟨b, a, b, rfl, rfl, rfl, rfl⟩, ?_⟩
  rintro m σ H' ⟨x, y, em, rfl, e, rfl⟩
  refine ⟨_, rfl, _, _, rfl, rfl, _, rfl, ?_⟩
  by_cases hy : 0 < (y : Int)
  · rw [decide_eq_true hy]
    refine iteT ⟨fun σ' H'' => σ' = [some (.int y), some (.int ((x : Int) % (y : Int)))] ∧ H'' = H', ?_, ?_⟩
    · rintro σ' H'' ⟨rfl, rfl⟩
      refine ⟨x % y, em ▸ Nat.mod_lt _ (by omega), y, x % y, rfl, by rw [Int.natCast_emod], ?_, rfl⟩
      rw [← e]
      exact (gcd_step x y).symm
    · exact ⟨_, rfl, _, rfl, _, rfl, _, _, rfl, rfl, hy, _, _, rfl, rfl, rfl⟩
  · rw [decide_eq_false hy]
    have h0 : y = 0 := by omega
    subst h0
    rw [Nat.gcd_zero_right] at e
    subst e
    exact iteF ⟨_, rfl, q⟩
theorem ok_lowest (W : Tp K mg) : Cal P w K mg base CX0 2 "lowest" (sp_lowest K) := by
  refine ⟨fok_mk (f_lowest W) sc_lowest (fun vs H Q E h => by
    obtain ⟨t, b, rfl, hb, hz, q⟩ := h
    rfl) (fun _ _ _ _ _ _ us hl => match us, hl with | [_, _], _ => rfl) (fun f cdv A outer s H vs Q E hr h => ?_), g_lowest W⟩
  obtain ⟨t, b, rfl, hb, hz, q⟩ := h
  refine ⟨_, (pss_cons (ps_set (i := 2) sc_lowest.nd rfl (by first | exact Or.inl rfl | exact Or.inr rfl) (pk (ok_common W) hr pass0 (pa_cons (pe_callB call_abs (by rfl) (n_abs W) (by decide +kernel) (pa_cons (pv 0) pa_nil)) (pa_cons (pv 1) pa_nil))))
      (pss_one (ps_ret (pe_tup (pa_cons (pe_op op_fdivW (pv 0) (pv 2)) (pa_cons (pe_op op_fdivW (pv 1) (pv 2)) pa_nil)))))), ?_⟩
  have habs : (if t < 0 then -t else t) = ((t.natAbs : Nat) : Int) := by
    split <;> omega
  refine ⟨_, rfl, _, rfl, _, rfl, t.natAbs, b, by rw [habs] <;> rfl, ?_⟩
  have hg0 : 0 < Nat.gcd t.natAbs b := Nat.gcd_pos_of_pos_right _ hb
  have hgl : Nat.gcd t.natAbs b ≤ b := Nat.gcd_le_right _ hb
  have hd : CDivW 0 ((Nat.gcd t.natAbs b : Nat) : Int) := wide_div (b := 200) (by omega) (by rw [Int.natAbs_natCast]; omega) (by decide) (by decide)
  refine ⟨_, rfl, _, rfl, _, _, rfl, rfl, hd, _, rfl, _, rfl, _, _, rfl, rfl, hd, by show 2 ≤ sizeLine; decide, fun p hp => ?_⟩
  refine q _ _ (Same.new hp) ⟨p, rfl, SqT.of ?_⟩
  rw [upd_same]
  show some (HO.tup [V.int (t / ((Nat.gcd t.natAbs b : Nat) : Int)), V.int ((b : Int) / ((Nat.gcd t.natAbs b : Nat) : Int))]) = _
  rw [low_num t b (by omega), low_den t b (by omega)]
theorem ok_plus (W : Tp K mg) : Cal P w K mg base CX0 3 "plus" (sp_plus K) := by
  refine ⟨fok_mk (f_plus W) sc_plus (fun vs H Q E h => by
    obtain ⟨x, y, a, b, rfl, ⟨p1, rfl, s1⟩, ⟨p2, rfl, s2⟩, ha, hb, q⟩ := h
    rfl) (fun _ _ _ _ _ _ us hl => match us, hl with | [_, _], _ => rfl) (fun f cdv A outer s H vs Q E hr h => ?_), g_plus W⟩
  obtain ⟨x, y, a, b, rfl, ⟨p1, rfl, s1⟩, ⟨p2, rfl, s2⟩, ha, hb, q⟩ := h
  refine ⟨_, (pss_one (ps_ret (pk (ok_lowest W) hr pass0 (pa_cons (pe_op op_add (pe_op op_mul (pe_ix (r := rIxT K) ix_tup (pv 0) pe_int (fun _ _ => rfl)) (pe_ix (r := rIxT K) ix_tup (pv 1) pe_int (fun _ _ => rfl))) (pe_op op_mul (pe_ix (r := rIxT K) ix_tup (pv 1) pe_int (fun _ _ => rfl)) (pe_ix (r := rIxT K) ix_tup (pv 0) pe_int (fun _ _ => rfl)))) (pa_cons (pe_op op_mul (pe_ix (r := rIxT K) ix_tup (pv 0) pe_int (fun _ _ => rfl)) (pe_ix (r := rIxT K) ix_tup (pv 1) pe_int (fun _ _ => rfl))) pa_nil))))), ?_⟩
  have da := den_pos a
  have db := den_pos b
  refine ⟨_, rfl, _, _, _, _, rfl, rfl, s1, atI_nat (j := 0) rfl, _, rfl, _, _, _, _, rfl, rfl, s2, atI_nat (j := 1) rfl, _, _, rfl, rfl, .inr ⟨by omega, by omega⟩, _, rfl, _, _, _, _, rfl, rfl, s2, atI_nat (j := 0) rfl, _, rfl, _, _, _, _, rfl, rfl, s1, atI_nat (j := 1) rfl, _, _, rfl, rfl, .inr ⟨by omega, by omega⟩, _, _, rfl, rfl, _, rfl, _, _, _, _, rfl, rfl, s1, atI_nat (j := 1) rfl, _, rfl, _, _, _, _, rfl, rfl, s2, atI_nat (j := 1) rfl, _, _, rfl, rfl, .inr ⟨by omega, by omega⟩, ?_⟩
  refine ⟨a.num * b.den + b.num * a.den, a.den * b.den, by rw [Int.natCast_mul] <;> rfl, Nat.mul_pos a.den_pos b.den_pos, den_mul_lt ha hb, fun v H' sm f => q v H' sm ?_⟩
  rw [add_mk] at f
  exact f
theorem ok_minus (W : Tp K mg) : Cal P w K mg base CX0 3 "minus" (sp_minus K) := by
  refine ⟨fok_mk (f_minus W) sc_minus (fun vs H Q E h => by
    obtain ⟨x, y, a, b, rfl, ⟨p1, rfl, s1⟩, ⟨p2, rfl, s2⟩, ha, hb, q⟩ := h
    rfl) (fun _ _ _ _ _ _ us hl => match us, hl with | [_, _], _ => rfl) (fun f cdv A outer s H vs Q E hr h => ?_), g_minus W⟩
  obtain ⟨x, y, a, b, rfl, ⟨p1, rfl, s1⟩, ⟨p2, rfl, s2⟩, ha, hb, q⟩ := h
  refine ⟨_, (pss_one (ps_ret (pk (ok_lowest W) hr pass0 (pa_cons (pe_op op_sub (pe_op op_mul (pe_ix (r := rIxT K) ix_tup (pv 0) pe_int (fun _ _ => rfl)) (pe_ix (r := rIxT K) ix_tup (pv 1) pe_int (fun _ _ => rfl))) (pe_op op_mul (pe_ix (r := rIxT K) ix_tup (pv 1) pe_int (fun _ _ => rfl)) (pe_ix (r := rIxT K) ix_tup (pv 0) pe_int (fun _ _ => rfl)))) (pa_cons (pe_op op_mul (pe_ix (r := rIxT K) ix_tup (pv 0) pe_int (fun _ _ => rfl)) (pe_ix (r := rIxT K) ix_tup (pv 1) pe_int (fun _ _ => rfl))) pa_nil))))), ?_⟩
  have da := den_pos a
  have db := den_pos b
  refine ⟨_, rfl, _, _, _, _, rfl, rfl, s1, atI_nat (j := 0) rfl, _, rfl, _, _, _, _, rfl, rfl, s2, atI_nat (j := 1) rfl, _, _, rfl, rfl, .inr ⟨by omega, by omega⟩, _, rfl, _, _, _, _, rfl, rfl, s2, atI_nat (j := 0) rfl, _, rfl, _, _, _, _, rfl, rfl, s1, atI_nat (j := 1) rfl, _, _, rfl, rfl, .inr ⟨by omega, by omega⟩, _, _, rfl, rfl, _, rfl, _, _, _, _, rfl, rfl, s1, atI_nat (j := 1) rfl, _, rfl, _, _, _, _, rfl, rfl, s2, atI_nat (j := 1) rfl, _, _, rfl, rfl, .inr ⟨by omega, by omega⟩, ?_⟩
  refine ⟨a.num * b.den - b.num * a.den, a.den * b.den, by rw [Int.natCast_mul] <;> rfl, Nat.mul_pos a.den_pos b.den_pos, den_mul_lt ha hb, fun v H' sm f => q v H' sm ?_⟩
  rw [sub_mk] at f
  exact f
theorem ok_times (W : Tp K mg) : Cal P w K mg base CX0 3 "times" (sp_times K) := by
  refine ⟨fok_mk (f_times W) sc_times (fun vs H Q E h => by
    obtain ⟨x, y, a, b, rfl, ⟨p1, rfl, s1⟩, ⟨p2, rfl, s2⟩, ha, hb, hn, q⟩ := h
    rfl) (fun _ _ _ _ _ _ us hl => match us, hl with | [_, _], _ => rfl) (fun f cdv A outer s H vs Q E hr h => ?_), g_times W⟩
  obtain ⟨x, y, a, b, rfl, ⟨p1, rfl, s1⟩, ⟨p2, rfl, s2⟩, ha, hb, hn, q⟩ := h
  refine ⟨_, (pss_one (ps_ret (pk (ok_lowest W) hr pass0 (pa_cons (pe_op op_mul (pe_ix (r := rIxT K) ix_tup (pv 0) pe_int (fun _ _ => rfl)) (pe_ix (r := rIxT K) ix_tup (pv 1) pe_int (fun _ _ => rfl))) (pa_cons (pe_op op_mul (pe_ix (r := rIxT K) ix_tup (pv 0) pe_int (fun _ _ => rfl)) (pe_ix (r := rIxT K) ix_tup (pv 1) pe_int (fun _ _ => rfl))) pa_nil))))), ?_⟩
  have da := den_pos a
  have db := den_pos b
  refine ⟨_, rfl, _, _, _, _, rfl, rfl, s1, atI_nat (j := 0) rfl, _, rfl, _, _, _, _, rfl, rfl, s2, atI_nat (j := 0) rfl, _, _, rfl, rfl, .inl hn, _, rfl, _, _, _, _, rfl, rfl, s1, atI_nat (j := 1) rfl, _, rfl, _, _, _, _, rfl, rfl, s2, atI_nat (j := 1) rfl, _, _, rfl, rfl, .inr ⟨by omega, by omega⟩, ?_⟩
  refine ⟨a.num * b.num, a.den * b.den, by rw [Int.natCast_mul] <;> rfl, Nat.mul_pos a.den_pos b.den_pos, den_mul_lt ha hb, fun v H' sm f => q v H' sm ?_⟩
  rw [mul_mk] at f
  exact f
theorem ok_is_above (W : Tp K mg) : Cal P w K mg base CX0 1 "is_above" (sp_is_above K) := by
  refine ⟨fok_mk (f_is_above W) sc_is_above (fun vs H Q E h => by
    obtain ⟨x, y, a, b, rfl, ⟨p1, rfl, s1⟩, ⟨p2, rfl, s2⟩, ha, hb, q⟩ := h
    rfl) (fun _ _ _ _ _ _ us hl => match us, hl with | [_, _], _ => rfl) (fun f cdv A outer s H vs Q E hr h => ?_), g_is_above W⟩
  obtain ⟨x, y, a, b, rfl, ⟨p1, rfl, s1⟩, ⟨p2, rfl, s2⟩, ha, hb, q⟩ := h
  refine ⟨_, (pss_one (ps_ret (pe_cmpR op_gt (pe_op op_mul (pe_ix (r := rIxT K) ix_tup (pv 0) pe_int (fun _ _ => rfl)) (pe_ix (r := rIxT K) ix_tup (pv 1) pe_int (fun _ _ => rfl))) (pe_op op_mul (pe_ix (r := rIxT K) ix_tup (pv 1) pe_int (fun _ _ => rfl)) (pe_ix (r := rIxT K) ix_tup (pv 0) pe_int (fun _ _ => rfl))) (nomark _)))), ?_⟩
  have da := den_pos a
  have db := den_pos b
  refine ⟨_, rfl, _, _, _, _, rfl, rfl, s1, atI_nat (j := 0) rfl, _, rfl, _, _, _, _, rfl, rfl, s2, atI_nat (j := 1) rfl, _, _, rfl, rfl, .inr ⟨by omega, by omega⟩, _, rfl, _, _, _, _, rfl, rfl, s2, atI_nat (j := 0) rfl, _, rfl, _, _, _, _, rfl, rfl, s1, atI_nat (j := 1) rfl, _, _, rfl, rfl, .inr ⟨by omega, by omega⟩, _, _, rfl, rfl, ?_⟩
  have e : decide (b.num * a.den < a.num * b.den) = decide (b < a) := decide_eq_decide.mpr (above_iff a b)
  show Q (.bl (decide (b.num * a.den < a.num * b.den))) H
  rw [e]
  exact q
end
end Dl
set_option Elab.async false
set_option linter.all false
set_option maxRecDepth 100000
set_option maxHeartbeats 4000000
namespace Dl
open PySem PySem.Spec PyProof.Rows L2 He
/-! ### plans -/
def LETS : Str := "abcdefghijklmnopqrstuvwxyz"
def DIGS : Str := "0123456789"
structure NameOk (x : Str) : Prop where
  lo : 1 ≤ x.length
  hi : x.length ≤ 8
  hd : ∃ c, x.cps.toList[0]? = some c ∧ c ∈ LETS.cps.toList
  all : ∀ c ∈ x.cps.toList, c ∈ (LETS ++ DIGS).cps.toList
structure WOk (ws : List Int) : Prop where
  lo : 1 ≤ ws.length
  hi : ws.length ≤ 9
  each : ∀ w ∈ ws, 0 ≤ w ∧ w ≤ 1000
  slo : 1 ≤ ws.sum
  shi : ws.sum ≤ 1000
structure Kind where
  name : Str
  price : Int
  ws : List Int
def encK (k : Kind) : PyData := .tuple [.str k.name, .int k.price, .tuple (k.ws.map PyData.int)]
def encKs (ks : List Kind) : PyData := .tuple (ks.map encK)
structure KindOk (k : Kind) : Prop where
  nm : NameOk k.name
  np : k.name ≠ "plan"
  lo : 1 ≤ k.price
  hi : k.price ≤ 1000000
  ws : WOk k.ws
structure KsOk (ks : List Kind) : Prop where
  lo : 1 ≤ ks.length
  hi : ks.length ≤ 5
  each : ∀ k ∈ ks, KindOk k
  apart : ks.Pairwise fun a b => a.name ≠ b.name ∧ a.price < b.price
theorem tyX_tup {K : PySem.W.Frag} {H : Hp} {p : Addr} {xs : List V} (h : SqT K H p xs) : TyX K H (.ref p) (.type "tuple") := by
  rcases h with (h | ⟨o, h⟩) | ⟨o, its, n, hk, hc, _⟩
  · exact .base (.tup h)
  · exact .fTuple h
  · exact .kTuple hk hc
theorem Dt.kind {K : PySem.W.Frag} {H : Hp} {v : V} {k : Kind} (h : Dt K H v (encK k)) : ∃ p w, v = .ref p ∧ SqT K H p [.str k.name, .int k.price, .ref w] ∧ SqT K H w (k.ws.map V.int) := by
  obtain ⟨p, vs, e, s, t⟩ := h.tupI
  match vs, t with
  | [], t => cases t.dp
  | [_], t => cases t.tail.dp
  | [_, _], t => cases t.tail.tail.dp
  | _ :: _ :: _ :: _ :: _, t => cases t.tail.tail.tail.dp
  | [a, b, c], t =>
    obtain ⟨w, us, e2, s2, t2⟩ := t.tail.tail.head.tupI
    have h1 := t.head.strI
    have h2 := t.tail.head.intI
    have h3 := DtAll.intsI t2
    subst h1 h2 e2 h3
    exact ⟨p, w, e, s, s2⟩
def sp_is_tuple_of (K : PySem.W.Frag) : Sp := fun vs H Q _ => ∃ (p : Addr) (xs : List V) (n : Int), vs = [.ref p, .int n] ∧ SqT K H p xs ∧ Q (.bl (decide ((xs.length : Int) = n))) H
def sp_is_name : Sp := fun vs H Q _ => ∃ x : Str, vs = [.str x] ∧ NameOk x ∧ ∀ H', Same H H' → Q (.bl true) H'
def sp_are_weights (K : PySem.W.Frag) : Sp := fun vs H Q _ => ∃ (p : Addr) (ws : List Int), vs = [.ref p] ∧ SqT K H p (ws.map V.int) ∧ WOk ws ∧ ∀ H', Same H H' → Q (.bl true) H'
def sp_is_kind (K : PySem.W.Frag) : Sp := fun vs H Q _ => ∃ (v u : V) (k : Kind) (ks : List Kind), vs = [v, u] ∧ Dt K H v (encK k) ∧ Dt K H u (encKs ks) ∧ KindOk k ∧ (∀ j ∈ ks, j.name ≠ k.name ∧ j.price < k.price) ∧ ks.length ≤ 5 ∧ ∀ H', Same H H' → Q (.bl true) H'
def sp_check_kinds (K : PySem.W.Frag) : Sp := fun vs H Q _ => ∃ (v : V) (ks : List Kind), vs = [v] ∧ Dt K H v (encKs ks) ∧ KsOk ks ∧ ∀ H', Same H H' → Q .non H'
theorem trues {ys : List V} {n : Nat} (hl : ys.length = n) (h : ∀ (i : Nat) y, ys[i]? = some y → y = V.bl true) : ys = (List.replicate n true).map V.bl := by
  refine List.ext_getElem? fun i => ?_
  by_cases hi : i < n
  · rw [List.getElem?_eq_getElem (by omega), h i _ (List.getElem?_eq_getElem (by omega)), List.getElem?_map, List.getElem?_replicate, if_pos hi] <;> rfl
  · rw [List.getElem?_eq_none (by omega), List.getElem?_eq_none (by rw [List.length_map, List.length_replicate]; omega)]
theorem all_trues (n : Nat) : (List.replicate n true).all id = true := by
  rw [List.all_eq_true]
  intro x hx
  rw [List.eq_of_mem_replicate hx] <;> rfl
section
variable {P : Program} {w : World} {K : PySem.W.Frag} {mg : Str → Option Value} {base : Heap}
theorem ok_is_tuple_of (W : Tp K mg) : Cal P w K mg base CX0 1 "is_tuple_of" (sp_is_tuple_of K) := by
  refine ⟨fok_mk (f_is_tuple_of W) sc_is_tuple_of (fun vs H Q E h => by
    obtain ⟨p, xs, n, rfl, s1, q⟩ := h
    rfl) (fun _ _ _ _ _ _ us hl => match us, hl with | [_, _], _ => rfl) (fun f cdv A outer s H vs Q E hr h => ?_), g_is_tuple_of W⟩
  obtain ⟨p, xs, n, rfl, s1, q⟩ := h
  refine ⟨_, (pss_one (ps_ret (pe_and (pe_callB (r := rIsi K) call_isi (by rfl) (n_isinstance W) (by decide +kernel) (pa_cons (pv 0) (pa_cons (pe_bltn (v := .ty "tuple") (by rfl) (n_tuple W) (by decide +kernel) rfl) pa_nil))) (pe_one (pe_cmpR op_eq (pe_callB (r := rLenQ K) call_len_seq (by rfl) (n_len W) (by decide +kernel) (pa_cons (pv 0) pa_nil)) (pv 1) (nomark _)))))), ?_⟩
  exact ⟨_, rfl, .ref p, .ty "tuple", _, _, true, rfl, .ty _, tyX_tup s1, kit_ty (by decide +kernel), true, rfl, iteT ⟨_, rfl, p, xs, rfl, .inr s1, _, rfl, rfl, by
    rw [dec_int]
    have e : ((xs.length : Int) == n) = decide ((xs.length : Int) = n) := by
      rw [Bool.eq_iff_iff]; simp
    rw [e]
    exact q⟩⟩
theorem ok_is_name (W : Tp K mg) : Cal P w K mg base CX0 1 "is_name" (sp_is_name) := by
  refine ⟨fok_mk (f_is_name W) sc_is_name (fun vs H Q E h => by
    obtain ⟨x, rfl, hx, q⟩ := h
    rfl) (fun _ _ _ _ _ _ us hl => match us, hl with | [_], _ => rfl) (fun f cdv A outer s H vs Q E hr h => ?_), g_is_name W⟩
  obtain ⟨x, rfl, hx, q⟩ := h
  refine ⟨_, (pss_cons (ps_if (PW.pt (pw_or (pt_not (pt_val (pe_callB (r := rIsi K) call_isi (by rfl) (n_isinstance W) (by decide +kernel) (pa_cons (pv 0) (pa_cons (pe_bltn (v := .ty "str") (by rfl) (n_str W) (by decide +kernel) rfl) pa_nil))))) (pw_or1 (pt_not (pt_chain op_le op_le pe_int (pe_callB call_len_str (by rfl) (n_len W) (by decide +kernel) (pa_cons (pv 0) pa_nil)) (C8.pe_gc (by rfl) (i_LONGEST_NAME W))))))) (pss_one (ps_ret pe_bl))
      pss_nil)
      (pss_one (ps_ret (pe_and (pe_cmpR op_in_sign (pe_ix ix_str (pv 0) pe_int (fun _ _ => rfl)) (C8.pe_gc (by rfl) (i_LETTERS W)) (by rfl)) (pe_one (pe_callB (r := rAll K) (cr_all rfl) (by rfl) (n_all W) (by decide +kernel) (pa_cons (pe_lc (own := [("sign", 1)]) (g := gName 1) (by rfl) sc_is_name.nd (pi_str (pv 0)) (blkOk_by (own := [("sign", 1)]) (N := N_is_name) (sc := defScope s_is_name) (by decide +kernel)) (fun _ _ _ _ _ => (pg_name (i := 1) sc_is_name.nd rfl (by first | exact Or.inl rfl | exact Or.inr rfl))) (fun _ _ _ _ _ => pts_nil) (fun _ _ _ _ _ => (pe_cmpR op_in_sign (pv 1) (pe_op op_add_str (C8.pe_gc (by rfl) (i_LETTERS W)) (C8.pe_gc (by rfl) (i_DIGITS W))) (by rfl)))) pa_nil))))))), ?_⟩
  have hz : x.length ≤ sizeLine := Nat.le_trans hx.hi (by decide)
  obtain ⟨c0, hc0, hcl⟩ := hx.hd
  refine ⟨_, rfl, .str x, .ty "str", _, _, true, rfl, .ty _, .base (.str x), kit_ty (by decide +kernel), true, rfl, ?_⟩
  refine iteF ⟨_, rfl, x, rfl, hz, _, _, rfl, rfl, _, rfl, ?_⟩
  rw [decide_eq_true (show (1 : Int) ≤ (x.length : Int) by have := hx.lo; omega)]
  refine iteT ⟨_, _, rfl, rfl, _, rfl, ?_⟩
  rw [decide_eq_true (show (x.length : Int) ≤ 8 by have := hx.hi; omega)]
  refine iteF ⟨_, rfl, x, 0, c0, rfl, rfl, hz, atI_nat (j := 0) hc0, c0, LETS, rfl, rfl, _, rfl, ?_⟩
  rw [decide_eq_true hcl]
  refine iteT ⟨_, rfl, x, rfl, fun D hD => lc_gen (K := K) walk_str (fun _ H' => Same H H') (fun _ y _ => y = .bl true) (Nat.lt_of_le_of_lt (show x.cps.size ≤ 8 from hx.hi) (by decide)) (Same.new hD) (fun i H' a b hI _ => hI.mut hD) (fun _ _ _ _ _ h => h) (fun _ _ _ => trivial) ?_ ?_⟩
  · rintro i y H1 H2 Q2 hi hI ⟨rfl, c, hc, rfl⟩ k
    refine ⟨rfl, _, rfl, LETS, DIGS, rfl, rfl, by decide +kernel, c, _, rfl, rfl, ?_⟩
    have hm : c ∈ x.cps.toList := by
      have hc' : x.cps.toList[i]? = some c := by rw [Array.getElem?_toList]; exact hc
      exact List.mem_of_getElem? hc'
    rw [decide_eq_true (hx.all c hm)]
    exact k _ _ hI Sk.refl (fun a e => e) rfl
  · intro H' ys hI hl hy hDD
    refine ⟨D, List.replicate x.cps.size true, rfl, SqL.of (by rw [hDD, ← trues hl hy]), ?_⟩
    rw [all_trues]
    exact q H' hI
theorem ok_are_weights (W : Tp K mg) : Cal P w K mg base CX0 3 "are_weights" (sp_are_weights K) := by
  refine ⟨fok_mk (f_are_weights W) sc_are_weights (fun vs H Q E h => by
    obtain ⟨p, ws, rfl, s1, hw, q⟩ := h
    rfl) (fun _ _ _ _ _ _ us hl => match us, hl with | [_], _ => rfl) (fun f cdv A outer s H vs Q E hr h => ?_), g_are_weights W⟩
  obtain ⟨p, ws, rfl, s1, hw, q⟩ := h
  refine ⟨_, (pss_cons (ps_if (PW.pt (pw_or (pt_not (pt_val (pe_callB (r := rIsi K) call_isi (by rfl) (n_isinstance W) (by decide +kernel) (pa_cons (pv 0) (pa_cons (pe_bltn (v := .ty "tuple") (by rfl) (n_tuple W) (by decide +kernel) rfl) pa_nil))))) (pw_or1 (pt_not (pt_chain op_le op_le pe_int (pe_callB (r := rLenQ K) call_len_seq (by rfl) (n_len W) (by decide +kernel) (pa_cons (pv 0) pa_nil)) (C8.pe_gc (by rfl) (i_MOST_WEIGHTS W))))))) (pss_one (ps_ret pe_bl))
      pss_nil)
      (pss_one (ps_ret (pe_and (pe_callB (r := rAll K) (cr_all rfl) (by rfl) (n_all W) (by decide +kernel) (pa_cons (pe_lc (own := [("weight", 1)]) (g := gName 1) (by rfl) sc_are_weights.nd (pi_tup (pv 0)) (blkOk_by (own := [("weight", 1)]) (N := N_are_weights) (sc := defScope s_are_weights) (by decide +kernel)) (fun _ _ _ _ _ => (pg_name (i := 1) sc_are_weights.nd rfl (by first | exact Or.inl rfl | exact Or.inr rfl))) (fun _ _ _ _ _ => pts_nil) (fun _ _ _ _ _ => (pk (ok_is_integer W) hr pass0 (pa_cons (pv 1) (pa_cons pe_int (pa_cons (C8.pe_gc (by rfl) (i_MOST_SUM W)) pa_nil)))))) pa_nil)) (pe_one (pe_chain op_le op_le pe_int (pe_callB (r := rSumT K) (cr_sumT rfl) (by rfl) (n_sum W) (by decide +kernel) (pa_cons (pv 0) pa_nil)) (C8.pe_gc (by rfl) (i_MOST_SUM W)))))))), ?_⟩
  have hlm : (ws.map V.int).length = ws.length := List.length_map _
  refine ⟨_, rfl, .ref p, .ty "tuple", _, _, true, rfl, .ty _, tyX_tup s1, kit_ty (by decide +kernel), true, rfl, ?_⟩
  refine iteF ⟨_, rfl, p, _, rfl, .inr s1, _, _, rfl, rfl, _, rfl, ?_⟩
  rw [decide_eq_true (show (1 : Int) ≤ ((ws.map V.int).length : Int) by have := hw.lo; omega)]
  refine iteT ⟨_, _, rfl, rfl, _, rfl, ?_⟩
  rw [decide_eq_true (show ((ws.map V.int).length : Int) ≤ 9 by have := hw.hi; omega)]
  refine iteF ⟨_, rfl, p, rfl, ⟨_, s1⟩, fun D hD => lc_gen (K := K) walk_tup (fun _ H' => Same H H') (fun _ y _ => y = .bl true) (Nat.lt_of_le_of_lt (show (ws.map V.int).length ≤ 9 by rw [hlm]; exact hw.hi) (by decide)) (Same.new hD) (fun i H' a b hI _ => hI.mut hD) (fun _ _ _ _ _ h => h) (fun _ _ hI => hI.seqT s1) ?_ ?_⟩
  · rintro i y H1 H2 Q2 hi hI ⟨rfl, hy⟩ k
    have hi' : i < ws.length := by omega
    have ey : y = .int ws[i] := by
      rw [List.getElem?_map, List.getElem?_eq_getElem hi'] at hy
      exact (Option.some.inj hy).symm
    subst ey
    refine ⟨rfl, _, rfl, _, 0, 1000, "int", rfl, .base (.int _), by decide, ?_⟩
    obtain ⟨h1, h2⟩ := hw.each ws[i] (List.getElem_mem hi')
    have e : intIn (.int ws[i]) 0 1000 = true := by
      show (decide (0 ≤ ws[i]) && decide (ws[i] ≤ 1000)) = true
      rw [decide_eq_true h1, decide_eq_true h2] <;> rfl
    rw [e]
    exact k _ _ hI Sk.refl (fun a e => e) rfl
  · intro H' ys hI hl hy hDD
    refine ⟨D, List.replicate (ws.map V.int).length true, rfl, SqL.of (by rw [hDD, ← trues hl hy]), ?_⟩
    rw [all_trues]
    refine ⟨true, rfl, iteT ⟨_, rfl, p, ws, rfl, hI.seqT s1, _, _, rfl, rfl, _, rfl, ?_⟩⟩
    rw [decide_eq_true (show (1 : Int) ≤ ws.sum from hw.slo)]
    refine iteT ⟨_, _, rfl, rfl, ?_⟩
    have e2 : decide (ws.sum ≤ (1000 : Int)) = true := decide_eq_true hw.shi
    show Q (.bl (decide (ws.sum ≤ (1000 : Int)))) H'
    rw [e2]
    exact q H' hI
end
end Dl
set_option Elab.async false
set_option linter.all false
set_option maxRecDepth 100000
set_option maxHeartbeats 4000000
namespace Dl
open PySem PySem.Spec PyProof.Rows L2 He
theorem cutV_to (xs : List V) (i : Nat) (h : i ≤ xs.length) : cutV xs none (some (i : Int)) = xs.take i := by
  unfold cutV
  rw [HT.sIx_none, HT.sIx_nat, Nat.min_eq_left h]
  rfl
theorem DtAll.take : ∀ {K : PySem.W.Frag} {H : Hp} {vs : List V} {ds : List PyData} (i : Nat), DtAll K H vs ds → DtAll K H (vs.take i) (ds.take i)
  | _, _, _, _, 0, _ => .nil
  | _, _, [], [], _ + 1, _ => .nil
  | _, _, [], _ :: _, _, h => by cases h.dp
  | _, _, _ :: _, [], _, h => by cases h.dp
  | _, _, v :: vs, d :: ds, i + 1, h => .cons h.head (DtAll.take i h.tail)
theorem KsOk.kind {ks : List Kind} (h : KsOk ks) {i : Nat} {k : Kind} (e : ks[i]? = some k) : KindOk k := h.each k (List.mem_of_getElem? e)
theorem KsOk.ahead {ks : List Kind} (h : KsOk ks) {i : Nat} {k : Kind} (e : ks[i]? = some k) : ∀ j ∈ ks.take i, j.name ≠ k.name ∧ j.price < k.price := by
  intro j hj
  obtain ⟨m, hm, em⟩ := List.mem_iff_getElem.mp hj
  obtain ⟨hi, ek⟩ := List.getElem?_eq_some_iff.mp e
  have hm' : m < i := by
    rw [List.length_take] at hm
    omega
  have z := List.pairwise_iff_getElem.mp h.apart m i (by omega) hi hm'
  rw [List.getElem_take] at em
  rw [em, ek] at z
  exact z
def fsP (n : Int) (kv : V) : List (Str × V) := putF "held_kinds" kv (putF "held_seats" (.int n) [])
theorem hs_ne : ¬ (("held_seats" : Str) = "held_kinds") := by decide +kernel
theorem fsP_seats (n : Int) (kv : V) : (fsP n kv).lookup ("held_seats" : Str) = some (.int n) := by
  unfold fsP
  rw [lookup_putF, if_neg hs_ne, lookup_putF, if_pos rfl]
theorem fsP_kinds (n : Int) (kv : V) : (fsP n kv).lookup ("held_kinds" : Str) = some kv := by
  unfold fsP
  rw [lookup_putF, if_pos rfl]
theorem fsP_no (n : Int) (kv : V) {m : Str} (h1 : ¬ m = "held_kinds") (h2 : ¬ m = "held_seats") : (fsP n kv).lookup m = none := by
  unfold fsP
  rw [lookup_putF, if_neg h1, lookup_putF, if_neg h2]
  rfl
/-- a plan of n seats and kinds ks -/
def PlanAt (K : PySem.W.Frag) (H : Hp) (v : V) (n : Nat) (ks : List Kind) : Prop := ∃ p dx kv, v = .ref p ∧ H p = some (.ins (ga K "Plan") dx (fsP n kv)) ∧ Dt K H kv (encKs ks)
theorem PlanAt.sk {K : PySem.W.Frag} {H H' : Hp} {v : V} {n : Nat} {ks : List Kind} (x : Sk K H H') (h : PlanAt K H v n ks) : PlanAt K H' v n ks :=
  let ⟨p, dx, kv, e, h1, h2⟩ := h; ⟨p, dx, kv, e, x _ _ h1 rfl, h2.sk x⟩
theorem PlanAt.same {K : PySem.W.Frag} {H H' : Hp} {v : V} {n : Nat} {ks : List Kind} (x : Same H H') (h : PlanAt K H v n ks) : PlanAt K H' v n ks := h.sk (Sk.of x)
def sp_Plan_init (K : PySem.W.Frag) : Sp := fun vs H Q _ => ∃ (x dx : Addr) (kv : V) (n : Nat) (ks : List Kind), vs = [.ref x, .int n, kv] ∧ H x = some (.ins (ga K "Plan") dx []) ∧ n ≤ 12 ∧ Dt K H kv (encKs ks) ∧ KsOk ks ∧
  ∀ H', But x H H' → H' x = some (.ins (ga K "Plan") dx (fsP n kv)) → Q .non H'
def sp_Plan_seats (K : PySem.W.Frag) : Sp := fun vs H Q _ => ∃ (v : V) (n : Nat) (ks : List Kind), vs = [v] ∧ PlanAt K H v n ks ∧ Q (.int n) H
def sp_Plan_kinds (K : PySem.W.Frag) : Sp := fun vs H Q _ => ∃ (v : V) (n : Nat) (ks : List Kind), vs = [v] ∧ PlanAt K H v n ks ∧ ∀ kv, Dt K H kv (encKs ks) → Q kv H
def sp_Plan_len (K : PySem.W.Frag) : Sp := fun vs H Q _ => ∃ (v : V) (n : Nat) (ks : List Kind), vs = [v] ∧ PlanAt K H v n ks ∧ Q (.int ks.length) H
def sp_check_plan (K : PySem.W.Frag) : Sp := fun vs H Q _ => ∃ (v : V) (n : Nat) (ks : List Kind), vs = [v] ∧ PlanAt K H v n ks ∧ Q .non H
def sp_check_stage (K : PySem.W.Frag) : Sp := fun vs H Q _ => ∃ (v : V) (n i : Nat) (ks : List Kind), vs = [v, .int i] ∧ PlanAt K H v n ks ∧ ks.length ≤ 5 ∧ i ≤ ks.length ∧ Q .non H
def sp_check_left (K : PySem.W.Frag) : Sp := fun vs H Q _ => ∃ (v : V) (n i : Nat) (ks : List Kind), vs = [v, .int i] ∧ PlanAt K H v n ks ∧ i ≤ n ∧ Q .non H
/-- the chances of a kind -/
def chance (k : Kind) (w : Int) : Rat := mkRat w k.ws.sum.toNat
def sp_chances_of (K : PySem.W.Frag) : Sp := fun vs H Q _ => ∃ (v : V) (n i : Nat) (ks : List Kind) (k : Kind), vs = [v, .int i] ∧ PlanAt K H v n ks ∧ ks[i]? = some k ∧ WOk k.ws ∧
  ∀ H' D ys, Same H H' → H D = none → H' D = some (.lst ys) → ys.length = k.ws.length → (∀ (j : Nat) y, ys[j]? = some y → ∃ w, k.ws[j]? = some w ∧ Fq K H' y (chance k w)) → Q (.ref D) H'
section
variable {P : Program} {w : World} {K : PySem.W.Frag} {mg : Str → Option Value} {base : Heap}
theorem ok_is_kind (W : Tp K mg) : Cal P w K mg base CX0 4 "is_kind" (sp_is_kind K) := by
  refine ⟨fok_mk (f_is_kind W) sc_is_kind (fun vs H Q E h => by
    obtain ⟨v, u, k, ks, rfl, hk, hu, ok, ha, hl, q⟩ := h
    rfl) (fun _ _ _ _ _ _ us hl => match us, hl with | [_, _], _ => rfl) (fun f cdv A outer s H vs Q E hr h => ?_), g_is_kind W⟩
  obtain ⟨v, u, k, ks, rfl, hk, hu, ok, ha, hl, q⟩ := h
  refine ⟨_, (pss_cons (ps_if (PW.pt (pw_or (pt_not (pt_val (pk (ok_is_tuple_of W) hr pass0 (pa_cons (pv 0) (pa_cons pe_int pa_nil))))) (pw_or (pt_not (pt_val (pk (ok_is_name W) hr pass0 (pa_cons (pe_ix (r := rIxT K) ix_tup (pv 0) pe_int (fun _ _ => rfl)) pa_nil)))) (pw_or1 (pt_cmpR op_eq (pe_ix (r := rIxT K) ix_tup (pv 0) pe_int (fun _ _ => rfl)) (C8.pe_gc (by rfl) (i_PLAN W)) (nomark _)))))) (pss_one (ps_ret pe_bl))
      pss_nil)
      (pss_cons (ps_if (PW.pt (pw_or (pt_cmpR (r := rIn K false) op_in_seq (pe_ix (r := rIxT K) ix_tup (pv 0) pe_int (fun _ _ => rfl)) (pe_lc (own := [("kind", 2)]) (g := gName 2) (by rfl) sc_is_kind.nd (pi_tup (pv 1)) (blkOk_by (own := [("kind", 2)]) (N := N_is_kind) (sc := defScope s_is_kind) (by decide +kernel)) (fun _ _ _ _ _ => (pg_name (i := 2) sc_is_kind.nd rfl (by first | exact Or.inl rfl | exact Or.inr rfl))) (fun _ _ _ _ _ => pts_nil) (fun _ _ _ _ _ => (pe_ix (r := rIxT K) ix_tup (pv 2) pe_int (fun _ _ => rfl)))) (by rfl)) (pw_or1 (pt_not (pt_val (pk (ok_is_integer W) hr pass0 (pa_cons (pe_ix (r := rIxT K) ix_tup (pv 0) pe_int (fun _ _ => rfl)) (pa_cons pe_int (pa_cons (C8.pe_gc (by rfl) (i_MOST_PRICE W)) pa_nil))))))))) (pss_one (ps_ret pe_bl))
      pss_nil)
      (pss_one (ps_ret (pe_and (pe_callB (r := rAll K) (cr_all rfl) (by rfl) (n_all W) (by decide +kernel) (pa_cons (pe_lc (own := [("kind", 2)]) (g := gName 2) (by rfl) sc_is_kind.nd (pi_tup (pv 1)) (blkOk_by (own := [("kind", 2)]) (N := N_is_kind) (sc := defScope s_is_kind) (by decide +kernel)) (fun _ _ _ _ _ => (pg_name (i := 2) sc_is_kind.nd rfl (by first | exact Or.inl rfl | exact Or.inr rfl))) (fun _ _ _ _ _ => pts_nil) (fun _ _ _ _ _ => (pe_cmpR op_lt (pe_ix (r := rIxT K) ix_tup (pv 2) pe_int (fun _ _ => rfl)) (pe_ix (r := rIxT K) ix_tup (pv 0) pe_int (fun _ _ => rfl)) (nomark _)))) pa_nil)) (pe_one (pk (ok_are_weights W) hr pass0 (pa_cons (pe_ix (r := rIxT K) ix_tup (pv 0) pe_int (fun _ _ => rfl)) pa_nil)))))))), ?_⟩
  obtain ⟨p, wv, rfl, s1, s2⟩ := hk.kind
  obtain ⟨pu, us, rfl, su, tu⟩ := hu.tupI
  have lu : us.length = ks.length := by rw [tu.len, List.length_map]
  refine ⟨_, rfl, p, _, 3, rfl, s1, true, rfl, ?_⟩
  refine iteF ⟨_, rfl, _, _, _, _, rfl, rfl, (s1), atI_nat (j := 0) rfl, k.name, rfl, ok.nm, fun H1 sm1 => ⟨true, rfl, ?_⟩⟩
  refine iteF ⟨_, rfl, _, _, _, _, rfl, rfl, ((sm1.seqT s1)), atI_nat (j := 0) rfl, rfl, _, rfl, ?_⟩
  have e1 : decide (V.str k.name = V.str "plan") = false := decide_eq_false fun z => ok.np (by injection z)
  show if decide (V.str k.name = V.str "plan") = true then _ else _
  rw [e1]
  refine iteF ?_
  refine ⟨_, rfl, _, _, _, _, rfl, rfl, ((sm1.seqT s1)), atI_nat (j := 0) rfl, _, rfl, pu, rfl, ⟨_, sm1.seqT su⟩, fun D hD => lc_gen (K := K) walk_tup (fun _ H' => Same H1 H') (fun j y _ => ∃ kk, ks[j]? = some kk ∧ y = .str kk.name) (Nat.lt_of_le_of_lt (show us.length ≤ 5 by omega) (by decide)) (Same.new hD) (fun i H' a b hI _ => Same.mut hI hD) (fun _ _ _ _ _ h => h) (fun _ _ hI => Same.seqT hI (sm1.seqT su)) ?_ ?_⟩
  · rintro i y H2 H3 Q2 hi hI ⟨rfl, hy⟩ c
    obtain ⟨d, hd, dy⟩ := tu.atV hy
    obtain ⟨kk, hkk, rfl⟩ : ∃ kk, ks[i]? = some kk ∧ d = encK kk := by
      rw [List.getElem?_map] at hd
      cases e : ks[i]? with
      | none => rw [e] at hd; cases hd
      | some kk => rw [e] at hd; exact ⟨kk, rfl, (Option.some.inj hd).symm⟩
    obtain ⟨pk, pw, rfl, sk, _⟩ := dy.kind
    exact ⟨rfl, _, rfl, _, _, _, _, rfl, rfl, ((Same.seqT hI (sm1.seqT sk))), atI_nat (j := 0) rfl, c _ _ hI Sk.refl (fun a e => e) ⟨kk, hkk, rfl⟩⟩
  · intro H2 ys hI hyl hy hDD
    have nin : inV (.str k.name) ys = false := by
      unfold inV
      rw [List.any_eq_false]
      intro y hy'
      obtain ⟨j, hj, ej⟩ := List.mem_iff_getElem.mp hy'
      obtain ⟨kk, hkk, e⟩ := hy j y (by rw [List.getElem?_eq_getElem hj, ej])
      have := (ha kk (List.mem_of_getElem? hkk)).1
      rw [e]
      show ¬ (eqV (.str kk.name) (.str k.name) = true)
      simp [eqV, this]
    have fl : ys.all flatV = true := by
      rw [List.all_eq_true]
      intro y hy'
      obtain ⟨j, hj, ej⟩ := List.mem_iff_getElem.mp hy'
      obtain ⟨kk, hkk, e⟩ := hy j y (by rw [List.getElem?_eq_getElem hj, ej])
      rw [e] <;> rfl
    have sm2 : Same H H2 := sm1.trans hI
    refine ⟨D, ys, rfl, .inl (SqL.of hDD), rfl, fl, _, rfl, ?_⟩
    show if (if false = true then !inV (.str k.name) ys else inV (.str k.name) ys) = true then _ else _
    rw [if_neg Bool.false_ne_true, nin]
    refine iteF ⟨_, rfl, _, _, _, _, rfl, rfl, ((sm2.seqT s1)), atI_nat (j := 1) rfl, _, 1, 1000000, "int", rfl, .base (.int _), by decide, _, rfl, ?_⟩
    have e3 : intIn (.int k.price) 1 1000000 = true := by
      show (decide (1 ≤ k.price) && decide (k.price ≤ 1000000)) = true
      rw [decide_eq_true ok.lo, decide_eq_true ok.hi] <;> rfl
    rw [e3]
    refine iteF ?_
    refine ⟨_, rfl, pu, rfl, ⟨_, sm2.seqT su⟩, fun D2 hD2 => lc_gen (K := K) walk_tup (fun _ H' => Same H2 H') (fun j y _ => y = .bl true) (Nat.lt_of_le_of_lt (show us.length ≤ 5 by omega) (by decide)) (Same.new hD2) (fun i H' a b hI _ => Same.mut hI hD2) (fun _ _ _ _ _ h => h) (fun _ _ hI => Same.seqT hI (sm2.seqT su)) ?_ ?_⟩
    · rintro i y H3 H4 Q2 hi hI2 ⟨rfl, hy2⟩ c
      obtain ⟨d, hd, dy⟩ := tu.atV hy2
      obtain ⟨kk, hkk, rfl⟩ : ∃ kk, ks[i]? = some kk ∧ d = encK kk := by
        rw [List.getElem?_map] at hd
        cases e : ks[i]? with
        | none => rw [e] at hd; cases hd
        | some kk => rw [e] at hd; exact ⟨kk, rfl, (Option.some.inj hd).symm⟩
      obtain ⟨pk, pw, rfl, sk, _⟩ := dy.kind
      refine ⟨rfl, _, rfl, _, _, _, _, rfl, rfl, ((Same.seqT hI2 (sm2.seqT sk))), atI_nat (j := 1) rfl, _, rfl, _, _, _, _, rfl, rfl, ((Same.seqT hI2 (sm2.seqT s1))), atI_nat (j := 1) rfl, _, _, rfl, rfl, ?_⟩
      have e4 : decide (kk.price < k.price) = true := decide_eq_true (ha kk (List.mem_of_getElem? hkk)).2
      show Q2 (.bl (decide (kk.price < k.price))) _
      rw [e4]
      exact c _ _ hI2 Sk.refl (fun a e => e) rfl
    · intro H3 zs hI2 hzl hz hDD2
      have sm3 : Same H H3 := sm2.trans hI2
      refine ⟨D2, List.replicate us.length true, rfl, SqL.of (by rw [hDD2, ← trues hzl hz]), ?_⟩
      rw [all_trues]
      exact ⟨true, rfl, iteT ⟨_, rfl, _, _, _, _, rfl, rfl, ((sm3.seqT s1)), atI_nat (j := 2) rfl, wv, k.ws, rfl, sm3.seqT s2, ok.ws, fun H4 sm4 => q H4 (sm3.trans sm4)⟩⟩
theorem ok_check_kinds (W : Tp K mg) : Cal P w K mg base CX0 5 "check_kinds" (sp_check_kinds K) := by
  refine ⟨fok_mk (f_check_kinds W) sc_check_kinds (fun vs H Q E h => by
    obtain ⟨v, ks, rfl, hv, ok, q⟩ := h
    rfl) (fun _ _ _ _ _ _ us hl => match us, hl with | [_], _ => rfl) (fun f cdv A outer s H vs Q E hr h => ?_), g_check_kinds W⟩
  obtain ⟨v, ks, rfl, hv, ok, q⟩ := h
  refine ⟨_, (pss_cons (ps_if (PW.pt (pw_or (pt_not (pt_val (pe_callB (r := rIsi K) call_isi (by rfl) (n_isinstance W) (by decide +kernel) (pa_cons (pv 0) (pa_cons (pe_bltn (v := .ty "tuple") (by rfl) (n_tuple W) (by decide +kernel) rfl) pa_nil))))) (pw_or1 (pt_cmpR op_eq (pe_callB (r := rLenQ K) call_len_seq (by rfl) (n_len W) (by decide +kernel) (pa_cons (pv 0) pa_nil)) pe_int (nomark _))))) (pss_one ps_never)
      pss_nil)
      (pss_one (ps_for PassesOwn.never rfl (pi_enumT (by rfl) (n_enumerate W) (pa_cons (pv 0) pa_nil)) (pg_tup (by rfl) (pgs_cons (pg_name (i := 1) sc_check_kinds.nd rfl (by first | exact Or.inl rfl | exact Or.inr rfl)) (pgs_cons (pg_name (i := 2) sc_check_kinds.nd rfl (by first | exact Or.inl rfl | exact Or.inr rfl)) pgs_nil)))
      (pss_one (ps_if (PW.pt (pw_or (pt_cmpR op_eq (pv 1) (C8.pe_gc (by rfl) (i_MOST_KINDS W)) (nomark _)) (pw_or1 (pt_not (pt_val (pk (ok_is_kind W) hr pass0 (pa_cons (pv 2) (pa_cons (pe_slice (r := rSlT K) sl_tup (pv 0) po_none (po_some (pv 1))) pa_nil)))))))) (pss_one ps_never)
      pss_nil))))), ?_⟩
  obtain ⟨p, us, rfl, s1, t1⟩ := hv.tupI
  have lu : us.length = ks.length := by rw [t1.len, List.length_map]
  have llo := ok.lo
  have lhi := ok.hi
  refine ⟨_, rfl, .ref p, .ty "tuple", _, _, true, rfl, .ty _, tyX_tup s1, kit_ty (by decide +kernel), true, rfl, ?_⟩
  refine iteF ⟨_, rfl, p, _, rfl, .inr s1, rfl, _, rfl, ?_⟩
  have e1 : decide (V.int (us.length : Int) = V.int 0) = false := decide_eq_false fun z => by
    injection z with z
    omega
  show if decide (V.int (us.length : Int) = V.int 0) = true then _ else _
  rw [e1]
  refine iteF ⟨_, rfl, p, us, rfl, s1, for_it walk_enumT (fun i σ H' => Same H H' ∧ ∃ y1 y2, σ = [some (.ref p), y1, y2]) ⟨Same.refl H, none, none, rfl⟩ (fun i σ H' _ hI => Same.seqT hI.1 s1) ?_ ?_⟩
  · rintro i x σ H1 H2 hi ⟨hI, y1, y2, rfl⟩ ⟨T, a, b, rfl, hT, rfl, ha, hb⟩
    cases ha
    obtain ⟨d, hd, dy⟩ := t1.atV hb
    obtain ⟨kk, hkk, rfl⟩ : ∃ kk, ks[i]? = some kk ∧ d = encK kk := by
      rw [List.getElem?_map] at hd
      cases e : ks[i]? with
      | none => rw [e] at hd; cases hd
      | some kk => rw [e] at hd; exact ⟨kk, rfl, (Option.some.inj hd).symm⟩
    have sm1 : Same H (upd H1 T (.tup [.int (i : Nat), b])) := hI.trans (Same.new hT)
    refine ⟨T, _, rfl, SqT.of upd_same, rfl, _, _, rfl, _, _, rfl, rfl, ?_⟩
    refine ⟨_, rfl, rfl, _, rfl, ?_⟩
    have e2 : decide (V.int (i : Nat) = V.int 5) = false := decide_eq_false fun z => by
      injection z with z
      omega
    show if decide (V.int (i : Nat) = V.int 5) = true then _ else _
    rw [e2]
    refine iteF ⟨_, rfl, _, rfl, _, rfl, _, rfl, _, _, rfl, sm1.seqT s1, ?_, fun p2 hp2 => ?_⟩
    · rw [HT.sIx_none, HT.sIx_nat, Nat.min_eq_left (by omega)]
      omega
    · rw [cutV_to us i (by omega)]
      have sm2 : Same H (upd (upd H1 T (.tup [.int (i : Nat), b])) p2 (.tup (us.take i))) := sm1.trans (Same.new hp2)
      have ht2 : DtAll K (upd (upd H1 T (.tup [.int (i : Nat), b])) p2 (.tup (us.take i))) (us.take i) ((ks.take i).map encK) := by
        rw [List.map_take]
        exact (t1.same sm2).take i
      refine ⟨b, .ref p2, kk, ks.take i, rfl, dy.same sm2, Dt.tup (SqT.of upd_same) ht2, ok.kind hkk, ok.ahead hkk, by rw [List.length_take]; omega, fun H3 sm3 => ⟨true, rfl, ?_⟩⟩
      exact iteF ⟨sm2.trans sm3, _, _, rfl⟩
  · rintro σ H1 ⟨hI, y1, y2, rfl⟩
    exact q H1 hI
end
end Dl
set_option Elab.async false
set_option linter.all false
set_option maxRecDepth 100000
set_option maxHeartbeats 4000000
namespace Dl
open PySem PySem.Spec PyProof.Rows L2 He
theorem chance_num {k : Kind} {w : Int} (h0 : 0 ≤ w) (h1 : w ≤ 1000) : 0 ≤ (chance k w).num ∧ (chance k w).num ≤ 1000 := by
  unfold chance
  rw [Rat.num_mkRat]
  split
  · exact ⟨Int.le_refl _, by decide⟩
  · exact ⟨Int.ediv_nonneg h0 (by omega), Int.le_trans (Int.ediv_le_self _ h0) h1⟩
section
variable {P : Program} {w : World} {K : PySem.W.Frag} {mg : Str → Option Value} {base : Heap}
theorem ok_Plan_init (W : Tp K mg) : FOk P w K mg base CX0 6 (pM "Plan" "__init__" K) (sp_Plan_init K) := by
  refine fok_mk (f_Plan_init W) sc_Plan_init (fun vs H Q E h => by
    obtain ⟨x, dx, kv, n, ks, rfl, hx, hn, hk, ok, q⟩ := h
    rfl) (fun _ _ _ _ _ _ us hl => match us, hl with | [_, _, _], _ => rfl) (fun f cdv A outer s H vs Q E hr h => ?_)
  obtain ⟨x, dx, kv, n, ks, rfl, hx, hn, hk, ok, q⟩ := h
  refine ⟨_, (pss_cons (ps_if (pt_not (pt_val (pk (ok_is_integer W) hr pass0 (pa_cons (pv 1) (pa_cons pe_int (pa_cons (C8.pe_gc (by rfl) (i_MOST_SEATS W)) pa_nil)))))) (pss_one ps_never)
      pss_nil)
      (pss_cons (ps_expr (pk (ok_check_kinds W) hr pass0 (pa_cons (pv 2) pa_nil)))
      (pss_cons (ps_fld (pv 0) (pv 1) rfl)
      (pss_one (ps_fld (pv 0) (pv 2) rfl))))), ?_⟩
  refine ⟨_, rfl, _, 0, 12, "int", rfl, .base (.int _), by decide, _, rfl, ?_⟩
  have e1 : intIn (.int (n : Int)) 0 12 = true := by
    show (decide ((0 : Int) ≤ n) && decide ((n : Int) ≤ 12)) = true
    rw [decide_eq_true (by omega), decide_eq_true (by omega)] <;> rfl
  rw [e1]
  refine iteF ⟨_, rfl, kv, ks, rfl, hk, ok, fun H1 sm => ?_⟩
  have hx1 := sm _ _ hx
  refine ⟨_, rfl, _, rfl, x, _, dx, [], rfl, hx1, (c_Plan W), (a_Plan_held_seats W), (by show 0 < 1000; decide), ?_⟩
  refine ⟨_, rfl, _, rfl, x, _, dx, _, rfl, upd_same, (c_Plan W), (a_Plan_held_kinds W), (by show 1 < 1000; decide), ?_⟩
  exact q _ (But.upd (But.upd (But.of sm))) upd_same
theorem ok_Plan_seats (W : Tp K mg) : FOk P w K mg base CX0 1 (pP "Plan" "seats" K) (sp_Plan_seats K) := by
  refine fok_mk (f_Plan_seats W) sc_Plan_seats (fun vs H Q E h => by
    obtain ⟨v, n, ks, rfl, ⟨p, dx, kv, rfl, hp, hk⟩, q⟩ := h
    rfl) (fun _ _ _ _ _ _ us hl => match us, hl with | [_], _ => rfl) (fun f cdv A outer s H vs Q E hr h => ?_)
  obtain ⟨v, n, ks, rfl, ⟨p, dx, kv, rfl, hp, hk⟩, q⟩ := h
  refine ⟨_, (pss_one (ps_ret (pe_fld (pv 0) rfl))), ?_⟩
  exact ⟨_, rfl, p, _, dx, _, _, rfl, hp, (c_Plan W), (a_Plan_held_seats W), fsP_seats _ _, q⟩
theorem ok_Plan_kinds (W : Tp K mg) : FOk P w K mg base CX0 1 (pP "Plan" "kinds" K) (sp_Plan_kinds K) := by
  refine fok_mk (f_Plan_kinds W) sc_Plan_kinds (fun vs H Q E h => by
    obtain ⟨v, n, ks, rfl, ⟨p, dx, kv, rfl, hp, hk⟩, q⟩ := h
    rfl) (fun _ _ _ _ _ _ us hl => match us, hl with | [_], _ => rfl) (fun f cdv A outer s H vs Q E hr h => ?_)
  obtain ⟨v, n, ks, rfl, ⟨p, dx, kv, rfl, hp, hk⟩, q⟩ := h
  refine ⟨_, (pss_one (ps_ret (pe_fld (pv 0) rfl))), ?_⟩
  exact ⟨_, rfl, p, _, dx, _, _, rfl, hp, (c_Plan W), (a_Plan_held_kinds W), fsP_kinds _ _, q kv hk⟩
theorem ok_Plan_len (W : Tp K mg) : FOk P w K mg base CX0 1 (pM "Plan" "__len__" K) (sp_Plan_len K) := by
  refine fok_mk (f_Plan_len W) sc_Plan_len (fun vs H Q E h => by
    obtain ⟨v, n, ks, rfl, ⟨p, dx, kv, rfl, hp, hk⟩, q⟩ := h
    rfl) (fun _ _ _ _ _ _ us hl => match us, hl with | [_], _ => rfl) (fun f cdv A outer s H vs Q E hr h => ?_)
  obtain ⟨v, n, ks, rfl, ⟨p, dx, kv, rfl, hp, hk⟩, q⟩ := h
  refine ⟨_, (pss_one (ps_ret (pe_callB (r := rLenQ K) call_len_seq (by rfl) (n_len W) (by decide +kernel) (pa_cons (pe_fld (pv 0) rfl) pa_nil)))), ?_⟩
  obtain ⟨pk, us, rfl, su, tu⟩ := hk.tupI
  have lu : us.length = ks.length := by rw [tu.len, List.length_map]
  exact ⟨_, rfl, p, _, dx, _, _, rfl, hp, (c_Plan W), (a_Plan_held_kinds W), fsP_kinds _ _, pk, us, rfl, .inr su, by rw [lu]; exact q⟩
theorem ok_check_plan (W : Tp K mg) : Cal P w K mg base CX0 1 "check_plan" (sp_check_plan K) := by
  refine ⟨fok_mk (f_check_plan W) sc_check_plan (fun vs H Q E h => by
    obtain ⟨v, n, ks, rfl, ⟨p, dx, kv, rfl, hp, hk⟩, q⟩ := h
    rfl) (fun _ _ _ _ _ _ us hl => match us, hl with | [_], _ => rfl) (fun f cdv A outer s H vs Q E hr h => ?_), g_check_plan W⟩
  obtain ⟨v, n, ks, rfl, ⟨p, dx, kv, rfl, hp, hk⟩, q⟩ := h
  refine ⟨_, (pss_one (ps_if (pt_not (pt_val (pe_callB (r := rIsi K) call_isi (by rfl) (n_isinstance W) (by decide +kernel) (pa_cons (pv 0) (pa_cons (pe_glob (v := .ref (ga K "Plan")) (by rfl) (g_Plan W) rfl) pa_nil))))) (pss_one ps_never)
      pss_nil)), ?_⟩
  have I := is_Plan W
  refine ⟨_, rfl, .ref p, .ref (ga K "Plan"), _, _, true, rfl, .own _, .base (.ins hp I.cl I.ha I.hn I.htk I.hm), I.me, true, rfl, ?_⟩
  exact iteF q
theorem ok_check_stage (W : Tp K mg) : Cal P w K mg base CX0 3 "check_stage" (sp_check_stage K) := by
  refine ⟨fok_mk (f_check_stage W) sc_check_stage (fun vs H Q E h => by
    obtain ⟨v, n, i, ks, rfl, hpl, hl, hi, q⟩ := h
    rfl) (fun _ _ _ _ _ _ us hl => match us, hl with | [_, _], _ => rfl) (fun f cdv A outer s H vs Q E hr h => ?_), g_check_stage W⟩
  obtain ⟨v, n, i, ks, rfl, hpl, hl, hi, q⟩ := h
  refine ⟨_, (pss_one (ps_if (pt_not (pt_val (pk (ok_is_integer W) hr pass0 (pa_cons (pv 1) (pa_cons pe_int (pa_cons (pe_callB (call_lenO (c_Plan W) (me_Plan_len W) (ok_Plan_len W) hr) (by rfl) (n_len W) (by decide +kernel) (pa_cons (pv 0) pa_nil)) pa_nil)))))) (pss_one ps_never)
      pss_nil)), ?_⟩
  obtain ⟨p, dx, kv, rfl, hp, hk⟩ := id hpl
  refine ⟨_, rfl, _, rfl, p, dx, _, rfl, hp, .ref p, n, ks, rfl, hpl, _, rfl, ⟨by omega, by omega⟩, .int i, 0, ks.length, "int", rfl, .base (.int _), by decide, _, rfl, ?_⟩
  have e1 : intIn (.int (i : Int)) 0 ks.length = true := by
    show (decide ((0 : Int) ≤ i) && decide ((i : Int) ≤ ks.length)) = true
    rw [decide_eq_true (by omega), decide_eq_true (by omega)] <;> rfl
  rw [e1]
  exact iteF q
theorem ok_check_left (W : Tp K mg) : Cal P w K mg base CX0 3 "check_left" (sp_check_left K) := by
  refine ⟨fok_mk (f_check_left W) sc_check_left (fun vs H Q E h => by
    obtain ⟨v, n, i, ks, rfl, hpl, hi, q⟩ := h
    rfl) (fun _ _ _ _ _ _ us hl => match us, hl with | [_, _], _ => rfl) (fun f cdv A outer s H vs Q E hr h => ?_), g_check_left W⟩
  obtain ⟨v, n, i, ks, rfl, hpl, hi, q⟩ := h
  refine ⟨_, (pss_one (ps_if (pt_not (pt_val (pk (ok_is_integer W) hr pass0 (pa_cons (pv 1) (pa_cons pe_int (pa_cons (pkProp (pv 0) (c_Plan W) (p_Plan_seats W) (ok_Plan_seats W) hr pass0) pa_nil)))))) (pss_one ps_never)
      pss_nil)), ?_⟩
  obtain ⟨p, dx, kv, rfl, hp, hk⟩ := id hpl
  refine ⟨_, rfl, _, rfl, p, dx, _, rfl, hp, .ref p, n, ks, rfl, hpl, .int i, 0, n, "int", rfl, .base (.int _), by decide, _, rfl, ?_⟩
  have e1 : intIn (.int (i : Int)) 0 n = true := by
    show (decide ((0 : Int) ≤ i) && decide ((i : Int) ≤ n)) = true
    rw [decide_eq_true (by omega), decide_eq_true (by omega)] <;> rfl
  rw [e1]
  exact iteF q
theorem ok_chances_of (W : Tp K mg) : Cal P w K mg base CX0 3 "chances_of" (sp_chances_of K) := by
  refine ⟨fok_mk (f_chances_of W) sc_chances_of (fun vs H Q E h => by
    obtain ⟨v, n, i, ks, k, rfl, hpl, ek, hw, q⟩ := h
    rfl) (fun _ _ _ _ _ _ us hl => match us, hl with | [_, _], _ => rfl) (fun f cdv A outer s H vs Q E hr h => ?_), g_chances_of W⟩
  obtain ⟨v, n, i, ks, k, rfl, hpl, ek, hw, q⟩ := h
  refine ⟨_, (pss_cons (ps_set (i := 2) sc_chances_of.nd rfl (by first | exact Or.inl rfl | exact Or.inr rfl) (pe_ix (r := rIxT K) ix_tup (pe_ix (r := rIxT K) ix_tup (pkProp (pv 0) (c_Plan W) (p_Plan_kinds W) (ok_Plan_kinds W) hr pass0) (pv 1) (fun _ _ => rfl)) pe_int (fun _ _ => rfl)))
      (pss_one (ps_ret (pe_lc (own := [("weight", 3)]) (g := gName 3) (by rfl) sc_chances_of.nd (pi_tup (pv 2)) (blkOk_by (own := [("weight", 3)]) (N := N_chances_of) (sc := defScope s_chances_of) (by decide +kernel)) (fun _ _ _ _ _ => (pg_name (i := 3) sc_chances_of.nd rfl (by first | exact Or.inl rfl | exact Or.inr rfl))) (fun _ _ _ _ _ => pts_nil) (fun _ _ _ _ _ => (pk (ok_lowest W) hr pass0 (pa_cons (pv 3) (pa_cons (pe_callB (r := rSumT K) (cr_sumT rfl) (by rfl) (n_sum W) (by decide +kernel) (pa_cons (pv 2) pa_nil)) pa_nil)))))))), ?_⟩
  obtain ⟨p, dx, kv, rfl, hp, hk⟩ := id hpl
  refine ⟨_, rfl, p, dx, _, rfl, hp, .ref p, n, ks, rfl, hpl, fun kv hkv => ?_⟩
  obtain ⟨pk, us, rfl, su, tu⟩ := hkv.tupI
  obtain ⟨kk, hkk, dk⟩ := tu.at (i := i) (d := encK k) (by rw [List.getElem?_map, ek] <;> rfl)
  obtain ⟨p2, wv, rfl, s2, s3⟩ := dk.kind
  have hlm : (k.ws.map V.int).length = k.ws.length := List.length_map _
  refine ⟨_, rfl, pk, us, i, .ref p2, rfl, rfl, su, atI_nat hkk, p2, _, 2, .ref wv, rfl, rfl, s2, atI_nat (j := 2) rfl, ?_⟩
  refine ⟨_, rfl, wv, rfl, ⟨_, s3⟩, fun D hD => lc_gen (K := K) walk_tup (fun _ H' => Same H H') (fun j y H' => ∃ w, k.ws[j]? = some w ∧ Fq K H' y (chance k w)) (Nat.lt_of_le_of_lt (show (k.ws.map V.int).length ≤ 9 by rw [hlm]; exact hw.hi) (by decide)) (Same.new hD) (fun i H' a b hI _ => Same.mut hI hD) (fun _ _ _ _ sk ⟨w, h1, h2⟩ => ⟨w, h1, h2.sk sk⟩) (fun _ _ hI => Same.seqT hI s3) ?_ ?_⟩
  · rintro j y H1 H2 Q2 hj hI ⟨rfl, hy⟩ c
    have hj' : j < k.ws.length := by omega
    have ey : y = .int k.ws[j] := by
      rw [List.getElem?_map, List.getElem?_eq_getElem hj'] at hy
      exact (Option.some.inj hy).symm
    subst ey
    have h1 := hw.slo
    have h2 := hw.shi
    refine ⟨rfl, _, rfl, _, rfl, wv, k.ws, rfl, Same.seqT hI s3, k.ws[j], k.ws.sum.toNat, by rw [Int.toNat_of_nonneg (by omega)] <;> rfl, by omega, Nat.lt_of_le_of_lt (show k.ws.sum.toNat ≤ 1000 by omega) (by decide), fun v H4 sm f => ?_⟩
    exact c v H4 (hI.trans sm) (Sk.of sm) (fun a e => sm _ _ e) ⟨k.ws[j], List.getElem?_eq_getElem hj', f⟩
  · intro H' ys hI hl hy hDD
    exact q H' D ys hI hD hDD (by rw [hl, hlm]) hy
end
end Dl
set_option Elab.async false
set_option linter.all false
set_option maxRecDepth 100000
set_option maxHeartbeats 4000000
namespace Dl
open PySem PySem.Spec PyProof.Rows L2 He
/-- the list or the tuple at a holds these fractions -/
def Seq (K : PySem.W.Frag) (H : Hp) (a : Addr) (qs : List Rat) : Prop := ∃ ls, (SqL K H a ls ∨ SqT K H a ls) ∧ DtAll K H ls (qs.map encQ)
theorem Seq.same {K : PySem.W.Frag} {H H' : Hp} {a : Addr} {qs : List Rat} (x : Same H H') (h : Seq K H a qs) : Seq K H' a qs :=
  let ⟨ls, h1, h2⟩ := h; ⟨ls, h1.elim (fun z => .inl (x.seq z)) (fun z => .inr (x.seqT z)), h2.same x⟩
theorem Seq.fq {K : PySem.W.Frag} {H : Hp} {a : Addr} {qs : List Rat} {ls : List V} (h : DtAll K H ls (qs.map encQ)) {i : Nat} (hi : i < qs.length) : ∃ v, ls[i]? = some v ∧ Fq K H v (qs.getD i 0) := by
  obtain ⟨v, e, t⟩ := h.at (i := i) (d := encQ qs[i]) (by rw [List.getElem?_map, List.getElem?_eq_getElem hi] <;> rfl)
  refine ⟨v, e, ?_⟩
  rw [List.getD_eq_getElem?_getD, List.getElem?_eq_getElem hi]
  exact Fq.of t
def rIxLT (K : PySem.W.Frag) : R2 := fun x y H Q => rIxL K x y H Q ∨ rIxT K x y H Q
structure OverAll (D : Nat) (qs : List Rat) : Prop where
  ne : D ≠ 0
  lt : D < 2 ^ 64
  each : ∀ q ∈ qs, Over D q
theorem OverAll.den {D : Nat} {qs : List Rat} (h : OverAll D qs) {q : Rat} (o : Over D q) : q.den < 2 ^ 64 := Nat.lt_of_le_of_lt (o.den h.ne) h.lt
def sp_value_of (K : PySem.W.Frag) : Sp := fun vs H Q _ => ∃ (price : Int) (u left : Nat) (a : Addr) (qs : List Rat) (D : Nat), vs = [.int price, .int u, .int left, .ref a] ∧ Seq K H a qs ∧ OverAll D qs ∧ (-(2 ^ 64) < price ∧ price < 2 ^ 64) ∧ u ≤ left ∧ left < qs.length ∧
  ∀ v H', Same H H' → Fq K H' v (((price * (u : Int) : Int) : Rat) + qs.getD (left - u) 0) → Q v H'
def sp_best_numbers (K : PySem.W.Frag) : Sp := fun vs H Q _ => ∃ (price : Int) (n left : Nat) (a : Addr) (qs : List Rat) (D : Nat), vs = [.int price, .int n, .int left, .ref a] ∧ Seq K H a qs ∧ OverAll D qs ∧ (-(2 ^ 64) < price ∧ price < 2 ^ 64) ∧ n ≤ 1000 ∧ left < qs.length ∧ left ≤ 1000 ∧
  ∀ p l v H', Same H H' → SqT K H' p [.ref l, v] → Fq K H' v (bestOf (valsOf price n left qs)) → Q (.ref p) H'
theorem shaped_Q (q : Rat) : SeqAt.shaped (encQ q) = true := by
  unfold SeqAt.shaped encQ
  simp [PyData.canLay0, PyData.canLayAll0, PyData.depth, PyData.depthAll]
section
variable {P : Program} {w : World} {K : PySem.W.Frag} {mg : Str → Option Value} {base : Heap}
theorem ok_value_of (W : Tp K mg) : Cal P w K mg base CX0 4 "value_of" (sp_value_of K) := by
  refine ⟨fok_mk (f_value_of W) sc_value_of (fun vs H Q E h => by
    obtain ⟨price, u, left, a, qs, D, rfl, ⟨ls, hs, hq⟩, ov, hp, hu, hl, q⟩ := h
    rfl) (fun _ _ _ _ _ _ us hl => match us, hl with | [_, _, _, _], _ => rfl) (fun f cdv A outer s H vs Q E hr h => ?_), g_value_of W⟩
  obtain ⟨price, u, left, a, qs, D, rfl, ⟨ls, hs, hq⟩, ov, hp, hu, hl, q⟩ := h
  refine ⟨_, (pss_one (ps_ret (pk (ok_plus W) hr pass0 (pa_cons (pe_tup (pa_cons (pe_op op_mul (pv 0) (pv 1)) (pa_cons pe_int pa_nil))) (pa_cons (pe_ix (r := rIxLT K) (ix_list.or ix_tup) (pv 3) (pe_op op_sub (pv 2) (pv 1)) (fun _ _ => rfl)) pa_nil))))), ?_⟩
  obtain ⟨v, ev, fv⟩ := Seq.fq (a := a) hq (i := left - u) (by omega)
  have el : ((left : Int) - (u : Int)) = ((left - u : Nat) : Int) := by omega
  refine ⟨_, rfl, _, rfl, _, _, rfl, rfl, .inl hp, by show 2 ≤ sizeLine; decide, fun p np => ?_⟩
  have sm : Same H (upd H p (.tup [.int (price * (u : Int)), .int 1])) := Same.new np
  refine ⟨_, rfl, _, rfl, _, rfl, _, _, rfl, rfl, ?_⟩
  have go : ∃ p0 xs i v, (V.ref a = .ref p0) ∧ (V.int ((left : Int) - (u : Int)) = .int i) ∧ (SqL K (upd H p (.tup [.int (price * (u : Int)), .int 1])) p0 xs ∨ SqT K (upd H p (.tup [.int (price * (u : Int)), .int 1])) p0 xs) ∧ atI xs i = some v ∧ Fq K (upd H p (.tup [.int (price * (u : Int)), .int 1])) v (qs.getD (left - u) 0) :=
    ⟨a, ls, _, v, rfl, rfl, hs.elim (fun z => .inl (sm.seq z)) (fun z => .inr (sm.seqT z)), by rw [el]; exact atI_nat ev, fv.same sm⟩
  have fin : ∀ v, Fq K (upd H p (.tup [.int (price * (u : Int)), .int 1])) v (qs.getD (left - u) 0) → sp_plus K [.ref p, v] (upd H p (.tup [.int (price * (u : Int)), .int 1])) Q E0 := fun v fv =>
    ⟨.ref p, v, ((price * (u : Int) : Int) : Rat), qs.getD (left - u) 0, rfl, ⟨p, rfl, SqT.of upd_same⟩, fv, by show (1 : Nat) < 2 ^ 64; decide, ov.den (getD_over ov.each _), fun v' H' sm' f => q v' H' (sm.trans sm') f⟩
  obtain ⟨p0, xs, i, v0, e1, e2, h1 | h1, h2, h3⟩ := go
  · exact .inl ⟨p0, xs, i, v0, e1, e2, h1, h2, fin v0 h3⟩
  · exact .inr ⟨p0, xs, i, v0, e1, e2, h1, h2, fin v0 h3⟩
theorem ok_best_numbers (W : Tp K mg) : Cal P w K mg base CX0 5 "best_numbers" (sp_best_numbers K) := by
  refine ⟨fok_mk (f_best_numbers W) sc_best_numbers (fun vs H Q E h => by
    obtain ⟨price, n, left, a, qs, D, rfl, hs, ov, hp, hn, hl, hl2, q⟩ := h
    rfl) (fun _ _ _ _ _ _ us hl => match us, hl with | [_, _, _, _], _ => rfl) (fun f cdv A outer s H vs Q E hr h => ?_), g_best_numbers W⟩
  obtain ⟨price, n, left, a, qs, D, rfl, hs, ov, hp, hn, hl, hl2, q⟩ := h
  refine ⟨_, (pss_cons (ps_setLc (i := 4) (own := [("number", 7)]) (g := gName 7) (by rfl) sc_best_numbers.nd rfl rfl (sw_true rfl rfl rfl (by decide +kernel)) (pi_range1 (by rfl) (n_range W) (pa_cons (pe_op op_add (pe_callB (call_min2 rfl) (by rfl) (n_min W) (by decide +kernel) (pa_cons (pv 1) (pa_cons (pv 2) pa_nil))) pe_int) pa_nil)) (blkOk_by (own := [("number", 7)]) (N := N_best_numbers) (sc := defScope s_best_numbers) (by decide +kernel)) (fun _ _ _ _ _ => (pg_name (i := 7) sc_best_numbers.nd rfl (by first | exact Or.inl rfl | exact Or.inr rfl))) (fun _ _ _ _ _ => pts_nil) (fun _ _ _ _ _ => (pk (ok_value_of W) hr pass0 (pa_cons (pv 0) (pa_cons (pv 7) (pa_cons (pv 2) (pa_cons (pv 3) pa_nil)))))))
      (pss_cons (ps_set (i := 5) sc_best_numbers.nd rfl (by first | exact Or.inl rfl | exact Or.inr rfl) (pe_ix (r := rIxL K) ix_list (pv 4) pe_int (fun _ _ => rfl)))
      (pss_cons (ps_for PassesOwn.never rfl (pi_list (pv 4)) (pg_name (i := 6) sc_best_numbers.nd rfl (by first | exact Or.inl rfl | exact Or.inr rfl))
      (pss_one (ps_set (i := 5) sc_best_numbers.nd rfl (by first | exact Or.inl rfl | exact Or.inr rfl) (pe_ifExp (pt_val (pk (ok_is_above W) hr pass0 (pa_cons (pv 6) (pa_cons (pv 5) pa_nil)))) (pv 6) (pv 5)))))
      (pss_one (ps_ret (pe_tup (pa_cons (pe_lc (own := [("number", 7), ("value", 6)]) (g := gTup K 2 (gCons (gName 7) (gCons (gName 6) gNil))) (by rfl) sc_best_numbers.nd (pi_enum (by rfl) (n_enumerate W) (pa_cons (pv 4) pa_nil)) (blkOk_by (own := [("number", 7), ("value", 6)]) (N := N_best_numbers) (sc := defScope s_best_numbers) (by decide +kernel)) (fun _ _ _ _ _ => (pg_tup (by rfl) (pgs_cons (pg_name (i := 7) sc_best_numbers.nd rfl (by first | exact Or.inl rfl | exact Or.inr rfl)) (pgs_cons (pg_name (i := 6) sc_best_numbers.nd rfl (by first | exact Or.inl rfl | exact Or.inr rfl)) pgs_nil)))) (fun _ _ _ _ _ => (pts_one (pt_cmpR (r := rEqD K) (op_eqD hr.units) (pv 6) (pv 5) (nomark _)))) (fun _ _ _ _ _ => (pv 7))) (pa_cons (pv 5) pa_nil)))))))), ?_⟩
  have emin : (if (left : Int) < (n : Int) then (left : Int) else (n : Int)) = ((min n left : Nat) : Int) := by
    split <;> omega
  have elen : (valsOf price n left qs).length = min n left + 1 := by
    unfold valsOf
    rw [List.length_map, List.length_range]
  refine ⟨_, rfl, _, rfl, _, _, rfl, _, _, rfl, rfl, _, rfl, ?_, ?_, fun D1 hD1 => lc_gen (K := K) walk_range0 (fun _ H' => Same H H') (fun j y H' => ∃ v, (valsOf price n left qs)[j]? = some v ∧ Fq K H' y v) ?_ (Same.new hD1) (fun i H' a b hI _ => Same.mut hI hD1) (fun _ _ _ _ sk ⟨w, h1, h2⟩ => ⟨w, h1, h2.sk sk⟩) (fun _ _ hI => trivial) ?_ ?_⟩
  · show -(2 ^ 62) ≤ _
    rw [emin]
    omega
  · rw [emin]
    omega
  · rw [emin]
    have : (((min n left : Nat) : Int) + 1).toNat = min n left + 1 := by omega
    rw [this]
    exact Nat.lt_of_le_of_lt (show min n left + 1 ≤ 1001 by omega) (by decide)
  · rintro j y H1 H2 Q2 hj hI ⟨rfl, rfl⟩ c
    rw [emin] at hj
    refine ⟨rfl, _, rfl, _, rfl, _, rfl, _, rfl, price, j, left, a, qs, D, rfl, hs.same hI, ov, hp, by omega, hl, fun v H4 sm f => ?_⟩
    refine c v H4 (hI.trans sm) (Sk.of sm) (fun a e => sm _ _ e) ⟨_, ?_, f⟩
    unfold valsOf
    rw [List.getElem?_map, List.getElem?_range (by omega)]
    rfl
  · intro H1 ys hI hyl hy hDD
    have hyl' : ys.length = min n left + 1 := by
      rw [hyl, emin]
      omega
    -- the values, each with its fraction
    have hv : ∀ j y, ys[j]? = some y → ∃ v, (valsOf price n left qs)[j]? = some v ∧ Fq K H1 y v := hy
    obtain ⟨v0, vs0, ev0⟩ : ∃ v0 vs0, valsOf price n left qs = v0 :: vs0 := by
      cases e : valsOf price n left qs with
      | nil => exact absurd e (vals_ne _ _ _ _)
      | cons v0 vs0 => exact ⟨v0, vs0, rfl⟩
    have hy0 : ys[0]? = some ys[0] := List.getElem?_eq_getElem (by omega)
    obtain ⟨w0, ew0, fw0⟩ := hv 0 _ hy0
    rw [ev0] at ew0
    cases ew0
    refine ⟨_, rfl, D1, ys, 0, ys[0], rfl, rfl, SqL.of hDD, atI_nat (j := 0) hy0, ?_⟩
    -- the greatest one
    have ovv := vals_over (price := price) (n := n) (left := left) ov.ne ov.each
    refine ⟨_, rfl, D1, rfl, ⟨_, SqL.of hDD⟩, for_it walk_list (fun i σ H' => H' = H1 ∧ ∃ b y6 y7, σ = [some (.int price), some (.int n), some (.int left), some (.ref a), some (.ref D1), some b, y6, y7] ∧ ∃ bq, Fq K H1 b bq ∧ Over D bq ∧ bq = ((valsOf price n left qs).take i).foldl mx v0) ⟨rfl, _, none, none, rfl, v0, fw0, ovv v0 (by rw [ev0]; exact List.mem_cons_self), rfl⟩ (fun i σ H' _ hI => by rw [hI.1]; exact SqL.of hDD) ?_ ?_⟩
    · rintro i x σ H2 H3 hi ⟨rfl, b, y6, y7, rfl, bq, fb, ob, eb⟩ ⟨rfl, hx⟩
      obtain ⟨xq, exq, fx⟩ := hv i x hx
      have ox := ovv xq (List.mem_of_getElem? exq)
      have step : ((valsOf price n left qs).take (i + 1)).foldl mx v0 = mx bq xq := by
        rw [List.take_add_one, exq, List.foldl_append, ← eb]
        rfl
      refine ⟨_, rfl, _, rfl, x, b, xq, bq, rfl, fx, fb, ov.den ox, ov.den ob, _, rfl, ?_⟩
      by_cases hc : bq < xq
      · rw [decide_eq_true hc]
        refine iteT ⟨_, rfl, rfl, x, _, _, rfl, xq, fx, ox, ?_⟩
        rw [step]
        exact (if_pos hc).symm
      · rw [decide_eq_false hc]
        refine iteF ⟨_, rfl, rfl, b, _, _, rfl, bq, fb, ob, ?_⟩
        rw [step]
        exact (if_neg hc).symm
    · rintro σ H2 ⟨rfl, b, y6, y7, rfl, bq, fb, ob, eb⟩
      have ebq : bq = bestOf (valsOf price n left qs) := by
        rw [eb, List.take_of_length_le (by omega), ev0]
        show vs0.foldl mx (mx v0 v0) = vs0.foldl mx v0
        rw [show mx v0 v0 = v0 from if_neg Rat.lt_irrefl]
      subst ebq
      -- the numbers of the best
      refine ⟨_, rfl, D1, ys, rfl, SqL.of hDD, fun D2 hD2 => lc_it walk_enum (fun i H' => Same H2 H' ∧ ∃ acc, H' D2 = some (.lst acc) ∧ acc.length ≤ i) ⟨Same.new hD2, [], upd_same, Nat.le_refl _⟩ (fun i H' _ hI => hI.1.seq (SqL.of hDD)) ?_ ?_⟩
      · rintro i x H3 H4 hi ⟨hI, acc, ea, la⟩ ⟨T, u1, u2, rfl, hT, rfl, h1, h2⟩
        cases h1
        have sm3 : Same H2 (upd H3 T (.tup [.int (i : Nat), u2])) := hI.trans (Same.new hT)
        obtain ⟨xq, exq, fx⟩ := hv i u2 h2
        refine ⟨T, _, rfl, SqT.of upd_same, rfl, _, _, rfl, _, _, rfl, rfl, rfl, _, rfl, _, rfl, encQ xq, encQ _, (fx.same sm3).dt.dp, (fb.same sm3).dt.dp, shaped_Q _, shaped_Q _, _, rfl, ?_⟩
        have eD : (upd H3 T (.tup [.int (i : Nat), u2])) D2 = some (.lst acc) := by
          rw [upd_ne (ne_of_none ea hT)]
          exact ea
        cases PyData.eqv (encQ xq) (encQ (bestOf (valsOf price n left qs))) with
        | true =>
          refine iteT ⟨_, rfl, acc, eD, Nat.lt_of_le_of_lt (show acc.length ≤ 1001 by omega) (by decide), Same.mut sm3 hD2, _, upd_same, by rw [List.length_append]; show acc.length + 1 ≤ i + 1; omega⟩
        | false => exact iteF ⟨sm3, acc, eD, by omega⟩
      · rintro H3 ⟨hI, acc, ea, la⟩
        refine ⟨_, rfl, by show 2 ≤ sizeLine; decide, fun p np => ?_⟩
        have sm4 : Same H2 (upd H3 p (.tup [.ref D2, b])) := hI.trans (Same.new np)
        exact q p D2 b _ (Same.trans (by assumption) sm4) (SqT.of upd_same) (fb.same sm4)
end
end Dl
set_option Elab.async false
set_option linter.all false
set_option maxRecDepth 100000
set_option maxHeartbeats 4000000
set_option pp.maxSteps 400
namespace Dl
open PySem PySem.Spec PyProof.Rows L2 He
def pw (k : Kind) : PW0 := (k.price, k.ws)
theorem chq_eq (k : Kind) (w : Int) : chance k w = chq (pw k).2 w := rfl
/-- the value is a list of these fractions -/
def LQ (K : PySem.W.Frag) (H : Hp) (v : V) (qs : List Rat) : Prop := ∃ a ls, v = .ref a ∧ H a = some (.lst ls) ∧ DtAll K H ls (qs.map encQ)
theorem LQ.same {K : PySem.W.Frag} {H H' : Hp} {v : V} {qs : List Rat} (x : Same H H') (h : LQ K H v qs) : LQ K H' v qs :=
  let ⟨a, ls, e, h1, h2⟩ := h; ⟨a, ls, e, x _ _ h1, h2.same x⟩
structure Rows (K : PySem.W.Frag) (H : Hp) (vs : List V) (rows : List (List Rat)) : Prop where
  len : vs.length = rows.length
  at_ : ∀ (j : Nat) r, rows[j]? = some r → ∃ v, vs[j]? = some v ∧ LQ K H v r
theorem Rows.same {K : PySem.W.Frag} {H H' : Hp} {vs : List V} {rows : List (List Rat)} (x : Same H H') (h : Rows K H vs rows) : Rows K H' vs rows :=
  ⟨h.len, fun j r e => let ⟨v, e1, q⟩ := h.at_ j r e; ⟨v, e1, q.same x⟩⟩
theorem Rows.cons {K : PySem.W.Frag} {H : Hp} {v : V} {vs : List V} {r : List Rat} {rows : List (List Rat)} (h : LQ K H v r) (t : Rows K H vs rows) : Rows K H (v :: vs) (r :: rows) :=
  ⟨by rw [List.length_cons, List.length_cons, t.len], fun j q e => match j, e with
    | 0, e => by cases e; exact ⟨v, rfl, h⟩
    | j + 1, e => t.at_ j q e⟩
theorem DtAll.of_at {K : PySem.W.Frag} {H : Hp} : ∀ {vs : List V} {ds : List PyData}, vs.length = ds.length → (∀ (i : Nat) v d, vs[i]? = some v → ds[i]? = some d → Dt K H v d) → DtAll K H vs ds
  | [], [], _, _ => .nil
  | [], _ :: _, e, _ => by simp at e
  | _ :: _, [], e, _ => by simp at e
  | v :: vs, d :: ds, e, h => .cons (h 0 v d rfl rfl) (DtAll.of_at (by simpa using e) fun i a b x y => h (i + 1) a b x y)
def encTab (rows : List (List Rat)) : PyData := .tuple (rows.map fun r => .tuple (r.map encQ))
theorem rep_flat {α : Type} (x : α) : ∀ k : Nat, (List.replicate k [x]).flatten = List.replicate k x
  | 0 => rfl
  | k + 1 => by
    rw [List.replicate_succ, List.flatten_cons, rep_flat x k]
    rfl
theorem zeros_dt {K : PySem.W.Frag} {H : Hp} {z : V} (h : Fq K H z 0) : ∀ k : Nat, DtAll K H (List.replicate k z) ((List.replicate k (0 : Rat)).map encQ)
  | 0 => .nil
  | k + 1 => .cons h.dt (zeros_dt h k)
theorem KsOk.pw1 {ks : List Kind} (ok : KsOk ks) (j : Nat) : ∀ k ∈ (ks.map pw).drop j, 1 ≤ k.2.sum := fun k hk => by
  obtain ⟨a, ha, rfl⟩ := List.mem_map.mp (List.mem_of_mem_drop hk)
  exact (ok.each a ha).ws.slo
theorem KsOk.pw2 {ks : List Kind} (ok : KsOk ks) (j : Nat) : ∀ k ∈ (ks.map pw).drop j, k.2.sum ≤ 1000 := fun k hk => by
  obtain ⟨a, ha, rfl⟩ := List.mem_map.mp (List.mem_of_mem_drop hk)
  exact (ok.each a ha).ws.shi
theorem KsOk.overAll {ks : List Kind} (ok : KsOk ks) (n j : Nat) : OverAll (dp ((ks.map pw).drop j)) (headRow ((ks.map pw).drop j) n) :=
  ⟨dp_ne (ok.pw1 j), dp_lt (ok.pw2 j) (by rw [List.length_drop, List.length_map]; have := ok.hi; omega), headRow_over (ok.pw1 j)⟩
def sp_table_of (K : PySem.W.Frag) : Sp := fun vs H Q _ => ∃ (v : V) (n : Nat) (ks : List Kind), vs = [v] ∧ PlanAt K H v n ks ∧ KsOk ks ∧ n ≤ 12 ∧ ∀ t H', Same H H' → Dt K H' t (encTab (tableOf (ks.map pw) n)) → Q t H'
section
variable {P : Program} {w : World} {K : PySem.W.Frag} {mg : Str → Option Value} {base : Heap}
theorem ok_table_of (W : Tp K mg) : Cal P w K mg base CX0 6 "table_of" (sp_table_of K) := by
  refine ⟨fok_mk (f_table_of W) sc_table_of (fun vs H Q E h => by
    obtain ⟨v, n, ks, rfl, hpl, ok, hn, q⟩ := h
    rfl) (fun _ _ _ _ _ _ us hl => match us, hl with | [_], _ => rfl) (fun f cdv A outer s H vs Q E hr h => ?_), g_table_of W⟩
  obtain ⟨v, n, ks, rfl, hpl, ok, hn, q⟩ := h
  refine ⟨_, (pss_cons (ps_set (i := 1) sc_table_of.nd rfl (by first | exact Or.inl rfl | exact Or.inr rfl) (pe_lst (pa_cons (pe_op op_rep (pe_lst (pa_cons (pe_glob (v := .ref (ga K "ZERO")) (by rfl) (g_ZERO W) rfl) pa_nil)) (pe_op op_add (pkProp (pv 0) (c_Plan W) (p_Plan_seats W) (ok_Plan_seats W) hr pass0) pe_int)) pa_nil)))
      (pss_cons (ps_for PassesOwn.never rfl (pi_range3 (by rfl) (n_range W) (pa_cons (pe_op op_sub (pe_callB (call_lenO (c_Plan W) (me_Plan_len W) (ok_Plan_len W) hr) (by rfl) (n_len W) (by decide +kernel) (pa_cons (pv 0) pa_nil)) pe_int) (pa_cons (pe_un un_neg pe_int) (pa_cons (pe_un un_neg pe_int) pa_nil)))) (pg_name (i := 2) sc_table_of.nd rfl (by first | exact Or.inl rfl | exact Or.inr rfl))
      (pss_cons (ps_set (i := 3) sc_table_of.nd rfl (by first | exact Or.inl rfl | exact Or.inr rfl) (pe_lst pa_nil))
      (pss_cons (ps_for PassesOwn.never rfl (pi_range1 (by rfl) (n_range W) (pa_cons (pe_op op_add (pkProp (pv 0) (c_Plan W) (p_Plan_seats W) (ok_Plan_seats W) hr pass0) pe_int) pa_nil)) (pg_name (i := 4) sc_table_of.nd rfl (by first | exact Or.inl rfl | exact Or.inr rfl))
      (pss_cons (ps_set (i := 5) sc_table_of.nd rfl (by first | exact Or.inl rfl | exact Or.inr rfl) (pe_glob (v := .ref (ga K "ZERO")) (by rfl) (g_ZERO W) rfl))
      (pss_cons (ps_for PassesOwn.never rfl (pi_enum (by rfl) (n_enumerate W) (pa_cons (pk (ok_chances_of W) hr pass0 (pa_cons (pv 0) (pa_cons (pv 2) pa_nil))) pa_nil)) (pg_tup (by rfl) (pgs_cons (pg_name (i := 6) sc_table_of.nd rfl (by first | exact Or.inl rfl | exact Or.inr rfl)) (pgs_cons (pg_name (i := 7) sc_table_of.nd rfl (by first | exact Or.inl rfl | exact Or.inr rfl)) pgs_nil)))
      (pss_one (ps_set (i := 5) sc_table_of.nd rfl (by first | exact Or.inl rfl | exact Or.inr rfl) (pk (ok_plus W) hr pass0 (pa_cons (pv 5) (pa_cons (pk (ok_times W) hr pass0 (pa_cons (pv 7) (pa_cons (pe_ix (r := rIxT K) ix_tup (pk (ok_best_numbers W) hr pass0 (pa_cons (pe_ix (r := rIxT K) ix_tup (pe_ix (r := rIxT K) ix_tup (pkProp (pv 0) (c_Plan W) (p_Plan_kinds W) (ok_Plan_kinds W) hr pass0) (pv 2) (fun _ _ => rfl)) pe_int (fun _ _ => rfl)) (pa_cons (pv 6) (pa_cons (pv 4) (pa_cons (pe_ix (r := rIxL K) ix_list (pv 1) pe_int (fun _ _ => rfl)) pa_nil))))) pe_int (fun _ _ => rfl)) pa_nil))) pa_nil))))))
      (pss_one (ps_expr (pe_bm PySem.F.plainAttrs_list PySem.F.slot_list_append PySem.F.type_list_append mt_append (pv 3) (pa_cons (pv 5) pa_nil)))))))
      (pss_one (ps_set (i := 1) sc_table_of.nd rfl (by first | exact Or.inl rfl | exact Or.inr rfl) (pe_lst (pa_cons (pv 3) (StX.pa_star (pv 1) pa_nil))))))))
      (pss_one (ps_ret (pe_callTy (r := rTupOf K) call_tuple_of (by rfl) (n_tuple W) (by decide +kernel) (pa_cons (pe_lc (own := [("row", 3)]) (g := gName 3) (by rfl) sc_table_of.nd (pi_list (pv 1)) (blkOk_by (own := [("row", 3)]) (N := N_table_of) (sc := defScope s_table_of) (by decide +kernel)) (fun _ _ _ _ _ => (pg_name (i := 3) sc_table_of.nd rfl (by first | exact Or.inl rfl | exact Or.inr rfl))) (fun _ _ _ _ _ => pts_nil) (fun _ _ _ _ _ => (pe_callTy (r := rTupOf K) call_tuple_of (by rfl) (n_tuple W) (by decide +kernel) (pa_cons (pv 3) pa_nil)))) pa_nil)))))), ?_⟩
  obtain ⟨p, dx, kv, rfl, hp, hk⟩ := id hpl
  have llo := ok.lo
  have lhi := ok.hi
  have fz : ∀ H, Fq K H (.ref (ga K "ZERO")) 0 := fun H => ⟨_, rfl, t_ZERO W H⟩
  -- rows = [[ZERO] * (plan.seats + 1)]
  refine ⟨by show 1 ≤ sizeLine; decide, fun z1 nz1 => ?_⟩
  have sa : Same H (upd H z1 (.lst [.ref (ga K "ZERO")])) := Same.new nz1
  refine ⟨_, rfl, p, dx, _, rfl, sa _ _ hp, .ref p, n, ks, rfl, hpl.same sa, _, _, rfl, rfl, z1, _, _, rfl, rfl, upd_same, by show -(2 ^ 63) ≤ _; omega, by show _ < 2 ^ 63; omega, ?_, fun z2 nz2 => ?_⟩
  · have e : ((n : Int) + 1).toNat = n + 1 := by omega
    rw [e]
    show 1 * (n + 1) ≤ sizeLine
    exact Nat.le_trans (show 1 * (n + 1) ≤ 13 by omega) (by decide)
  have e13 : ((n : Int) + 1).toNat = n + 1 := by omega
  rw [e13, rep_flat]
  have sb : Same H (upd (upd H z1 (.lst [.ref (ga K "ZERO")])) z2 (.lst (List.replicate (n + 1) (.ref (ga K "ZERO"))))) := sa.trans (Same.new nz2)
  refine ⟨by show 1 ≤ sizeLine; decide, fun z3 nz3 => ?_⟩
  generalize hH3 : upd (upd (upd H z1 (.lst [.ref (ga K "ZERO")])) z2 (.lst (List.replicate (n + 1) (.ref (ga K "ZERO"))))) z3 (.lst [.ref z2]) = H3
  have sc : Same H H3 := hH3 ▸ sb.trans (Same.new nz3)
  have ez3 : H3 z3 = some (.lst [.ref z2]) := by rw [← hH3]; exact upd_same
  have r0 : Rows K H3 [.ref z2] (tableOf ((ks.map pw).drop (ks.length - 0)) n) := by
    rw [List.drop_eq_nil_of_le (by rw [List.length_map]; omega)]
    refine ⟨rfl, fun j r e => ?_⟩
    match j, e with
    | 0, e =>
      cases e
      refine ⟨_, rfl, z2, _, rfl, ?_, zeros_dt (fz H3) (n + 1)⟩
      rw [← hH3, upd_ne (ne_of_none upd_same nz3)]
      exact upd_same
    | j + 1, e =>
      have e' : ([List.replicate (n + 1) (0 : Rat)] : List (List Rat))[j + 1]? = some r := e
      simp at e'
  -- for index in range(len(plan) - 1, -1, -1)
  refine ⟨_, rfl, p, dx, _, rfl, sc _ _ hp, .ref p, n, ks, rfl, hpl.same sc, _, rfl, ⟨by omega, by omega⟩, _, _, rfl, rfl, _, rfl, _, rfl, _, _, _, _, rfl, RgC.neg (by omega) (by omega) (by omega) (by omega), ?_⟩
  have etn : ((ks.length : Int) - 1 - -1).toNat = ks.length := by omega
  rw [etn]
  refine for_it walk_rangeC (fun i σ H' => Same H H' ∧ ∃ rl vs y2 y3 y4 y5 y6 y7, σ = [some (.ref p), some (.ref rl), y2, y3, y4, y5, y6, y7] ∧ H' rl = some (.lst vs) ∧ Rows K H' vs (tableOf ((ks.map pw).drop (ks.length - i)) n)) ⟨sc, z3, _, none, none, none, none, none, none, rfl, ez3, r0⟩ (fun _ _ _ _ _ => trivial) ?_ ?_
  · rintro i x σ Hx Ha hi ⟨sm1, rl, vs, y2, y3, y4, y5, y6, y7, rfl, hrl, hrows⟩ ⟨rfl, rfl⟩
    obtain ⟨j, ej⟩ : ∃ j, ks.length = i + 1 + j := ⟨ks.length - (i + 1), by omega⟩
    have ej1 : ks.length - i = j + 1 := by omega
    have ej2 : ks.length - (i + 1) = j := by omega
    have hjl : j < ks.length := by omega
    have eix : ((ks.length : Int) - 1 + (i : Nat) * -1) = (j : Int) := by omega
    rw [ej1] at hrows
    obtain ⟨kk, hkk⟩ : ∃ kk, ks[j]? = some kk := ⟨_, List.getElem?_eq_getElem hjl⟩
    have okk := ok.kind hkk
    have edrop : (ks.map pw).drop j = pw kk :: (ks.map pw).drop (j + 1) := by
      rw [List.drop_eq_getElem_cons (by rw [List.length_map]; exact hjl), List.getElem_map]
      have : ks[j] = kk := by
        have := List.getElem?_eq_getElem hjl
        rw [hkk] at this
        exact (Option.some.inj this).symm
      rw [this]
    have etab : tableOf ((ks.map pw).drop j) n = rowOf (pw kk) (headRow ((ks.map pw).drop (j + 1)) n) n :: tableOf ((ks.map pw).drop (j + 1)) n := by
      rw [edrop]
      rfl
    generalize hlat : headRow ((ks.map pw).drop (j + 1)) n = later at etab
    have ovl : OverAll (dp ((ks.map pw).drop (j + 1))) later := hlat ▸ ok.overAll n (j + 1)
    have lenl : later.length = n + 1 := by rw [← hlat]; exact headRow_len _ _
    obtain ⟨rt, ert⟩ := table_cons ((ks.map pw).drop (j + 1)) n
    rw [hlat] at ert
    obtain ⟨v0, ev0, lq0⟩ := hrows.at_ 0 later (by rw [ert]; rfl)
    have hD0 : dp ((ks.map pw).drop (j + 1)) ≠ 0 := ovl.ne
    have hws := okk.ws
    have slo := hws.slo
    have shi := hws.shi
    have hDD : (kk.ws.sum.toNat * dp ((ks.map pw).drop (j + 1))) < 2 ^ 64 := by
      have z := dp_lt (ok.pw2 j) (by rw [List.length_drop, List.length_map]; omega)
      rw [edrop] at z
      exact z
    -- row = []
    show tAsg _ _ _ _ _
    refine ⟨Nat.zero_le _, fun rw_ nrw => ?_⟩
    have nrl : rl ≠ rw_ := ne_of_none hrl nrw
    -- for left in range(plan.seats + 1)
    have sm2 : Same Ha (upd Ha rw_ (.lst [])) := Same.new nrw
    refine ⟨_, rfl, p, dx, _, rfl, sm2 _ _ (sm1 _ _ hp), .ref p, n, ks, rfl, (hpl.same sm1).same sm2, _, _, rfl, rfl, _, rfl, by omega, by omega, ?_⟩
    rw [e13]
    refine for_it walk_range0 (fun l σ H' => Same Ha H' ∧ ∃ ls y4 y5 y6 y7, σ = [some (.ref p), some (.ref rl), some (.int (j : Int)), some (.ref rw_), y4, y5, y6, y7] ∧ H' rw_ = some (.lst ls) ∧ ls.length = l ∧ DtAll K H' ls (((rowOf (pw kk) later n).take l).map encQ)) ⟨sm2, [], y4, y5, y6, y7, by rw [← eix] <;> rfl, upd_same, rfl, .nil⟩ (fun _ _ _ _ _ => trivial) ?_ ?_
    · rintro l x σ Hy Hc hl ⟨sm3, ls, z4, z5, z6, z7, rfl, hls, hll, hdt⟩ ⟨rfl, rfl⟩
      have smc : Same H Hc := sm1.trans sm3
      -- total = ZERO; for wishes, chance in enumerate(chances_of(plan, index))
      refine ⟨_, rfl, _, rfl, .ref p, n, j, ks, kk, rfl, hpl.same smc, hkk, hws, fun He D ys sm4 nD hDl hyl hys => ?_⟩
      refine ⟨D, ys, rfl, SqL.of hDl, for_it walk_enum (fun u σ H' => Same He H' ∧ ∃ t y6 y7, σ = [some (.ref p), some (.ref rl), some (.int (j : Int)), some (.ref rw_), some (.int (l : Nat)), some t, y6, y7] ∧ Fq K H' t (cellUpto (pw kk) l later u)) ⟨Same.refl He, _, _, _, rfl, fz He⟩ (fun u σ H' _ hI => hI.1.seq (SqL.of hDl)) ?_ ?_⟩
      · rintro u x σ Hf Hg hu ⟨sm5, t, z6, z7, rfl, ft⟩ ⟨T, a1, a2, rfl, hT, rfl, h1, h2⟩
        cases h1
        have sm6 : Same He (upd Hf T (.tup [.int (u : Nat), a2])) := sm5.trans (Same.new hT)
        have smH : Same H (upd Hf T (.tup [.int (u : Nat), a2])) := smc.trans (sm4.trans sm6)
        obtain ⟨wq, hwq, fc⟩ := hys u a2 h2
        refine ⟨T, _, rfl, SqT.of upd_same, rfl, _, _, rfl, _, _, rfl, rfl, ?_⟩
        refine ⟨_, rfl, _, rfl, _, rfl, p, dx, _, rfl, smH _ _ hp, .ref p, n, ks, rfl, hpl.same smH, fun kv1 hkv1 => ?_⟩
        obtain ⟨pk, us, rfl, su, tu⟩ := hkv1.tupI
        obtain ⟨kv2, ekv2, dkv2⟩ := tu.at (i := j) (d := encK kk) (by rw [List.getElem?_map, hkk] <;> rfl)
        obtain ⟨p2, wv, rfl, s2, s3⟩ := dkv2.kind
        obtain ⟨a0, ls0, rfl, hls0, hdt0⟩ := lq0.same (sm3.trans (sm4.trans sm6))
        have wb := hws.each wq (List.mem_of_getElem? hwq)
        refine ⟨_, rfl, pk, us, j, .ref p2, rfl, rfl, su, atI_nat ekv2, p2, _, 1, .int kk.price, rfl, rfl, s2, atI_nat (j := 1) rfl, _, rfl, _, rfl, _, rfl, rl, vs, 0, _, rfl, rfl, SqL.of ((sm3.trans (sm4.trans sm6)) _ _ hrl), atI_nat (j := 0) ev0, ?_⟩
        refine ⟨kk.price, u, l, a0, later, _, rfl, ⟨ls0, .inl (SqL.of hls0), hdt0⟩, ovl, ⟨by have := okk.lo; omega, by have := okk.hi; omega⟩, by have := hws.hi; omega, by omega, by omega, fun pb lb vb Hh sm7 sb7 fb => ?_⟩
        refine ⟨pb, _, 1, vb, rfl, rfl, sb7, atI_nat (j := 1) rfl, ?_⟩
        have ob := best_over (price := kk.price) (n := u) (left := l) ovl.ne ovl.each
        have cn := chance_num (k := kk) wb.1 wb.2
        have och : Over kk.ws.sum.toNat (chance kk wq) := Over.mk _ _
        have hS : kk.ws.sum.toNat ≠ 0 := by omega
        have oprod := och.mul ob
        have hD2 : kk.ws.sum.toNat * dp ((ks.map pw).drop (j + 1)) ≠ 0 := Nat.mul_ne_zero hS hD0
        refine ⟨a2, vb, chance kk wq, _, rfl, (fc.same sm6).same sm7, fb, Nat.lt_of_le_of_lt (och.den hS) (Nat.lt_of_le_of_lt (show kk.ws.sum.toNat ≤ 1000 by omega) (by decide)), ovl.den ob, ⟨by omega, by omega⟩, fun v1 Hi sm8 f1 => ?_⟩
        refine ⟨t, v1, _, _, rfl, ((ft.same (Same.new hT)).same sm7).same sm8, f1, Nat.lt_of_le_of_lt ((cell_over (k := pw kk) (left := l) ovl.ne hS ovl.each u).den hD2) hDD, Nat.lt_of_le_of_lt (oprod.den hD2) hDD, fun v2 Hj sm9 f2 => ?_⟩
        refine ⟨sm6.trans (sm7.trans (sm8.trans sm9)), v2, _, _, rfl, ?_⟩
        have ecu : cellUpto (pw kk) l later (u + 1) = cellUpto (pw kk) l later u + chance kk wq * bestOf (valsOf kk.price u l later) := by
          have e : (pw kk).2.getD u 0 = wq := by
            show kk.ws.getD u 0 = wq
            rw [List.getD_eq_getElem?_getD, hwq] <;> rfl
          show _ + chq (pw kk).2 ((pw kk).2.getD u 0) * _ = _
          rw [e]
          rfl
        rw [ecu]
        exact f2
      · rintro σ Hf ⟨sm5, t, z6, z7, rfl, ft⟩
        -- row.append(total)
        have e1 : Hf rw_ = some (.lst ls) := sm5 _ _ (sm4 _ _ hls)
        refine ⟨_, rfl, .inl ⟨rfl, _, SqL.of e1⟩, _, rfl, rw_, ls, _, rfl, rfl, e1, Nat.lt_of_le_of_lt (show ls.length ≤ 13 by omega) (by decide), ?_⟩
        have sk : Sk K Hf (upd Hf rw_ (.lst (ls ++ [t]))) := Sk.butL (But.upd But.refl) e1
        refine ⟨Same.mut (sm3.trans (sm4.trans sm5)) nrw, ls ++ [t], _, _, _, _, rfl, upd_same, by rw [List.length_append, hll] <;> rfl, ?_⟩
        have hlt : l < (rowOf (pw kk) later n).length := by
          unfold rowOf
          rw [List.length_map, List.length_range]
          exact hl
        have erow : (rowOf (pw kk) later n)[l]? = some (cell (pw kk) l later) := by
          unfold rowOf
          rw [List.getElem?_map, List.getElem?_range hl] <;> rfl
        rw [List.take_add_one, erow, List.map_append]
        refine DtAll.app ((hdt.same (sm4.trans sm5)).sk sk) (.cons ?_ .nil)
        have ec : cellUpto (pw kk) l later ys.length = cell (pw kk) l later := by rw [hyl] <;> rfl
        rw [← ec]
        exact (ft.sk sk).dt
    · rintro σ Hc ⟨sm3, ls, z4, z5, z6, z7, rfl, hls, hll, hdt⟩
      -- rows = [row, *rows]
      refine ⟨_, rfl, _, rfl, rl, vs, rfl, .inr (SqL.of (sm3 _ _ hrl)), ?_, fun pn npn => ?_⟩
      · show (vs ++ []).length + 1 ≤ sizeLine
        rw [List.append_nil, hrows.len, table_len, List.length_drop, List.length_map]
        exact Nat.le_trans (show ks.length - (j + 1) + 1 + 1 ≤ 10 by omega) (by decide)
      · have smn : Same Hc (upd Hc pn (.lst (.ref rw_ :: (vs ++ [])))) := Same.new npn
        refine ⟨(sm1.trans sm3).trans smn, pn, .ref rw_ :: vs, _, _, _, _, _, _, rfl, by rw [upd_same, List.append_nil], ?_⟩
        rw [ej2, etab]
        refine Rows.cons ⟨rw_, ls, rfl, smn _ _ hls, ?_⟩ ((hrows.same sm3).same smn)
        have ef : (rowOf (pw kk) later n).take (n + 1) = rowOf (pw kk) later n := List.take_of_length_le (by
          unfold rowOf
          rw [List.length_map, List.length_range]
          exact Nat.le_refl _)
        rw [ef] at hdt
        exact hdt.same smn
  · rintro σ Ha ⟨sm1, rl, vs, y2, y3, y4, y5, y6, y7, rfl, hrl, hrows⟩
    rw [Nat.sub_self, List.drop_zero] at hrows
    have lvs : vs.length = ks.length + 1 := by rw [hrows.len, table_len, List.length_map]
    -- return tuple([tuple(row) for row in rows])
    refine ⟨_, rfl, rl, rfl, ⟨_, SqL.of hrl⟩, fun D hD => lc_gen (K := K) walk_list (fun _ H' => Same Ha H') (fun j y H' => ∃ r, (tableOf (ks.map pw) n)[j]? = some r ∧ Dt K H' y (.tuple (r.map encQ))) (Nat.lt_of_le_of_lt (show vs.length ≤ 6 by omega) (by decide)) (Same.new hD) (fun i H' a b hI _ => Same.mut hI hD) (fun _ _ _ _ sk ⟨r, h1, h2⟩ => ⟨r, h1, h2.sk sk⟩) (fun _ _ hI => Same.seq hI (SqL.of hrl)) ?_ ?_⟩
    · rintro j y Hb Hc Q2 hj hI ⟨rfl, hy⟩ c
      have hj' : j < (tableOf (ks.map pw) n).length := by rw [← hrows.len]; exact hj
      obtain ⟨y', ey', a, ls, rfl, hls, hdt⟩ := hrows.at_ j _ (List.getElem?_eq_getElem hj')
      rw [hy] at ey'
      cases ey'
      refine ⟨rfl, _, rfl, a, ls, rfl, .inl ⟨SqL.of (hI _ _ hls), fun l hl => ?_⟩⟩
      exact c _ _ (hI.trans (Same.new hl)) (Sk.of (Same.new hl)) (fun a e => (Same.new hl) _ _ e) ⟨_, List.getElem?_eq_getElem hj', Dt.tup (SqT.of upd_same) ((hdt.same hI).same (Same.new hl))⟩
    · intro Hb zs hI hzl hz hDD
      refine ⟨D, zs, rfl, .inl ⟨SqL.of hDD, fun l hl => ?_⟩⟩
      have smn : Same Hb (upd Hb l (.tup zs)) := Same.new hl
      refine q _ _ (sm1.trans (hI.trans smn)) (Dt.tup (SqT.of upd_same) (DtAll.of_at ?_ fun i a d ea ed => ?_))
      · rw [hzl, List.length_map, hrows.len]
      · obtain ⟨r, er, dr⟩ := hz i a ea
        rw [List.getElem?_map, er] at ed
        cases ed
        exact dr.same smn
end
end Dl
set_option Elab.async false
set_option linter.all false
set_option maxRecDepth 100000
set_option maxHeartbeats 4000000
set_option pp.maxSteps 400
namespace Dl
open PySem PySem.Spec PyProof.Rows L2 He
def risesOf (qs : List Rat) : List Rat := (List.range (qs.length - 1)).map fun (i : Nat) => qs.getD (i + 1) 0 - qs.getD i 0
theorem cutV_from (xs : List V) (i : Nat) (h : i ≤ xs.length) : cutV xs (some (i : Int)) none = xs.drop i := by
  unfold cutV
  rw [HT.sIx_none, HT.sIx_nat, Nat.min_eq_left h]
  exact List.take_of_length_le (by rw [List.length_drop]; exact Nat.le_refl _)
def sp_rises_of (K : PySem.W.Frag) : Sp := fun vs H Q _ => ∃ (a : Addr) (ls : List V) (qs : List Rat), vs = [.ref a] ∧ SqT K H a ls ∧ DtAll K H ls (qs.map encQ) ∧ 1 ≤ qs.length ∧ qs.length ≤ 13 ∧ (∀ q ∈ qs, q.den < 2 ^ 64) ∧
  ∀ D ys H', Same H H' → H' D = some (.lst ys) → DtAll K H' ys ((risesOf qs).map encQ) → Q (.ref D) H'
def worthQ (ks : List Kind) (n st x : Nat) : Rat := (headRow ((ks.map pw).drop st) n).getD x 0
def sp_worth (K : PySem.W.Frag) : Sp := fun vs H Q _ => ∃ (v : V) (n st x : Nat) (ks : List Kind), vs = [v, .int st, .int x] ∧ PlanAt K H v n ks ∧ KsOk ks ∧ n ≤ 12 ∧ st ≤ ks.length ∧ x ≤ n ∧ ∀ v H', Same H H' → Fq K H' v (worthQ ks n st x) → Q v H'
def sp_rise (K : PySem.W.Frag) : Sp := fun vs H Q _ => ∃ (v : V) (n st x : Nat) (ks : List Kind), vs = [v, .int st, .int x] ∧ PlanAt K H v n ks ∧ KsOk ks ∧ n ≤ 12 ∧ st ≤ ks.length ∧ 1 ≤ x ∧ x ≤ n ∧ ∀ v H', Same H H' → Fq K H' v (worthQ ks n st x - worthQ ks n st (x - 1)) → Q v H'
/-- a stage's row out of the table -/
theorem Dt.row {K : PySem.W.Frag} {H : Hp} {t : V} {ks : List Kind} {n st : Nat} (h : Dt K H t (encTab (tableOf (ks.map pw) n))) (hs : st ≤ ks.length) :
    ∃ p us a ls, t = .ref p ∧ SqT K H p us ∧ us[st]? = some (.ref a) ∧ SqT K H a ls ∧ DtAll K H ls ((headRow ((ks.map pw).drop st) n).map encQ) := by
  obtain ⟨p, us, rfl, su, tu⟩ := h.tupI
  obtain ⟨v, ev, dv⟩ := tu.at (i := st) (d := .tuple ((headRow ((ks.map pw).drop st) n).map encQ)) (by rw [List.getElem?_map, table_at _ _ _ (by rw [List.length_map]; exact hs)] <;> rfl)
  obtain ⟨a, ls, rfl, sl, tl⟩ := dv.tupI
  exact ⟨p, us, a, ls, rfl, su, ev, sl, tl⟩
section
variable {P : Program} {w : World} {K : PySem.W.Frag} {mg : Str → Option Value} {base : Heap}
theorem ok_rises_of (W : Tp K mg) : Cal P w K mg base CX0 4 "rises_of" (sp_rises_of K) := by
  refine ⟨fok_mk (f_rises_of W) sc_rises_of (fun vs H Q E h => by
    obtain ⟨a, ls, qs, rfl, s1, t1, h1, h13, hd, q⟩ := h
    rfl) (fun _ _ _ _ _ _ us hl => match us, hl with | [_], _ => rfl) (fun f cdv A outer s H vs Q E hr h => ?_), g_rises_of W⟩
  obtain ⟨a, ls, qs, rfl, s1, t1, h1, h13, hd, q⟩ := h
  refine ⟨_, (pss_one (ps_ret (pe_lc (own := [("lower", 1), ("higher", 2)]) (g := gTup K 2 (gCons (gName 1) (gCons (gName 2) gNil))) (by rfl) sc_rises_of.nd (RZ.pi_zipA (by rfl) (n_zip W) (pa_cons (pv 0) (pa_cons (pe_slice (r := rSlT K) sl_tup (pv 0) (po_some pe_int) po_none) pa_nil))) (blkOk_by (own := [("lower", 1), ("higher", 2)]) (N := N_rises_of) (sc := defScope s_rises_of) (by decide +kernel)) (fun _ _ _ _ _ => (pg_tup (by rfl) (pgs_cons (pg_name (i := 1) sc_rises_of.nd rfl (by first | exact Or.inl rfl | exact Or.inr rfl)) (pgs_cons (pg_name (i := 2) sc_rises_of.nd rfl (by first | exact Or.inl rfl | exact Or.inr rfl)) pgs_nil)))) (fun _ _ _ _ _ => pts_nil) (fun _ _ _ _ _ => (pk (ok_minus W) hr pass0 (pa_cons (pv 2) (pa_cons (pv 1) pa_nil))))))), ?_⟩
  have ll : ls.length = qs.length := by rw [t1.len, List.length_map]
  refine ⟨_, rfl, _, rfl, 1, rfl, a, ls, rfl, s1, ?_, fun p np => ?_⟩
  · rw [show HT.sIx ls.length 0 (some (1 : Int)) = min 1 ls.length from HT.sIx_nat ls.length 0 1]
    omega
  have sm1 : Same H (upd H p (.tup (cutV ls (some 1) none))) := Same.new np
  have ec : cutV ls (some 1) none = ls.drop 1 := cutV_from ls 1 (by omega)
  have sp1 : SqT K (upd H p (.tup (cutV ls (some 1) none))) p (ls.drop 1) := by
    rw [← ec]
    exact SqT.of upd_same
  generalize upd H p (.tup (cutV ls (some 1) none)) = H1 at sm1 sp1
  refine ⟨a, p, ls, _, rfl, .inr ⟨sm1.seqT s1, sp1, fun D hD => lc_gen (K := K) (walk_zipT (n := ls.length - 1) (by rw [List.length_drop]; omega)) (fun _ H' => Same H1 H') (fun j y H' => ∃ v, (risesOf qs)[j]? = some v ∧ Fq K H' y v) (Nat.lt_of_le_of_lt (show ls.length - 1 ≤ 13 by omega) (by decide)) (Same.new hD) (fun i H' a b hI _ => Same.mut hI hD) (fun _ _ _ _ sk ⟨w, h1, h2⟩ => ⟨w, h1, h2.sk sk⟩) (fun _ _ hI => ⟨Same.seqT hI (sm1.seqT s1), Same.seqT hI sp1⟩) ?_ ?_⟩⟩
  · rintro j x H2 H3 Q2 hj hI ⟨T, b1, b2, rfl, hT, rfl, e1, e2⟩ c
    have sm2 : Same H1 (upd H2 T (.tup [b1, b2])) := hI.trans (Same.new hT)
    obtain ⟨w1, ew1, f1⟩ := Seq.fq (a := a) t1 (i := j) (by omega)
    obtain ⟨w2, ew2, f2⟩ := Seq.fq (a := a) t1 (i := j + 1) (by omega)
    have e2' : ls[1 + j]? = some b2 := by
      have z : (ls.drop 1)[j]? = some b2 := e2
      rwa [List.getElem?_drop] at z
    rw [Nat.add_comm] at e2'
    have x1 : w1 = b1 := Option.some.inj (ew1.symm.trans e1)
    have x2 : w2 = b2 := Option.some.inj (ew2.symm.trans e2')
    subst x1 x2
    have dd : ∀ i, (qs.getD i 0).den < 2 ^ 64 := fun i => by
      rw [List.getD_eq_getElem?_getD]
      cases e : qs[i]? with
      | none => exact (by decide : 1 < 2 ^ 64)
      | some q0 => exact hd q0 (List.mem_of_getElem? e)
    have smH : Same H (upd H2 T (.tup [w1, w2])) := sm1.trans sm2
    refine ⟨T, _, rfl, SqT.of upd_same, rfl, _, _, rfl, _, _, rfl, rfl, rfl, _, rfl, _, rfl, w2, w1, _, _, rfl, f2.same smH, f1.same smH, dd _, dd _, fun v H4 sm4 f => ?_⟩
    refine c v H4 (sm2.trans sm4) (Sk.of ((Same.new hT).trans sm4)) (fun a e => ((Same.new hT).trans sm4) _ _ e) ⟨_, ?_, f⟩
    unfold risesOf
    rw [List.getElem?_map, List.getElem?_range (by omega)]
    rfl
  · intro H2 ys hI hyl hy hDD
    refine q D ys H2 (sm1.trans hI) hDD (DtAll.of_at ?_ fun i v d ev ed => ?_)
    · rw [hyl, List.length_map]
      unfold risesOf
      rw [List.length_map, List.length_range]
      omega
    · obtain ⟨w, ew, f⟩ := hy i v ev
      rw [List.getElem?_map, ew] at ed
      cases ed
      exact f.dt
theorem ok_worth (W : Tp K mg) : Cal P w K mg base CX0 7 "worth" (sp_worth K) := by
  refine ⟨fok_mk (f_worth W) sc_worth (fun vs H Q E h => by
    obtain ⟨v, n, st, x, ks, rfl, hpl, ok, hn, hs, hx, q⟩ := h
    rfl) (fun _ _ _ _ _ _ us hl => match us, hl with | [_, _, _], _ => rfl) (fun f cdv A outer s H vs Q E hr h => ?_), g_worth W⟩
  obtain ⟨v, n, st, x, ks, rfl, hpl, ok, hn, hs, hx, q⟩ := h
  refine ⟨_, (pss_cons (ps_expr (pk (ok_check_plan W) hr pass0 (pa_cons (pv 0) pa_nil)))
      (pss_cons (ps_expr (pk (ok_check_stage W) hr pass0 (pa_cons (pv 0) (pa_cons (pv 1) pa_nil))))
      (pss_cons (ps_expr (pk (ok_check_left W) hr pass0 (pa_cons (pv 0) (pa_cons (pv 2) pa_nil))))
      (pss_one (ps_ret (pe_ix (r := rIxT K) ix_tup (pe_ix (r := rIxT K) ix_tup (pk (ok_table_of W) hr pass0 (pa_cons (pv 0) pa_nil)) (pv 1) (fun _ _ => rfl)) (pv 2) (fun _ _ => rfl))))))), ?_⟩
  refine ⟨_, rfl, v, n, ks, rfl, hpl, _, rfl, _, rfl, v, n, st, ks, rfl, hpl, ok.hi, hs, _, rfl, _, rfl, v, n, x, ks, rfl, hpl, hx, ?_⟩
  refine ⟨_, rfl, v, n, ks, rfl, hpl, ok, hn, fun t H1 sm1 dt => ?_⟩
  obtain ⟨p, us, a, ls, rfl, su, eu, sl, tl⟩ := dt.row hs
  have lx : x < (headRow ((ks.map pw).drop st) n).length := by rw [headRow_len]; omega
  obtain ⟨u, eu2, fu⟩ := Seq.fq (a := a) tl lx
  exact ⟨_, rfl, p, us, st, .ref a, rfl, rfl, su, atI_nat eu, _, rfl, a, ls, x, u, rfl, rfl, sl, atI_nat eu2, q u H1 sm1 fu⟩
theorem ok_rise (W : Tp K mg) : Cal P w K mg base CX0 7 "rise" (sp_rise K) := by
  refine ⟨fok_mk (f_rise W) sc_rise (fun vs H Q E h => by
    obtain ⟨v, n, st, x, ks, rfl, hpl, ok, hn, hs, h1, hx, q⟩ := h
    rfl) (fun _ _ _ _ _ _ us hl => match us, hl with | [_, _, _], _ => rfl) (fun f cdv A outer s H vs Q E hr h => ?_), g_rise W⟩
  obtain ⟨v, n, st, x, ks, rfl, hpl, ok, hn, hs, h1, hx, q⟩ := h
  refine ⟨_, (pss_cons (ps_expr (pk (ok_check_plan W) hr pass0 (pa_cons (pv 0) pa_nil)))
      (pss_cons (ps_expr (pk (ok_check_stage W) hr pass0 (pa_cons (pv 0) (pa_cons (pv 1) pa_nil))))
      (pss_cons (ps_if (pt_not (pt_val (pk (ok_is_integer W) hr pass0 (pa_cons (pv 2) (pa_cons pe_int (pa_cons (pkProp (pv 0) (c_Plan W) (p_Plan_seats W) (ok_Plan_seats W) hr pass0) pa_nil)))))) (pss_one ps_never)
      pss_nil)
      (pss_one (ps_ret (pe_ix (r := rIxL K) ix_list (pk (ok_rises_of W) hr pass0 (pa_cons (pe_ix (r := rIxT K) ix_tup (pk (ok_table_of W) hr pass0 (pa_cons (pv 0) pa_nil)) (pv 1) (fun _ _ => rfl)) pa_nil)) (pe_op op_sub (pv 2) pe_int) (fun _ _ => rfl))))))), ?_⟩
  obtain ⟨pp, dx, kv, rfl, hp, hk⟩ := id hpl
  refine ⟨_, rfl, _, n, ks, rfl, hpl, _, rfl, _, rfl, _, n, st, ks, rfl, hpl, ok.hi, hs, ?_⟩
  refine ⟨_, rfl, _, rfl, pp, dx, _, rfl, hp, .ref pp, n, ks, rfl, hpl, .int x, 1, n, "int", rfl, .base (.int _), by decide, _, rfl, ?_⟩
  have e1 : intIn (.int (x : Int)) 1 n = true := by
    show (decide ((1 : Int) ≤ x) && decide ((x : Int) ≤ n)) = true
    rw [decide_eq_true (by omega), decide_eq_true (by omega)] <;> rfl
  rw [e1]
  refine iteF ⟨_, rfl, _, n, ks, rfl, hpl, ok, hn, fun t H1 sm1 dt => ?_⟩
  obtain ⟨p, us, a, ls, rfl, su, eu, sl, tl⟩ := dt.row hs
  have ov := ok.overAll n st
  have lh := headRow_len ((ks.map pw).drop st) n
  refine ⟨_, rfl, p, us, st, .ref a, rfl, rfl, su, atI_nat eu, a, ls, _, rfl, sl, tl, by omega, by omega, fun q0 hq => ov.den (ov.each q0 hq), fun D ys H2 sm2 hD dt2 => ?_⟩
  have lr : (risesOf (headRow ((ks.map pw).drop st) n)).length = n := by
    unfold risesOf
    rw [List.length_map, List.length_range]
    omega
  obtain ⟨u, eu2, fu⟩ := Seq.fq (a := D) dt2 (i := x - 1) (by omega)
  have ex : ((x : Int) - 1) = ((x - 1 : Nat) : Int) := by omega
  refine ⟨_, rfl, _, _, rfl, rfl, D, ys, _, u, rfl, rfl, SqL.of hD, by rw [ex]; exact atI_nat eu2, q u H2 (sm1.trans sm2) ?_⟩
  have er : (risesOf (headRow ((ks.map pw).drop st) n)).getD (x - 1) 0 = worthQ ks n st x - worthQ ks n st (x - 1) := by
    unfold risesOf worthQ
    rw [List.getD_eq_getElem?_getD, List.getElem?_map, List.getElem?_range (by omega)]
    show _ - _ = _
    rw [Nat.sub_add_cancel h1]
  rw [er] at fu
  exact fu
end
end Dl
set_option Elab.async false
set_option linter.all false
set_option maxRecDepth 100000
set_option maxHeartbeats 4000000
set_option pp.maxSteps 400
namespace Dl
open PySem PySem.Spec PyProof.Rows L2 He
/-! ### the law's draws -/
def WellAt (H : Hp) (wl : Addr) : Prop := ∃ g s c : Int, H wl = some (.lst [.int g, .int s, .int c]) ∧ 0 ≤ g ∧ 0 ≤ s ∧ s < 2147483477
theorem WellAt.but {H H' : Hp} {wl a : Addr} (h : WellAt H wl) (x : But a H H') (n : wl ≠ a) : WellAt H' wl := let ⟨g, s, c, e, r⟩ := h; ⟨g, s, c, x _ _ n e, r⟩
theorem WellAt.same {H H' : Hp} {wl : Addr} (h : WellAt H wl) (x : Same H H') : WellAt H' wl := let ⟨g, s, c, e, r⟩ := h; ⟨g, s, c, x _ _ e, r⟩
theorem WellAt.sk {K : PySem.W.Frag} {H H' : Hp} {wl : Addr} (h : WellAt H wl) (x : But wl H H') : Sk K H H' := let ⟨g, s, c, e, r⟩ := h; Sk.butL x e
theorem WellAt.ne {H : Hp} {wl p : Addr} (h : WellAt H wl) (n : H p = none) : wl ≠ p := let ⟨g, s, c, e, r⟩ := h; ne_of_none e n
def sp_l_dip (K : PySem.W.Frag) : Sp := fun vs H Q _ => ∃ (wl : Addr) (top : Int), vs = [.ref wl, .int top] ∧ WellAt H wl ∧ 1 ≤ top ∧ top < 1073741824 ∧ ∀ (k : Nat) H', (k : Int) < top → But wl H H' → WellAt H' wl → Q (.int k) H'
def sp_l_well (K : PySem.W.Frag) : Sp := fun vs H Q _ => ∃ (a : Addr) (ns : List Int) (i : Nat), vs = [.ref a, .int i] ∧ SqL K H a (ns.map V.int) ∧ ∀ wl H', Same H H' → H wl = none → WellAt H' wl → Q (.ref wl) H'
def sp_l_from (K : PySem.W.Frag) : Sp := fun vs H Q _ => ∃ (wl d : Addr) (xs : List V), vs = [.ref wl, .ref d] ∧ WellAt H wl ∧ H d = some (.lst xs) ∧ d ≠ wl ∧ 1 ≤ xs.length ∧ xs.length < 1000 ∧ ∀ (k : Nat) x H', xs[k]? = some x → But wl H H' → WellAt H' wl → Q x H'
def nxt (s c : Int) : Int := (s * (40014 + s % 6007) + 15013 * (c + 1) + 9) % 2147483477
theorem ix3_0 : ixN 3 0 = some 0 := rfl
section
variable {P : Program} {w : World} {K : PySem.W.Frag} {mg : Str → Option Value} {base : Heap}
theorem ok_l_dip (W : Tp K mg) : Cal P w K mg base CX0 1 "_law_dip" (sp_l_dip K) := by
  refine ⟨fok_mk (f_l_dip W) sc_l_dip (fun vs H Q E h => by
    obtain ⟨wl, top, rfl, ⟨g, s0, c, hw, hg, hs, hs2⟩, ht, ht2, q⟩ := h
    rfl) (fun _ _ _ _ _ _ us hl => match us, hl with | [_, _], _ => rfl) (fun f cdv A outer s H vs Q E hr h => ?_), g_l_dip W⟩
  obtain ⟨wl, top, rfl, ⟨g, s0, c, hw, hg, hs, hs2⟩, ht, ht2, q⟩ := h
  refine ⟨_, (pss_cons (ps_if (pt_cmpR op_gt (pe_ix (r := rIxL K) ix_list (pv 0) pe_int (fun _ _ => rfl)) pe_int (nomark _)) (pss_cons (ps_asg (pe_callB call_divmod (by rfl) (n_divmod W) (by decide +kernel) (pa_cons (pe_ix (r := rIxL K) ix_list (pv 0) pe_int (fun _ _ => rfl)) (pa_cons (pv 1) pa_nil))) (pg_tup (by rfl) (pgs_cons (pg_sub (pv 0) pe_int set_list) (pgs_cons (pg_name (i := 2) sc_l_dip.nd rfl (by first | exact Or.inl rfl | exact Or.inr rfl)) pgs_nil))))
      (pss_one (ps_ret (pv 2))))
      pss_nil)
      (pss_cons (ps_asg (pe_op op_add (pe_ix (r := rIxL K) ix_list (pv 0) pe_int (fun _ _ => rfl)) pe_int) (pg_sub (pv 0) pe_int set_list))
      (pss_cons (ps_set (i := 3) sc_l_dip.nd rfl (by first | exact Or.inl rfl | exact Or.inr rfl) (pe_callTy call_int1 (by rfl) (n_int W) (by decide +kernel) (pa_cons (pe_op op_mul (pe_ix (r := rIxL K) ix_list (pv 0) pe_int (fun _ _ => rfl)) (pe_op op_add pe_int (pe_op op_mod (pe_callTy call_int1 (by rfl) (n_int W) (by decide +kernel) (pa_cons (pe_ix (r := rIxL K) ix_list (pv 0) pe_int (fun _ _ => rfl)) pa_nil)) pe_int))) pa_nil)))
      (pss_cons (ps_asg (pe_op op_mod (pe_callTy call_int1 (by rfl) (n_int W) (by decide +kernel) (pa_cons (pe_op op_add (pe_op op_add (pv 3) (pe_op op_mul pe_int (pe_ix (r := rIxL K) ix_list (pv 0) pe_int (fun _ _ => rfl)))) pe_int) pa_nil)) pe_int) (pg_sub (pv 0) pe_int set_list))
      (pss_one (ps_ret (pe_op op_mod (pe_callTy call_int1 (by rfl) (n_int W) (by decide +kernel) (pa_cons (pe_op op_fdiv (pe_ix (r := rIxL K) ix_list (pv 0) pe_int (fun _ _ => rfl)) pe_int) pa_nil)) (pv 1)))))))), ?_⟩
  refine ⟨_, rfl, wl, _, 0, .int g, rfl, rfl, SqL.of hw, atI_nat (j := 0) rfl, _, _, rfl, rfl, _, rfl, ?_⟩
  by_cases hg0 : 0 < g
  · rw [decide_eq_true hg0]
    refine iteT ⟨_, rfl, wl, _, 0, .int g, rfl, rfl, SqL.of hw, atI_nat (j := 0) rfl, _, rfl, g, top, rfl, ⟨by omega, by omega⟩, fun p np => ?_⟩
    have npw : wl ≠ p := ne_of_none hw np
    refine ⟨p, _, rfl, SqT.of upd_same, rfl, _, _, rfl, _, rfl, wl, _, 0, 0, rfl, rfl, by rw [upd_ne npw]; exact hw, rfl, _, _, rfl, rfl, ?_⟩
    refine ⟨_, rfl, ?_⟩
    have hm0 : 0 ≤ g % top := Int.emod_nonneg _ (by omega)
    have hm1 : g % top < top := Int.emod_lt_of_pos _ (by omega)
    have hd0 : 0 ≤ g / top := Int.ediv_nonneg hg (by omega)
    have z := q (g % top).toNat (upd (upd H p (.tup [.int (g / top), .int (g % top)])) wl (.lst [.int (g / top), .int s0, .int c])) (by omega) (But.upd (But.of (Same.new np))) ⟨g / top, s0, c, upd_same, hd0, hs, hs2⟩
    rw [Int.toNat_of_nonneg hm0] at z
    exact z
  · rw [decide_eq_false hg0]
    refine iteF ?_
    -- w[2] = w[2] + 1
    refine ⟨_, rfl, wl, _, 2, .int c, rfl, rfl, SqL.of hw, atI_nat (j := 2) rfl, _, _, rfl, rfl, _, rfl, wl, _, 2, 2, rfl, rfl, hw, rfl, ?_⟩
    have h1 : (upd H wl (.lst ([V.int g, .int s0, .int c].set 2 (.int (c + 1))))) wl = some (.lst [.int g, .int s0, .int (c + 1)]) := upd_same
    -- held
    refine ⟨_, rfl, wl, _, 1, .int s0, rfl, rfl, SqL.of h1, atI_nat (j := 1) rfl, _, rfl, wl, _, 1, .int s0, rfl, rfl, SqL.of h1, atI_nat (j := 1) rfl, .inl ⟨_, rfl, _, _, rfl, rfl, by show (0 : Int) < 6007; decide, _, _, rfl, rfl, _, _, rfl, rfl, .inl ⟨by omega, by omega⟩, .inl ⟨_, rfl, ?_⟩⟩⟩
    -- w[1]
    refine ⟨_, rfl, _, rfl, wl, _, 2, .int (c + 1), rfl, rfl, SqL.of h1, atI_nat (j := 2) rfl, _, _, rfl, rfl, .inl ⟨by decide, by decide⟩, _, _, rfl, rfl, _, _, rfl, rfl, .inl ⟨_, rfl, _, _, rfl, rfl, by show (0 : Int) < 2147483477; decide, _, rfl, wl, _, 1, 1, rfl, rfl, h1, rfl, ?_⟩⟩
    have hz0 : 0 ≤ nxt s0 c := Int.emod_nonneg _ (by decide)
    have hz1 : nxt s0 c < 2147483477 := Int.emod_lt_of_pos _ (by decide)
    have h2 : (upd (upd H wl (.lst ([V.int g, .int s0, .int c].set 2 (.int (c + 1))))) wl (.lst ([V.int g, .int s0, .int (c + 1)].set 1 (.int (nxt s0 c))))) wl = some (.lst [.int g, .int (nxt s0 c), .int (c + 1)]) := upd_same
    refine ⟨_, rfl, wl, _, 1, .int (nxt s0 c), rfl, rfl, SqL.of h2, atI_nat (j := 1) rfl, _, _, rfl, rfl, ⟨by decide, by decide⟩, .inl ⟨_, rfl, _, rfl, _, _, rfl, rfl, by omega, ?_⟩⟩
    have hm0 : 0 ≤ (nxt s0 c / 256) % top := Int.emod_nonneg _ (by omega)
    have hm1 : (nxt s0 c / 256) % top < top := Int.emod_lt_of_pos _ (by omega)
    have y := q ((nxt s0 c / 256) % top).toNat _ (by omega) (But.upd (But.upd But.refl)) ⟨g, nxt s0 c, c + 1, h2, hg, hz0, hz1⟩
    rw [Int.toNat_of_nonneg hm0] at y
    exact y
theorem ok_l_from (W : Tp K mg) : Cal P w K mg base CX0 2 "_law_from" (sp_l_from K) := by
  refine ⟨fok_mk (f_l_from W) sc_l_from (fun vs H Q E h => by
    obtain ⟨wl, d, xs, rfl, hw, hd, hne, h1, h2, q⟩ := h
    rfl) (fun _ _ _ _ _ _ us hl => match us, hl with | [_, _], _ => rfl) (fun f cdv A outer s H vs Q E hr h => ?_), g_l_from W⟩
  obtain ⟨wl, d, xs, rfl, hw, hd, hne, h1, h2, q⟩ := h
  refine ⟨_, (pss_one (ps_ret (pe_ix (r := rIxL K) ix_list (pv 1) (pk (ok_l_dip W) hr pass0 (pa_cons (pv 0) (pa_cons (pe_callB (r := rLenQ K) call_len_seq (by rfl) (n_len W) (by decide +kernel) (pa_cons (pv 1) pa_nil)) pa_nil))) (fun _ _ => rfl)))), ?_⟩
  refine ⟨_, rfl, _, rfl, _, rfl, d, xs, rfl, .inl (SqL.of hd), wl, xs.length, rfl, hw, by omega, by omega, fun k H1 hk bt hw1 => ?_⟩
  have hk' : k < xs.length := by omega
  exact ⟨d, xs, k, xs[k], rfl, rfl, SqL.of (bt _ _ hne hd), atI_nat (List.getElem?_eq_getElem hk'), q k _ H1 (List.getElem?_eq_getElem hk') bt hw1⟩
end
end Dl
set_option Elab.async false
set_option linter.all false
set_option maxRecDepth 100000
set_option maxHeartbeats 4000000
set_option pp.maxSteps 400
namespace Dl
open PySem PySem.Spec PyProof.Rows L2 He
theorem cutV_ints {ns : List Int} {lo hi : Option Int} {i : Nat} {x : V} (h : (cutV (ns.map V.int) lo hi)[i]? = some x) : ∃ n, x = .int n := by
  have m := List.mem_of_getElem? h
  unfold cutV at m
  have m2 := List.mem_of_mem_drop (List.mem_of_mem_take m)
  obtain ⟨n, _, e⟩ := List.mem_map.mp m2
  exact ⟨n, e.symm⟩
theorem WellAt.no {H H' : Hp} {wl b : Addr} (h : WellAt H' wl) (x : But wl H H') (hb : H' b = none) : H b = none := let ⟨_, _, _, e, _⟩ := h; x.no hb e
def MENU : List Str := ["eco", "flex", "b2", "z", "a1b2c3d4", "seats", "kind", "price", "weights", "more", "x9", "a", "aa"]
def nameB (x : Str) : Bool := decide (1 ≤ x.length) && (decide (x.length ≤ 8) && ((match x.cps.toList[0]? with
  | some c => LETS.cps.toList.contains c
  | none => false) && (x.cps.toList.all fun c => (LETS ++ DIGS).cps.toList.contains c)))
theorem nameB_ok {x : Str} (h : nameB x = true) : NameOk x := by
  unfold nameB at h
  obtain ⟨h1, h⟩ := ba h
  obtain ⟨h2, h⟩ := ba h
  obtain ⟨h3, h4⟩ := ba h
  refine ⟨of_decide_eq_true h1, of_decide_eq_true h2, ?_, fun c hc => ?_⟩
  · cases e : x.cps.toList[0]? with
    | none => rw [e] at h3; cases h3
    | some c =>
      rw [e] at h3
      exact ⟨c, rfl, List.contains_iff_mem.mp h3⟩
  · exact List.contains_iff_mem.mp (List.all_eq_true.mp h4 c hc)
theorem menu_names : ∀ x ∈ MENU, nameB x = true := by decide +kernel
theorem menu_plan : ∀ x ∈ MENU, x ≠ "plan" := by decide +kernel
theorem menu_nodup : MENU.Nodup := by decide +kernel
theorem menu_steps : ∀ b, b < 13 → ∀ s, s < 12 → ((List.range 5).map fun k => (b + (s + 1) * k) % 13).Nodup := by decide +kernel
def nameAt (b s k : Nat) : Str := MENU.getD ((b + (s + 1) * k) % 13) ""
def namesOf (b s many : Nat) : List Str := (List.range many).map (nameAt b s)
theorem nameAt_mem (b s k : Nat) : MENU[(b + (s + 1) * k) % 13]? = some (nameAt b s k) ∧ nameAt b s k ∈ MENU := by
  have h : (b + (s + 1) * k) % 13 < MENU.length := Nat.mod_lt _ (by decide)
  have e : nameAt b s k = MENU[(b + (s + 1) * k) % 13] := by
    unfold nameAt
    rw [List.getD_eq_getElem?_getD, List.getElem?_eq_getElem h]
    rfl
  exact ⟨by rw [List.getElem?_eq_getElem h, e], by rw [e]; exact List.getElem_mem h⟩
theorem names_apart {b s i j : Nat} (hb : b < 13) (hs : s < 12) (hi : i < j) (hj : j < 5) : nameAt b s i ≠ nameAt b s j := by
  intro e
  have h1 := (nameAt_mem b s i).1
  have h2 := (nameAt_mem b s j).1
  rw [e] at h1
  have e2 := nd_ix menu_nodup h1 h2
  have nd := menu_steps b hb s hs
  have z := List.pairwise_iff_getElem.mp nd i j (by simp; omega) (by simp; omega) hi
  simp only [List.getElem_map, List.getElem_range] at z
  exact z e2
def sp_l_words (K : PySem.W.Frag) : Sp := fun vs H Q _ => ∃ (wl : Addr) (many : Nat), vs = [.ref wl, .int many] ∧ WellAt H wl ∧ many ≤ 5 ∧
  ∀ D H' (b s : Nat), b < 13 → s < 12 → But wl H H' → WellAt H' wl → H D = none → H' D = some (.lst ((namesOf b s many).map V.str)) → Q (.ref D) H'
section
variable {P : Program} {w : World} {K : PySem.W.Frag} {mg : Str → Option Value} {base : Heap}
theorem ok_l_well (W : Tp K mg) : Cal P w K mg base CX0 1 "_law_well" (sp_l_well K) := by
  refine ⟨fok_mk (f_l_well W) sc_l_well (fun vs H Q E h => by
    obtain ⟨a, ns, i, rfl, hS, q⟩ := h
    rfl) (fun _ _ _ _ _ _ us hl => match us, hl with | [_, _], _ => rfl) (fun f cdv A outer s H vs Q E hr h => ?_), g_l_well W⟩
  obtain ⟨a, ns, i, rfl, hS, q⟩ := h
  refine ⟨_, (C8.pss_cut (ps_set (i := 2) sc_l_well.nd rfl (by first | exact Or.inl rfl | exact Or.inr rfl) (pe_ifExp (pt_cmpR op_lt (pv 1) (pe_callB (r := rLenQ K) call_len_seq (by rfl) (n_len W) (by decide +kernel) (pa_cons (pv 0) pa_nil)) (nomark _)) (pe_callTy call_int1 (by rfl) (n_int W) (by decide +kernel) (pa_cons (pe_ix (r := rIxL K) ix_list (pv 0) (pv 1) (fun _ _ => rfl)) pa_nil)) (pe_op op_add (pe_op op_mul pe_int (pv 1)) pe_int)))
      (pss_cons (ps_set (i := 3) sc_l_well.nd rfl (by first | exact Or.inl rfl | exact Or.inr rfl) (pe_op op_add pe_int (pe_op op_mul pe_int (pv 1))))
      (pss_cons (ps_for PassesOwn.never rfl (pi_list (pe_slice (r := rSlL K) sl_list (pv 0) po_none (po_some pe_int))) (pg_name (i := 4) sc_l_well.nd rfl (by first | exact Or.inl rfl | exact Or.inr rfl))
      (pss_one (ps_set (i := 3) sc_l_well.nd rfl (by first | exact Or.inl rfl | exact Or.inr rfl) (pe_op op_mod (pe_callTy call_int1 (by rfl) (n_int W) (by decide +kernel) (pa_cons (pe_op op_add (pe_op op_add (pe_op op_mul (pv 3) pe_int) (pe_op op_mul (pe_callTy call_int1 (by rfl) (n_int W) (by decide +kernel) (pa_cons (pv 4) pa_nil)) pe_int)) pe_int) pa_nil)) pe_int))))
      (C8.pss_cut (ps_set (i := 5) sc_l_well.nd rfl (by first | exact Or.inl rfl | exact Or.inr rfl) (pe_ifExp (PW.pt (pw_or (pt_cmpR op_lt (pv 2) pe_int (nomark _)) (pw_or1 (pt_cmpR op_ge (pv 2) (pe_op op_pow pe_int pe_int) (nomark _))))) (pe_callB call_abs (by rfl) (n_abs W) (by decide +kernel) (pa_cons (pv 2) pa_nil)) pe_int))
      (pss_one (ps_ret (pe_lst (pa_cons (pv 5) (pa_cons (pe_op op_mod (pe_callTy call_int1 (by rfl) (n_int W) (by decide +kernel) (pa_cons (pe_op op_add (pv 3) (pe_op op_mul (pv 2) pe_int)) pa_nil)) pe_int) (pa_cons pe_int pa_nil)))))))))), ?_⟩
  refine ⟨fun σ' H' => ∃ own : Int, σ' = [some (.ref a), some (.int i), some (.int own), none, none, none] ∧ H' = H, ?_, ?_⟩
  · refine ⟨_, rfl, _, rfl, a, _, rfl, .inl hS, _, _, rfl, rfl, _, rfl, ?_⟩
    refine ite2 (fun h => ?_) (fun h => ?_)
    · have hi : i < (ns.map V.int).length := by
        have := of_decide_eq_true h
        omega
      have hi' : i < ns.length := by rwa [List.length_map] at hi
      exact ⟨_, rfl, _, rfl, a, _, i, .int ns[i], rfl, rfl, hS, atI_nat (by rw [List.getElem?_map, List.getElem?_eq_getElem hi'] <;> rfl), .inl ⟨_, rfl, _, rfl, rfl⟩⟩
    · exact ⟨_, rfl, _, _, rfl, rfl, .inl ⟨by decide, by decide⟩, _, _, rfl, rfl, _, rfl, rfl⟩
  rintro σ' H' ⟨own, rfl, rfl⟩
  refine ⟨_, rfl, _, _, rfl, rfl, .inl ⟨by decide, by decide⟩, _, _, rfl, rfl, ?_⟩
  refine ⟨_, rfl, 8, rfl, a, _, rfl, hS, fun p np => ?_⟩
  have sm1 : Same H' (upd H' p (.lst (cutV (ns.map V.int) none (some 8)))) := Same.new np
  have hp1 : (upd H' p (.lst (cutV (ns.map V.int) none (some 8)))) p = some (.lst (cutV (ns.map V.int) none (some 8))) := upd_same
  generalize upd H' p (.lst (cutV (ns.map V.int) none (some 8))) = H1 at sm1 hp1
  refine ⟨p, rfl, ⟨_, SqL.of hp1⟩, for_it walk_list (fun _ σ H' => H' = H1 ∧ ∃ (st : Int) (y4 : Option V), σ = [some (.ref a), some (.int i), some (.int own), some (.int st), y4, none]) ⟨rfl, _, none, rfl⟩ (fun _ _ _ _ h => by rw [h.1]; exact SqL.of hp1) ?_ ?_⟩
  · rintro j x σ Hx H2 hj ⟨rfl, st, y4, rfl⟩ ⟨rfl, hx⟩
    obtain ⟨n, rfl⟩ := cutV_ints hx
    exact ⟨_, rfl, _, _, rfl, rfl, .inr ⟨by decide, by decide⟩, _, rfl, .inl ⟨_, rfl, _, _, rfl, rfl, .inr ⟨by decide, by decide⟩, _, _, rfl, rfl, _, _, rfl, rfl, .inl ⟨_, rfl, _, _, rfl, rfl, by show (0 : Int) < 2147483477; decide, rfl, _, _, rfl⟩⟩⟩
  rintro σ Hx ⟨rfl, st, y4, rfl⟩
  refine ⟨fun σ' H' => ∃ gr : Int, 0 ≤ gr ∧ σ' = [some (.ref a), some (.int i), some (.int own), some (.int st), y4, some (.int gr)] ∧ H' = Hx, ?_, ?_⟩
  · refine ⟨_, rfl, _, _, rfl, rfl, _, rfl, ?_⟩
    have hab : 0 ≤ (if own < 0 then -own else own) := by split <;> omega
    refine ite2 (fun h => ?_) (fun h => ?_)
    · exact iteT ⟨_, rfl, _, rfl, _, hab, rfl, rfl⟩
    · refine ⟨_, rfl, 10, 16, rfl, rfl, ⟨by decide, by decide, by decide⟩, _, _, rfl, rfl, _, rfl, ?_⟩
      refine ite2 (fun h2 => ?_) (fun h2 => ?_)
      · exact ⟨_, rfl, _, rfl, _, hab, rfl, rfl⟩
      · exact ⟨0, by decide, rfl, rfl⟩
  rintro σ' H' ⟨gr, hgr, rfl, rfl⟩
  refine ⟨_, rfl, _, rfl, _, rfl, _, _, rfl, rfl, .inr ⟨by decide, by decide⟩, _, _, rfl, rfl, .inl ⟨_, rfl, _, _, rfl, rfl, by show (0 : Int) < 2147483477; decide, by show 3 ≤ sizeLine; decide, fun l nl => ?_⟩⟩
  exact q l _ (sm1.trans (Same.new nl)) (sm1.no nl) ⟨gr, _, 2, upd_same, hgr, Int.emod_nonneg _ (by decide), Int.emod_lt_of_pos _ (by decide)⟩
theorem ok_l_words (W : Tp K mg) : Cal P w K mg base CX0 2 "_law_words" (sp_l_words K) := by
  refine ⟨fok_mk (f_l_words W) sc_l_words (fun vs H Q E h => by
    obtain ⟨wl, many, rfl, hw, hm, q⟩ := h
    rfl) (fun _ _ _ _ _ _ us hl => match us, hl with | [_, _], _ => rfl) (fun f cdv A outer s H vs Q E hr h => ?_), g_l_words W⟩
  obtain ⟨wl, many, rfl, hw, hm, q⟩ := h
  refine ⟨_, (pss_cons (ps_set (i := 2) sc_l_words.nd rfl (by first | exact Or.inl rfl | exact Or.inr rfl) (pe_lst (pa_cons pe_str (pa_cons pe_str (pa_cons pe_str (pa_cons pe_str (pa_cons pe_str (pa_cons pe_str (pa_cons pe_str (pa_cons pe_str (pa_cons pe_str (pa_cons pe_str (pa_cons pe_str (pa_cons pe_str (pa_cons pe_str pa_nil)))))))))))))))
      (pss_cons (ps_asg (pe_tup (pa_cons (pk (ok_l_dip W) hr pass0 (pa_cons (pv 0) (pa_cons pe_int pa_nil))) (pa_cons (pe_op op_add pe_int (pk (ok_l_dip W) hr pass0 (pa_cons (pv 0) (pa_cons pe_int pa_nil)))) pa_nil))) (pg_tup (by rfl) (pgs_cons (pg_name (i := 3) sc_l_words.nd rfl (by first | exact Or.inl rfl | exact Or.inr rfl)) (pgs_cons (pg_name (i := 4) sc_l_words.nd rfl (by first | exact Or.inl rfl | exact Or.inr rfl)) pgs_nil))))
      (pss_one (ps_ret (pe_lc (own := [("_law_k", 5)]) (g := gName 5) (by rfl) sc_l_words.nd (pi_range1 (by rfl) (n_range W) (pa_cons (pv 1) pa_nil)) (blkOk_by (own := [("_law_k", 5)]) (N := N_l_words) (sc := defScope s_l_words) (by decide +kernel)) (fun _ _ _ _ _ => (pg_name (i := 5) sc_l_words.nd rfl (by first | exact Or.inl rfl | exact Or.inr rfl))) (fun _ _ _ _ _ => pts_nil) (fun _ _ _ _ _ => (pe_ix (r := rIxL K) ix_list (pv 2) (pe_op op_mod (pe_callTy call_int1 (by rfl) (n_int W) (by decide +kernel) (pa_cons (pe_op op_add (pv 3) (pe_op op_mul (pv 4) (pv 5))) pa_nil)) pe_int) (fun _ _ => rfl)))))))), ?_⟩
  refine ⟨by show 13 ≤ sizeLine; decide, fun m nm => ?_⟩
  have hmw : wl ≠ m := hw.ne nm
  have sm1 : Same H (upd H m (.lst (MENU.map V.str))) := Same.new nm
  have hm1 : (upd H m (.lst (MENU.map V.str))) m = some (.lst (MENU.map V.str)) := upd_same
  refine ⟨_, rfl, wl, 13, rfl, hw.same sm1, by decide, by decide, fun b H1 hb bt1 hw1 => ?_⟩
  refine ⟨_, rfl, wl, 12, rfl, hw1, by decide, by decide, fun s0 H2 hs bt2 hw2 => ?_⟩
  refine ⟨_, _, rfl, rfl, by show 2 ≤ sizeLine; decide, fun p np => ?_⟩
  refine ⟨p, _, rfl, SqT.of upd_same, rfl, _, _, rfl, _, _, rfl, rfl, ?_⟩
  have sm3 : Same H2 (upd H2 p (.tup [.int b, .int (1 + (s0 : Int))])) := Same.new np
  have bt3 : But wl H (upd H2 p (.tup [.int b, .int (1 + (s0 : Int))])) := (But.of sm1).trans (bt1.trans (bt2.trans (But.of sm3)))
  have hm3 : (upd H2 p (.tup [.int b, .int (1 + (s0 : Int))])) m = some (.lst (MENU.map V.str)) := sm3 _ _ (bt2 _ _ hmw.symm (bt1 _ _ hmw.symm hm1))
  have hw3 := hw2.same sm3
  generalize upd H2 p (.tup [.int b, .int (1 + (s0 : Int))]) = H3 at bt3 hm3 hw3
  have hb' : b < 13 := by omega
  have hs' : s0 < 12 := by omega
  refine ⟨_, rfl, _, rfl, by omega, by omega, fun D hD => lc_gen (K := K) walk_range0 (fun _ H' => Same H3 H') (fun j y H' => y = .str (nameAt b s0 j)) ?_ (Same.new hD) (fun i H' a b hI _ => Same.mut hI hD) (fun _ _ _ _ _ h => h) (fun _ _ hI => trivial) ?_ ?_⟩
  · have : ((many : Int)).toNat = many := by omega
    rw [this]
    exact Nat.lt_of_le_of_lt hm (by decide)
  · rintro j y H4 H5 Q2 hj hI ⟨rfl, rfl⟩ c
    have ei : (((b : Int) + (1 + (s0 : Int)) * (j : Int)) % 13) = (((b + (s0 + 1) * j) % 13 : Nat) : Int) := by
      rw [Int.natCast_emod, Int.natCast_add, Int.natCast_mul, Int.natCast_add, Int.add_comm 1]
      rfl
    refine ⟨rfl, _, rfl, _, rfl, _, rfl, _, rfl, _, _, rfl, rfl, .inl ⟨by omega, by omega⟩, _, _, rfl, rfl, .inl ⟨_, rfl, _, _, rfl, rfl, by show (0 : Int) < 13; decide, m, _, _, .str (nameAt b s0 j), rfl, rfl, SqL.of (hI _ _ hm3), ?_, c _ _ hI Sk.refl (fun a e => e) rfl⟩⟩
    show atI (MENU.map V.str) (((b : Int) + (1 + (s0 : Int)) * (j : Int)) % 13) = _
    rw [ei]
    refine atI_nat ?_
    rw [List.getElem?_map, (nameAt_mem b s0 j).1]
    rfl
  · intro H4 ys hI hyl hy hDD
    have em : ((many : Int)).toNat = many := by omega
    have ey : ys = (namesOf b s0 many).map V.str := by
      refine List.ext_getElem? fun j => ?_
      unfold namesOf
      by_cases hj : j < many
      · rw [List.getElem?_eq_getElem (by omega), hy j _ (List.getElem?_eq_getElem (by omega)), List.getElem?_map, List.getElem?_map, List.getElem?_range hj] <;> rfl
      · rw [List.getElem?_eq_none (by omega), List.getElem?_eq_none (by rw [List.length_map, List.length_map, List.length_range]; omega)]
    refine q D H4 b s0 hb' hs' (bt3.trans (But.of hI)) (hw3.same hI) (hw3.no bt3 hD) (by rw [hDD, ey])
end
end Dl
set_option Elab.async false
set_option linter.all false
set_option maxRecDepth 100000
set_option maxHeartbeats 4000000
set_option pp.maxSteps 400
namespace Dl
open PySem PySem.Spec PyProof.Rows L2 He
theorem But.mut {a b : Addr} {H H1 : Hp} {o : HO} (x : But a H H1) (h : H b = none) : But a H (L2.upd H1 b o) := fun c u n e => by
  rw [L2.upd_ne (ne_of_none e h)]
  exact x c u n e
theorem WellAt.mut {H : Hp} {wl b : Addr} {o : HO} (h : WellAt H wl) (n : wl ≠ b) : WellAt (upd H b o) wl := let ⟨g, s, c, e, r⟩ := h; ⟨g, s, c, by rw [upd_ne n]; exact e, r⟩
theorem ints_of {P : Int → Prop} : ∀ {ys : List V}, (∀ (i : Nat) y, ys[i]? = some y → ∃ n, y = .int n ∧ P n) → ∃ fs : List Int, ys = fs.map V.int ∧ ∀ n ∈ fs, P n
  | [], _ => ⟨[], rfl, fun _ h => by cases h⟩
  | y :: ys, h => by
    obtain ⟨n, e, p⟩ := h 0 y rfl
    obtain ⟨fs, e2, p2⟩ := ints_of (ys := ys) fun i z hz => h (i + 1) z hz
    refine ⟨n :: fs, by rw [e, e2] <;> rfl, fun m hm => ?_⟩
    rcases List.mem_cons.mp hm with rfl | hm
    · exact p
    · exact p2 m hm
theorem cutV_but (xs : List V) : cutV xs none (some (-1)) = xs.dropLast := by
  unfold cutV
  rw [HT.sIx_none]
  have e : HT.sIx xs.length xs.length (some (-1)) = xs.length - 1 := by
    show (if (-1 : Int) < 0 then ((-1 : Int) + (xs.length : Int)).toNat else min (-1 : Int).toNat xs.length) = _
    rw [if_pos (by decide)]
    omega
  rw [e, List.drop_zero, Nat.sub_zero, List.dropLast_eq_take]
theorem sum_nn : ∀ {l : List Int}, (∀ n ∈ l, 0 ≤ n) → 0 ≤ l.sum
  | [], _ => Int.le_refl _
  | a :: l, h => by
    rw [List.sum_cons]
    have h1 := h a List.mem_cons_self
    have h2 := sum_nn fun n hn => h n (List.mem_cons_of_mem _ hn)
    omega
theorem sum_le {c : Int} : ∀ {l : List Int}, (∀ n ∈ l, n ≤ c) → l.sum ≤ c * l.length
  | [], _ => by simp
  | a :: l, h => by
    rw [List.sum_cons, List.length_cons]
    have h1 := h a List.mem_cons_self
    have h2 := sum_le (l := l) fun n hn => h n (List.mem_cons_of_mem _ hn)
    have h3 : c * ((l.length + 1 : Nat) : Int) = c * l.length + c := by
      rw [Int.natCast_add, Int.mul_add]
      simp
    omega
theorem sum_app : ∀ (l m : List Int), (l ++ m).sum = l.sum + m.sum
  | [], m => (Int.zero_add _).symm
  | a :: l, m => by
    rw [List.cons_append, List.sum_cons, List.sum_cons, sum_app l m]
    omega
theorem sum_zeros : ∀ k : Nat, (List.replicate k (0 : Int)).sum = 0
  | 0 => rfl
  | k + 1 => by
    rw [List.replicate_succ, List.sum_cons, sum_zeros k]
    rfl
theorem sum_last {l : List Int} (h : l ≠ []) : l.sum = l.dropLast.sum + l.getLast h := by
  conv => lhs; rw [← List.dropLast_concat_getLast h]
  rw [sum_app]
  simp
def sp_l_loads (K : PySem.W.Frag) : Sp := fun vs H Q _ => ∃ (wl : Addr) (most : Nat), vs = [.ref wl, .int most] ∧ WellAt H wl ∧ 1 ≤ most ∧ most ≤ 9 ∧
  ∀ p ws H', But wl H H' → WellAt H' wl → SqT K H' p (ws.map V.int) → WOk ws → ws.length ≤ most → Q (.ref p) H'
section
variable {P : Program} {w : World} {K : PySem.W.Frag} {mg : Str → Option Value} {base : Heap}
theorem ok_l_loads (W : Tp K mg) : Cal P w K mg base CX0 3 "_law_loads" (sp_l_loads K) := by
  refine ⟨fok_mk (f_l_loads W) sc_l_loads (fun vs H Q E h => by
    obtain ⟨wl, most, rfl, hw, hm1, hm9, q⟩ := h
    rfl) (fun _ _ _ _ _ _ us hl => match us, hl with | [_, _], _ => rfl) (fun f cdv A outer s H vs Q E hr h => ?_), g_l_loads W⟩
  obtain ⟨wl, most, rfl, hw, hm1, hm9, q⟩ := h
  refine ⟨_, (pss_cons (ps_par (i := 2) (j := 3) (by rfl) sc_l_loads.nd rfl rfl (by decide) rfl rfl (pa_cons (pe_op op_add pe_int (pk (ok_l_dip W) hr pass0 (pa_cons (pv 0) (pa_cons (pv 1) pa_nil)))) (pa_cons (pk (ok_l_dip W) hr pass0 (pa_cons (pv 0) (pa_cons pe_int pa_nil))) pa_nil)) (by rfl))
      (pss_cons (ps_if (pt_cmpR op_eq (pv 3) pe_int (nomark _)) (pss_one (ps_ret (pe_callTy (r := rTupOf K) call_tuple_of (by rfl) (n_tuple W) (by decide +kernel) (pa_cons (pe_op op_cat (pe_op op_rep (pe_lst (pa_cons pe_int pa_nil)) (pe_op op_sub (pv 2) pe_int)) (pe_lst (pa_cons (pe_op op_add pe_int (pk (ok_l_dip W) hr pass0 (pa_cons (pv 0) (pa_cons pe_int pa_nil)))) pa_nil))) pa_nil))))
      pss_nil)
      (pss_cons (ps_setLc (i := 4) (own := [("_law_k", 5)]) (g := gName 5) (by rfl) sc_l_loads.nd rfl rfl (sw_true rfl rfl rfl (by decide +kernel)) (pi_range1 (by rfl) (n_range W) (pa_cons (pv 2) pa_nil)) (blkOk_by (own := [("_law_k", 5)]) (N := N_l_loads) (sc := defScope s_l_loads) (by decide +kernel)) (fun _ _ _ _ _ => (pg_name (i := 5) sc_l_loads.nd rfl (by first | exact Or.inl rfl | exact Or.inr rfl))) (fun _ _ _ _ _ => pts_nil) (fun _ _ _ _ _ => (pk (ok_l_from W) hr pass0 (pa_cons (pv 0) (pa_cons (pe_lst (pa_cons pe_int (pa_cons pe_int (pa_cons pe_int (pa_cons pe_int (pa_cons pe_int (pa_cons (pk (ok_l_dip W) hr pass0 (pa_cons (pv 0) (pa_cons pe_int pa_nil))) pa_nil))))))) pa_nil)))))
      (C8.pss_cut (ps_if (pt_cmpR op_eq (pv 3) pe_int (nomark _)) (pss_one (ps_asg (pe_op op_sub pe_int (pe_callB (r := rSum K) (cr_sum rfl) (by rfl) (n_sum W) (by decide +kernel) (pa_cons (pe_slice (r := rSlL K) sl_list (pv 4) po_none (po_some (pe_un un_neg pe_int))) pa_nil))) (pg_sub (pv 4) (pe_un un_neg pe_int) set_list)))
      pss_nil)
      (pss_one (ps_ret (pe_ifExp (pt_cmpR op_gt (pe_callB (r := rSum K) (cr_sum rfl) (by rfl) (n_sum W) (by decide +kernel) (pa_cons (pv 4) pa_nil)) pe_int (nomark _)) (pe_callTy (r := rTupOf K) call_tuple_of (by rfl) (n_tuple W) (by decide +kernel) (pa_cons (pv 4) pa_nil)) (pe_callTy (r := rTupOf K) call_tuple_of (by rfl) (n_tuple W) (by decide +kernel) (pa_cons (pe_op op_cat (pe_slice (r := rSlL K) sl_list (pv 4) po_none (po_some (pe_un un_neg pe_int))) (pe_lst (pa_cons pe_int pa_nil))) pa_nil))))))))), ?_⟩
  refine ⟨_, rfl, _, rfl, wl, most, rfl, hw, by omega, by omega, fun s1 H1 hs1 bt1 hw1 => ?_⟩
  refine ⟨_, _, rfl, rfl, _, rfl, wl, 6, rfl, hw1, by decide, by decide, fun wy H2 hwy bt2 hw2 => ⟨_, _, rfl, ?_⟩⟩
  have hs : s1 < most := by omega
  have bt12 : But wl H H2 := bt1.trans bt2
  refine ⟨_, rfl, rfl, _, rfl, ite2 (fun h0 => ?_) (fun h0 => ?_)⟩
  · -- one alone
    refine ⟨by show 1 ≤ sizeLine; decide, fun z1 nz1 => ?_⟩
    refine ⟨_, rfl, _, _, rfl, rfl, z1, _, _, rfl, rfl, upd_same, by show -(2 ^ 63) ≤ _; omega, by show _ < 2 ^ 63; omega, ?_, fun z2 nz2 => ?_⟩
    · show 1 * (1 + (s1 : Int) - 1).toNat ≤ sizeLine
      exact Nat.le_trans (show 1 * (1 + (s1 : Int) - 1).toNat ≤ 9 by omega) (by decide)
    have e1 : (1 + (s1 : Int) - 1).toNat = s1 := by omega
    rw [e1, rep_flat]
    have sm2 : Same H2 (upd (upd H2 z1 (.lst [.int 0])) z2 (.lst (List.replicate s1 (.int 0)))) := (Same.new nz1).trans (Same.new nz2)
    have ez2 : (upd (upd H2 z1 (.lst [.int 0])) z2 (.lst (List.replicate s1 (.int 0)))) z2 = some (.lst (List.replicate s1 (.int 0))) := upd_same
    have nz2H : H2 z2 = none := (Same.new nz1).no nz2
    generalize upd (upd H2 z1 (.lst [.int 0])) z2 (.lst (List.replicate s1 (.int 0))) = H3 at sm2 ez2
    refine ⟨_, rfl, wl, 1000, rfl, hw2.same sm2, by decide, by decide, fun k H4 hk bt4 hw4 => ?_⟩
    refine ⟨_, _, rfl, rfl, by show 1 ≤ sizeLine; decide, fun z3 nz3 => ?_⟩
    have ez4 : H4 z2 = some (.lst (List.replicate s1 (.int 0))) := bt4 _ _ (hw2.ne nz2H).symm ez2
    have ne23 : z2 ≠ z3 := ne_of_none ez4 nz3
    refine ⟨z2, z3, _, _, rfl, rfl, by rw [upd_ne ne23]; exact ez4, upd_same, ?_, fun z4 nz4 => ?_⟩
    · rw [List.length_replicate]
      exact Nat.le_trans (show s1 + 1 ≤ 9 by omega) (by decide)
    refine ⟨z4, _, rfl, .inl ⟨SqL.of upd_same, fun z5 nz5 => ?_⟩⟩
    have e2 : (List.replicate s1 (V.int 0) ++ [V.int (1 + (k : Int))]) = (List.replicate s1 (0 : Int) ++ [1 + (k : Int)]).map V.int := by
      rw [List.map_append, List.map_replicate] <;> rfl
    have sm5 : Same H4 (upd (upd (upd H4 z3 (.lst [.int (1 + (k : Int))])) z4 (.lst (List.replicate s1 (V.int 0) ++ [V.int (1 + (k : Int))]))) z5 (.tup (List.replicate s1 (V.int 0) ++ [V.int (1 + (k : Int))]))) := (Same.new nz3).trans ((Same.new nz4).trans (Same.new nz5))
    refine q z5 (List.replicate s1 (0 : Int) ++ [1 + (k : Int)]) _ (bt12.trans ((But.of sm2).trans (bt4.trans (But.of sm5)))) (hw4.same sm5) (SqT.of (by rw [← e2]; exact upd_same)) ⟨?_, ?_, fun n hn => ?_, ?_, ?_⟩ ?_
    · rw [List.length_append]; show 1 ≤ _ + 1; omega
    · rw [List.length_append, List.length_replicate]; show s1 + 1 ≤ 9; omega
    · rcases List.mem_append.mp hn with h | h
      · rw [List.eq_of_mem_replicate h]; omega
      · have := List.mem_singleton.mp h; omega
    · rw [sum_app, sum_zeros]; show 1 ≤ 0 + (1 + (k : Int) + 0); omega
    · rw [sum_app, sum_zeros]; show 0 + (1 + (k : Int) + 0) ≤ 1000; omega
    · rw [List.length_append, List.length_replicate]; show s1 + 1 ≤ most; omega
  -- small ones
  refine ⟨_, rfl, 1 + (s1 : Int), rfl, by omega, by omega, fun D hD => lc_gen (K := K) walk_range0 (fun _ H' => But wl H2 H' ∧ WellAt H' wl) (fun j y H' => ∃ n : Int, y = .int n ∧ (0 ≤ n ∧ n ≤ 9)) ?_ ⟨But.of (Same.new hD), hw2.mut (hw2.ne hD)⟩ (fun i H' a b hI _ => ⟨But.mut hI.1 hD, hI.2.mut (hw2.ne hD)⟩) (fun _ _ _ _ _ h => h) (fun _ _ hI => trivial) ?_ ?_⟩
  · have : (1 + (s1 : Int)).toNat = s1 + 1 := by omega
    rw [this]
    exact Nat.lt_of_le_of_lt (show s1 + 1 ≤ 9 by omega) (by decide)
  · rintro j y H4 H5 Q2 hj hI ⟨rfl, rfl⟩ c
    refine ⟨rfl, _, rfl, _, rfl, wl, 10, rfl, hI.2, by decide, by decide, fun k5 H6 hk5 bt6 hw6 => ?_⟩
    refine ⟨by show 6 ≤ sizeLine; decide, fun d nd => ?_⟩
    refine ⟨wl, d, _, rfl, hw6.mut (hw6.ne nd), upd_same, (hw6.ne nd).symm, by show 1 ≤ 6; decide, by show 6 < 1000; decide, fun kx x H7 ex bt7 hw7 => ?_⟩
    have bt47 : But wl H5 H7 := bt6.trans ((But.of (Same.new nd)).trans bt7)
    refine c x H7 ⟨hI.1.trans bt47, hw7⟩ (hI.2.sk bt47) (fun a e => bt47 _ _ (hw2.ne hD).symm e) ?_
    have hx := List.mem_of_getElem? ex
    simp only [List.mem_cons, List.not_mem_nil, or_false] at hx
    rcases hx with rfl | rfl | rfl | rfl | rfl | rfl
    · exact ⟨0, rfl, by decide, by decide⟩
    · exact ⟨1, rfl, by decide, by decide⟩
    · exact ⟨1, rfl, by decide, by decide⟩
    · exact ⟨2, rfl, by decide, by decide⟩
    · exact ⟨3, rfl, by decide, by decide⟩
    · exact ⟨k5, rfl, by omega, by omega⟩
  intro H3 ys hI hyl hy hDD
  obtain ⟨fs, rfl, hfs⟩ := ints_of (P := fun n => 0 ≤ n ∧ n ≤ 9) hy
  obtain ⟨bt3, hw3⟩ := hI
  have hfl : fs.length = s1 + 1 := by
    rw [List.length_map] at hyl
    omega
  have hfne : fs ≠ [] := fun z => by rw [z] at hfl; simp at hfl
  have nD : wl ≠ D := hw2.ne hD
  have fsum : fs.sum ≤ 9 * fs.length := sum_le fun n hn => (hfs n hn).2
  refine ⟨fun σ' H' => ∃ ws : List Int, σ' = [some (.ref wl), some (.int most), some (.int (1 + (s1 : Int))), some (.int wy), some (.ref D), none] ∧ But wl H2 H' ∧ WellAt H' wl ∧ H' D = some (.lst (ws.map V.int)) ∧ ws.length = s1 + 1 ∧ (∀ n ∈ ws, 0 ≤ n ∧ n ≤ 1000) ∧ ws.sum ≤ 1000, ?_, ?_⟩
  · refine ⟨_, rfl, rfl, _, rfl, ite2 (fun h1 => ?_) (fun h1 => ?_)⟩
    · refine ⟨_, rfl, _, rfl, _, rfl, D, _, rfl, SqL.of hDD, fun p np => ?_⟩
      have smp : Same H3 (upd H3 p (.lst (cutV (fs.map V.int) none (some (-1))))) := Same.new np
      have ec : cutV (fs.map V.int) none (some (-1)) = fs.dropLast.map V.int := by rw [cutV_but, List.map_dropLast]
      refine ⟨p, fs.dropLast, rfl, SqL.of (by rw [← ec]; exact upd_same), _, _, rfl, rfl, _, rfl, _, rfl, D, _, _, s1, rfl, rfl, smp _ _ hDD, ?_, ?_⟩
      · rw [List.length_map, hfl]
        unfold ixN
        rw [if_neg (by decide), if_pos (by omega)]
        congr 1
        omega
      · have hdl : ∀ n ∈ fs.dropLast, 0 ≤ n ∧ n ≤ 9 := fun n hn => hfs n ((List.dropLast_subset _ hn))
        have dl0 : 0 ≤ fs.dropLast.sum := sum_nn fun n hn => (hdl n hn).1
        have dl1 : fs.dropLast.sum ≤ 9 * fs.dropLast.length := sum_le fun n hn => (hdl n hn).2
        have dll : fs.dropLast.length = s1 := by rw [List.length_dropLast]; omega
        have elast : fs[s1]? = some (fs.getLast hfne) := by
          rw [List.getLast_eq_getElem, List.getElem?_eq_getElem (by omega)]
          congr 2
          omega
        refine ⟨fs.set s1 (1000 - fs.dropLast.sum), rfl, But.mut (bt3.trans (But.of smp)) hD, (hw3.same smp).mut nD, by rw [upd_same, List.map_set], by rw [List.length_set]; exact hfl, fun n hn => ?_, ?_⟩
        · rcases List.mem_or_eq_of_mem_set hn with h | h
          · have := hfs n h; omega
          · omega
        · rw [sum_set elast, sum_last hfne]
          omega
    · exact ⟨fs, rfl, bt3, hw3, hDD, hfl, fun n hn => ⟨(hfs n hn).1, by have := (hfs n hn).2; omega⟩, by omega⟩
  rintro σ' H4 ⟨ws, rfl, bt4, hw4, hD4, hwl, hws, hsum⟩
  have btH4 : But wl H H4 := bt12.trans bt4
  have hwne : ws ≠ [] := fun z => by rw [z] at hwl; simp at hwl
  refine ⟨_, rfl, D, ws, rfl, SqL.of hD4, _, _, rfl, rfl, _, rfl, ite2 (fun h => ?_) (fun h => ?_)⟩
  · have h' : 0 < ws.sum := of_decide_eq_true h
    refine ⟨_, rfl, D, _, rfl, .inl ⟨SqL.of hD4, fun p np => ?_⟩⟩
    exact q p ws _ (btH4.trans (But.of (Same.new np))) (hw4.same (Same.new np)) (SqT.of upd_same) ⟨by omega, by omega, hws, by omega, hsum⟩ (by omega)
  · have h' : ¬ 0 < ws.sum := fun z => h (decide_eq_true z)
    have hnn : 0 ≤ ws.sum := sum_nn fun n hn => (hws n hn).1
    have e0 : ws.dropLast.sum = 0 := by
      have h1 := sum_last hwne
      have h2 : 0 ≤ ws.dropLast.sum := sum_nn fun n hn => (hws n ((List.dropLast_subset _ hn))).1
      have h3 := (hws _ (List.getLast_mem hwne)).1
      omega
    refine ⟨_, rfl, _, rfl, _, rfl, D, _, rfl, SqL.of hD4, fun p np => ?_⟩
    have smp : Same H4 (upd H4 p (.lst (cutV (ws.map V.int) none (some (-1))))) := Same.new np
    refine ⟨by show 1 ≤ sizeLine; decide, fun p1 np1 => ?_⟩
    have nepp : p ≠ p1 := ne_of_none upd_same np1
    refine ⟨p, p1, _, _, rfl, rfl, by rw [upd_ne nepp]; exact upd_same, upd_same, ?_, fun p2 np2 => ?_⟩
    · have := cutV_length (ws.map V.int) none (some (-1))
      rw [List.length_map] at this
      exact Nat.le_trans (show _ + 1 ≤ 11 by omega) (by decide)
    refine ⟨p2, _, rfl, .inl ⟨SqL.of upd_same, fun p3 np3 => ?_⟩⟩
    have ec : cutV (ws.map V.int) none (some (-1)) ++ [V.int 1] = (ws.dropLast ++ [1]).map V.int := by rw [cutV_but, List.map_append, List.map_dropLast] <;> rfl
    have sm3 := smp.trans ((Same.new (o := .lst [.int 1]) np1).trans ((Same.new np2).trans (Same.new (o := .tup (cutV (ws.map V.int) none (some (-1)) ++ [V.int 1])) np3)))
    have ldl : ws.dropLast.length = s1 := by rw [List.length_dropLast]; omega
    refine q p3 (ws.dropLast ++ [1]) _ (btH4.trans (But.of sm3)) (hw4.same sm3) (SqT.of (by rw [← ec]; exact upd_same)) ⟨?_, ?_, fun n hn => ?_, ?_, ?_⟩ ?_
    · rw [List.length_append]; show 1 ≤ _ + 1; omega
    · rw [List.length_append]; show _ + 1 ≤ 9; omega
    · rcases List.mem_append.mp hn with h | h
      · exact hws n (List.dropLast_subset _ h)
      · have := List.mem_singleton.mp h; omega
    · rw [sum_app, e0]; show (1 : Int) ≤ 0 + (1 + 0); omega
    · rw [sum_app, e0]; show (0 : Int) + (1 + 0) ≤ 1000; omega
    · rw [List.length_append]; show _ + 1 ≤ most; omega
end
end Dl
set_option Elab.async false
set_option linter.all false
set_option maxRecDepth 100000
set_option maxHeartbeats 4000000
set_option pp.maxSteps 400
namespace Dl
open PySem PySem.Spec PyProof.Rows L2 He
/-- what the law has drawn: the kinds so far -/
structure Drawn (b s : Nat) (pr : Int) (ks : List Kind) (i : Nat) : Prop where
  len : ks.length = i
  names : ∀ (m : Nat) k, ks[m]? = some k → k.name = nameAt b s m
  lo : 0 ≤ pr
  hi : pr ≤ 190000 * (i : Int)
  below : ∀ k ∈ ks, k.price ≤ pr
  each : ∀ k ∈ ks, KindOk k
  apart : ks.Pairwise fun a b => a.name ≠ b.name ∧ a.price < b.price
theorem Drawn.zero {b s : Nat} : Drawn b s 0 [] 0 := ⟨rfl, fun _ _ h => (by simp at h), Int.le_refl _, Int.le_refl _, fun _ h => (nomatch h), fun _ h => (nomatch h), .nil⟩
theorem Drawn.step {b s i : Nat} {pr d : Int} {ks : List Kind} {ws : List Int} (h : Drawn b s pr ks i) (hb : b < 13) (hs : s < 12) (hi : i < 5) (hw : WOk ws) (d0 : 0 ≤ d) (d1 : d < 190000) : Drawn b s (pr + 1 + d) (ks ++ [⟨nameAt b s i, pr + 1 + d, ws⟩]) (i + 1) := by
  obtain ⟨hl, hn, hlo, hhi, hbe, hea, hap⟩ := h
  have hm := (nameAt_mem b s i).2
  refine ⟨by rw [List.length_append, hl] <;> rfl, fun m k e => ?_, by omega, by omega, fun k hk => ?_, fun k hk => ?_, ?_⟩
  · by_cases hmi : m < ks.length
    · rw [List.getElem?_append_left hmi] at e
      exact hn m k e
    · have hm2 : m = i := by
        have := (List.getElem?_eq_some_iff.mp e).1
        rw [List.length_append] at this
        have : m < ks.length + 1 := this
        omega
      subst hm2
      rw [List.getElem?_append_right (by omega), hl, Nat.sub_self] at e
      cases e
      rfl
  · rcases List.mem_append.mp hk with h | h
    · have := hbe k h; omega
    · rw [List.mem_singleton.mp h]; exact Int.le_refl _
  · rcases List.mem_append.mp hk with h | h
    · exact hea k h
    · rw [List.mem_singleton.mp h]
      exact ⟨nameB_ok (menu_names _ hm), menu_plan _ hm, by show 1 ≤ pr + 1 + d; omega, by show pr + 1 + d ≤ 1000000; omega, hw⟩
  · refine List.pairwise_append.mpr ⟨hap, List.pairwise_singleton _ _, fun a ha c hc => ?_⟩
    rw [List.mem_singleton.mp hc]
    obtain ⟨m, hm, em⟩ := List.mem_iff_getElem.mp ha
    have e2 := hn m a (by rw [List.getElem?_eq_getElem hm, em])
    have := hbe a ha
    exact ⟨by rw [e2]; exact names_apart hb hs (by omega) hi, by show a.price < pr + 1 + d; omega⟩
theorem Drawn.ok {b s i : Nat} {pr : Int} {ks : List Kind} (h : Drawn b s pr ks i) (h1 : 1 ≤ i) (h5 : i ≤ 5) : KsOk ks := ⟨by rw [h.len]; exact h1, by rw [h.len]; exact h5, h.each, h.apart⟩
def sp_l_rows (K : PySem.W.Frag) : Sp := fun vs H Q _ => ∃ (wl : Addr) (many most : Nat), vs = [.ref wl, .int many, .int most] ∧ WellAt H wl ∧ 1 ≤ many ∧ many ≤ 5 ∧ 1 ≤ most ∧ most ≤ 9 ∧
  ∀ v ks H', But wl H H' → WellAt H' wl → Dt K H' v (encKs ks) → KsOk ks → ks.length = many → Q v H'
def sp_l_case (K : PySem.W.Frag) : Sp := fun vs H Q _ => ∃ (wl : Addr) (room many most : Nat), vs = [.ref wl, .int room, .int many, .int most] ∧ WellAt H wl ∧ room ≤ 12 ∧ 1 ≤ many ∧ many ≤ 5 ∧ 1 ≤ most ∧ most ≤ 9 ∧
  ∀ p (n : Nat) v ks H', But wl H H' → WellAt H' wl → SqT K H' p [.int n, v] → n ≤ room → Dt K H' v (encKs ks) → KsOk ks → ks.length ≤ many → Q (.ref p) H'
theorem Dt.ofKind {K : PySem.W.Frag} {H : Hp} {p w : Addr} {k : Kind} (s : SqT K H p [.str k.name, .int k.price, .ref w]) (t : SqT K H w (k.ws.map V.int)) : Dt K H (.ref p) (encK k) :=
  Dt.tup s (.cons (.str _) (.cons (.int _) (.cons (Dt.tup t (DtAll.ints _)) .nil)))
section
variable {P : Program} {w : World} {K : PySem.W.Frag} {mg : Str → Option Value} {base : Heap}
theorem ok_l_rows (W : Tp K mg) : Cal P w K mg base CX0 4 "_law_rows" (sp_l_rows K) := by
  refine ⟨fok_mk (f_l_rows W) sc_l_rows (fun vs H Q E h => by
    obtain ⟨wl, many, most, rfl, hw, h1, h5, hm1, hm9, q⟩ := h
    rfl) (fun _ _ _ _ _ _ us hl => match us, hl with | [_, _, _], _ => rfl) (fun f cdv A outer s H vs Q E hr h => ?_), g_l_rows W⟩
  obtain ⟨wl, many, most, rfl, hw, h1, h5, hm1, hm9, q⟩ := h
  refine ⟨_, (pss_cons (ps_par (i := 3) (j := 4) (by rfl) sc_l_rows.nd rfl rfl (by decide) rfl rfl (pa_cons (pe_lst pa_nil) (pa_cons pe_int pa_nil)) (by rfl))
      (pss_cons (ps_for PassesOwn.never rfl (pi_list (pk (ok_l_words W) hr pass0 (pa_cons (pv 0) (pa_cons (pv 1) pa_nil)))) (pg_name (i := 5) sc_l_rows.nd rfl (by first | exact Or.inl rfl | exact Or.inr rfl))
      (pss_cons (ps_set (i := 4) sc_l_rows.nd rfl (by first | exact Or.inl rfl | exact Or.inr rfl) (pe_op op_add (pe_op op_add (pv 4) pe_int) (pk (ok_l_from W) hr pass0 (pa_cons (pv 0) (pa_cons (pe_lst (pa_cons pe_int (pa_cons pe_int (pa_cons pe_int (pa_cons (pk (ok_l_dip W) hr pass0 (pa_cons (pv 0) (pa_cons pe_int pa_nil))) (pa_cons (pk (ok_l_dip W) hr pass0 (pa_cons (pv 0) (pa_cons pe_int pa_nil))) pa_nil)))))) pa_nil)))))
      (pss_one (ps_expr (pe_bm PySem.F.plainAttrs_list PySem.F.slot_list_append PySem.F.type_list_append mt_append (pv 3) (pa_cons (pe_tup (pa_cons (pv 5) (pa_cons (pv 4) (pa_cons (pk (ok_l_loads W) hr pass0 (pa_cons (pv 0) (pa_cons (pv 2) pa_nil))) pa_nil)))) pa_nil))))))
      (pss_one (ps_ret (pe_callTy (r := rTupOf K) call_tuple_of (by rfl) (n_tuple W) (by decide +kernel) (pa_cons (pv 3) pa_nil)))))), ?_⟩
  refine ⟨by show 0 ≤ sizeLine; decide, fun f nf => ?_⟩
  refine ⟨_, _, rfl, _, rfl, _, rfl, wl, many, rfl, hw.same (Same.new nf), h5, fun D H1 b s0 hb hs bt1 hw1 nD hD => ?_⟩
  have neDf : D ≠ f := (ne_of_none upd_same nD).symm
  have newl : wl ≠ f := hw.ne nf
  have nD0 : H D = none := (Same.new nf).no nD
  have newD : wl ≠ D := hw.ne nD0
  have hf1 : H1 f = some (.lst []) := bt1 _ _ newl.symm upd_same
  have hbt1 : But wl H H1 := (But.of (Same.new nf)).trans bt1
  refine ⟨D, rfl, ⟨_, SqL.of hD⟩, for_it walk_list (fun i σ H' => ∃ (pr : Int) (ks : List Kind) (vs : List V) (y5 : Option V), σ = [some (.ref wl), some (.int many), some (.int most), some (.ref f), some (.int pr), y5] ∧ But wl H H' ∧ WellAt H' wl ∧ H' D = some (.lst ((namesOf b s0 many).map V.str)) ∧ H' f = some (.lst vs) ∧ DtAll K H' vs (ks.map encK) ∧ Drawn b s0 pr ks i) ⟨0, [], [], none, rfl, hbt1, hw1, hD, hf1, .nil, .zero⟩ (fun _ _ _ _ h => by obtain ⟨_, _, _, _, _, _, _, h, _⟩ := h; exact SqL.of h) ?_ ?_⟩
  · rintro i x σ Hx H2 hi ⟨pr, ks, vs, y5, rfl, bt, hwx, hDx, hfx, hvs, dr⟩ ⟨rfl, hx⟩
    have hln : ((namesOf b s0 many).map V.str).length = many := by unfold namesOf; rw [List.length_map, List.length_map, List.length_range]
    have him : i < many := by rw [← hln]; exact hi
    have ex : x = .str (nameAt b s0 i) := by
      unfold namesOf at hx
      rw [List.getElem?_map, List.getElem?_map, List.getElem?_range him] at hx
      exact (Option.some.inj hx).symm
    subst ex
    have hi5 : i < 5 := Nat.lt_of_lt_of_le him h5
    refine ⟨_, rfl, _, _, rfl, rfl, _, rfl, _, rfl, wl, 100, rfl, hwx, by decide, by decide, fun k1 Ha hk1 bta hwa => ?_⟩
    refine ⟨_, rfl, wl, 190000, rfl, hwa, by decide, by decide, fun k2 Hb hk2 btb hwb => ⟨by show 5 ≤ sizeLine; decide, fun l nl => ?_⟩⟩
    refine ⟨wl, l, _, rfl, hwb.same (Same.new nl), upd_same, (hwb.ne nl).symm, by show 1 ≤ 5; decide, by show 5 < 1000; decide, fun kx x Hc ex btc hwc => ?_⟩
    have btHc : But wl H2 Hc := bta.trans (btb.trans ((But.of (Same.new nl)).trans btc))
    have hx := List.mem_of_getElem? ex
    simp only [List.mem_cons, List.not_mem_nil, or_false] at hx
    have hd : ∃ d : Int, x = .int d ∧ 0 ≤ d ∧ d < 190000 := by
      rcases hx with rfl | rfl | rfl | rfl | rfl
      · exact ⟨0, rfl, by decide, by decide⟩
      · exact ⟨1, rfl, by decide, by decide⟩
      · exact ⟨9, rfl, by decide, by decide⟩
      · exact ⟨k1, rfl, by omega, by omega⟩
      · exact ⟨k2, rfl, by omega, by omega⟩
    obtain ⟨d, rfl, hd0, hd1⟩ := hd
    have efc : Hc f = some (.lst vs) := btHc _ _ newl.symm hfx
    refine ⟨_, _, rfl, rfl, _, rfl, .inl ⟨rfl, _, SqL.of efc⟩, _, rfl, _, rfl, _, rfl, _, rfl, wl, most, rfl, hwc, hm1, hm9, fun p ws Hd btd hwd sws wok mst => ⟨by show 3 ≤ sizeLine; decide, fun t nt => ?_⟩⟩
    have smt : Same Hd (upd Hd t (.tup [.str (nameAt b s0 i), .int (pr + 1 + d), .ref p])) := Same.new nt
    have btE : But wl H2 (upd Hd t (.tup [.str (nameAt b s0 i), .int (pr + 1 + d), .ref p])) := btHc.trans (btd.trans (But.of smt))
    have eft : (upd Hd t (.tup [.str (nameAt b s0 i), .int (pr + 1 + d), .ref p])) f = some (.lst vs) := btE _ _ newl.symm hfx
    have dk : Dt K (upd Hd t (.tup [.str (nameAt b s0 i), .int (pr + 1 + d), .ref p])) (.ref t) (encK ⟨nameAt b s0 i, pr + 1 + d, ws⟩) := Dt.ofKind (SqT.of upd_same) (smt.seqT sws)
    have hwt := hwd.same smt
    generalize upd Hd t (.tup [.str (nameAt b s0 i), .int (pr + 1 + d), .ref p]) = He at btE eft dk hwt
    have hvl : vs.length = i := by rw [hvs.len, List.length_map, dr.len]
    refine ⟨f, vs, _, rfl, rfl, eft, Nat.lt_of_lt_of_le (show vs.length < 5 by omega) (by decide), ?_⟩
    have sk : Sk K He (upd He f (.lst (vs ++ [.ref t]))) := Sk.butL (But.upd But.refl) eft
    refine ⟨_, ks ++ [⟨nameAt b s0 i, pr + 1 + d, ws⟩], vs ++ [.ref t], _, rfl, But.mut (bt.trans btE) nf, hwt.mut newl, ?_, upd_same, ?_, dr.step hb hs hi5 wok hd0 hd1⟩
    · rw [upd_ne neDf]
      exact btE _ _ newD.symm hDx
    · rw [List.map_append]
      exact ((hvs.sk (hwx.sk btE)).sk sk).app (.cons (dk.sk sk) .nil)
  rintro σ Hx ⟨pr, ks, vs, y5, rfl, bt, hwx, hDx, hfx, hvs, dr⟩
  have hln : ((namesOf b s0 many).map V.str).length = many := by unfold namesOf; rw [List.length_map, List.length_map, List.length_range]
  rw [hln] at dr
  refine ⟨_, rfl, f, _, rfl, .inl ⟨SqL.of hfx, fun p np => ?_⟩⟩
  exact q (.ref p) ks _ (bt.trans (But.of (Same.new np))) (hwx.same (Same.new np)) (Dt.tup (SqT.of upd_same) (hvs.same (Same.new np))) (dr.ok h1 h5) dr.len
theorem ok_l_case (W : Tp K mg) : Cal P w K mg base CX0 5 "_law_case" (sp_l_case K) := by
  refine ⟨fok_mk (f_l_case W) sc_l_case (fun vs H Q E h => by
    obtain ⟨wl, room, many, most, rfl, hw, hr12, h1, h5, hm1, hm9, q⟩ := h
    rfl) (fun _ _ _ _ _ _ us hl => match us, hl with | [_, _, _, _], _ => rfl) (fun f cdv A outer s H vs Q E hr h => ?_), g_l_case W⟩
  obtain ⟨wl, room, many, most, rfl, hw, hr12, h1, h5, hm1, hm9, q⟩ := h
  refine ⟨_, (pss_one (ps_ret (pe_tup (pa_cons (pk (ok_l_dip W) hr pass0 (pa_cons (pv 0) (pa_cons (pe_op op_add (pv 1) pe_int) pa_nil))) (pa_cons (pk (ok_l_rows W) hr pass0 (pa_cons (pv 0) (pa_cons (pe_op op_add pe_int (pk (ok_l_dip W) hr pass0 (pa_cons (pv 0) (pa_cons (pv 2) pa_nil)))) (pa_cons (pv 3) pa_nil)))) pa_nil))))), ?_⟩
  refine ⟨_, rfl, _, rfl, _, _, rfl, rfl, wl, (room : Int) + 1, rfl, hw, by omega, by omega, fun n H1 hn bt1 hw1 => ?_⟩
  refine ⟨_, rfl, _, rfl, _, rfl, wl, many, rfl, hw1, by omega, by omega, fun m H2 hm bt2 hw2 => ?_⟩
  refine ⟨_, _, rfl, rfl, _, rfl, wl, 1 + m, most, by rw [Int.natCast_add] <;> rfl, hw2, by omega, by omega, hm1, hm9, fun v ks H3 bt3 hw3 dv ok lk => ?_⟩
  refine ⟨by show 2 ≤ sizeLine; decide, fun p np => ?_⟩
  exact q p n v ks _ (bt1.trans (bt2.trans (bt3.trans (But.of (Same.new np))))) (hw3.same (Same.new np)) (SqT.of upd_same) (by omega) (dv.same (Same.new np)) ok (by omega)
end
end Dl
set_option Elab.async false
set_option linter.all false
set_option maxRecDepth 100000
set_option maxHeartbeats 4000000
set_option pp.maxSteps 400
namespace Dl
open PySem PySem.Spec PyProof.Rows L2 He
theorem bestOf_snoc {l : List Rat} {v : Rat} (h : l ≠ []) : bestOf (l ++ [v]) = mx (bestOf l) v := by
  cases l with
  | nil => exact absurd rfl h
  | cons a l =>
    show (l ++ [v]).foldl mx a = mx (l.foldl mx a) v
    rw [List.foldl_append]
    rfl
theorem mx_le {a b : Rat} (h : a ≤ b) : mx a b = b := by
  unfold mx
  split
  · rfl
  · rename_i g
    exact Rat.le_antisymm h (Rat.not_lt.mp g)
theorem bestOf_up {f : Nat → Rat} (h : ∀ u, f u ≤ f (u + 1)) : ∀ m, bestOf ((List.range (m + 1)).map f) = f m
  | 0 => rfl
  | m + 1 => by
    rw [List.range_succ, List.map_append]
    show bestOf ((List.range (m + 1)).map f ++ [f (m + 1)]) = _
    rw [bestOf_snoc (by simp), bestOf_up h m]
    exact mx_le (h m)
theorem zeros_getD (k i : Nat) : (List.replicate k (0 : Rat)).getD i 0 = 0 := by
  rw [List.getD_eq_getElem?_getD, List.getElem?_replicate]
  split <;> rfl
theorem best_zeros {price : Int} (hp : 0 ≤ price) (n left k : Nat) : bestOf (valsOf price n left (List.replicate k 0)) = ((price * ((min n left : Nat) : Int) : Int) : Rat) := by
  unfold valsOf
  have e : (fun (u : Nat) => ((price * (u : Int) : Int) : Rat) + (List.replicate k (0 : Rat)).getD (left - u) 0) = fun (u : Nat) => ((price * (u : Int) : Int) : Rat) := by
    funext u
    rw [zeros_getD, Rat.add_zero]
  rw [e]
  exact bestOf_up (f := fun (u : Nat) => ((price * (u : Int) : Int) : Rat)) (fun u => Rat.intCast_le_intCast.mpr (Int.mul_le_mul_of_nonneg_left (by omega) hp)) (min n left)
theorem mk_mul_int (w c : Int) (S : Nat) : mkRat w S * (c : Rat) = mkRat (w * c) S := by
  have e : (c : Rat) = mkRat c 1 := (Rat.mkRat_self (c : Rat)).symm
  rw [e, Rat.mkRat_mul_mkRat, Nat.mul_one]
theorem mk_add (a b : Int) {S : Nat} (h : S ≠ 0) : mkRat a S + mkRat b S = mkRat (a + b) S := by
  rw [Rat.mkRat_add_mkRat _ _ h h, ← Int.add_mul, Rat.mkRat_mul_right h]
theorem mk_sub (a b : Int) {S : Nat} (h : S ≠ 0) : mkRat a S - mkRat b S = mkRat (a - b) S := by
  rw [Rat.sub_eq_add_neg, Rat.neg_mkRat, mk_add _ _ h, Int.sub_eq_add_neg]
/-- wishes times places, summed -/
def tot (ws : List Int) (x j : Nat) : List Int := (List.range j).map fun (n : Nat) => ws.getD n 0 * ((min n x : Nat) : Int)
theorem tot_succ (ws : List Int) (x j : Nat) : (tot ws x (j + 1)).sum = (tot ws x j).sum + ws.getD j 0 * ((min j x : Nat) : Int) := by
  unfold tot
  rw [List.range_succ, List.map_append, sum_app]
  simp
theorem cell_zeros {price : Int} {ws : List Int} (hp : 0 ≤ price) (hS : ws.sum.toNat ≠ 0) (x k : Nat) : ∀ j, cellUpto (price, ws) x (List.replicate k 0) j = mkRat (price * (tot ws x j).sum) ws.sum.toNat
  | 0 => by
    show (0 : Rat) = mkRat (price * 0) _
    rw [Int.mul_zero, Rat.zero_mkRat]
  | j + 1 => by
    show cellUpto (price, ws) x (List.replicate k 0) j + chq ws (ws.getD j 0) * bestOf (valsOf price j x (List.replicate k 0)) = _
    rw [cell_zeros hp hS x k j, best_zeros hp, chq, mk_mul_int, mk_add _ _ hS, tot_succ, Int.mul_add]
    congr 2
    rw [← Int.mul_assoc, ← Int.mul_assoc, Int.mul_comm (ws.getD j 0) price]
theorem last_worth {ks : List Kind} {k : Kind} {n x : Nat} (e : ks[ks.length - 1]? = some k) (h1 : 1 ≤ ks.length) (ok : KindOk k) (hx : x ≤ n) : worthQ ks n (ks.length - 1) x = mkRat (k.price * (tot k.ws x k.ws.length).sum) k.ws.sum.toNat := by
  have h2 : (ks.map pw).drop (ks.length - 1) = [pw k] := by
    rw [← List.map_drop, List.drop_eq_getElem_cons (by omega), List.drop_eq_nil_of_le (by omega)]
    obtain ⟨hi, ee⟩ := List.getElem?_eq_some_iff.mp e
    rw [ee]
    rfl
  unfold worthQ
  rw [h2]
  show (rowOf (pw k) (List.replicate (n + 1) 0) n).getD x 0 = _
  unfold rowOf
  rw [List.getD_eq_getElem?_getD, List.getElem?_map, List.getElem?_range (by omega)]
  have := ok.lo
  have := ok.ws.slo
  exact cell_zeros (by omega) (by omega) x (n + 1) k.ws.length
theorem after_worth (ks : List Kind) (n x : Nat) : worthQ ks n ks.length x = 0 := by
  unfold worthQ
  rw [List.drop_eq_nil_of_le (by rw [List.length_map]; exact Nat.le_refl _)]
  exact zeros_getD (n + 1) x
theorem tot_diff (ws : List Int) {x : Nat} (hx : 1 ≤ x) : ∀ j, j ≤ ws.length → (tot ws x j).sum - (tot ws (x - 1) j).sum = ((ws.take j).drop x).sum
  | 0, _ => by simp [tot]
  | j + 1, h => by
    have ih := tot_diff ws hx j (by omega)
    rw [tot_succ, tot_succ, List.take_succ_eq_append_getElem (by omega), List.drop_append, sum_app, ← ih, List.length_take, Nat.min_eq_left (show j ≤ ws.length by omega)]
    have e : ws.getD j 0 = ws[j] := by rw [List.getD_eq_getElem?_getD, List.getElem?_eq_getElem (by omega)] <;> rfl
    rw [e]
    by_cases hj : x ≤ j
    · rw [Nat.sub_eq_zero_of_le hj, Nat.min_eq_right hj, Nat.min_eq_right (by omega)]
      have : ((x : Nat) : Int) = ((x - 1 : Nat) : Int) + 1 := by omega
      rw [this, Int.mul_add]
      simp
      omega
    · rw [Nat.min_eq_left (by omega), Nat.min_eq_left (by omega), List.drop_eq_nil_of_le (by simp; omega)]
      simp
      omega
theorem last_rise {ks : List Kind} {k : Kind} {n x : Nat} (e : ks[ks.length - 1]? = some k) (h1 : 1 ≤ ks.length) (ok : KindOk k) (hx1 : 1 ≤ x) (hx : x ≤ n) : worthQ ks n (ks.length - 1) x - worthQ ks n (ks.length - 1) (x - 1) = mkRat (k.price * (k.ws.drop x).sum) k.ws.sum.toNat := by
  have := ok.ws.slo
  rw [last_worth e h1 ok hx, last_worth e h1 ok (by omega), mk_sub _ _ (by omega), ← Int.mul_sub, tot_diff k.ws hx1 k.ws.length (Nat.le_refl _), List.take_of_length_le (Nat.le_refl _)]
/-! ### what can be shown in little room -/
structure Sm (q : Rat) : Prop where
  num : q.num.natAbs < 10 ^ 60
  den : q.den < 10 ^ 60
theorem natAbs_mk {z : Int} {D : Nat} (h : D ≠ 0) : (mkRat z D).num.natAbs ≤ z.natAbs := by
  rw [Rat.num_mkRat, if_neg h]
  exact Int.natAbs_ediv_le_natAbs _ _
theorem Sm.mk' {z : Int} {D : Nat} (h : D ≠ 0) (hz : z.natAbs < 10 ^ 60) (hd : D < 10 ^ 60) : Sm (mkRat z D) :=
  ⟨Nat.lt_of_le_of_lt (natAbs_mk h) hz, Nat.lt_of_le_of_lt ((Over.mk z D).den h) hd⟩
theorem show_int {i : Int} (h : i.natAbs < 10 ^ 60) : (PyData.shown (.int i)).length ≤ 61 := by
  show (Str.ofString (toString i)).length ≤ 61
  rw [PySem.ofString_length]
  exact int_text_length_le10 (by decide) h
theorem show_log {i : Int} (h : i.natAbs < 10 ^ 60) : i.natAbs.log2 < 1920 := by
  by_cases z : i.natAbs = 0
  · rw [z]; decide
  · exact (Nat.log2_lt z).mpr (Nat.lt_trans h (by decide))
theorem Sm.showable {q : Rat} (h : Sm q) : (encQ q).showable = true := by
  show (decide (q.num.natAbs.log2 < 1920) && (decide ((q.den : Int).natAbs.log2 < 1920) && true)) = true
  rw [decide_eq_true (show_log h.num), decide_eq_true (show_log (by rw [Int.natAbs_natCast]; exact h.den))] <;> rfl
theorem Sm.leaves {q : Rat} (h : Sm q) : PyData.leavesShort 61 (encQ q) = true := by
  show (decide ((PyData.shown (.int q.num)).length ≤ 61) && (decide ((PyData.shown (.int (q.den : Int))).length ≤ 61) && true)) = true
  rw [decide_eq_true (show_int h.num), decide_eq_true (show_int (by rw [Int.natAbs_natCast]; exact h.den))] <;> rfl
theorem log_200 {i : Nat} (h : i < 10 ^ 60) : i.log2 < 200 := by
  by_cases z : i = 0
  · rw [z]; decide
  · exact (Nat.log2_lt z).mpr (Nat.lt_trans h (by decide))
theorem Sm.weight {q : Rat} (h : Sm q) : (encQ q).weight ≤ 500 := by
  have h1 := log_200 h.num
  have h2 := log_200 h.den
  simp [encQ, PyData.weight, PyData.weightAll]
  split <;> split <;> omega
theorem weight_list2 (a b : PyData) : (PyData.list [a, b]).weight ≤ a.weight + b.weight + 10 := by
  simp [PyData.weight, PyData.weightAll]
  omega
theorem Sm.fits {q : Rat} (h : Sm q) : (encQ q).shown.length ≤ sizeLine := by
  have h1 := PyData.shown_le 61 (by decide) _ h.leaves
  have h2 := h.weight
  have h3 : (61 + 2) * (encQ q).weight ≤ 63 * 500 := Nat.mul_le_mul (by decide) h2
  exact Nat.le_trans (show (encQ q).shown.length ≤ 40000 by omega) (by decide)
theorem shaped_Q2 (a b : Rat) : SeqAt.shaped (.list [encQ a, encQ b]) = true := by
  unfold SeqAt.shaped encQ
  simp [PyData.canLay0, PyData.canLayAll0, PyData.depth, PyData.depthAll]
theorem Sm.showable2 {a b : Rat} (h : Sm a) (g : Sm b) : (PyData.list [encQ a, encQ b]).showable = true := by
  show ((encQ a).showable && ((encQ b).showable && true)) = true
  rw [h.showable, g.showable] <;> rfl
theorem Sm.fits2 {a b : Rat} (h : Sm a) (g : Sm b) : (PyData.list [encQ a, encQ b]).shown.length ≤ sizeLine := by
  have h1 := PyData.shown_le 61 (by decide) (.list [encQ a, encQ b]) (by
    show (PyData.leavesShort 61 (encQ a) && (PyData.leavesShort 61 (encQ b) && true)) = true
    rw [h.leaves, g.leaves] <;> rfl)
  have hw : (PyData.list [encQ a, encQ b]).weight ≤ 1010 := by
    have h1 := weight_list2 (encQ a) (encQ b)
    have h2 := h.weight
    have h3 := g.weight
    omega
  have h3 : (61 + 2) * (PyData.list [encQ a, encQ b]).weight ≤ 63 * 1010 := Nat.mul_le_mul (by decide) hw
  exact Nat.le_trans (show (PyData.list [encQ a, encQ b]).shown.length ≤ 80000 by omega) (by decide)
theorem sum_abs {l : List Int} {c : Int} (h : ∀ n ∈ l, 0 ≤ n ∧ n ≤ c) : 0 ≤ l.sum ∧ l.sum ≤ c * l.length := ⟨sum_nn fun n hn => (h n hn).1, sum_le fun n hn => (h n hn).2⟩
theorem prod_small {p t : Int} (hp : 0 ≤ p ∧ p ≤ 1000000) (ht : 0 ≤ t ∧ t ≤ 1000000) : (p * t).natAbs < 10 ^ 60 := by
  rw [Int.natAbs_mul]
  have h : p.natAbs * t.natAbs ≤ 1000000 * 1000000 := Nat.mul_le_mul (by omega) (by omega)
  exact Nat.lt_of_le_of_lt h (by decide)
end Dl
set_option Elab.async false
set_option linter.all false
set_option maxRecDepth 100000
set_option maxHeartbeats 4000000
set_option pp.maxSteps 2000
namespace Dl
open PySem PySem.Spec PyProof.Rows L2 He
theorem atI_neg1 (xs : List V) : atI xs (-1) = xs[xs.length - 1]? := by
  unfold atI ixN
  rw [if_neg (by decide)]
  cases xs with
  | nil => rfl
  | cons a l =>
    rw [if_pos (by rw [List.length_cons]; omega)]
    show (a :: l)[_]? = _
    congr 1
    rw [List.length_cons]
    omega
theorem cutV_fromN (xs : List V) (i : Nat) : cutV xs (some (i : Int)) none = xs.drop i := by
  by_cases h : i ≤ xs.length
  · exact cutV_from xs i h
  · unfold cutV
    rw [HT.sIx_none, HT.sIx_nat, Nat.min_eq_right (by omega), List.drop_eq_nil_of_le (show xs.length ≤ i by omega), List.drop_eq_nil_of_le (Nat.le_refl _), List.take_nil]
theorem Fq.zero {K : PySem.W.Frag} {H : Hp} {p : Addr} (h : SqT K H p [.int 0, .int 1]) : Fq K H (.ref p) 0 := ⟨p, rfl, h⟩
theorem Sm.zero : Sm 0 := ⟨by decide, by decide⟩
theorem Fq.isRef {K : PySem.W.Frag} {H : Hp} {v : V} {q : Rat} (h : Fq K H v q) : ∃ a, v = .ref a := let ⟨p, e, _⟩ := h; ⟨p, e⟩
theorem Dp.two {K : PySem.W.Frag} {H : Hp} {l : Addr} {v u : V} {a b : Rat} (h : SqL K H l [v, u]) (x : Fq K H v a) (y : Fq K H u b) : Dp K H (.ref l) (.list [encQ a, encQ b]) := .lst h (.cons x.dt.dp (.cons y.dt.dp .nil))
theorem nez (x : Str) : (!decide (V.str x = V.str x)) = false := by rw [decide_eq_true rfl] <;> rfl
theorem eqvQ (q : Rat) : (!PyData.eqv (encQ q) (encQ q)) = false := by
  simp [encQ, PyData.eqv, PyData.eqvAll]
theorem call_reprR {X : Cx} {k : Nat} (hr : Room k X.A) (hg : X.A.guards = some []) : CallR X (.builtin "repr") (rReprD X.K) := call_reprD hg (by have := hr.un; omega)
def sp_l_low (K : PySem.W.Frag) : Sp := fun vs H Q _ => ∃ (t : Int) (b : Nat), vs = [.int t, .int b] ∧ 0 < b ∧ b < 2 ^ 200 ∧ ∀ v H', Same H H' → Fq K H' v (mkRat t b) → Q v H'
def sp_l_right (K : PySem.W.Frag) : Sp := fun vs H Q _ => ∃ (wl : Addr), vs = [.ref wl] ∧ WellAt H wl ∧ ∀ H', But wl H H' → WellAt H' wl → Q (.bl true) H'
section
variable {P : Program} {w : World} {K : PySem.W.Frag} {mg : Str → Option Value} {base : Heap}
theorem ok_l_low (W : Tp K mg) : Cal P w K mg base CX0 1 "_law_low" (sp_l_low K) := by
  refine ⟨fok_mk (f_l_low W) sc_l_low (fun vs H Q E h => by
    obtain ⟨t, b, rfl, hb, hz, q⟩ := h
    rfl) (fun _ _ _ _ _ _ us hl => match us, hl with | [_, _], _ => rfl) (fun f cdv A outer s H vs Q E hr h => ?_), g_l_low W⟩
  obtain ⟨t, b, rfl, hb, hz, q⟩ := h
  refine ⟨_, (pss_cons (ps_par (i := 2) (j := 3) (by rfl) sc_l_low.nd rfl rfl (by decide) rfl rfl (pa_cons (pe_callB call_abs (by rfl) (n_abs W) (by decide +kernel) (pa_cons (pv 0) pa_nil)) (pa_cons (pv 1) pa_nil)) (by rfl))
      (pss_cons (ps_while PassesOwn.never (pt_cmpR op_gt (pv 3) pe_int (nomark _)) (pss_one (ps_par (i := 2) (j := 3) (by rfl) sc_l_low.nd rfl rfl (by decide) rfl rfl (pa_cons (pv 3) (pa_cons (pe_op op_mod (pe_callTy call_int1 (by rfl) (n_int W) (by decide +kernel) (pa_cons (pv 2) pa_nil)) (pv 3)) pa_nil)) (by rfl))))
      (pss_one (ps_ret (pe_tup (pa_cons (pe_op op_fdivW (pv 0) (pv 2)) (pa_cons (pe_op op_fdivW (pv 1) (pv 2)) pa_nil))))))), ?_⟩
  have habs : (if t < 0 then -t else t) = ((t.natAbs : Nat) : Int) := by
    split <;> omega
  refine ⟨_, rfl, _, rfl, _, rfl, _, _, rfl, ?_⟩
  refine ⟨fun m σ H' => ∃ x y : Nat, m = y ∧ σ = [some (.int t), some (.int b), some (.int x), some (.int y)] ∧ Nat.gcd x y = Nat.gcd t.natAbs b ∧ H' = H, ⟨b, t.natAbs, b, rfl, by rw [← habs] <;> rfl, rfl, rfl⟩, ?_⟩
  rintro m σ H' ⟨x, y, em, rfl, e, rfl⟩
  refine ⟨_, rfl, _, _, rfl, rfl, _, rfl, ?_⟩
  by_cases hy : 0 < (y : Int)
  · rw [decide_eq_true hy]
    refine iteT ⟨fun σ' H'' => σ' = [some (.int t), some (.int b), some (.int y), some (.int ((x : Int) % (y : Int)))] ∧ H'' = H', ?_, ?_⟩
    · rintro σ' H'' ⟨rfl, rfl⟩
      refine ⟨x % y, em ▸ Nat.mod_lt _ (by omega), y, x % y, rfl, by rw [Int.natCast_emod], ?_, rfl⟩
      rw [← e]
      exact (gcd_step x y).symm
    · exact ⟨_, rfl, _, rfl, .inl ⟨_, rfl, _, rfl, _, _, rfl, rfl, hy, _, _, rfl, rfl, rfl⟩⟩
  · rw [decide_eq_false hy]
    have h0 : y = 0 := by omega
    subst h0
    rw [Nat.gcd_zero_right] at e
    subst e
    have hg0 : 0 < Nat.gcd t.natAbs b := Nat.gcd_pos_of_pos_right _ hb
    have hgl : Nat.gcd t.natAbs b ≤ b := Nat.gcd_le_right _ hb
    have hd : CDivW 0 ((Nat.gcd t.natAbs b : Nat) : Int) := wide_div (b := 200) (by omega) (by rw [Int.natAbs_natCast]; omega) (by decide) (by decide)
    refine iteF ⟨_, rfl, _, rfl, _, _, rfl, rfl, hd, _, rfl, _, rfl, _, _, rfl, rfl, hd, by show 2 ≤ sizeLine; decide, fun p hp => ?_⟩
    refine q _ _ (Same.new hp) ⟨p, rfl, SqT.of ?_⟩
    rw [upd_same]
    show some (HO.tup [V.int (t / ((Nat.gcd t.natAbs b : Nat) : Int)), V.int ((b : Int) / ((Nat.gcd t.natAbs b : Nat) : Int))]) = _
    rw [low_num t b (by omega), low_den t b (by omega)]
theorem ok_l_right (W : Tp K mg) : CalG P w K mg base CX0 8 "_law_right" (sp_l_right K) := by
  refine calG_mk (f_l_right W) rfl (g_l_right W) sc_l_right (fun vs H Q E h => by
    obtain ⟨wl, rfl, hw, q⟩ := h
    rfl) (fun _ _ _ _ _ _ us hl => match us, hl with | [_], _ => rfl) (fun f cdv A outer s H vs Q E hr hG h => ?_)
  obtain ⟨wl, rfl, hw, q⟩ := h
  refine ⟨_, (pss_cons (ps_for PassesOwn.never rfl (pi_range1 (by rfl) (n_range W) (pa_cons pe_int pa_nil)) (pg_name (i := 1) sc_l_right.nd rfl (by first | exact Or.inl rfl | exact Or.inr rfl))
      (pss_cons (ps_asg (pk (ok_l_case W) hr pass0 (pa_cons (pv 0) (pa_cons pe_int (pa_cons pe_int (pa_cons pe_int pa_nil))))) (pg_tup (by rfl) (pgs_cons (pg_name (i := 2) sc_l_right.nd rfl (by first | exact Or.inl rfl | exact Or.inr rfl)) (pgs_cons (pg_name (i := 3) sc_l_right.nd rfl (by first | exact Or.inl rfl | exact Or.inr rfl)) pgs_nil))))
      (pss_cons (ps_par (i := 4) (j := 5) (by rfl) sc_l_right.nd rfl rfl (by decide) rfl rfl (pa_cons (pkMake (m_Plan W) (ok_Plan_init W) hr (g_Plan W) pass0 (pa_cons (pv 2) (pa_cons (pv 3) pa_nil))) (pa_cons (pe_op op_sub (pe_callB (r := rLenQ K) call_len_seq (by rfl) (n_len W) (by decide +kernel) (pa_cons (pv 3) pa_nil)) pe_int) pa_nil)) (by rfl))
      (pss_cons (ps_asg (pe_ix (r := rIxT K) ix_tup (pv 3) (pe_un un_neg pe_int) (fun _ _ => rfl)) (pg_tup (by rfl) (pgs_cons (pg_name (i := 6) sc_l_right.nd rfl (by first | exact Or.inl rfl | exact Or.inr rfl)) (pgs_cons (pg_name (i := 7) sc_l_right.nd rfl (by first | exact Or.inl rfl | exact Or.inr rfl)) (pgs_cons (pg_name (i := 8) sc_l_right.nd rfl (by first | exact Or.inl rfl | exact Or.inr rfl)) pgs_nil)))))
      (pss_one (ps_for PassesOwn.never rfl (pi_list (pe_lst (pa_cons pe_int (pa_cons (pv 2) (pa_cons (pk (ok_l_dip W) hr pass0 (pa_cons (pv 0) (pa_cons (pe_op op_add (pv 2) pe_int) pa_nil))) pa_nil))))) (pg_name (i := 9) sc_l_right.nd rfl (by first | exact Or.inl rfl | exact Or.inr rfl))
      (pss_cons (ps_set (i := 10) sc_l_right.nd rfl (by first | exact Or.inl rfl | exact Or.inr rfl) (pe_callB (r := rSum K) (cr_sum rfl) (by rfl) (n_sum W) (by decide +kernel) (pa_cons (pe_lc (own := [("_law_n", 12)]) (g := gName 12) (by rfl) sc_l_right.nd (pi_range1 (by rfl) (n_range W) (pa_cons (pe_callB (r := rLenQ K) call_len_seq (by rfl) (n_len W) (by decide +kernel) (pa_cons (pv 8) pa_nil)) pa_nil)) (blkOk_by (own := [("_law_n", 12)]) (N := N_l_right) (sc := defScope s_l_right) (by decide +kernel)) (fun _ _ _ _ _ => (pg_name (i := 12) sc_l_right.nd rfl (by first | exact Or.inl rfl | exact Or.inr rfl))) (fun _ _ _ _ _ => pts_nil) (fun _ _ _ _ _ => (pe_op op_mul (pe_ix (r := rIxT K) ix_tup (pv 8) (pv 12) (fun _ _ => rfl)) (pe_callB (call_min2 rfl) (by rfl) (n_min W) (by decide +kernel) (pa_cons (pv 12) (pa_cons (pv 9) pa_nil)))))) pa_nil)))
      (pss_cons (ps_if (pt_cmpR op_ne (pe_callB (r := rReprD K) (call_reprR hr hG) (by rfl) (n_repr W) (by decide +kernel) (pa_cons (pk (ok_worth W) hr pass0 (pa_cons (pv 4) (pa_cons (pv 5) (pa_cons (pv 9) pa_nil)))) pa_nil)) (pe_callB (r := rReprD K) (call_reprR hr hG) (by rfl) (n_repr W) (by decide +kernel) (pa_cons (pk (ok_l_low W) hr pass0 (pa_cons (pe_op op_mul (pv 7) (pv 10)) (pa_cons (pe_callB (r := rSumT K) (cr_sumT rfl) (by rfl) (n_sum W) (by decide +kernel) (pa_cons (pv 8) pa_nil)) pa_nil))) pa_nil)) (nomark _)) (pss_one (ps_ret pe_bl))
      pss_nil)
      (C8.pss_cut (ps_if (pt_cmpR op_gt (pv 9) pe_int (nomark _)) (pss_cons (ps_set (i := 11) sc_l_right.nd rfl (by first | exact Or.inl rfl | exact Or.inr rfl) (pk (ok_l_low W) hr pass0 (pa_cons (pe_op op_mul (pv 7) (pe_callB (r := rSumT K) (cr_sumT rfl) (by rfl) (n_sum W) (by decide +kernel) (pa_cons (pe_slice (r := rSlT K) sl_tup (pv 8) (po_some (pv 9)) po_none) pa_nil))) (pa_cons (pe_callB (r := rSumT K) (cr_sumT rfl) (by rfl) (n_sum W) (by decide +kernel) (pa_cons (pv 8) pa_nil)) pa_nil))))
      (pss_one (ps_if (pt_cmpR op_ne (pe_callB (r := rReprD K) (call_reprR hr hG) (by rfl) (n_repr W) (by decide +kernel) (pa_cons (pe_lst (pa_cons (pk (ok_rise W) hr pass0 (pa_cons (pv 4) (pa_cons (pv 5) (pa_cons (pv 9) pa_nil)))) (pa_cons (pk (ok_rise W) hr pass0 (pa_cons (pv 4) (pa_cons (pe_op op_add (pv 5) pe_int) (pa_cons (pv 9) pa_nil)))) pa_nil))) pa_nil)) (pe_callB (r := rReprD K) (call_reprR hr hG) (by rfl) (n_repr W) (by decide +kernel) (pa_cons (pe_lst (pa_cons (pv 11) (pa_cons (pe_tup (pa_cons pe_int (pa_cons pe_int pa_nil))) pa_nil))) pa_nil)) (nomark _)) (pss_one (ps_ret pe_bl))
      pss_nil)))
      pss_nil)
      (pss_one (ps_if (pt_cmpR (r := rNeD K) (op_neD hr.units) (pk (ok_worth W) hr pass0 (pa_cons (pv 4) (pa_cons (pe_op op_add (pv 5) pe_int) (pa_cons (pv 9) pa_nil)))) (pe_tup (pa_cons pe_int (pa_cons pe_int pa_nil))) (nomark _)) (pss_one (ps_ret pe_bl))
      pss_nil)))))))))))
      (pss_one (ps_ret pe_bl))), ?_⟩
  refine ⟨4, rfl, by decide, by decide, for_it walk_range0 (fun _ σ H' => But wl H H' ∧ WellAt H' wl ∧ ∃ y1 y2 y3 y4 y5 y6 y7 y8 y9 y10 y11 y12, σ = [some (.ref wl), y1, y2, y3, y4, y5, y6, y7, y8, y9, y10, y11, y12]) ⟨But.refl, hw, none, none, none, none, none, none, none, none, none, none, none, none, rfl⟩ (fun _ _ _ _ _ => trivial) ?_ ?_⟩
  · rintro i x σ Hx H2 hi ⟨bt, hwx, y1, y2, y3, y4, y5, y6, y7, y8, y9, y10, y11, y12, rfl⟩ ⟨rfl, rfl⟩
    refine ⟨_, rfl, wl, 12, 3, 9, rfl, hwx, by decide, by decide, by decide, by decide, by decide, fun p n v ks H1 bt1 hw1 sp hn dv ok lk => ?_⟩
    refine ⟨p, _, rfl, sp, rfl, _, _, rfl, _, _, rfl, rfl, ?_⟩
    obtain ⟨kp, us, rfl, su, tu⟩ := dv.tupI
    have lu : us.length = ks.length := by rw [tu.len, List.length_map]
    have hk1 := ok.lo
    -- Plan(room, rows), len(rows) - 1
    refine ⟨_, rfl, _, rfl, fun px dx npx ndx nepd => ?_⟩
    have smp : Same H1 (upd (upd H1 dx (.own px)) px (.ins (ga K "Plan") dx [])) := (Same.new ndx).trans (Same.new (by rw [upd_ne nepd.symm]; exact npx))
    refine ⟨px, dx, .ref kp, n, ks, rfl, upd_same, by omega, dv.same smp, ok, fun H3 bt3 hp3 => ⟨rfl, ?_⟩⟩
    have sm3 : Same H1 H3 := fun b o e => bt3 b o (ne_of_none e npx) (smp b o e)
    refine ⟨_, rfl, kp, us, rfl, .inr (sm3.seqT su), _, _, rfl, rfl, _, _, rfl, ?_⟩
    have hpl3 : PlanAt K H3 (.ref px) n ks := ⟨px, dx, .ref kp, rfl, hp3, dv.same sm3⟩
    obtain ⟨k, ek⟩ : ∃ k, ks[ks.length - 1]? = some k := ⟨_, List.getElem?_eq_getElem (by omega)⟩
    have okk := ok.kind ek
    have hw3 := hw1.same sm3
    have btH3 : But wl H H3 := bt.trans (bt1.trans (But.of sm3))
    obtain ⟨kk, ekk, dk⟩ := (tu.same sm3).at (i := ks.length - 1) (d := encK k) (by rw [List.getElem?_map, ek] <;> rfl)
    obtain ⟨p2, lv, rfl, s2, s3⟩ := dk.kind
    have elast : (us.length : Int) - 1 = ((ks.length - 1 : Nat) : Int) := by omega
    -- the last row
    refine ⟨_, rfl, _, rfl, kp, us, _, .ref p2, rfl, rfl, sm3.seqT su, ?_, p2, _, rfl, s2, rfl, _, _, rfl, _, _, rfl, _, _, rfl, rfl, ?_⟩
    · have e : atI us (-1) = us[us.length - 1]? := atI_neg1 us
      rw [← lu] at ekk
      exact e.trans ekk
    have elw : (k.ws.map V.int).length = k.ws.length := List.length_map _
    refine ⟨_, rfl, _, rfl, _, rfl, _, _, rfl, rfl, wl, (n : Int) + 1, rfl, hw3, by omega, by omega, fun z H4 hz bt4 hw4 => ?_⟩
    refine ⟨by show 3 ≤ sizeLine; decide, fun l nl => ⟨l, rfl, ⟨_, SqL.of upd_same⟩, ?_⟩⟩
    have sm5 : Same H4 (upd H4 l (.lst [.int 0, .int n, .int z])) := Same.new nl
    have hl5 : (upd H4 l (.lst [.int 0, .int n, .int z])) l = some (.lst [.int 0, .int n, .int z]) := upd_same
    generalize upd H4 l (.lst [.int 0, .int n, .int z]) = H5 at sm5 hl5
    have bt35 : But wl H3 H5 := bt4.trans (But.of sm5)
    have sk35 : Sk K H3 H5 := hw3.sk bt35
    have hpl5 := hpl3.sk sk35
    have s35 := sk35.seqT s3
    have hw5 := hw4.same sm5
    refine for_it walk_list (fun _ σ H' => Same H5 H' ∧ ∃ y9 y10 y11 y12, σ = [some (.ref wl), some (.int (i : Nat)), some (.int n), some (.ref kp), some (.ref px), some (.int ((ks.length - 1 : Nat) : Int)), some (.str k.name), some (.int k.price), some (.ref lv), y9, y10, y11, y12]) ⟨Same.refl _, y9, y10, y11, y12, by rw [← elast] <;> rfl⟩ (fun _ _ _ _ hI => SqL.of (hI.1 _ _ hl5)) ?_ ?_
    · rintro j x σ Hy H6 hj ⟨sm6, y9, y10, y11, y12, rfl⟩ ⟨rfl, hx⟩
      have hxm := List.mem_of_getElem? hx
      have hxe : ∃ u : Nat, x = .int u ∧ u ≤ n := by
        simp only [List.mem_cons, List.not_mem_nil, or_false] at hxm
        rcases hxm with rfl | rfl | rfl
        · exact ⟨0, rfl, by omega⟩
        · exact ⟨n, rfl, by omega⟩
        · exact ⟨z, rfl, by omega⟩
      obtain ⟨u, rfl, hun⟩ := hxe
      have s6 := sm6.seqT s35
      have hws := okk.ws
      have w1 := hws.lo
      have w9 := hws.hi
      have wS := hws.slo
      have wS2 := hws.shi
      have wN : k.ws.sum.toNat ≠ 0 := by omega
      have wT : ((k.ws.sum.toNat : Nat) : Int) = k.ws.sum := Int.toNat_of_nonneg (by omega)
      have wL : k.ws.sum.toNat < 2 ^ 200 := Nat.lt_of_le_of_lt (show k.ws.sum.toNat ≤ 1000 by omega) (by decide)
      have wM : k.ws.sum.toNat < 10 ^ 60 := Nat.lt_of_le_of_lt (show k.ws.sum.toNat ≤ 1000 by omega) (by decide)
      have plo := okk.lo
      have phi := okk.hi
      have hn12 : n ≤ 12 := by omega
      have each : ∀ j, j < k.ws.length → 0 ≤ k.ws.getD j 0 ∧ k.ws.getD j 0 ≤ 1000 := fun j hj => by
        rw [List.getD_eq_getElem?_getD, List.getElem?_eq_getElem hj]
        exact hws.each _ (List.getElem_mem hj)
      have totb : 0 ≤ (tot k.ws u k.ws.length).sum ∧ (tot k.ws u k.ws.length).sum ≤ 1000000 := by
        have z := sum_abs (l := tot k.ws u k.ws.length) (c := 12000) fun m hm => by
          obtain ⟨j, hj, rfl⟩ := List.mem_map.mp hm
          have hj' := List.mem_range.mp hj
          have e1 := each j hj'
          have e2 : ((min j u : Nat) : Int) ≤ 12 := by omega
          have e3 : 0 ≤ ((min j u : Nat) : Int) := by omega
          refine ⟨Int.mul_nonneg e1.1 e3, ?_⟩
          exact Int.le_trans (Int.mul_le_mul e1.2 e2 e3 (by decide)) (by decide)
        have zl : (tot k.ws u k.ws.length).length = k.ws.length := by
          unfold tot
          rw [List.length_map, List.length_range]
        rw [zl] at z
        omega
      refine ⟨_, rfl, lv, k.ws.map V.int, rfl, .inr s6, _, rfl, by show -(2 ^ 62) ≤ ((k.ws.map V.int).length : Int); omega, by show ((k.ws.map V.int).length : Int) < 2 ^ 62; omega, fun D hD => lc_gen (K := K) walk_range0 (fun _ H' => Same H6 H') (fun j y H' => y = .int (k.ws.getD j 0 * ((min j u : Nat) : Int))) ?_ (Same.new hD) (fun i H' a b hI _ => Same.mut hI hD) (fun _ _ _ _ _ h => h) (fun _ _ hI => trivial) ?_ ?_⟩
      · show ((k.ws.map V.int).length : Int).toNat < sizeLine
        exact Nat.lt_of_le_of_lt (show ((k.ws.map V.int).length : Int).toNat ≤ 9 by omega) (by decide)
      · rintro m y H7 H8 Q2 hm hI ⟨rfl, rfl⟩ c
        have hm' : m < k.ws.length := by omega
        have em : (k.ws.map V.int)[m]? = some (.int (k.ws.getD m 0)) := by
          rw [List.getElem?_map, List.getD_eq_getElem?_getD, List.getElem?_eq_getElem hm'] <;> rfl
        have emin : (if (u : Int) < (m : Int) then (u : Int) else (m : Int)) = ((min m u : Nat) : Int) := by
          split <;> omega
        have eb := each m hm'
        refine ⟨rfl, _, rfl, _, rfl, lv, _, m, _, rfl, rfl, Same.seqT hI s6, atI_nat em, _, rfl, _, rfl, _, _, rfl, _, _, rfl, rfl, .inl ⟨by omega, by omega⟩, c _ _ hI Sk.refl (fun a e => e) ?_⟩
        show V.int (k.ws.getD m 0 * (if (u : Int) < (m : Int) then (u : Int) else (m : Int))) = _
        rw [emin]
      intro H7 ys hI hyl hy hDD
      have sm7 : Same H5 H7 := sm6.trans hI
      have eyl : ys.length = k.ws.length := by
        have : ys.length = ((k.ws.map V.int).length : Int).toNat := hyl
        omega
      have ey : ys = (tot k.ws u k.ws.length).map V.int := by
        refine List.ext_getElem? fun j => ?_
        unfold tot
        by_cases hj : j < k.ws.length
        · rw [List.getElem?_eq_getElem (by omega), hy j _ (List.getElem?_eq_getElem (by omega)), List.getElem?_map, List.getElem?_map, List.getElem?_range hj] <;> rfl
        · rw [List.getElem?_eq_none (by omega), List.getElem?_eq_none (by rw [List.length_map, List.length_map, List.length_range]; omega)]
      refine ⟨D, _, rfl, SqL.of (ey ▸ hDD), ?_⟩
      -- worth at the last stage
      refine ⟨_, rfl, _, rfl, _, rfl, .ref px, n, ks.length - 1, u, ks, rfl, hpl5.same sm7, ok, hn12, by omega, hun, fun v1 H8 sm8 f1 => ?_⟩
      rw [last_worth ek hk1 okk hun] at f1
      have smQ : Sm (mkRat (k.price * (tot k.ws u k.ws.length).sum) k.ws.sum.toNat) := Sm.mk' wN (prod_small ⟨by omega, phi⟩ totb) wM
      have s8 := (sm7.trans sm8).seqT s35
      refine ⟨v1, encQ _, rfl, f1.dt.dp, (let ⟨p, e, _⟩ := f1; ⟨p, e⟩), shaped_Q _, smQ.showable, smQ.fits, ?_⟩
      refine ⟨_, rfl, _, rfl, _, _, rfl, rfl, .inl ⟨by omega, by omega⟩, _, rfl, lv, k.ws, rfl, s8, k.price * (tot k.ws u k.ws.length).sum, k.ws.sum.toNat, by rw [wT] <;> rfl, by omega, wL, fun v2 H9 sm9 f2 => ?_⟩
      refine ⟨v2, encQ _, rfl, f2.dt.dp, (let ⟨p, e, _⟩ := f2; ⟨p, e⟩), shaped_Q _, smQ.showable, smQ.fits, rfl, _, rfl, ?_⟩
      rw [nez]
      refine iteF ?_
      have sm59 : Same H5 H9 := sm7.trans (sm8.trans sm9)
      refine ⟨fun σ' H' => Same H5 H' ∧ ∃ y10 y11 y12, σ' = [some (.ref wl), some (.int (i : Nat)), some (.int n), some (.ref kp), some (.ref px), some (.int ((ks.length - 1 : Nat) : Int)), some (.str k.name), some (.int k.price), some (.ref lv), some (.int (u : Nat)), y10, y11, y12], ?_, ?_⟩
      · refine ⟨_, rfl, _, _, rfl, rfl, _, rfl, ite2 (fun h => ?_) (fun h => ?_)⟩
        · have hu1 : 1 ≤ u := by
            have := of_decide_eq_true h
            omega
          have dropb : 0 ≤ (k.ws.drop u).sum ∧ (k.ws.drop u).sum ≤ 1000000 := by
            have z := sum_abs (l := k.ws.drop u) (c := 1000) fun m hm => hws.each m (List.mem_of_mem_drop hm)
            rw [List.length_drop] at z
            omega
          have s9 := sm59.seqT s35
          refine ⟨_, rfl, _, rfl, _, rfl, (u : Int), rfl, lv, _, rfl, s9, ?_, fun p9 np9 => ?_⟩
          · rw [show HT.sIx (k.ws.map V.int).length 0 (some (u : Int)) = min u (k.ws.map V.int).length from HT.sIx_nat _ 0 u]
            omega
          have ec : cutV (k.ws.map V.int) (some (u : Int)) none = (k.ws.drop u).map V.int := by
            rw [cutV_fromN, List.map_drop]
          have smA : Same H9 (upd H9 p9 (.tup (cutV (k.ws.map V.int) (some (u : Int)) none))) := Same.new np9
          refine ⟨p9, k.ws.drop u, rfl, SqT.of (by rw [← ec]; exact upd_same), _, _, rfl, rfl, .inl ⟨by omega, by omega⟩, _, rfl, lv, k.ws, rfl, smA.seqT s9, k.price * (k.ws.drop u).sum, k.ws.sum.toNat, by rw [wT] <;> rfl, by omega, wL, fun v3 HA smA2 f3 => ?_⟩
          have sm5A : Same H5 HA := sm59.trans (smA.trans smA2)
          have smR : Sm (mkRat (k.price * (k.ws.drop u).sum) k.ws.sum.toNat) := Sm.mk' wN (prod_small ⟨by omega, phi⟩ dropb) wM
          -- the two rises
          refine ⟨_, rfl, _, rfl, _, rfl, .ref px, n, ks.length - 1, u, ks, rfl, hpl5.same sm5A, ok, hn12, by omega, hu1, hun, fun v4 HB smB f4 => ?_⟩
          rw [last_rise ek hk1 okk hu1 hun] at f4
          refine ⟨_, rfl, _, rfl, _, _, rfl, rfl, _, rfl, .ref px, n, ks.length, u, ks, by rw [show ((ks.length : Nat) : Int) = ((ks.length - 1 : Nat) : Int) + 1 by omega] <;> rfl, hpl5.same (sm5A.trans smB), ok, hn12, Nat.le_refl _, hu1, hun, fun v5 HC smC f5 => ?_⟩
          rw [after_worth, after_worth, Rat.sub_self] at f5
          refine ⟨by show 2 ≤ sizeLine; decide, fun l1 nl1 => ?_⟩
          have smD : Same HC (upd HC l1 (.lst [v4, v5])) := Same.new nl1
          refine ⟨.ref l1, .list [encQ _, encQ _], rfl, Dp.two (SqL.of upd_same) (f4.same (smC.trans smD)) (f5.same smD), ⟨l1, rfl⟩, shaped_Q2 _ _, smR.showable2 .zero, smR.fits2 .zero, ?_⟩
          refine ⟨_, rfl, by show 2 ≤ sizeLine; decide, fun t1 nt1 => ⟨by show 2 ≤ sizeLine; decide, fun l2 nl2 => ?_⟩⟩
          have smE : Same (upd HC l1 (.lst [v4, v5])) (upd (upd HC l1 (.lst [v4, v5])) t1 (.tup [.int 0, .int 1])) := Same.new nt1
          have smF : Same (upd (upd HC l1 (.lst [v4, v5])) t1 (.tup [.int 0, .int 1])) (upd (upd (upd HC l1 (.lst [v4, v5])) t1 (.tup [.int 0, .int 1])) l2 (.lst [v3, .ref t1])) := Same.new nl2
          refine ⟨.ref l2, .list [encQ _, encQ _], rfl, Dp.two (SqL.of upd_same) (f3.same (smB.trans (smC.trans (smD.trans (smE.trans smF))))) (Fq.zero ((SqT.of upd_same : SqT K (upd (upd HC l1 (.lst [v4, v5])) t1 (.tup [.int 0, .int 1])) t1 _) |> smF.seqT)), ⟨l2, rfl⟩, shaped_Q2 _ _, smR.showable2 .zero, smR.fits2 .zero, rfl, _, rfl, ?_⟩
          rw [nez]
          refine iteF ⟨sm5A.trans (smB.trans (smC.trans (smD.trans (smE.trans smF)))), _, _, _, rfl⟩
        · exact ⟨sm59, _, _, _, rfl⟩
      rintro σ' HA ⟨sm5A, y10, y11, y12, rfl⟩
      refine ⟨_, rfl, _, rfl, _, _, rfl, rfl, _, rfl, .ref px, n, ks.length, u, ks, by rw [show ((ks.length : Nat) : Int) = ((ks.length - 1 : Nat) : Int) + 1 by omega] <;> rfl, hpl5.same sm5A, ok, hn12, Nat.le_refl _, hun, fun v6 HB smB f6 => ⟨by show 2 ≤ sizeLine; decide, fun t1 nt1 => ?_⟩⟩
      rw [after_worth] at f6
      have smC : Same HB (upd HB t1 (.tup [.int 0, .int 1])) := Same.new nt1
      refine ⟨encQ 0, encQ 0, (f6.same smC).dt.dp, (Fq.zero (SqT.of upd_same)).dt.dp, shaped_Q _, shaped_Q _, _, rfl, ?_⟩
      rw [eqvQ]
      exact iteF ⟨sm5A.trans (smB.trans smC), _, _, _, _, rfl⟩
    · rintro σ Hy ⟨sm6, y9, y10, y11, y12, rfl⟩
      exact ⟨btH3.trans (bt35.trans (But.of sm6)), hw5.same sm6, _, _, _, _, _, _, _, _, _, _, _, _, rfl⟩
  rintro σ Hx ⟨bt, hwx, y1, y2, y3, y4, y5, y6, y7, y8, y9, y10, y11, y12, rfl⟩
  exact q Hx bt hwx
end
end Dl
set_option Elab.async false
set_option linter.all false
set_option maxRecDepth 100000
set_option maxHeartbeats 4000000
set_option pp.maxSteps 1000
namespace Dl
open PySem PySem.Spec PyProof.Rows L2 He
theorem okG_fd {P : Program} {w : World} {K : PySem.W.Frag} {mg : Str → Option Value} {base : Heap} {CX : CXT} {k : Nat} {sp : Sp} {N ps : List Str} {d : DefX} {fd : FuncData} (F : FnP K d fd) (S : FnScope N ps (defScope d.st)) (len : ∀ vs H Q E, sp vs H Q E → vs.length = ps.length)
    (hbody : ∀ (f : Addr) (cdv : Value) (A : Around) (outer : List Env) (s : Shared) (H : Hp) (vs : List V) (Q : VK) (E : XK), Room k (A.deeper (envOfC d.qual (defScope d.st) s.heap.objs.size f cdv)) → (A.deeper (envOfC d.qual (defScope d.st) s.heap.objs.size f cdv)).guards = some [] → sp vs H Q E →
      ∃ t, PSs (cxOf CX P w K mg base N d.qual (defScope d.st) f cdv A outer s H E).nox (defBody d.st) t ∧ t { nx := fun _ H' => Q .non H', rt := Q } (start N vs) H) : FnOkG P w K mg base CX (k + 1) (d.path K) fd ps sp := by
  obtain ⟨oc, od, dV, kV, doc, pm, an, cdv, ct, osl, rfl, lk, hcd, _, _⟩ := id F.ex
  exact fn_ofG lk hcd S len (fun A outer s H vs Q E hr hG h => let ⟨t, h1, h2⟩ := hbody _ cdv A outer s H vs Q E hr hG h; ⟨t, h1.nox, h2⟩)
def sp_law (K : PySem.W.Frag) : Sp := fun vs H Q _ => ∃ (a : Addr) (ns : List Int), vs = [.ref a] ∧ SqL K H a (ns.map V.int) ∧ ns.length ≤ 63 ∧ ∀ H', Q (.bl true) H'
section
variable {P : Program} {w : World} {K : PySem.W.Frag} {mg : Str → Option Value} {base : Heap}
theorem ok_law (W : Tp K mg) {fd : FuncData} (F : FnP K d_law fd) : FnOkG P w K mg base CX0 9 (d_law.path K) fd ["_law_cells"] (sp_law K) := by
  refine okG_fd F sc_law (fun vs H Q E h => by
    obtain ⟨a, ns, rfl, hS, hl, q⟩ := h
    rfl) (fun f cdv A outer s H vs Q E hr hG h => ?_)
  obtain ⟨a, ns, rfl, hS, hl, q⟩ := h
  refine ⟨_, (pss_one (ps_ret (pe_callB (r := rAll K) (cr_all rfl) (by rfl) (n_all W) (by decide +kernel) (pa_cons (pe_lc (own := [("_law_at", 1)]) (g := gName 1) (by rfl) sc_law.nd (pi_range1 (by rfl) (n_range W) (pa_cons (pe_callB (call_max2 rfl) (by rfl) (n_max W) (by decide +kernel) (pa_cons pe_int (pa_cons (pe_callB (call_min2 rfl) (by rfl) (n_min W) (by decide +kernel) (pa_cons (pe_callB (r := rLenQ K) call_len_seq (by rfl) (n_len W) (by decide +kernel) (pa_cons (pv 0) pa_nil)) (pa_cons pe_int pa_nil))) pa_nil))) pa_nil)) (blkOk_by (own := [("_law_at", 1)]) (N := N_law) (sc := defScope s_law) (by decide +kernel)) (fun _ _ _ _ _ => (pg_name (i := 1) sc_law.nd rfl (by first | exact Or.inl rfl | exact Or.inr rfl))) (fun _ _ _ _ _ => pts_nil) (fun _ _ _ _ _ => (pkG (ok_l_right W) hr hG pass0 (pa_cons (pk (ok_l_well W) hr pass0 (pa_cons (pv 0) (pa_cons (pv 1) pa_nil))) pa_nil)))) pa_nil)))), ?_⟩
  obtain ⟨M, hM, hM5⟩ : ∃ M : Nat, (if (if (5 : Int) < ((ns.map V.int).length : Int) then (5 : Int) else ((ns.map V.int).length : Int)) > 2 then (if (5 : Int) < ((ns.map V.int).length : Int) then (5 : Int) else ((ns.map V.int).length : Int)) else (2 : Int)) = (M : Int) ∧ M ≤ 5 := by
    refine ⟨(if (if (5 : Int) < ((ns.map V.int).length : Int) then (5 : Int) else ((ns.map V.int).length : Int)) > 2 then (if (5 : Int) < ((ns.map V.int).length : Int) then (5 : Int) else ((ns.map V.int).length : Int)) else (2 : Int)).toNat, ?_, ?_⟩ <;> (split <;> split <;> omega)
  refine ⟨_, rfl, a, _, rfl, .inl hS, _, _, rfl, _, _, rfl, (M : Int), congrArg (fun z => [V.int z]) hM, by omega, by omega, fun D hD => lc_gen (K := K) walk_range0 (fun _ H' => Same H H') (fun _ y _ => y = .bl true) ?_ (Same.new hD) (fun i H' a b hI _ => Same.mut hI hD) (fun _ _ _ _ _ h => h) (fun _ _ _ => trivial) ?_ ?_⟩
  · exact Nat.lt_of_le_of_lt (show (M : Int).toNat ≤ 5 by omega) (by decide)
  · rintro j y H1 H2 Q2 hj hI ⟨rfl, rfl⟩ c
    refine ⟨rfl, _, rfl, _, rfl, a, ns, j, rfl, Same.seqL hI hS, fun wl H3 sm3 nw hw => ?_⟩
    refine ⟨wl, rfl, hw, fun H4 bt4 hw4 => ?_⟩
    have sm4 : Same H2 H4 := fun b o e => bt4 b o (ne_of_none e nw) (sm3 b o e)
    exact c _ H4 (hI.trans sm4) (Sk.of sm4) (fun a e => sm4 _ _ e) rfl
  · intro H' ys hI hyl hy hDD
    refine ⟨D, List.replicate _ true, rfl, SqL.of (by rw [hDD, ← trues hyl hy]), ?_⟩
    rw [all_trues]
    exact q H'
end
end Dl
set_option Elab.async false
set_option linter.all false
set_option maxRecDepth 100000
set_option maxHeartbeats 0
open PySem PySem.W PySem.Calls PyProof.Rows in
theorem PySem.Challenge.cw_dearerlater_k14_whole_last_kinds_holds : PySem.Challenge.rw_dearerlater_k14_whole_last_kinds.Holds := by
  w_on; o_law
  refine HandSHeadRun.head_any (r := OpenLaw.row PySem.Challenge.rw_dearerlater_k14_whole_last_kinds) (q := view (OpenLaw.row PySem.Challenge.rw_dearerlater_k14_whole_last_kinds).prog [60]) (H := Dl.hk) (ob := Dl.ob) (M := 20000) (loose := Dl.loose) (d := HandSHeadRun.topDef (OpenLaw.row PySem.Challenge.rw_dearerlater_k14_whole_last_kinds).prog 60) (kwd := []) Dl.ob_eq
    (by kernel_rfl) (fun s => by kernel_rfl) Dl.run (by kernel_rfl) (by kernel_rfl) (by kernel_rfl) (by rfl) (by first | assumption | decide +kernel) (by decide +kernel) ⟨rfl, rfl, rfl, rfl, rfl, by decide +kernel⟩ ?hw ?hc
  case hw => w_witness2
  case hc =>
    refine Dl.walk_ofG (l := PySem.Challenge.rw_dearerlater_k14_whole_last_kinds) (n := 63) (k := 9) (x := "_law_cells") (CX := L2.CX0) rfl (by decide) (by kernel_rfl) ⟨rfl, by decide, by decide⟩ ?F (fun _ _ _ _ z => z)
    intro w mg fa h Y G hmg0
    obtain ⟨K, KX, c⟩ := Y
    have W : Dl.Tp K mg := ⟨c, ⟨h, KX, G⟩⟩
    have hmg : mg ("law" : PySem.Str) = some (.ref fa) := by
      have e : (HandSHeadRun.topDef (OpenLaw.row PySem.Challenge.rw_dearerlater_k14_whole_last_kinds).prog 60).name = ("law" : PySem.Str) := by kernel_rfl
      rw [← e]
      exact hmg0
    obtain ⟨fd, F⟩ := Dl.f_law W
    have e := hmg.symm.trans (Dl.g_law W)
    cases e
    exact ⟨K, fd, Dl.sp_law K, KX, fun s u => L2.FunD.bindsA (ps := ["_law_cells"]) F (fun _ _ _ _ _ _ us hl => match us, hl with | [_], _ => rfl) s [u] rfl, fun H a ns hl _ hS => ⟨a, ns, rfl, hS, hl, fun _ => rfl⟩, fun base _ _ => Dl.ok_law W F⟩
