import PyProof.Rows.All
import Wide.All
import OpenK.AllK
import Wide.FinOn
import KE.KSuper
import PyProof.ExcInit
import PyProof.InstStoreFacts
import PyProof.ExcBaseAll.Exception
import KE.KDictSum
import Lean
import PySem.Challenge.RW_no0010_01
set_option Elab.async false
set_option maxRecDepth 100000
set_option maxHeartbeats 8000000
set_option linter.unusedVariables false
set_option linter.unusedSimpArgs false
set_option pp.deepTerms false
set_option pp.deepTerms.threshold 5
open PySem PySem.W PySem.Calls PyProof.Rows
set_option bootstrap.genMatcherCode false
set_option tactic.hygienic false
set_option genSizeOf false
set_option genInjectivity false
set_option compiler.extract_closed false
set_option backward.linearNoConfusionType false
noncomputable section
namespace Mine
noncomputable def im (tb : String → Option Builtin) (p : Program) (w : World) (n₀ : Nat) (ann : Option Value) : Nat → SharedT → Thread → Option SharedT
 | 0, _, _ => none
 | n + 1, s, t => match through t with
  | true => some s
  | false => match stepOk n₀ ann t with
   | false => none
   | true => match stepT (denote tb) p w s t with
    | some (s', t') => im tb p w n₀ ann n s' t'
    | none => none
theorem qG {tb : String → Option Builtin} {p : Program} {w : World} {n₀ : Nat} {ann : Option Value} : ∀ {n : Nat} {s s' : SharedT} {t : Thread}, im tb p w n₀ ann n s t = some s' → topRun tb p w n₀ ann n s.abs t = some s'.abs
 | 0, _, _, _, h => by cases h
 | n + 1, s, s', t, h => by
  unfold im at h
  unfold topRun
  cases he : through t with
  | true => rw [he] at h; cases h; rfl
  | false =>
   rw [he] at h
   cases hk : stepOk n₀ ann t with
   | false => rw [hk] at h; cases h
   | true =>
    rw [hk] at h
    cases hs : stepT (denote tb) p w s t with
    | none => rw [hs] at h; cases h
    | some r => obtain ⟨s₂, t₂⟩ := r; rw [hs] at h; rw [stepT_spec hs]; exact qG h
noncomputable def Hy : List Obj → Nat → BT → BT
 | [], _, t => t
 | o :: r, i, t => Hy r (i + 1) (t.ins i o)
noncomputable def ni (P : Params) : BT := Hy (boot_heap P).objs.toList 0 .nil
noncomputable def Hz : Nat := 50
theorem Ce {p q : Program} {loose : List Str} {Xt : Shared → Bool} {α : Type} {Yf : Shared → α} {Ya : World → α} {N : Nat} {g0 : Bool}
  (open_ : ∀ w : World, (fencedOpening treeTable p w N).map (fun s => (s.heap, s.gens, s.drawn, s.toks)) = some (boot_heap w.params, Array.mk [], boot_drawn, boot_toks))
  (tree : ∀ P, absHeap (ni P) 11 (boot_heap P).life = boot_heap P)
  (size : ∀ w : World, ((boot_heap w.params).isNs mainGlobals && (Array.mk [] : Array GenState).size == 0, (boot_heap w.params).objs.size, (boot_heap w.params).nsMap mainGlobals "__annotations__") = (true, 11, some (.ref 6)))
  (F9 : ∀ (w : World) (os : OsState), (im treeTable p w 11 (some (.ref 6)) N ⟨ni w.params, 11, (boot_heap w.params).life, Array.mk [], boot_drawn, boot_toks, os⟩ (topStub p)).map (fun t => (staticsOk (importedModules p.main.body) (boot_heap w.params) t.abs.heap && namesBound p t.abs.heap && gensDone t.abs && laidKept (boot_heap w.params) t.abs.heap)) = some true)
  (Gb : ∀ (w : World) (os : OsState), (im treeTable p w 11 (some (.ref 6)) N ⟨ni w.params, 11, (boot_heap w.params).life, Array.mk [], boot_drawn, boot_toks, os⟩ (topStub p)).map (fun t => openSeen q loose (importedModules p.main.body) Xt g0 t.abs) = some (openGood q loose))
  (Ga : ∀ (w : World) (os : OsState), (im treeTable p w 11 (some (.ref 6)) N ⟨ni w.params, 11, (boot_heap w.params).life, Array.mk [], boot_drawn, boot_toks, os⟩ (topStub p)).map (fun t => Yf t.abs) = some (Ya w)) : LeftO p q loose Xt Yf Ya N g0 := fun w => by
 obtain ⟨⟨h, gs, d, k, os⟩, e, e'⟩ := Option.map_eq_some_iff.mp (open_ w)
 obtain ⟨rfl, rfl, rfl, rfl⟩ : h = boot_heap w.params ∧ gs = Array.mk [] ∧ d = boot_drawn ∧ k = boot_toks := by simpa using e'
 obtain ⟨z1, z2, z3⟩ : _ ∧ _ ∧ _ := by simpa only [Prod.mk.injEq] using size w
 obtain ⟨t, r, l1⟩ := Option.map_eq_some_iff.mp (F9 w os)
 have l2 := Gb w os
 have l3 := Ga w os
 rw [r] at l2 l3
 replace l2 := Option.some.inj l2
 replace l3 := Option.some.inj l3
 dsimp only at l2 l3
 have r2 := qG r
 have e3 : (⟨ni w.params, 11, (boot_heap w.params).life, Array.mk [], boot_drawn, boot_toks, os⟩ : SharedT).abs = ⟨boot_heap w.params, Array.mk [], boot_drawn, boot_toks, os⟩ := by
  unfold SharedT.abs
  rw [tree]
 rw [e3] at r2
 have t2 : topFrom treeTable p w N ⟨boot_heap w.params, Array.mk [], boot_drawn, boot_toks, os⟩ = some t.abs := by
  unfold topFrom
  dsimp only
  rw [z1, z2, z3, r2]
  show (match staticsOk (importedModules p.main.body) (boot_heap w.params) t.abs.heap && namesBound p t.abs.heap && gensDone t.abs && laidKept (boot_heap w.params) t.abs.heap with | true => _ | false => _) = _
  rw [l1]
 unfold openEnds
 rw [e]
 show (topFrom treeTable p w N ⟨boot_heap w.params, Array.mk [], boot_drawn, boot_toks, os⟩).map _ = _
 rw [t2]
 show some (openSeen q loose (importedModules p.main.body) Xt g0 t.abs, Yf t.abs) = _
 rw [l2, l3]
noncomputable def rP (t : SharedT) (a : Addr) : Option Obj := match Nat.blt a t.n with
 | true => match t.tree.get a with
  | some o => alive o
  | none => t.abs.heap.get? a
 | false => t.abs.heap.get? a
theorem Cf (t : SharedT) (a : Addr) : rP t a = t.abs.heap.get? a := by
 unfold rP
 cases hb : Nat.blt a t.n with
 | false => rfl
 | true =>
  have hl : a < t.n := Nat.le_of_ble_eq_true hb
  cases hg : t.tree.get a with
  | none => rfl
  | some o => exact (abs_get hl hg).symm
theorem Cg : ∀ P, absHeap (ni P) 11 (boot_heap P).life = boot_heap P := fun P => by kernel_rfl
theorem Aj : ∀ w : World, ((boot_heap w.params).isNs mainGlobals && (Array.mk [] : Array GenState).size == 0, (boot_heap w.params).objs.size, (boot_heap w.params).nsMap mainGlobals "__annotations__") = (true, 11, some (.ref 6)) := fun w => by kernel_rfl
noncomputable def vw : Program := view PySem.Challenge.pw_no0010_01 [0, 2, 3, 5, 6, 7, 8, 9, 10, 11, 12, 13, 14, 15, 16, 17, 18, 19, 20, 22, 23, 25, 26, 27, 28, 29, 30, 31, 32, 33, 34, 35]
theorem HG : ∀ w : World, (fencedOpening treeTable PySem.Challenge.pw_no0010_01 w 3500).map (fun s => (s.heap, s.gens, s.drawn, s.toks)) = some (boot_heap w.params, Array.mk [], boot_drawn, boot_toks) :=
 boot_open (by kernel_rfl) (by decide) (fun s => by kernel_rfl)
theorem GS {a : Type 1} {b : Prop} (_ : a) (h : b) : b := h
local macro_rules | `(tactic| o_head $H) => `(tactic| apply GS $H)
theorem K0 (h : PySem.Challenge.rw_no0010_01.row.Holds) : PySem.Challenge.rw_no0010_01.row.Holds := by
 k_head
 exact h
noncomputable def Cm : List Addr := (K0.heap_1 (aWorld 1).params).foldr (fun q r => q.1 :: r) []
theorem pz : ∀ P, Cm = (K0.heap_1 P).map (·.1) := fun P => by kernel_rfl
noncomputable def GU (w : World) (os : OsState) : Option SharedT := im treeTable PySem.Challenge.pw_no0010_01 w 11 (some (.ref 6)) 3500 ⟨ni w.params, 11, (boot_heap w.params).life, Array.mk [], boot_drawn, boot_toks, os⟩ (topStub PySem.Challenge.pw_no0010_01)
theorem HK {α β γ : Type} {x x' : α} {y y' : β} {k l p q r n m g : Bool} {z z' : γ} (h : (x, y, k, l) = (x', y', true, true)) (h' : (true && p && q && r && n && m && g, z) = (true, z')) : (x, y, k && p && q && r && n && m && g, l, z) = (x', y', true, true, z') := by
 cases h; obtain ⟨h, rfl⟩ := Prod.mk.inj h'; rw [h]
theorem GT : ∀ w os, (GU w os).map (fun t => ((staticsOk (importedModules PySem.Challenge.pw_no0010_01.main.body) (boot_heap w.params) t.abs.heap && namesBound PySem.Challenge.pw_no0010_01 t.abs.heap && gensDone t.abs && laidKept (boot_heap w.params) t.abs.heap), Cm.map (rP t), [514].map (rP t), seen ((recsOf vw).map (·.name)) (ownsOf vw) [] { t.abs with gens := Array.mk [] }, t.abs.heap.bltView, t.abs.heap.keysOk (looseW vw []) ((recsOf vw).map (·.name)) ((litsOf vw).map (·.1)) ((clssOf vw (looseW vw [])).map (·.name)), tabsOk vw t.abs)) = some (true, (K0.heap_1 w.params).map (fun p => some p.2), [514].map (fun _ => some (tabObj #[])), expectedOf vw, bltViewBooted, true, true) := fun w os => by kernel_rfl
theorem Hs : ∀ w os, (GU w os).map (fun t => (true && t.abs.heap.accountedOkI (importedModules PySem.Challenge.pw_no0010_01.main.body) && t.abs.heap.isNs mainGlobals && t.abs.heap.isNs builtinsNs && tablesOk vw t.abs.heap && (fun s => xlAt vw [] s && recOk (RowW.records (PySem.Challenge.rw_no0010_01.row.toRowW)) s) t.abs && (if true then t.abs.gens.size == 0 else !leftWithCleanup t.abs.gens), pinSeenD vw (drecsOf vw) t.abs, plainSeenE vw (looseW vw []) t.abs, plainSeenD vw [] t.abs, wideSeen vw t.abs, clsSeenW vw [] t.abs)) = some (true, pinGoodD (drecsOf vw), plainGoodE vw (looseW vw []), plainGoodD vw [], wideGood vw, clsGoodW vw []) := fun w os => by kernel_rfl
theorem F9 : ∀ w os, (GU w os).map (fun t => (staticsOk (importedModules PySem.Challenge.pw_no0010_01.main.body) (boot_heap w.params) t.abs.heap && namesBound PySem.Challenge.pw_no0010_01 t.abs.heap && gensDone t.abs && laidKept (boot_heap w.params) t.abs.heap)) = some true := fun w os => by
 obtain ⟨t, r, a⟩ := Option.map_eq_some_iff.mp (GT w os)
 rw [r]; exact congrArg some (Prod.mk.inj a).1
theorem Ga : ∀ w os, (GU w os).map (fun t => Hook.obs (kmHook K0.heap_1 Cm pz [514]) t.abs) = some (Hook.val (kmHook K0.heap_1 Cm pz [514]) w) := fun w os => by
 obtain ⟨t, r, a⟩ := Option.map_eq_some_iff.mp (GT w os)
 rw [r]
 obtain ⟨b, a⟩ := Prod.mk.inj (Prod.mk.inj a).2
 replace a := (Prod.mk.inj a).1
 rw [show rP t = t.abs.heap.get? from funext fun a => Cf t a] at a b
 show some (Cm.map t.abs.heap.get?, [514].map t.abs.heap.get?) = some (_, _)
 rw [a, b]
theorem Gb : ∀ w os, (GU w os).map (fun t => openSeen vw [] (importedModules PySem.Challenge.pw_no0010_01.main.body) (fun s => xlAt vw [] s && recOk (RowW.records (PySem.Challenge.rw_no0010_01.row.toRowW)) s) true t.abs) = some (openGood vw []) := fun w os => by
 obtain ⟨t, r, a⟩ := Option.map_eq_some_iff.mp (GT w os)
 have b := Hs w os
 rw [r] at b ⊢
 exact congrArg some (HK (Prod.mk.inj (Prod.mk.inj (Prod.mk.inj a).2).2).2 (Option.some.inj b))
noncomputable def hd := fun h => show PySem.Challenge.rw_no0010_01.Holds from holds_law (by kernel_rfl) fun said => PySem.W.holds_open (q := vw) (loose := []) (Xt := fun s => xlAt vw [] s && recOk (RowW.records (PySem.Challenge.rw_no0010_01.row.toRowW)) s) (XP := XL vw []) (Yf := Hook.obs (kmHook K0.heap_1 Cm pz [514])) (Ya := Hook.val (kmHook K0.heap_1 Cm pz [514])) (YP := Hook.says (kmHook K0.heap_1 Cm pz [514])) (N := 3500) (Ce HG Cg Aj F9 Gb Ga) (Hook.of (kmHook K0.heap_1 Cm pz [514])) (Hook.keeps (kmHook K0.heap_1 Cm pz [514])) (fun s e => xl_of s (Bool.and_eq_true_iff.mp e).1) XL.keeps (by rfl) (by rfl) (by rfl) (fun s e => recFacts_of (Bool.and_eq_true_iff.mp e).2) (by rfl) said (by decide +kernel) ⟨rfl, rfl, rfl, rfl, rfl, by decide +kernel⟩ (by w_witness2) h
section
theorem al {α : Type} {a : α} {l : List α} : (a :: l)[0]? = some a := rfl
theorem au {α : Type} {a : α} {l : List α} {i : Nat} : (a :: l)[i + 1]? = l[i]? := rfl
theorem az {α : Type} {a : α} {l m : List α} : (a :: l) ++ m = a :: (l ++ m) := rfl
theorem ay {α : Type} (l : List α) : [] ++ l = l := rfl
theorem aB {α : Type} {a : α} {l : List α} : (a :: l).length = l.length + 1 := rfl
theorem aM {α : Type} : ([] : List α).length = 0 := rfl
theorem aK {α : Type} {a b : α} {l : List α} : (a :: l).set 0 b = b :: l := rfl
theorem aY {α : Type} {a b : α} {l : List α} {i : Nat} : (a :: l).set (i + 1) b = a :: l.set i b := rfl
theorem bV {α : Type} {l : List α} : l.take 0 = [] := rfl
theorem ci {α : Type} {a : α} {l : List α} {i : Nat} : (a :: l).take (i + 1) = a :: l.take i := rfl
theorem bk {α β : Type} {f : α → β} {a : α} {l : List α} : (a :: l).map f = f a :: l.map f := rfl
theorem bF {α β : Type} {f : α → β} : ([] : List α).map f = [] := rfl
theorem cR {α : Type} {a : α} : List.replicate 0 a = [] := rfl
theorem cS {α : Type} {a : α} {n : Nat} : List.replicate (n + 1) a = a :: List.replicate n a := rfl
theorem eX {α : Type} {l m : List α} : (l ++ m).length = l.length + m.length := List.length_append
theorem HI {α β : Type} {M : Model} {A : Around} {E : Value → Shared → Prop} {s : Shared} {m : Sem α} {f : α → Sem β} {Q : β → Shared → Prop} (h : wpAny M A m (fun a s' => wpAny M A (f a) Q E s') E s) : wpAny M A (m >>= f) Q E s := wpAny_bind h
theorem HJ {α : Type} {M : Model} {A : Around} {E : Value → Shared → Prop} {s : Shared} {a : α} {Q : α → Shared → Prop} (h : Q a s) : wpAny M A (pure a) Q E s := wpAny_pure h
theorem HM {α : Type} {l : List α} {i : Nat} {a : α} (h : l[i]? = some a) : a ∈ l := List.mem_of_getElem? h
theorem HL {α : Type} {a b : α} {l : List α} (h : a ∈ b :: l) : a = b ∨ a ∈ l := List.mem_cons.mp h
theorem aV {a : Prop} : (True ∧ a) = a := true_and a
theorem c8 {α : Type} {a : α} {l : List α} : a ∈ a :: l := List.mem_cons_self
theorem dP {α : Type} {a : α} (b : α) {l : List α} (h : a ∈ l) : a ∈ b :: l := List.mem_cons_of_mem b h
theorem dI {α β : Type} {f : α → β} {l : List α} : (l.map f).length = l.length := List.length_map ..
def HO : Lean.Syntax := Lean.Unhygienic.run `(Lean.Parser.Tactic.tacticSeq| size_fits)
def aR : Lean.Syntax := Lean.Unhygienic.run `(Lean.Parser.Tactic.tacticSeq| rfl)
def aD : Lean.Syntax := Lean.Unhygienic.run `(Lean.Parser.Tactic.tacticSeq| decide)
def aI : Lean.Syntax := Lean.Unhygienic.run `(Lean.Parser.Tactic.tacticSeq| intro _; rfl)
def aJ : Lean.Syntax := Lean.Unhygienic.run `(Lean.Parser.Tactic.tacticSeq| intro _ _; rfl)
def aU : Lean.Syntax := Lean.Unhygienic.run `(Lean.Parser.Tactic.tacticSeq| with_unfolding_all rfl)
def aS : Lean.Syntax := Lean.Unhygienic.run `(Lean.Parser.Tactic.tacticSeq| assumption)
def aP : Lean.Syntax := Lean.Unhygienic.run `(Lean.Parser.Tactic.tacticSeq| exact ⟨rfl, rfl⟩)
def aQ : Lean.Syntax := Lean.Unhygienic.run `(Lean.Parser.Tactic.tacticSeq| exact ⟨Or.inl rfl, rfl, rfl⟩)
theorem nA {n m k : Nat} (h : autoParam (n ≤ m) aS) (h2 : autoParam (m ≤ k) aD) : n ≤ k := Nat.le_trans h h2
theorem nB {n m k : Nat} (h : autoParam (n ≤ m) aS) (h2 : autoParam (m < k) aD) : n < k := Nat.lt_of_le_of_lt h h2
theorem nD {n m : Nat} (h : autoParam (¬ n < m) aS) : m ≤ n := Nat.not_lt.mp h
theorem nF {n m : Nat} (h : autoParam (n ≤ m) aS) : n ≤ m + 1 := Nat.le_succ_of_le h
theorem nG {n m k : Nat} (h : autoParam (n < m) aS) (h2 : autoParam (m ≤ k) aS) : n < k := Nat.lt_of_lt_of_le h h2
theorem nH {n m k : Nat} (h : autoParam (n ≤ m) aS) (h2 : autoParam (m ≤ k) aS) : n ≤ k := Nat.le_trans h h2
theorem nI {n m k : Nat} (h : autoParam (n ≤ m) aS) (h2 : autoParam (m < k) aS) : n < k := Nat.lt_of_le_of_lt h h2
theorem nJ {n m l k : Nat} (h : autoParam (n < m) aS) (h2 : autoParam (m ≤ l) aS) (h3 : autoParam (l ≤ k) aD) : n < k := Nat.lt_of_lt_of_le h (Nat.le_trans h2 h3)
theorem nL {n m l k : Nat} (h : autoParam (n ≤ m) aS) (h2 : autoParam (m ≤ l) aS) (h3 : autoParam (l ≤ k) aD) : n ≤ k := Nat.le_trans h (Nat.le_trans h2 h3)
theorem nM {n m : Nat} (h : autoParam (n < m) aS) : n ≤ m := Nat.le_of_lt h
theorem ooK {P : Prop} (h : autoParam P aS) : P := h
theorem ooP {a b k : Int} (h : autoParam (a ≤ b) aS) (h2 : autoParam (b < k) aD) : a < k := Int.lt_of_le_of_lt h h2
theorem ooQ {k b a : Int} (h : autoParam (b ≤ a) aS) (h2 : autoParam (k ≤ b) aD) : k ≤ a := Int.le_trans h2 h
theorem ooR {a : Int} {n : Nat} (h : autoParam (a ≤ 0) aD) : a ≤ (n : Int) := Int.le_trans h (Int.natCast_nonneg n)
theorem ooS {n c : Nat} {k : Int} (h : autoParam (n ≤ c) aS) (h2 : autoParam ((c : Int) < k) aD) : (n : Int) < k := Int.lt_of_le_of_lt (Int.ofNat_le.mpr h) h2
theorem ooT {n m c : Nat} {k : Int} (h : autoParam (n < m) aS) (h2 : autoParam (m ≤ c) aS) (h3 : autoParam ((c : Int) ≤ k) aD) : (n : Int) < k := Int.lt_of_lt_of_le (Int.ofNat_lt.mpr (Nat.lt_of_lt_of_le h h2)) h3
theorem ooY {k m n : Nat} (h : autoParam (m ≤ n) aS) (h2 : autoParam (k < m) aD) : k < n := Nat.lt_of_lt_of_le h2 h
theorem ooE {k m n : Nat} (h : autoParam (m ≤ n) aS) (h2 : autoParam (k ≤ m) aD) : k ≤ n := Nat.le_trans h2 h
theorem ooV {x c : Int} (h : autoParam (0 ≤ x) aS) (h2 : autoParam (x < c) aS) (h3 : autoParam (c ≤ 21) aD) : x.natAbs ≤ 20 := by lia
theorem ooW {n m : Nat} (h : autoParam (n < m) aS) : (n : Int) < m := Int.ofNat_lt.mpr h
theorem ooX {n m : Nat} (h : autoParam (n ≤ m) aS) : (n : Int) ≤ m := Int.ofNat_le.mpr h
theorem ooZ {n m : Nat} (h : autoParam ((n : Int) < m) aS) : n < m := Int.ofNat_lt.mp h
inductive G2 {T0 T1 : Type} (P : T0 → T1 → Prop) : Prop
 | mk (x0 : T0) (x1 : T1) (h : P x0 x1)
inductive Fc {T0 T1 T2 : Type} (P : T0 → T1 → T2 → Prop) : Prop
 | mk (x0 : T0) (x1 : T1) (x2 : T2) (h : P x0 x1 x2)
inductive EZ {T0 T1 T2 T3 : Type} (P : T0 → T1 → T2 → T3 → Prop) : Prop
 | mk (x0 : T0) (x1 : T1) (x2 : T2) (x3 : T3) (h : P x0 x1 x2 x3)
inductive Fd {T0 T1 T2 T3 T4 : Type} (P : T0 → T1 → T2 → T3 → T4 → Prop) : Prop
 | mk (x0 : T0) (x1 : T1) (x2 : T2) (x3 : T3) (x4 : T4) (h : P x0 x1 x2 x3 x4)
inductive HA {T0 T1 T2 T3 T4 T5 : Type} (P : T0 → T1 → T2 → T3 → T4 → T5 → Prop) : Prop
 | mk (x0 : T0) (x1 : T1) (x2 : T2) (x3 : T3) (x4 : T4) (x5 : T5) (h : P x0 x1 x2 x3 x4 x5)
inductive Ht {T0 T1 T2 T3 T4 T5 T6 : Type} (P : T0 → T1 → T2 → T3 → T4 → T5 → T6 → Prop) : Prop
 | mk (x0 : T0) (x1 : T1) (x2 : T2) (x3 : T3) (x4 : T4) (x5 : T5) (x6 : T6) (h : P x0 x1 x2 x3 x4 x5 x6)
inductive GW {T0 T1 T2 T3 T4 T5 T6 T7 : Type} (P : T0 → T1 → T2 → T3 → T4 → T5 → T6 → T7 → Prop) : Prop
 | mk (x0 : T0) (x1 : T1) (x2 : T2) (x3 : T3) (x4 : T4) (x5 : T5) (x6 : T6) (x7 : T7) (h : P x0 x1 x2 x3 x4 x5 x6 x7)
inductive HB {T0 T1 T2 T3 T4 T5 T6 T7 T8 : Type} (P : T0 → T1 → T2 → T3 → T4 → T5 → T6 → T7 → T8 → Prop) : Prop
 | mk (x0 : T0) (x1 : T1) (x2 : T2) (x3 : T3) (x4 : T4) (x5 : T5) (x6 : T6) (x7 : T7) (x8 : T8) (h : P x0 x1 x2 x3 x4 x5 x6 x7 x8)
inductive Gk {T0 T1 T2 T3 T4 T5 T6 T7 T8 T9 : Type} (P : T0 → T1 → T2 → T3 → T4 → T5 → T6 → T7 → T8 → T9 → Prop) : Prop
 | mk (x0 : T0) (x1 : T1) (x2 : T2) (x3 : T3) (x4 : T4) (x5 : T5) (x6 : T6) (x7 : T7) (x8 : T8) (x9 : T9) (h : P x0 x1 x2 x3 x4 x5 x6 x7 x8 x9)
inductive G3 {T0 T1 T2 T3 T4 T5 T6 T7 T8 T9 T10 : Type} (P : T0 → T1 → T2 → T3 → T4 → T5 → T6 → T7 → T8 → T9 → T10 → Prop) : Prop
 | mk (x0 : T0) (x1 : T1) (x2 : T2) (x3 : T3) (x4 : T4) (x5 : T5) (x6 : T6) (x7 : T7) (x8 : T8) (x9 : T9) (x10 : T10) (h : P x0 x1 x2 x3 x4 x5 x6 x7 x8 x9 x10)
inductive G4 {T0 T1 T2 T3 T4 T5 T6 T7 T8 T9 T10 T11 : Type} (P : T0 → T1 → T2 → T3 → T4 → T5 → T6 → T7 → T8 → T9 → T10 → T11 → Prop) : Prop
 | mk (x0 : T0) (x1 : T1) (x2 : T2) (x3 : T3) (x4 : T4) (x5 : T5) (x6 : T6) (x7 : T7) (x8 : T8) (x9 : T9) (x10 : T10) (x11 : T11) (h : P x0 x1 x2 x3 x4 x5 x6 x7 x8 x9 x10 x11)
inductive G5 {T0 T1 T2 T3 T4 T5 T6 T7 T8 T9 T10 T11 T12 T13 : Type} (P : T0 → T1 → T2 → T3 → T4 → T5 → T6 → T7 → T8 → T9 → T10 → T11 → T12 → T13 → Prop) : Prop
 | mk (x0 : T0) (x1 : T1) (x2 : T2) (x3 : T3) (x4 : T4) (x5 : T5) (x6 : T6) (x7 : T7) (x8 : T8) (x9 : T9) (x10 : T10) (x11 : T11) (x12 : T12) (x13 : T13) (h : P x0 x1 x2 x3 x4 x5 x6 x7 x8 x9 x10 x11 x12 x13)
inductive Hu (A0 A1 : Prop) : Prop
 | mk (h0 : A0) (h1 : A1)
inductive Gm (A0 A1 A2 : Prop) : Prop
 | mk (h0 : A0) (h1 : A1) (h2 : A2)
inductive Ef (A0 A1 A2 A3 : Prop) : Prop
 | mk (h0 : A0) (h1 : A1) (h2 : A2) (h3 : A3)
inductive GX (A0 A1 A2 A3 A4 : Prop) : Prop
 | mk (h0 : A0) (h1 : A1) (h2 : A2) (h3 : A3) (h4 : A4)
inductive Gc (A0 A1 A2 A3 A4 A5 : Prop) : Prop
 | mk (h0 : A0) (h1 : A1) (h2 : A2) (h3 : A3) (h4 : A4) (h5 : A5)
inductive Hv (A0 A1 A2 A3 A4 A5 A6 : Prop) : Prop
 | mk (h0 : A0) (h1 : A1) (h2 : A2) (h3 : A3) (h4 : A4) (h5 : A5) (h6 : A6)
inductive G6 (A0 A1 A2 A3 A4 A5 A6 A7 : Prop) : Prop
 | mk (h0 : A0) (h1 : A1) (h2 : A2) (h3 : A3) (h4 : A4) (h5 : A5) (h6 : A6) (h7 : A7)
inductive G7 (A0 A1 A2 A3 A4 A5 A6 A7 A8 A9 A10 A11 : Prop) : Prop
 | mk (h0 : A0) (h1 : A1) (h2 : A2) (h3 : A3) (h4 : A4) (h5 : A5) (h6 : A6) (h7 : A7) (h8 : A8) (h9 : A9) (h10 : A10) (h11 : A11)
inductive G8 (A0 A1 A2 A3 A4 A5 A6 A7 A8 A9 A10 A11 A12 A13 : Prop) : Prop
 | mk (h0 : A0) (h1 : A1) (h2 : A2) (h3 : A3) (h4 : A4) (h5 : A5) (h6 : A6) (h7 : A7) (h8 : A8) (h9 : A9) (h10 : A10) (h11 : A11) (h12 : A12) (h13 : A13)
theorem wz {m j z : Nat} (h : m - j = z + 1) : m - (j + 1) = z := (Nat.sub_succ m j).trans (congrArg Nat.pred h)
theorem Fe {m j z : Nat} (h : m - j = z + 1) : j < m := Nat.lt_of_sub_eq_succ h
theorem Cn {m i : Nat} (h : i < m) : m + 1 - (i + 1) < m + 1 - i := Nat.sub_lt_sub_left (Nat.lt_succ_of_lt h) (Nat.lt_succ_self i)
theorem pD {y u : Int} (h : y.natAbs = u.natAbs) : y.natAbs = (-u).natAbs := h.trans (Int.natAbs_neg u).symm
theorem HC {q n : Nat} (h : (q : Int) < (n : Int) - 1) : q + 1 < n := Int.ofNat_lt.mp (show ((q + 1 : Nat) : Int) < n from Int.add_lt_of_lt_sub_right h)
theorem Gn {α : Type} {l : List α} {i n : Nat} (h : l.length ≤ n) : (l.take i).length + (l.drop (i + 1)).length ≤ n := by
 rw [← eX, ← List.eraseIdx_eq_take_drop_succ]
 exact Nat.le_trans (List.eraseIdx_sublist l i).length_le h
theorem Ff {b c : Nat} (h : b ≤ c) : c + 1 - b = c - b + 1 := Nat.succ_sub h
theorem E0 {b c n : Nat} (h : b < c) (h2 : c ≤ n) : ¬ min (c - b) (n - b) = 0 := Nat.ne_of_gt (Nat.lt_min.mpr ⟨Nat.sub_pos_of_lt h, Nat.sub_pos_of_lt (Nat.lt_of_lt_of_le h h2)⟩)
theorem G9 {w b c : Nat} (h1 : b ≤ c) (h2 : w ≤ b) : w + (c - b + 1) ≤ c + 1 := Nat.le_trans (Nat.add_le_add_right h2 _) (Nat.le_of_eq (by rw [← Nat.add_assoc, Nat.add_sub_of_le h1]))
theorem Ha {b : Int} (h : 0 < b ∧ b < 2 ^ 20) : b.natAbs < 1073741824 := Int.natAbs_lt_natAbs_of_nonneg_of_lt (b := 1073741824) (Int.le_of_lt h.1) (Int.lt_of_lt_of_le h.2 (by decide))
theorem Go {a n d e c : Nat} (h : a + 20 * n + 200 < c) (hd : d ≤ 50) : a + min (d + 1) (e + 1) < c := Nat.lt_of_le_of_lt (Nat.le_trans (Nat.add_le_add_left (Nat.le_trans (Nat.min_le_left _ _) (Nat.le_trans (Nat.succ_le_succ hd) (by decide : 51 ≤ 200))) a) (Nat.add_le_add_right (Nat.le_add_right a _) 200)) h
theorem E1 {i n : Nat} (h : i ≤ n) (h2 : ¬ i < n) : i = n := Nat.le_antisymm h (Nat.not_lt.mp h2)
theorem Fg {a b : Nat} (h : b < a) : a - b = a - (b + 1) + 1 := (Nat.succ_pred_eq_of_pos (Nat.sub_pos_of_lt h)).symm
theorem Gp {j m : Nat} (h : j ≤ m) (h2 : m - j = 0) : j = m := Nat.le_antisymm h (Nat.sub_eq_zero_iff_le.mp h2)
theorem Fh {a : Int} (h : -(2 ^ 60) ≤ a) : -2 ^ 63 ≤ a := Int.le_trans (by decide) h
theorem Fi {a : Int} (h : a < 2 ^ 60) : a < 2 ^ 63 := Int.lt_of_lt_of_le h (by decide)
theorem o0 {α : Type} {l : List α} (h : l.length = 1) : ∃ a, l = [a] := List.length_eq_one_iff.mp h
theorem zv {α : Type} {l : List α} {n : Nat} (h : l.length = n + 1) : ∃ a r, l = a :: r ∧ r.length = n := by
 cases l with
 | nil => cases h
 | cons a r => exact ⟨a, r, rfl, by simpa using h⟩
theorem mn {α : Type} {l : List α} (h : l.length = 2) : ∃ a b, l = [a, b] := by
 obtain ⟨a, r, rfl, h2⟩ := zv h; obtain ⟨b, rfl⟩ := o0 h2; exact ⟨a, b, rfl⟩
theorem wA {α : Type} {l : List α} (h : l.length = 3) : ∃ a b c, l = [a, b, c] := by
 obtain ⟨a, r, rfl, h2⟩ := zv h; obtain ⟨b, c, rfl⟩ := mn h2; exact ⟨a, b, c, rfl⟩
theorem Fj {α : Type} {l : List α} (h : l.length = 4) : ∃ a b c d, l = [a, b, c, d] := by
 obtain ⟨a, r, rfl, h2⟩ := zv h; obtain ⟨b, c, d, rfl⟩ := wA h2; exact ⟨a, b, c, d, rfl⟩
theorem Fk {α : Type} {l : List α} (h : l.length = 5) : ∃ a b c d e, l = [a, b, c, d, e] := by
 obtain ⟨a, r, rfl, h2⟩ := zv h; obtain ⟨b, c, d, e, rfl⟩ := Fj h2; exact ⟨a, b, c, d, e, rfl⟩
noncomputable def kB (h : Heap) (k : Str × Int) (a : Addr) : Prop :=
 GW fun o e n t u v oe ne => Gc (h.get? a = some o) (o.cls = .type "tuple") (o.data = .seq #[.str k.1 t, .ref e, .int 0 u, .int k.2 v] n) (h.get? e = some oe) (oe.cls = .type "tuple") (oe.data = .seq #[] ne)
theorem kB.inj {h : Heap} {a : Addr} {x y : Str × Int} (hx : kB h x a) (hy : kB h y a) : x = y := by
 obtain ⟨o, e, n, t, u, v, oe, ne, ho, hc, hd, _⟩ := hx
 obtain ⟨o', e', n', t', u', v', oe', ne', ho', hc', hd', _⟩ := hy
 obtain rfl : o = o' := Option.some.inj (ho.symm.trans ho')
 rw [hd] at hd'
 injection hd' with h1 _
 have h2 := congrArg Array.toList h1
 simp at h2
 exact Prod.ext h2.1.1 h2.2.2.2.1
theorem kB.keeps {h h' : Heap} {k : Str × Int} {a d : Addr} {o : Obj} {es ep} (x : kB h k a) (ho : h.get? d = some o) (hd : o.data = .dict es ep) (hs : Heap.SameBut d h h') : kB h' k a := by
 obtain ⟨o', e, n, t, u, v, oe, ne, ho', hc, hd', hoe, hce, hde⟩ := x
 have hne : a ≠ d := by
  rintro rfl
  obtain rfl : o' = o := Option.some.inj (ho'.symm.trans ho)
  rw [hd] at hd'; exact nomatch hd'
 have hne2 : e ≠ d := by
  rintro rfl
  obtain rfl : oe = o := Option.some.inj (hoe.symm.trans ho)
  rw [hd] at hde; exact nomatch hde
 exact ⟨o', e, n, t, u, v, oe, ne, (hs.2 a hne).trans ho', hc, hd', (hs.2 e hne2).trans hoe, hce, hde⟩
theorem kB.typeIs {s : Shared} {k : Str × Int} {a : Addr} (x : kB s.heap k a) : s.TypeIs (.ref a) "tuple" := by
 obtain ⟨o, _, _, _, _, _, _, _, ho, hc, _⟩ := x; exact ⟨o, ho, hc⟩
section
variable {prog : Program} {w : World} {A : Around} {E : Value → Shared → Prop} {s : Shared}
theorem tm {α : Type} {M : Model} {A : Around} {E : Value → Shared → Prop} {s : Shared} {c : Bool} {a b : Sem α} {Q : α → Shared → Prop} (hc : c = false) (h : wpAny M A b Q E s) : wpAny M A (if c = true then a else b) Q E s := by
 subst hc; exact h
theorem Gq {α : Type} {M : Model} {A : Around} {E : Value → Shared → Prop} {s : Shared} {c : Bool} {a b : Sem α} {Q : α → Shared → Prop} (hc : c = true) (h : wpAny M A a Q E s) : wpAny M A (if c = true then a else b) Q E s := by
 subst hc; exact h
noncomputable def zw (prog : Program) (w : World) (k : Str × Int) : Int :=
 reduceHash (Builtin.Tuple.tupleHashOf [hashStr w k.1, tupleKeyHash (intKind prog w) [], hashInt 0, hashInt k.2])
theorem qS {h : Heap} {e : Addr} {oe : Obj} {ne : Nat} (hoe : h.get? e = some oe) (hce : oe.cls = .type "tuple") (hde : oe.data = .seq #[] ne) : IsTupleKey (intKind prog w) h [] e := ⟨oe, _, ne, hoe, hce, hde, .nil⟩
theorem Eg {k : Str × Int} {a : Addr} {Q : Int → Shared → Prop} (hu : A.units + 4 < cLine) (hk : kB s.heap k a) (h : Q (zw prog w k) { s with toks := s.toks + 5 }) : wpAny (model prog w) A (pyHash (.ref a)) Q E s := by
 have hT := hk.typeIs
 obtain ⟨o, e, n, t, u, v, oe, ne, ho, hc, hd, hoe, hce, hde⟩ := hk
 unfold pyHash
 first | unfold pyHashByItsType | skip
 first | refine HI (wpAny_cRoomFor_or (.inr (by lia)) ?_) | skip
 refine HI (wpAny_specialOf hT PySem.F.slot_tuple_hash.lookup ?_)
 show wpAny _ _ (if (some (Value.builtin "tuple.__hash__") == some Value.none) = true then _ else _) Q E s
 rw [if_neg (by rw [beq_builtin_none]; exact Bool.false_ne_true)]
 refine HI (wpAny_specialOf hT PySem.F.slot_tuple_hash.lookup ?_)
 show wpAny _ _ (callSpecialIfBoundUnlessNone? (.ref a) "__hash__" _ >>= _) Q E s
 refine HI (wpAny_callSpecialIfBoundUnlessNone?_slot hT PySem.F.slot_tuple_hash (wpAny_call_entry PySem.F.slot_tuple_hash hT PySem.F.entry_tuple_hash ?_ (PySem.F.args_tuple_hash_1 _)))
 show wpAny _ _ (Builtin.Tuple.tupleItemsOf (.ref a) >>= _) _ _ s
 refine HI (wpAny_tupleItemsOf ho hd ?_)
 refine HI ?_
 rw [← Array.forIn_toList]
 show wpAny _ _ (forIn [Value.str k.1 t, .ref e, .int 0 u, .int k.2 v] _ _) _ _ s
 simp only [List.forIn_cons, List.forIn_nil]
 refine HI (HI (wpAny_pyHash_str (HJ ?_)))
 refine HI (HI (wpAny_pyHash_tuple (knd := intKind prog w) (ks := []) (by show A.units + 1 < cLine; lia) (qS hoe hce hde) (HJ ?_)))
 refine HI (HI (wpAny_pyHash_int (HJ ?_)))
 refine HI (HI (wpAny_pyHash_int (HJ ?_)))
 refine HJ ?_
 show wpAny _ _ (retInt (Builtin.Tuple.tupleHashOf [hashStr w k.1, tupleKeyHash (intKind prog w) [], hashInt 0, hashInt k.2])) _ _ _
 refine wpAny_ret_mkInt ?_
 show wpAny _ _ (if (decide (-(2 : Int) ^ 63 ≤ Builtin.Tuple.tupleHashOf [hashStr w k.1, tupleKeyHash (intKind prog w) [], hashInt 0, hashInt k.2]) && decide (Builtin.Tuple.tupleHashOf [hashStr w k.1, tupleKeyHash (intKind prog w) [], hashInt 0, hashInt k.2] < 2 ^ 63)) = true then _ else _) Q E _
 unfold zw reduceHash at h
 by_cases hr : (decide (-(2 : Int) ^ 63 ≤ Builtin.Tuple.tupleHashOf [hashStr w k.1, tupleKeyHash (intKind prog w) [], hashInt 0, hashInt k.2]) && decide (Builtin.Tuple.tupleHashOf [hashStr w k.1, tupleKeyHash (intKind prog w) [], hashInt 0, hashInt k.2] < 2 ^ 63)) = true
 ·rw [if_pos hr]
  rw [if_pos hr] at h
  exact HJ h
 ·rw [if_neg hr]
  rw [if_neg hr] at h
  exact HI (wpAny_rule (HJ h))
theorem zx {x y : Str × Int} {a b : Addr} {P : PySem.Fin → Shared → Prop} (hu : A.units < cLine) (hx : kB s.heap x a) (hy : kB s.heap y b) (h : P (.done (.ret (.bool (decide (x = y))))) s) : wpAny (model prog w) A (Builtin.«tuple.__eq__» ⟨[.ref a, .ref b], []⟩) P E s := by
 have hTb := hy.typeIs
 obtain ⟨oa, ea, na, ta, ua, va, oea, nea, hoa, hca, hda, hoea, hcea, hdea⟩ := hx
 obtain ⟨ob, eb, nb, tb, ub, vb, oeb, neb, hob, hcb, hdb, hoeb, hceb, hdeb⟩ := hy
 show wpAny _ _ (isInstance (.ref b) (.type "tuple") >>= _) _ _ s
 refine HI (wpAny_isInstance hTb isSubtype_tuple_tuple ?_)
 refine tm rfl ?_
 refine HI (wpAny_tupleItemsOf hoa hda ?_)
 refine HI (wpAny_tupleItemsOf hob hdb ?_)
 refine HI ?_
 show wpAny _ _ (forIn [(Value.str x.1 ta, Value.str y.1 tb), (.ref ea, .ref eb), (.int 0 ua, .int 0 ub), (.int x.2 va, .int y.2 vb)] _ _) _ _ s
 simp only [List.forIn_cons, List.forIn_nil]
 refine HI (HI (wpAny_eqBool_str ?_))
 by_cases h1 : x.1 = y.1
 ·rw [decide_eq_true h1]
  refine tm rfl ?_
  refine HJ ?_
  refine HI (HI (wpAny_eqBool_tuple (knd := intKind prog w) (x := []) (y := []) hu (qS hoea hcea hdea) (qS hoeb hceb hdeb) ?_))
  refine tm (by simp) ?_
  refine HJ ?_
  refine HI (HI (wpAny_eqBool_int ?_))
  refine tm (by simp) ?_
  refine HJ ?_
  refine HI (HI (wpAny_eqBool_int ?_))
  by_cases h2 : x.2 = y.2
  ·have e : x = y := Prod.ext h1 h2
   rw [beq_iff_eq.mpr h2]
   refine tm rfl ?_
   refine HJ (HJ ?_)
   rw [decide_eq_true e] at h
   exact HJ h
  ·have e : x ≠ y := fun q => h2 (congrArg Prod.snd q)
   rw [beq_eq_false_iff_ne.mpr h2]
   refine Gq rfl ?_
   refine HI (HJ (HJ (HJ ?_)))
   rw [decide_eq_false e] at h
   exact HJ h
 ·have e : x ≠ y := fun q => h1 (congrArg Prod.fst q)
  rw [decide_eq_false h1]
  refine Gq rfl ?_
  refine HI (HJ (HJ (HJ ?_)))
  rw [decide_eq_false e] at h
  exact HJ h
theorem Bb {x y : Str × Int} {a b : Addr} {Q : Bool → Shared → Prop} (hu : A.units + 4 < cLine) (hx : kB s.heap x a) (hy : kB s.heap y b) (h : Q (decide (x = y)) s) : wpAny (model prog w) A (eqBool (.ref a) (.ref b)) Q E s := by
 unfold eqBool
 try with_reducible refine wpAny_holding ?_
 show wpAny _ _ (if (Value.ref a == Value.ref b) = true then _ else _) Q E s
 by_cases hab : (Value.ref a == Value.ref b) = true
 ·rw [if_pos hab]
  have e : a = b := by have := eq_of_beq hab; injection this
  subst e
  obtain rfl := hx.inj hy
  exact HI (wpAny_rule (HJ (by simpa using h)))
 ·rw [if_neg hab]
  exact HI (wpAny_richCompare_same_room (op := .Eq) hx.typeIs hy.typeIs PySem.F.slot_tuple_eq
   (wpAny_call_entry PySem.F.slot_tuple_eq hx.typeIs PySem.F.entry_tuple_eq (zx (by show A.units + 1 < cLine; lia) hx hy ⟨_, rfl, (fun e => nomatch e), wpAny_truthy_bool h⟩) (PySem.F.args_tuple_eq_2 _ _)) (by lia))
theorem Co {k : Str × Int} {a : Addr} {Q : Bool → Shared → Prop} (hk : kB s.heap k a) (h : Q true s) : wpAny (model prog w) A (eqIsQuiet 8 (.ref a)) Q E s := by
 have hT := hk.typeIs
 obtain ⟨o, e, n, t, u, v, oe, ne, ho, hc, hd, hoe, hce, hde⟩ := hk
 have hTe : s.TypeIs (.ref e) "tuple" := ⟨oe, hoe, hce⟩
 unfold eqIsQuiet
 refine HI (wpAny_specialOf hT PySem.F.slot_tuple_eq.lookup ?_)
 show wpAny _ _ (isInstance (.ref a) (.type "tuple") >>= _) _ _ s
 refine HI (wpAny_isInstance hT isSubtype_tuple_tuple ?_)
 refine tm rfl ?_
 refine HI (wpAny_seqItems ho hd ?_)
 refine HI ?_
 show wpAny _ _ (forIn #[Value.str k.1 t, .ref e, .int 0 u, .int k.2 v] _ _) _ _ s
 rw [← Array.forIn_toList]
 simp only [List.forIn_cons, List.forIn_nil]
 rw [eqIsQuiet_byValue (v := .str k.1 t) _ rfl, eqIsQuiet_byValue (v := .int 0 u) _ rfl, eqIsQuiet_byValue (v := .int k.2 v) _ rfl]
 refine HI (HI (HJ ?_))
 refine tm rfl ?_
 refine HJ ?_
 refine HI (HI ?_)
 unfold eqIsQuiet
 refine HI (wpAny_specialOf hTe PySem.F.slot_tuple_eq.lookup ?_)
 show wpAny _ _ (isInstance (.ref e) (.type "tuple") >>= _) _ _ s
 refine HI (wpAny_isInstance hTe isSubtype_tuple_tuple ?_)
 refine tm rfl ?_
 refine HI (wpAny_seqItems hoe hde ?_)
 refine HI ?_
 show wpAny _ _ (forIn #[] _ _) _ _ s
 rw [← Array.forIn_toList]
 simp only [List.forIn_nil]
 refine HJ ?_
 refine HJ ?_
 refine tm rfl ?_
 refine HJ ?_
 refine HI (HI (HJ ?_))
 refine tm rfl ?_
 refine HJ ?_
 refine HI (HI (HJ ?_))
 refine tm rfl ?_
 refine HJ ?_
 exact HJ (HJ h)
end
noncomputable def zy (prog : Program) (w : World) : HeapKind prog w (Str × Int) where
 is := kB
 hash := zw prog w
 draws := fun _ => 5
 room := fun A => A.units + 4 < cLine
 inj := fun hx hy => hx.inj hy
 keeps := fun x ho hd hs => x.keeps ho hd hs
 pyHash := fun hu hk h => Eg hu hk h
 eqBool := fun hu hx hy h => Bb hu hx hy h
 quiet := fun hk h => Co hk h
end
section
inductive D where
 | none
 | bool (b : Bool)
 | int (i : Int)
 | str (x : Str)
 | tup (ds : List D)
 | ref (a : Addr)
mutual
inductive df (h : Heap) : Value → D → Prop
 | none : df h .none .none
 | bool (b : Bool) : df h (.bool b) (.bool b)
 | int (i : Int) (t : Tok) : df h (.int i t) (.int i)
 | str (x : Str) (t : Tok) : df h (.str x t) (.str x)
 | ref (a : Addr) : df h (.ref a) (.ref a)
 | tup {a : Addr} {vs : List Value} {ds : List D} : h.IsTuple a vs.toArray → bo h vs ds → df h (.ref a) (.tup ds)
inductive bo (h : Heap) : List Value → List D → Prop
 | nil : bo h [] []
 | cons {v : Value} {d : D} {vs : List Value} {ds : List D} : df h v d → bo h vs ds → bo h (v :: vs) (d :: ds)
end
noncomputable def o3 (o : Obj) : Prop := (o.cls = .type "tuple" ∧ ∃ vs n, o.data = .seq vs n) ∨ ∃ vs q t, o.data = .fields vs ∧ vs[1]? = some (.str q t)
theorem o4 {o : Obj} {vs : Array Value} {n : Nat} (hd : o.data = .seq vs n) (hc : o.cls ≠ .type "tuple") : ¬ o3 o := fun t => by
 rcases t with ⟨c, _⟩ | ⟨_, _, _, d, _⟩
 ·exact hc c
 ·rw [hd] at d; cases d
theorem dJ {o : Obj} (h1 : ∀ vs n, o.data ≠ .seq vs n) (h2 : ∀ vs, o.data ≠ .fields vs) : ¬ o3 o := fun t => by
 rcases t with ⟨_, _, _, d⟩ | ⟨_, _, _, d, _⟩
 ·exact h1 _ _ d
 ·exact h2 _ d
theorem gv {o : Obj} {vs : Array Value} (hd : o.data = .fields vs) (h : ∀ q t, vs[1]? ≠ some (.str q t)) : ¬ o3 o := fun t => by
 rcases t with ⟨_, _, _, d⟩ | ⟨_, q, t, d, e⟩
 ·rw [hd] at d; cases d
 ·rw [hd] at d; cases d; exact h q t e
noncomputable def bc (h h' : Heap) : Prop := ∀ a o, h.get? a = some o → o3 o → h'.get? a = some o
theorem bc.refl (h : Heap) : bc h h := fun _ _ e _ => e
theorem bc.trans {h h' h'' : Heap} (x : bc h h') (y : bc h' h'') : bc h h'' := fun a o e c => y a o (x a o e c) c
theorem bc.of_ext {h h' : Heap} (x : ∀ a o, h.get? a = some o → h'.get? a = some o) : bc h h' := fun a o e _ => x a o e
theorem bc.tuple {h h' : Heap} {a : Addr} {vs : Array Value} (g : bc h h') (x : h.IsTuple a vs) : h'.IsTuple a vs := by
 obtain ⟨o, ho, hc, n, hd⟩ := x
 exact ⟨o, g a o ho (.inl ⟨hc, _, n, hd⟩), hc, n, hd⟩
theorem bc.codeRec {h h' : Heap} {cd : Value} {q : Str} (g : bc h h') (x : h.CodeRec cd q) : h'.CodeRec cd q := by
 obtain ⟨c, o, vs, t, e, ho, hd, hq⟩ := x
 exact ⟨c, o, vs, t, e, g c o ho (.inr ⟨vs, q, t, hd, hq⟩), hd, hq⟩
theorem kB.grow {h h' : Heap} {k : Str × Int} {a : Addr} (g : bc h h') (x : kB h k a) : kB h' k a := by
 obtain ⟨o, e, n, t, u, v, oe, ne, ho, hc, hd, hoe, hce, hde⟩ := x
 exact ⟨o, e, n, t, u, v, oe, ne, g _ _ ho (.inl ⟨hc, _, n, hd⟩), hc, hd, g _ _ hoe (.inl ⟨hce, _, ne, hde⟩), hce, hde⟩
theorem bo.ind {h : Heap} {P : List Value → List D → Prop} (h0 : P [] []) (h1 : ∀ {v d vs ds}, df h v d → bo h vs ds → P vs ds → P (v :: vs) (d :: ds)) {vs : List Value} {ds : List D} (r : bo h vs ds) : P vs ds :=
 bo.rec (motive_1 := fun _ _ _ => True) (motive_2 := fun vs ds _ => P vs ds) trivial (fun _ => trivial) (fun _ _ => trivial) (fun _ _ => trivial) (fun _ => trivial) (fun _ _ _ => trivial) h0 (fun x y _ z => h1 x y z) r
theorem df.grow {h h' : Heap} (g : bc h h') {v : Value} {d : D} (r : df h v d) : df h' v d :=
 df.rec (motive_1 := fun v d _ => df h' v d) (motive_2 := fun vs ds _ => bo h' vs ds) .none .bool .int .str .ref (fun x _ z => .tup (g.tuple x) z) .nil (fun _ _ a b => .cons a b) r
theorem bo.grow {h h' : Heap} (g : bc h h') {vs : List Value} {ds : List D} (r : bo h vs ds) : bo h' vs ds := r.ind .nil fun x _ y => .cons (x.grow g) y
theorem df.none_inv {h : Heap} {v : Value} (r : df h v .none) : v = .none := by cases r; rfl
theorem df.bool_inv {h : Heap} {v : Value} {b : Bool} (r : df h v (.bool b)) : v = .bool b := by cases r; rfl
theorem df.int_inv {h : Heap} {v : Value} {i : Int} (r : df h v (.int i)) : ∃ t, v = .int i t := by cases r; exact ⟨_, rfl⟩
theorem df.str_inv {h : Heap} {v : Value} {x : Str} (r : df h v (.str x)) : ∃ t, v = .str x t := by cases r; exact ⟨_, rfl⟩
theorem df.ref_inv {h : Heap} {v : Value} {a : Addr} (r : df h v (.ref a)) : v = .ref a := by cases r; rfl
theorem df.tup_inv {h : Heap} {v : Value} {ds : List D} (r : df h v (.tup ds)) : ∃ a vs, v = .ref a ∧ h.IsTuple a vs.toArray ∧ bo h vs ds := by
 cases r with
 | tup x y => exact ⟨_, _, rfl, x, y⟩
theorem bo.nil_inv {h : Heap} {vs : List Value} (r : bo h vs []) : vs = [] := by cases r; rfl
theorem bo.cons_inv {h : Heap} {vs : List Value} {d : D} {ds : List D} (r : bo h vs (d :: ds)) : ∃ v ws, vs = v :: ws ∧ df h v d ∧ bo h ws ds := by
 cases r with
 | cons x y => exact ⟨_, _, rfl, x, y⟩
theorem bo.length {h : Heap} {vs : List Value} {ds : List D} (r : bo h vs ds) : vs.length = ds.length := bo.ind (P := fun vs ds => vs.length = ds.length) rfl (fun _ _ e => congrArg Nat.succ e) r
theorem bo.at {h : Heap} {vs : List Value} {ds : List D} (r : bo h vs ds) {i : Nat} {d : D} (e : ds[i]? = some d) : ∃ v, vs[i]? = some v ∧ df h v d := by
 refine bo.ind (P := fun vs ds => ∀ (i : Nat) (d : D), ds[i]? = some d → ∃ v, vs[i]? = some v ∧ df h v d) (fun i d e => nomatch e) (fun x _ ih => ?_) r i d e
 intro i d e
 cases i with
 | zero => exact ⟨_, rfl, Option.some.inj e ▸ x⟩
 | succ i => exact ih i d e
theorem bo.at' {h : Heap} {vs : List Value} {ds : List D} (r : bo h vs ds) {i : Nat} {v : Value} (e : vs[i]? = some v) : ∃ d, ds[i]? = some d ∧ df h v d := by
 have hi : i < ds.length := by rw [← r.length]; exact (List.getElem?_eq_some_iff.mp e).1
 obtain ⟨v', e', x⟩ := r.at (i := i) (d := ds[i]) (by simp [hi])
 rw [e] at e'; cases e'
 exact ⟨_, by simp [hi], x⟩
theorem bo.append {h : Heap} {vs vs' : List Value} {ds ds' : List D} (r : bo h vs ds) (z : bo h vs' ds') : bo h (vs ++ vs') (ds ++ ds') := bo.ind (P := fun vs ds => bo h (vs ++ vs') (ds ++ ds')) z (fun x _ y => .cons x y) r
inductive O where
 | list (ds : List D)
 | dict (kvs : List (Int × D))
 | inst (C dx : Addr) (fs : List (Str × D))
 | tdict (kvs : List ((Str × Int) × D))
 | tab (pos : Pos) (qual : Str)
inductive jH (h : Heap) : List DictEntry → List (Str × D) → Prop
 | nil : jH h [] []
 | cons {e : DictEntry} {x : Str} {t : Tok} {d : D} {es : List DictEntry} {fs : List (Str × D)} : e.key = .str x t → df h e.val d → jH h es fs → jH h (e :: es) ((x, d) :: fs)
theorem jH.grow {h h' : Heap} (g : bc h h') {es : List DictEntry} {fs : List (Str × D)} (x : jH h es fs) : jH h' es fs := by
 induction x with
 | nil => exact .nil
 | cons k r _ ih => exact .cons k (r.grow g) ih
inductive kC (h : Heap) : List (Int × Value) → List (Int × D) → Prop
 | nil : kC h [] []
 | cons {k : Int} {v : Value} {d : D} {es : List (Int × Value)} {fs : List (Int × D)} : df h v d → kC h es fs → kC h ((k, v) :: es) ((k, d) :: fs)
theorem kC.grow {h h' : Heap} (g : bc h h') {es : List (Int × Value)} {fs : List (Int × D)} (x : kC h es fs) : kC h' es fs := by
 induction x with
 | nil => exact .nil
 | cons r _ ih => exact .cons (r.grow g) ih
inductive pE (h : Heap) : List ((Str × Int) × Addr × Value) → List ((Str × Int) × D) → Prop
 | nil : pE h [] []
 | cons {k : Str × Int} {a : Addr} {v : Value} {d : D} {es : List ((Str × Int) × Addr × Value)} {fs : List ((Str × Int) × D)} : df h v d → pE h es fs → pE h ((k, a, v) :: es) ((k, d) :: fs)
theorem pE.grow {h h' : Heap} (g : bc h h') {es : List ((Str × Int) × Addr × Value)} {fs : List ((Str × Int) × D)} (x : pE h es fs) : pE h' es fs := by
 induction x with
 | nil => exact .nil
 | cons r _ ih => exact .cons (r.grow g) ih
structure P where
 prog : Program
 w : World
 K : Frag
 mg : Str → Option Value
 mb : Str → Option Value
structure P.Ok (p : P) (h : Heap) : Prop where
 X : p.K.In h
 g : h.Ns mainGlobals p.mg
 b : h.Ns builtinsNs p.mb
 nolimit : h.NoLimit
 nodigits : ∃ mc, h.Ns cStatics mc ∧ mc "sys.int_max_str_digits" = none
 builtins : ∀ x : Str, x ≠ "__name__" → p.mb x = bootBuiltins x
 bmain : ∃ bm ob, p.mg "__builtins__" = some (.ref bm) ∧ bm ≠ builtinsNs ∧ h.get? bm = some ob ∧ ob.cls = .type "module" ∧ ob.dict = some builtinsNs ∧ ob.data = .plain
theorem P.Ok.keeps {p : P} {h h' : Heap} (x : p.Ok h) (hk : ∀ b o, h.get? b = some o → h'.get? b = some o) : p.Ok h' :=
 ⟨x.X.keeps hk, x.g.keeps hk, x.b.keeps hk, x.nolimit.keeps hk, let ⟨mc, a, b⟩ := x.nodigits; ⟨mc, a.keeps hk, b⟩, x.builtins, let ⟨bm, ob, a, b, d, r⟩ := x.bmain; ⟨bm, ob, a, b, hk _ _ d, r⟩⟩
noncomputable def dN (p : P) (h : Heap) (a : Addr) : O → Prop
 | .list ds => ∃ vs : List Value, h.PlainList a vs.toArray ∧ bo h vs ds
 | .dict kvs => (a == sysModules) = false ∧ ∃ kvs', h.DictOf (intKind p.prog p.w) a kvs' ∧ kC h kvs' kvs
 | .inst C dx fs => h.get? a = some (instObj C dx) ∧ (∃ es n, h.get? dx = some (dictOf es n) ∧ jH h es fs) ∧ (fs.map (·.1)).Nodup ∧ fs.length ≤ 100
 | .tdict kvs => (a == sysModules) = false ∧ ∃ xs, h.DictOfH (zy p.prog p.w) a xs ∧ pE h xs kvs
 | .tab pos qual => (h.get? a = some (tabObj #[]) ∨ ∃ c', h.get? a = some (tabObj #[rawInt pos.line, rawInt pos.col, .ref c']) ∧ h.CodeRec (.ref c') qual) ∧ a ≠ mainGlobals
noncomputable def feet : Addr × O → List Addr
 | (a, .inst _ dx _) => [a, dx]
 | (a, _) => [a]
set_option genInjectivity true in
inductive eE where
 | ns (a : Addr) (x : Str)
 | cell (a : Addr)
noncomputable def eE.addr : eE → Addr
 | .ns a _ => a
 | .cell a => a
noncomputable def eE.At (h : Heap) : eE → Value → Prop
 | .ns a x, v => ∃ m, h.Ns a m ∧ m x = some v
 | .cell a, v => h.IsCell a (some v)
noncomputable def eE.Ok (h : Heap) : eE → Prop
 | .ns a _ => ∃ m, h.Ns a m
 | .cell a => ∃ v, h.IsCell a v
structure Cx where
 env : Env
 locs : List eE
 fa : List Addr
 ent : Heap
 fr : Around → Prop := fun _ => True
structure MS where
 vars : List (Option D)
 st : List (Addr × O)
noncomputable def MS.feet (σ : MS) : List Addr := σ.st.flatMap Mine.feet
structure cJ (p : P) (c : Cx) (base : Heap) (σ : MS) (h : Heap) : Prop where
 ok : p.Ok c.ent
 kind : c.env.scope.kind = .function
 entb : ∀ a o, c.ent.get? a = some o → base.get? a = some o
 keep : ∀ a o, base.get? a = some o → h.get? a = some o
 nodl : c.locs.Nodup
 lenv : σ.vars.length = c.locs.length
 vars : ∀ (i : Nat) (l : eE) (d : D), c.locs[i]? = some l → σ.vars[i]? = some (some d) → ∃ v, l.At h v ∧ df h v d
 frm : ∀ l ∈ c.locs, l.Ok h ∧ l.addr ∈ c.fa
 objs : ∀ q ∈ σ.st, dN p h q.1 q.2
 nodup : σ.feet.Nodup
 apart : ∀ a ∈ σ.feet, a ∉ c.fa ∧ base.get? a = none
 faok : ∀ a ∈ c.fa, base.get? a = none ∧ ∃ o, h.get? a = some o ∧ ¬ o3 o
theorem cJ.okh {p : P} {c : Cx} {base : Heap} {σ : MS} {h : Heap} (S : cJ p c base σ h) : p.Ok h := (S.ok.keeps S.entb).keeps S.keep
theorem fw {σ : MS} {q : Addr × O} {a : Addr} (hq : q ∈ σ.st) (ha : a ∈ feet q) : a ∈ σ.feet := List.mem_flatMap.mpr ⟨q, hq, ha⟩
theorem dN.foot {p : P} {h : Heap} {q : Addr × O} (x : dN p h q.1 q.2) {a : Addr} (ha : a ∈ feet q) : ∃ o, h.get? a = some o ∧ ¬ o3 o := by
 obtain ⟨b, o⟩ := q
 cases o with
 | list ds =>
  obtain ⟨vs, ⟨n, e⟩, _⟩ := x
  obtain rfl : a = b := by simpa [feet] using ha
  exact ⟨_, e, o4 rfl (by simp)⟩
 | dict kvs =>
  obtain ⟨_, k, ⟨o, es, ep, e, ⟨hc, _⟩, hd, _⟩, _⟩ := x
  obtain rfl : a = b := by simpa [feet] using ha
  exact ⟨_, e, dJ (fun _ _ z => by rw [hd] at z; cases z) fun _ z => by rw [hd] at z; cases z⟩
 | inst C dx fs =>
  obtain ⟨e, ⟨es, n, e', _⟩, _⟩ := x
  simp only [feet, List.mem_cons, List.not_mem_nil, or_false] at ha
  rcases ha with rfl | rfl
  ·exact ⟨_, e, dJ (fun _ _ z => by simp at z) fun _ z => by simp at z⟩
  ·exact ⟨_, e', dJ (fun _ _ z => by simp at z) fun _ z => by simp at z⟩
 | tdict kvs =>
  obtain ⟨_, k, ⟨o, es, ep, e, ⟨hc, _⟩, hd, _⟩, _⟩ := x
  obtain rfl : a = b := by simpa [feet] using ha
  exact ⟨_, e, dJ (fun _ _ z => by rw [hd] at z; cases z) fun _ z => by rw [hd] at z; cases z⟩
 | tab pos qual =>
  obtain rfl : a = b := by simpa [feet] using ha
  rcases x.1 with e | ⟨c', e, _⟩
  ·exact ⟨_, e, gv rfl (by simp)⟩
  ·exact ⟨_, e, gv rfl (by simp [rawInt])⟩
theorem dN.move {p : P} {h h' : Heap} {q : Addr × O} (x : dN p h q.1 q.2) (g : bc h h') (hk : ∀ a ∈ feet q, ∀ o, h.get? a = some o → h'.get? a = some o) : dN p h' q.1 q.2 := by
 obtain ⟨b, o⟩ := q
 cases o with
 | list ds =>
  obtain ⟨vs, ⟨n, e⟩, r⟩ := x
  exact ⟨vs, ⟨n, hk b (by simp [feet]) _ e⟩, r.grow g⟩
 | dict kvs =>
  obtain ⟨hs, k, ⟨o, es, ep, e, y⟩, r⟩ := x
  exact ⟨hs, k, ⟨o, es, ep, hk b (by simp [feet]) _ e, y⟩, r.grow g⟩
 | inst C dx fs =>
  obtain ⟨e, ⟨es, n, e', r⟩, z⟩ := x
  exact ⟨hk b (by simp [feet]) _ e, ⟨es, n, hk dx (by simp [feet]) _ e', r.grow g⟩, z⟩
 | tdict kvs =>
  obtain ⟨hs, k, ⟨o, es, ep, e, y1, y2, y3, y4, y5⟩, r⟩ := x
  exact ⟨hs, k, ⟨o, es, ep, hk b (by simp [feet]) _ e, y1, y2, y3, fun x hx => kB.grow g (y4 x hx), y5⟩, r.grow g⟩
 | tab pos qual =>
  obtain ⟨x1, x2⟩ := x
  refine ⟨?_, x2⟩
  rcases x1 with e | ⟨c', e, r⟩
  ·exact .inl (hk b (by simp [feet]) _ e)
  ·exact .inr ⟨c', hk b (by simp [feet]) _ e, g.codeRec r⟩
theorem eE.At.at' {h h' : Heap} {l : eE} {v : Value} (x : l.At h v) (hk : ∀ o, h.get? l.addr = some o → h'.get? l.addr = some o) : l.At h' v := by
 cases l with
 | ns a y => obtain ⟨m, hn, e⟩ := x; exact ⟨m, hn.at' hk, e⟩
 | cell a => obtain ⟨o, ho, hd⟩ := x; exact ⟨o, hk o ho, hd⟩
theorem eE.Ok.at' {h h' : Heap} {l : eE} (x : l.Ok h) (hk : ∀ o, h.get? l.addr = some o → h'.get? l.addr = some o) : l.Ok h' := by
 cases l with
 | ns a y => obtain ⟨m, hn⟩ := x; exact ⟨m, hn.at' hk⟩
 | cell a => obtain ⟨v, o, ho, hd⟩ := x; exact ⟨v, o, hk o ho, hd⟩
theorem eE.Ok.ex {h : Heap} {l : eE} (x : l.Ok h) : ∃ o, h.get? l.addr = some o ∧ ¬ o3 o := by
 cases l with
 | ns a y => obtain ⟨m, o, es, ep, e, hd, _⟩ := x; exact ⟨o, e, dJ (fun _ _ z => by rw [hd] at z; cases z) fun _ z => by rw [hd] at z; cases z⟩
 | cell a => obtain ⟨v, o, ho, hd⟩ := x; exact ⟨o, ho, dJ (fun _ _ z => by rw [hd] at z; cases z) fun _ z => by rw [hd] at z; cases z⟩
theorem cJ.move {p : P} {c : Cx} {base : Heap} {σ : MS} {h h' : Heap} (S : cJ p c base σ h) (T : List Addr)
  (hT : ∀ a ∈ T, base.get? a = none ∧ a ∉ c.fa ∧ a ∉ σ.feet ∧ ∀ o, h.get? a = some o → ¬ o3 o)
  (hk : ∀ a o, a ∉ T → h.get? a = some o → h'.get? a = some o) : cJ p c base σ h' ∧ bc h h' := by
 have g : bc h h' := fun a o e hc => hk a o (fun q => (hT a q).2.2.2 o e hc) e
 have kf : ∀ a ∈ c.fa, ∀ o, h.get? a = some o → h'.get? a = some o := fun a ha o e => hk a o (fun q => (hT a q).2.1 ha) e
 refine ⟨⟨S.ok, S.kind, S.entb, fun a o e => hk a o (fun q => by rw [(hT a q).1] at e; cases e) (S.keep a o e), S.nodl, S.lenv, fun i l d hl hd => ?_, fun l hl => ?_, fun q hq => ?_, S.nodup, S.apart, fun a ha => ?_⟩, g⟩
 ·obtain ⟨v, x, r⟩ := S.vars i l d hl hd
  exact ⟨v, x.at' (kf _ (S.frm l (HM hl)).2), r.grow g⟩
 ·obtain ⟨x, y⟩ := S.frm l hl
  exact ⟨x.at' (kf _ y), y⟩
 ·exact (S.objs q hq).move g fun a ha o e => hk a o (fun z => (hT a z).2.2.1 (fw hq ha)) e
 ·obtain ⟨x, o, e, z⟩ := S.faok a ha
  exact ⟨x, o, kf a ha o e, z⟩
theorem cJ.ext {p : P} {c : Cx} {base : Heap} {σ : MS} {h h' : Heap} (S : cJ p c base σ h) (hk : ∀ a o, h.get? a = some o → h'.get? a = some o) : cJ p c base σ h' :=
 (S.move [] (fun _ q => nomatch q) fun a o _ e => hk a o e).1
theorem cJ.floor {p : P} {c : Cx} {base base' : Heap} {σ : MS} {h : Heap} (S : cJ p c base' σ h) (he : ∀ a o, c.ent.get? a = some o → base.get? a = some o)
  (hb : ∀ a o, base.get? a = some o → base'.get? a = some o) : cJ p c base σ h := by
 have nn : ∀ a, base'.get? a = none → base.get? a = none := fun a e => by
  cases q : base.get? a with
  | none => rfl
  | some o => rw [hb a o q] at e; cases e
 exact ⟨S.ok, S.kind, he, fun a o e => S.keep a o (hb a o e), S.nodl, S.lenv, S.vars, S.frm, S.objs, S.nodup, fun a ha => ⟨(S.apart a ha).1, nn a (S.apart a ha).2⟩, fun a ha => ⟨nn a (S.faok a ha).1, (S.faok a ha).2⟩⟩
noncomputable def rise (c : Cx) (σ : MS) (h : Heap) : Heap := hideAll h (σ.feet ++ c.fa)
theorem cJ.rise {p : P} {c : Cx} {base : Heap} {σ : MS} {h : Heap} (S : cJ p c base σ h) : cJ p c (rise c σ h) σ h ∧ ∀ a o, base.get? a = some o → (Mine.rise c σ h).get? a = some o := by
 have up : ∀ a o, base.get? a = some o → (Mine.rise c σ h).get? a = some o := fun a o e => hideAll_get _ (S.keep a o e) fun q => by
  rcases List.mem_append.mp q with q | q
  ·rw [(S.apart a q).2] at e; cases e
  ·rw [(S.faok a q).1] at e; cases e
 refine ⟨⟨S.ok, S.kind, fun a o e => up a o (S.entb a o e), fun a o e => of_hideAll _ e, S.nodl, S.lenv, S.vars, S.frm, S.objs, S.nodup, fun a ha => ⟨(S.apart a ha).1, hideAll_none _ (List.mem_append_left _ ha)⟩, fun a ha => ⟨hideAll_none _ (List.mem_append_right _ ha), (S.faok a ha).2⟩⟩, up⟩
theorem dS {h : Heap} : h.get? h.objs.size = none := Heap.get?_none_of_le (Nat.le_refl _)
theorem cJ.foot_ex {p : P} {c : Cx} {base : Heap} {σ : MS} {h : Heap} (S : cJ p c base σ h) {a : Addr} (ha : a ∈ σ.feet) : ∃ o, h.get? a = some o ∧ ¬ o3 o := by
 obtain ⟨q, hq, hf⟩ := List.mem_flatMap.mp ha
 exact (S.objs q hq).foot hf
theorem cJ.push {p : P} {c : Cx} {base : Heap} {σ : MS} {h h' : Heap} (S : cJ p c base σ h) (q : Addr × O) (hk : ∀ a o, h.get? a = some o → h'.get? a = some o)
  (hq : dN p h' q.1 q.2) (hn : ∀ a ∈ feet q, h.get? a = none) (hd : (feet q).Nodup) : cJ p c base ⟨σ.vars, σ.st ++ [q]⟩ h' := by
 have S' := S.ext hk
 have ff : (⟨σ.vars, σ.st ++ [q]⟩ : MS).feet = σ.feet ++ feet q := by simp [MS.feet]
 have bn : ∀ a ∈ feet q, base.get? a = none := fun a ha => by
  cases e : base.get? a with
  | none => rfl
  | some o => have := S.keep a o e; rw [hn a ha] at this; cases this
 refine ⟨S.ok, S.kind, S.entb, S'.keep, S.nodl, S.lenv, S'.vars, S'.frm, fun r hr => ?_, ?_, fun a ha => ?_, S'.faok⟩
 ·rcases List.mem_append.mp hr with hr | hr
  ·exact S'.objs r hr
  ·obtain rfl := List.mem_singleton.mp hr; exact hq
 ·rw [ff]
  refine List.nodup_append.mpr ⟨S.nodup, hd, fun a ha b hb e => ?_⟩
  obtain ⟨o, z, _⟩ := S.foot_ex ha
  rw [e, hn b hb] at z; cases z
 ·rw [ff] at ha
  rcases List.mem_append.mp ha with ha | ha
  ·exact S.apart a ha
  ·refine ⟨fun z => ?_, bn a ha⟩
   obtain ⟨_, o, e, _⟩ := S.faok a z
   rw [hn a ha] at e; cases e
theorem kD {α β : Type} (f : α → List β) (l : List α) : ∀ (i : Nat) (x y : α), l[i]? = some x → f y = f x → (l.set i y).flatMap f = l.flatMap f := by
 induction l with
 | nil => exact fun _ _ _ h _ => nomatch h
 | cons a l ih =>
  intro i x y h e
  cases i with
  | zero => cases Option.some.inj h; rw [aK, List.flatMap_cons, List.flatMap_cons, e]
  | succ i => rw [aY, List.flatMap_cons, List.flatMap_cons, ih i x y h e]
theorem gh {α β : Type} (f : α → List β) {l : List α} : (l.flatMap f).Nodup → ∀ {i j : Nat} {x y : α}, l[i]? = some x → l[j]? = some y → i ≠ j → ∀ b ∈ f x, b ∉ f y := by
 induction l with
 | nil => exact fun _ _ _ _ _ h => nomatch h
 | cons a l ih =>
  intro hn i j x y hx hy hij b hb hb'
  rw [List.flatMap_cons, List.nodup_append] at hn
  cases i with
  | zero =>
   cases j with
   | zero => exact hij rfl
   | succ j => exact hn.2.2 b (Option.some.inj hx ▸ hb) b (List.mem_flatMap.mpr ⟨y, HM (l := l) hy, hb'⟩) rfl
  | succ i =>
   cases j with
   | zero => exact hn.2.2 b (Option.some.inj hy ▸ hb') b (List.mem_flatMap.mpr ⟨x, HM (l := l) hx, hb⟩) rfl
   | succ j => exact ih hn.2.1 hx hy (fun e => hij (congrArg Nat.succ e)) b hb hb'
set_option tactic.hygienic true in
theorem cJ.put {p : P} {c : Cx} {base : Heap} {σ : MS} {h h' : Heap} (S : cJ p c base σ h) {i : Nat} {a : Addr} {o o' : O} (hi : σ.st[i]? = some (a, o)) (hf : feet (a, o') = feet (a, o))
  (hk : ∀ b ob, b ∉ feet (a, o) → h.get? b = some ob → h'.get? b = some ob) (ho : dN p h' a o') : cJ p c base ⟨σ.vars, σ.st.set i (a, o')⟩ h' ∧ bc h h' := by
 have hm : (a, o) ∈ σ.st := HM hi
 have g : bc h h' := fun b ob e hc => hk b ob (fun q => by
  obtain ⟨o2, e2, n2⟩ := (S.objs _ hm).foot q
  rw [e] at e2; cases e2; exact n2 hc) e
 have kf : ∀ b ∈ c.fa, ∀ ob, h.get? b = some ob → h'.get? b = some ob := fun b hb ob e => hk b ob (fun q => (S.apart b (fw hm q)).1 hb) e
 have ff : (⟨σ.vars, σ.st.set i (a, o')⟩ : MS).feet = σ.feet := kD _ _ _ _ _ hi hf
 refine ⟨⟨S.ok, S.kind, S.entb, fun b ob e => hk b ob (fun q => by rw [(S.apart b (fw hm q)).2] at e; cases e) (S.keep b ob e), S.nodl, S.lenv, fun j l d hl hd => ?_, fun l hl => ?_, fun q hq => ?_, ff ▸ S.nodup, fun b hb => S.apart b (ff ▸ hb), fun b hb => ?_⟩, g⟩
 ·obtain ⟨v, x, r⟩ := S.vars j l d hl hd
  exact ⟨v, x.at' (kf _ (S.frm l (HM hl)).2), r.grow g⟩
 ·obtain ⟨x, y⟩ := S.frm l hl
  exact ⟨x.at' (kf _ y), y⟩
 ·obtain ⟨j, hj⟩ := List.getElem?_of_mem hq
  rw [List.getElem?_set] at hj
  split at hj
  ·rename_i e; subst e
   split at hj
   ·cases hj; exact ho
   ·cases hj
  ·rename_i e
   exact (S.objs q (HM hj)).move g fun b hb ob eb => hk b ob (gh feet S.nodup hj hi (fun z => e z.symm) b hb) eb
 ·obtain ⟨x, ob, e, z⟩ := S.faok b hb
  exact ⟨x, ob, kf b hb ob e, z⟩
theorem jJ {α β : Type} (f : α → List β) {l l' : List α} (h : l.Sublist l') : (l.flatMap f).Sublist (l'.flatMap f) := by
 induction h with
 | slnil => exact .slnil
 | cons a _ ih => rw [List.flatMap_cons]; exact ih.trans (List.sublist_append_right _ _)
 | cons_cons a _ ih => rw [List.flatMap_cons, List.flatMap_cons]; exact ih.append_left _
theorem cJ.less {p : P} {c : Cx} {base : Heap} {σ : MS} {h : Heap} (S : cJ p c base σ h) {st : List (Addr × O)} (hs : st.Sublist σ.st) : cJ p c base ⟨σ.vars, st⟩ h := by
 have hf : (⟨σ.vars, st⟩ : MS).feet.Sublist σ.feet := by
  unfold MS.feet
  exact jJ Mine.feet hs
 exact ⟨S.ok, S.kind, S.entb, S.keep, S.nodl, S.lenv, S.vars, S.frm, fun q hq => S.objs q (hs.subset hq), S.nodup.sublist hf, fun a ha => S.apart a (hf.subset ha), S.faok⟩
noncomputable def MS.trunc (σ : MS) (n : Nat) : MS := ⟨σ.vars, σ.st.take n⟩
theorem cJ.trunc {p : P} {c : Cx} {base : Heap} {σ : MS} {h : Heap} (S : cJ p c base σ h) (n : Nat) : cJ p c base (σ.trunc n) h := S.less (List.take_sublist n _)
noncomputable def nK {α : Type} (_ : α) : Prop := False
theorem nE {α : Type} {P : α → Prop} : ∀ x, nK x → P x := fun _ h => h.elim
noncomputable def Gd {α β : Type} (_ : α) (_ : β) : Prop := False
theorem Gr {α β : Type} {P : α → β → Prop} : ∀ x y, Gd x y → P x y := fun _ _ h => h.elim
noncomputable def dC (d : D) (KB : Bool → Prop) (KI : Int → Prop) (KS : Str → Prop) (KT : List D → Prop) (KR : Addr → Prop) : Prop := match d with
 | .none => False
 | .bool b => KB b
 | .int i => KI i
 | .str x => KS x
 | .tup ds => KT ds
 | .ref a => KR a
section
variable {h : Heap} {v : Value} {d : D} {KB : Bool → Prop} {KI : Int → Prop} {KS : Str → Prop} {KT : List D → Prop} {KR : Addr → Prop}
@[elab_as_elim] theorem fK {P : Value → Prop} (r : df h v d) (H : dC d KB KI KS KT KR) (fB : ∀ b, KB b → P (.bool b)) (fI : ∀ i, KI i → ∀ t, P (.int i t)) (fS : ∀ x, KS x → ∀ t, P (.str x t))
  (fT : ∀ ds, KT ds → ∀ a vs, h.IsTuple a vs.toArray → bo h vs ds → P (.ref a)) (fR : ∀ a, KR a → P (.ref a)) : P v := by
 cases r with
 | none => exact H.elim
 | bool b => exact fB b H
 | int i t => exact fI i H t
 | str x t => exact fS x H t
 | ref a => exact fR a H
 | tup ht rs => exact fT _ H _ _ ht rs
theorem cz {b : Int} : dC (.int b) KB KI KS KT KR = KI b := rfl
theorem eG {b : Str} : dC (.str b) KB KI KS KT KR = KS b := rfl
theorem kE {b : List D} : dC (.tup b) KB KI KS KT KR = KT b := rfl
theorem c9 {b : Addr} : dC (.ref b) KB KI KS KT KR = KR b := rfl
noncomputable def xO (d : D) (K : Bool → Prop) : Prop := dC d K nK nK nK nK
noncomputable def gj (d : D) (K : Int → Prop) : Prop := dC d nK K nK nK nK
noncomputable def o5 (d : D) (K : Str → Prop) : Prop := dC d nK nK K nK nK
noncomputable def Bc (d : D) (K : List D → Prop) : Prop := dC d nK nK nK K nK
noncomputable def qT (d : D) (K : Addr → Prop) : Prop := dC d nK nK nK nK K
theorem dE {b : Bool} : xO (.bool b) KB = KB b := rfl
theorem aq {b : Int} : gj (.int b) KI = KI b := rfl
theorem be {b : Str} : o5 (.str b) KS = KS b := rfl
theorem b8 {b : List D} : Bc (.tup b) KT = KT b := rfl
theorem aF {b : Addr} : qT (.ref b) KR = KR b := rfl
@[elab_as_elim] theorem qU {P : Value → Prop} (r : df h v d) (H : xO d KB) (f : ∀ b, KB b → P (.bool b)) : P v := fK r H f nE nE nE nE
@[elab_as_elim] theorem bL {P : Value → Prop} (r : df h v d) (H : gj d KI) (f : ∀ i, KI i → ∀ t, P (.int i t)) : P v := fK r H nE f nE nE nE
@[elab_as_elim] theorem ec {P : Value → Prop} (r : df h v d) (H : o5 d KS) (f : ∀ x, KS x → ∀ t, P (.str x t)) : P v := fK r H nE nE f nE nE
@[elab_as_elim] theorem mo {P : Value → Prop} (r : df h v d) (H : Bc d KT) (f : ∀ ds, KT ds → ∀ a vs, h.IsTuple a vs.toArray → bo h vs ds → P (.ref a)) : P v := fK r H nE nE nE f nE
@[elab_as_elim] theorem eP {P : Value → Prop} (r : df h v d) (H : qT d KR) (f : ∀ a, KR a → P (.ref a)) : P v := fK r H nE nE nE nE f
end
noncomputable def jn {α : Type} (o : Option α) (K : α → Prop) : Prop := match o with
 | some x => K x
 | none => False
theorem am {α : Type} {x : α} {K : α → Prop} : jn (some x) K = K x := rfl
theorem cK {α : Type} {o : Option α} {K : α → Prop} {P : Prop} (H : jn o K) (f : ∀ x, K x → o = some x → P) : P := by
 cases o with
 | none => exact H.elim
 | some x => exact f x H rfl
noncomputable def aC (ds : List D) (K1 : D → Prop) (K2 : D → D → Prop) (K3 : D → D → D → Prop) : Prop := match ds with
 | [d] => K1 d
 | [d, e] => K2 d e
 | [d, e, f] => K3 d e f
 | _ => False
noncomputable def Hb (_ _ _ : D) : Prop := False
noncomputable def b1 (ds : List D) (K : D → Prop) : Prop := aC ds K Gd Hb
noncomputable def b2 (ds : List D) (K : D → D → Prop) : Prop := aC ds nK K Hb
section
variable {h : Heap} {vs : List Value} {ds : List D} {d e f : D} {K1 : D → Prop} {K2 : D → D → Prop} {K3 : D → D → D → Prop}
theorem gZ : aC [d] K1 K2 K3 = K1 d := rfl
theorem mq : aC [d, e] K1 K2 K3 = K2 d e := rfl
theorem Fm : aC [d, e, f] K1 K2 K3 = K3 d e f := rfl
theorem b6 : b1 [d] K1 = K1 d := rfl
theorem fV : b2 [d, e] K2 = K2 d e := rfl
@[elab_as_elim] theorem wB {P : List Value → Prop} (r : bo h vs ds) (H : aC ds K1 K2 K3) (f1 : ∀ d, K1 d → ∀ v, df h v d → P [v]) (f2 : ∀ d e, K2 d e → ∀ v w, df h v d → df h w e → P [v, w])
  (f3 : ∀ d e f, K3 d e f → ∀ v w x, df h v d → df h w e → df h x f → P [v, w, x]) : P vs := by
 cases r with
 | nil => exact H.elim
 | cons r1 r =>
  cases r with
  | nil => exact f1 _ H _ r1
  | cons r2 r =>
   cases r with
   | nil => exact f2 _ _ H _ _ r1 r2
   | cons r3 r =>
    cases r with
    | nil => exact f3 _ _ _ H _ _ _ r1 r2 r3
    | cons _ _ => exact H.elim
@[elab_as_elim] theorem mr {P : List Value → Prop} (r : bo h vs ds) (H : b1 ds K1) (f1 : ∀ d, K1 d → ∀ v, df h v d → P [v]) : P vs := wB r H f1 Gr fun _ _ _ q => q.elim
@[elab_as_elim] theorem tn {P : List Value → Prop} (r : bo h vs ds) (H : b2 ds K2) (f2 : ∀ d e, K2 d e → ∀ v w, df h v d → df h w e → P [v, w]) : P vs := wB r H nE f2 fun _ _ _ q => q.elim
end
noncomputable def E2 (o : Option (Addr × O)) (KL : Addr → List D → Prop) (KD : Addr → List (Int × D) → Prop) : Prop := match o with
 | some (b, .list xs) => KL b xs
 | some (b, .dict xs) => KD b xs
 | _ => False
noncomputable def oL (o : Option (Addr × O)) (KL : Addr → List D → Prop) : Prop := E2 o KL Gd
noncomputable def jo (d : D) (o : Option (Addr × O)) (K : Addr → List D → Prop) : Prop := qT d fun a => E2 o (fun b xs => a = b ∧ K b xs) Gd
noncomputable def Ar (d : D) (o : Option (Addr × O)) (K : Addr → List (Int × D) → Prop) : Prop := qT d fun a => E2 o Gd fun b xs => a = b ∧ K b xs
section
variable {p : P} {c : Cx} {base h : Heap} {σ : MS} {i : Nat} {KL : Addr → List D → Prop} {KD : Addr → List (Int × D) → Prop} {v : Value} {d : D} {a b : Addr} {xs : List D} {ys : List (Int × D)}
theorem vI : E2 (some (b, .list xs)) KL KD = KL b xs := rfl
theorem xP : E2 (some (b, .dict ys)) KL KD = KD b ys := rfl
theorem cj : oL (some (b, .list xs)) KL = KL b xs := rfl
theorem av : jo (.ref a) (some (b, .list xs)) KL = (a = b ∧ KL b xs) := rfl
theorem wC : Ar (.ref a) (some (b, .dict ys)) KD = (a = b ∧ KD b ys) := rfl
theorem pF {P : Prop} (S : cJ p c base σ h) (H : E2 σ.st[i]? KL KD) (fL : ∀ b xs, KL b xs → σ.st[i]? = some (b, .list xs) → ∀ vs : List Value, h.PlainList b vs.toArray → bo h vs xs → P) (fD : ∀ b xs, KD b xs → σ.st[i]? = some (b, .dict xs) → dN p h b (.dict xs) → P) : P := by
 cases e : σ.st[i]? with
 | none => rw [e] at H; exact H.elim
 | some q =>
  rw [e] at H
  have o := S.objs q (HM e)
  obtain ⟨b, q⟩ := q
  cases q with
  | list xs => exact o.elim fun vs o => fL b xs H e vs o.1 o.2
  | dict xs => exact fD b xs H e o
  | _ => exact H.elim
theorem j3 {P : Prop} (S : cJ p c base σ h) (H : oL σ.st[i]? KL) (fL : ∀ b xs, KL b xs → σ.st[i]? = some (b, .list xs) → ∀ vs : List Value, h.PlainList b vs.toArray → bo h vs xs → P) : P := pF S H fL Gr
@[elab_as_elim] theorem dT {P : Value → Prop} (S : cJ p c base σ h) (r : df h v d) (H : jo d σ.st[i]? KL) (f : ∀ b xs, KL b xs → σ.st[i]? = some (b, .list xs) → ∀ vs : List Value, h.PlainList b vs.toArray → bo h vs xs → P (.ref b)) : P v :=
 eP r H fun a H => pF S H (fun b xs q e vs hl rs => q.1 ▸ f b xs q.2 e vs hl rs) Gr
@[elab_as_elim] theorem vJ {P : Value → Prop} (S : cJ p c base σ h) (r : df h v d) (H : Ar d σ.st[i]? KD) (f : ∀ b xs, KD b xs → σ.st[i]? = some (b, .dict xs) → dN p h b (.dict xs) → P (.ref b)) : P v :=
 eP r H fun a H => pF S H Gr fun b xs q e o => q.1 ▸ f b xs q.2 e o
noncomputable def Cp (d : D) (o : Option (Addr × O)) (K : Addr → O → Prop) : Prop := qT d fun a => jn o fun q => a = q.1 ∧ K q.1 q.2
theorem tq {o : O} {K : Addr → O → Prop} : Cp (.ref a) (some (b, o)) K = (a = b ∧ K b o) := rfl
@[elab_as_elim] theorem tu {P : Value → Prop} {K : Addr → O → Prop} (S : cJ p c base σ h) (r : df h v d) (H : Cp d σ.st[i]? K) (f : ∀ b o, K b o → σ.st[i]? = some (b, o) → dN p h b o → P (.ref b)) : P v :=
 eP r H fun a H => cK H fun q w e => w.1 ▸ f q.1 q.2 w.2 e (S.objs q (HM e))
end
end
section
structure HN (A : Around) (n : Nat) : Prop where
 hd : A.handled = none
 gd : A.guards = some []
 dep : A.depth + n < recursionLimit
 un : A.units + 20 * n + 200 < cLine
structure tv (c : Cx) (A : Around) (n : Nat) : Prop extends HN A n where
 fr : c.fr A
noncomputable abbrev EC := MS → (D → MS → Prop) → Prop
noncomputable abbrev oy := MS → (List D → MS → Prop) → Prop
noncomputable abbrev BC := MS → (Bool → MS → Prop) → Prop
inductive Fl where
 | next | brk | cont | exc
 | ret (d : D)
noncomputable abbrev SC := MS → (Fl → MS → Prop) → Prop
inductive Cq (h : Heap) : Flow → Fl → Prop
 | next : Cq h .next .next
 | brk : Cq h .brk .brk
 | cont : Cq h .cont .cont
 | ret {v : Value} {d : D} : df h v d → Cq h (.ret v) (.ret d)
theorem Cq.grow {h h' : Heap} (g : bc h h') {f : Flow} {fl : Fl} (x : Cq h f fl) : Cq h' f fl := by
 cases x with
 | next => exact .next
 | brk => exact .brk
 | cont => exact .cont
 | ret r => exact .ret (r.grow g)
noncomputable def Ev (p : P) (c : Cx) (n : Nat) (e : Expr) (f : EC) : Prop :=
 ∀ (A : Around) (base : Heap) (σ : MS) (s : Shared) (k : D → MS → Prop) (Q E : _), HN A n → cJ p c base σ s.heap → f σ k →
  (∀ d σ' v h' tk, k d σ' → cJ p c base σ' h' → df h' v d → bc s.heap h' → Q v { s with heap := h', toks := tk }) → wpAny (model p.prog p.w) A (eval e c.env) Q E s
noncomputable def xQ (p : P) (c : Cx) (n : Nat) (es : List Expr) (f : oy) : Prop :=
 ∀ (A : Around) (base : Heap) (σ : MS) (s : Shared) (k : List D → MS → Prop) (pos : Pos) (Q E : _), HN A n → cJ p c base σ s.heap → f σ k →
  (∀ ds σ' vs h' tk, k ds σ' → cJ p c base σ' h' → bo h' vs ds → bc s.heap h' → Q vs { s with heap := h', toks := tk }) → wpAny (model p.prog p.w) A (spliced (backTo pos (starEach es c.env))) Q E s
noncomputable def Tv (p : P) (c : Cx) (n : Nat) (e : Expr) (f : BC) : Prop :=
 ∀ (A : Around) (base : Heap) (σ : MS) (s : Shared) (k : Bool → MS → Prop) (Q E : _), HN A n → cJ p c base σ s.heap → f σ k →
  (∀ b σ' h' tk, k b σ' → cJ p c base σ' h' → bc s.heap h' → Q b { s with heap := h', toks := tk }) → wpAny (model p.prog p.w) A (isTrue e c.env (eval e c.env)) Q E s
noncomputable abbrev XR := Around → Heap → Value → Heap → Prop
noncomputable def Ex (p : P) (c : Cx) (X : XR) (n : Nat) (st : Stmt) (f : SC) : Prop :=
 ∀ (A : Around) (base : Heap) (σ : MS) (s : Shared) (k : Fl → MS → Prop) (Q E : _), tv c A n → cJ p c base σ s.heap → f σ k →
  (∀ fl σ' v h' tk, k fl σ' → cJ p c base σ' h' → Cq h' v fl → bc s.heap h' → Q v { s with heap := h', toks := tk }) →
  (∀ σ' x h' tk, k .exc σ' → X A base x h' → E x { s with heap := h', toks := tk }) → wpAny (model p.prog p.w) A (exec st c.env) Q E s
noncomputable def iZ (p : P) (c : Cx) (X : XR) (n : Nat) (sts : List Stmt) (f : SC) : Prop :=
 ∀ (A : Around) (base : Heap) (σ : MS) (s : Shared) (k : Fl → MS → Prop) (Q E : _), tv c A n → cJ p c base σ s.heap → f σ k →
  (∀ fl σ' v h' tk, k fl σ' → cJ p c base σ' h' → Cq h' v fl → bc s.heap h' → Q v { s with heap := h', toks := tk }) →
  (∀ σ' x h' tk, k .exc σ' → X A base x h' → E x { s with heap := h', toks := tk }) → wpAny (model p.prog p.w) A (execs sts c.env) Q E s
section
variable {p : P} {c : Cx} {n : Nat} {X : XR}
noncomputable def ao (i : Int) : EC := fun σ k => k (.int i) σ
noncomputable def bh (x : Str) : EC := fun σ k => k (.str x) σ
noncomputable def fF (b : Bool) : EC := fun σ k => k (.bool b) σ
noncomputable def g6 : EC := fun σ k => k .none σ
theorem aO {i k pos} : Ev p c n (.Constant (.int i) k pos) (ao i) := fun A base σ s k Q E _ S hf hQ =>
 wpAny_Constant_int (hQ _ σ _ s.heap _ hf S (.int _ _) (bc.refl _))
theorem cm {x k pos} : Ev p c n (.Constant (.str x) k pos) (bh x) := fun A base σ s k Q E _ S hf hQ =>
 wpAny_Constant_str (hQ _ σ _ s.heap _ hf S (.str _ _) (bc.refl _))
theorem jp {b k pos} : Ev p c n (.Constant (.bool b) k pos) (fF b) := fun A base σ s k Q E _ S hf hQ =>
 wpAny_Constant_bool (hQ _ σ _ s.heap s.toks hf S (.bool _) (bc.refl _))
theorem o6 {k pos} : Ev p c n (.Constant .none k pos) g6 := fun A base σ s k Q E _ S hf hQ =>
 wpAny_Constant_none (hQ _ σ _ s.heap s.toks hf S .none (bc.refl _))
noncomputable def tw (c : Cx) (x : Str) (i : Nat) : Prop := c.env.kindOf x = some .local ∧ c.locs[i]? = some (.ns c.env.locals x)
noncomputable def Cr (c : Cx) (x : Str) (i : Nat) (a : Addr) : Prop := (c.env.kindOf x = some .cell ∨ c.env.kindOf x = some .free) ∧ c.env.cells.lookup x = some a ∧ c.locs[i]? = some (.cell a)
noncomputable def ac (i : Nat) : EC := fun σ k => match σ.vars[i]? with | some (some d) => k d σ | _ => False
set_option tactic.hygienic true in
theorem vK {i : Nat} {σ : MS} {k : D → MS → Prop} (h : ac i σ k) : ∃ d, σ.vars[i]? = some (some d) ∧ k d σ := by
 unfold ac at h
 split at h
 ·rename_i d e; exact ⟨d, e, h⟩
 ·exact h.elim
theorem ag {x pos} {i : Nat} (hl : autoParam (tw c x i) aP) (hd : autoParam ((x == ("__debug__" : Str)) = false) aD) : Ev p c n (.Name x pos) (ac i) := fun A base σ s k Q E _ S hf hQ => by
 obtain ⟨d, hd', hk⟩ := vK hf
 obtain ⟨v, ⟨m, hm, hv⟩, r⟩ := S.vars i _ d hl.2 hd'
 exact wpAny_Name (wpAny_loadName_local S.kind hl.1 hm hv (hQ d σ v s.heap s.toks hk S r (bc.refl _))) hd
theorem cC {x pos} {i : Nat} {a : Addr} (hl : autoParam (Cr c x i a) aQ) (hn : autoParam ((x == ("__classdict__" : Str)) = false) aD) (hd : autoParam ((x == ("__debug__" : Str)) = false) aD) : Ev p c n (.Name x pos) (ac i) := fun A base σ s k Q E _ S hf hQ => by
 obtain ⟨d, hd', hk⟩ := vK hf
 obtain ⟨v, hc, r⟩ := S.vars i _ d hl.2.2 hd'
 have q := hQ d σ v s.heap s.toks hk S r (bc.refl _)
 rcases hl.1 with h | h
 ·exact wpAny_Name (wpAny_loadName_cell S.kind h hl.2.1 hc q) hd
 ·exact wpAny_Name (wpAny_loadName_free S.kind h hl.2.1 hc q hn) hd
noncomputable def ad : oy := fun σ k => k [] σ
noncomputable def aa (f : EC) (fs : oy) : oy := fun σ k => f σ fun d σ1 => fs σ1 fun ds σ2 => k (d :: ds) σ2
theorem ah : xQ p c n [] ad := fun A base σ s k pos Q E _ S hf hQ => spliced_none (hQ _ σ _ s.heap s.toks hf S .nil (bc.refl _))
theorem ae {e : Expr} {es : List Expr} {f : EC} {fs : oy} (he : Ev p c n e f) (hes : xQ p c n es fs) (hst : autoParam (starEach (e :: es) c.env = (false, eval e c.env) :: starEach es c.env) aR) :
  xQ p c n (e :: es) (aa f fs) := fun A base σ s k pos Q E R S hf hQ => by
 refine spliced_more (he A base σ s _ _ E R S hf fun d σ1 v h1 t1 hk S1 r1 g1 => ?_) hst
 refine hes A base σ1 _ _ pos _ E R S1 hk fun ds σ2 vs h2 t2 hk2 S2 r2 g2 => ?_
 exact hQ _ σ2 _ h2 t2 hk2 S2 (.cons (r1.grow g2) r2) (g1.trans g2)
noncomputable def Bd (p : P) (op : Operator) (o : D → D → (D → Prop) → Prop) : Prop :=
 ∀ (A : Around) (n : Nat) (s : Shared) (v1 v2 : Value) (d1 d2 : D) (k : D → Prop) (Q E : _), HN A n → p.Ok s.heap → df s.heap v1 d1 → df s.heap v2 d2 → o d1 d2 k →
  (∀ d v h' tk, k d → (∀ a ob, s.heap.get? a = some ob → h'.get? a = some ob) → df h' v d → Q v { s with heap := h', toks := tk }) → wpAny (model p.prog p.w) A (binaryOp op v1 v2) Q E s
noncomputable def bC (o : D → D → (D → Prop) → Prop) (f g : EC) : EC := fun σ k => f σ fun d1 σ1 => g σ1 fun d2 σ2 => o d1 d2 fun d => k d σ2
theorem dB {op : Operator} {l r : Expr} {pos : Pos} {o : D → D → (D → Prop) → Prop} {f g : EC} (ho : Bd p op o) (hl : Ev p c n l f) (hr : Ev p c n r g) : Ev p c n (.BinOp l op r pos) (bC o f g) := fun A base σ s k Q E R S hf hQ => by
 refine wpAny_BinOp (hl A base σ s _ _ E R S hf fun d1 σ1 v1 h1 t1 hk S1 r1 g1 => ?_)
 refine hr A base σ1 _ _ _ E R S1 hk fun d2 σ2 v2 h2 t2 hk2 S2 r2 g2 => ?_
 refine ho A n _ v1 v2 d1 d2 _ _ E R S2.okh (r1.grow g2) r2 hk2 fun d v h' tk hk3 hx r3 => ?_
 exact hQ d σ2 v h' tk hk3 (S2.ext hx) r3 ((g1.trans g2).trans (bc.of_ext hx))
noncomputable def i0 (f : BC) : BC := fun σ k => f σ fun b σ1 => k (!b) σ1
theorem pG {e : Expr} {pos : Pos} {f : BC} (he : Tv p c n e f) : Tv p c n (.UnaryOp .Not e pos) (i0 f) := fun A base σ s k Q E R S hf hQ =>
 wpAny_isTrue_Not (he A base σ s _ _ E R S hf fun b σ1 h1 t1 hk S1 g1 => hQ _ σ1 h1 t1 hk S1 g1)
noncomputable def cH (b : Bool) : BC := fun σ k => k b σ
noncomputable def ip (f g : BC) : BC := fun σ k => f σ fun b σ1 => match b with | true => g σ1 k | false => k false σ1
noncomputable def qR (f g : BC) : BC := fun σ k => f σ fun b σ1 => match b with | true => k true σ1 | false => g σ1 k
noncomputable def Fo (p : P) (c : Cx) (n : Nat) (op : BoolOp) (es : List Expr) (f : BC) : Prop :=
 ∀ (A : Around) (base : Heap) (σ : MS) (s : Shared) (k : Bool → MS → Prop) (Q E : _), HN A n → cJ p c base σ s.heap → f σ k →
  (∀ b σ' h' tk, k b σ' → cJ p c base σ' h' → bc s.heap h' → Q b { s with heap := h', toks := tk }) → wpAny (model p.prog p.w) A (allTrue op es c.env) Q E s
theorem fW : Fo p c n .And [] (cH true) := fun A base σ s k Q E _ S hf hQ => wpAny_allTrue_And_nil (hQ _ σ s.heap s.toks hf S (bc.refl _))
theorem jq : Fo p c n .Or [] (cH false) := fun A base σ s k Q E _ S hf hQ => wpAny_allTrue_Or_nil (hQ _ σ s.heap s.toks hf S (bc.refl _))
theorem fA {e : Expr} {es : List Expr} {f g : BC} (he : Tv p c n e f) (hs : Fo p c n .And es g) : Fo p c n .And (e :: es) (ip f g) := fun A base σ s k Q E R S hf hQ => by
 refine wpAny_allTrue_And_cons (he A base σ s _ _ E R S hf fun b σ1 h1 t1 hk S1 g1 => ?_)
 cases b with
 | false => exact hQ _ σ1 h1 t1 hk S1 g1
 | true => exact hs A base σ1 _ _ _ E R S1 hk fun b σ2 h2 t2 hk2 S2 g2 => hQ _ σ2 h2 t2 hk2 S2 (g1.trans g2)
theorem iO {e : Expr} {es : List Expr} {f g : BC} (he : Tv p c n e f) (hs : Fo p c n .Or es g) : Fo p c n .Or (e :: es) (qR f g) := fun A base σ s k Q E R S hf hQ => by
 refine wpAny_allTrue_Or_cons (he A base σ s _ _ E R S hf fun b σ1 h1 t1 hk S1 g1 => ?_)
 cases b with
 | true => exact hQ _ σ1 h1 t1 hk S1 g1
 | false => exact hs A base σ1 _ _ _ E R S1 hk fun b σ2 h2 t2 hk2 S2 g2 => hQ _ σ2 h2 t2 hk2 S2 (g1.trans g2)
theorem gk {op : BoolOp} {es : List Expr} {pos : Pos} {f : BC} (h : Fo p c n op es f) : Tv p c n (.BoolOp op es pos) f := fun A base σ s k Q E R S hf hQ =>
 wpAny_isTrue_BoolOp (h A base σ s k _ E R S hf hQ)
noncomputable def Be (t : BC) (f g : EC) : EC := fun σ k => t σ fun b σ1 => match b with | true => f σ1 k | false => g σ1 k
theorem xR {t a b : Expr} {pos : Pos} {ft : BC} {f g : EC} (ht : Tv p c n t ft) (ha : Ev p c n a f) (hb : Ev p c n b g) : Ev p c n (.IfExp t a b pos) (Be ft f g) := fun A base σ s k Q E R S hf hQ => by
 refine wpAny_IfExp (ht A base σ s _ _ E R S hf fun b σ1 h1 t1 hk S1 g1 => ?_)
 cases b with
 | true => exact ha A base σ1 _ _ _ E R S1 hk fun d σ2 v h2 t2 hk2 S2 r2 g2 => hQ d σ2 v h2 t2 hk2 S2 r2 (g1.trans g2)
 | false => exact hb A base σ1 _ _ _ E R S1 hk fun d σ2 v h2 t2 hk2 S2 r2 g2 => hQ d σ2 v h2 t2 hk2 S2 r2 (g1.trans g2)
noncomputable def aw : SC := fun σ k => k .next σ
noncomputable def aj (f g : SC) : SC := fun σ k => f σ fun fl σ1 => match fl with | .next => g σ1 k | fl => k fl σ1
theorem aN : iZ p c X n [] aw := fun A base σ s k Q E _ S hf hQ _ => wpAny_execs_nil (hQ _ σ _ s.heap s.toks hf S .next (bc.refl _))
theorem ai {st : Stmt} {sts : List Stmt} {f g : SC} (h1 : Ex p c X n st f) (h2 : iZ p c X n sts g) : iZ p c X n (st :: sts) (aj f g) := fun A base σ s k Q E R S hf hQ hE => by
 refine wpAny_execs_cons (h1 A base σ s _ _ E R S hf (fun fl σ1 v hh1 t1 hk S1 r1 g1 => ?_) fun σ' x h' tk hk hx => hE σ' x h' tk hk hx)
 cases r1 with
 | next => exact h2 A base σ1 _ _ _ E R S1 hk (fun fl σ2 v hh2 t2 hk2 S2 r2 g2 => hQ fl σ2 v hh2 t2 hk2 S2 r2 (g1.trans g2)) fun σ' x h' tk hk2 hx => hE σ' x h' tk hk2 hx
 | brk => exact hQ _ σ1 _ hh1 t1 hk S1 .brk g1
 | cont => exact hQ _ σ1 _ hh1 t1 hk S1 .cont g1
 | ret r => exact hQ _ σ1 _ hh1 t1 hk S1 (.ret r) g1
noncomputable def fu (t : BC) (f g : SC) : SC := fun σ k => t σ fun b σ1 => match b with | true => f σ1 k | false => g σ1 k
theorem dO {t : Expr} {a b : List Stmt} {pos : Pos} {ft : BC} {f g : SC} (ht : Tv p c n t ft) (ha : iZ p c X n a f) (hb : iZ p c X n b g) : Ex p c X n (.If t a b pos) (fu ft f g) := fun A base σ s k Q E R S hf hQ hE => by
 refine wpAny_If (ht A base σ s _ _ E R.1 S hf fun b σ1 h1 t1 hk S1 g1 => ?_)
 cases b with
 | true => exact ha A base σ1 _ _ _ E R S1 hk (fun fl σ2 v h2 t2 hk2 S2 r2 g2 => hQ fl σ2 v h2 t2 hk2 S2 r2 (g1.trans g2)) fun σ' x h' tk hk2 hx => hE σ' x h' tk hk2 hx
 | false => exact hb A base σ1 _ _ _ E R S1 hk (fun fl σ2 v h2 t2 hk2 S2 r2 g2 => hQ fl σ2 v h2 t2 hk2 S2 r2 (g1.trans g2)) fun σ' x h' tk hk2 hx => hE σ' x h' tk hk2 hx
noncomputable def bp (f : EC) : SC := fun σ k => f σ fun d σ1 => k (.ret d) σ1
theorem cr {e : Expr} {pos : Pos} {f : EC} (he : Ev p c n e f) : Ex p c X n (.Return (some e) pos) (bp f) := fun A base σ s k Q E R S hf hQ hE =>
 wpAny_Return_some (he A base σ s _ _ E R.1 S hf fun d σ1 v h1 t1 hk S1 r1 g1 => hQ _ σ1 _ h1 t1 hk S1 (.ret r1) g1)
noncomputable def MS.set (σ : MS) (i : Nat) (d : D) : MS := ⟨σ.vars.set i (some d), σ.st⟩
theorem cJ.setLoc {base : Heap} {σ : MS} {h h' : Heap} (S : cJ p c base σ h) {i : Nat} {l : eE} {d : D} {v : Value} (hl : c.locs[i]? = some l) (r : df h v d)
  (hat : l.At h' v) (hother : ∀ l' ∈ c.locs, l' ≠ l → ∀ u, l'.At h u → l'.At h' u) (hok : ∀ l' ∈ c.locs, l'.Ok h') (hs : Heap.SameBut l.addr h h') : cJ p c base (σ.set i d) h' ∧ bc h h' := by
 have hlm : l ∈ c.locs := HM hl
 obtain ⟨-, hfa⟩ := S.frm l hlm
 obtain ⟨bn, ol, el, nl⟩ := S.faok _ hfa
 have g : bc h h' := fun a o e hc => hs.extBut a o (fun q => by subst q; rw [el] at e; cases e; exact nl hc) e
 refine ⟨⟨S.ok, S.kind, S.entb, fun a o e => hs.extBut a o (fun q => by subst q; rw [bn] at e; cases e) (S.keep a o e), S.nodl, by simp [MS.set, S.lenv], fun j l' d' hl' hd' => ?_, fun l' hl' => ⟨hok l' hl', (S.frm l' hl').2⟩, fun q hq => ?_, S.nodup, S.apart, fun a ha => ?_⟩, g⟩
 ·by_cases hij : i = j
  ·subst hij
   rw [hl] at hl'; cases hl'
   simp only [MS.set, List.getElem?_set, if_true] at hd'
   split at hd'
   ·cases hd'; exact ⟨v, hat, r.grow g⟩
   ·cases hd'
  ·simp only [MS.set, List.getElem?_set, if_neg hij] at hd'
   obtain ⟨u, hu, ru⟩ := S.vars j l' d' hl' hd'
   refine ⟨u, hother l' (HM hl') (fun q => hij ?_) u hu, ru.grow g⟩
   subst q
   exact (List.getElem?_inj (List.getElem?_eq_some_iff.mp hl).1 S.nodl).mp (hl.trans hl'.symm)
 ·exact (S.objs q hq).move g fun a ha o e => hs.extBut a o (fun z => (S.apart a (fw hq ha)).1 (z ▸ hfa)) e
 ·obtain ⟨x, o, e, z⟩ := S.faok a ha
  by_cases hal : a = l.addr
  ·subst hal
   obtain ⟨o', e', n'⟩ := (hok l hlm).ex
   exact ⟨x, o', e', n'⟩
  ·exact ⟨x, o, hs.extBut a o hal e, z⟩
end
end
section
theorem Cs {h : Heap} {a : Addr} {m m' : Str → Option Value} (x : h.Ns a m) (y : h.Ns a m') : m = m' := by
 obtain ⟨o, es, ep, e, hd, _, hf⟩ := x
 obtain ⟨o', es', ep', e', hd', _, hf'⟩ := y
 rw [e] at e'; cases e'
 rw [hd] at hd'; cases hd'
 funext z; rw [← hf, ← hf']
theorem nN {h : Heap} {a : Addr} {m : Str → Option Value} {v : Option Value} (x : h.Ns a m) (y : h.IsCell a v) : False := by
 obtain ⟨o, es, ep, e, hd, _, hf⟩ := x
 obtain ⟨o', e', hd'⟩ := y
 rw [e] at e'; cases e'
 rw [hd] at hd'; cases hd'
section
variable {p : P} {c : Cx} {n : Nat} {X : XR}
noncomputable abbrev GC := D → MS → (MS → Prop) → Prop
noncomputable def Ge (p : P) (c : Cx) (x : Str) (g : GC) : Prop :=
 ∀ (A : Around) (base : Heap) (σ : MS) (s : Shared) (v : Value) (d : D) (k : MS → Prop) (Q E : _), cJ p c base σ s.heap → df s.heap v d → g d σ k →
  (∀ σ' h' tk, k σ' → cJ p c base σ' h' → bc s.heap h' → Q () { s with heap := h', toks := tk }) → wpAny (model p.prog p.w) A (storeName c.env x v) Q E s
noncomputable def aL (i : Nat) : GC := fun d σ k => k (σ.set i d)
theorem bi {x : Str} {i : Nat} (hl : autoParam (tw c x i) aP) : Ge p c x (aL i) := fun A base σ s v d k Q E S r hf hQ => by
 have hlm : eE.ns c.env.locals x ∈ c.locs := HM hl.2
 obtain ⟨⟨m, hm⟩, _⟩ := S.frm _ hlm
 refine wpAny_storeName_local hl.1 hm (fun h' hn hs => ?_) (by rw [S.kind]; rfl)
 have ho : ∀ l' ∈ c.locs, l' ≠ eE.ns c.env.locals x → ∀ u, l'.At s.heap u → l'.At h' u := fun l' hl' hne u hu => by
  cases l' with
  | ns b y =>
   obtain ⟨m', hm', hy⟩ := hu
   by_cases hb : b = c.env.locals
   ·subst hb
    obtain rfl := Cs hm hm'
    refine ⟨_, hn, ?_⟩
    rw [if_neg (fun e => hne (by rw [e]))]; exact hy
   ·exact ⟨m', hm'.sameBut hs hb, hy⟩
  | cell b =>
   by_cases hb : b = c.env.locals
   ·subst hb; exact (nN hm hu).elim
   ·exact Heap.IsCell.sameBut hu hs hb
 have hk : ∀ l' ∈ c.locs, l'.Ok h' := fun l' hl' => by
  obtain ⟨hok, _⟩ := S.frm l' hl'
  cases l' with
  | ns b y =>
   by_cases hb : b = c.env.locals
   ·subst hb; exact ⟨_, hn⟩
   ·obtain ⟨m', hm'⟩ := hok; exact ⟨m', hm'.sameBut hs hb⟩
  | cell b =>
   obtain ⟨u, hu⟩ := hok
   by_cases hb : b = c.env.locals
   ·subst hb; exact (nN hm hu).elim
   ·exact ⟨u, Heap.IsCell.sameBut hu hs hb⟩
 obtain ⟨S', g⟩ := S.setLoc (i := i) (d := d) (v := v) hl.2 r ⟨_, hn, if_pos rfl⟩ ho hk hs
 exact hQ _ h' _ hf S' g
theorem vL {x : Str} {i : Nat} {a : Addr} (hl : Cr c x i a) (hk : c.env.kindOf x = some .cell) : Ge p c x (aL i) := fun A base σ s v d k Q E S r hf hQ => by
 have hlm : eE.cell a ∈ c.locs := HM hl.2.2
 obtain ⟨⟨u0, hu0⟩, _⟩ := S.frm _ hlm
 refine wpAny_storeName_cell S.kind hk hl.2.1 hu0 fun h' hn hs => ?_
 have ho : ∀ l' ∈ c.locs, l' ≠ eE.cell a → ∀ u, l'.At s.heap u → l'.At h' u := fun l' hl' hne u hu => by
  cases l' with
  | ns b y =>
   obtain ⟨m', hm', hy⟩ := hu
   exact ⟨m', hm'.sameBut hs (fun q => by subst q; exact nN hm' hu0), hy⟩
  | cell b => exact Heap.IsCell.sameBut hu hs fun q => hne (by rw [q])
 have hok : ∀ l' ∈ c.locs, l'.Ok h' := fun l' hl' => by
  obtain ⟨hok, _⟩ := S.frm l' hl'
  cases l' with
  | ns b y => obtain ⟨m', hm'⟩ := hok; exact ⟨m', hm'.sameBut hs fun q => by subst q; exact nN hm' hu0⟩
  | cell b =>
   obtain ⟨u, hu⟩ := hok
   by_cases hb : b = a
   ·subst hb; exact ⟨_, hn⟩
   ·exact ⟨u, Heap.IsCell.sameBut hu hs hb⟩
 obtain ⟨S', g⟩ := S.setLoc (i := i) (d := d) (v := v) hl.2.2 r hn ho hok hs
 exact hQ _ h' s.toks hf S' g
noncomputable def As (p : P) (c : Cx) (n : Nat) (t : Expr) (g : GC) : Prop :=
 ∀ (A : Around) (base : Heap) (σ : MS) (s : Shared) (v : Value) (d : D) (k : MS → Prop) (Q E : _), HN A n → cJ p c base σ s.heap → df s.heap v d → g d σ k →
  (∀ σ' h' tk, k σ' → cJ p c base σ' h' → bc s.heap h' → Q () { s with heap := h', toks := tk }) → wpAny (model p.prog p.w) A (assign t c.env v) Q E s
theorem cg {x : Str} {pos : Pos} {g : GC} (h : Ge p c x g) : As p c n (.Name x pos) g := fun A base σ s v d k Q E _ S r hf hQ => wpAny_assign_Name (h A base σ s v d k Q E S r hf hQ)
noncomputable def vM (c : Cx) (x : Str) (i : Nat) : Prop := tw c x i ∨ ∃ a, Cr c x i a ∧ c.env.kindOf x = some .cell
theorem Ct {x : Str} {i : Nat} (h : vM c x i) : Ge p c x (aL i) := by
 rcases h with h | ⟨a, h, hk⟩
 ·exact bi h
 ·exact vL h hk
inductive fX (c : Cx) : List Expr → List Nat → Prop
 | nil : fX c [] []
 | cons {x : Str} {pos : Pos} {r : List Expr} {i : Nat} {is : List Nat} (h : vM c x i) (hr : fX c r is) : fX c (.Name x pos :: r) (i :: is)
theorem lP : fX c [] [] := .nil
theorem cU {x : Str} {pos : Pos} {r : List Expr} {i : Nat} {is : List Nat} (h : vM c x i) (hr : fX c r is) : fX c (.Name x pos :: r) (i :: is) := .cons h hr
noncomputable def MS.setAll (σ : MS) : List Nat → List D → MS
 | i :: is, d :: ds => (σ.set i d).setAll is ds
 | _, _ => σ
theorem Bf {ts : List Expr} {is : List Nat} (h : fX c ts is) : ts.length = is.length ∧ (assignEach ts c.env).length = is.length ∧ (assignEach ts c.env).findIdx? (·.1) = none := by
 induction h with
 | nil => exact ⟨rfl, rfl, rfl⟩
 | @cons x pos r i is h hr ih =>
  have q_a := ih
  refine ⟨by simp [q_a.1], by show (assignEach r c.env).length + 1 = _; rw [q_a.2.1]; rfl, ?_⟩
  show List.findIdx? _ ((false, _) :: assignEach r c.env) = none
  rw [List.findIdx?_cons]; simp [q_a.2.2]
theorem Bg {ts : List Expr} {is : List Nat} (hN : fX c ts is) : ∀ (A : Around) (base : Heap) (σ : MS) (s : Shared) (vs : List Value) (ds : List D) (Q E : _), cJ p c base σ s.heap → bo s.heap vs ds → ds.length = is.length →
  (∀ h' tk, cJ p c base (σ.setAll is ds) h' → bc s.heap h' → Q () { s with heap := h', toks := tk }) → wpAny (model p.prog p.w) A (assignInOrder ((assignEach ts c.env).map (·.2)) vs) Q E s := by
 induction hN with
 | nil =>
  intro A base σ s vs ds Q E S r hl hQ
  obtain rfl := List.length_eq_zero_iff.mp hl
  obtain rfl := bo.nil_inv r
  exact wpAny_assignInOrder_none (hQ s.heap s.toks S (bc.refl _))
 | @cons x pos ts i is h hr ih =>
  intro A base σ s vs ds Q E S r hl hQ
  obtain ⟨d, ds', rfl, hl'⟩ := zv hl
  obtain ⟨v, vs', rfl, r1, r2⟩ := bo.cons_inv r
  refine wpAny_assignInOrder_more (wpAny_assign_Name (Ct h A base σ s v d (fun σ1 => σ1 = σ.set i d) _ E S r1 rfl fun σ1 h1 t1 e1 S1 g1 => ?_))
  subst e1
  exact ih A base _ _ vs' ds' _ E S1 (r2.grow g1) hl' fun h2 t2 S2 g2 => hQ h2 t2 S2 (g1.trans g2)
theorem Cu : ∀ {xs : List Str} {is : List Nat}, xs.length = is.length → (∀ (j : Nat) (x : Str) (i : Nat), xs[j]? = some x → is[j]? = some i → vM c x i) → ∀ (A : Around) (base : Heap) (σ : MS) (s : Shared) (vs : List Value) (ds : List D) (Q E : _), cJ p c base σ s.heap → bo s.heap vs ds → ds.length = is.length →
  (∀ h' tk, cJ p c base (σ.setAll is ds) h' → bc s.heap h' → Q () { s with heap := h', toks := tk }) → wpAny (model p.prog p.w) A (assignInOrder (xs.map fun x => bindName c.env x) vs) Q E s := by
 intro xs
 induction xs with
 | nil =>
  intro is e _ A base σ s vs ds Q E S r hl hQ
  obtain rfl := List.length_eq_zero_iff.mp e.symm
  obtain rfl := List.length_eq_zero_iff.mp hl
  obtain rfl := bo.nil_inv r
  exact wpAny_assignInOrder_none (hQ s.heap s.toks S (bc.refl _))
 | cons x xs ih =>
  intro is he h A base σ s vs ds Q E S r hl hQ
  obtain ⟨i, is, rfl, he'⟩ := zv he.symm
  obtain ⟨d, ds', rfl, hl'⟩ := zv hl
  obtain ⟨v, vs', rfl, r1, r2⟩ := bo.cons_inv r
  refine wpAny_assignInOrder_more (wpAny_bindName (Ct (h 0 x i rfl rfl) A base σ s v d (fun σ1 => σ1 = σ.set i d) _ E S r1 rfl fun σ1 h1 t1 e1 S1 g1 => ?_))
  subst e1
  exact ih he'.symm (fun j y k hy hk => h (j + 1) y k (by simpa using hy) (by simpa using hk)) A base _ _ vs' ds' _ E S1 (r2.grow g1) hl' fun h2 t2 S2 g2 => hQ h2 t2 S2 (g1.trans g2)
noncomputable def gF (is : List Nat) : GC := fun d σ k => match d with | .tup ds => ds.length = is.length ∧ k (σ.setAll is ds) | _ => False
theorem jk {h h' : Heap} (x : Heap.ExtBut h.objs.size h h') : ∀ a o, h.get? a = some o → h'.get? a = some o := fun a o e => x a o (Nat.ne_of_lt (Heap.lt_size e)) e
theorem lQ {ts : List Expr} {k : Nat} {pos : Pos} {is : List Nat} (h : fX c ts is) : As p c n (.Tuple ts k pos) (gF is) := fun A base σ s v d k Q E R S r hf hQ => by
 cases r with
 | @tup a vs ds ht rs =>
  obtain ⟨hl, hk⟩ := hf
  have q_l1 := Bf h
  refine wpAny_assign_Tuple R.hd ht (by rw [q_l1.2.1, ← hl, ← rs.length]; simp) q_l1.2.2 fun h1 hx => ?_
  have S1 := S.ext (jk hx)
  have rs1 := rs.grow (bc.of_ext (jk hx))
  exact Bg h A base σ { s with heap := h1 } vs.toArray.toList ds Q E S1 (by simpa using rs1) hl fun h2 t2 S2 g2 => hQ _ h2 t2 hk S2 ((bc.of_ext (jk hx)).trans g2)
 | _ => exact hf.elim
noncomputable def ba (f : EC) (g : GC) : SC := fun σ k => f σ fun d σ1 => g d σ1 fun σ2 => k .next σ2
theorem cs {x : Str} {pos' pos : Pos} {e : Expr} {f : EC} {g : GC} (he : Ev p c n e f) (hg : Ge p c x g) (hs : autoParam (swapsWith e (some (.Name x pos')) pos.line c.env = pure false) aR) : Ex p c X n (.Assign [.Name x pos'] e pos) (ba f g) := fun A base σ s k Q E R S hf hQ hE =>
 wpAny_Assign_Name (he A base σ s _ _ E R.1 S hf fun d σ1 v h1 t1 hk S1 r1 g1 => hg A base σ1 _ v d _ _ E S1 r1 hk fun σ2 h2 t2 hk2 S2 g2 => hQ _ σ2 _ h2 t2 hk2 S2 .next (g1.trans g2)) hs
theorem tx {ts : List Expr} {k : Nat} {pos' pos : Pos} {e : Expr} {f : EC} {g : GC} (he : Ev p c n e f) (hg : As p c n (.Tuple ts k pos') g) (hs : autoParam (swapsWithSole [.Tuple ts k pos'] e pos.line c.env = pure false) aR)
  (hw : autoParam (swappedStores [.Tuple ts k pos'] e c.env = pure none) aR) : Ex p c X n (.Assign [.Tuple ts k pos'] e pos) (ba f g) := fun A base σ s k Q E R S hf hQ hE =>
 Assign_Tuple (he A base σ s _ _ E R.1 S hf fun d σ1 v h1 t1 hk S1 r1 g1 => hg A base σ1 _ v d _ _ E R.1 S1 r1 hk fun σ2 h2 t2 hk2 S2 g2 => hQ _ σ2 _ h2 t2 hk2 S2 .next (g1.trans g2)) hs hw
noncomputable def vN (is : List Nat) : GC := fun d σ k => match d with | .tup ds => ds.length = is.length ∧ k (σ.setAll is.reverse ds.reverse) | _ => False
theorem bo.rev {h : Heap} {vs : List Value} {ds : List D} (r : bo h vs ds) : bo h vs.reverse ds.reverse := bo.ind (P := fun vs ds => bo h vs.reverse ds.reverse) .nil (fun x _ y => by rw [List.reverse_cons, List.reverse_cons]; exact y.append (.cons x .nil)) r
theorem Cv {ts : List Expr} {k : Nat} {pos' pos : Pos} {e : Expr} {f : EC} {is : List Nat} {xs : List Str} (he : Ev p c n e f) (hlen : xs.length = is.length) (hsl : ∀ (j : Nat) (x : Str) (i : Nat), xs.reverse[j]? = some x → is.reverse[j]? = some i → vM c x i)
  (hw : autoParam (swappedStores [.Tuple ts k pos'] e c.env = pure (some xs)) aR) (hs : autoParam (swapsWithSole [.Tuple ts k pos'] e pos.line c.env = pure false) aR) : Ex p c X n (.Assign [.Tuple ts k pos'] e pos) (ba f (vN is)) := fun A base σ s k Q E R S hf hQ hE => by
 refine Assign_Tuple_swapped (he A base σ s _ _ E R.1 S hf fun d σ1 v h1 t1 hk S1 r1 g1 => ?_) hs hw
 cases r1 with
 | @tup a vs ds ht rs =>
  obtain ⟨hl, hk⟩ := hk
  have e1 : xs.length = vs.toArray.size := by rw [hlen, ← hl, ← rs.length]; simp
  rw [e1]
  refine wpAny_unpackItems_tuple R.hd ht fun h2 hx => ?_
  have S2 := S1.ext (jk hx)
  have rs2 := rs.grow (bc.of_ext (jk hx))
  refine Cu (by simp [hlen]) hsl A base σ1 { s with heap := h2, toks := t1 } _ ds.reverse _ E S2 (by simpa using rs2.rev) (by simp [hl]) fun h3 t3 S3 g3 => ?_
  exact hQ _ _ _ h3 t3 hk S3 .next (g1.trans ((bc.of_ext (jk hx)).trans g3))
 | _ => exact hk.elim
end
end
section
noncomputable def zz : List String := ["enumerate", "zip", "dict_itemiterator", "dict_reverseitemiterator", "odict_iterator", "itertools.zip_longest", "itertools.pairwise"]
theorem vO {M : Model} {A : Around} {s : Shared} {Q : Unit → Shared → Prop} {E : Value → Shared → Prop} {I : Addr} {o : Obj} {T : String} {target : Expr} {v : Value}
  (e : s.heap.get? I = some o) (hc : o.cls = .type T) (hT : zz.contains T = false) (h : Q () s) : wpAny M A (letOwnedTupleGo target (.ref I) v) Q E s := by
 have k : wpAny M A (letOwnedTupleGo (.Tuple [] 0 default) (.ref I) v) Q E s := by
  cases v with
  | ref a =>
   refine HI (wpAny_load e ?_)
   obtain ⟨cls, dict, data, slots⟩ := o
   cases hc
   cases data with
   | fields vs => exact (congrArg (fun b => wpAny M A (if b = true then _ else _) Q E s) (congrArg (· && (vs[0]? == some (rawInt a))) hT : (["enumerate", "zip", "dict_itemiterator", "dict_reverseitemiterator", "odict_iterator", "itertools.zip_longest", "itertools.pairwise"].contains T && (vs[0]? == some (rawInt a))) = (false && (vs[0]? == some (rawInt a))))).mpr (HJ h)
   | _ => exact HJ h
  | _ => exact HJ h
 cases target with
 | Tuple _ _ _ => exact k
 | List _ _ => exact k
 | _ => exact HJ h
noncomputable abbrev Fp (p : P) (I : Addr) (all : List D) (St : Nat → Heap → Prop) : Prop := ∀ (A : Around) (n i : Nat) (s : Shared) (d : D) (Q : Option Value → Shared → Prop) (E : Value → Shared → Prop), HN A n → St i s.heap → all[i]? = some d →
  (∀ v h' tk, df h' v d → St (i + 1) h' → (∀ b o, b ≠ I → s.heap.get? b = some o → h'.get? b = some o) → Q (some v) { s with heap := h', toks := tk }) → wpAny (model p.prog p.w) A (pyNext (.ref I)) Q E s
noncomputable abbrev Fq (p : P) (I : Addr) (all : List D) (St : Nat → Heap → Prop) : Prop := ∀ (A : Around) (n : Nat) (s : Shared) (Q : Option Value → Shared → Prop) (E : Value → Shared → Prop), HN A n → St all.length s.heap →
  (∀ h' tk, (∀ b o, b ≠ I → s.heap.get? b = some o → h'.get? b = some o) → Q none { s with heap := h', toks := tk }) → wpAny (model p.prog p.w) A (pyNext (.ref I)) Q E s
noncomputable abbrev Fs (p : P) (I : Addr) (St : Nat → Heap → Prop) : Prop := ∀ (A : Around) (i : Nat) (s : Shared) (Q : Value → Shared → Prop) (E : Value → Shared → Prop), St i s.heap → Q (.ref I) s → wpAny (model p.prog p.w) A (pyIter (.ref I)) Q E s
noncomputable abbrev Ft (I : Addr) (St : Nat → Heap → Prop) : Prop := ∀ i h, St i h → ∃ o T vs k t, h.get? I = some o ∧ o.cls = .type T ∧ o.data = .fields vs ∧ vs[1]? = some (.int k t) ∧ zz.contains T = false ∧ T ≠ "tuple"
structure Wk (p : P) (I : Addr) (all : List D) (Src : Heap → Prop) (St : Nat → Heap → Prop) : Prop where
 item : Fp p I all St
 done : Fq p I all St
 self : Fs p I St
 own0 : Ft I St
 ext : ∀ i h h', St i h → (∀ a o, h.get? a = some o → h'.get? a = some o) → St i h'
 fr : ∀ i h h', St i h → bc h h' → (∀ o, h.get? I = some o → h'.get? I = some o) → Src h' → St i h'
theorem Wk.notTup {p : P} {I : Addr} {all : List D} {Src : Heap → Prop} {St : Nat → Heap → Prop} (W : Wk p I all Src St) {i : Nat} {h : Heap} (x : St i h) : ∃ o, h.get? I = some o ∧ ¬ o3 o := by
 obtain ⟨o, T, vs, k, t, e, hc, hd, hv, _, hT⟩ := W.own0 i h x
 exact ⟨o, e, gv hd fun q u z => by rw [hv] at z; cases z⟩
theorem Wk.own {p : P} {I : Addr} {all : List D} {Src : Heap → Prop} {St : Nat → Heap → Prop} (W : Wk p I all Src St) (i : Nat) (h : Heap) (x : St i h) : ∃ o T, h.get? I = some o ∧ o.cls = .type T ∧ zz.contains T = false ∧ T ≠ "tuple" := by
 obtain ⟨o, T, vs, k, t, e, hc, hd, hv, a, b⟩ := W.own0 i h x
 exact ⟨o, T, e, hc, a, b⟩
noncomputable def Au (l : Addr) (all : List D) (h : Heap) : Prop := ∃ vs : List Value, h.IsList l vs.toArray ∧ bo h vs all
theorem Fu {p : P} {I l : Addr} {all : List D} (hne : l ≠ I) : Wk p I all (Au l all) (fun i h => h.IsListIter I l i ∧ Au l all h) where
 item := fun A n i s d Q E R st hd hQ => by
  obtain ⟨hit, vs, hl, r⟩ := st
  obtain ⟨v, hv, rv⟩ := r.at hd
  refine wpAny_pyNext_list_item hit hl (x := v) (by simpa using hv) fun h' hit' hs' => ?_
  have g : bc s.heap h' := fun a o e t => hs'.extBut a o (fun q => by
   subst q
   obtain ⟨o', e', hc', hd'⟩ := hit
   rw [e] at e'; cases e'
   exact gv hd' (fun q u z => by simp at z) t) e
  exact hQ v h' s.toks (rv.grow g) ⟨hit', vs, hl.extBut hs'.extBut hne, r.grow g⟩ fun b o hb e => hs'.extBut b o hb e
 done := fun A n s Q E R st hQ => by
  obtain ⟨hit, vs, hl, r⟩ := st
  exact wpAny_pyNext_list_end R.hd hit hl (by rw [← r.length]; simp) fun h' he' => hQ h' s.toks fun b o hb e => he' b o hb e
 self := fun A i s Q E st h => wpAny_pyIter_listiter st.1 h
 own0 := fun i h st => by
  obtain ⟨⟨o, e, hc, hd⟩, _⟩ := st
  exact ⟨o, _, _, _, _, e, hc, hd, rfl, by decide, by decide⟩
 ext := fun i h h' st hk => ⟨st.1.at fun o e => hk _ _ e, let ⟨vs, hl, r⟩ := st.2; ⟨vs, hl.at fun o e => hk _ _ e, r.grow (bc.of_ext hk)⟩⟩
 fr := fun i h h' st g hI hS => ⟨st.1.at hI, hS⟩
theorem Gs {p : P} {I t : Addr} {vs : List Value} {all : List D} (hne : t ≠ I) : Wk p I all (fun _ => True) (fun i h => h.IsTupleIter I t i ∧ h.IsTuple t vs.toArray ∧ bo h vs all) where
 item := fun A n i s d Q E R st hd hQ => by
  obtain ⟨hit, hl, r⟩ := st
  obtain ⟨v, hv, rv⟩ := r.at hd
  refine wpAny_pyNext_tuple_item hit hl (x := v) (by simpa using hv) fun h' hit' hs' => ?_
  have g : bc s.heap h' := fun a o e t => hs'.extBut a o (fun q => by
   subst q
   obtain ⟨o', e', hc', hd'⟩ := hit
   rw [e] at e'; cases e'
   exact gv hd' (fun q u z => by simp at z) t) e
  exact hQ v h' s.toks (rv.grow g) ⟨hit', hl.extBut hs'.extBut hne, r.grow g⟩ fun b o hb e => hs'.extBut b o hb e
 done := fun A n s Q E R st hQ => by
  obtain ⟨hit, hl, r⟩ := st
  exact wpAny_pyNext_tuple_end R.hd hit hl (by rw [← r.length]; simp) fun h' he' => hQ h' s.toks fun b o hb e => he' b o hb e
 self := fun A i s Q E st h => wpAny_pyIter_tupleiter st.1 h
 own0 := fun i h st => by
  obtain ⟨⟨o, e, hc, hd⟩, _⟩ := st
  exact ⟨o, _, _, _, _, e, hc, hd, rfl, by decide, by decide⟩
 ext := fun i h h' st hk => ⟨by obtain ⟨o, e, r⟩ := st.1; exact ⟨o, hk _ o e, r⟩, (bc.of_ext hk).tuple st.2.1, st.2.2.grow (bc.of_ext hk)⟩
 fr := fun i h h' st g hI hS => ⟨by obtain ⟨o, e, r⟩ := st.1; exact ⟨o, hI o e, r⟩, g.tuple st.2.1, st.2.2.grow g⟩
noncomputable def db (a c : Int) (n : Nat) : List D := (List.range n).map fun (i : Nat) => .int (a + (i : Int) * c)
theorem tz {a c : Int} {n i : Nat} {d : D} (h : (db a c n)[i]? = some d) : i < n ∧ d = .int (a + i * c) := by
 unfold db at h
 rw [List.getElem?_map, Option.map_eq_some_iff] at h
 obtain ⟨j, hj, rfl⟩ := h
 obtain ⟨h1, h2⟩ := List.getElem?_eq_some_iff.mp hj
 simp at h1 h2
 subst h2
 exact ⟨h1, rfl⟩
theorem Eh {p : P} {I : Addr} {a c : Int} {n : Nat} : Wk p I (db a c n) (fun _ => True) (fun i h => i ≤ n ∧ IsRangeIter h I (a + i * c) ((n : Int) - i) c) where
 item := fun A m i s d Q E R st hd hQ => by
  obtain ⟨hi, rfl⟩ := tz hd
  refine wpAny_pyNext_range_item st.2 (by lia) fun h' hit' hs' => ?_
  refine hQ _ h' _ (.int _ _) ⟨hi, ?_⟩ fun b o hb e => hs'.extBut b o hb e
  have e1 : a + (i : Int) * c + c = a + ((i + 1 : Nat) : Int) * c := by push_cast; rw [Int.add_mul]; lia
  have e2 : (n : Int) - i - 1 = (n : Int) - ((i + 1 : Nat) : Int) := by lia
  rw [e1, e2] at hit'; exact hit'
 done := fun A m s Q E R st hQ => by
  refine wpAny_pyNext_range_end R.hd st.2 (by simp [db]) fun h' he' => hQ h' s.toks fun b o hb e => he' b o hb e
 self := fun A i s Q E st h => wpAny_pyIter_rangeiter st.2 h
 own0 := fun i h st => by
  exact ⟨_, _, _, _, _, st.2, rfl, rfl, rfl, by decide, by decide⟩
 ext := fun i h h' st hk => ⟨st.1, hk _ _ st.2⟩
 fr := fun i h h' st g hI hS => ⟨st.1, hI _ st.2⟩
noncomputable abbrev IC := MS → ((MS → Prop) → List D → MS → Prop) → Prop
noncomputable def E3 (p : P) (c : Cx) (n : Nat) (e : Expr) (f : IC) : Prop :=
 ∀ (A : Around) (base : Heap) (σ : MS) (s : Shared) (k : (MS → Prop) → List D → MS → Prop) (Q E : _), HN A n → cJ p c base σ s.heap → f σ k →
  (∀ (d7 : MS → Prop) (all : List D) (σ' : MS) (I : Addr) (h' : Heap) (tk : Nat) (Src : Heap → Prop) (St : Nat → Heap → Prop), k d7 all σ' → cJ p c base σ' h' → bc s.heap h' → Wk p I all Src St → St 0 h' → base.get? I = none → I ∉ c.fa → I ∉ σ'.feet →
   (∀ (σ'' : MS) (h'' : Heap), (∀ q ∈ σ''.st, dN p h'' q.1 q.2) → d7 σ'' → Src h'') → Q (.ref I) { s with heap := h', toks := tk }) →
  wpAny (model p.prog p.w) A (eval e c.env) (fun x s1 => wpAny (model p.prog p.w) A (pyIter x) Q E s1) E s
section
variable {p : P} {c : Cx} {n : Nat} {X : XR}
theorem cJ.new_none {base : Heap} {σ : MS} {h : Heap} (S : cJ p c base σ h) {a : Addr} (e : h.get? a = none) : base.get? a = none ∧ a ∉ c.fa ∧ a ∉ σ.feet := by
 refine ⟨?_, fun q => ?_, fun q => ?_⟩
 ·cases q : base.get? a with
  | none => rfl
  | some o => rw [S.keep a o q] at e; cases e
 ·obtain ⟨_, o, eo, _⟩ := S.faok a q; rw [eo] at e; cases e
 ·obtain ⟨o, eo, _⟩ := S.foot_ex q; rw [eo] at e; cases e
theorem b7 {h : Heap} (o : Obj) : ∀ a ob, h.get? a = some ob → (h.push o).get? a = some ob := fun _ _ e => Heap.get?_push_of_some o e
noncomputable def dy (f : EC) : IC := fun σ k => f σ fun d σ1 => Bc d fun ds => k (fun _ => True) ds σ1
theorem kF {e : Expr} {f : EC} (he : Ev p c n e f) : E3 p c n e (dy f) := fun A base σ s k Q E R S hf hQ => by
 refine he A base σ s _ _ E R S hf fun d σ1 v h1 t1 hk S1 r1 g1 => ?_
 refine mo r1 hk fun ds hk a vs ht rs => wpAny_pyIter_tuple ht ?_
 have nn := S1.new_none (dS (h := h1))
 have ex := b7 (h := h1) { cls := .type "tuple_iterator", data := .fields #[.ref a, .int 0 0] }
 have hne : a ≠ h1.objs.size := ht.elim fun o e => Nat.ne_of_lt (Heap.lt_size e.1)
 exact hQ _ ds σ1 h1.objs.size _ t1 _ _ hk (S1.ext ex) (g1.trans (bc.of_ext ex)) (Gs (vs := vs) (t := a) hne) ⟨⟨_, Heap.get?_push_size _ rfl, rfl, rfl⟩, (bc.of_ext ex).tuple ht, rs.grow (bc.of_ext ex)⟩ nn.1 nn.2.1 nn.2.2 fun _ _ _ _ => trivial
noncomputable def bR (j : MS → Nat) (f : EC) : IC := fun σ k => f σ fun d σ1 => jo d σ1.st[j σ1]? fun b ds => k (fun σ2 => σ2.st[j σ1]? = some (b, .list ds)) ds σ1
theorem vP {A : Around} {base h1 : Heap} {σ1 : MS} {s : Shared} {t1 j : Nat} {v : Value} {d : D} {k : (MS → Prop) → List D → MS → Prop} {Q E : _} (S1 : cJ p c base σ1 h1) (r1 : df h1 v d) (g1 : bc s.heap h1) (hk : jo d σ1.st[j]? fun b ds => k (fun σ2 => σ2.st[j]? = some (b, .list ds)) ds σ1)
  (hQ : ∀ (d7 : MS → Prop) (all : List D) (σ' : MS) (I : Addr) (h' : Heap) (tk : Nat) (Src : Heap → Prop) (St : Nat → Heap → Prop), k d7 all σ' → cJ p c base σ' h' → bc s.heap h' → Wk p I all Src St → St 0 h' → base.get? I = none → I ∉ c.fa → I ∉ σ'.feet →
   (∀ (σ'' : MS) (h'' : Heap), (∀ q ∈ σ''.st, dN p h'' q.1 q.2) → d7 σ'' → Src h'') → Q (.ref I) { s with heap := h', toks := tk }) : wpAny (model p.prog p.w) A (pyIter v) Q E { s with heap := h1, toks := t1 } := by
 refine dT S1 r1 hk fun a ds hk ej vs hl rs => wpAny_pyIter_list hl.isList ?_
 have nn := S1.new_none (dS (h := h1))
 have ex := b7 (h := h1) { cls := .type "list_iterator", data := .fields #[.ref a, .int 0 0] }
 have hne : a ≠ h1.objs.size := hl.elim fun n e => Nat.ne_of_lt (Heap.lt_size e)
 exact hQ _ ds σ1 h1.objs.size _ t1 _ _ hk (S1.ext ex) (g1.trans (bc.of_ext ex)) (Fu (l := a) hne) ⟨⟨_, Heap.get?_push_size _ rfl, rfl, rfl⟩, vs, hl.elim fun m e => ⟨_, ex _ _ e, rfl, m, rfl⟩, rs.grow (bc.of_ext ex)⟩ nn.1 nn.2.1 nn.2.2 fun σ2 h2 ho hc =>
  (ho _ (HM hc)).elim fun vs2 q => ⟨vs2, q.1.isList, q.2⟩
theorem g7 {e : Expr} {f : EC} {j : MS → Nat} (he : Ev p c n e f) : E3 p c n e (bR j f) := fun A base σ s k Q E R S hf hQ =>
 he A base σ s _ _ E R S hf fun d σ1 v h1 t1 hk S1 r1 g1 => vP S1 r1 g1 hk hQ
noncomputable def vQ (p : P) (c : Cx) (X : XR) : Prop :=
 (∀ A base base' x h, (∀ a o, base.get? a = some o → base'.get? a = some o) → X A base' x h → X A base x h) ∧
 ∀ (A : Around) (base : Heap) (x : Value) (h : Heap) (s : Shared) (tk : Nat) (E : Value → Shared → Prop), c.fr A → X A base x h → (∀ h' tk', X A base x h' → E x { s with heap := h', toks := tk' }) →
  notedBy (model p.prog p.w) A c.env (cameBackBy (model p.prog p.w) A c.env E) x { s with heap := h, toks := tk }
noncomputable def dg (g : GC) (fb : SC) (d7 : MS → Prop) (cut : MS → MS) : List D → MS → (Fl → MS → Prop) → Prop
 | [], σ, k => k .next σ
 | d :: r, σ, k => g d σ fun σ1 => fb σ1 fun fl σ2 => match fl with
  | .next => d7 σ2 ∧ dg g fb d7 cut r (cut σ2) k
  | .cont => d7 σ2 ∧ dg g fb d7 cut r (cut σ2) k
  | .brk => k .next σ2
  | .exc => k .exc σ2
  | .ret d => k (.ret d) σ2
noncomputable def dq (fi : IC) (g : GC) (fb : SC) : SC := fun σ k => fi σ fun d7 all σ1 => dg g fb d7 (fun σ2 => σ2.trunc σ1.st.length) all σ1 k
noncomputable def mt (fi : IC) (g : GC) (fb : SC) : SC := fun σ k => fi σ fun d7 all σ1 => dg g fb d7 (fun σ2 => σ2) all σ1 k
theorem tA {target : Expr} {body : List Stmt} {g : GC} {fb : SC} {d7 : MS → Prop} {cut : MS → MS} (hX : vQ p c X) (hg : As p c n target g) (hb : iZ p c X n body fb)
  (hcut : ∀ base σ h, cJ p c base σ h → cJ p c base (cut σ) h ∧ ∀ a ∈ (cut σ).feet, a ∈ σ.feet)
  {A : Around} {base : Heap} {σ : MS} {s : Shared} {k : Fl → MS → Prop} {Q : Flow → Shared → Prop} {E : Value → Shared → Prop} {I : Addr} {all : List D} {Src : Heap → Prop} {St : Nat → Heap → Prop}
  (R : tv c A n) (S : cJ p c base σ s.heap) (W : Wk p I all Src St) (hst : St 0 s.heap) (hI : base.get? I = none) (hIf : I ∉ c.fa) (hIs : I ∉ σ.feet)
  (hsrc : ∀ (σ'' : MS) (h'' : Heap), (∀ q ∈ σ''.st, dN p h'' q.1 q.2) → d7 σ'' → Src h'') (hf : dg g fb d7 cut all σ k)
  (hQ : ∀ fl σ' v h' tk, k fl σ' → cJ p c base σ' h' → Cq h' v fl → bc s.heap h' → Q v { s with heap := h', toks := tk })
  (hE : ∀ σ' x h' tk, k .exc σ' → X A base x h' → E x { s with heap := h', toks := tk }) :
  codeAny (model p.prog p.w) A (.forLoop target (.ref I) body [] c.env) (fun r s' => match r with | .ok f => Q f s' | .error e => cameBackBy (model p.prog p.w) A c.env E e s') s := by
 refine codeAny_forLoop_any
  (fun m s' => EZ fun h' tk i σi => G6 (s' = { s with heap := h', toks := tk }) (i ≤ all.length) (m = all.length + 1 - i) (cJ p c base σi h') (St i h') (bc s.heap h') (I ∉ σi.feet) (dg g fb d7 cut (all.drop i) σi k)) ?_ (all.length + 1)
  ⟨s.heap, s.toks, 0, σ, rfl, Nat.zero_le _, rfl, S, hst, bc.refl _, hIs, hf⟩
 rintro m s' ⟨h', tk, i, σi, rfl, hi, rfl, Si, sti, gi, hIi, hfi⟩
 obtain ⟨oI, eI, nI⟩ := W.notTup sti
 have mv : ∀ h1 : Heap, (∀ b o, b ≠ I → h'.get? b = some o → h1.get? b = some o) → cJ p c base σi h1 ∧ bc h' h1 := fun h1 hk =>
  Si.move [I] (fun a ha => by
   obtain rfl := List.mem_singleton.mp ha
   exact ⟨hI, hIf, hIi, fun o e => by rw [eI] at e; cases e; exact nI⟩) fun a o hna e => hk a o (fun q => hna (List.mem_singleton.mpr q)) e
 by_cases hlt : i < all.length
 ·have hd : all[i]? = some all[i] := by simp [hlt]
  have hdrop : all.drop i = all[i] :: all.drop (i + 1) := List.drop_eq_getElem_cons hlt
  rw [hdrop] at hfi
  refine W.item A n i _ _ _ _ R.1 sti hd fun v h1 t1 r1 st1 hk1 => ?_
  obtain ⟨S1, g1⟩ := mv h1 hk1
  obtain ⟨o1, T1, e1, c1, y1, z1⟩ := W.own _ _ st1
  obtain ⟨B1, up⟩ := S1.rise
  have hIb : (Mine.rise c σi h1).get? I = some o1 := hideAll_get _ e1 fun q => (List.mem_append.mp q).elim hIi hIf
  refine vO e1 c1 y1 ?_
  refine hg A (Mine.rise c σi h1) σi { s with heap := h1, toks := t1 } v all[i] _ _ _ R.1 B1 r1 hfi fun σ1 h2 t2 hk2 B2 g2 => ?_
  refine hb A (Mine.rise c σi h1) σ1 { s with heap := h2, toks := t2 } _ _ _ R B2 hk2 (fun fl σ2 f h3 t3 hk3 B3 r3 g3 => ?_) fun σ2 x h3 t3 hk3 hx3 => ?_
  ·have S3 : cJ p c base σ2 h3 := B3.floor Si.entb up
   have gg : bc s.heap h3 := ((gi.trans g1).trans g2).trans g3
   have nx : (d7 σ2 ∧ dg g fb d7 cut (all.drop (i + 1)) (cut σ2) k) → ∃ m, m < all.length + 1 - i ∧ EZ fun h' tk i σi => G6 (({ s with heap := h3, toks := t3 } : Shared) = { s with heap := h', toks := tk }) (i ≤ all.length) (m = all.length + 1 - i) (cJ p c base σi h') (St i h') (bc s.heap h') (I ∉ σi.feet) (dg g fb d7 cut (all.drop i) σi k) := fun ⟨hc, hr⟩ => by
    obtain ⟨Sc, hsub⟩ := hcut base σ2 h3 S3
    refine ⟨all.length + 1 - (i + 1), Cn hlt, h3, t3, i + 1, cut σ2, rfl, hlt, rfl, Sc, ?_, gg, fun q => ?_, hr⟩
    ·exact W.fr _ _ _ st1 (g2.trans g3) (fun o e => by rw [e1] at e; cases e; exact B3.keep I o1 hIb) (hsrc σ2 h3 B3.objs hc)
    ·have := (B3.apart I (hsub I q)).2; rw [hIb] at this; cases this
   cases r3 with
   | next => exact nx hk3
   | cont => exact nx hk3
   | brk => exact hQ _ σ2 _ h3 t3 hk3 S3 .next gg
   | ret r => exact hQ _ σ2 _ h3 t3 hk3 S3 (.ret r) gg
  ·exact hX.2 A base x h3 s t3 E R.fr (hX.1 _ _ _ _ _ up hx3) fun h4 t4 hx4 => hE σ2 x h4 t4 hk3 hx4
 ·have hie : i = all.length := E1 hi hlt
  subst hie
  rw [List.drop_length] at hfi
  refine W.done A n _ _ _ R.1 sti fun h1 t1 hk1 => wpAny_execs_nil ?_
  obtain ⟨S1, g1⟩ := mv h1 hk1
  exact hQ _ σi _ h1 t1 hfi S1 .next (gi.trans g1)
theorem vR {σ : MS} {m : Nat} : ∀ a ∈ (σ.trunc m).feet, a ∈ σ.feet := fun a ha => by
 obtain ⟨q, hq, hf⟩ := List.mem_flatMap.mp ha
 exact fw (List.mem_of_mem_take hq) hf
theorem gb {target iter : Expr} {body : List Stmt} {pos : Pos} {fi : IC} {g : GC} {fb : SC} (hX : vQ p c X) (hi : E3 p c n iter fi) (hg : As p c n target g) (hb : iZ p c X n body fb)
  (hs : autoParam (∀ x, foldedSetIterable iter c.env x = pure x) aI) : Ex p c X n (.For target iter body [] pos) (dq fi g fb) := fun A base σ s k Q E R S hf hQ hE => by
 refine wpAny_For (hi A base σ s _ _ E R.1 S hf fun d7 all σ1 I h1 t1 Src St hk S1 g1 W hst hI hIf hIs hsrc => ?_) hs
 exact tA hX hg hb (fun base σ h S => ⟨S.trunc _, vR⟩) R S1 W hst hI hIf hIs hsrc hk (fun fl σ' v h' tk hk2 S2 r2 g2 => hQ fl σ' v h' tk hk2 S2 r2 (g1.trans g2)) fun σ' x h' tk hk2 hx => hE σ' x h' tk hk2 hx
noncomputable def k8 : XR := fun _ _ _ _ => False
theorem Cw : vQ p c k8 := ⟨fun _ _ _ _ _ _ h => h, fun _ _ _ _ _ _ _ _ h => h.elim⟩
end
end
section
section
variable {prog : Program} {w : World} {A : Around} {E : Value → Shared → Prop} {R : Result → Shared → Prop} {s : Shared}
theorem wD {elt target iter : Expr} {ifs : List Expr} {scope : Scope} {pos : Pos} {it acc : Value} {env : Env} (I : Nat → Shared → Prop)
  (turn : ∀ n s, I n s → wpAny (model prog w) A (pyNext it) (fun r s₁ => match r with
   | none => R (.ok .next) s₁
   | some v => wpAny (model prog w) A (letOwnedTupleGo target it v) (fun _ s₁' => wpAny (model prog w) A (assign target env v) (fun _ s₂ =>
     wpAny (model prog w) A (forIn ifs true fun c r => if r = true then do let ok ← isTrue c env (eval c env); pure (ForInStep.yield ok) else pure (ForInStep.yield r)) (fun ok s₃ =>
      if ok = true then wpAny (model prog w) A (eval elt env) (fun x s₄ =>
       wpAny (model prog w) A (call (.builtin "list.append") [acc, x]) (fun _ s₅ => ∃ m, m < n ∧ I m s₅) (notedBy (model prog w) A env fun e s' => R (.error e) s') s₄) (notedBy (model prog w) A env fun e s' => R (.error e) s') s₃
      else ∃ m, m < n ∧ I m s₃) (notedBy (model prog w) A env fun e s' => R (.error e) s') s₂) (notedBy (model prog w) A env fun e s' => R (.error e) s') s₁') (notedBy (model prog w) A env fun e s' => R (.error e) s') s₁) (notedBy (model prog w) A env fun e s' => R (.error e) s') s)
  (n : Nat) (h : I n s) : codeAny (model prog w) A (.compLoop (.ListComp elt [⟨target, iter, ifs, 0⟩] scope pos) 0 it acc env) R s := by
 refine codeAny_loop rfl I (fun n s hI => ?_) n h
 show wpAny _ A ((compTurn (.ListComp elt [⟨target, iter, ifs, 0⟩] scope pos) 0 it acc env).onRaise (fun x => do noteFrame x env; theTreesLotGoes x)) _ _ s
 refine wpAny_noted ?_
 rw [compTurn_list]
 refine HI (wpAny_standAt (HI (wpAny_mono (turn n s hI) (fun r s₁ h₁ => ?_) fun _ _ h' => h')))
 cases r with
 | none => exact HJ h₁
 | some v =>
  refine HI (wpAny_mono h₁ (fun _ s₁' h₁' => ?_) fun _ _ h' => h')
  refine HI (wpAny_mono h₁' (fun _ s₂ h₂ => HI (wpAny_mono h₂ (fun ok s₃ h₃ => ?_) fun _ _ h' => h')) fun _ _ h' => h')
  cases ok with
  | false => exact HJ ⟨rfl, h₃⟩
  | true =>
   exact HI (HI (wpAny_mono h₃ (fun x s₄ h₄ => HI (wpAny_mono h₄ (fun _ s₅ h₅ => HJ (HJ ⟨rfl, h₅⟩)) fun _ _ h' => h')) fun _ _ h' => h'))
end
noncomputable def Cx.comp (c : Cx) (sc : Scope) (cl : List (Str × Addr)) (xs : List Str) (C : Addr) : Cx :=
 { env := compEnvC sc cl C c.env, locs := c.locs ++ xs.map (.ns C), fa := C :: c.fa, ent := c.ent }
noncomputable def MS.more (σ : MS) (n : Nat) : MS := ⟨σ.vars ++ List.replicate n none, σ.st⟩
section
variable {p : P} {c : Cx} {n : Nat} {X : XR}
theorem cJ.enterComp {base : Heap} {σ : MS} {h h' : Heap} (S : cJ p c base σ h) {sc : Scope} {cl : List (Str × Addr)} {xs : List Str} {C : Addr} {m : Str → Option Value} (hk : sc.kind = .function) (hx : xs.Nodup)
  (hC : h.get? C = none) (hn : h'.Ns C m) (ex : ∀ a o, h.get? a = some o → h'.get? a = some o) : cJ p (c.comp sc cl xs C) base (σ.more xs.length) h' := by
 have S' := S.ext ex
 have nn := S.new_none hC
 have nl : ∀ l ∈ c.locs, l.addr ≠ C := fun l hl q => nn.2.1 (q ▸ (S.frm l hl).2)
 refine ⟨S.ok, hk, S.entb, S'.keep, ?_, by simp [MS.more, Cx.comp, S.lenv], fun i l d hl hd => ?_, fun l hl => ?_, S'.objs, S.nodup, fun a ha => ⟨fun q => ?_, (S.apart a ha).2⟩, fun a ha => ?_⟩
 ·show (c.locs ++ xs.map (eE.ns C)).Nodup
  refine List.nodup_append.mpr ⟨S.nodl, ?_, fun a ha b hb e => ?_⟩
  ·refine List.Pairwise.map (S := (· ≠ ·)) _ (fun a b hab q => hab (by cases q; rfl)) hx
  ·obtain ⟨y, _, rfl⟩ := List.mem_map.mp hb
   exact nl a ha (by rw [e]; rfl)
 ·have hl' : (c.locs ++ xs.map (eE.ns C))[i]? = some l := hl
  have hd' : (σ.vars ++ List.replicate xs.length none)[i]? = some (some d) := hd
  by_cases hi : i < c.locs.length
  ·rw [List.getElem?_append_left hi] at hl'
   rw [List.getElem?_append_left (by rw [S.lenv]; exact hi)] at hd'
   exact S'.vars i l d hl' hd'
  ·rw [List.getElem?_append_right (by rw [S.lenv]; lia)] at hd'
   rw [List.getElem?_replicate] at hd'
   split at hd' <;> simp at hd'
 ·have hl' : l ∈ c.locs ++ xs.map (eE.ns C) := hl
  rcases List.mem_append.mp hl' with hl' | hl'
  ·exact ⟨(S'.frm l hl').1, dP _ (S'.frm l hl').2⟩
  ·obtain ⟨y, _, rfl⟩ := List.mem_map.mp hl'
   exact ⟨⟨m, hn⟩, c8⟩
 ·rcases HL q with rfl | q
  ·exact nn.2.2 ha
  ·exact (S.apart a ha).1 q
 ·rcases HL ha with rfl | ha
  ·obtain ⟨o, e, nt⟩ := eE.Ok.ex (l := .ns a ("" : Str)) ⟨m, hn⟩
   exact ⟨nn.1, o, e, nt⟩
  ·exact S'.faok a ha
noncomputable def MS.fewer (σ : MS) (n : Nat) : MS := ⟨σ.vars.take n, σ.st⟩
theorem cJ.leaveComp {base : Heap} {σ : MS} {h : Heap} {sc : Scope} {cl : List (Str × Addr)} {xs : List Str} {C : Addr} (S : cJ p (c.comp sc cl xs C) base σ h) (hk : c.env.scope.kind = .function) (hF : ∀ l ∈ c.locs, l.addr ∈ c.fa) : cJ p c base (σ.fewer c.locs.length) h := by
 have hl0 : σ.vars.length = c.locs.length + xs.length := by have := S.lenv; simpa [Cx.comp] using this
 refine ⟨S.ok, hk, S.entb, S.keep, ?_, by simp [MS.fewer]; lia, fun i l d hl hd => ?_, fun l hl => ?_, S.objs, S.nodup, fun a ha => ⟨fun q => (S.apart a ha).1 (dP _ q), (S.apart a ha).2⟩, fun a ha => S.faok a (dP _ ha)⟩
 ·have := S.nodl
  exact (List.nodup_append.mp (show (c.locs ++ xs.map (eE.ns C)).Nodup from this)).1
 ·have hi := (List.getElem?_eq_some_iff.mp hl).1
  refine S.vars i l d ?_ ?_
  ·show (c.locs ++ xs.map (eE.ns C))[i]? = some l
   rw [List.getElem?_append_left hi]; exact hl
  ·have hd' : (σ.vars.take c.locs.length)[i]? = some (some d) := hd
   rw [List.getElem?_take] at hd'
   split at hd' <;> first | exact hd' | cases hd'
 ·exact ⟨(S.frm l (List.mem_append_left _ hl)).1, hF l hl⟩
noncomputable def Gf (p : P) (c : Cx) (n : Nat) (ifs : List Expr) (f : BC) : Prop :=
 ∀ (A : Around) (base : Heap) (σ : MS) (s : Shared) (k : Bool → MS → Prop) (Q E : _), HN A n → cJ p c base σ s.heap → f σ k →
  (∀ b σ' h' tk, k b σ' → cJ p c base σ' h' → bc s.heap h' → Q b { s with heap := h', toks := tk }) →
  wpAny (model p.prog p.w) A (forIn ifs true fun e r => if r = true then do let ok ← isTrue e c.env (eval e c.env); pure (ForInStep.yield ok) else pure (ForInStep.yield r)) Q E s
theorem lR : Gf p c n [] (cH true) := fun A base σ s k Q E _ S hf hQ => wpAny_tests_nil (hQ _ σ s.heap s.toks hf S (bc.refl _))
theorem pH {e : Expr} {f : BC} (h : Tv p c n e f) : Gf p c n [e] f := fun A base σ s k Q E R S hf hQ => wpAny_tests_one (h A base σ s k Q E R S hf hQ)
noncomputable def du (g : GC) (t : BC) (f : EC) (d7 : MS → Prop) (cut : MS → MS) : List D → MS → List D → (List D → MS → Prop) → Prop
 | [], σ, acc, k => k acc σ
 | d :: r, σ, acc, k => g d σ fun σ1 => t σ1 fun b σ2 => match b with
  | true => f σ2 fun y σ3 => d7 σ3 ∧ du g t f d7 cut r (cut σ3) (acc ++ [y]) k
  | false => d7 σ2 ∧ du g t f d7 cut r (cut σ2) acc k
theorem xS {elt target iter : Expr} {ifs : List Expr} {scope : Scope} {pos : Pos} {g : GC} {t : BC} {f : EC} {d7 : MS → Prop} {cut : MS → MS} (hg : As p c n target g) (ht : Gf p c n ifs t) (hf : Ev p c n elt f)
  (hcut : ∀ base σ h, cJ p c base σ h → cJ p c base (cut σ) h ∧ ∀ a ∈ (cut σ).feet, a ∈ σ.feet)
  {A : Around} {base : Heap} {σ : MS} {s : Shared} {k : List D → MS → Prop} {R : Result → Shared → Prop} {I Dl : Addr} {all : List D} {Src : Heap → Prop} {St : Nat → Heap → Prop}
  (Rm : HN A n) (S : cJ p c base σ s.heap) (W : Wk p I all Src St) (hst : St 0 s.heap) (hI : base.get? I = none) (hIf : I ∉ c.fa) (hIs : I ∉ σ.feet) (hD : base.get? Dl = none) (hDf : Dl ∉ c.fa) (hDs : Dl ∉ σ.feet) (hne : Dl ≠ I)
  (hacc : s.heap.PlainList Dl #[]) (hsz : all.length ≤ sizeLine)
  (hsrc : ∀ (σ'' : MS) (h'' : Heap), (∀ q ∈ σ''.st, dN p h'' q.1 q.2) → d7 σ'' → Src h'') (hr : du g t f d7 cut all σ [] k)
  (hQ : ∀ ys σ' h' tk (vs : List Value), k ys σ' → cJ p c base σ' h' → h'.PlainList Dl vs.toArray → bo h' vs ys → Dl ∉ σ'.feet → bc s.heap h' → R (.ok .next) { s with heap := h', toks := tk }) :
  codeAny (model p.prog p.w) A (.compLoop (.ListComp elt [⟨target, iter, ifs, 0⟩] scope pos) 0 (.ref I) (.ref Dl) c.env) R s := by
 refine wD
  (fun m s' => HA fun h' tk i σi acc (vs : List Value) => G7 (s' = { s with heap := h', toks := tk }) (i ≤ all.length) (m = all.length + 1 - i) (cJ p c base σi h') (St i h') (bc s.heap h') (I ∉ σi.feet) (Dl ∉ σi.feet) (h'.PlainList Dl vs.toArray) (bo h' vs acc) (vs.length ≤ i) (du g t f d7 cut (all.drop i) σi acc k)) ?_ (all.length + 1)
  ⟨s.heap, s.toks, 0, σ, [], [], rfl, Nat.zero_le _, rfl, S, hst, bc.refl _, hIs, hDs, hacc, .nil, Nat.le_refl _, hr⟩
 rintro m s' ⟨h', tk, i, σi, acc, vs, rfl, hi, rfl, Si, sti, gi, hIi, hDi, hpl, hra, hvl, hfi⟩
 obtain ⟨oI, eI, nI⟩ := W.notTup sti
 have mv : ∀ h1 : Heap, (∀ b o, b ≠ I → h'.get? b = some o → h1.get? b = some o) → cJ p c base σi h1 ∧ bc h' h1 := fun h1 hk =>
  Si.move [I] (fun a ha => by
   obtain rfl := List.mem_singleton.mp ha
   exact ⟨hI, hIf, hIi, fun o e => by rw [eI] at e; cases e; exact nI⟩) fun a o hna e => hk a o (fun q => hna (List.mem_singleton.mpr q)) e
 by_cases hlt : i < all.length
 ·have hd : all[i]? = some all[i] := by simp [hlt]
  have hdrop : all.drop i = all[i] :: all.drop (i + 1) := List.drop_eq_getElem_cons hlt
  rw [hdrop] at hfi
  refine W.item A n i _ _ _ _ Rm sti hd fun v h1 t1 r1 st1 hk1 => ?_
  obtain ⟨S1, g1⟩ := mv h1 hk1
  obtain ⟨o1, T1, e1, c1, y1, z1⟩ := W.own _ _ st1
  obtain ⟨B1, up⟩ := S1.rise
  have hIb : (Mine.rise c σi h1).get? I = some o1 := hideAll_get _ e1 fun q => (List.mem_append.mp q).elim hIi hIf
  obtain ⟨nD, eD⟩ := hpl
  have eD1 := hk1 Dl _ hne eD
  have hDb : (Mine.rise c σi h1).get? Dl = some _ := hideAll_get _ eD1 fun q => (List.mem_append.mp q).elim hDi hDf
  refine vO e1 c1 y1 ?_
  refine hg A (Mine.rise c σi h1) σi { s with heap := h1, toks := t1 } v all[i] _ _ _ Rm B1 r1 hfi fun σ1 h2 t2 hk2 B2 g2 => ?_
  refine ht A (Mine.rise c σi h1) σ1 { s with heap := h2, toks := t2 } _ _ _ Rm B2 hk2 fun b σ2 h3 t3 hk3 B3 g3 => ?_
  cases b with
  | false =>
   rw [if_neg Bool.false_ne_true]
   obtain ⟨hc, hr⟩ := hk3
   have S3 : cJ p c base σ2 h3 := B3.floor Si.entb up
   obtain ⟨Sc, hsub⟩ := hcut base σ2 h3 S3
   have gg : bc h' h3 := (g1.trans g2).trans g3
   refine ⟨all.length + 1 - (i + 1), Cn hlt, h3, t3, i + 1, cut σ2, acc, vs, rfl, hlt, rfl, Sc, ?_, gi.trans gg, fun q => ?_, fun q => ?_, ⟨nD, B3.keep _ _ hDb⟩, hra.grow gg, nF, hr⟩
   ·exact W.fr _ _ _ st1 (g2.trans g3) (fun o e => by rw [e1] at e; cases e; exact B3.keep I o1 hIb) (hsrc σ2 h3 B3.objs hc)
   ·have := (B3.apart I (hsub I q)).2; rw [hIb] at this; cases this
   ·have := (B3.apart Dl (hsub Dl q)).2; rw [hDb] at this; cases this
  | true =>
   rw [if_pos rfl]
   refine hf A (Mine.rise c σi h1) σ2 { s with heap := h3, toks := t3 } _ _ _ Rm B3 hk3 fun y σ3 u h4 t4 hk4 B4 r4 g4 => ?_
   obtain ⟨hc, hr⟩ := hk4
   have S4 : cJ p c base σ3 h4 := B4.floor Si.entb up
   have gg : bc h' h4 := ((g1.trans g2).trans g3).trans g4
   have hDn : Dl ∉ σ3.feet := fun q => by have := (B4.apart Dl q).2; rw [hDb] at this; cases this
   refine wpAny_list_append_plain (hsz := by have := hvl; simp; lia) ⟨nD, B4.keep _ _ hDb⟩ fun h5 hl5 hs5 => ?_
   obtain ⟨S5, g5⟩ := S4.move [Dl] (fun a ha => by
    obtain rfl := List.mem_singleton.mp ha
    exact ⟨hD, hDf, hDn, fun o e => by rw [B4.keep _ _ hDb] at e; cases e; exact o4 rfl (by simp)⟩) (fun a o hna e => hs5.extBut a o (fun q => hna (List.mem_singleton.mpr q)) e)
   obtain ⟨Sc, hsub⟩ := hcut base σ3 h5 S5
   refine ⟨all.length + 1 - (i + 1), Cn hlt, h5, t4, i + 1, cut σ3, acc ++ [y], vs ++ [u], rfl, hlt, rfl, Sc, ?_, gi.trans (gg.trans g5), fun q => ?_, fun q => hDn (hsub _ q), by simpa using hl5, (hra.grow (gg.trans g5)).append (.cons (r4.grow g5) .nil), by simp; exact ooK, hr⟩
   ·exact W.fr _ _ _ st1 (((g2.trans g3).trans g4).trans g5) (fun o e => by rw [e1] at e; cases e; exact hs5.extBut I o1 (Ne.symm hne) (B4.keep I o1 hIb)) (hsrc σ3 h5 S5.objs hc)
   ·have := (B4.apart I (hsub I q)).2; rw [hIb] at this; cases this
 ·have hie : i = all.length := E1 hi hlt
  subst hie
  rw [List.drop_length] at hfi
  refine W.done A n _ _ _ Rm sti fun h1 t1 hk1 => ?_
  obtain ⟨S1, g1⟩ := mv h1 hk1
  obtain ⟨nD, eD⟩ := hpl
  exact hQ acc σi h1 t1 vs hfi S1 ⟨nD, hk1 Dl _ hne eD⟩ (hra.grow g1) hDi (gi.trans g1)
theorem cJ.adopt {base : Heap} {σ : MS} {h : Heap} (S : cJ p c base σ h) (q : Addr × O) (hq : dN p h q.1 q.2) (hn : ∀ a ∈ feet q, base.get? a = none ∧ a ∉ c.fa ∧ a ∉ σ.feet) (hd : (feet q).Nodup) : cJ p c base ⟨σ.vars, σ.st ++ [q]⟩ h := by
 have ff : (⟨σ.vars, σ.st ++ [q]⟩ : MS).feet = σ.feet ++ feet q := by simp [MS.feet]
 refine ⟨S.ok, S.kind, S.entb, S.keep, S.nodl, S.lenv, S.vars, S.frm, fun r hr => ?_, ?_, fun a ha => ?_, S.faok⟩
 ·rcases List.mem_append.mp hr with hr | hr
  ·exact S.objs r hr
  ·obtain rfl := List.mem_singleton.mp hr; exact hq
 ·rw [ff]
  exact List.nodup_append.mpr ⟨S.nodup, hd, fun a ha b hb e => (hn b hb).2.2 (e ▸ ha)⟩
 ·rw [ff] at ha
  rcases List.mem_append.mp ha with ha | ha
  ·exact S.apart a ha
  ·exact ⟨(hn a ha).2.1, (hn a ha).1⟩
noncomputable def bM (nx : Nat) (fi : IC) (g : GC) (t : BC) (f : EC) : EC := fun σ k => fi σ fun d7 all σ1 => all.length ≤ sizeLine ∧
 du g t f d7 (fun τ => τ.trunc σ1.st.length) all (σ1.more nx) [] fun ys σ2 => ∀ a, k (.ref a) ⟨σ2.vars.take σ1.vars.length, σ2.st ++ [(a, .list ys)]⟩
theorem vS {elt target iter : Expr} {ifs : List Expr} {sc : Scope} {pos : Pos} {cl : List (Str × Addr)} {x0 : Str} {xs : List Str} {fi : IC} {g : GC} {t : BC} {f : EC} {pp : Pos} {use : Option (Value → Sem Unit)}
  (hclos : closureFor sc c.env = pure cl) (hcell : ∀ y ∈ sc.names, y.2 ≠ .cell) (hkind : sc.kind = .function) (hnames : ∀ y ∈ sc.names, y.2 = .local → sc.names.lookup y.1 = some .local) (hxs : (x0 :: xs).Nodup)
  (hi : E3 p c n iter fi) (hg : ∀ C, As p (c.comp sc cl (x0 :: xs) C) n target g) (ht : ∀ C, Gf p (c.comp sc cl (x0 :: xs) C) n ifs t) (hf : ∀ C, Ev p (c.comp sc cl (x0 :: xs) C) n elt f)
  (hs : ∀ x, foldedSetIterable iter c.env x = pure x)
  {A : Around} {base : Heap} {σ : MS} {s : Shared} {k : D → MS → Prop} {Q E : _} (R : HN A n) (S : cJ p c base σ s.heap) (hr : bM (x0 :: xs).length fi g t f σ k)
  (hfin : ∀ (a C : Addr) (σ2 : MS) (h2 : Heap) (tk : Nat), k (.ref a) σ2 → cJ p c base σ2 h2 → bc s.heap h2 → (∃ m, h2.Ns C m) → base.get? C = none → C ∉ c.fa → C ∉ σ2.feet → compPost (model p.prog p.w) A E use Q (.ref a) C (.ok .next) { s with heap := h2, toks := tk }) :
  wpAny (model p.prog p.w) A (comprehension (.ListComp elt [⟨target, iter, ifs, 0⟩] sc pos) sc c.env pp (newList []) false (eval iter c.env) use) Q E s := by
 refine wpAny_comprehension_free (M := model p.prog p.w) (use := use) rfl hs hclos hkind hnames ?_
 refine hi A base σ s _ _ E R S hr fun d7 all σ1 I h1 t1 Src St hk S1 g1 W hst hI hIf hIs hsrc => ?_
 obtain ⟨hsz, hk⟩ := hk
 refine wpAny_newList ?_ (by simp)
 refine wpAny_newFunctionEnv hcell (by intro y hy; simp at hy) (fun h2 hns2 hsb2 => ?_) hkind
 have nD := S1.new_none (dS (h := h1))
 have exD := b7 (h := h1) { cls := .type "list", data := .seq ([] : List Value).toArray }
 have eD : (h1.push { cls := .type "list", data := .seq ([] : List Value).toArray }).get? h1.objs.size = some _ := Heap.get?_push_size _ rfl
 generalize hh' : h1.push { cls := .type "list", data := .seq ([] : List Value).toArray } = h1' at *
 have S1' := S1.ext exD
 have nC := S1'.new_none (dS (h := h1'))
 have ex2 : ∀ a o, h1'.get? a = some o → h2.get? a = some o := fun a o e => hsb2.extBut a o (Nat.ne_of_lt (Heap.lt_size e)) (Heap.get?_push_of_some _ e)
 have hCn : h1'.get? h1'.objs.size = none := dS
 have hDC : h1.objs.size ≠ h1'.objs.size := Nat.ne_of_lt (Heap.lt_size eD)
 obtain ⟨oI, eI, _⟩ := W.notTup hst
 have hDI : h1.objs.size ≠ I := Nat.ne_of_gt (Heap.lt_size eI)
 have hIC : I ≠ h1'.objs.size := Nat.ne_of_lt (Heap.lt_size (exD _ _ eI))
 have S2 : cJ p (c.comp sc cl (x0 :: xs) h1'.objs.size) base (σ1.more (x0 :: xs).length) h2 := S1'.enterComp hkind hxs hCn hns2 ex2
 have st2 : St 0 h2 := W.ext _ _ _ (W.ext _ _ _ hst exD) ex2
 have hF : ∀ l ∈ c.locs, l.addr ∈ c.fa := fun l hl => (S.frm l hl).2
 have hloop : codeAny (model p.prog p.w) A (.compLoop (.ListComp elt [⟨target, iter, ifs, 0⟩] sc pos) 0 (.ref I) (.ref h1.objs.size) (c.comp sc cl (x0 :: xs) h1'.objs.size).env)
   (compPost (model p.prog p.w) A E use Q (.ref h1.objs.size) h1'.objs.size) { s with heap := h2, toks := t1 + ([] : List (Str × Value)).length } := by
  refine xS (hg _) (ht _) (hf _) (cut := fun τ => τ.trunc σ1.st.length) (fun base σ h S => ⟨S.trunc _, vR⟩) R S2 W st2 hI (fun q => ?_) hIs (σ := σ1.more (x0 :: xs).length) nD.1 (fun q => ?_) nD.2.2 hDI ⟨0, ex2 _ _ eD⟩ hsz hsrc hk fun ys σ' h3 t3 vs hk3 S3 hl3 r3 hDn g3 => ?_
  ·rcases HL q with q | q
   ·exact hIC q
   ·exact hIf q
  ·rcases HL q with q | q
   ·exact hDC q
   ·exact nD.2.1 q
  ·have S4 := S3.leaveComp S.kind hF
   have hCfa : h1'.objs.size ∈ (c.comp sc cl (x0 :: xs) h1'.objs.size).fa := c8
   have S5 := S4.adopt (h1.objs.size, .list ys) ⟨vs, hl3, r3⟩ (fun a ha => by
    obtain rfl : a = h1.objs.size := by simpa [feet] using ha
    exact ⟨nD.1, nD.2.1, hDn⟩) (by simp [feet])
   obtain ⟨m, hm⟩ := (S3.frm (eE.ns h1'.objs.size x0) (List.mem_append_right _ (by simp))).1
   refine hfin _ _ _ h3 t3 (hk3 h1.objs.size) ?_ (((g1.trans (bc.of_ext exD)).trans (bc.of_ext ex2)).trans g3) ⟨m, hm⟩ (S3.faok _ hCfa).1 nC.2.1 ?_
   ·have e : σ1.vars.length = c.locs.length := S1.lenv
    rw [e]; exact S5
   ·intro q
    have ff : (⟨σ'.vars.take σ1.vars.length, σ'.st ++ [(h1.objs.size, .list ys)]⟩ : MS).feet = σ'.feet ++ [h1.objs.size] := by simp [MS.feet, feet]
    rw [ff] at q
    rcases List.mem_append.mp q with q | q
    ·exact (S3.apart _ q).1 hCfa
    ·exact hDC (List.mem_singleton.mp q).symm
 refine codeAny_compStart_list hloop ?_
 exact W.self A 0 _ _ _ st2 hloop
theorem fM {elt target iter : Expr} {ifs : List Expr} {sc : Scope} {pos : Pos} {cl : List (Str × Addr)} {x0 : Str} {xs : List Str} {fi : IC} {g : GC} {t : BC} {f : EC}
  (hclos : closureFor sc c.env = pure cl) (hxs : (x0 :: xs).Nodup)
  (hi : E3 p c n iter fi) (hg : ∀ C, As p (c.comp sc cl (x0 :: xs) C) n target g) (ht : ∀ C, Gf p (c.comp sc cl (x0 :: xs) C) n ifs t) (hf : ∀ C, Ev p (c.comp sc cl (x0 :: xs) C) n elt f)
  (hcell : autoParam (∀ y ∈ sc.names, y.2 ≠ .cell) aD) (hkind : autoParam (sc.kind = .function) aR) (hnames : autoParam (∀ y ∈ sc.names, y.2 = .local → sc.names.lookup y.1 = some .local) aD)
  (hs : autoParam (∀ x, foldedSetIterable iter c.env x = pure x) aI) : Ev p c n (.ListComp elt [⟨target, iter, ifs, 0⟩] sc pos) (bM (x0 :: xs).length fi g t f) := fun A base σ s k Q E R S hr hQ => by
 rw [eval_ListComp]
 refine vS (use := none) hclos hcell hkind hnames hxs hi hg ht hf hs R S hr fun a C σ2 h2 tk hk S2 g2 hm hb hfa hft => ?_
 obtain ⟨m, hm⟩ := hm
 refine ⟨m, hm, fun h' hs' => ?_⟩
 obtain ⟨S3, g3⟩ := S2.move [C] (fun b hb' => by
  obtain rfl := List.mem_singleton.mp hb'
  refine ⟨hb, hfa, hft, fun o e => ?_⟩
  obtain ⟨o', e', nt⟩ := eE.Ok.ex (l := .ns b ("" : Str)) ⟨m, hm⟩
  have e'' : h2.get? b = some o' := e'
  rw [e] at e''; cases e''; exact nt) (fun b o hnb e => hs'.extBut b o (fun q => hnb (List.mem_singleton.mpr q)) e)
 exact hQ (.ref a) σ2 (.ref a) h' tk hk S3 (.ref a) (g2.trans g3)
theorem nO {elt target iter : Expr} {ifs : List Expr} {sc : Scope} {pos pos' spos : Pos} {cl : List (Str × Addr)} {x0 : Str} {xs : List Str} {y : Str} {fi : IC} {g : GC} {t : BC} {f : EC} {g' : GC}
  (hclos : closureFor sc c.env = pure cl) (hxs : (x0 :: xs).Nodup)
  (hi : E3 p c n iter fi) (hg : ∀ C, As p (c.comp sc cl (x0 :: xs) C) n target g) (ht : ∀ C, Gf p (c.comp sc cl (x0 :: xs) C) n ifs t) (hf : ∀ C, Ev p (c.comp sc cl (x0 :: xs) C) n elt f) (hy : Ge p c y g')
  (hcell : autoParam (∀ y ∈ sc.names, y.2 ≠ .cell) aD) (hkind : autoParam (sc.kind = .function) aR) (hnames : autoParam (∀ y ∈ sc.names, y.2 = .local → sc.names.lookup y.1 = some .local) aD)
  (hs : autoParam (∀ x, foldedSetIterable iter c.env x = pure x) aI)
  (hsw : autoParam (swapsWith (.ListComp elt [⟨target, iter, ifs, 0⟩] sc pos) (some (.Name y pos')) spos.line c.env = pure true) aR) :
  Ex p c X n (.Assign [.Name y pos'] (.ListComp elt [⟨target, iter, ifs, 0⟩] sc pos) spos) (ba (bM (x0 :: xs).length fi g t f) g') := fun A base σ s k Q E R S hr hQ hE => by
 rw [exec_Assign_Name_used _ _ _ _ hsw]
 refine HI (wpAny_standAt (HI ?_))
 show wpAny _ A (do let _ ← comprehension (.ListComp elt [⟨target, iter, ifs, 0⟩] sc pos) sc c.env _ (newList []) false (eval iter c.env) (some (assign (.Name y pos') c.env))) _ _ s
 refine HI (wpAny_mono (vS (use := some (assign (.Name y pos') c.env)) (Q := fun _ s' => Q .next s') (E := E) hclos hcell hkind hnames hxs hi hg ht hf hs R.1 S hr fun a C σ2 h2 tk hk S2 g2 hm hb hfa hft => ?_) (fun _ s' hq => HJ (HJ hq)) fun _ _ e => e)
 obtain ⟨m, hm⟩ := hm
 obtain ⟨B, up⟩ := S2.rise
 obtain ⟨oC, eC, nC⟩ := eE.Ok.ex (l := .ns C ("" : Str)) ⟨m, hm⟩
 have eC' : h2.get? C = some oC := eC
 have hCb : (rise c σ2 h2).get? C = some oC := hideAll_get _ eC' fun q => (List.mem_append.mp q).elim hft hfa
 show wpAny _ A (assign (.Name y pos') c.env (.ref a)) _ _ _
 refine cg (n := n) hy A (rise c σ2 h2) σ2 { s with heap := h2, toks := tk } (.ref a) (.ref a) _ _ _ R.1 B (.ref a) hk fun σ3 h3 t3 hk3 B3 g3 => ?_
 have eC3 := B3.keep C oC hCb
 refine ⟨m, hm.at' fun o e => by rw [eC'] at e; cases e; exact eC3, fun h' hs' => ?_⟩
 have S3 : cJ p c base σ3 h3 := B3.floor S2.entb up
 obtain ⟨S4, g4⟩ := S3.move [C] (fun b hb' => by
  obtain rfl := List.mem_singleton.mp hb'
  refine ⟨hb, hfa, fun q => ?_, fun o e => by rw [eC3] at e; cases e; exact nC⟩
  have := (B3.apart b q).2; rw [hCb] at this; cases this) (fun b o hnb e => hs'.extBut b o (fun q => hnb (List.mem_singleton.mpr q)) e)
 exact hQ .next σ3 .next h' t3 hk3 S4 .next ((g2.trans g3).trans g4)
end
end
section
noncomputable abbrev cu := D → List O → List (Addr × O) → Prop
noncomputable abbrev dp := List D → List (Addr × O) → cu → Prop
noncomputable def bW (l : List (Addr × O)) : List Addr := l.flatMap feet
noncomputable def Av (p : P) (h : Heap) : List (Addr × O) → List O → Prop
 | [], [] => True
 | q :: r, o :: os => (feet (q.1, o) = feet q ∧ dN p h q.1 o) ∧ Av p h r os
 | _, _ => False
structure Fv (p : P) (h : Heap) (sub : List (Addr × O)) (os : List O) (new : List (Addr × O)) (h' : Heap) : Prop where
 objs : Av p h' sub os
 news : ∀ q ∈ new, dN p h' q.1 q.2
 fresh : ∀ a ∈ bW new, h.get? a = none
 nodup : (bW new).Nodup
 kept : ∀ a o, a ∉ bW sub → h.get? a = some o → h'.get? a = some o
structure xT (p : P) (sub : List (Addr × O)) (h : Heap) : Prop where
 ok : p.Ok (hideAll h (bW sub))
 objs : ∀ q ∈ sub, dN p h q.1 q.2
 nodup : (bW sub).Nodup
noncomputable def ax (p : P) (n : Nat) (f : Addr) (G : dp) : Prop :=
 ∀ (A : Around) (s : Shared) (sub : List (Addr × O)) (vs : List Value) (ds : List D) (k : cu) (R : Result → Shared → Prop), HN A n → xT p sub s.heap → bo s.heap vs ds → G ds sub k →
  (∀ d os new v h' tk, k d os new → Fv p s.heap sub os new h' → df h' v d → R (.ok (.ret v)) { s with heap := h', toks := tk }) → codeAny (model p.prog p.w) A (.call (.ref f) ⟨vs, []⟩) R s
noncomputable def bN (st : List (Addr × O)) : List Nat → Option (List (Addr × O))
 | [] => some []
 | i :: is => match st[i]?, bN st is with
  | some q, some r => some (q :: r)
  | _, _ => none
noncomputable def aZ (st : List (Addr × O)) : List Nat → List O → List (Addr × O)
 | i :: is, o :: os => match st[i]? with
  | some q => aZ (st.set i (q.1, o)) is os
  | none => st
 | _, _ => st
theorem qV {st : List (Addr × O)} {i : Nat} {is : List Nat} {sub : List (Addr × O)} (h : bN st (i :: is) = some sub) : ∃ q r, sub = q :: r ∧ st[i]? = some q ∧ bN st is = some r := by
 simp only [bN] at h
 split at h
 ·exact ⟨_, _, (Option.some.inj h).symm, ‹_›, ‹_›⟩
 ·cases h
theorem pI {st : List (Addr × O)} {is : List Nat} : ∀ {sub : List (Addr × O)}, bN st is = some sub → (∀ q ∈ sub, ∃ i ∈ is, st[i]? = some q) ∧ sub.length = is.length := by
 induction is with
 | nil => exact fun h => Option.some.inj h ▸ ⟨fun _ q => (List.not_mem_nil q).elim, rfl⟩
 | cons i is ih =>
  intro sub h
  obtain ⟨q, r, rfl, e1, e2⟩ := qV h
  refine ⟨fun x hx => (HL hx).elim (fun e => ⟨i, c8, e ▸ e1⟩) fun hx => ((ih e2).1 x hx).elim fun j e => ⟨j, dP _ e.1, e.2⟩, congrArg Nat.succ (ih e2).2⟩
theorem xU {st : List (Addr × O)} {i : Nat} {x : Addr × O} : ∀ {is : List Nat}, i ∉ is → bN (st.set i x) is = bN st is
 | [], _ => rfl
 | j :: is, h => by
  have h1 : i ≠ j := fun e => h (e ▸ c8)
  simp only [bN]
  rw [xU (fun q => h (dP _ q)), List.getElem?_set, if_neg h1]
set_option tactic.hygienic true in
theorem xV {p : P} {h' : Heap} : ∀ {is : List Nat} {st sub : List (Addr × O)} {os : List O}, is.Nodup → bN st is = some sub → Av p h' sub os →
  bW (aZ st is os) = bW st ∧ ∀ (k : Nat) (q : Addr × O), (aZ st is os)[k]? = some q → (k ∈ is ∧ dN p h' q.1 q.2) ∨ (k ∉ is ∧ st[k]? = some q) := by
 intro is
 induction is with
 | nil => exact fun {st sub os} _ _ _ => ⟨rfl, fun k q e => .inr ⟨List.not_mem_nil, e⟩⟩
 | cons i is ih =>
  intro st sub os hn hp hb
  obtain ⟨q, r, rfl, e1, e2⟩ := qV hp
  cases os with
  | nil => exact hb.elim
  | cons o os =>
   have hn := List.nodup_cons.mp hn
   have ep : aZ st (i :: is) (o :: os) = aZ (st.set i (q.1, o)) is os := by simp only [aZ]; rw [e1]
   rw [ep]
   have ab := ih (st := st.set i (q.1, o)) hn.2 ((xU hn.1).trans e2) hb.2
   refine ⟨ab.1.trans (kD feet st i q (q.1, o) e1 hb.1.1), fun k x e => (ab.2 k x e).elim (fun d => .inl ⟨dP _ d.1, d.2⟩) fun d => ?_⟩
   have d2 := d.2
   rw [List.getElem?_set] at d2
   split at d2
   ·rename_i hik
    split at d2
    ·exact .inl ⟨hik ▸ c8, Option.some.inj d2 ▸ hb.1.2⟩
    ·cases d2
   ·rename_i hik
    exact .inr ⟨fun z => (HL z).elim (fun z => hik z.symm) d.1, d2⟩
section
variable {p : P} {c : Cx} {n : Nat} {X : XR}
theorem cJ.call0 {base : Heap} {σ : MS} {h : Heap} (S : cJ p c base σ h) {is : List Nat} {sub : List (Addr × O)} (hp : bN σ.st is = some sub) (hnd : (bW sub).Nodup) : xT p sub h := by
 obtain ⟨hm, _⟩ := pI hp
 have hm' : ∀ q ∈ sub, q ∈ σ.st := fun q hq => let ⟨_, _, e⟩ := hm q hq; HM e
 refine ⟨(S.ok.keeps S.entb).keeps fun a o e => hideAll_get _ (S.keep a o e) fun q => ?_, fun q hq => S.objs q (hm' q hq), hnd⟩
 obtain ⟨x, hx, hf⟩ := List.mem_flatMap.mp q
 rw [(S.apart a (fw (hm' x hx) hf)).2] at e; cases e
theorem o7 {st : List (Addr × O)} (hn : (bW st).Nodup) {is : List Nat} : ∀ {sub : List (Addr × O)}, is.Nodup → bN st is = some sub → (bW sub).Nodup := by
 induction is with
 | nil => exact fun _ h => Option.some.inj h ▸ List.nodup_nil
 | cons i is ih =>
  intro sub hi h
  obtain ⟨q, r, rfl, e1, e2⟩ := qV h
  have hi := List.nodup_cons.mp hi
  show ((q :: r).flatMap feet).Nodup
  rw [List.flatMap_cons, List.nodup_append]
  refine ⟨hn.sublist ?_, ih hi.2 e2, fun a ha b hb e => ?_⟩
  ·have : [q].Sublist st := List.singleton_sublist.mpr (HM e1)
   simpa [bW] using jJ feet this
  ·obtain ⟨x, hx, hf⟩ := List.mem_flatMap.mp hb
   obtain ⟨j, hj, ej⟩ := (pI e2).1 x hx
   exact gh feet hn e1 ej (fun z => hi.1 (z ▸ hj)) a ha (e ▸ hf)
theorem cJ.back {base : Heap} {σ : MS} {h h' : Heap} (S : cJ p c base σ h) {is : List Nat} {sub new : List (Addr × O)} {os : List O} (hp : bN σ.st is = some sub) (hi : is.Nodup) (B : Fv p h sub os new h') :
  cJ p c base ⟨σ.vars, aZ σ.st is os ++ new⟩ h' ∧ bc h h' := by
 obtain ⟨hm, _⟩ := pI hp
 have hm' : ∀ q ∈ sub, q ∈ σ.st := fun q hq => let ⟨_, _, e⟩ := hm q hq; HM e
 have hfs : ∀ a ∈ bW sub, a ∈ σ.feet := fun a ha => by
  obtain ⟨x, hx, hf⟩ := List.mem_flatMap.mp ha
  exact fw (hm' x hx) hf
 have g : bc h h' := fun a o e t => B.kept a o (fun q => by
  obtain ⟨o', e', nt⟩ := S.foot_ex (hfs a q)
  rw [e] at e'; cases e'; exact nt t) e
 have kf : ∀ a ∈ c.fa, ∀ o, h.get? a = some o → h'.get? a = some o := fun a ha o e => B.kept a o (fun q => (S.apart a (hfs a q)).1 ha) e
 obtain ⟨f1, f2⟩ := xV hi hp B.objs
 have ff : (⟨σ.vars, aZ σ.st is os ++ new⟩ : MS).feet = σ.feet ++ bW new := by
  show (aZ σ.st is os ++ new).flatMap feet = _
  rw [List.flatMap_append]
  show bW (aZ σ.st is os) ++ bW new = _
  rw [f1]; rfl
 refine ⟨⟨S.ok, S.kind, S.entb, fun a o e => B.kept a o (fun q => by rw [(S.apart a (hfs a q)).2] at e; cases e) (S.keep a o e), S.nodl, S.lenv, fun i l d hl hd => ?_, fun l hl => ?_, fun q hq => ?_, ?_, fun a ha => ?_, fun a ha => ?_⟩, g⟩
 ·obtain ⟨v, x, r⟩ := S.vars i l d hl hd
  exact ⟨v, x.at' (kf _ (S.frm l (HM hl)).2), r.grow g⟩
 ·obtain ⟨x, y⟩ := S.frm l hl
  exact ⟨x.at' (kf _ y), y⟩
 ·rcases List.mem_append.mp hq with hq | hq
  ·obtain ⟨k, hk⟩ := List.getElem?_of_mem hq
   rcases f2 k q hk with ⟨_, d⟩ | ⟨hk', d⟩
   ·exact d
   ·refine (S.objs q (HM d)).move g fun a ha o e => B.kept a o (fun z => ?_) e
    obtain ⟨x, hx, hf⟩ := List.mem_flatMap.mp z
    obtain ⟨j, hj, ej⟩ := hm x hx
    exact gh feet S.nodup d ej (fun y => hk' (y ▸ hj)) a ha hf
  ·exact B.news q hq
 ·rw [ff]
  refine List.nodup_append.mpr ⟨S.nodup, B.nodup, fun a ha b hb e => ?_⟩
  obtain ⟨o, z, _⟩ := S.foot_ex ha
  rw [e, B.fresh b hb] at z; cases z
 ·rw [ff] at ha
  rcases List.mem_append.mp ha with ha | ha
  ·exact S.apart a ha
  ·have := S.new_none (B.fresh a ha)
   exact ⟨this.2.1, this.1⟩
 ·obtain ⟨x, o, e, z⟩ := S.faok a ha
  exact ⟨x, o, kf a ha o e, z⟩
structure d8 (p : P) (f : Addr) (qual : Str) (xs : List Str) (body : List Stmt) (scope : Scope) (cdv : Value) : Prop where
 ex : G3 fun oc od osl name params dV kV doc pm an ct => Hu (p.K.lookup f = some ⟨oc, od, .func (fnOf name qual params body scope dV kV doc pm an cdv ct), osl⟩) (∀ vs : List Value, vs.length = xs.length → bindArgs (fnOf name qual params body scope dV kV doc pm an cdv ct) ⟨vs, []⟩ = pure (xs.zip vs))
 code : codeIn p.K cdv qual = true
theorem d8.keep {f : Addr} {qual : Str} {xs : List Str} {body : List Stmt} {scope : Scope} {cdv : Value} (F : d8 p f qual xs body scope cdv) : keepIn p.K (.ref f) = true := by
 obtain ⟨oc, od, osl, name, params, dV, kV, doc, pm, an, ct, e, _⟩ := F.ex
 simp only [keepIn, e]
noncomputable def Cx.of (qual : Str) (scope : Scope) (f : Addr) (cdv : Value) (lc : Addr → List eE) (ent : Heap) (L : Addr) : Cx :=
 { env := envOfC qual scope L f cdv, locs := lc L, fa := L :: (cellsFrom (L + 1) scope.names []).map (·.2), ent := ent }
theorem Aw (F : List (Str × Value) → (Str → Option Value) → Str → Option Value) (C : Str → Prop) (h0 : ∀ m, F [] m = m) (h1 : ∀ y v r m, C y → F ((y, v) :: r) m = F r fun z => if z = y then some v else m z) (h2 : ∀ y v r m, ¬ C y → F ((y, v) :: r) m = F r m) (xs : List Str) :
  ∀ (vs : List Value) (m : Str → Option Value) (x : Str) (v : Value), xs.Nodup → C x → (∃ i : Nat, xs[i]? = some x ∧ vs[i]? = some v) → F (xs.zip vs) m x = some v := by
 have no : ∀ (y : Str) (xs : List Str) (vs : List Value) (m : Str → Option Value), y ∉ xs → F (xs.zip vs) m y = m y := fun y xs => by
  induction xs with
  | nil => exact fun vs m _ => congrFun (h0 m) y
  | cons z xs ih =>
   intro vs m hz
   cases vs with
   | nil => exact congrFun (h0 m) y
   | cons w vs =>
    have hy := fun q => hz (dP z q)
    show F ((z, w) :: xs.zip vs) m y = _
    by_cases hc : C z
    ·exact (congrFun (h1 z w _ m hc) y).trans ((ih vs _ hy).trans (if_neg fun (e : y = z) => hz (e ▸ c8)))
    ·exact (congrFun (h2 z w _ m hc) y).trans (ih vs m hy)
 induction xs with
 | nil => exact fun _ _ _ _ _ _ h => h.elim fun i h => nomatch h.1
 | cons y xs ih =>
  intro vs m x v hn hk h
  obtain ⟨i, hx, hv⟩ := h
  have hn := List.nodup_cons.mp hn
  cases vs with
  | nil => cases hv
  | cons u vs =>
   show F ((y, u) :: xs.zip vs) m x = _
   cases i with
   | zero =>
    cases Option.some.inj hx
    cases Option.some.inj hv
    exact (congrFun (h1 y v _ m hk) y).trans ((no y xs vs _ hn.1).trans (if_pos rfl))
   | succ i =>
    by_cases hc : C y
    ·exact (congrFun (h1 y u _ m hc) x).trans (ih vs _ x v hn.2 hk ⟨i, hx, hv⟩)
    ·exact (congrFun (h2 y u _ m hc) x).trans (ih vs _ x v hn.2 hk ⟨i, hx, hv⟩)
theorem Cy (kd : Str → Option NameKind) : ∀ (xs : List Str) (vs : List Value) (m : Str → Option Value) (x : Str) (v : Value), xs.Nodup → kd x = some .local → (∃ i : Nat, xs[i]? = some x ∧ vs[i]? = some v) → bindL kd (xs.zip vs) m x = some v :=
 Aw (bindL kd) (fun x => kd x = some .local) (fun _ => rfl) (fun y v r m h => by rw [bindL, if_pos h]) fun y v r m h => by rw [bindL, if_neg h]
theorem Cz (kd : Str → Option NameKind) : ∀ (xs : List Str) (vs : List Value) (m : Str → Option Value) (x : Str) (v : Value), xs.Nodup → kd x ≠ some .local → (∃ i : Nat, xs[i]? = some x ∧ vs[i]? = some v) → bindC kd (xs.zip vs) m x = some v :=
 Aw (bindC kd) (fun x => kd x ≠ some .local) (fun _ => rfl) (fun y v r m h => by rw [bindC, if_neg h]) fun y v r m h => by rw [bindC, if_pos (Decidable.not_not.mp h)]
noncomputable def CA : Fl → Option D
 | .ret d => some d
 | .next | .brk | .cont => some .none
 | .exc => none
noncomputable def Fw (sub st : List (Addr × O)) (os : List O) (new : List (Addr × O)) : Prop :=
 ∃ rest, st = (sub.zip os).map (fun x => (x.1.1, x.2)) ++ rest ∧ os.length = sub.length ∧ (∀ (i : Nat) (q : Addr × O) (o : O), sub[i]? = some q → os[i]? = some o → feet (q.1, o) = feet q) ∧ new.Sublist rest
noncomputable def Ei (sub : List (Addr × O)) (k : cu) : Fl → MS → Prop := fun fl σ' => ∃ os new d, Fw sub σ'.st os new ∧ CA fl = some d ∧ k d os new
noncomputable def fC (F : SC) (nv : Nat) (G : dp) : Prop := ∀ ds sub k, G ds sub k →
 F ⟨ds.map some ++ List.replicate (nv - ds.length) none, sub⟩ (Ei sub k)
theorem HN.deeper {A : Around} {n : Nat} (R : HN A (n + 1)) (env : Env) : HN (A.deeper env) n :=
 ⟨R.hd, R.gd, by have := R.dep; show A.depth + 1 + n < _; lia, by have := R.un; show A.units + 3 + 20 * n + 200 < _; lia⟩
structure d9 (scope : Scope) (xs : List Str) (lc : Addr → List eE) : Prop where
 nodup : ∀ L, (lc L).Nodup
 params : ∀ L (i : Nat) (x : Str), xs[i]? = some x → (scope.names.lookup x = some .local ∧ (lc L)[i]? = some (.ns L x)) ∨ (scope.names.lookup x = some .cell ∧ ∃ a, (cellsFrom (L + 1) scope.names []).lookup x = some a ∧ (lc L)[i]? = some (.cell a))
 each : ∀ L, ∀ l ∈ lc L, (∃ x, l = .ns L x) ∨ (∃ x a, (cellsFrom (L + 1) scope.names []).lookup x = some a ∧ l = .cell a)
 xs : xs.Nodup
 cells : ∀ L, ((cellsFrom (L + 1) scope.names []).map (·.1)).Nodup
theorem pJ {β : Type} {l : List (Str × β)} : ∀ {x : Str} {b : β}, (l.map (·.1)).Nodup → (x, b) ∈ l → l.lookup x = some b := by
 induction l with
 | nil => exact fun _ h => (List.not_mem_nil h).elim
 | cons q l ih =>
  intro x b hn h
  rw [bk, List.nodup_cons] at hn
  rw [List.lookup_cons]
  rcases HL h with e | h2
  ·rw [← e, beq_self_eq_true]
  ·rw [beq_eq_false_iff_ne.mpr fun e => hn.1 (List.mem_map.mpr ⟨(x, b), h2, e⟩)]
   exact ih hn.2 h2
theorem CB {p : P} {h : Heap} {sub : List (Addr × O)} : ∀ {os : List O}, os.length = sub.length → (∀ (i : Nat) (q : Addr × O) (o : O), sub[i]? = some q → os[i]? = some o → feet (q.1, o) = feet q) →
  (∀ q ∈ (sub.zip os).map (fun x => (x.1.1, x.2)), dN p h q.1 q.2) → Av p h sub os ∧ bW ((sub.zip os).map (fun x => (x.1.1, x.2))) = bW sub := by
 induction sub with
 | nil => exact fun {os} hl _ _ => List.length_eq_zero_iff.mp hl ▸ ⟨trivial, rfl⟩
 | cons q sub ih =>
  intro os hl hf ho
  cases os with
  | nil => cases hl
  | cons o os =>
   have ab := ih (os := os) (Nat.succ.inj hl) (fun i x y h1 h2 => hf (i + 1) x y h1 h2) (fun x hx => ho x (dP _ hx))
   have h0 := hf 0 q o rfl rfl
   refine ⟨⟨⟨h0, ho (q.1, o) c8⟩, ab.1⟩, ?_⟩
   show feet (q.1, o) ++ bW ((sub.zip os).map (fun x => (x.1.1, x.2))) = feet q ++ bW sub
   rw [h0, ab.2]
theorem CC {f : Addr} {qual : Str} {xs : List Str} {body : List Stmt} {scope : Scope} {cdv : Value} {lc : Addr → List eE} {nv : Nat} (Fn : d8 p f qual xs body scope cdv) (Lc : d9 scope xs lc) (hnv : ∀ L, (lc L).length = nv) (hnx : xs.length ≤ nv)
  (hco : scope.isCoroutine = false) (hgen : scope.isGenerator = false) (hk : scope.kind = .function) {A : Around} {s : Shared} {sub : List (Addr × O)} {vs : List Value} {ds : List D} {R : Result → Shared → Prop} (Rm : HN A (n + 1)) (C0 : xT p sub s.heap) (rs : bo s.heap vs ds) (hlx : ds.length = xs.length)
  (hb : ∀ (L : Addr) (h1 : Heap) (t1 : Nat), (hideAll s.heap (bW sub)).get? L = none → (∀ fr, cJ p { Cx.of qual scope f cdv lc (hideAll s.heap (bW sub)) L with fr := fr } (hideAll s.heap (bW sub)) ⟨ds.map some ++ List.replicate (nv - ds.length) none, sub⟩ h1) →
   wpAny (model p.prog p.w) (A.deeper (envOfC qual scope L f cdv)) (execs body (envOfC qual scope L f cdv)) (fun f s' => R (.ok (.ret (match f with | .ret v => v | _ => .none))) s')
    (fun e s' => wpAny (model p.prog p.w) (A.deeper (envOfC qual scope L f cdv)) (leaving (envOfC qual scope L f cdv) e) (fun x s'' => R (.error e) s'') (fun e' s'' => R (.error e') s'') s') { s with heap := h1, toks := t1 }) :
  codeAny (model p.prog p.w) A (.call (.ref f) ⟨vs, []⟩) R s := by
 obtain ⟨oc, od, osl, name, params, dV, kV, doc, pm, an, ct, e, hbind⟩ := Fn.ex
 have hX : p.K.In s.heap := C0.ok.X.keeps fun a o e => of_hideAll _ e
 have hvl : vs.length = xs.length := rs.length.trans hlx
 have hzl : ∀ x ∈ xs.zip vs, ∃ (i : Nat), xs[i]? = some x.1 ∧ vs[i]? = some x.2 := fun x hx => by
  obtain ⟨i, hi⟩ := List.getElem?_of_mem hx
  rw [List.getElem?_zip_eq_some] at hi
  exact ⟨i, hi⟩
 refine codeAny_call_cells (fd := fnOf name qual params body scope dV kV doc pm an cdv ct) (body := body) (vals := vs) (binds := xs.zip vs) (by have := Rm.dep; lia) (hX _ _ e) rfl
  (C0.ok.nolimit.keeps fun a o e => of_hideAll _ e) (codeRec_of hX Fn.code) rfl (hbind vs hvl) rfl (fun x hx => ?_) (fun s₁ I => ?_) hco hgen hk
 ·obtain ⟨i, h1, _⟩ := hzl x hx
  rcases Lc.params s.heap.objs.size i _ h1 with ⟨a, _⟩ | ⟨a, b, c, _⟩
  ·exact .inl a
  ·exact .inr ⟨a, by rw [show (fnOf name qual params body scope dV kV doc pm an cdv ct).scope = scope from rfl, c]; rfl⟩
 have he : callEnvC (fnOf name qual params body scope dV kV doc pm an cdv ct) s.heap.objs.size f = envOfC qual scope s.heap.objs.size f cdv := rfl
 rw [he] at I ⊢
 obtain ⟨⟨⟨h1, t1, rfl⟩, hns, hkeep, _⟩, hcell, hapart, habove⟩ := I
 have hL : (envOfC qual scope s.heap.objs.size f cdv).locals = s.heap.objs.size := rfl
 have hcs : (envOfC qual scope s.heap.objs.size f cdv).cells = cellsFrom (s.heap.objs.size + 1) scope.names [] := rfl
 generalize hLL : s.heap.objs.size = L at *
 have hfree : ∀ a, L ≤ a → s.heap.get? a = none := fun a ha => Heap.get?_none_of_le (hLL ▸ ha)
 have hentn : ∀ a, s.heap.get? a = none → (hideAll s.heap (bW sub)).get? a = none := fun a ha => by
  cases q : (hideAll s.heap (bW sub)).get? a with
  | none => rfl
  | some o => rw [of_hideAll _ q] at ha; cases ha
 have hcab : ∀ x a, (cellsFrom (L + 1) scope.names []).lookup x = some a → L < a := fun x a hx => habove x a (mem_of_lookup hx)
 refine hb L h1 t1 (hentn _ (hfree _ (Nat.le_refl _))) fun fr => ?_
 refine ⟨C0.ok, hk, fun _ _ e => e, fun a o e => hkeep a o (of_hideAll _ e), Lc.nodup L, ?_, fun i l d hl hd => ?_, fun l hl => ?_, fun q hq => ?_, C0.nodup, fun a ha => ⟨fun q => ?_, hideAll_none _ ha⟩, fun a ha => ?_⟩
 ·show (ds.map some ++ List.replicate (nv - ds.length) none).length = (lc L).length
  rw [hnv L]; simp [Nat.add_sub_of_le (hlx ▸ hnx : ds.length ≤ nv)]
 ·have hd' : (ds.map some ++ List.replicate (nv - ds.length) none)[i]? = some (some d) := hd
  by_cases hi : i < ds.length
  ·rw [List.getElem?_append_left (by simpa using hi), List.getElem?_map] at hd'
   obtain ⟨d', e1, e2⟩ := Option.map_eq_some_iff.mp hd'
   cases e2
   obtain ⟨v, hv, rv⟩ := rs.at e1
   have hix : xs[i]? = some xs[i] := by simp [hlx ▸ hi]
   have hl' : (lc L)[i]? = some l := hl
   rcases Lc.params L i _ hix with ⟨a, b⟩ | ⟨a, b, c1, c2⟩
   ·rw [b] at hl'; cases hl'
    refine ⟨v, ⟨_, hns, ?_⟩, rv.grow (bc.of_ext hkeep)⟩
    exact Cy _ _ _ _ _ _ Lc.xs a ⟨i, hix, hv⟩
   ·rw [c2] at hl'; cases hl'
    refine ⟨v, ?_, rv.grow (bc.of_ext hkeep)⟩
    have := hcell xs[i] b c1
    rw [Cz _ _ _ _ _ v Lc.xs (by show ¬ scope.names.lookup _ = _; rw [a]; simp) ⟨i, hix, hv⟩] at this
    exact this
  ·rw [List.getElem?_append_right (by simpa using hi), List.getElem?_replicate] at hd'
   split at hd' <;> simp at hd'
 ·have hl' : l ∈ lc L := hl
  rcases Lc.each L l hl' with ⟨x, rfl⟩ | ⟨x, a, hx, rfl⟩
  ·exact ⟨⟨_, hns⟩, c8⟩
  ·exact ⟨⟨_, hcell x a hx⟩, dP _ (List.mem_map.mpr ⟨(x, a), mem_of_lookup hx, rfl⟩)⟩
 ·exact (C0.objs q hq).move (bc.of_ext hkeep) fun a _ o e => hkeep a o e
 ·obtain ⟨x, hx, hf⟩ := List.mem_flatMap.mp ha
  obtain ⟨o, e, _⟩ := (C0.objs x hx).foot hf
  have hlt := Heap.lt_size e
  rw [hLL] at hlt
  have q' : a ∈ L :: (cellsFrom (L + 1) scope.names []).map (·.2) := q
  rcases HL q' with rfl | q'
  ·exact Nat.lt_irrefl _ hlt
  ·obtain ⟨y, hy, rfl⟩ := List.mem_map.mp q'
   exact Nat.lt_asymm hlt (habove y.1 y.2 hy)
 ·have q' : a ∈ L :: (cellsFrom (L + 1) scope.names []).map (·.2) := ha
  rcases HL q' with rfl | q'
  ·exact ⟨hentn _ (hfree _ (Nat.le_refl _)), eE.Ok.ex (l := .ns a ("" : Str)) ⟨_, hns⟩⟩
  ·obtain ⟨y, hy, rfl⟩ := List.mem_map.mp q'
   exact ⟨hentn _ (hfree _ (Nat.le_of_lt (habove y.1 y.2 hy))), eE.Ok.ex (l := .cell y.2) ⟨_, hcell y.1 y.2 (pJ (Lc.cells L) hy)⟩⟩
theorem bd {f : Addr} {qual : Str} {xs : List Str} {body : List Stmt} {scope : Scope} {cdv : Value} {lc : Addr → List eE} {nv : Nat} {F : SC} {G : dp} (Fn : d8 p f qual xs body scope cdv) (Lc : d9 scope xs lc) (hnv : ∀ L, (lc L).length = nv)
  (hb : ∀ ent L, iZ p (Cx.of qual scope f cdv lc ent L) k8 n body F) (hG : fC F nv G) (hlen : ∀ ds sub k, G ds sub k → ds.length = xs.length) (hnx : xs.length ≤ nv)
  (hco : autoParam (scope.isCoroutine = false) aR) (hgen : autoParam (scope.isGenerator = false) aR) (hk : autoParam (scope.kind = .function) aR) : ax p (n + 1) f G := by
 intro A s sub vs ds k R Rm C0 rs hg hR
 refine CC Fn Lc hnv hnx hco hgen hk Rm C0 rs (hlen ds sub k hg) fun L h1 t1 hbL S => ?_
 refine wpAny_mono (hb _ L _ (hideAll s.heap (bW sub)) _ { s with heap := h1, toks := t1 } _ (fun fl s' => R (.ok (.ret (match fl with | .ret v => v | _ => .none))) s') (fun _ _ => False) ⟨Rm.deeper _, trivial⟩ (S _) (hG ds sub k hg) (fun fl σ' fv h' tk hk2 S2 r2 g2 => ?_) fun _ _ _ _ _ hx => hx.elim) (fun _ _ x => x) fun _ _ x => x.elim
 obtain ⟨os, new, d, ⟨rest, hst, hol, hof, hnr⟩, hd, hk3⟩ := hk2
 have hmem : ∀ q ∈ new, q ∈ σ'.st := fun q hq => by rw [hst]; exact List.mem_append_right _ (hnr.subset hq)
 obtain ⟨hbo, hfe⟩ := CB (p := p) (h := h') hol hof (fun q hq => S2.objs q (by rw [hst]; exact List.mem_append_left _ hq))
 have hfeet : σ'.feet = bW sub ++ bW rest := by
  show σ'.st.flatMap feet = _
  rw [hst, List.flatMap_append]
  show bW _ ++ bW rest = _
  rw [hfe]
 have hnf : (bW new).Sublist (bW rest) := jJ feet hnr
 have hnd := S2.nodup
 rw [hfeet, List.nodup_append] at hnd
 have B : Fv p s.heap sub os new h' := by
  refine ⟨hbo, fun q hq => S2.objs q (hmem q hq), fun a ha => ?_, hnd.2.1.sublist hnf, fun a o hna e => S2.keep a o (hideAll_get _ e hna)⟩
  have ha' : a ∈ bW rest := hnf.subset ha
  have hb0 := (S2.apart a (by rw [hfeet]; exact List.mem_append_right _ ha')).2
  cases q : s.heap.get? a with
  | none => rfl
  | some o =>
   exfalso
   by_cases hs : a ∈ bW sub
   ·exact hnd.2.2 a hs a ha' rfl
   ·rw [hideAll_get _ q hs] at hb0; cases hb0
 have fin : ∀ v, df h' v d → R (.ok (.ret v)) { s with heap := h', toks := tk } := fun v r => hR d os new v h' tk hk3 B r
 cases r2 with
 | next => cases hd; exact fin _ .none
 | brk => cases hd; exact fin _ .none
 | cont => cases hd; exact fin _ .none
 | ret r => cases hd; exact fin _ r
end
end
section
section
variable {M : Model} {A : Around} {E : Value → Shared → Prop} {s : Shared}
theorem CD {f : Value} {trees : List (Bool × Sem Value)} {Q : Args → Shared → Prop} (hp : trees.any (·.1) = false) (h : wpAny M A (spliced trees) (fun vs s' => Q ⟨vs, []⟩ s') E s) : wpAny M A (evalArgs f true trees []) Q E s := by
 cases trees with
 | nil =>
  unfold evalArgs
  show wpAny M A (spliced [] >>= _) Q E s
  exact HI (wpAny_mono h (fun vs s' h' => HI (HJ (wpAny_holding (HI (HJ (HI (HJ (HJ h')))))))) fun _ _ x => x)
 | cons t r =>
  obtain ⟨b, x⟩ := t
  cases b with
  | true => simp at hp
  | false => exact evalArgs_plain h
theorem bT {pos : Pos} {f : Value} {first : List Value} {trees : List (Bool × Sem Value)} {Q : Value → Shared → Prop} {Pr : Heap → Prop} (hp : trees.any (·.1) = false)
  (hk : ∀ h, Pr h → ∃ k, (k = Keeper.frame ∨ k = Keeper.machine ∨ k = Keeper.boundFrame) ∧ Looks M h (keeperOf f) k)
  (h : wpAny M A (spliced trees) (fun vs s' => Pr s'.heap ∧ wpAny M A (call f (first ++ vs)) Q E s') E s) : wpAny M A (callWith pos f first trees []) Q E s :=
 callWith_of (P := Pr) (by rw [hp]; rfl) hk (CD hp h)
theorem dh {f : Value} (hf : ∀ a, f ≠ .ref a) : ∀ h : Heap, True → ∃ k, (k = Keeper.frame ∨ k = Keeper.machine ∨ k = Keeper.boundFrame) ∧ Looks M h (keeperOf f) k := fun h _ => by
 refine ⟨.machine, .inr (.inl rfl), Looks.of_pure ?_⟩
 cases f with
 | ref a => exact absurd rfl (hf a)
 | _ => rfl
end
section
variable {p : P} {c : Cx} {n : Nat} {X : XR}
noncomputable def dt (d : D) : EC := fun σ k => k d σ
structure HH (c : Cx) : Prop where
 g : c.env.globals = mainGlobals
 b : c.env.builtins = builtinsNs
theorem iw {A : Around} {base : Heap} {σ : MS} {s : Shared} {x : Str} {pos : Pos} {v : Value} {Q E : _} (S : cJ p c base σ s.heap) (hx : c.env.kindOf x = some .globalImplicit) (hg : c.env.globals = mainGlobals) (hv : p.mg x = some v) (h : Q v s)
  (hd : autoParam ((x == ("__debug__" : Str)) = false) aD) : wpAny (model p.prog p.w) A (eval (.Name x pos) c.env) Q E s :=
 Name_function_global S.kind hx (loadGlobal_global (hg ▸ S.okh.g) hv h) hd
theorem iP {A : Around} {base : Heap} {σ : MS} {s : Shared} {x : Str} {pos : Pos} {v : Value} {Q E : _} (S : cJ p c base σ s.heap) (hx : c.env.kindOf x = some .globalImplicit) (hg : c.env.globals = mainGlobals) (hb : c.env.builtins = builtinsNs) (hm : p.mg x = none)
  (hv : bootBuiltins x = some v) (h : Q v s) (hn : autoParam (x ≠ "__name__") aD) (hd : autoParam ((x == ("__debug__" : Str)) = false) aD) : wpAny (model p.prog p.w) A (eval (.Name x pos) c.env) Q E s :=
 Name_function_global S.kind hx (loadGlobal_builtin (hg ▸ S.okh.g) hm (hb ▸ S.okh.b) ((S.okh.builtins x hn).trans hv) h) hd
theorem s5 {x : Str} {pos : Pos} {d : D} {v : Value} (hx : c.env.kindOf x = some .globalImplicit) (hg : c.env.globals = mainGlobals) (hv : p.mg x = some v) (hr : ∀ h, p.Ok h → df h v d) (hd : autoParam ((x == ("__debug__" : Str)) = false) aD) : Ev p c n (.Name x pos) (dt d) :=
 fun A base σ s k Q E R S hf hQ => iw S hx hg hv (hQ d σ v s.heap s.toks hf S (hr _ S.okh) (bc.refl _)) hd
noncomputable def a9 (G : dp) (is : List Nat) (fs : oy) : EC := fun σ k => fs σ fun ds σ1 => jn (bN σ1.st is) fun sub => G ds sub fun d os new => k d ⟨σ1.vars, aZ σ1.st is os ++ new⟩
theorem Ax {A : Around} {base : Heap} {σ : MS} {s : Shared} {f : Addr} {G : dp} {is : List Nat} {vs : List Value} {ds : List D} {k : D → MS → Prop} {Q E : Value → Shared → Prop} (hG : ax p n f G) (hi : is.Nodup) (R : HN A n) (S : cJ p c base σ s.heap) (r : bo s.heap vs ds)
  (hf : jn (bN σ.st is) fun sub => G ds sub fun d os new => k d ⟨σ.vars, aZ σ.st is os ++ new⟩)
  (hQ : ∀ d σ' v h' tk, k d σ' → cJ p c base σ' h' → df h' v d → bc s.heap h' → Q v { s with heap := h', toks := tk }) : codeAny (model p.prog p.w) A (.call (.ref f) ⟨vs, []⟩) (fun r s' => match r with | .ok (.ret v) => Q v s' | .ok _ => False | .error e => E e s') s :=
 cK hf fun sub hf e => hG A s sub vs ds _ _ R (S.call0 e (o7 S.nodup hi e)) r hf fun d os new v h' tk hk B rv =>
  have q := S.back e hi B
  hQ d _ v h' tk hk q.1 rv q.2
theorem ax.le {f : Addr} {G : dp} {m n : Nat} (h : ax p m f G) (hm : m ≤ n) : ax p n f G := fun A s sub vs ds k R Rm => h A s sub vs ds k R ⟨Rm.hd, Rm.gd, by have := Rm.dep; lia, by have := Rm.un; lia⟩
theorem bI {x : Str} {np pos : Pos} {args : List Expr} {f : Addr} {G : dp} {is : List Nat} {fs : oy} {m : Nat} (hG : ax p m f G) (hx : c.env.kindOf x = some .globalImplicit) (hg : c.env.globals = mainGlobals) (hv : p.mg x = some (.ref f)) (hk : keepIn p.K (.ref f) = true)
  (hs : xQ p c n args fs) (hm : autoParam (m ≤ n) aD) (hi : autoParam (is.Nodup) aD) (hp : autoParam (∀ pos, (backTo pos (starEach args c.env)).any (·.1) = false) aI) (hd : autoParam ((x == ("__debug__" : Str)) = false) aD) : Ev p c n (.Call (.Name x np) args [] pos) (a9 G is fs) := fun A base σ s k Q E R S hf hQ => by
 refine wpAny_Call_NameR (iw S hx hg hv ?_ hd)
 refine bT (Pr := p.K.In) (hp pos) (keeps_K hk) ?_
 refine hs A base σ s _ pos _ E R S hf fun ds σ1 vs h1 t1 hk1 S1 r1 g1 => ⟨S1.okh.X, wpAny_call ?_⟩
 exact Ax (hG.le hm) hi R S1 r1 hk1 fun d σ' v h' tk hk2 S2 r2 g2 => hQ d σ' v h' tk hk2 S2 r2 (g1.trans g2)
noncomputable abbrev qW := List D → MS → (D → MS → Prop) → Prop
noncomputable def BF (p : P) (f : Value) (o : qW) : Prop :=
 ∀ (c : Cx) (A : Around) (n : Nat) (base : Heap) (σ : MS) (s : Shared) (vs : List Value) (ds : List D) (k : D → MS → Prop) (Q E : _), HN A n → cJ p c base σ s.heap → bo s.heap vs ds → o ds σ k →
  (∀ d σ' v h' tk, k d σ' → cJ p c base σ' h' → df h' v d → bc s.heap h' → Q v { s with heap := h', toks := tk }) → wpAny (model p.prog p.w) A (call f vs) Q E s
noncomputable def bK (o : qW) (fs : oy) : EC := fun σ k => fs σ fun ds σ1 => o ds σ1 k
theorem ca {x : Str} {np pos : Pos} {args : List Expr} {f : Value} {o : qW} {fs : oy} (ho : BF p f o) (hf : ∀ a, f ≠ .ref a) (hx : c.env.kindOf x = some .globalImplicit) (hg : c.env.globals = mainGlobals) (hb : c.env.builtins = builtinsNs) (hm : p.mg x = none) (hv : bootBuiltins x = some f)
  (hs : xQ p c n args fs) (hp : autoParam (∀ pos, (backTo pos (starEach args c.env)).any (·.1) = false) aI) (hn : autoParam (x ≠ "__name__") aD) (hd : autoParam ((x == ("__debug__" : Str)) = false) aD) : Ev p c n (.Call (.Name x np) args [] pos) (bK o fs) := fun A base σ s k Q E R S hf' hQ => by
 refine wpAny_Call_NameR (iP S hx hg hb hm hv ?_ hn hd)
 refine bT (Pr := fun _ => True) (hp pos) (dh hf) ?_
 refine hs A base σ s _ pos _ E R S hf' fun ds σ1 vs h1 t1 hk1 S1 r1 g1 => ⟨trivial, ?_⟩
 exact ho c A n base σ1 { s with heap := h1, toks := t1 } vs ds k _ E R S1 r1 hk1 fun d σ' v h' tk hk2 S2 r2 g2 => hQ d σ' v h' tk hk2 S2 r2 (g1.trans g2)
noncomputable def bq (o : qW) (fo : EC) (fs : oy) : EC := fun σ k => fo σ fun d σ1 => o5 d fun x => fs σ1 fun ds σ2 => o (.str x :: ds) σ2 k
theorem ee {e : Expr} {name : Str} {apos pos : Pos} {args : List Expr} {id : String} {o : qW} {fo : EC} {fs : oy} {pl : Sem Bool} (ho : BF p (.builtin id) o) (slot : Slot "str" name id) (ty : typeOf (.builtin id) = pure (.type "method_descriptor")) (he : Ev p c n e fo) (hs : xQ p c n args fs)
  (hp : autoParam (∀ pos, (backTo pos (starEach args c.env)).any (·.1) = false) aI)
  (hev : autoParam (eval (.Call (.Attribute e name apos) args [] pos) c.env = (do
   let ov ← eval e c.env
   standAt apos.atName
   let (f, first) ← holding [ov] (getMethod ov name pl)
   callWith pos f first (backTo pos (starEach args c.env)) [])) aR) : Ev p c n (.Call (.Attribute e name apos) args [] pos) (bq o fo fs) := fun A base σ s k Q E R S hf hQ => by
 refine MethodCall_ (pl := pl) (he A base σ s _ _ E R S hf fun d σ1 v h1 t1 hk1 S1 r1 g1 => ?_) hev
 refine ec r1 hk1 fun x hk1 t => ?_
 refine GM.of (.str x t) (typeIs_str _ _ _) slot ty GM.noRef ?_
 refine bT (Pr := fun _ => True) (hp pos) (dh (by intro a h; cases h)) ?_
 refine hs A base σ1 { s with heap := h1, toks := t1 } _ pos _ E R S1 hk1 fun ds σ2 vs h2 t2 hk2 S2 r2 g2 => ⟨trivial, ?_⟩
 exact ho c A n base σ2 { s with heap := h2, toks := t2 } (.str x t :: vs) _ k _ E R S2 (.cons (.str x t) r2) hk2 fun d σ' v h' tk hk3 S3 r3 g3 => hQ d σ' v h' tk hk3 S3 r3 ((g1.trans g2).trans g3)
noncomputable def bD (j : MS → Nat) (o : qW) (fo : EC) (fs : oy) : EC := fun σ k => fo σ fun d σ1 => jo d σ1.st[j σ1]? fun b _ => fs σ1 fun ds σ2 => o (.ref b :: ds) σ2 k
theorem di {e : Expr} {name : Str} {apos pos : Pos} {args : List Expr} {id : String} {j : MS → Nat} {o : qW} {fo : EC} {fs : oy} {pl : Sem Bool} (ho : BF p (.builtin id) o) (slot : Slot "list" name id) (ty : typeOf (.builtin id) = pure (.type "method_descriptor")) (he : Ev p c n e fo) (hs : xQ p c n args fs)
  (hp : autoParam (∀ pos, (backTo pos (starEach args c.env)).any (·.1) = false) aI)
  (hev : autoParam (eval (.Call (.Attribute e name apos) args [] pos) c.env = (do
   let ov ← eval e c.env
   standAt apos.atName
   let (f, first) ← holding [ov] (getMethod ov name pl)
   callWith pos f first (backTo pos (starEach args c.env)) [])) aR) : Ev p c n (.Call (.Attribute e name apos) args [] pos) (bD j o fo fs) := fun A base σ s k Q E R S hf hQ => by
 refine MethodCall_ (pl := pl) (he A base σ s _ _ E R S hf fun d σ1 v h1 t1 hk1 S1 r1 g1 => ?_) hev
 refine dT S1 r1 hk1 fun a ds0 hk1 e0 vs0 hl _ => hl.elim fun m0 el => ?_
 refine getMethod_builtin (T := "list") ⟨_, el, rfl⟩ F.plainAttrs_list slot ty (fun b hb => by cases hb; exact ⟨_, el, rfl⟩) ?_
 refine bT (Pr := fun _ => True) (hp pos) (dh (by intro a h; cases h)) ?_
 refine hs A base σ1 { s with heap := h1, toks := t1 } _ pos _ E R S1 hk1 fun ds σ2 vs h2 t2 hk2 S2 r2 g2 => ⟨trivial, ?_⟩
 exact ho c A n base σ2 { s with heap := h2, toks := t2 } (.ref a :: vs) _ k _ E R S2 (.cons (.ref a) r2) hk2 fun d σ' v h' tk hk3 S3 r3 g3 => hQ d σ' v h' tk hk3 S3 r3 ((g1.trans g2).trans g3)
noncomputable def cD (fs : oy) : EC := fun σ k => fs σ fun ds σ1 => ds.length ≤ sizeLine ∧ k (.tup ds) σ1
theorem dW {es : List Expr} {m : Nat} {pos : Pos} {fs : oy} (hs : xQ p c n es fs) : Ev p c n (.Tuple es m pos) (cD fs) := fun A base σ s k Q E R S hf hQ => by
 refine wpAny_Tuple (hs A base σ s _ pos _ E R S hf fun ds σ1 vs h1 t1 hk1 S1 r1 g1 => ?_)
 obtain ⟨hl, hk1⟩ := hk1
 refine ⟨by rw [r1.length]; exact hl, ?_⟩
 have ex := b7 (h := h1) { cls := .type "tuple", data := .seq vs.toArray }
 exact hQ _ σ1 _ _ t1 hk1 (S1.ext ex) (.tup ⟨_, Heap.get?_push_size _ rfl, rfl, _, rfl⟩ (r1.grow (bc.of_ext ex))) (g1.trans (bc.of_ext ex))
noncomputable def bg (fs : oy) : EC := fun σ k => fs σ fun ds σ1 => ds.length ≤ sizeLine ∧ ∀ a, k (.ref a) ⟨σ1.vars, σ1.st ++ [(a, .list ds)]⟩
theorem cJ.newList {base : Heap} {σ : MS} {h : Heap} {vs : List Value} {ds : List D} (S : cJ p c base σ h) (r : bo h vs ds) :
  cJ p c base ⟨σ.vars, σ.st ++ [(h.objs.size, .list ds)]⟩ (h.push { cls := .type "list", data := .seq vs.toArray }) ∧ bc h (h.push { cls := .type "list", data := .seq vs.toArray }) := by
 have ex := b7 (h := h) { cls := .type "list", data := .seq vs.toArray }
 refine ⟨S.push (h.objs.size, .list ds) ex ⟨vs, ⟨_, Heap.get?_push_size _ rfl⟩, r.grow (bc.of_ext ex)⟩ (fun a ha => ?_) (by simp [feet]), bc.of_ext ex⟩
 obtain rfl : a = h.objs.size := by simpa [feet] using ha
 exact dS
theorem dc {es : List Expr} {pos : Pos} {fs : oy} (hs : xQ p c n es fs) : Ev p c n (.List es pos) (bg fs) := fun A base σ s k Q E R S hf hQ => by
 refine wpAny_List (hs A base σ s _ pos _ E R S hf fun ds σ1 vs h1 t1 hk1 S1 r1 g1 => ?_)
 obtain ⟨hl, hk1⟩ := hk1
 refine ⟨by rw [r1.length]; exact hl, ?_⟩
 obtain ⟨S2, g2⟩ := S1.newList r1
 exact hQ _ _ _ _ t1 (hk1 _) S2 (.ref _) (g1.trans g2)
noncomputable def br (f : EC) : SC := fun σ k => f σ fun _ σ1 => k .next σ1
theorem cV {e : Expr} {pos : Pos} {f : EC} (he : Ev p c n e f) (hi : autoParam (interactive c.env = false) aR) (hs : autoParam (swapsWith e none pos.line c.env = pure false) aR) : Ex p c X n (.Expr e pos) (br f) := fun A base σ s k Q E R S hf hQ hE =>
 wpAny_Expr_any (he A base σ s _ _ E R.1 S hf fun d σ1 v h1 t1 hk S1 r1 g1 => hQ .next σ1 .next h1 t1 hk S1 .next g1) hi hs
end
end
section
theorem jH.length {h : Heap} {es : List DictEntry} {fs : List (Str × D)} (x : jH h es fs) : es.length = fs.length := by
 induction x with
 | nil => rfl
 | cons _ _ _ ih => simp [ih]
theorem jH.find {h : Heap} {es : List DictEntry} {fs : List (Str × D)} (x : jH h es fs) : ∀ {i : Nat} {name : Str} {d : D}, (fs.map (·.1)).Nodup → fs[i]? = some (name, d) → ∃ e, es.find? (fun e => e.key.isStr name) = some e ∧ df h e.val d := by
 induction x with
 | nil => intro i name d _ hi; simp at hi
 | @cons e y t d0 es fs hk r _ ih =>
  intro i name d hn hi
  rw [bk, List.nodup_cons] at hn
  cases i with
  | zero =>
   simp only [al, Option.some.injEq, Prod.mk.injEq] at hi
   obtain ⟨rfl, rfl⟩ := hi
   refine ⟨e, ?_, r⟩
   rw [List.find?_cons]
   have : e.key.isStr y = true := by rw [hk]; simp [Value.isStr]
   rw [this]
  | succ i =>
   simp only [au] at hi
   obtain ⟨e', h1, h2⟩ := ih hn.2 hi
   refine ⟨e', ?_, h2⟩
   have : e.key.isStr name = false := by
    rw [hk]
    have hne : y ≠ name := fun q => hn.1 (List.mem_map.mpr ⟨(name, d), HM hi, q.symm⟩)
    simpa [Value.isStr] using hne
   rw [List.find?_cons, this]; exact h1
theorem jH.none {h : Heap} {es : List DictEntry} {fs : List (Str × D)} (x : jH h es fs) {name : Str} (hn : ∀ f ∈ fs, f.1 ≠ name) : es.find? (fun e => e.key.isStr name) = Option.none ∧ es.any (fun e => e.refKey) = false := by
 induction x with
 | nil => exact ⟨rfl, rfl⟩
 | @cons e y t d0 es fs hk r _ ih =>
  obtain ⟨a, b⟩ := ih fun f hf => hn f (dP _ hf)
  have : e.key.isStr name = false := by
   rw [hk]
   have := hn (y, d0) c8
   simpa [Value.isStr] using this
  refine ⟨by rw [List.find?_cons, this]; exact a, ?_⟩
  rw [List.any_cons, b, Bool.or_false]
  simp [DictEntry.refKey, hk]
theorem jH.noRef {h : Heap} {es : List DictEntry} {fs : List (Str × D)} (x : jH h es fs) : es.any (fun e => e.refKey) = false := by
 induction x with
 | nil => rfl
 | @cons e y t d0 es fs hk r _ ih => rw [List.any_cons, ih, Bool.or_false]; simp [DictEntry.refKey, hk]
theorem jH.put {h h' : Heap} (g : bc h h') {es : List DictEntry} {fs : List (Str × D)} (x : jH h es fs) {name : Str} {hs : Int} {t : Tok} {v : Value} {d : D} (r : df h' v d) : ∀ {i : Nat} {d0 : D}, (fs.map (·.1)).Nodup → fs[i]? = some (name, d0) → jH h' (putL name hs (.str name t) v es) (fs.set i (name, d)) := by
 induction x with
 | nil => intro i d0 _ hi; simp at hi
 | @cons e y t0 d1 es fs hk r1 x ih =>
  intro i d0 hn hi
  rw [bk, List.nodup_cons] at hn
  cases i with
  | zero =>
   simp only [al, Option.some.injEq, Prod.mk.injEq] at hi
   obtain ⟨rfl, rfl⟩ := hi
   have : e.key.isStr y = true := by rw [hk]; simp [Value.isStr]
   simp only [putL, this, if_true, aK]
   exact .cons hk r (x.grow g)
  | succ i =>
   simp only [au] at hi
   have : e.key.isStr name = false := by
    rw [hk]
    have hne : y ≠ name := fun q => hn.1 (List.mem_map.mpr ⟨(name, d0), HM hi, q.symm⟩)
    simpa [Value.isStr] using hne
   simp only [putL, this, Bool.false_eq_true, if_false, aY]
   exact .cons hk (r1.grow g) (ih hn.2 hi)
theorem jH.putNew {h h' : Heap} (g : bc h h') {es : List DictEntry} {fs : List (Str × D)} (x : jH h es fs) {name : Str} {hs : Int} {t : Tok} {v : Value} {d : D} (r : df h' v d) (hn : ∀ f ∈ fs, f.1 ≠ name) : jH h' (putL name hs (.str name t) v es) (fs ++ [(name, d)]) := by
 induction x with
 | nil => exact .cons rfl r .nil
 | @cons e y t0 d1 es fs hk r1 x ih =>
  have : e.key.isStr name = false := by
   rw [hk]
   have := hn (y, d1) c8
   simpa [Value.isStr] using this
  simp only [putL, this, Bool.false_eq_true, if_false, az]
  exact .cons hk (r1.grow g) (ih fun f hf => hn f (dP _ hf))
theorem xW {α : Type} {l : List α} : ∀ {i : Nat} {x : α}, l[i]? = some x → l.set i x = l := by
 induction l with
 | nil => exact fun h => nomatch h
 | cons a l ih =>
  intro i x h
  cases i with
  | zero => exact congrArg (· :: l) (Option.some.inj h).symm
  | succ i => exact congrArg (a :: ·) (ih h)
structure tB (p : P) (C : Addr) : Prop where
 ga : findIn p.K (.ref C) "__getattribute__" = some (some (.builtin "object.__getattribute__"))
 gt : findIn p.K (.ref C) "__getattr__" = some none
 sa : findIn p.K (.ref C) "__setattr__" = some (some (.builtin "object.__setattr__"))
 over : plainOver p.K C = true
 cls : ∃ cd, clsIn p.K C = some cd ∧ cd.hasDict = true
noncomputable def eQ (p : P) (C : Addr) (name : Str) : Prop := findIn p.K (.ref C) name = some none
structure gG (p : P) (C : Addr) (name : Str) (f : Addr) : Prop where
 find : findIn p.K (.ref C) name = some (some (.ref f))
 typ : typeIn p.K (.ref f) = some (.type "function")
 keep : keepIn p.K (.ref f) = true
section
variable {p : P} {c : Cx} {n : Nat} {X : XR}
theorem zA {h : Heap} {a C dx : Addr} {fs : List (Str × D)} (x : dN p h a (.inst C dx fs)) : ∃ es m, InstAt h a (instObj C dx) C (some (dictOf es m)) ∧ h.get? dx = some (dictOf es m) ∧ jH h es fs ∧ (fs.map (·.1)).Nodup ∧ fs.length ≤ 100 := by
 obtain ⟨e, ⟨es, m, e', r⟩, hn, hl⟩ := x
 exact ⟨es, m, ⟨e, rfl, rfl, e'⟩, e', r, hn, hl⟩
theorem Bh {es : List DictEntry} {m : Nat} {name : Str} {e : DictEntry} (h : es.find? (fun e => e.key.isStr name) = some e) : lookIn name (dictOf es m) = some (some e.val) := by
 unfold lookIn dictOf
 dsimp only
 rw [h]
theorem Bi {es : List DictEntry} {m : Nat} {name : Str} (h : es.find? (fun e => e.key.isStr name) = Option.none) (h2 : es.any (fun e => e.refKey) = false) : lookIn name (dictOf es m) = some none := by
 unfold lookIn dictOf
 dsimp only
 rw [h, h2]; rfl
theorem zB {h : Heap} {v : Value} {d : D} (r : df h v d) : handedIn v = true := by cases r <;> rfl
noncomputable def CE (o : Option (Addr × O)) (K : Addr → Addr → Addr → List (Str × D) → Prop) : Prop := match o with
 | some (b, .inst C dx fs) => K b C dx fs
 | _ => False
theorem aH {b C dx : Addr} {fs : List (Str × D)} {K : Addr → Addr → Addr → List (Str × D) → Prop} : CE (some (b, .inst C dx fs)) K = K b C dx fs := rfl
theorem Bj {o : Option (Addr × O)} {K : Addr → Addr → Addr → List (Str × D) → Prop} {P : Prop} (H : CE o K) (f : ∀ b C dx fs, K b C dx fs → o = some (b, .inst C dx fs) → P) : P := by
 rcases o with _ | ⟨b, o⟩
 ·exact H.elim
 ·cases o with
  | inst C dx fs => exact f b C dx fs H rfl
  | _ => exact H.elim
noncomputable def aG (C : Addr) (j : MS → Nat) (d : D) (σ : MS) (k : Addr → Addr → List (Str × D) → Prop) : Prop := qT d fun a => CE σ.st[j σ]? fun b C' dx fs => a = b ∧ C' = C ∧ k a dx fs
@[elab_as_elim] theorem jK {base h : Heap} {C : Addr} {j : MS → Nat} {v : Value} {d : D} {σ : MS} {k : Addr → Addr → List (Str × D) → Prop} {P : Value → Prop} (S : cJ p c base σ h) (r : df h v d) (H : aG C j d σ k)
  (f : ∀ a dx fs, k a dx fs → σ.st[j σ]? = some (a, .inst C dx fs) → dN p h a (.inst C dx fs) → P (.ref a)) : P v :=
 eP r H fun a H => Bj H fun b C' dx fs q e => by
  obtain ⟨rfl, rfl, q⟩ := q
  exact f _ dx fs q e (S.objs _ (HM e))
noncomputable def cy (name : Str) (i : Nat) (fs : List (Str × D)) (k : D → Prop) : Prop := jn fs[i]? fun q => q.1 = name ∧ k q.2
theorem rX {name : Str} {i : Nat} {fs : List (Str × D)} {k : D → Prop} {P : Prop} (h : cy name i fs k) (f : ∀ d, k d → fs[i]? = some (name, d) → P) : P :=
 cK h fun q h e => f q.2 h.2 (h.1 ▸ e)
noncomputable def bU (C : Addr) (j : MS → Nat) (name : Str) (i : Nat) (fo : EC) : EC := fun σ k => fo σ fun d σ1 => aG C j d σ1 fun a dx fs => cy name i fs fun d' => k d' σ1
theorem cW {e : Expr} {name : Str} {pos : Pos} {C : Addr} {j : MS → Nat} {i : Nat} {fo : EC} (hC : tB p C) (hn : eQ p C name) (he : Ev p c n e fo)
  (hev : autoParam (eval (.Attribute e name pos) c.env = (do
   let o ← eval e c.env
   standAt pos.atName
   let r ← holding [o] (getAttr o name true)
   letTemporaryGo e o r
   pure r)) aU) : Ev p c n (.Attribute e name pos) (bU C j name i fo) := fun A base σ s k Q E R S hf hQ => by
 refine Attribute_any_ (he A base σ s _ _ E R S hf fun d σ1 v h1 t1 hk1 S1 r1 g1 => ?_) hev
 refine jK S1 r1 hk1 fun a dx fs hk1 ej ho => rX hk1 fun d' hk1 ei => ?_
 obtain ⟨es, m, I, edx, F, hnd, _⟩ := zA ho
 obtain ⟨en, e1, rv⟩ := F.find hnd ei
 obtain ⟨cd, hcd, hd⟩ := hC.cls
 have hfo : findObj p.K C (some (dictOf es m)) name = some (.value en.val) := by
  unfold findObj
  rw [hcd, hn]
  simp only [Option.bind_some, PySem.W.ownOf, hd, if_true, Bh e1]
 exact get_value (A := A) (E := E) S1.okh.X I hC.ga hfo (zB rv) (hQ d' σ1 en.val h1 _ hk1 S1 rv g1)
theorem tC {A : Around} {s : Shared} {a C dx : Addr} {fs fs' : List (Str × D)} {name : Str} {v : Value} {d : D} {Q : Unit → Shared → Prop} {E : Value → Shared → Prop} (hC : tB p C) (hn : eQ p C name) (ok : p.Ok s.heap) (ho : dN p s.heap a (.inst C dx fs)) (hne : a ≠ dx) (r : df s.heap v d)
  (hfs : (∃ (i : Nat) (d0 : D), fs[i]? = some (name, d0) ∧ fs' = fs.set i (name, d)) ∨ ((∀ f ∈ fs, f.1 ≠ name) ∧ fs' = fs ++ [(name, d)] ∧ fs.length < 100))
  (hQ : ∀ h' tk, (∀ b o, b ≠ dx → s.heap.get? b = some o → h'.get? b = some o) → dN p h' a (.inst C dx fs') → Q () { s with heap := h', toks := tk }) : wpAny (model p.prog p.w) A (setAttr (.ref a) name v) Q E s := by
 obtain ⟨es, m, I, edx, F, hnd, hl⟩ := zA ho
 obtain ⟨cd, hcd, hd⟩ := hC.cls
 refine set_plain ok.X I hC.sa ?_
 have ht : takerIn p.K C name = some none := by unfold takerIn; rw [hn]; rfl
 have I' : InstAt ({ s with toks := s.toks + 1 } : Shared).heap a (instObj C dx) C (some (dictOf es m)) := I
 have Lc : Looks (model p.prog p.w) ({ s with toks := s.toks + 1 } : Shared).heap (classData C) cd := looks_clsIn ok.X hcd
 refine osa_open (s := { s with toks := s.toks + 1 }) ok.X I' hC.over ht fun b => ?_
 refine HI (HJ (HI (HI (wpAny_loadPart I.at_ (HI (Lc.here ?_))))))
 rw [hd]
 refine HJ (a := some dx) (HI (HJ (HI ?_)))
 unfold nsSet
 refine HI (HI (wpAny_askSetting (HJ (HI (wpAny_mkText (HI (wpAny_loadPart edx ?_)))))))
 dsimp only
 rw [aRefKeyMayBeTheName_at]
 have nr : es.toArray.any (fun e => e.refKey) = false := by rw [← Array.any_toList]; exact F.noRef
 rw [nr, Bool.and_false]
 refine wpAny_updatePart edx ?_
 have eu : (s.heap.update dx (Obj.putName name (PyData.keyHash p.w.params name) (.str name (s.toks + 1)) v)).get? dx = some (dictOf (putL name (PyData.keyHash p.w.params name) (.str name (s.toks + 1)) v es) (putN name es m)) := by
  rw [Heap.get?_update_self _ edx (by rw [putName_dict]; rfl), putName_dict]
 have eo : ∀ b o, b ≠ dx → s.heap.get? b = some o → (s.heap.update dx (Obj.putName name (PyData.keyHash p.w.params name) (.str name (s.toks + 1)) v)).get? b = some o := fun b o hb e => (Heap.get?_update_other _ _ (fun q => hb q.symm)).trans e
 have g : bc s.heap (s.heap.update dx (Obj.putName name (PyData.keyHash p.w.params name) (.str name (s.toks + 1)) v)) := fun b o e t => eo b o (fun q => by
  subst q; rw [edx] at e; cases e; exact dJ (fun _ _ z => by simp at z) (fun _ z => by simp at z) t) e
 have hfin : dN p (s.heap.update dx (Obj.putName name (PyData.keyHash p.w.params name) (.str name (s.toks + 1)) v)) a (.inst C dx fs') := by
  refine ⟨eo a _ hne I.at_, ⟨_, _, eu, ?_⟩, ?_⟩
  ·rcases hfs with ⟨i, d0, ei, rfl⟩ | ⟨hne', rfl, _⟩
   ·exact F.put g (r.grow g) hnd ei
   ·exact F.putNew g (r.grow g) hne'
  ·rcases hfs with ⟨i, d0, ei, rfl⟩ | ⟨hne', rfl, hl'⟩
   ·refine ⟨?_, by simpa using hl⟩
    have : (fs.set i (name, d)).map (·.1) = fs.map (·.1) := by
     rw [List.map_set]
     have e2 : (fs.map (·.1))[i]? = some name := by rw [List.getElem?_map, ei]; rfl
     exact xW e2
    rw [this]; exact hnd
   ·refine ⟨?_, by simp; lia⟩
    rw [List.map_append]
    refine List.nodup_append.mpr ⟨hnd, by simp, fun x hx y hy q => ?_⟩
    obtain ⟨f, hf, rfl⟩ := List.mem_map.mp hx
    simp at hy; subst hy
    exact hne' f hf q
 have hlen : (putL name (PyData.keyHash p.w.params name) (.str name (s.toks + 1)) v es).length ≤ 200 := by
  obtain ⟨_, ⟨es2, m2, e2, F2⟩, _, hl2⟩ := hfin
  rw [eu] at e2
  have e3 := Option.some.inj e2
  have e4 : (putL name (PyData.keyHash p.w.params name) (.str name (s.toks + 1)) v es).toArray = es2.toArray := by injection e3 with _ _ e _; injection e
  have e5 : putL name (PyData.keyHash p.w.params name) (.str name (s.toks + 1)) v es = es2 := by simpa using e4
  rw [e5, F2.length]; exact nA
 refine HI (wpAny_lookBehind eu (pastItsLine_dict (by rw [List.size_toArray, sizeLine_eq]; exact nA)) ?_)
 exact HJ (hQ _ _ eo hfin)
noncomputable def qX (C : Addr) (j : MS → Nat) (name : Str) (i : Nat) (fe fo : EC) : SC := fun σ k => fe σ fun d σ1 => fo σ1 fun o σ2 => aG C j o σ2 fun a dx fs => cy name i fs fun _ => k .next ⟨σ2.vars, σ2.st.set (j σ2) (a, .inst C dx (fs.set i (name, d)))⟩
noncomputable def aT (C : Addr) (j : MS → Nat) (name : Str) (fe fo : EC) : SC := fun σ k => fe σ fun d σ1 => fo σ1 fun o σ2 => aG C j o σ2 fun a dx fs => (∀ f ∈ fs, f.1 ≠ name) ∧ fs.length < 100 ∧ k .next ⟨σ2.vars, σ2.st.set (j σ2) (a, .inst C dx (fs ++ [(name, d)]))⟩
theorem Ay {base : Heap} {σ : MS} {h : Heap} (S : cJ p c base σ h) {j : Nat} {a C dx : Addr} {fs : List (Str × D)} (e : σ.st[j]? = some (a, .inst C dx fs)) : a ≠ dx := by
 have h1 : (feet (a, O.inst C dx fs)).Sublist σ.feet := by
  have : [(a, O.inst C dx fs)].Sublist σ.st := List.singleton_sublist.mpr (HM e)
  simpa [MS.feet] using jJ feet this
 have h2 := S.nodup.sublist h1
 intro q; subst q
 simp [feet] at h2
theorem Bk {e eo : Expr} {name : Str} {pos' pos : Pos} {C : Addr} {j : MS → Nat} {i : Nat} {fe fo : EC} (hC : tB p C) (hn : eQ p C name) (he : Ev p c n e fe) (ho : Ev p c n eo fo) (hs : autoParam (swapsWith e (some (.Attribute eo name pos')) pos.line c.env = pure false) aR) :
  Ex p c X n (.Assign [.Attribute eo name pos'] e pos) (qX C j name i fe fo) := fun A base σ s k Q E R S hf hQ hE => by
 refine plainObj_wpAny_Assign_Attribute (he A base σ s _ _ E R.1 S hf fun d σ1 v h1 t1 hk1 S1 r1 g1 => ?_) hs
 refine ho A base σ1 _ _ _ E R.1 S1 hk1 fun o σ2 ov h2 t2 hk2 S2 r2 g2 => ?_
 refine jK S2 r2 hk2 fun a dx fs hk2 ej ho => rX hk2 fun d0 hk2 ei => ?_
 refine tC hC hn S2.okh ho (Ay S2 ej) (r1.grow g2) (.inl ⟨i, d0, ei, rfl⟩) fun h3 t3 hk3 hob => ?_
 have q := S2.put ej (o' := .inst C dx (fs.set i (name, d))) rfl (fun b ob hb eb => hk3 b ob (fun q => hb (by simp [feet, q])) eb) hob
 exact hQ .next _ .next h3 t3 hk2 q.1 .next ((g1.trans g2).trans q.2)
theorem dn {e eo : Expr} {name : Str} {pos' pos : Pos} {C : Addr} {j : MS → Nat} {fe fo : EC} (hC : tB p C) (hn : eQ p C name) (he : Ev p c n e fe) (ho : Ev p c n eo fo) (hs : autoParam (swapsWith e (some (.Attribute eo name pos')) pos.line c.env = pure false) aR) :
  Ex p c X n (.Assign [.Attribute eo name pos'] e pos) (aT C j name fe fo) := fun A base σ s k Q E R S hf hQ hE => by
 refine plainObj_wpAny_Assign_Attribute (he A base σ s _ _ E R.1 S hf fun d σ1 v h1 t1 hk1 S1 r1 g1 => ?_) hs
 refine ho A base σ1 _ _ _ E R.1 S1 hk1 fun o σ2 ov h2 t2 hk2 S2 r2 g2 => ?_
 refine jK S2 r2 hk2 fun a dx fs hk2 ej ho => ?_
 refine tC hC hn S2.okh ho (Ay S2 ej) (r1.grow g2) (.inr ⟨hk2.1, rfl, hk2.2.1⟩) fun h3 t3 hk3 hob => ?_
 have q := S2.put ej (o' := .inst C dx (fs ++ [(name, d)])) rfl (fun b ob hb eb => hk3 b ob (fun q => hb (by simp [feet, q])) eb) hob
 exact hQ .next _ .next h3 t3 hk2.2.2 q.1 .next ((g1.trans g2).trans q.2)
noncomputable def bB (C : Addr) (j : MS → Nat) (name : Str) (G : dp) (is : List Nat) (fo : EC) (fs : oy) : EC := fun σ k => fo σ fun d σ1 => aG C j d σ1 fun a dx fl => (fl.map (·.1)).contains name = false ∧ fs σ1 fun ds σ2 => jn (bN σ2.st is) fun sub => G (.ref a :: ds) sub fun d os new => k d ⟨σ2.vars, aZ σ2.st is os ++ new⟩
theorem dj {e : Expr} {name : Str} {apos pos : Pos} {args : List Expr} {C : Addr} {j : MS → Nat} {f : Addr} {G : dp} {is : List Nat} {fo : EC} {fs : oy} {m : Nat} {pl : Sem Bool} (hC : tB p C) (hM : gG p C name f) (hG : ax p m f G) (he : Ev p c n e fo) (hs : xQ p c n args fs)
  (hm : autoParam (m ≤ n) aD) (hi : autoParam (is.Nodup) aD) (hp : autoParam (∀ pos, (backTo pos (starEach args c.env)).any (·.1) = false) aI)
  (hev : autoParam (eval (.Call (.Attribute e name apos) args [] pos) c.env = (do
   let ov ← eval e c.env
   standAt apos.atName
   let (f, first) ← holding [ov] (getMethod ov name pl)
   callWith pos f first (backTo pos (starEach args c.env)) [])) aR) : Ev p c n (.Call (.Attribute e name apos) args [] pos) (bB C j name G is fo fs) := fun A base σ s k Q E R S hf hQ => by
 refine MethodCall_ (pl := pl) (he A base σ s _ _ E R S hf fun d σ1 v h1 t1 hk1 S1 r1 g1 => ?_) hev
 refine jK S1 r1 hk1 fun a dx fl hk1 ej ho => ?_
 obtain ⟨hsh, hk1⟩ := hk1
 obtain ⟨es, m0, I, edx, F, hnd, _⟩ := zA ho
 have hno : ∀ f ∈ fl, f.1 ≠ name := fun f hf q => by
  have : (fl.map (·.1)).contains name = true := by
   rw [List.contains_iff_mem]; exact List.mem_map.mpr ⟨f, hf, q⟩
  rw [hsh] at this; cases this
 obtain ⟨n1, n2⟩ := F.none hno
 refine method_fn (A := A) (E := E) S1.okh.X I hC.ga hC.gt hM.find hM.typ (by show (lookIn name (dictOf es m0)).map _ = _; rw [Bi n1 n2]; rfl) ?_
 refine bT (Pr := p.K.In) (hp pos) (keeps_K hM.keep) ?_
 refine hs A base σ1 { s with heap := h1, toks := t1 } _ pos _ E R S1 hk1 fun ds σ2 vs h2 t2 hk2 S2 r2 g2 => ⟨S2.okh.X, wpAny_call ?_⟩
 exact Ax (s := { s with heap := h2, toks := t2 }) (vs := .ref a :: vs) (ds := .ref a :: ds) (hG.le hm) hi R S2 (.cons (.ref a) r2) hk2 fun d σ' v h' tk hk3 S3 r3 g3 => hQ d σ' v h' tk hk3 S3 r3 ((g1.trans g2).trans g3)
noncomputable def sx (C : Addr) (G : dp) (fs : oy) : EC := fun σ k => fs σ fun ds σ1 => ∀ a dx, G (.ref a :: ds) [(a, .inst C dx [])] fun d os new => match os with
 | [o] => d = .none ∧ k (.ref a) ⟨σ1.vars, σ1.st ++ ((a, o) :: new)⟩
 | _ => False
theorem HN.under_make {A : Around} {n : Nat} (R : HN A (n + 1)) (C : Addr) (vs : List Value) : HN (A.under (.builtin "type.__call__" ⟨.ref C :: vs, []⟩)) n :=
 ⟨R.hd, R.gd, by have := R.dep; rw [depth_under_make]; lia, by have := R.un; rw [units_under_make]; lia⟩
theorem xX {x : Str} {np pos : Pos} {args : List Expr} {C fI : Addr} {G : dp} {fs : oy} {m : Nat} (hG : ax p m fI G) (hx : c.env.kindOf x = some .globalImplicit) (hg : c.env.globals = mainGlobals) (hv : p.mg x = some (.ref C)) (hk : keepIn p.K (.ref C) = true)
  (hmk : makesIn p.K C = true) (hin : findIn p.K (.ref C) "__init__" = some (some (.ref fI))) (hty : typeIn p.K (.ref fI) = some (.type "function"))
  (hs : xQ p c n args fs) (hm : autoParam (m + 1 ≤ n) aD) (hp : autoParam (∀ pos, (backTo pos (starEach args c.env)).any (·.1) = false) aI) (hd : autoParam ((x == ("__debug__" : Str)) = false) aD) : Ev p c n (.Call (.Name x np) args [] pos) (sx C G fs) := fun A base σ s k Q E R S hf hQ => by
 refine wpAny_Call_NameR (iw S hx hg hv ?_ hd)
 refine bT (Pr := p.K.In) (hp pos) (keeps_K hk) ?_
 refine hs A base σ s _ pos _ E R S hf fun ds σ1 vs h1 t1 hk1 S1 r1 g1 => ⟨S1.okh.X, wpAny_call ?_⟩
 have ex1 := b7 (h := h1) emptyDict
 have ex2 := b7 (h := h1.push emptyDict) (instObj C h1.objs.size)
 have ex : ∀ a o, h1.get? a = some o → ((h1.push emptyDict).push (instObj C h1.objs.size)).get? a = some o := fun a o e => ex2 a o (ex1 a o e)
 have sz : (h1.push emptyDict).objs.size = h1.objs.size + 1 := Heap.size_push ..
 have ea : ((h1.push emptyDict).push (instObj C h1.objs.size)).get? (h1.objs.size + 1) = some (instObj C h1.objs.size) := by rw [← sz]; exact Heap.get?_push_size _ rfl
 have ed : ((h1.push emptyDict).push (instObj C h1.objs.size)).get? h1.objs.size = some emptyDict := ex2 _ _ (Heap.get?_push_size _ rfl)
 have nn1 : h1.get? (h1.objs.size + 1) = none := Heap.get?_none_of_le (Nat.le_succ _)
 have S2 := S1.push (h' := (h1.push emptyDict).push (instObj C h1.objs.size)) (h1.objs.size + 1, .inst C h1.objs.size []) ex ⟨ea, ⟨[], 0, ed, .nil⟩, by simp, by simp⟩ (fun a ha => by
  simp only [feet, List.mem_cons, List.not_mem_nil, or_false] at ha
  rcases ha with rfl | rfl
  ·exact nn1
  ·exact dS) (by simp [feet])
 have g2 : bc h1 _ := bc.of_ext ex
 refine make_core (h := h1) (g := s.gens) (d := s.drawn) (t := t1) (os := s.os) (makes_of S1.okh.X hmk) (looks_findIn S1.okh.X hin) (fun self => bind_fn S1.okh.X self hty) (.inl rfl) ?_
 have hk1' := hk1 (h1.objs.size + 1) h1.objs.size
 have hpk : bN (⟨σ1.vars, σ1.st ++ [(h1.objs.size + 1, O.inst C h1.objs.size [])]⟩ : MS).st [σ1.st.length] = some [(h1.objs.size + 1, .inst C h1.objs.size [])] := by simp [bN]
 have hGm : ax p (n - 1) fI G := hG.le (Nat.le_sub_of_add_le hm)
 have Rm : HN (A.under (.builtin "type.__call__" ⟨.ref C :: vs, []⟩)) (n - 1) := HN.under_make (by rw [Nat.sub_add_cancel (by lia)]; exact R) C vs
 refine hGm _ ⟨(h1.push emptyDict).push (instObj C h1.objs.size), s.gens, s.drawn, t1, s.os⟩ [(h1.objs.size + 1, .inst C h1.objs.size [])] (.ref (h1.objs.size + 1) :: vs) (.ref (h1.objs.size + 1) :: ds) _ _ Rm (S2.call0 hpk (by simp [bW, feet])) (.cons (.ref _) (r1.grow g2)) hk1' fun d os new v h' tk hkk B rv => ?_
 cases os with
 | nil => exact hkk.elim
 | cons o r =>
  cases r with
  | cons _ _ => exact hkk.elim
  | nil =>
   obtain ⟨hd0, hkk⟩ := hkk
   subst hd0
   obtain rfl := df.none_inv rv
   obtain ⟨S3, g3⟩ := S2.back hpk (by simp) B
   refine ⟨rfl, ?_⟩
   have e1 : aZ (⟨σ1.vars, σ1.st ++ [(h1.objs.size + 1, O.inst C h1.objs.size [])]⟩ : MS).st [σ1.st.length] [o] ++ new = σ1.st ++ ((h1.objs.size + 1, o) :: new) := by simp [aZ]
   rw [e1] at S3
   exact hQ _ _ (.ref (h1.objs.size + 1)) h' tk hkk S3 (.ref _) ((g1.trans g2).trans g3)
end
end
section
mutual
noncomputable def D.py : D → PyData
 | .none => .none
 | .bool b => .bool b
 | .int i => .int i
 | .str x => .str x
 | .tup ds => .tuple (bZ ds)
 | .ref _ => .none
noncomputable def bZ : List D → List PyData
 | [] => []
 | d :: ds => d.py :: bZ ds
end
mutual
noncomputable def D.pure : D → Bool
 | .tup ds => eZ ds
 | .ref _ => false
 | .none | .bool _ | .int _ | .str _ => true
noncomputable def eZ : List D → Bool
 | [] => true
 | d :: ds => d.pure && eZ ds
end
theorem bo.reads' {h : Heap} {v : Value} {d : D} (r : df h v d) : d.pure = true → Reads h v d.py [] :=
 df.rec (motive_1 := fun v d _ => d.pure = true → Reads h v d.py []) (motive_2 := fun vs ds _ => eZ ds = true → ReadsAll h vs (bZ ds) []) (fun _ => .none) (fun b _ => .bool b) (fun i t _ => .int i t) (fun x t _ => .str x t) (fun _ e => nomatch e)
  (fun ht _ ih e => ht.elim fun o q => q.2.2.elim fun n hd => .tuple q.1 q.2.1 hd (ih e)) (fun _ => .nil) (fun _ _ x y e => have q := (Bool.and_eq_true _ _).mp e; .cons (as := []) (bs := []) (x q.1) (y q.2)) r
theorem bo.reads {h : Heap} {vs : List Value} {ds : List D} (r : bo h vs ds) : eZ ds = true → ReadsAll h vs (bZ ds) [] :=
 bo.ind (P := fun vs ds => eZ ds = true → ReadsAll h vs (bZ ds) []) (fun _ => .nil) (fun x _ y e => have q := (Bool.and_eq_true _ _).mp e; .cons (as := []) (bs := []) (bo.reads' x q.1) (y q.2)) r
section
variable {p : P} {c : Cx} {n : Nat} {X : XR}
theorem xY {k : Bool → Prop} {b : Bool} (h : k (false != b)) : k b := by cases b <;> exact h
theorem xZ {k : Bool → Prop} {b : Bool} (h : k (true != b)) : k (!b) := by cases b <;> exact h
theorem bX {h : Heap} : ∀ a ob, h.get? a = some ob → h.get? a = some ob := fun _ _ e => e
noncomputable def cO : D → D → (D → Prop) → Prop := fun d1 d2 k => dC d1 nK (fun a => gj d2 fun b => k (.int (a + b))) (fun x => o5 d2 fun y => x.length + y.length ≤ sizeLine ∧ k (.str (x ++ y))) (fun xs => Bc d2 fun ys => xs.length + ys.length ≤ sizeLine ∧ k (.tup (xs ++ ys))) nK
theorem e9 : Bd p .Add cO := fun A n s v1 v2 d1 d2 k Q E R ok r1 r2 hf hQ =>
 fK r1 hf nE (fun a hf t => bL r2 hf fun b hf u => add_int (hQ _ _ s.heap _ hf bX (.int _ _)))
  (fun x hf t => ec r2 hf fun y hf u => add_str (fun t' tk => hQ _ _ s.heap tk hf.2 bX (.str _ _)) hf.1)
  (fun ds hf a vs ht rs => mo r2 hf fun es hf b ws hb rw_ => by
   obtain ⟨hsz, hk⟩ := hf
   have hvl := rs.length
   have hwl := rw_.length
   obtain ⟨⟨cls, dd, data, sl⟩, ho, hc, n0, hd⟩ := id ht
   obtain ⟨⟨cls2, dd2, data2, sl2⟩, ho2, hc2, n2, hd2⟩ := id hb
   simp only at hc hd hc2 hd2
   subst hc hd hc2 hd2
   have e : vs.toArray ++ ws.toArray = (vs ++ ws).toArray := by simp
   by_cases hv : vs = []
   ·subst hv
    have : ds = [] := List.length_eq_zero_iff.mp (by simpa using hvl.symm)
    subst this
    exact concat_meets ⟨_, ho, rfl⟩ ⟨_, ho2, rfl⟩ noFill_tuple_add seq_tuple_add PySem.F.slot_tuple_add PySem.F.entry_tuple_add (PySem.F.args_tuple_add_2 _ _)
     (tuple_addW0 a b _ ws.toArray n0 n2 dd dd2 sl sl2 (by simp)) ⟨ho, ho2, hQ _ _ s.heap s.toks hk bX (.tup hb rw_)⟩
   ·by_cases hw : ws = []
    ·subst hw
     have : es = [] := List.length_eq_zero_iff.mp (by simpa using hwl.symm)
     subst this
     rw [List.append_nil] at hk
     exact concat_meets ⟨_, ho, rfl⟩ ⟨_, ho2, rfl⟩ noFill_tuple_add seq_tuple_add PySem.F.slot_tuple_add PySem.F.entry_tuple_add (PySem.F.args_tuple_add_2 _ _)
      (tuple_addW1 a b vs.toArray _ n0 n2 dd dd2 sl sl2 (by simpa using hv) (by simp)) ⟨ho, ho2, hQ _ _ s.heap s.toks hk bX (.tup ht rs)⟩
    ·refine concat_meets ⟨_, ho, rfl⟩ ⟨_, ho2, rfl⟩ noFill_tuple_add seq_tuple_add PySem.F.slot_tuple_add PySem.F.entry_tuple_add (PySem.F.args_tuple_add_2 _ _)
      (tuple_addW2 a b vs.toArray ws.toArray n0 n2 dd dd2 sl sl2 (by simpa using hv) (by simpa using hw) (by rw [List.size_toArray, List.size_toArray]; lia)) ⟨ho, ho2, ?_⟩
     rw [e]
     have ex := b7 (h := s.heap) { cls := .type "tuple", data := .seq (vs ++ ws).toArray }
     exact hQ _ _ _ s.toks hk ex (.tup ⟨_, Heap.get?_push_size _ rfl, rfl, _, rfl⟩ ((rs.grow (bc.of_ext ex)).append (rw_.grow (bc.of_ext ex))))
  ) nE
noncomputable def jI : D → D → (D → Prop) → Prop := fun d1 d2 k => gj d1 fun a => gj d2 fun b => k (.int (a - b))
theorem k9 : Bd p .Sub jI := fun A n s v1 v2 d1 d2 k Q E R ok r1 r2 hf hQ =>
 bL r1 hf fun a hf t => bL r2 hf fun b hf u => sub_int (hQ _ _ s.heap _ hf bX (.int _ _))
noncomputable def CF : D → D → (D → Prop) → Prop := fun d1 d2 k => gj d1 fun a => gj d2 fun b => IntMulOk a b ∧ k (.int (a * b))
theorem CG : Bd p .Mult CF := fun A n s v1 v2 d1 d2 k Q E R ok r1 r2 hf hQ =>
 bL r1 hf fun a hf t => bL r2 hf fun b hf u => mul_int (hQ _ _ s.heap _ hf.2 bX (.int _ _)) hf.1
noncomputable def tD : D → D → (D → Prop) → Prop := fun d1 d2 k => gj d1 fun a => gj d2 fun b => (0 < b ∧ b < 2 ^ 20) ∧ k (.int (a.fdiv b))
theorem CH : Bd p .FloorDiv tD := fun A n s v1 v2 d1 d2 k Q E R ok r1 r2 hf hQ =>
 bL r1 hf fun a hf t => bL r2 hf fun b hf u => floordiv_int (Ne.symm (Int.ne_of_lt hf.1.1)) (hQ _ _ s.heap _ hf.2 bX (.int _ _)) (Or.inl (PyProof.noPylong_small (Ha hf.1)))
noncomputable def tE : D → D → (D → Prop) → Prop := fun d1 d2 k => gj d1 fun a => gj d2 fun b => b ≠ 0 ∧ k (.int (a.fmod b))
theorem wE : Bd p .Mod tE := fun A n s v1 v2 d1 d2 k Q E R ok r1 r2 hf hQ =>
 bL r1 hf fun a hf t => bL r2 hf fun b hf u => mod_int' hf.1 (hQ _ _ s.heap _ hf.2 bX (.int _ _))
noncomputable def fJ (f : EC) : EC := fun σ k => f σ fun d σ1 => gj d fun a => k (.int (-a)) σ1
theorem i7 {e : Expr} {pos : Pos} {f : EC} (he : Ev p c n e f) : Ev p c n (.UnaryOp .USub e pos) (fJ f) := fun A base σ s k Q E R S hf hQ =>
 wpAny_UnaryOp (he A base σ s _ _ E R S hf fun d σ1 v h1 t1 hk S1 r1 g1 => bL r1 hk fun a hk t => neg_int (hQ _ σ1 _ h1 _ hk S1 (.int _ _) g1))
noncomputable def gR (p : P) (c : Cx) (n : Nat) (op : CmpOp) (o : D → D → MS → (Bool → Prop) → Prop) : Prop :=
 ∀ (A : Around) (base : Heap) (σ : MS) (s : Shared) (v1 v2 : Value) (d1 d2 : D) (k : Bool → Prop) (Q E : _), HN A n → cJ p c base σ s.heap → df s.heap v1 d1 → df s.heap v2 d2 → o d1 d2 σ k →
  (∀ b h' tk, k b → (∀ a ob, s.heap.get? a = some ob → h'.get? a = some ob) → Q (.bool b) { s with heap := h', toks := tk }) → wpAny (model p.prog p.w) A (compareOp op v1 v2) Q E s
noncomputable def eh (o : D → D → MS → (Bool → Prop) → Prop) (f g : EC) : EC := fun σ k => f σ fun d1 σ1 => g σ1 fun d2 σ2 => o d1 d2 σ2 fun b => k (.bool b) σ2
noncomputable def aA (o : D → D → MS → (Bool → Prop) → Prop) (f g : EC) : BC := fun σ k => f σ fun d1 σ1 => g σ1 fun d2 σ2 => o d1 d2 σ2 fun b => k b σ2
theorem j4 {op : CmpOp} {l r : Expr} {pos : Pos} {o : D → D → MS → (Bool → Prop) → Prop} {f g : EC} (ho : gR p c n op o) (hl : Ev p c n l f) (hr : Ev p c n r g)
  (hm : autoParam (behindInMarks op r = false) aU) : Ev p c n (.Compare l [op] [r] pos) (eh o f g) := fun A base σ s k Q E R S hf hQ => by
 refine wpAny_Compare1 (hl A base σ s _ _ E R S hf fun d1 σ1 v1 h1 t1 hk S1 r1 g1 => ?_) hm
 refine hr A base σ1 _ _ _ E R S1 hk fun d2 σ2 v2 h2 t2 hk2 S2 r2 g2 => ?_
 refine ho A base σ2 _ v1 v2 d1 d2 _ _ E R S2 (r1.grow g2) r2 hk2 fun b h' tk hk3 hx => ?_
 exact hQ _ σ2 _ h' tk hk3 (S2.ext hx) (.bool b) ((g1.trans g2).trans (bc.of_ext hx))
theorem bf {op : CmpOp} {l r : Expr} {pos : Pos} {o : D → D → MS → (Bool → Prop) → Prop} {f g : EC} (ho : gR p c n op o) (hl : Ev p c n l f) (hr : Ev p c n r g)
  (hm : autoParam (behindInMarks op r = false) aU) : Tv p c n (.Compare l [op] [r] pos) (aA o f g) := fun A base σ s k Q E R S hf hQ => by
 refine wpAny_isTrue_Compare1 (hl A base σ s _ _ E R S hf fun d1 σ1 v1 h1 t1 hk S1 r1 g1 => ?_) hm
 refine hr A base σ1 _ _ _ E R S1 hk fun d2 σ2 v2 h2 t2 hk2 S2 r2 g2 => ?_
 refine ho A base σ2 _ v1 v2 d1 d2 _ _ E R S2 (r1.grow g2) r2 hk2 fun b h' tk hk3 hx => ?_
 exact wpAny_truthy_bool (hQ _ σ2 h' tk hk3 (S2.ext hx) ((g1.trans g2).trans (bc.of_ext hx)))
noncomputable def wF (o1 o2 : D → D → MS → (Bool → Prop) → Prop) (f g h : EC) : BC := fun σ k => f σ fun d1 σ1 => g σ1 fun d2 σ2 => o1 d1 d2 σ2 fun b => match b with
 | false => k false σ2
 | true => h σ2 fun d3 σ3 => o2 d2 d3 σ3 fun b => k b σ3
theorem Az {op1 op2 : CmpOp} {l m r : Expr} {pos : Pos} {o1 o2 : D → D → MS → (Bool → Prop) → Prop} {f g h : EC} (ho1 : gR p c n op1 o1) (ho2 : gR p c n op2 o2) (hl : Ev p c n l f) (hm : Ev p c n m g) (hr : Ev p c n r h)
  (hmk : autoParam (lastMarks [op1, op2] [m, r] = false) aU) : Tv p c n (.Compare l [op1, op2] [m, r] pos) (wF o1 o2 f g h) := fun A base σ s k Q E R S hf hQ => by
 refine isTrue_chain (hl A base σ s _ _ E R S hf fun d1 σ1 v1 h1 t1 hk S1 r1 g1 => ?_) hmk
 refine test_link (hm A base σ1 _ _ _ E R S1 hk fun d2 σ2 v2 h2 t2 hk2 S2 r2 g2 => ?_)
 refine ho1 A base σ2 _ v1 v2 d1 d2 _ _ E R S2 (r1.grow g2) r2 hk2 fun b h3 t3 hk3 hx => ?_
 refine wpAny_truthy_bool ?_
 have S3 := S2.ext hx
 have g3 := (g1.trans g2).trans (bc.of_ext hx)
 cases b with
 | false => exact hQ _ σ2 h3 t3 hk3 S3 g3
 | true =>
  refine test_last (hr A base σ2 { s with heap := h3, toks := t3 } _ _ E R S3 hk3 fun d3 σ3 v3 h4 t4 hk4 S4 r4 g4 => ?_)
  refine ho2 A base σ3 _ v2 v3 d2 d3 _ _ E R S4 (r2.grow ((bc.of_ext hx).trans g4)) r4 hk4 fun b h5 t5 hk5 hx5 => ?_
  exact wpAny_truthy_bool (hQ _ σ3 h5 t5 hk5 (S4.ext hx5) ((g3.trans g4).trans (bc.of_ext hx5)))
noncomputable def oI (f : Int → Int → Bool) : D → D → MS → (Bool → Prop) → Prop := fun d1 d2 _ k => gj d1 fun a => gj d2 fun b => k (f a b)
theorem wG {op : CmpOp} {f : Int → Int → Bool} (h : ∀ (A : Around) (s : Shared) (a b : Int) (t u : Tok) (Q E : _), Q (.bool (f a b)) s → wpAny (model p.prog p.w) A (compareOp op (.int a t) (.int b u)) Q E s) : gR p c n op (oI f) := fun A base σ s v1 v2 d1 d2 k Q E R S r1 r2 hf hQ =>
 bL r1 hf fun a hf t => bL r2 hf fun b hf u => h A s a b t u Q E (hQ _ s.heap s.toks hf bX)
theorem ya : gR p c n .Lt (oI fun a b => decide (a < b)) := wG fun A s a b t u Q E h => lt_int h
theorem Gu : gR p c n .LtE (oI fun a b => decide (a ≤ b)) := wG fun A s a b t u Q E h => le_int h
theorem mu : gR p c n .Gt (oI fun a b => decide (b < a)) := wG fun A s a b t u Q E h => gt_int h
theorem Gv : gR p c n .GtE (oI fun a b => decide (b ≤ a)) := wG fun A s a b t u Q E h => ge_int h
noncomputable def cP (f : Int → Int → Bool) (g : Str → Str → Bool) : D → D → MS → (Bool → Prop) → Prop := fun d1 d2 _ k => dC d1 nK (fun a => gj d2 fun b => k (f a b)) (fun a => o5 d2 fun b => k (g a b)) nK nK
noncomputable def fy : D → D → MS → (Bool → Prop) → Prop := cP (· == ·) (· == ·)
noncomputable def n8 : D → D → MS → (Bool → Prop) → Prop := cP (· != ·) (· != ·)
theorem CI {op : CmpOp} {f : Int → Int → Bool} {g : Str → Str → Bool} (h : ∀ (A : Around) (s : Shared) (a b : Int) (t u : Tok) (Q E : _), Q (.bool (f a b)) s → wpAny (model p.prog p.w) A (compareOp op (.int a t) (.int b u)) Q E s)
  (h' : ∀ (A : Around) (s : Shared) (a b : Str) (t u : Tok) (Q E : _), Q (.bool (g a b)) s → wpAny (model p.prog p.w) A (compareOp op (.str a t) (.str b u)) Q E s) : gR p c n op (cP f g) := fun A base σ s v1 v2 d1 d2 k Q E R S r1 r2 hf hQ =>
 fK r1 hf nE (fun a hf t => bL r2 hf fun b hf u => h A s a b t u Q E (hQ _ s.heap s.toks hf bX)) (fun a hf t => ec r2 hf fun b hf u => h' A s a b t u Q E (hQ _ s.heap s.toks hf bX)) nE nE
theorem d6 : gR p c n .Eq fy := CI (fun A s a b t u Q E h => eq_int h) fun A s a b t u Q E h => eq_str h
theorem g8 : gR p c n .NotEq n8 := CI (fun A s a b t u Q E h => ne_int h) fun A s a b t u Q E h => ne_str h
noncomputable def Cl : D → D → MS → (Bool → Prop) → Prop
 | d, .none, _, k => match d with | .none => k true | _ => k false
 | _, _, _, _ => False
theorem CJ : gR p c n .Is Cl := fun A base σ s v1 v2 d1 d2 k Q E R S r1 r2 hf hQ => by
 cases r2 with
 | none =>
  cases r1 with
  | none => exact is_none_none (hQ true s.heap s.toks hf bX)
  | bool b => exact is_none_ne (by simp) (hQ false s.heap s.toks hf bX)
  | int b t => exact is_none_ne (by simp) (hQ false s.heap s.toks hf bX)
  | str b t => exact is_none_ne (by simp) (hQ false s.heap s.toks hf bX)
  | ref a => exact is_none_ne (by simp) (hQ false s.heap s.toks hf bX)
  | tup a b => exact is_none_ne (by simp) (hQ false s.heap s.toks hf bX)
 | _ => cases d1 <;> exact hf.elim
noncomputable def Fx : List D → List Int → Prop
 | [], [] => True
 | .int i :: ds, j :: ns => i = j ∧ Fx ds ns
 | _, _ => False
noncomputable def lf : List D → Option (List Int)
 | [] => some []
 | .int i :: ds => (lf ds).map (i :: ·)
 | _ :: _ => none
theorem nP {h : Heap} {ds : List D} : ∀ {vs : List Value} {ns : List Int}, bo h vs ds → lf ds = some ns → IntsAre vs ns := by
 induction ds with
 | nil =>
  intro vs xs r e
  cases r.nil_inv
  exact Option.some.inj e ▸ .nil
 | cons d ds ih =>
  intro vs xs r e
  obtain ⟨v, ws, rfl, r1, rs⟩ := bo.cons_inv r
  cases d with
  | int i =>
   obtain ⟨t, rfl⟩ := df.int_inv r1
   obtain ⟨ms, e2, rfl⟩ := Option.map_eq_some_iff.mp e
   exact .cons i t (ih rs e2)
  | _ => cases e
theorem zC (ns : List Int) : lf (ns.map .int) = some ns := by
 induction ns with
 | nil => rfl
 | cons n ns ih => simp [lf, ih]
noncomputable def j5 : List D → Option (List Str)
 | [] => some []
 | .str i :: ds => (j5 ds).map (i :: ·)
 | _ :: _ => none
theorem AA {h : Heap} {ds : List D} : ∀ {vs : List Value} {ns : List Str}, bo h vs ds → j5 ds = some ns → StrsAre vs ns := by
 induction ds with
 | nil =>
  intro vs xs r e
  cases r.nil_inv
  exact Option.some.inj e ▸ .nil
 | cons d ds ih =>
  intro vs xs r e
  obtain ⟨v, ws, rfl, r1, rs⟩ := bo.cons_inv r
  cases d with
  | str i =>
   obtain ⟨t, rfl⟩ := df.str_inv r1
   obtain ⟨ms, e2, rfl⟩ := Option.map_eq_some_iff.mp e
   exact .cons i t (ih rs e2)
  | _ => cases e
theorem jr (ns : List Str) : j5 (ns.map .str) = some ns := by
 induction ns with
 | nil => rfl
 | cons n ns ih => simp [j5, ih]
noncomputable def yb (neg : Bool) : D → D → MS → (Bool → Prop) → Prop := fun d1 d2 _ k => dC d1 nK (fun i => Bc d2 fun ds => jn (lf ds) fun ns => k (neg != ns.any (· == i)))
 (fun x => dC d2 nK nK (fun y => k (neg != !(Builtin.Str.occurrences y x 0 y.length 1).isEmpty)) (fun ds => jn (j5 ds) fun ns => k (neg != ns.any (· == x))) nK) nK nK
theorem yc : gR p c n .In (yb false) := fun A base σ s v1 v2 d1 d2 k Q E R S r1 r2 hf hQ =>
 fK r1 hf nE (fun i hf t => mo r2 hf fun ds hf a vs ht rs => cK hf fun ns hf e => in_tuple_ints ht (nP rs e) (hQ _ s.heap s.toks (xY hf) bX))
  (fun x hf t => fK r2 hf nE nE (fun y hf u => in_str (hQ _ s.heap s.toks (xY hf) bX)) (fun ds hf a vs ht rs => cK hf fun ns hf e => in_tuple_strs ht (AA rs e) (hQ _ s.heap s.toks (xY hf) bX)) nE) nE nE
theorem yd : gR p c n .NotIn (yb true) := fun A base σ s v1 v2 d1 d2 k Q E R S r1 r2 hf hQ =>
 fK r1 hf nE (fun i hf t => mo r2 hf fun ds hf a vs ht rs => cK hf fun ns hf e => notin_tuple_ints ht (nP rs e) (hQ _ s.heap s.toks (xZ hf) bX))
  (fun x hf t => fK r2 hf nE nE (fun y hf u => notIn_str (hQ _ s.heap s.toks (xZ hf) bX)) (fun ds hf a vs ht rs => cK hf fun ns hf e => notin_tuple_strs ht (AA rs e) (hQ _ s.heap s.toks (xZ hf) bX)) nE) nE nE
noncomputable def kG (j : MS → Nat) (neg : Bool) : D → D → MS → (Bool → Prop) → Prop := fun d1 d2 σ k => gj d1 fun i => jo d2 σ.st[j σ]? fun _ ds => jn (lf ds) fun ns => k (neg != ns.any (· == i))
theorem CK {j : MS → Nat} : gR p c n .In (kG j false) := fun A base σ s v1 v2 d1 d2 k Q E R S r1 r2 hf hQ =>
 bL r1 hf fun i hf t => dT S r2 hf fun a ds hf e vs hl rs => cK hf fun ns hf e => in_list_ints hl.isList (nP rs e) (hQ _ s.heap s.toks (xY hf) bX)
theorem vT {j : MS → Nat} : gR p c n .NotIn (kG j true) := fun A base σ s v1 v2 d1 d2 k Q E R S r1 r2 hf hQ =>
 bL r1 hf fun i hf t => dT S r2 hf fun a ds hf e vs hl rs => cK hf fun ns hf e => notin_list_ints hl.isList (nP rs e) (hQ _ s.heap s.toks (xZ hf) bX)
noncomputable def lg (neg : Bool) (j1 j2 : MS → Nat) : D → D → MS → (Bool → Prop) → Prop := fun d1 d2 σ k => qT d1 fun a => qT d2 fun b => oL σ.st[j1 σ]? fun a' ds => oL σ.st[j2 σ]? fun b' es => (a = a' ∧ b = b') ∧ (eZ ds = true ∧ eZ es = true) ∧ (PyData.canLayAll0 (bZ ds) = true ∧ PyData.canLayAll0 (bZ es) = true) ∧ (PyData.depthAll (bZ ds) ≤ 50) ∧
  k (neg != PyData.eqvAll (bZ ds) (bZ es))
theorem js {h : Heap} {a : Addr} {ds : List D} (x : dN p h a (.list ds)) (hp : eZ ds = true) : Reads h (.ref a) (.list (bZ ds)) [a] := by
 obtain ⟨vs, ⟨n, e⟩, rs⟩ := x
 exact .list (as := []) e rfl rfl (by simpa using rs.reads hp)
theorem tF {j1 j2 : MS → Nat} : gR p c n .Eq (lg false j1 j2) := fun A base σ s v1 v2 d1 d2 k Q E R S r1 r2 hf hQ =>
 eP r1 hf fun a hf => eP r2 hf fun b hf => j3 S hf fun a' ds hf e1 vs hl rs => j3 S hf fun b' es hf e2 ws hm ss =>
 SeqAt.compareEq_reads (js (p := p) (hf.1.1 ▸ (⟨vs, hl, rs⟩ : dN p s.heap a' (.list ds))) hf.2.1.1) (js (p := p) (hf.1.2 ▸ (⟨ws, hm, ss⟩ : dN p s.heap b' (.list es))) hf.2.1.2) hf.2.2.1.1 hf.2.2.1.2 (by simp only [PyData.depth]; exact Go R.un hf.2.2.2.1) (hQ _ s.heap s.toks (xY hf.2.2.2.2) bX)
theorem Fy {j1 j2 : MS → Nat} : gR p c n .NotEq (lg true j1 j2) := fun A base σ s v1 v2 d1 d2 k Q E R S r1 r2 hf hQ =>
 eP r1 hf fun a hf => eP r2 hf fun b hf => j3 S hf fun a' ds hf e1 vs hl rs => j3 S hf fun b' es hf e2 ws hm ss =>
 SeqAt.neOverData _ _ A E s _ _ _ _ _ _ _ (js (p := p) (hf.1.1 ▸ (⟨vs, hl, rs⟩ : dN p s.heap a' (.list ds))) hf.2.1.1) (js (p := p) (hf.1.2 ▸ (⟨ws, hm, ss⟩ : dN p s.heap b' (.list es))) hf.2.1.2) hf.2.2.1.1 hf.2.2.1.2 (by simp only [PyData.depth]; exact Go R.un hf.2.2.2.1) (hQ _ s.heap s.toks (xZ hf.2.2.2.2) bX)
noncomputable def gw (f : EC) : BC := fun σ k => f σ fun d σ1 => xO d fun b => k b σ1
theorem oz {e : Expr} {f : EC} (he : Ev p c n e f) (hev : autoParam (isTrue e c.env (eval e c.env) = (do let v ← eval e c.env; standAt e.pos; holding [v] (truthy v))) aR) : Tv p c n e (gw f) := fun A base σ s k Q E R S hf hQ => by
 rw [hev]
 refine HI (he A base σ s _ _ E R S hf fun d σ1 v h1 t1 hk S1 r1 g1 => HI (wpAny_standAt (wpAny_holding ?_)))
 exact qU r1 hk fun b hk => wpAny_truthy_bool (hQ b σ1 h1 t1 hk S1 g1)
noncomputable def GY (f g : EC) : EC := fun σ k => f σ fun d σ1 => xO d fun b => match b with | true => k (.bool true) σ1 | false => g σ1 k
theorem Hc {a b : Expr} {pos : Pos} {f g : EC} (ha : Ev p c n a f) (hb : Ev p c n b g) : Ev p c n (.BoolOp .Or [a, b] pos) (GY f g) := fun A base σ s k Q E R S hf hQ => by
 refine BoolOp_or (ha A base σ s _ _ E R S hf fun d σ1 v h1 t1 hk S1 r1 g1 => ?_)
 refine qU r1 hk fun b hk => wpAny_truthy_bool ?_
 cases b with
 | true => exact hQ _ σ1 _ h1 t1 hk S1 (.bool _) g1
 | false => exact BoolOp_one (hb A base σ1 _ _ _ E R S1 hk fun d σ2 v h2 t2 hk2 S2 r2 g2 => hQ d σ2 v h2 t2 hk2 S2 r2 (g1.trans g2))
noncomputable def u7 (f g : EC) : EC := fun σ k => f σ fun d σ1 => xO d fun b => match b with | false => k (.bool false) σ1 | true => g σ1 k
theorem E4 {a b : Expr} {pos : Pos} {f g : EC} (ha : Ev p c n a f) (hb : Ev p c n b g) : Ev p c n (.BoolOp .And [a, b] pos) (u7 f g) := fun A base σ s k Q E R S hf hQ => by
 refine BoolOp_and (ha A base σ s _ _ E R S hf fun d σ1 v h1 t1 hk S1 r1 g1 => ?_)
 refine qU r1 hk fun b hk => wpAny_truthy_bool ?_
 cases b with
 | false => exact hQ _ σ1 _ h1 t1 hk S1 (.bool _) g1
 | true => exact BoolOp_one (hb A base σ1 _ _ _ E R S1 hk fun d σ2 v h2 t2 hk2 S2 r2 g2 => hQ d σ2 v h2 t2 hk2 S2 r2 (g1.trans g2))
end
end
section
noncomputable def iq {α : Type} (ds : List α) (k : Int) : Option α := if 0 ≤ k then (if k.toNat < 2 ^ 63 then ds[k.toNat]? else none) else if -(2 ^ 63) ≤ k ∧ -(ds.length : Int) ≤ k then ds[(k + ds.length).toNat]? else none
section
variable {p : P} {c : Cx} {n : Nat} {X : XR}
set_option tactic.hygienic true in
theorem ye {A : Around} {s : Shared} {l : Addr} {vs : List Value} {ds : List D} {k : Int} {t : Tok} {d : D} {Q : Value → Shared → Prop} {E : Value → Shared → Prop} (hl : s.heap.IsList l vs.toArray) (r : bo s.heap vs ds) (e : iq ds k = some d) (h : ∀ v, df s.heap v d → Q v s) :
  wpAny (model p.prog p.w) A (getItem (.ref l) (.int k t)) Q E s := by
 unfold iq at e
 split at e
 ·rename_i h0
  split at e
  ·rename_i h1
   obtain ⟨v, hv, rv⟩ := r.at e
   exact wpAny_getItem_list hl h0 (by lia) (by simpa using hv) (h v rv)
  ·cases e
 ·rename_i h0
  split at e
  ·rename_i h1
   rw [← r.length] at e
   obtain ⟨v, hv, rv⟩ := r.at e
   exact wpAny_getItem_list_neg hl (by lia) (by rw [List.size_toArray, r.length]; exact h1.2) h1.1 (by simpa using hv) (h v rv)
  ·cases e
set_option tactic.hygienic true in
theorem Ej {A : Around} {s : Shared} {l : Addr} {vs : List Value} {ds : List D} {k : Int} {t : Tok} {d : D} {Q : Value → Shared → Prop} {E : Value → Shared → Prop} (hl : s.heap.IsTuple l vs.toArray) (r : bo s.heap vs ds) (e : iq ds k = some d) (h : ∀ v, df s.heap v d → Q v s) :
  wpAny (model p.prog p.w) A (getItem (.ref l) (.int k t)) Q E s := by
 unfold iq at e
 split at e
 ·rename_i h0
  split at e
  ·rename_i h1
   obtain ⟨v, hv, rv⟩ := r.at e
   have hlt : k.toNat < vs.length := (List.getElem?_eq_some_iff.mp hv).1
   exact PyProof.Rows.getItem_tuple hl ooQ (by lia) (seqIndex_of h0 (by rw [List.size_toArray]; lia)) (by simpa using hv) (h v rv)
  ·cases e
 ·rename_i h0
  split at e
  ·rename_i h1
   rw [← r.length] at e h1
   obtain ⟨v, hv, rv⟩ := r.at e
   exact PyProof.Rows.getItem_tuple hl h1.1 (by lia) (PySem.seqIndex_neg (by lia) (by rw [List.size_toArray]; exact h1.2)) (by simpa using hv) (h v rv)
  ·cases e
noncomputable def cL (f g : EC) : EC := fun σ k => f σ fun d1 σ1 => g σ1 fun d2 σ2 => Bc d1 fun ds => gj d2 fun i => jn (iq ds i) fun d => k d σ2
theorem fc {e i : Expr} {pos : Pos} {f g : EC} (he : Ev p c n e f) (hi : Ev p c n i g) (hs : autoParam (∀ o x, subscripted i false o x = operate [o, x] (getItem o x)) aJ) : Ev p c n (.Subscript e i pos) (cL f g) := fun A base σ s k Q E R S hf hQ => by
 refine Subscript_ (he A base σ s _ _ E R S hf fun d1 σ1 v1 h1 t1 hk1 S1 r1 g1 => ?_)
 refine hi A base σ1 _ _ _ E R S1 hk1 fun d2 σ2 v2 h2 t2 hk2 S2 r2 g2 => ?_
 refine mo r1 hk2 fun ds hk2 a vs ht rs => bL r2 hk2 fun i hk2 t => cK hk2 fun d hk2 e => ?_
 have ht2 := g2.tuple ht
 refine tail_any (IsTup.typeIs ht2) slot_tuple_getitem.lookup (Ej ht2 (rs.grow g2) e fun v rv => ?_) (hs _ _)
 exact hQ d σ2 v h2 t2 hk2 S2 rv (g1.trans g2)
noncomputable def aX (j : MS → Nat) (f g : EC) : EC := fun σ k => f σ fun d1 σ1 => g σ1 fun d2 σ2 => gj d2 fun i => jo d1 σ2.st[j σ2]? fun _ ds => jn (iq ds i) fun d => k d σ2
theorem bx {e i : Expr} {pos : Pos} {j : MS → Nat} {f g : EC} (he : Ev p c n e f) (hi : Ev p c n i g) (hs : autoParam (∀ o x, subscripted i false o x = operate [o, x] (getItem o x)) aJ) : Ev p c n (.Subscript e i pos) (aX j f g) := fun A base σ s k Q E R S hf hQ => by
 refine Subscript_ (he A base σ s _ _ E R S hf fun d1 σ1 v1 h1 t1 hk1 S1 r1 g1 => ?_)
 refine hi A base σ1 _ _ _ E R S1 hk1 fun d2 σ2 v2 h2 t2 hk2 S2 r2 g2 => ?_
 refine bL r2 hk2 fun i hk2 t => dT S2 (r1.grow g2) hk2 fun a ds hk2 ej vs hl rs => cK hk2 fun d hk2 ei => ?_
 refine tail_any hl.isList.typeIs slot_list_getitem.lookup (ye hl.isList rs ei fun v rv => ?_) (hs _ _)
 exact hQ d σ2 v h2 t2 hk2 S2 rv (g1.trans g2)
noncomputable def lS (kvs : List (Int × D)) (k : Int) : Option D := (kvs.find? fun kv => kv.1 = k).map (·.2)
theorem kC.valueAt {h : Heap} {es : List (Int × Value)} {fs : List (Int × D)} (x : kC h es fs) (k : Int) : (PySem.valueAt es k = none ∧ lS fs k = none) ∨ ∃ v d, PySem.valueAt es k = some v ∧ lS fs k = some d ∧ df h v d := by
 induction x with
 | nil => exact .inl ⟨rfl, rfl⟩
 | @cons k' v d es fs r _ ih =>
  unfold PySem.valueAt lS at *
  rw [List.find?_cons, List.find?_cons]
  by_cases e : k' = k
  ·simp only [e, decide_true]; exact .inr ⟨v, d, rfl, rfl, r⟩
  ·simp only [e, decide_false]; exact ih
theorem kC.any {h : Heap} {es : List (Int × Value)} {fs : List (Int × D)} (x : kC h es fs) (k : Int) : es.any (fun kv => kv.1 = k) = fs.any (fun kv => kv.1 = k) := by
 induction x with
 | nil => rfl
 | cons r _ ih => simp [List.any_cons, ih]
noncomputable def g9 (kvs : List (Int × D)) (k : Int) (v : D) : List (Int × D) :=
 if kvs.any (fun kv => kv.1 = k) then kvs.map (fun kv => if kv.1 = k then (kv.1, v) else kv) else kvs ++ [(k, v)]
theorem kC.append {h : Heap} {es : List (Int × Value)} {fs : List (Int × D)} (x : kC h es fs) {k : Int} {v : Value} {d : D} (r : df h v d) : kC h (es ++ [(k, v)]) (fs ++ [(k, d)]) := by
 induction x with
 | nil => exact .cons r .nil
 | cons r' _ ih => exact .cons r' ih
set_option tactic.hygienic true in
theorem kC.stored {h h' : Heap} (g : bc h h') {es : List (Int × Value)} {fs : List (Int × D)} (x : kC h es fs) {k : Int} {v : Value} {d : D} (r : df h' v d) : kC h' (PySem.stored es k v) (g9 fs k d) := by
 unfold PySem.stored g9
 rw [x.any k]
 split
 ·rename_i hh
  clear hh
  induction x with
  | nil => exact .nil
  | @cons k' v' d' es fs r' _ ih =>
   rw [bk, bk]
   by_cases e : k' = k
   ·simp only [e, if_true]; exact .cons r ih
   ·simp only [e, if_false]; exact .cons (r'.grow g) ih
 ·exact (x.grow g).append r
theorem kC.length {h : Heap} {es : List (Int × Value)} {fs : List (Int × D)} (x : kC h es fs) : es.length = fs.length := by
 induction x with
 | nil => rfl
 | cons r _ ih => simp [ih]
theorem AB (i : Int) (t : Tok) : (intKind p.prog p.w).is i (.int i t) = true := by simp [intKind, Value.isInt]
noncomputable def CL (j : MS → Nat) (f g : EC) : EC := fun σ k => f σ fun d1 σ1 => g σ1 fun d2 σ2 => gj d2 fun i => Ar d1 σ2.st[j σ2]? fun _ kvs => jn (lS kvs i) fun d => k d σ2
theorem Fz {e i : Expr} {pos : Pos} {j : MS → Nat} {f g : EC} (he : Ev p c n e f) (hi : Ev p c n i g) (hs : autoParam (∀ o x, subscripted i false o x = operate [o, x] (getItem o x)) aJ) : Ev p c n (.Subscript e i pos) (CL j f g) := fun A base σ s k Q E R S hf hQ => by
 refine Subscript_ (he A base σ s _ _ E R S hf fun d1 σ1 v1 h1 t1 hk1 S1 r1 g1 => ?_)
 refine hi A base σ1 _ _ _ E R S1 hk1 fun d2 σ2 v2 h2 t2 hk2 S2 r2 g2 => ?_
 refine bL r2 hk2 fun i hk2 t => vJ S2 (r1.grow g2) hk2 fun a kvs hk2 ej o => cK hk2 fun d hk2 ei => ?_
 obtain ⟨_, es, hd, kr⟩ := o
 rcases kr.valueAt i with ⟨_, q⟩ | ⟨v, d', q1, q2, rv⟩
 ·rw [ei] at q; cases q
 ·cases Option.some.inj (ei.symm.trans q2)
  refine tail_any (s := { s with heap := h2, toks := t2 }) hd.mapOf.typeIs slot_dict_getitem.lookup (wpAny_getItem_of (AB i t) hd.mapOf q1 ?_) (hs _ _)
  exact hQ d σ2 v h2 _ hk2 S2 rv (g1.trans g2)
noncomputable def CM (j : MS → Nat) : D → D → MS → (Bool → Prop) → Prop := fun d1 d2 σ k => gj d1 fun i => Ar d2 σ.st[j σ]? fun _ kvs => k (lS kvs i).isSome
theorem CN {j : MS → Nat} : gR p c n .In (CM j) := fun A base σ s v1 v2 d1 d2 k Q E R S r1 r2 hf hQ => by
 refine bL r1 hf fun i hf t => vJ S r2 hf fun a kvs hf e o => ?_
 obtain ⟨hsys, es, hd, kr⟩ := o
 refine wpAny_in_of (AB i t) hsys hd.mapOf (hQ _ s.heap _ ?_ bX)
 rcases kr.valueAt i with ⟨q1, q2⟩ | ⟨v, d', q1, q2, rv⟩ <;> (rw [q1]; rw [q2] at hf; exact hf)
theorem CO {A : Around} {s : Shared} {l : Addr} {vs : List Value} {k : Int} {t : Tok} {v : Value} {Q : Unit → Shared → Prop} {E : Value → Shared → Prop} (hl : s.heap.PlainList l vs.toArray) (h0 : 0 ≤ k) (hfit : k < 2 ^ 63) (hn : k.toNat < vs.length)
  (hQ : ∀ h', h'.PlainList l (vs.set k.toNat v).toArray → Heap.SameBut l s.heap h' → Q () { s with heap := h' }) : wpAny (model p.prog p.w) A (setItem (.ref l) (.int k t) v) Q E s := by
 obtain ⟨m, ho⟩ := id hl
 have hT := hl.isList.typeIs
 unfold setItem
 try with_reducible refine wpAny_holding ?_
 first | refine HI (HJ ?_) | skip
 refine HI (wpAny_sequenceKey hT (by decide) ?_)
 refine HI (wpAny_callSpecial?_slot (name := Str.ofString "__setitem__") hT slot_list_setitem
  (wpAny_call_entry slot_list_setitem hT entry_list_setitem ?_ (args_list_setitem _ _ _)))
 show wpAny _ _ (Builtin.List.listSubscript? (.int k t) >>= _) _ _ s
 refine HI (wpAny_listSubscript_int (fitsIndex_of h0 hfit) ?_)
 obtain ⟨j, rfl⟩ := Int.eq_ofNat_of_zero_le h0
 have hj : j < vs.length := hn
 have hx : vs.toArray[j]? = some vs[j] := by simp [hj]
 show wpAny _ _ ((seqItemAt l j >>= fun r => pure (r.map (j, ·))) >>= _) _ _ s
 refine HI (HI (wpAny_seqItemAt ho rfl (HJ ?_)))
 rw [hx]
 show wpAny _ _ (setSeqItemAt l j v >>= _) _ _ s
 have hfin : (s.heap.update l (Obj.mapSeq (·.setIfInBounds j v))).PlainList l (vs.set j v).toArray := by
  have q := IsL.update (h := s.heap) (l := l) (items := vs.toArray) (n := m) ho (·.setIfInBounds j v)
  have e : vs.toArray.setIfInBounds j v = (vs.set j v).toArray := by simp
  rw [e] at q
  exact ⟨_, q⟩
 refine HI (wpAny_setSeqItemAt ho rfl ?_)
 first
  | exact HI (HJ (HJ ⟨.none, rfl, HJ (hQ _ hfin (Heap.SameBut.update ..))⟩))
  | exact HJ ⟨.none, rfl, HJ (hQ _ hfin (Heap.SameBut.update ..))⟩
noncomputable def eM (j : MS → Nat) (fv fo fi : EC) : SC := fun σ k => fv σ fun dv σ1 => fo σ1 fun d1 σ2 => fi σ2 fun d2 σ3 => qT d1 fun a => gj d2 fun i => E2 σ3.st[j σ3]?
 (fun b ds => a = b ∧ (0 ≤ i ∧ i < 2 ^ 63 ∧ i.toNat < ds.length) ∧ k .next ⟨σ3.vars, σ3.st.set (j σ3) (b, .list (ds.set i.toNat dv))⟩)
 (fun b kvs => a = b ∧ kvs.length ≤ sizeLine ∧ k .next ⟨σ3.vars, σ3.st.set (j σ3) (b, .dict (g9 kvs i dv))⟩)
theorem bo.set {h : Heap} {vs : List Value} {ds : List D} (q : bo h vs ds) {v : Value} {d : D} (i : Nat) (r : df h v d) : bo h (vs.set i v) (ds.set i d) :=
 bo.ind (P := fun vs ds => ∀ i : Nat, bo h (vs.set i v) (ds.set i d)) (fun _ => .nil) (fun x y ih i => by
  cases i with
  | zero => exact .cons r y
  | succ i => exact .cons x (ih i)) q i
theorem fg {a : Addr} {o : O} {h h' : Heap} (hf : feet (a, o) = [a]) (hs : Heap.SameBut a h h') : ∀ b ob, b ∉ feet (a, o) → h.get? b = some ob → h'.get? b = some ob := fun b ob hb e => hs.extBut b ob (fun q => hb (by rw [hf]; exact List.mem_singleton.mpr q)) e
theorem fN {base : Heap} {σ : MS} {h h' : Heap} (S : cJ p c base σ h) {j : Nat} {a : Addr} {o : O} (e : σ.st[j]? = some (a, o)) (hf : feet (a, o) = [a]) (hs : Heap.SameBut a h h') : bc h h' := fun b ob eb hc => hs.extBut b ob (fun q => by
 subst q
 obtain ⟨o', e', nt⟩ := S.foot_ex (fw (HM e) (by rw [hf]; exact List.mem_singleton.mpr rfl))
 rw [eb] at e'; cases e'; exact nt hc) eb
theorem mw {ev eo ei : Expr} {pos' pos : Pos} {j : MS → Nat} {fv fo fi : EC} (hv : Ev p c n ev fv) (ho : Ev p c n eo fo) (hi : Ev p c n ei fi) (hs : autoParam (swapsWith ev (some (.Subscript eo ei pos')) pos.line c.env = pure false) aR) :
  Ex p c X n (.Assign [.Subscript eo ei pos'] ev pos) (eM j fv fo fi) := fun A base σ s k Q E R S hf hQ hE => by
 refine wpAny_Assign_Subscript (hv A base σ s _ _ E R.1 S hf fun dv σ1 v h1 t1 hk1 S1 r1 g1 => ?_) hs
 refine ho A base σ1 _ _ _ E R.1 S1 hk1 fun d1 σ2 ov h2 t2 hk2 S2 r2 g2 => ?_
 refine hi A base σ2 _ _ _ E R.1 S2 hk2 fun d2 σ3 iv h3 t3 hk3 S3 r3 g3 => ?_
 have gg := (g1.trans g2).trans g3
 have rv := r1.grow (g2.trans g3)
 refine eP r2 hk3 fun a hk3 => bL r3 hk3 fun i hk3 t => pF S3 hk3 (fun b ds hk3 ej vs hl rs => ?_) (fun b kvs hk3 ej o => ?_)
 ·obtain ⟨q, i2, hk⟩ := hk3
  rw [q]
  refine CO hl i2.1 i2.2.1 (rs.length ▸ i2.2.2) fun h4 hl4 hs4 => ?_
  have g4 : bc h3 h4 := fN S3 ej rfl hs4
  have S4 := S3.put ej (o' := .list (ds.set i.toNat dv)) rfl (fg rfl hs4) ⟨_, hl4, (rs.grow g4).set _ (rv.grow g4)⟩
  exact hQ .next _ .next h4 t3 hk S4.1 .next (gg.trans g4)
 ·obtain ⟨q, hsz, hk⟩ := hk3
  rw [q]
  obtain ⟨hsys, es, hd, kr⟩ := o
  refine wpAny_setItem_pairs (AB i t) hd (fun h4 hd4 hs4 => ?_) (kr.length ▸ hsz)
  have g4 : bc h3 h4 := fN S3 ej rfl hs4
  have S4 := S3.put ej (o' := .dict (g9 kvs i dv)) rfl (fg rfl hs4) ⟨hsys, _, hd4, kr.stored g4 (rv.grow g4)⟩
  exact hQ .next _ .next h4 _ hk S4.1 .next (gg.trans g4)
theorem rY {base : Heap} {σ : MS} {h : Heap} (S : cJ p c base σ h) : (h.objs.size == sysModules) = false := by
 obtain ⟨o, _, _, e, _⟩ := S.okh.g
 have h1 : mainGlobals < h.objs.size := Heap.lt_size e
 have h2 : sysModules < mainGlobals := by decide
 rw [beq_eq_false_iff_ne]
 intro q
 rw [q] at h1
 exact absurd h1 (Nat.not_lt.mpr (Nat.le_of_lt h2))
noncomputable def o8 : EC := fun σ k => ∀ a, k (.ref a) ⟨σ.vars, σ.st ++ [(a, .dict [])]⟩
theorem cJ.newDict {base : Heap} {σ : MS} {h : Heap} (S : cJ p c base σ h) : cJ p c base ⟨σ.vars, σ.st ++ [(h.objs.size, .dict [])]⟩ (h.push { cls := .type "dict", data := .dict #[] }) :=
 S.push (h.objs.size, .dict []) (b7 _) ⟨rY S, [], Heap.DictOf.new h, .nil⟩ (fun a ha => by
  obtain rfl : a = h.objs.size := by simpa [feet] using ha
  exact dS) (by simp [feet])
theorem wH {pos : Pos} : Ev p c n (.Dict [] [] pos) o8 := fun A base σ s k Q E R S hf hQ =>
 wpAny_Dict_empty (hQ _ _ _ _ s.toks (hf _) S.newDict (.ref _) (bc.of_ext (b7 _)))
noncomputable def Gw {α : Type} (l : List α) (K : Prop) : Prop := match l with
 | [] => K
 | _ => False
theorem FA {α : Type} {K : Prop} : Gw ([] : List α) K = K := rfl
noncomputable def zD (f g : EC) : EC := fun σ k => ∀ a, f ⟨σ.vars, σ.st ++ [(a, .dict [])]⟩ fun d1 σ1 => g σ1 fun d2 σ2 => gj d1 fun i => E2 σ2.st[σ.st.length]? Gd fun b kvs => Gw kvs (a = b ∧ k (.ref a) ⟨σ2.vars, σ2.st.set σ.st.length (a, .dict [(i, d2)])⟩)
theorem Ek {ek ev : Expr} {pos : Pos} {f g : EC} (hk : Ev p c n ek f) (hv : Ev p c n ev g) : Ev p c n (.Dict [some ek] [ev] pos) (zD f g) := fun A base σ s k Q E R S hf hQ => by
 refine wpAny_Dict_any rfl rfl (by simp) (by simp) ?_
 have g0 : bc s.heap (s.heap.push { cls := .type "dict", data := .dict #[] }) := bc.of_ext (b7 _)
 show wpAny _ A (evalPairs [(eval ek c.env, do let x ← eval ev c.env; standAt pos; pure x)]) _ E _
 refine evalPairs_cons (hk A base _ { s with heap := s.heap.push { cls := .type "dict", data := .dict #[] } } _ _ E R S.newDict (hf s.heap.objs.size) fun d1 σ1 v1 h1 t1 hk1 S1 r1 g1 => ?_)
 refine HI (hv A base σ1 _ _ _ E R S1 hk1 fun d2 σ2 v2 h2 t2 hk2 S2 r2 g2 => ?_)
 refine HI (wpAny_standAt (HJ (evalPairs_nil ?_)))
 refine bL r1 hk2 fun i hk2 t => pF S2 hk2 Gr fun b kvs hk2 e o => ?_
 cases kvs with
 | cons _ _ => exact hk2.elim
 | nil =>
  obtain ⟨q, hk2⟩ := hk2
  obtain ⟨hsys, es, hd, kr⟩ := o
  cases List.length_eq_zero_iff.mp kr.length
  rw [q]
  refine HI (HI (wpAny_dictSet_pairs (AB i t) hd (fun h4 hd4 hs4 => HJ ?_) (by simp)))
  have g4 : bc h2 h4 := fN S2 e rfl hs4
  have S4 := S2.put e (o' := .dict [(i, d2)]) rfl (fg rfl hs4) ⟨hsys, _, hd4, .cons (r2.grow g4) .nil⟩
  exact HJ (hQ _ _ _ h4 _ (q ▸ hk2) S4.1 (.ref _) (((g0.trans g1).trans g2).trans g4))
noncomputable def iQ (j : MS → Nat) (f g : EC) : EC := fun σ k => f σ fun d1 σ1 => g σ1 fun d2 σ2 => gj d2 fun i => jo d1 σ2.st[j σ2]? fun _ ds => 0 ≤ i ∧ ds.length ≤ sizeLine ∧ ∀ a', k (.ref a') ⟨σ2.vars, σ2.st ++ [(a', .list (ds.drop i.toNat))]⟩
noncomputable def jL (j : MS → Nat) (f g : EC) : EC := fun σ k => f σ fun d1 σ1 => g σ1 fun d2 σ2 => gj d2 fun i => jo d1 σ2.st[j σ2]? fun _ ds => 0 ≤ i ∧ ds.length ≤ sizeLine ∧ ∀ a', k (.ref a') ⟨σ2.vars, σ2.st ++ [(a', .list (ds.take i.toNat))]⟩
theorem bo.drop {h : Heap} {vs : List Value} {ds : List D} (q : bo h vs ds) (i : Nat) : bo h (vs.drop i) (ds.drop i) :=
 bo.ind (P := fun vs ds => ∀ i : Nat, bo h (vs.drop i) (ds.drop i)) (fun i => by rw [List.drop_nil, List.drop_nil]; exact .nil) (fun x y ih i => by
  cases i with
  | zero => exact .cons x y
  | succ i => exact ih i) q i
theorem bo.take {h : Heap} {vs : List Value} {ds : List D} (q : bo h vs ds) (i : Nat) : bo h (vs.take i) (ds.take i) :=
 bo.ind (P := fun vs ds => ∀ i : Nat, bo h (vs.take i) (ds.take i)) (fun i => by rw [List.take_nil, List.take_nil]; exact .nil) (fun x y ih i => by
  cases i with
  | zero => exact .nil
  | succ i => exact .cons x (ih i)) q i
theorem vU {base : Heap} {σ : MS} {h : Heap} (o : Obj) {vs : List Value} {ds : List D} (S : cJ p c base σ h) (r : bo h vs ds) :
  cJ p c base ⟨σ.vars, σ.st ++ [(h.objs.size + 1, .list ds)]⟩ ((h.push o).push { cls := .type "list", data := .seq vs.toArray }) ∧ bc h ((h.push o).push { cls := .type "list", data := .seq vs.toArray }) := by
 have ex := b7 (h := h) o
 have q := (S.ext ex).newList (r.grow (bc.of_ext ex))
 rw [show (h.push o).objs.size = h.objs.size + 1 from Heap.size_push ..] at q
 exact ⟨q.1, (bc.of_ext ex).trans q.2⟩
theorem CP {e i : Expr} {sp pos : Pos} {j : MS → Nat} {f g : EC} (he : Ev p c n e f) (hi : Ev p c n i g) (ht : autoParam (∀ o r, letTemporaryGo e o r = pure ()) aJ) : Ev p c n (.Subscript e (.Slice (some i) none none sp) pos) (iQ j f g) := fun A base σ s k Q E R S hf hQ => by
 refine wpAny_Subscript_list_slice (he A base σ s _ _ E R S hf fun d1 σ1 v1 h1 t1 hk1 S1 r1 g1 => ?_) ht
 refine evalPart_some_step (hi A base σ1 _ _ _ E R S1 hk1 fun d2 σ2 v2 h2 t2 hk2 S2 r2 g2 => ?_)
 refine evalPart_none_step ?_
 refine bL r2 hk2 fun i hk2 t => dT S2 (r1.grow g2) hk2 fun a ds hk2 e vs hl rs => ?_
 have q_h0 := hk2
 refine ⟨a, _, some i, none, rfl, hl.isList, by rw [List.size_toArray, rs.length]; exact q_h0.2.1, .int i t, .none, ?_⟩
 obtain ⟨m, rfl⟩ := Int.eq_ofNat_of_zero_le q_h0.1
 rw [slicePick_from']
 have q := vU { cls := .type "slice", data := .fields #[.int (m : Int) t, .none, .none] } S2 (rs.drop m)
 exact hQ _ _ _ _ t2 (q_h0.2.2 _) q.1 (.ref _) ((g1.trans g2).trans q.2)
theorem FB {e i : Expr} {sp pos : Pos} {j : MS → Nat} {f g : EC} (he : Ev p c n e f) (hi : Ev p c n i g) (ht : autoParam (∀ o r, letTemporaryGo e o r = pure ()) aJ) : Ev p c n (.Subscript e (.Slice none (some i) none sp) pos) (jL j f g) := fun A base σ s k Q E R S hf hQ => by
 refine wpAny_Subscript_list_slice (he A base σ s _ _ E R S hf fun d1 σ1 v1 h1 t1 hk1 S1 r1 g1 => ?_) ht
 refine evalPart_none_step ?_
 refine evalPart_some_step (hi A base σ1 _ _ _ E R S1 hk1 fun d2 σ2 v2 h2 t2 hk2 S2 r2 g2 => ?_)
 refine bL r2 hk2 fun i hk2 t => dT S2 (r1.grow g2) hk2 fun a ds hk2 e vs hl rs => ?_
 have q_h0 := hk2
 refine ⟨a, _, none, some i, rfl, hl.isList, by rw [List.size_toArray, rs.length]; exact q_h0.2.1, .none, .int i t, ?_⟩
 obtain ⟨m, rfl⟩ := Int.eq_ofNat_of_zero_le q_h0.1
 rw [slicePick_upto']
 have q := vU { cls := .type "slice", data := .fields #[.none, .int (m : Int) t, .none] } S2 (rs.take m)
 exact hQ _ _ _ _ t2 (q_h0.2.2 _) q.1 (.ref _) ((g1.trans g2).trans q.2)
noncomputable def zE (f g : EC) : EC := fun σ k => f σ fun d1 σ1 => g σ1 fun d2 σ2 => o5 d1 fun x => gj d2 fun i => x.length ≤ sizeLine ∧ k (.str (Txt.slice x (some i) none)) σ2
theorem El {e i : Expr} {sp pos : Pos} {f g : EC} (he : Ev p c n e f) (hi : Ev p c n i g) (ht : autoParam (∀ o r, letTemporaryGo e o r = pure ()) aJ) : Ev p c n (.Subscript e (.Slice (some i) none none sp) pos) (zE f g) := fun A base σ s k Q E R S hf hQ => by
 refine wpAny_Subscript_str_slice (he A base σ s _ _ E R S hf fun d1 σ1 v1 h1 t1 hk1 S1 r1 g1 => ?_) ht
 refine evalPart_some_step (hi A base σ1 _ _ _ E R S1 hk1 fun d2 σ2 v2 h2 t2 hk2 S2 r2 g2 => ?_)
 refine evalPart_none_step ?_
 refine ec r1 hk2 fun x hk2 t => bL r2 hk2 fun i hk2 u => ?_
 have ex := b7 (h := h2) { cls := .type "slice", data := .fields #[.int i u, .none, .none] }
 refine ⟨x, t, some (i, u), none, rfl, rfl, rfl, post_val_or_str ⟨Nat.le_trans (Txt.slice_le x _ _) hk2.1, fun t' k' => ?_⟩⟩
 exact hQ _ σ2 _ _ k' hk2.2 (S2.ext ex) (.str _ _) ((g1.trans g2).trans (bc.of_ext ex))
end
end
section
section
variable {p : P} {c : Cx} {n : Nat} {X : XR}
noncomputable def bv (j : MS → Nat) : qW := fun ds σ k => b1 ds fun d => dC d nK nK (fun x => x.length < 2 ^ 62 ∧ k (.int x.length) σ) (fun xs => xs.length < 2 ^ 62 ∧ k (.int xs.length) σ) fun a => oL σ.st[j σ]? fun b xs => a = b ∧ xs.length < 2 ^ 62 ∧ k (.int xs.length) σ
theorem FC {n : Nat} (h : n < 2 ^ 62) : ¬ (n : Int) ≥ 2 ^ 63 := by lia
theorem b9 {j : MS → Nat} : BF p (.builtin "len") (bv j) := fun c A n base σ s vs ds k Q E R S r hf hQ =>
 mr r hf fun d hf v r => fK r hf nE nE (fun x hf t => PyProof.Rows.len_str (FC hf.1) (hQ _ σ _ s.heap _ hf.2 S (.int _ _) (bc.refl _)))
  (fun xs hf a vs ht rs => PyProof.Rows.len_tuple ht (by rw [List.size_toArray, rs.length]; exact Int.not_le.mp (FC hf.1)) (hQ _ σ _ s.heap _ hf.2 S (by rw [List.size_toArray, rs.length]; exact .int _ _) (bc.refl _)))
  fun a hf => j3 S hf fun b xs hf e vs hl rs => PyProof.Rows.len_list (hf.1 ▸ hl.isList) (by rw [List.size_toArray, rs.length]; exact Int.not_le.mp (FC hf.2.1)) (hQ _ σ _ s.heap _ hf.2.2 S (by rw [List.size_toArray, rs.length]; exact .int _ _) (bc.refl _))
noncomputable def qY : qW := fun ds σ k => b1 ds fun d => gj d fun a => k (.int a.natAbs) σ
theorem o9 : BF p (.builtin "abs") qY := fun c A n base σ s vs ds k Q E R S r hf hQ =>
 mr r hf fun d hf v r => bL r hf fun a hf t => call_abs_int fun u tk => hQ _ σ _ s.heap tk hf S (by
  have e : (if a < 0 then -a else a) = (a.natAbs : Int) := by split <;> lia
  rw [e]; exact .int _ _) (bc.refl _)
noncomputable def qZ : qW := fun ds σ k => b1 ds fun d => dC d nK (fun a => a.natAbs.log2 < 1920 ∧ k (.str (Str.ofString (toString a))) σ) (fun x => k (.str x) σ) nK nK
noncomputable def mh : qW := fun ds σ k => b1 ds fun d => dC d (fun b => k (.int (if b then 1 else 0)) σ) nK (fun x => x.length ≤ 640 ∧ jn (PySem.intText? x) fun i => k (.int i) σ) nK nK
theorem pb : BF p (.type "int") mh := fun c A n base σ s vs ds k Q E R S r hf hQ =>
 mr r hf fun d hf v r => fK r hf (fun b hf => call_int_bool (hQ _ σ _ s.heap _ hf S (.int _ _) (bc.refl _))) nE
  (fun x hf t => cK hf.2 fun i h e => KIN.call_text e hf.1 (hQ _ σ _ s.heap _ h S (.int _ _) (bc.refl _))) nE nE
noncomputable def c6 (j : MS → Nat) : qW := fun ds σ k => b1 ds fun d => dC d nK nK nK (fun xs => k (.tup xs) σ) fun a => oL σ.st[j σ]? fun b xs => a = b ∧ xs.length ≤ sizeLine ∧ k (.tup xs) σ
theorem er {j : MS → Nat} : BF p (.type "tuple") (c6 j) := fun c A n base σ s vs ds k Q E R S r hf hQ =>
 mr r hf fun d hf v r => fK r hf nE nE nE (fun xs hf a vs ht rs => call_tuple_same ht (hQ _ σ _ s.heap s.toks hf S (.tup ht rs) (bc.refl _)))
  fun a hf => j3 S hf fun b xs hf e ws hl rs => call_tuple_list (hf.1 ▸ hl.isList) (fun h' hx => by
   have ex := b7 (h := h') { cls := .type "tuple", data := .seq ws.toArray }
   have gg : bc s.heap _ := (bc.of_ext hx).trans (bc.of_ext ex)
   exact hQ _ σ _ _ s.toks hf.2.2 ((S.ext hx).ext ex) (.tup ⟨_, Heap.get?_push_size _ rfl, rfl, _, rfl⟩ (rs.grow gg)) gg) (by rw [List.size_toArray, rs.length]; exact hf.2.1)
noncomputable def jM (j : MS → Nat) : qW := fun ds σ k => b1 ds fun d => jo d σ.st[j σ]? fun b xs => eZ xs = true ∧ PyData.showableAll (bZ xs) = true ∧ PyData.hasDictAll (bZ xs) = false ∧ PyData.depthAll (bZ xs) ≤ 50 ∧ (PyData.shown (.list (bZ xs))).length ≤ sizeLine ∧ k (.str (PyData.shown (.list (bZ xs)))) σ
theorem nQ {j : MS → Nat} : BF p (.builtin "repr") (jM j) := fun c A n base σ s vs ds k Q E R S r hf hQ =>
 mr r hf fun d hf v r => dT S r hf fun a xs hf e vs hl rs => by
  obtain ⟨h1, h2, h3, h4, h5, h6⟩ := hf
  refine repr_of_reads' (h₀ := s.heap) (js (p := p) ⟨vs, hl, rs⟩ h1) h2 (PyData.noDict_hsm h3) R.gd ?_ bX (fun h' u tk hx => hQ _ σ _ h' tk h6 (S.ext hx) (.str _ _) (bc.of_ext hx)) h5
  have := R.un
  simp only [PyData.depth]
  lia
noncomputable def tG (f : EC) : EC := fun σ k => f σ fun d σ1 => dC d nK (fun _ => k (.bool false) σ1) (fun _ => k (.bool false) σ1) (fun _ => k (.bool true) σ1) nK
theorem Em {x y : Str} {np yp pos : Pos} {e : Expr} {f : EC} (he : Ev p c n e f) (hx : c.env.kindOf x = some .globalImplicit) (hg : c.env.globals = mainGlobals) (hb : c.env.builtins = builtinsNs) (hm : p.mg x = none) (hv : bootBuiltins x = some (.builtin "isinstance"))
  (hy : c.env.kindOf y = some .globalImplicit) (hmy : p.mg y = none) (hvy : bootBuiltins y = some (.type "tuple"))
  (hst : autoParam (starEach [e, .Name y yp] c.env = [(false, eval e c.env), (false, eval (.Name y yp) c.env)]) aR)
  (hp : autoParam (∀ pos, (backTo pos (starEach [e, .Name y yp] c.env)).any (·.1) = false) aI) (hn : autoParam (x ≠ "__name__") aD) (hd : autoParam ((x == ("__debug__" : Str)) = false) aD) (hny : autoParam (y ≠ "__name__") aD) (hdy : autoParam ((y == ("__debug__" : Str)) = false) aD) :
  Ev p c n (.Call (.Name x np) [e, .Name y yp] [] pos) (tG f) := fun A base σ s k Q E R S hf hQ => by
 refine wpAny_Call_NameR (iP S hx hg hb hm hv ?_ hn hd)
 refine bT (Pr := fun _ => True) (hp pos) (dh (by intro a h; cases h)) ?_
 refine spliced_more (pos := pos) (he A base σ s _ _ E R S hf fun d σ1 v h1 t1 hk1 S1 r1 g1 => ?_) hst
 refine spliced_more (rest := []) (pos := pos) (iP (s := { s with heap := h1, toks := t1 }) S1 hy hg hb hmy hvy ?_ hny hdy) rfl
 refine spliced_none ⟨trivial, ?_⟩
 show wpAny _ A (call (.builtin "isinstance") [v, .type "tuple"]) Q E _
 exact fK r1 hk1 nE (fun i hk1 t => PySem.call_isinstance (isinstance_false_int (by decide) (by with_unfolding_all rfl) sub_int_tuple) (hQ _ σ1 _ h1 _ hk1 S1 (.bool _) g1))
  (fun i hk1 t => PySem.call_isinstance (isinstance_false_str (by decide) (by with_unfolding_all rfl) sub_str_tuple) (hQ _ σ1 _ h1 _ hk1 S1 (.bool _) g1))
  (fun ds hk1 a vs ht rs => PySem.call_isinstance (isinstance_true (Tx := "tuple") (by with_unfolding_all rfl) PySem.F.sub_tuple_tuple) ⟨ht.typeIs, hQ _ σ1 _ h1 _ hk1 S1 (.bool _) g1⟩) nE
noncomputable def bl (j : MS → Nat) : qW := fun ds σ k => b2 ds fun d1 d => jo d1 σ.st[j σ]? fun b xs => xs.length ≤ 2 ^ 20 ∧ k .none ⟨σ.vars, σ.st.set (j σ) (b, .list (xs ++ [d]))⟩
theorem Gx {n : Nat} (h : n ≤ 2 ^ 20) : n ≤ sizeLine := by have := sizeLine_eq; exact nA
theorem cA {j : MS → Nat} : BF p (.builtin "list.append") (bl j) := fun c A n base σ s vs ds k Q E R S r hf hQ =>
 tn r hf fun d1 d hf v w r1 r2 => dT S r1 hf fun a xs hf e ws hl rs => wpAny_list_append_plain hl (fun h' hl' hs' => by
  have g' : bc s.heap h' := fN S e rfl hs'
  have S' := S.put e (o' := .list (xs ++ [d])) rfl (fg rfl hs') ⟨_, by simpa using hl', (rs.grow g').append (.cons (r2.grow g') .nil)⟩
  exact hQ _ _ _ h' s.toks hf.2 S'.1 .none g') (by rw [List.size_toArray, rs.length]; exact Gx hf.1)
theorem yf {h : Heap} {l : Addr} {vs ws : List Value} (hl : h.PlainList l vs.toArray) (f : Array Value → Array Value) (e : f vs.toArray = ws.toArray) : (h.update l (Obj.mapSeq f)).PlainList l ws.toArray ∧ Heap.SameBut l h (h.update l (Obj.mapSeq f)) := by
 obtain ⟨m, ho⟩ := hl
 have q := IsL.update (h := h) (l := l) (items := vs.toArray) (n := m) ho f
 rw [e] at q
 exact ⟨⟨_, q⟩, Heap.SameBut.update ..⟩
noncomputable def En (j : MS → Nat) : qW := fun ds σ k => b1 ds fun d => jo d σ.st[j σ]? fun b xs => xs.length ≤ 2 ^ 20 ∧ jn xs.getLast? fun d => k d ⟨σ.vars, σ.st.set (j σ) (b, .list xs.dropLast)⟩
theorem bo.dropLast {h : Heap} {vs : List Value} {ds : List D} (r : bo h vs ds) : bo h vs.dropLast ds.dropLast := by
 rw [List.dropLast_eq_take, List.dropLast_eq_take, r.length]; exact r.take _
theorem FD {ws : List Value} {v : Value} (hv : ws[ws.length - 1]? = some v) : ws.toArray.eraseIdxIfInBounds (ws.length - 1) = ws.dropLast.toArray := by
 have : ws.length - 1 < ws.toArray.size := (List.getElem?_eq_some_iff.mp hv).1
 rw [Array.eraseIdxIfInBounds, dif_pos this]
 simp [List.eraseIdx_length_sub_one]
theorem FE {j : MS → Nat} : BF p (.builtin "list.pop") (En j) := fun c A n base σ s vs ds k Q E R S r hf hQ =>
 mr r hf fun d hf v r => dT S r hf fun a xs hf e ws hl rs => cK hf.2 fun d h2 ed => hl.elim fun m ho => by
  have hlen := rs.length
  rw [List.getLast?_eq_getElem?, ← hlen] at ed
  obtain ⟨v, hv, rv⟩ := rs.at ed
  refine call_meets PySem.F.slot_list_pop ⟨_, ho, rfl⟩ PySem.F.entry_list_pop (PySem.F.args_list_pop_1 _) (MeetsSeq.list_pop_last a ws.toArray m v (by rw [List.size_toArray]; simpa using hv) (by rw [List.size_toArray, hlen]; exact Gx hf.1)) ⟨ho, ?_⟩
  have u := yf (ws := ws.dropLast) hl (fun xs => xs.eraseIdxIfInBounds (ws.toArray.size - 1)) (FD hv)
  have g' : bc s.heap _ := fN S e rfl u.2
  have S' := S.put e (o' := .list xs.dropLast) rfl (fg rfl u.2) ⟨_, u.1, (rs.dropLast.grow g')⟩
  exact hQ _ _ _ _ s.toks h2 S'.1 (rv.grow g') g'
noncomputable def lh (j1 j2 : MS → Nat) : qW := fun ds σ k => b2 ds fun d1 d2 => qT d1 fun a => qT d2 fun a' => oL σ.st[j1 σ]? fun b xs => oL σ.st[j2 σ]? fun b' ys => (a = b ∧ a' = b') ∧ xs.length + ys.length ≤ 2 ^ 20 ∧ k .none ⟨σ.vars, σ.st.set (j1 σ) (b, .list (xs ++ ys))⟩
theorem q8 {j1 j2 : MS → Nat} : BF p (.builtin "list.extend") (lh j1 j2) := fun c A n base σ s vs ds k Q E R S r hf hQ =>
 tn r hf fun d1 d2 hf v w r1 r2 => eP r1 hf fun a hf => eP r2 hf fun a' hf => j3 S hf fun b xs hf e1 ws hl rs => j3 S hf fun b' ys hf e2 us hu ru => hl.elim fun m ho => hu.elim fun m2 ho2 => by
  obtain ⟨⟨q1, q2⟩, h1, h2⟩ := hf
  have l1 := rs.length
  have l2 := ru.length
  have hz := sizeLine_eq
  rw [q1, q2]
  refine call_meets PySem.F.slot_list_extend ⟨_, ho, rfl⟩ PySem.F.entry_list_extend (PySem.F.args_list_extend_2 _ _) (AutoSeq1.list_extend_list_list_0 b ws.toArray m b' us.toArray m2 ?_ (by rw [List.size_toArray, l1]; lia) (by rw [List.size_toArray, List.size_toArray, l1, l2]; exact nA)) ⟨ho, ho2, ?_⟩
  ·rw [List.size_toArray, List.size_toArray, l1, l2]
   have : Builtin.List.listTooLong (xs.length + ys.length) = false := decide_eq_false (by lia)
   rw [this]; simp
  ·have u := yf (ws := ws ++ us) hl (fun xs => xs ++ us.toArray) (by simp)
   have g' : bc s.heap _ := fN S e1 rfl u.2
   have S' := S.put e1 (o' := .list (xs ++ ys)) rfl (fg rfl u.2) ⟨_, u.1, (rs.grow g').append (ru.grow g')⟩
   exact hQ _ _ _ _ s.toks h2 S'.1 .none g'
noncomputable def s6 : qW := fun ds σ k => b2 ds fun d e => o5 d fun x => o5 e fun y => k (.bool (Txt.startswith x y)) σ
theorem Bl : BF p (.builtin "str.startswith") s6 := fun c A n base σ s vs ds k Q E R S r hf hQ =>
 tn r hf fun d e hf v w r1 r2 => ec r1 hf fun x hf t => ec r2 hf fun y hf u => SC.startswith (hQ _ σ _ s.heap s.toks hf S (.bool _) (bc.refl _))
theorem AC {h : Heap} : ∀ (l : List (Str × Tok)), bo h (strValues l) ((l.map (·.1)).map .str)
 | [] => .nil
 | (x, t) :: l => .cons (.str x t) (AC l)
noncomputable def bP : qW := fun ds σ k => aC ds (fun d => o5 d fun x => x.length ≤ sizeLine ∧ (Builtin.Str.spaceWords x (x.length + 1)).length ≤ sizeLine ∧ ∀ a, k (.ref a) ⟨σ.vars, σ.st ++ [(a, .list ((Txt.words x).map .str))]⟩)
 (fun d e => o5 d fun x => o5 e fun y => (y.length == 0) = false ∧ x.length ≤ sizeLine ∧ (Builtin.Str.partsBetween x (Builtin.Str.occurrences x y 0 x.length (x.length + 1)) y.length).length ≤ sizeLine ∧ ∀ a, k (.ref a) ⟨σ.vars, σ.st ++ [(a, .list ((Txt.split x y).map .str))]⟩) Hb
theorem kH {base : Heap} {σ : MS} {h h' : Heap} {a : Addr} {vs : List Value} {ds : List D} (S : cJ p c base σ h) (hx : ∀ b o, h.get? b = some o → h'.get? b = some o) (hn : h.get? a = none) (hl : h'.PlainList a vs.toArray) (r : bo h' vs ds) : cJ p c base ⟨σ.vars, σ.st ++ [(a, .list ds)]⟩ h' := by
 exact S.push (a, .list ds) hx ⟨vs, hl, r⟩ (fun b hb => by
  obtain rfl : b = a := by simpa [feet] using hb
  exact hn) (by simp [feet])
theorem eR : BF p (.builtin "str.split") bP := fun c A n base σ s vs ds k Q E R S r hf hQ => by
 have fin : ∀ (l : List (Str × Tok)) (xs : List Str) (tk : Nat), l.map (·.1) = xs → (∀ a, k (.ref a) ⟨σ.vars, σ.st ++ [(a, .list (xs.map .str))]⟩) → Q (.ref s.heap.objs.size) { s with heap := s.heap.push { cls := .type "list", data := .seq (strValues l).toArray }, toks := tk } := fun l xs tk e hk => by
  subst e
  have ex := b7 (h := s.heap) { cls := .type "list", data := .seq (strValues l).toArray }
  exact hQ _ _ _ _ tk (hk s.heap.objs.size) (kH S ex dS ⟨_, Heap.get?_push_size _ rfl⟩ (AC l)) (.ref _) (bc.of_ext ex)
 refine wB r hf (fun d hf v r1 => ec r1 hf fun x hf t => ?_) (fun d e hf v w r1 r2 => ec r1 hf fun x hf t => ec r2 hf fun y hf u => ?_) fun _ _ _ q => q.elim
 ·refine call_meets PySem.F.slot_str_split (typeIs_str _ _ _) PySem.F.entry_str_split (PySem.F.args_str_split_1 _) (meets_str_split_space x t hf.1 hf.2.1) ?_
  cases hw : Builtin.Str.spaceWords x (x.length + 1) == [(0, x.length)]
  ·rw [if_neg Bool.false_ne_true, strsFrom_eq]
   exact fin (numbered s.toks (PySem.wordsOf x)) _ _ ((numbered_texts _ _).trans (if_neg (ne_true_of_eq_false hw)).symm) hf.2.2
  ·rw [if_pos rfl]
   exact fin [(x, t)] _ _ (if_pos hw).symm hf.2.2
 ·obtain ⟨h0, h1, h2, h3⟩ := hf
  cases q1 : (decide (x.length < y.length) || decide (Builtin.Str.strKind x < Builtin.Str.strKind y))
  ·cases q2 : (Builtin.Str.occurrences x y 0 x.length (x.length + 1)).isEmpty
   ·refine call_meets PySem.F.slot_str_split (typeIs_str _ _ _) PySem.F.entry_str_split (PySem.F.args_str_split_2 _ _) (meets_str_split_sep x y t u q1 h0 q2 h1 h2) ?_
    rw [strsFrom_eq]
    exact fin (numbered s.toks _) _ _ ((numbered_texts _ _).trans ((if_neg (ne_true_of_eq_false q1)).trans (if_neg (ne_true_of_eq_false q2))).symm) h3
   ·exact call_meets PySem.F.slot_str_split (typeIs_str _ _ _) PySem.F.entry_str_split (PySem.F.args_str_split_2 _ _) (meets_str_split_not_found x y t u q1 h0 q2)
     (fin [(x, t)] _ _ ((if_neg (ne_true_of_eq_false q1)).trans (if_pos q2)).symm h3)
  ·exact call_meets PySem.F.slot_str_split (typeIs_str _ _ _) PySem.F.entry_str_split (PySem.F.args_str_split_2 _ _) (meets_str_split_cannot_occur x y t u q1)
    (fin [(x, t)] _ _ (if_pos q1).symm h3)
end
end
section
section
variable {p : P} {c : Cx} {n : Nat} {X : XR}
theorem tH : BF p (.type "str") qZ := fun c A n base σ s vs ds k Q E R S r hf hQ =>
 mr r hf fun d hf v r => fK r hf nE (fun a hf t => PySem.P.str_of_int hf.1 (hQ _ σ _ s.heap _ hf.2 S (.str _ _) (bc.refl _))) (fun x hf t => PySem.P.str_of_str (hQ _ σ _ s.heap s.toks hf S (.str _ _) (bc.refl _))) nE nE
theorem Eo {h : Heap} {ds : List D} : ∀ {vs : List Value} {xs : List Str}, bo h vs ds → j5 ds = some xs → ∃ l : List (Str × Tok), strValues l = vs ∧ l.map (·.1) = xs := by
 induction ds with
 | nil =>
  intro vs xs r e
  cases r.nil_inv
  exact ⟨[], rfl, Option.some.inj e⟩
 | cons d ds ih =>
  intro vs xs r e
  obtain ⟨v, ws, rfl, r1, rs⟩ := bo.cons_inv r
  cases d with
  | str i =>
   obtain ⟨t, rfl⟩ := df.str_inv r1
   obtain ⟨ms, e2, rfl⟩ := Option.map_eq_some_iff.mp e
   exact (ih rs e2).elim fun l h => ⟨(i, t) :: l, congrArg (Value.str i t :: ·) h.1, congrArg (i :: ·) h.2⟩
  | _ => cases e
noncomputable def mx (j : MS → Nat) : qW := fun ds σ k => b2 ds fun d e => o5 d fun x => jo e σ.st[j σ]? fun _ es => jn (j5 es) fun xs => JoinOk x xs = true ∧ k (.str (Txt.join x xs)) σ
theorem s7 {j : MS → Nat} : BF p (.builtin "str.join") (mx j) := fun c A n base σ s vs ds k Q E R S r hf hQ =>
 tn r hf fun d e hf v w r1 r2 => ec r1 hf fun x hf t => dT S r2 hf fun a es hf e ws hl rs => cK hf fun xs hf e2 => (Eo rs e2).elim fun l q =>
  SC.join (l := l) (texts := xs) (q.1 ▸ hl.isList) q.2 hf.1 fun t' k' => hQ _ σ _ s.heap k' hf.2 S (.str _ _) (bc.refl _)
noncomputable def zF (j : MS → Nat) : qW := fun ds σ k => b2 ds fun d e => gj e fun i => jo d σ.st[j σ]? fun _ es => es.length < 2 ^ 62 ∧ jn (lf es) fun ns => jn (ns.findIdx? (· == i)) fun m => k (.int m) σ
theorem my {vs : List Value} {ns : List Int} (h : IntsAre vs ns) : ∀ (i : Nat) (v : Value), vs[i]? = some v → ∃ x t, ns[i]? = some x ∧ v = .int x t := by
 induction h with
 | nil => intro i v e; simp at e
 | cons n t _ ih =>
  intro i v e
  cases i with
  | zero => simp at e; exact ⟨n, t, rfl, e.symm⟩
  | succ i => simpa using ih i v (by simpa using e)
theorem CQ {j : MS → Nat} : BF p (.builtin "list.index") (zF j) := fun c A n base σ s vs ds k Q E R S r hf hQ =>
 tn r hf fun d e hf v w r1 r2 => bL r2 hf fun i hf t => dT S r1 hf fun a es hf e ws hl rs => cK hf.2 fun ns h2 e2 => cK h2 fun m h2 e3 => hl.elim fun q ho => by
  have hi := nP rs e2
  have hlen := rs.length
  obtain ⟨x1, x2, x3⟩ := List.findIdx?_eq_some_iff_getElem.mp e3
  have hnl : ws.length = ns.length := hi.length
  have hm : m < ws.toArray.size := by rw [List.size_toArray, hnl]; exact x1
  have at_ : ∀ (y : Nat) (hy : y < ws.toArray.size) (hy2 : y < ns.length), isInt i ws.toArray[y] = (ns[y] == i) := fun y hy hy2 => by
   obtain ⟨x, t', g1, g2⟩ := my hi y ws.toArray[y] (by simp)
   rw [g2, Option.some.inj ((List.getElem?_eq_getElem hy2).symm.trans g1)]; rfl
  exact call_meets PySem.F.slot_list_index ⟨_, ho, rfl⟩ PySem.F.entry_list_index (PySem.F.args_list_index_2 _ _) (MeetsSeq.list_index a ws.toArray q (.int i t) (isInt i) (fun y hy => eq_isInt i t hi y (by simpa using hy)) m hm (by rw [List.size_toArray, hlen] at hm; have := hf.1; lia)
   ((at_ m hm x1).trans x2) (fun y hy hy' => (at_ y hy (Nat.lt_trans hy' x1)).trans (by simpa using x3 y hy'))) ⟨ho, hQ _ σ _ s.heap _ h2 S (.int _ _) (bc.refl _)⟩
noncomputable def rc (x : Str) : List D := x.cps.toList.map fun c => .str ⟨#[c]⟩
theorem Gy {p : P} {I : Addr} {x : Str} {t : Tok} {ty : String} (hty : ty = "str_ascii_iterator" ∨ ty = "str_iterator") : Wk p I (rc x) (fun _ => True) (fun i h => h.IsStrIter I ty x t i) where
 item := fun A m i s d Q E R st hd hQ => by
  unfold rc at hd
  rw [List.getElem?_map, Option.map_eq_some_iff] at hd
  obtain ⟨c, hc, rfl⟩ := hd
  rcases hty with rfl | rfl
  ·exact wpAny_pyNext_ascii_item st (c := c) (by simpa using hc) fun h' hit' hs' => hQ _ h' _ (.str _ _) hit' fun b o hb e => hs'.extBut b o hb e
  ·exact wpAny_pyNext_wide_item st (c := c) (by simpa using hc) fun h' hit' hs' => hQ _ h' _ (.str _ _) hit' fun b o hb e => hs'.extBut b o hb e
 done := fun A m s Q E R st hQ => by
  rcases hty with rfl | rfl
  ·exact wpAny_pyNext_ascii_end R.hd st (by simp [rc]) fun h' he' => hQ h' s.toks fun b o hb e => he' b o hb e
  ·exact wpAny_pyNext_wide_end R.hd st (by simp [rc]) fun h' he' => hQ h' s.toks fun b o hb e => he' b o hb e
 self := fun A i s Q E st h => by
  rcases hty with rfl | rfl
  ·exact wpAny_pyIter_striter_ascii st h
  ·exact wpAny_pyIter_striter_wide st h
 own0 := fun i h st => by
  obtain ⟨o, e, hc, hd⟩ := st
  rcases hty with rfl | rfl
  ·exact ⟨o, _, _, _, _, e, hc, hd, rfl, by decide, by decide⟩
  ·exact ⟨o, _, _, _, _, e, hc, hd, rfl, by decide, by decide⟩
 ext := fun i h h' st hk => let ⟨o, e, r⟩ := st; ⟨o, hk _ _ e, r⟩
 fr := fun i h h' st g hI hS => let ⟨o, e, r⟩ := st; ⟨o, hI _ e, r⟩
noncomputable def rZ (f : EC) : IC := fun σ k => f σ fun d σ1 => o5 d fun x => k (fun _ => True) (rc x) σ1
theorem Gz {e : Expr} {f : EC} (he : Ev p c n e f) : E3 p c n e (rZ f) := fun A base σ s k Q E R S hf hQ => by
 refine he A base σ s _ _ E R S hf fun d σ1 v h1 t1 hk S1 r1 g1 => ec r1 hk fun x hk t => ?_
 have nn := S1.new_none (dS (h := h1))
 have fin : ∀ ty, (ty = "str_ascii_iterator" ∨ ty = "str_iterator") → Q (.ref h1.objs.size) { s with heap := h1.push { cls := .type ty, data := .fields #[.str x t, .int 0 0] }, toks := t1 } := fun ty h => by
  have ex := b7 (h := h1) { cls := .type ty, data := .fields #[.str x t, .int 0 0] }
  exact hQ _ _ σ1 h1.objs.size _ t1 _ _ hk (S1.ext ex) (g1.trans (bc.of_ext ex)) (Gy (t := t) h) ⟨_, Heap.get?_push_size _ rfl, rfl, rfl⟩ nn.1 nn.2.1 nn.2.2 fun _ _ _ _ => trivial
 cases ha : x.cps.all (· < 128)
 ·exact wpAny_pyIter_wide ha (fin _ (.inr rfl))
 ·exact wpAny_pyIter_ascii ha (fin _ (.inl rfl))
noncomputable def bE (fs : oy) : IC := fun σ k => fs σ fun ds σ1 => aC ds (fun d => gj d fun b => (-(2 ^ 60) ≤ b ∧ b < 2 ^ 60) ∧ k (fun _ => True) (db 0 1 b.toNat) σ1)
 (fun d e => gj d fun a => gj e fun b => (-(2 ^ 60) ≤ a ∧ a < 2 ^ 60) ∧ (-(2 ^ 60) ≤ b ∧ b < 2 ^ 60) ∧ k (fun _ => True) (db a 1 (b - a).toNat) σ1)
 (fun d e f => gj d fun a => gj e fun b => gj f fun c => c = -1 ∧ (-(2 ^ 60) ≤ a ∧ a < 2 ^ 60) ∧ (-(2 ^ 60) ≤ b ∧ b < 2 ^ 60) ∧ k (fun _ => True) (db a (-1) (a - b).toNat) σ1)
theorem FF {a : Int} (h : -(2 ^ 60) ≤ a) : -(2 ^ 62) ≤ a := Int.le_trans (by decide) h
theorem FG {a : Int} (h : a < 2 ^ 60) : a < 2 ^ 62 := Int.lt_of_lt_of_le h (by decide)
theorem yg {a b : Int} (ha : -(2 ^ 60) ≤ a) (ha' : a < 2 ^ 60) (hb : -(2 ^ 60) ≤ b) (hb' : b < 2 ^ 60) : Builtin.Range.small a b (-1) = true ∧ Builtin.Range.rangeSize a b (-1) = ((a - b).toNat : Int) := by
 have e : Builtin.Range.rangeSize a b (-1) = ((a - b).toNat : Int) := by
  unfold Builtin.Range.rangeSize
  rw [if_neg (by decide)]
  split
  ·simp only [Int.neg_neg, Int.ediv_one]; lia
  ·lia
 refine ⟨?_, e⟩
 unfold Builtin.Range.small
 rw [e]
 simp only [Builtin.Range.rangeFitsLong]
 rw [if_neg (by decide)]
 simp only [Bool.and_eq_true, Bool.or_eq_true, beq_iff_eq, decide_eq_true_eq]
 have hab : a - b < 2 ^ 63 := Int.lt_of_lt_of_le (Int.sub_lt_sub_of_lt_of_le ha' hb) (by decide)
 exact ⟨⟨⟨⟨⟨Fh ha, Fi ha'⟩, Fh hb, Fi hb'⟩, by decide, by decide⟩, Int.le_trans (by decide) (Int.natCast_nonneg _), by rw [Int.toNat_eq_max]; exact Int.max_lt.mpr ⟨hab, by decide⟩⟩, .inr ⟨by rw [show (-1 : Int) + 1 = 0 from rfl, Int.add_zero]; exact Fh hb, by rw [show (-1 : Int) + 1 = 0 from rfl, Int.add_zero]; exact Fi hb'⟩⟩
theorem fh {x : Str} {np pos : Pos} {args : List Expr} {fs : oy} (hx : c.env.kindOf x = some .globalImplicit) (hg : c.env.globals = mainGlobals) (hb : c.env.builtins = builtinsNs) (hm : p.mg x = none) (hv : bootBuiltins x = some (.type "range"))
  (hs : xQ p c n args fs) (hp : autoParam (∀ pos, (backTo pos (starEach args c.env)).any (·.1) = false) aI) (hn : autoParam (x ≠ "__name__") aD) (hd : autoParam ((x == ("__debug__" : Str)) = false) aD) : E3 p c n (.Call (.Name x np) args [] pos) (bE fs) := fun A base σ s k Q E R S hf' hQ => by
 refine wpAny_Call_NameR (iP S hx hg hb hm hv ?_ hn hd)
 refine bT (Pr := fun _ => True) (hp pos) (dh (by intro a h; cases h)) ?_
 refine hs A base σ s _ pos _ E R S hf' fun ds σ1 vs h1 t1 hk1 S1 r1 g1 => ⟨trivial, ?_⟩
 have fin : ∀ (a b c : Int) (m : Nat) (t u v : Tok) (tk : Nat), Builtin.Range.small a b c = true → Builtin.Range.rangeSize a b c = (m : Int) → k (fun _ => True) (db a c m) σ1 →
   wpAny (model p.prog p.w) A (pyIter (.ref h1.objs.size)) Q E { s with heap := h1.push { cls := .type "range", data := .fields #[.int a t, .int b u, .int c v] }, toks := tk } := fun a b c m t u v tk hsm hsz hk => by
  have ex := b7 (h := h1) { cls := .type "range", data := .fields #[.int a t, .int b u, .int c v] }
  refine wpAny_pyIter_range (t := t) (u := u) (v := v) (Heap.get?_push_size _ rfl) hsm ?_
  rw [hsz]
  have S2 := S1.ext ex
  generalize hh : h1.push { cls := .type "range", data := .fields #[.int a t, .int b u, .int c v] } = h2 at *
  have ex2 := b7 (h := h2) { cls := .type "range_iterator", data := .fields #[rawInt a, rawInt (m : Int), rawInt c] }
  have nn := S2.new_none (dS (h := h2))
  refine hQ _ _ σ1 h2.objs.size _ tk _ _ hk (S2.ext ex2) ((g1.trans (bc.of_ext ex)).trans (bc.of_ext ex2)) (Eh (a := a) (c := c) (n := m)) ⟨Nat.zero_le _, ?_⟩ nn.1 nn.2.1 nn.2.2 fun _ _ _ _ => trivial
  have e1 : a + ((0 : Nat) : Int) * c = a := by simp
  have e2 : (m : Int) - ((0 : Nat) : Int) = m := by simp
  rw [e1, e2]
  exact Heap.get?_push_size _ rfl
 refine wB r1 hk1 (fun d hk1 v r1 => bL r1 hk1 fun b hk t => ?_) (fun d e hk1 v w r1 r2 => bL r1 hk1 fun a hk1 t => bL r2 hk1 fun b hk u => ?_)
  fun d e f hk1 v w x r1 r2 r3 => bL r1 hk1 fun a hk1 t => bL r2 hk1 fun b hk1 u => bL r3 hk1 fun c hk v => ?_
 ·exact call_range_1 (fin 0 _ 1 _ _ _ _ _ (small_one (by decide) (by decide) (FF hk.1.1) (FG hk.1.2)) (by rw [rangeSize_nat]; simp) hk.2)
 ·exact call_range_2 (fin _ _ 1 _ _ _ _ _ (small_one (FF hk.1.1) (FG hk.1.2) (FF hk.2.1.1) (FG hk.2.1.2)) (by rw [rangeSize_nat]) hk.2.2)
 ·obtain ⟨rfl, h1, h2, hk⟩ := hk
  have q := yg h1.1 h1.2 h2.1 h2.2
  exact call_range_3 (by decide) (fin _ _ (-1) _ _ _ _ _ q.1 q.2 hk) (Or.inl (PyProof.noPylong_small (by decide)))
noncomputable def tI (f : EC) : EC := fun σ k => f σ fun d σ1 => dC d nK (fun i => i.natAbs.log2 < 1920 ∧ k (.str (Str.ofString (toString i))) σ1) (fun x => x.length ≤ sizeLine ∧ k (.str x) σ1) nK nK
theorem r6 {e : Expr} {pos : Pos} {f : EC} (he : Ev p c n e f) : Ev p c n (.FormattedValue e (-1) none pos) (tI f) := fun A base σ s k Q E R S hf hQ =>
 wpAny_FormattedValue_plain (he A base σ s _ _ E R S hf fun d σ1 v h1 t1 hk S1 r1 g1 => fK r1 hk nE (fun i hk t => PySem.wpAny_formatField_int hk.1 (hQ _ σ1 _ h1 _ hk.2 S1 (.str _ _) g1))
  (fun x hk t => formatField_str (fun t' tk => hQ _ σ1 _ h1 tk hk.2 S1 (.str _ _) g1) hk.1) nE nE)
noncomputable def GZ (p : P) (c : Cx) (n : Nat) (es : List Expr) (F : Str → EC) : Prop :=
 ∀ (A : Around) (base : Heap) (σ : MS) (s : Shared) (acc : Str) (k : D → MS → Prop) (Q E : _), HN A n → cJ p c base σ s.heap → F acc σ k →
  (∀ d σ' v h' tk, k d σ' → cJ p c base σ' h' → df h' v d → bc s.heap h' → Q v { s with heap := h', toks := tk }) → wpAny (model p.prog p.w) A (joinParts acc (evalEach es c.env)) Q E s
noncomputable def CR : Str → EC := fun acc σ k => acc.length ≤ sizeLine ∧ k (.str acc) σ
noncomputable def hJ (f : EC) (F : Str → EC) : Str → EC := fun acc σ k => f σ fun d σ1 => o5 d fun y => (acc ++ y).length ≤ sizeLine ∧ F (acc ++ y) σ1 k
theorem E5 : GZ p c n [] CR := fun A base σ s acc k Q E R S hf hQ => joinParts_nil (hQ _ σ _ s.heap _ hf.2 S (.str _ _) (bc.refl _)) hf.1
theorem gl {e : Expr} {es : List Expr} {f : EC} {F : Str → EC} (he : Ev p c n e f) (hs : GZ p c n es F) : GZ p c n (e :: es) (hJ f F) := fun A base σ s acc k Q E R S hf hQ => by
 show wpAny _ A (joinParts acc (eval e c.env :: evalEach es c.env)) Q E s
 refine joinParts_cons (he A base σ s _ _ E R S hf fun d σ1 v h1 t1 hk S1 r1 g1 => ?_)
 exact ec r1 hk fun y hk t => ⟨hk.1, hs A base σ1 _ _ _ _ E R S1 hk.2 fun d σ2 v h2 t2 hk2 S2 r2 g2 => hQ d σ2 v h2 t2 hk2 S2 r2 (g1.trans g2)⟩
noncomputable def s8 (F : Str → EC) : EC := F Str.empty
theorem yh {v1 v2 : Expr} {rest : List Expr} {pos : Pos} {F : Str → EC} (h : GZ p c n (v1 :: v2 :: rest) F) : Ev p c n (.JoinedStr (v1 :: v2 :: rest) pos) (s8 F) := fun A base σ s k Q E R S hf hQ =>
 JoinedStr_many (h A base σ s Str.empty k Q E R S hf hQ)
end
end
section
section
variable {p : P} {c : Cx} {n : Nat} {X : XR}
noncomputable def Gg (p : P) (c : Cx) (n : Nat) (e : Expr) (f : EC) : Prop :=
 ∀ (A : Around) (base : Heap) (σ : MS) (s : Shared) (k : D → MS → Prop) (Q E : _), HN A n → cJ p c base σ s.heap → 1 ≤ s.toks → f σ k →
  (∀ d σ' v h' tk, 1 ≤ tk → k d σ' → cJ p c base σ' h' → df h' v d → bc s.heap h' → Q v { s with heap := h', toks := tk }) → wpAny (model p.prog p.w) A (eval e c.env) Q E s
theorem Ev.toP {e : Expr} {f : EC} (h : Ev p c n e f) : Gg p c n e f := fun A base σ s k Q E R S ht hf hQ =>
 wpAny_with_toks ht (h A base σ s k _ _ R S hf fun d σ' v h' tk hk S' r g htk => hQ d σ' v h' tk htk hk S' r g)
noncomputable def lT (y z : Str) (f : EC) : EC := fun σ k => f σ fun d σ1 => o5 d fun x => x.length + (x.length + 1) * z.length ≤ 16777216 ∧ k (.str (Txt.replace x y z)) σ1
theorem AD {e : Expr} {apos pos p1 p2 : Pos} {k1 k2 : _} {y z : Str} {f : EC} {pl : Sem Bool} (he : Gg p c n e f) (hyz : (y == z) = false)
  (hev : autoParam (eval (.Call (.Attribute e "replace" apos) [.Constant (.str y) k1 p1, .Constant (.str z) k2 p2] [] pos) c.env = (do
   let ov ← eval e c.env
   standAt apos.atName
   let (f, first) ← holding [ov] (getMethod ov "replace" pl)
   callWith pos f first (backTo pos (starEach [.Constant (.str y) k1 p1, .Constant (.str z) k2 p2] c.env)) [])) aR) :
  Gg p c n (.Call (.Attribute e "replace" apos) [.Constant (.str y) k1 p1, .Constant (.str z) k2 p2] [] pos) (lT y z f) := fun A base σ s k Q E R S ht hf hQ => by
 refine MethodCall_ (pl := pl) (he A base σ s _ _ E R S ht hf fun d σ1 v h1 t1 ht1 hk1 S1 r1 g1 => ?_) hev
 refine ec r1 hk1 fun x hk1 t => GM.replace ?_
 refine bT (Pr := fun _ => True) rfl (dh (by intro a h; cases h)) ?_
 refine spliced_more (pos := pos) (rest := [.Constant (.str z) k2 p2]) (wpAny_Constant_str ?_) rfl
 refine spliced_more (pos := pos) (rest := []) (wpAny_Constant_str ?_) rfl
 refine spliced_none ⟨trivial, ?_⟩
 show wpAny _ A (call (.builtin "str.replace") [.str x t, .str y t1, .str z (t1 + 1)]) Q E { s with heap := h1, toks := t1 + 1 + 1 }
 refine wpAny_with_toks (n := 1) (by show 1 ≤ t1 + 1 + 1; lia) (SC.replace (by show t1 ≠ 0; lia) (by show t1 + 1 ≠ 0; lia) (by show t1 ≠ t1 + 1; lia) hyz hk1.1 fun t' k' htk => ?_)
 exact hQ _ σ1 _ h1 k' htk hk1.2 S1 (.str _ _) g1
theorem Bm {e : Expr} {name : Str} {apos pos : Pos} {id : String} {o : qW} {fo : EC} {pl : Sem Bool} (ho : BF p (.builtin id) o) (slot : Slot "str" name id) (ty : typeOf (.builtin id) = pure (.type "method_descriptor")) (he : Gg p c n e fo)
  (hev : autoParam (eval (.Call (.Attribute e name apos) [] [] pos) c.env = (do
   let ov ← eval e c.env
   standAt apos.atName
   let (f, first) ← holding [ov] (getMethod ov name pl)
   callWith pos f first (backTo pos (starEach [] c.env)) [])) aR) : Gg p c n (.Call (.Attribute e name apos) [] [] pos) (bq o fo ad) := fun A base σ s k Q E R S ht hf hQ => by
 refine MethodCall_ (pl := pl) (he A base σ s _ _ E R S ht hf fun d σ1 v h1 t1 ht1 hk1 S1 r1 g1 => ?_) hev
 refine ec r1 hk1 fun x hk1 t => GM.of (.str x t) (typeIs_str _ _ _) slot ty GM.noRef ?_
 refine bT (Pr := fun _ => True) rfl (dh (by intro a h; cases h)) ?_
 refine spliced_none ⟨trivial, ?_⟩
 refine wpAny_with_toks (n := 1) ht1 (ho c A n base σ1 { s with heap := h1, toks := t1 } [.str x t] _ k _ _ R S1 (.cons (.str x t) .nil) hk1 fun d σ' v h' tk hk3 S3 r3 g3 htk => hQ d σ' v h' tk htk hk3 S3 r3 (g1.trans g3))
noncomputable def GA (p : P) (c : Cx) (n : Nat) (e : Expr) (f : IC) : Prop :=
 ∀ (A : Around) (base : Heap) (σ : MS) (s : Shared) (k : (MS → Prop) → List D → MS → Prop) (Q E : _), HN A n → cJ p c base σ s.heap → 1 ≤ s.toks → f σ k →
  (∀ (d7 : MS → Prop) (all : List D) (σ' : MS) (I : Addr) (h' : Heap) (tk : Nat) (Src : Heap → Prop) (St : Nat → Heap → Prop), k d7 all σ' → cJ p c base σ' h' → bc s.heap h' → Wk p I all Src St → St 0 h' → base.get? I = none → I ∉ c.fa → I ∉ σ'.feet →
   (∀ (σ'' : MS) (h'' : Heap), (∀ q ∈ σ''.st, dN p h'' q.1 q.2) → d7 σ'' → Src h'') → Q (.ref I) { s with heap := h', toks := tk }) →
  wpAny (model p.prog p.w) A (eval e c.env) (fun x s1 => wpAny (model p.prog p.w) A (pyIter x) Q E s1) E s
theorem Ep {e : Expr} {f : EC} {j : MS → Nat} (he : Gg p c n e f) : GA p c n e (bR j f) := fun A base σ s k Q E R S ht hf hQ =>
 he A base σ s _ _ E R S ht hf fun d σ1 v h1 t1 ht1 hk S1 r1 g1 => vP S1 r1 g1 hk hQ
noncomputable def Hw (p : P) (c : Cx) (X : XR) (n : Nat) (st : Stmt) (f : SC) : Prop :=
 ∀ (A : Around) (base : Heap) (σ : MS) (s : Shared) (k : Fl → MS → Prop) (Q E : _), tv c A n → cJ p c base σ s.heap → 1 ≤ s.toks → f σ k →
  (∀ fl σ' v h' tk, k fl σ' → cJ p c base σ' h' → Cq h' v fl → bc s.heap h' → Q v { s with heap := h', toks := tk }) →
  (∀ σ' x h' tk, k .exc σ' → X A base x h' → E x { s with heap := h', toks := tk }) → wpAny (model p.prog p.w) A (exec st c.env) Q E s
theorem FH {x : Str} {i : Nat} (hl : tw c x i) (A : Around) (base : Heap) (σ : MS) (s : Shared) (v : Value) (d : D) (k : MS → Prop) (Q : Unit → Shared → Prop) (E : Value → Shared → Prop) (S : cJ p c base σ s.heap) (r : df s.heap v d) (hf : aL i d σ k)
  (hQ : ∀ σ' h' tk, 1 ≤ tk → k σ' → cJ p c base σ' h' → bc s.heap h' → Q () { s with heap := h', toks := tk }) : wpAny (model p.prog p.w) A (storeName c.env x v) Q E s := by
 have hlm : eE.ns c.env.locals x ∈ c.locs := HM hl.2
 obtain ⟨⟨m, hm⟩, _⟩ := S.frm _ hlm
 refine wpAny_storeName_local hl.1 hm (fun h' hn hs => ?_) (by rw [S.kind]; rfl)
 have ho : ∀ l' ∈ c.locs, l' ≠ eE.ns c.env.locals x → ∀ u, l'.At s.heap u → l'.At h' u := fun l' hl' hne u hu => by
  cases l' with
  | ns b y =>
   obtain ⟨m', hm', hy⟩ := hu
   by_cases hb : b = c.env.locals
   ·subst hb
    obtain rfl := Cs hm hm'
    refine ⟨_, hn, ?_⟩
    rw [if_neg (fun e => hne (by rw [e]))]; exact hy
   ·exact ⟨m', hm'.sameBut hs hb, hy⟩
  | cell b =>
   by_cases hb : b = c.env.locals
   ·subst hb; exact (nN hm hu).elim
   ·exact Heap.IsCell.sameBut hu hs hb
 have hk : ∀ l' ∈ c.locs, l'.Ok h' := fun l' hl' => by
  obtain ⟨hok, _⟩ := S.frm l' hl'
  cases l' with
  | ns b y =>
   by_cases hb : b = c.env.locals
   ·subst hb; exact ⟨_, hn⟩
   ·obtain ⟨m', hm'⟩ := hok; exact ⟨m', hm'.sameBut hs hb⟩
  | cell b =>
   obtain ⟨u, hu⟩ := hok
   by_cases hb : b = c.env.locals
   ·subst hb; exact (nN hm hu).elim
   ·exact ⟨u, Heap.IsCell.sameBut hu hs hb⟩
 obtain ⟨S', g⟩ := S.setLoc (i := i) (d := d) (v := v) hl.2 r ⟨_, hn, if_pos rfl⟩ ho hk hs
 exact hQ _ h' (s.toks + 1) (by lia) hf S' g
theorem Er {target iter : Expr} {body : List Stmt} {pos : Pos} {fi : IC} {g : GC} {fb : SC} (hX : vQ p c X) (hi : GA p c n iter fi) (hg : As p c n target g) (hb : iZ p c X n body fb)
  (hs : autoParam (∀ x, foldedSetIterable iter c.env x = pure x) aI) : Hw p c X n (.For target iter body [] pos) (mt fi g fb) := fun A base σ s k Q E R S ht hf hQ hE => by
 refine wpAny_For (hi A base σ s _ _ E R.1 S ht hf fun d7 all σ1 I h1 t1 Src St hk S1 g1 W hst hI hIf hIs hsrc => ?_) hs
 exact tA hX hg hb (fun base σ h S => ⟨S, fun _ h => h⟩) R S1 W hst hI hIf hIs hsrc hk (fun fl σ' v h' tk hk2 S2 r2 g2 => hQ fl σ' v h' tk hk2 S2 r2 (g1.trans g2)) fun σ' x h' tk hk2 hx => hE σ' x h' tk hk2 hx
theorem CS {x : Str} {pos' pos : Pos} {e : Expr} {st : Stmt} {rest : List Stmt} {i : Nat} {f : EC} {g h : SC} (he : Ev p c n e f) (hl : tw c x i) (h2 : Hw p c X n st g) (h3 : iZ p c X n rest h)
  (hs : autoParam (swapsWith e (some (.Name x pos')) pos.line c.env = pure false) aR) : iZ p c X n (.Assign [.Name x pos'] e pos :: st :: rest) (aj (ba f (aL i)) (aj g h)) := fun A base σ s k Q E R S hf hQ hE => by
 refine wpAny_execs_cons (wpAny_Assign_Name (he A base σ s _ _ E R.1 S hf fun d σ1 v h1 t1 hk1 S1 r1 g1 => ?_) hs)
 refine FH hl A base σ1 { s with heap := h1, toks := t1 } v d _ _ _ S1 r1 hk1 fun σ2 hh2 t2 ht hk2 S2 g2 => ?_
 refine wpAny_execs_cons (h2 A base σ2 _ _ _ E R S2 ht hk2 (fun fl σ3 v3 hh3 t3 hk3 S3 r3 g3 => ?_) fun σ' x h' tk hk hx => hE σ' x h' tk hk hx)
 have gg := (g1.trans g2).trans g3
 cases r3 with
 | next => exact h3 A base σ3 _ _ _ E R S3 hk3 (fun fl σ4 v hh4 t4 hk4 S4 r4 g4 => hQ fl σ4 v hh4 t4 hk4 S4 r4 (gg.trans g4)) fun σ' x h' tk hk2 hx => hE σ' x h' tk hk2 hx
 | brk => exact hQ _ σ3 _ hh3 t3 hk3 S3 .brk gg
 | cont => exact hQ _ σ3 _ hh3 t3 hk3 S3 .cont gg
 | ret r => exact hQ _ σ3 _ hh3 t3 hk3 S3 (.ret r) gg
end
end
noncomputable def iR {α : Type} (cmp : Nat → Nat → Bool) : KasT α → α
 | .ret a => a
 | .ask i j k => iR cmp (k (cmp i j))
noncomputable def gm {α : Type} (n : Nat) : KasT α → Bool
 | .ret _ => true
 | .ask i j k => decide (i < n) && decide (j < n) && gm n (k true) && gm n (k false)
theorem tJ {α : Type} {n i j : Nat} {k : Bool → KasT α} (hb : gm n (.ask i j k) = true) : i < n ∧ j < n ∧ ∀ b, gm n (k b) = true := by
 simp only [gm, Bool.and_eq_true, decide_eq_true_eq] at hb
 exact ⟨hb.1.1.1, hb.1.1.2, fun b => Bool.rec hb.2 hb.1.2 b⟩
theorem zG {α : Type} {n : Nat} {cmp : Nat → Nat → Bool} {cmpS : Nat → Nat → (Bool → Shared → Prop) → Shared → Prop} {s : Shared} (hc : ∀ i j, i < n → j < n → ∀ C, C (cmp i j) s → cmpS i j C s) {Q : α → Shared → Prop} (t : KasT α) : gm n t = true → Q (iR cmp t) s → t.kasWp cmpS Q s := by
 induction t with
 | ret a => exact fun _ h => h
 | ask i j k ih =>
  intro hb h
  have hb := tJ hb
  exact hc i j hb.1 hb.2.1 _ (ih _ (hb.2.2 _) h)
theorem yi {α : Type} {n : Nat} {c c' : Nat → Nat → Bool} (h : ∀ i j, i < n → j < n → c i j = c' i j) (t : KasT α) : gm n t = true → iR c t = iR c' t := by
 induction t with
 | ret a => exact fun _ => rfl
 | ask i j k ih =>
  intro hb
  have hb := tJ hb
  show iR c (k (c i j)) = iR c' (k (c' i j))
  rw [h i j hb.1 hb.2.1]
  exact ih _ (hb.2.2 _)
noncomputable def zH (b : Nat → Nat → Bool) : Nat → Nat → Bool := fun i j => if i < j then b i j else if j < i then !(b j i) else false
noncomputable def wI (n : Nat) (c : Nat → Nat → Bool) : Bool := (List.range n).all fun i => (List.range n).all fun j => (List.range n).all fun k => !(c i j && c j k) || c i k
noncomputable def tK (c : Nat → Nat → Bool) : List Nat → Bool
 | [] => true
 | [_] => true
 | a :: b :: r => c a b && tK c (b :: r)
noncomputable def d7 (n : Nat) (c : Nat → Nat → Bool) : Bool := !(wI n c) || (let p := (iR c (kas_sort n)).toList; p.isPerm (List.range n) && tK c p)
theorem FI : gm 2 (kas_sort 2) = true := by decide +kernel
theorem FJ : gm 3 (kas_sort 3) = true := by decide +kernel
theorem FK : gm 4 (kas_sort 4) = true := by decide +kernel
theorem FL : gm 5 (kas_sort 5) = true := by decide +kernel
noncomputable def tb (a b c d e f g h i j : Bool) : Nat → Nat → Bool
 | 0, 1 => a | 0, 2 => b | 1, 2 => c | 0, 3 => d | 1, 3 => e | 2, 3 => f | 0, 4 => g | 1, 4 => h | 2, 4 => i | 3, 4 => j
 | _, _ => false
theorem Hd : ∀ a b c d e f g h i j : Bool, d7 5 (zH (tb a b c d e f g h i j)) = true := by decide +kernel
theorem He : ∀ a b c d e f : Bool, d7 4 (zH (tb a b c d e f false false false false)) = true := by decide +kernel
theorem Hf : ∀ a b c : Bool, d7 3 (zH (tb a b c false false false false false false false)) = true := by decide +kernel
theorem Hg : ∀ a : Bool, d7 2 (zH (tb a false false false false false false false false false)) = true := by decide +kernel
theorem Bn {n : Nat} {c : Nat → Nat → Bool} (tr : ∀ i j k, i < n → j < n → k < n → c i j = true → c j k = true → c i k = true) : wI n c = true := by
 unfold wI
 simp only [List.all_eq_true, List.mem_range, Bool.or_eq_true, Bool.not_eq_true', Bool.and_eq_false_imp]
 intro i hi j hj k hk
 by_cases h1 : c i j = true
 ·by_cases h2 : c j k = true
  ·exact .inr (tr i j k hi hj hk h1 h2)
  ·exact .inl fun _ => by simpa using h2
 ·exact .inl fun h => absurd h h1
theorem zI {n : Nat} {c c' : Nat → Nat → Bool} (h : ∀ i j, i < n → j < n → c i j = c' i j) {l : List Nat} : (∀ x ∈ l, x < n) → tK c l = tK c' l := by
 induction l with
 | nil => exact fun _ => rfl
 | cons a l ih =>
  cases l with
  | nil => exact fun _ => rfl
  | cons b r =>
   intro hl
   show (c a b && tK c (b :: r)) = (c' a b && tK c' (b :: r))
   rw [h a b (hl a c8) (hl b (dP _ c8)), ih fun x hx => hl x (dP _ hx)]
structure mz (n : Nat) (c : Nat → Nat → Bool) : Prop where
 irr : ∀ i, i < n → c i i = false
 tot : ∀ i j, i < n → j < n → i < j → c j i = !c i j
 tr : ∀ i j k, i < n → j < n → k < n → c i j = true → c j k = true → c i k = true
theorem Es {n : Nat} {c c' : Nat → Nat → Bool} (S : mz n c) (he : ∀ i j, i < n → j < n → c i j = c' i j) (hb : gm n (kas_sort n) = true) (hc : d7 n c' = true) :
  (iR c (kas_sort n)).toList.Perm (List.range n) ∧ tK c (iR c (kas_sort n)).toList = true := by
 have ht : wI n c' = true := Bn fun i j k hi hj hk h1 h2 => by
  rw [← he i k hi hk]
  exact S.tr i j k hi hj hk (by rw [he i j hi hj]; exact h1) (by rw [he j k hj hk]; exact h2)
 unfold d7 at hc
 rw [ht] at hc
 simp only [Bool.not_true, Bool.false_or, Bool.and_eq_true] at hc
 rw [yi he _ hb]
 have hp := List.isPerm_iff.mp hc.1
 exact ⟨hp, by rw [zI he fun x hx => by simpa using hp.mem_iff.mp hx]; exact hc.2⟩
theorem GB {n : Nat} {c : Nat → Nat → Bool} (S : mz n c) {b : Nat → Nat → Bool} (h : ∀ i j, i < j → j < n → c i j = b i j) : ∀ i j, i < n → j < n → c i j = zH b i j := fun i j hi hj => by
 unfold zH
 rcases Nat.lt_trichotomy i j with h1 | h1 | h1
 ·rw [if_pos h1]; exact h i j h1 hj
 ·subst h1; simp [S.irr i hi]
 ·rw [if_neg (by lia), if_pos h1, ← h j i h1 hi]; exact S.tot j i hj hi h1
noncomputable def HD (n : Nat) : List (Nat × Nat) := (List.range n).flatMap fun j => (List.range j).map fun i => (i, j)
noncomputable def FM (Q : Nat → Nat → Prop) : List (Nat × Nat) → Prop
 | [] => True
 | q :: l => Q q.1 q.2 ∧ FM Q l
theorem CT {Q : Nat → Nat → Prop} {l : List (Nat × Nat)} : FM Q l → ∀ q ∈ l, Q q.1 q.2 := by
 induction l with
 | nil => exact fun _ _ h => (List.not_mem_nil h).elim
 | cons a l ih => exact fun h q hq => (HL hq).elim (fun e => e ▸ h.1) (ih h.2 q)
theorem nR {n : Nat} {c b : Nat → Nat → Bool} (S : mz n c) (hb : gm n (kas_sort n) = true) (hc : d7 n (zH b) = true) (h : FM (fun i j => c i j = b i j) (HD n)) :
  gm n (kas_sort n) = true ∧ (iR c (kas_sort n)).toList.Perm (List.range n) ∧ tK c (iR c (kas_sort n)).toList = true :=
 ⟨hb, Es S (GB S fun i j hij hj => CT h (i, j) (List.mem_flatMap.mpr ⟨j, List.mem_range.mpr hj, List.mem_map.mpr ⟨i, List.mem_range.mpr hij, rfl⟩⟩)) hb hc⟩
theorem FN {n : Nat} {c : Nat → Nat → Bool} (h2 : 2 ≤ n) (h5 : n ≤ 5) (S : mz n c) : gm n (kas_sort n) = true ∧ (iR c (kas_sort n)).toList.Perm (List.range n) ∧ tK c (iR c (kas_sort n)).toList = true := by
 rcases (by lia : n = 2 ∨ n = 3 ∨ n = 4 ∨ n = 5) with e | e | e | e <;> cases e
 ·exact nR S FI (Hg (c 0 1)) ⟨rfl, trivial⟩
 ·exact nR S FJ (Hf (c 0 1) (c 0 2) (c 1 2)) ⟨rfl, rfl, rfl, trivial⟩
 ·exact nR S FK (He (c 0 1) (c 0 2) (c 1 2) (c 0 3) (c 1 3) (c 2 3)) ⟨rfl, rfl, rfl, rfl, rfl, rfl, trivial⟩
 ·exact nR S FL (Hd (c 0 1) (c 0 2) (c 1 2) (c 0 3) (c 1 3) (c 2 3) (c 0 4) (c 1 4) (c 2 4) (c 3 4)) ⟨rfl, rfl, rfl, rfl, rfl, rfl, rfl, rfl, rfl, rfl, trivial⟩
structure gy (lt : Int → Int → Bool) (ns : List Int) : Prop where
 irr : ∀ x ∈ ns, lt x x = false
 tot : ∀ x ∈ ns, ∀ y ∈ ns, x ≠ y → lt y x = !lt x y
 tr : ∀ x ∈ ns, ∀ y ∈ ns, ∀ z ∈ ns, lt x y = true → lt y z = true → lt x z = true
 nd : ns.Nodup
theorem gy.to {lt : Int → Int → Bool} {ns : List Int} (S : gy lt ns) : mz ns.length (fun i j => lt (ns.getD i 0) (ns.getD j 0)) := by
 have g : ∀ i, i < ns.length → ns.getD i 0 ∈ ns := fun i hi => by
  rw [List.getD_eq_getElem?_getD, List.getElem?_eq_getElem hi]; exact List.getElem_mem hi
 refine ⟨fun i hi => S.irr _ (g i hi), fun i j hi hj h => S.tot _ (g i hi) _ (g j hj) fun e => ?_, fun i j k hi hj hk => S.tr _ (g i hi) _ (g j hj) _ (g k hk)⟩
 rw [List.getD_eq_getElem?_getD, List.getD_eq_getElem?_getD, List.getElem?_eq_getElem hi, List.getElem?_eq_getElem hj] at e
 have := (List.getElem_inj S.nd).mp e
 lia
theorem tL (ns : List Int) : (List.range ns.length).map (fun i => ns.getD i 0) = ns := by
 apply List.ext_getElem
 ·simp
 ·intro i h1 h2
  simp [h2]
noncomputable def jd (lt : Int → Int → Bool) (ns ns' : List Int) : Prop := ns'.Perm ns ∧ ns'.Pairwise (fun x y => lt x y = true)
theorem zJ {lt : Int → Int → Bool} {ns : List Int} (S : gy lt ns) {l : List Nat} : (∀ x ∈ l, x < ns.length) → tK (fun i j => lt (ns.getD i 0) (ns.getD j 0)) l = true → (l.map fun i => ns.getD i 0).Pairwise (fun x y => lt x y = true) := by
 induction l with
 | nil => exact fun _ _ => .nil
 | cons a l ih =>
  cases l with
  | nil => exact fun _ _ => List.pairwise_singleton _ _
  | cons b r =>
   intro hl h
   have h' := (Bool.and_eq_true _ _).mp (h : (lt (ns.getD a 0) (ns.getD b 0) && tK (fun i j => lt (ns.getD i 0) (ns.getD j 0)) (b :: r)) = true)
   have ih := ih (fun x hx => hl x (dP _ hx)) h'.2
   have g : ∀ i, i ∈ a :: b :: r → ns.getD i 0 ∈ ns := fun i hi => by
    rw [List.getD_eq_getElem?_getD, List.getElem?_eq_getElem (hl i hi)]; exact List.getElem_mem (hl i hi)
   refine .cons (fun x hx => (HL hx).elim (fun e => e ▸ h'.1) fun hx => ?_) ih
   obtain ⟨k, hk, rfl⟩ := List.mem_map.mp hx
   exact S.tr _ (g a c8) _ (g b (dP _ c8)) _ (g k (dP _ (dP _ hk))) h'.1 ((List.pairwise_cons.mp ih).1 _ hx)
theorem wJ {lt : Int → Int → Bool} {ns : List Int} (S : gy lt ns) (h2 : 2 ≤ ns.length) (h5 : ns.length ≤ 5) :
  gm ns.length (kas_sort ns.length) = true ∧ (∀ i ∈ (iR (fun i j => lt (ns.getD i 0) (ns.getD j 0)) (kas_sort ns.length)).toList, i < ns.length) ∧ jd lt ns ((iR (fun i j => lt (ns.getD i 0) (ns.getD j 0)) (kas_sort ns.length)).toList.map fun i => ns.getD i 0) := by
 obtain ⟨a, b, c⟩ := FN h2 h5 S.to
 refine ⟨a, fun x hx => by simpa using b.mem_iff.mp hx, ?_, zJ S (fun x hx => by simpa using b.mem_iff.mp hx) c⟩
 have := b.map fun i => ns.getD i 0
 rwa [tL] at this
theorem u8 {lt : Int → Int → Bool} {ns : List Int} (h : ns.length < 2) : jd lt ns ns := by
 refine ⟨List.Perm.refl _, ?_⟩
 cases ns with
 | nil => exact .nil
 | cons a l => cases List.length_eq_zero_iff.mp (Nat.lt_one_iff.mp (Nat.lt_of_succ_lt_succ h)); exact List.pairwise_singleton _ _
section
noncomputable def tM (p : P) (g : Int → D) (lt : Int → Int → Bool) (ns : List Int) : Prop :=
 ∀ (A : Around) (n : Nat) (s : Shared) (ks : List Value), HN A n → bo s.heap ks (ns.map g) → 2 ≤ ns.length →
  ∃ κ, (∀ (Q : SortKind → Shared → Prop) (E : Value → Shared → Prop), Q κ s → wpAny (model p.prog p.w) A (keyKind' ks.toArray) Q E s) ∧
   ∀ (x y : Int) (kx ky : Value) (C : Bool → Shared → Prop), x ∈ ns → y ∈ ns → df s.heap kx (g x) → df s.heap ky (g y) → C (lt x y) s → wpAny (model p.prog p.w) A (keyLt' κ kx ky) C (fun _ _ => False) s
theorem wK {h : Heap} {a : Addr} {vs : Array Value} {n : Nat} (e : h.get? a = some (seqObj "list" vs n)) : ∀ o, h.get? a = some o → ¬ o3 o := fun o e2 t => by
 rw [e] at e2; cases e2
 exact o4 rfl (by simp) t
theorem pK {h : Heap} {a : Addr} {vs : Array Value} {n : Nat} (e : h.get? a = some (seqObj "list" vs n)) (f : Obj → Obj) : bc h (h.update a f) := fun b o eb hc =>
 (Heap.get?_update_other _ _ (fun q => by subst q; exact wK e o eb hc)).trans eb
section
variable {p : P} {A : Around} {n : Nat} {E : Value → Shared → Prop} {s : Shared}
theorem yj {vs : List Value} {ns : List Int} (h : IntsAre vs ns) (l : List Nat) (hl : ∀ i ∈ l, i < vs.length) : IntsAre (l.map fun i => vs.getD i Value.none) (l.map fun i => ns.getD i 0) := by
 induction l with
 | nil => exact .nil
 | cons i l ih =>
  have hi := hl i (by simp)
  obtain ⟨x, t, e1, e2⟩ := my h i vs[i] (by simp [hi])
  have e3 : vs.getD i Value.none = .int x t := by rw [List.getD_eq_getElem?_getD, List.getElem?_eq_getElem hi]; exact e2
  have e4 : ns.getD i 0 = x := by rw [List.getD_eq_getElem?_getD, e1]; rfl
  rw [bk, bk, e3, e4]
  exact .cons x t (ih fun j hj => hl j (by simp [hj]))
theorem CU {H0 : Heap} {a : Addr} {f : Value} {vs : List Value} {ns : List Int} {m : Nat} {g : Int → D} {lt : Int → Int → Bool} {P' : PySem.Fin → Shared → Prop} (R : HN A n)
  (hx : ∀ b o, H0.get? b = some o → s.heap.get? b = some o) (ho : s.heap.get? a = some (seqObj "list" vs.toArray m)) (ha0 : H0.get? a = none) (hi : IntsAre vs ns) (S : gy lt ns) (h5 : ns.length ≤ 5) (hk : tM p g lt ns)
  (key : ∀ (s' : Shared) (i : Int) (t : Tok) (Q : Value → Shared → Prop), i ∈ ns → (∀ b o, H0.get? b = some o → s'.heap.get? b = some o) → (∀ k h tk, (∀ b o, s'.heap.get? b = some o → h.get? b = some o) → df h k (g i) → Q k { s' with heap := h, toks := tk }) →
   wpAny (model p.prog p.w) A (call f [.int i t]) Q (fun _ _ => False) s')
  (hP : ∀ h' tk out ns' c, (∀ b o, H0.get? b = some o → h'.get? b = some o) → bc s.heap h' → h'.get? a = some (seqObj "list" (List.toArray out) c) → IntsAre out ns' → jd lt ns ns' → P' (.done (.ret .none)) { s with heap := h', toks := tk }) :
  wpAny (model p.prog p.w) A (ksk_tree a f false) P' E s := by
 have hvn : vs.length = ns.length := hi.length
 have ha : a < s.heap.objs.size := Heap.lt_size ho
 have g0 : bc s.heap (s.heap.update a (Obj.mapSeq fun _ => (#[] : Array Value))) := pK ho _
 obtain ⟨e1, ho1⟩ : ∃ e1, (s.heap.update a (Obj.mapSeq fun _ => (#[] : Array Value))).get? a = some (seqObj "list" #[] e1) := ⟨_, get?_update_seq ho fun _ => #[]⟩
 have hx1 : ∀ b o, H0.get? b = some o → (s.heap.update a (Obj.mapSeq fun _ => (#[] : Array Value))).get? b = some o := fun b o e => (Heap.get?_update_other _ _ (fun q => by rw [← q, ha0] at e; cases e)).trans (hx b o e)
 have hz := sizeLine_eq
 unfold ksk_tree
 refine HI (listItems_at ho rfl ?_)
 refine HI (listUpdate_at ho rfl ?_ (by rw [List.size_toArray]; lia) (Nat.zero_le _))
 refine HI (seqEpoch_at ho1 rfl ?_)
 refine HI (wpAny_newTuple ?_ (by show vs.length ≤ _; lia))
 refine HI (wpAny_newList ?_ (Nat.zero_le _))
 refine wpAny_holding ?_
 dsimp only
 generalize hH : s.heap.update a (Obj.mapSeq fun _ => (#[] : Array Value)) = H at *
 have ex1 := b7 (h := H) (seqObj "tuple" vs.toArray 0)
 have ex2 := b7 (h := H.push (seqObj "tuple" vs.toArray 0)) (seqObj "list" #[] 0)
 have ex : ∀ b o, H.get? b = some o → ((H.push (seqObj "tuple" vs.toArray 0)).push (seqObj "list" #[] 0)).get? b = some o := fun b o e => ex2 b o (ex1 b o e)
 have hkS0 : ((H.push (seqObj "tuple" vs.toArray 0)).push (seqObj "list" #[] 0)).get? (H.push (seqObj "tuple" vs.toArray 0)).objs.size = some (seqObj "list" #[] 0) := Heap.get?_push_size _ rfl
 have hkSn : H0.get? (H.push (seqObj "tuple" vs.toArray 0)).objs.size = none := by
  cases q : H0.get? (H.push (seqObj "tuple" vs.toArray 0)).objs.size with
  | none => rfl
  | some o =>
   have := Heap.lt_size (hx1 _ _ q)
   rw [Heap.size_push] at this
   exact absurd this (Nat.not_lt.mpr (Nat.le_succ _))
 have hkSa : (H.push (seqObj "tuple" vs.toArray 0)).objs.size ≠ a := by
  have := Heap.lt_size ho1
  rw [Heap.size_push]; exact Nat.ne_of_gt (Nat.lt_succ_of_lt this)
 generalize hkS : (H.push (seqObj "tuple" vs.toArray 0)).objs.size = kS at *
 have hst : ∃ st, st = ({ s with heap := (H.push (seqObj "tuple" vs.toArray 0)).push (seqObj "list" #[] 0) } : Shared) := ⟨_, rfl⟩
 show wpAny _ A (ksk_rest a f false vs.toArray e1 (.ref kS)) P' E { s with heap := (H.push (seqObj "tuple" vs.toArray 0)).push (seqObj "list" #[] 0) }
 unfold ksk_rest
 refine HI (wpAny_rule ?_)
 refine HI (wpAny_mono (forIn_array_ _ (fun (rest : List Value) (_ : PUnit) s' => Fd fun h tk ks e i => G6 (s' = { s with heap := h, toks := tk }) ((∀ b o, H0.get? b = some o → h.get? b = some o)) (bc s.heap h) (h.get? a = some (seqObj "list" #[] e1)) (h.get? kS = some (seqObj "list" (List.toArray ks) e)) (rest = vs.drop i) (i ≤ vs.length) (bo h ks ((ns.take i).map g))) (fun _ s' => EZ fun h tk ks e => Gc (s' = { s with heap := h, toks := tk }) ((∀ b o, H0.get? b = some o → h.get? b = some o)) (bc s.heap h) (h.get? a = some (seqObj "list" #[] e1)) (h.get? kS = some (seqObj "list" (List.toArray ks) e)) (bo h ks (ns.map g))) ?turn ?fin vs.toArray _
   ⟨_, s.toks, [], 0, 0, rfl, fun b o e => ex b o (hx1 b o e), g0.trans (bc.of_ext ex), ex _ _ ho1, hkS0, by simp, Nat.zero_le _, .nil⟩) ?after fun _ _ x => x)
 case turn =>
  rintro x rest ⟨⟩ s' ⟨h, tk, ks, e, i, rfl, hx2, gr, hoa, hok, hrest, hil, rk⟩
  have hlt : i < vs.length := by
   rcases Nat.lt_or_ge i vs.length with h | h
   ·exact h
   ·rw [List.drop_of_length_le h] at hrest; cases hrest
  rw [List.drop_eq_getElem_cons hlt] at hrest
  obtain ⟨rfl, rfl⟩ := List.cons.inj hrest
  obtain ⟨z, t, q1, q2⟩ := my hi i vs[i] (by simp [hlt])
  rw [q2]
  refine HI (wpAny_attempt (wpAny_mono (key _ z t _ (HM q1) hx2 fun k h2 tk2 hx3 rk3 => ?_) (fun _ _ q => q) fun _ _ hF => hF.elim))
  have hok2 := hx3 _ _ hok
  have hlen := rk.length
  rw [dI, List.length_take] at hlen
  dsimp only
  have upd : (List.toArray ks).push k = List.toArray (ks ++ [k]) := by simp
  obtain ⟨c2, hc2⟩ : ∃ c2, (h2.update kS (Obj.mapSeq (·.push k))).get? kS = some (seqObj "list" (List.toArray (ks ++ [k])) c2) := ⟨_, by rw [← upd]; exact get?_update_seq hok2 (·.push k)⟩
  refine HI (listUpdate_at hok2 rfl ?_ (by rw [List.size_toArray]; lia) (by rw [Array.size_push, List.size_toArray]; lia))
  have g2 : bc h2 (h2.update kS (Obj.mapSeq (·.push k))) := pK hok2 _
  have gx := (bc.of_ext hx3).trans g2
  refine HJ ⟨_, tk2, ks ++ [k], c2, i + 1, rfl, fun b o eb => (Heap.get?_update_other _ _ (fun q => by rw [← q, hkSn] at eb; cases eb)).trans (hx3 _ _ (hx2 b o eb)), gr.trans gx, (Heap.get?_update_other _ _ hkSa).trans (hx3 _ _ hoa), hc2, rfl, hlt, ?_⟩
  rw [List.take_add_one, q1]
  simp only [Option.toList_some, List.map_append, bk, bF]
  exact (rk.grow gx).append (.cons (rk3.grow g2) .nil)
 case fin =>
  rintro ⟨⟩ s' ⟨h, tk, ks, e, i, rfl, hx2, gr, hoa, hok, hrest, hil, rk⟩
  have hil2 : i = vs.length := by
   have := congrArg List.length hrest
   simp at this; lia
  rw [List.take_of_length_le (by lia)] at rk
  exact ⟨h, tk, ks, e, rfl, hx2, gr, hoa, hok, rk⟩
 rintro ⟨⟩ s' ⟨h, tk, ks, e, rfl, hx2, gr, hoa, hok, rk⟩
 refine HI (listItems_at hok rfl ?_)
 have hkl : ks.length = vs.length := by have := rk.length; rw [dI] at this; lia
 have tail : ∀ (st : SortSt) (out : List Value) (ns' : List Int), (arrOf st).map (·.2) = List.toArray out → failedOf st = none → IntsAre out ns' → jd lt ns ns' →
   wpAny (model p.prog p.w) A (ksk_tail a false e1 (.ref kS) st) P' E { s with heap := h, toks := tk } := fun st out ns' hout hf hI hs => by
  have hol : out.length = ns.length := by rw [hI.length, hs.1.length_eq]
  have hoa1 : (h.update kS (Obj.mapSeq fun _ => (#[] : Array Value))).get? a = some (seqObj "list" #[] e1) := (Heap.get?_update_other _ _ hkSa).trans hoa
  obtain ⟨c2, hc2⟩ : ∃ c2, ((h.update kS (Obj.mapSeq fun _ => (#[] : Array Value))).update a (Obj.mapSeq fun _ => List.toArray out)).get? a = some (seqObj "list" (List.toArray out) c2) := ⟨_, get?_update_seq hoa1 fun _ => List.toArray out⟩
  unfold ksk_tail
  try dsimp only
  rw [hout]
  refine HI (listUpdate_at hok rfl ?_ (by rw [List.size_toArray]; lia) (Nat.zero_le _))
  refine HI (wpAny_letGo ?_)
  refine HI (seqEpoch_at hoa1 rfl ?_)
  simp only [Bool.false_eq_true, if_false]
  refine HI (listUpdate_at hoa1 rfl ?_ (Nat.zero_le _) (by rw [List.size_toArray]; lia))
  rw [hf]
  simp only [bne_self_eq_false, Bool.false_eq_true, if_false]
  refine HJ (hP _ tk out ns' c2 (fun b o eb => ?_) ((gr.trans (pK hok _)).trans (pK hoa1 _)) hc2 hI hs)
  exact (Heap.get?_update_other _ _ (fun q => by rw [← q, ha0] at eb; cases eb)).trans ((Heap.get?_update_other _ _ (fun q => by rw [← q, hkSn] at eb; cases eb)).trans (hx2 b o eb))
 unfold ksk_end
 try dsimp only
 simp only [Bool.false_eq_true, if_false]
 by_cases h2 : vs.toArray.size < 2
 ·rw [if_pos h2, if_pos h2]
  refine HI (HJ ?_)
  rw [StateT.run_pure]
  refine HI (HJ ?_)
  try dsimp only
  rw [List.size_toArray] at h2
  refine tail _ vs ns ?_ rfl hi (u8 (by lia))
  show ((List.toArray ks).zip vs.toArray).map (·.2) = vs.toArray
  apply Array.toList_inj.mp
  simp [List.map_snd_zip, hkl]
 ·rw [if_neg h2, if_neg h2]
  rw [List.size_toArray] at h2
  obtain ⟨κ, k1, k2⟩ := hk A n { s with heap := h, toks := tk } ks R rk (by lia)
  refine HI (k1 _ _ ?_)
  have q_b1 := wJ S (by lia) h5
  have run := kat_run (prog := p.prog) (w := p.w) (A := A) (κ := κ) (E := E) (s := { s with heap := h, toks := tk }) (ks := ks) (vs := vs) (Q := fun st' s' => s' = { s with heap := h, toks := tk } ∧ failedOf st' = none ∧ (arrOf st').map (·.2) = List.toArray ((iR (fun i j => lt (ns.getD i 0) (ns.getD j 0)) (kas_sort ns.length)).toList.map fun i => vs.getD i Value.none))
   (G := fun p' s' => s' = { s with heap := h, toks := tk } ∧ p' = iR (fun i j => lt (ns.getD i 0) (ns.getD j 0)) (kas_sort ns.length)) hkl nD (by lia) (fun p' st' s' a1 a2 a3 a4 => ⟨a4.1, a3, by rw [kat_snds hkl a2, a4.2]⟩) (by
    rw [hvn]
    refine zG (n := ns.length) (cmp := fun i j => lt (ns.getD i 0) (ns.getD j 0)) (fun i j hi' hj' C hC => ?_) _ q_b1.1 ⟨rfl, rfl⟩
    have at_ : ∀ i, i < ns.length → df h (ks.getD i Value.none) (g (ns.getD i 0)) := fun i hi'' => by
     obtain ⟨v, hv, rv⟩ := rk.at (i := i) (d := g (ns.getD i 0)) (by rw [List.getElem?_map, List.getElem?_eq_getElem hi'', List.getD_eq_getElem?_getD, List.getElem?_eq_getElem hi'']; rfl)
     rw [List.getD_eq_getElem?_getD, hv]; exact rv
    have mem_ : ∀ i, i < ns.length → ns.getD i 0 ∈ ns := fun i hi'' => by
     rw [List.getD_eq_getElem?_getD, List.getElem?_eq_getElem hi'']; exact List.getElem_mem hi''
    exact k2 _ _ _ _ C (mem_ i hi') (mem_ j hj') (at_ i hi') (at_ j hj') hC)
  refine HI (wpAny_mono run ?_ fun _ _ x => x)
  rintro ⟨⟨⟩, st'⟩ s' ⟨rfl, hf, hout⟩
  try dsimp only
  refine tail st' _ _ hout hf (yj hi _ fun i hi' => by rw [hvn]; exact q_b1.2.1 i hi') q_b1.2.2
end
end
section
section
variable {p : P} {A : Around} {n : Nat} {E : Value → Shared → Prop} {s : Shared}
theorem Bo {h : Heap} {ks : List Value} {zs : List Int} (r : bo h ks (zs.map .int)) : IntsAre ks zs := by
 induction zs generalizing ks with
 | nil => obtain rfl := bo.nil_inv r; exact .nil
 | cons z zs ih =>
  obtain ⟨v, ws, rfl, r1, r2⟩ := bo.cons_inv r
  obtain ⟨t, rfl⟩ := df.int_inv r1
  exact .cons z t (ih r2)
theorem FO (f : Int → Int) (ns : List Int) : tM p (fun i => .int (f i)) (fun x y => decide (f x < f y)) ns := fun A n s ks R r h2 => by
 have e : ns.map (fun i => D.int (f i)) = (ns.map f).map .int := by rw [List.map_map]; rfl
 rw [e] at r
 have hi := Bo r
 refine ⟨oneType', fun Q E h => ?_, fun x y kx ky C _ _ r1 r2 hC => ?_⟩
 ·rw [ksk_kind (keys := ks.toArray) (by simpa using hi) (by have := hi.length; rw [dI] at this; rw [List.size_toArray]; lia)]
  exact HJ h
 ·obtain ⟨t, rfl⟩ := df.int_inv r1
  obtain ⟨u, rfl⟩ := df.int_inv r2
  rw [keyLt'_oneType]; exact oneLt_int hC
noncomputable def AE (i : Int) : D := .tup [.int i.natAbs, .bool (decide (0 < i))]
noncomputable def mA (x y : Int) : Bool := decide (x.natAbs < y.natAbs)
theorem Bp {h : Heap} {ks : List Value} {ns : List Int} (r : bo h ks (ns.map AE)) : ∃ fs, KatTups h ks fs ∧ fs.length = ns.length ∧ ∀ v ∈ fs, ∃ i t, v = Value.int i t := by
 induction ns generalizing ks with
 | nil => obtain rfl := bo.nil_inv r; exact ⟨[], .nil, rfl, fun _ h => nomatch h⟩
 | cons n ns ih =>
  have r_ := bo.cons_inv r; clear r; obtain ⟨v, ws, rfl, r0, r⟩ := r_
  obtain ⟨a, vs, rfl, ht, rs⟩ := df.tup_inv r0
  obtain ⟨fs, q1, q2, q3⟩ := ih r
  obtain ⟨o, ho, hc, m, hd⟩ := ht
  obtain ⟨u, us, rfl, r1, r2⟩ := bo.cons_inv rs
  obtain ⟨t, rfl⟩ := df.int_inv r1
  refine ⟨.int n.natAbs t :: fs, .cons ho hc hd (by simp) q1, by simp [q2], fun v hv => ?_⟩
  rcases HL hv with rfl | hv
  ·exact ⟨n.natAbs, t, rfl⟩
  ·exact q3 v hv
theorem Et {ns : List Int} (hab : ∀ x ∈ ns, ∀ y ∈ ns, x.natAbs = y.natAbs → x = y) : tM p AE mA ns := fun A n s ks R r h2 => by
 obtain ⟨fs, q1, q2, q3⟩ := Bp r
 refine ⟨tuples' (Value.type "int" != Value.type "tuple"), fun Q E h => ?_, fun x y kx ky C hx hy r1 r2 hC => ?_⟩
 ·exact kat_kind (T := .type "int") q1 (by lia) (fun v hv => by obtain ⟨i, t, rfl⟩ := q3 v hv; exact Looks.of_pure rfl) (by rfl) h
 ·have hkind : (Value.type "int" != Value.type "tuple") = true := by decide
  rw [hkind]
  obtain ⟨a, va, rfl, ha, ra⟩ := df.tup_inv r1
  obtain ⟨b, vb, rfl, hb, rb⟩ := df.tup_inv r2
  obtain ⟨oa, hoa, _, ma, hda⟩ := ha
  obtain ⟨ob, hob, _, mb, hdb⟩ := hb
  obtain ⟨_, _, rfl, ra1, ra2⟩ := bo.cons_inv ra
  have ra2_ := bo.cons_inv ra2; clear ra2; obtain ⟨_, _, rfl, ra2, ra3⟩ := ra2_
  obtain rfl := bo.nil_inv ra3
  obtain ⟨_, _, rfl, rb1, rb2⟩ := bo.cons_inv rb
  have rb2_ := bo.cons_inv rb2; clear rb2; obtain ⟨_, _, rfl, rb2, rb3⟩ := rb2_
  obtain rfl := bo.nil_inv rb3
  obtain ⟨t, rfl⟩ := df.int_inv ra1
  obtain ⟨u, rfl⟩ := df.int_inv rb1
  obtain rfl := df.bool_inv ra2
  obtain rfl := df.bool_inv rb2
  refine kat_lt hoa hda hob hdb ?_
  show KatLex _ _ A true _ C [(Value.int _ t, Value.int _ u), (.bool _, .bool _)] 0 s
  refine kat_cons (wpAny_eqBool_int ?_)
  by_cases he : x.natAbs = y.natAbs
  ·obtain rfl := hab x hx y hy he
   rw [beq_self_eq_true]
   refine kat_yes (kat_cons ?_)
   refine SeqAt.eqBoolOverData _ _ A _ s _ _ _ _ _ _ _ (.bool _) (.bool _) rfl rfl (by have := R.un; simp only [PyData.depth]; lia) ?_
   simp only [PyData.eqv, beq_self_eq_true]
   refine kat_yes (kat_nil ?_)
   simpa [mA] using hC
  ·have : ((x.natAbs : Int) == (y.natAbs : Int)) = false := by
    rw [beq_eq_false_iff_ne]; lia
   rw [this]
   refine kat_no ?_
   show wpAny _ A (oneLt' true _ _) C _ s
   refine oneLt_int ?_
   have e : decide ((x.natAbs : Int) < (y.natAbs : Int)) = mA x y := by
    unfold mA; exact decide_eq_decide.mpr (by lia)
   rw [e]; exact hC
theorem HN.in2 (R : HN A (n + 1)) : HN A.in1.in1 n := ⟨R.hd, R.gd, by have := R.dep; show A.depth + n < _; exact nM, by have := R.un; show A.units + 1 + 1 + 20 * n + 200 < _; lia⟩
noncomputable def pL (p : P) (A : Around) (s : Shared) (E : Value → Shared → Prop) (r : Addr) (ns : List Int) : Prop :=
 ∀ (R' : List Value → Shared → Prop), (∀ h' tk vs, (∀ b o, s.heap.get? b = some o → h'.get? b = some o) → IntsAre vs ns → R' vs { s with heap := h', toks := tk }) → wpAny (model p.prog p.w) A (collect (.ref r)) R' E s
theorem wL {r : Addr} {vs : List Value} {ns : List Int} (hl : s.heap.IsList r vs.toArray) (hi : IntsAre vs ns) (hsz : ns.length ≤ 1000) : pL p A s E r ns := fun R' h => by
 have hz := sizeLine_eq
 have hv := hi.length
 refine collect_list hl (h _ s.toks vs (fun b o q => ?_) hi) (by lia)
 have hlt : b < s.heap.objs.size := Heap.lt_size q
 rw [Heap.get?_update_ne _ _ _ _ (Nat.ne_of_lt hlt), Heap.get?_push_ne _ _ _ (Nat.ne_of_lt hlt)]
 exact q
theorem wM {d : Addr} {kvs : List (Int × Value)} (hd : s.heap.DictOf (intKind p.prog p.w) d kvs) (lo : (d == sysModules) = false) (hh : A.handled = none) (hsz : kvs.length ≤ 1000) : pL p A s E d (kvs.map (·.1)) := fun R' h => by
 obtain ⟨ep, hat⟩ := hd.dictAt
 have hz := sizeLine_eq
 refine kdu_collect (kdl_dict (knd := intKind p.prog p.w) (kvs := kvs) (ep := ep) lo) hh hat nA fun h' tk acc hk hacc => h h' tk acc.toList hk ?_
 have hlen : acc.toList.length = kvs.length := by rw [Array.length_toList]; exact hacc.1
 have : ∀ (l : List Value) (ks : List (Int × Value)), l.length = ks.length → (∀ (i : Nat) (v : Value), l[i]? = some v → ∃ k x, ks[i]? = some (k, x) ∧ (intKind p.prog p.w).is k v = true) → IntsAre l (ks.map (·.1)) := by
  intro l
  induction l with
  | nil => intro ks e _; cases ks with
   | nil => exact .nil
   | cons _ _ => simp at e
  | cons v l ih =>
   intro ks e hq
   cases ks with
   | nil => simp at e
   | cons q ks =>
    obtain ⟨k, x, h1, h2⟩ := hq 0 v rfl
    simp at h1
    obtain ⟨t, rfl⟩ := Value.isInt_shape h2
    rw [bk, h1]
    exact .cons k t (ih ks (by simpa using e) fun i v hv => by simpa using hq (i + 1) v (by simpa using hv))
 refine this acc.toList kvs hlen fun i v hv => ?_
 exact hacc.2 i v (by rw [← Array.getElem?_toList]; exact hv)
theorem wN {h h' : Heap} (hx : ∀ b o, h.get? b = some o → h'.get? b = some o) : h.get? h'.objs.size = none := by
 cases q : h.get? h'.objs.size with
 | none => rfl
 | some o => exact absurd (Heap.lt_size (hx _ _ q)) (Nat.lt_irrefl _)
theorem yk {r fv : Addr} {ns : List Int} {g : Int → D} {lt : Int → Int → Bool} {Q : Value → Shared → Prop} (R : HN A (n + 1)) (hcol : ∀ E, pL p A.in1 s E r ns) (S : gy lt ns) (h5 : ns.length ≤ 5) (hk : tM p g lt ns)
  (key : ∀ (s' : Shared) (i : Int) (t : Tok) (Q : Value → Shared → Prop), i ∈ ns → (∀ b o, s.heap.get? b = some o → s'.heap.get? b = some o) → (∀ k h tk, (∀ b o, s'.heap.get? b = some o → h.get? b = some o) → df h k (g i) → Q k { s' with heap := h, toks := tk }) →
   wpAny (model p.prog p.w) A.in1.in1 (call (.ref fv) [.int i t]) Q (fun _ _ => False) s')
  (hQ : ∀ h' tk out ns' a', (∀ b o, s.heap.get? b = some o → h'.get? b = some o) → s.heap.get? a' = none → h'.PlainList a' (List.toArray out) → IntsAre out ns' → jd lt ns ns' → Q (.ref a') { s with heap := h', toks := tk }) :
  wpAny (model p.prog p.w) A (call (.builtin "sorted") [.ref r] [(Str.ofString "key", .ref fv)]) Q E s := by
 have hz := sizeLine_eq
 refine call_function_entry_kw kind_sorted plain_sorted entry_sorted (ksk_s1 _ _) ?_
 unfold Builtin.«sorted»
 refine HI (m := checkCount "sorted" 1 1 _) (HJ ?_)
 refine HI (hcol _ _ fun h' tk vs hx hi => ?_)
 have hvl := hi.length
 refine HI (wpAny_newList ?_ (by lia))
 have hoL : (h'.push (seqObj "list" vs.toArray 0)).get? h'.objs.size = some (seqObj "list" vs.toArray 0) := Heap.get?_push_size _ rfl
 have ex := b7 (h := h') (seqObj "list" vs.toArray 0)
 refine HI (wpAny_holding (wpAny_call_entry_kw slot_list_sort ⟨_, hoL, rfl⟩ entry_list_sort ?body (ksk_l1 _ _)))
 case body =>
  show wpAny (model p.prog p.w) A.in1.in1 (Builtin.«list.sort» ⟨[.ref h'.objs.size], [(Str.ofString "key", .ref fv)]⟩) _ _ _
  rw [ksk_t1]
  refine CU (s := { s with heap := h'.push (seqObj "list" vs.toArray 0), toks := tk }) (H0 := s.heap) R.in2 (fun b o e => ex b o (hx b o e)) hoL (wN hx) hi S h5 hk key fun h2 tk2 out ns' c hx2 gr hout hI hs => ⟨_, rfl, ?_⟩
  exact HJ ⟨_, rfl, hQ h2 tk2 out ns' _ hx2 (wN hx) ⟨c, hout⟩ hI hs⟩
noncomputable def s9 (ns ns' : List Int) : Prop := ns'.Perm ns ∧ ns'.Pairwise (· ≤ ·)
theorem Eu {r : Addr} {ns : List Int} {Q : Value → Shared → Prop} (hcol : ∀ E, pL p A.in1 s E r ns) (h64 : ns.length < 64)
  (hQ : ∀ h' tk out ns' a', (∀ b o, s.heap.get? b = some o → h'.get? b = some o) → s.heap.get? a' = none → h'.PlainList a' (List.toArray out) → IntsAre out ns' → s9 ns ns' → Q (.ref a') { s with heap := h', toks := tk }) :
  wpAny (model p.prog p.w) A (call (.builtin "sorted") [.ref r]) Q E s := by
 have hz := sizeLine_eq
 refine Calls.call_function_entry kind_sorted plain_sorted entry_sorted (args_sorted1 _) ?_
 unfold Builtin.«sorted»
 refine HI (m := checkCount "sorted" 1 1 _) (HJ ?_)
 refine HI (hcol _ _ fun h' tk vs hx hi => ?_)
 have hvl := hi.length
 refine HI (wpAny_newList ?_ (by lia))
 have hoL : (h'.push (seqObj "list" vs.toArray 0)).get? h'.objs.size = some (seqObj "list" vs.toArray 0) := Heap.get?_push_size _ rfl
 have ex := b7 (h := h') (seqObj "list" vs.toArray 0)
 refine HI (wpAny_holding (wpAny_call_entry slot_list_sort ⟨_, hoL, rfl⟩ entry_list_sort (list_sort_tree hoL hi (by lia) fun out ns' a1 a2 a3 => ⟨_, rfl, ?_⟩) (args_list_sort _)))
 refine HJ ⟨_, rfl, ?_⟩
 obtain ⟨c, hc⟩ := sortedHeap_at (out := out) hoL
 refine hQ _ tk out.toList ns' _ (fun b o e => ?_) (wN hx) ⟨c, by simpa [seqObj] using hc⟩ a1 ⟨a2, a3⟩
 have hlt : b < h'.objs.size := Heap.lt_size (hx b o e)
 rw [sortedHeap_old (Nat.ne_of_lt hlt) (by rw [size_push']; exact Nat.lt_succ_of_lt hlt)]
 exact ex b o (hx b o e)
end
section
variable {p : P} {c : Cx} {n : Nat} {X : XR}
theorem je {h : Heap} {vs : List Value} {ns : List Int} (hi : IntsAre vs ns) : bo h vs (ns.map .int) := by
 induction hi with
 | nil => exact .nil
 | cons n t _ ih => exact .cons (.int n t) ih
noncomputable def gH : O → Option (List Int)
 | .list ds => lf ds
 | .dict kvs => some (kvs.map (·.1))
 | _ => none
theorem Bq {h : Heap} {es : List (Int × Value)} {fs : List (Int × D)} (x : kC h es fs) : es.map (·.1) = fs.map (·.1) := by
 induction x with
 | nil => rfl
 | cons _ _ ih => simp [ih]
theorem mB {A : Around} {s : Shared} {E : Value → Shared → Prop} {a : Addr} {o : O} {ns : List Int} (x : dN p s.heap a o) (hn : gH o = some ns) (hh : A.handled = none) (hsz : ns.length ≤ 1000) : pL p A s E a ns := by
 cases o with
 | list ds =>
  obtain ⟨vs, hl, rs⟩ := x
  exact wL hl.isList (nP rs hn) hsz
 | dict kvs =>
  obtain ⟨hs, es, hd, kr⟩ := x
  simp only [gH, Option.some.injEq] at hn
  subst hn
  rw [← Bq kr]
  rw [dI] at hsz
  exact wM hd hs hh (by rw [kr.length]; exact hsz)
 | _ => simp [gH] at hn
noncomputable def li (j : MS → Nat) : qW := fun ds σ k => b1 ds fun d => Cp d σ.st[j σ]? fun _ o => jn (gH o) fun ns => ns.length < 64 ∧ ∀ ns' a', s9 ns ns' → k (.ref a') ⟨σ.vars, σ.st ++ [(a', .list (ns'.map .int))]⟩
theorem rd {j : MS → Nat} : BF p (.builtin "sorted") (li j) := fun c A n base σ s vs ds k Q E R S r hf hQ =>
 mr r hf fun d hf v r => tu S r hf fun a o hf e ho => cK hf fun ns hf e2 =>
  Eu (fun E => mB ho e2 R.hd (Nat.le_trans (Nat.le_of_lt hf.1) (by decide))) hf.1 fun h' tk out ns' a' hx hn hl hI hs =>
   hQ _ _ _ h' tk (hf.2 ns' a' hs) (kH S hx hn hl (je hI)) (.ref _) (bc.of_ext hx)
noncomputable def tN (j : MS → Nat) (lt : Int → Int → Bool) (Good : List Int → Prop) (f : EC) : EC := fun σ k => f σ fun d σ1 => Cp d σ1.st[j σ1]? fun _ o => jn (gH o) fun ns => ns.length ≤ 5 ∧ Good ns ∧ gy lt ns ∧ ∀ ns' a', jd lt ns ns' → k (.ref a') ⟨σ1.vars, σ1.st ++ [(a', .list (ns'.map .int))]⟩
theorem jN {M : Model} {A : Around} {E : Value → Shared → Prop} {s : Shared} {env : Env} {id : Str} {p pos : Pos} {args : List Expr} {kws : List Keyword} {Q : Value → Shared → Prop}
  (h : wpAny M A (eval (.Name id p) env) (fun f s₁ => wpAny M A (callWith pos f [] (backTo pos (starEach args env)) (backToKw pos (keywordEach kws env))) Q E s₁) E s) :
  wpAny M A (eval (.Call (.Name id p) args kws pos) env) Q E s := by
 show wpAny M A (do callWith pos (← eval (.Name id p) env) [] (backTo pos (starEach args env)) (backToKw pos (keywordEach kws env))) Q E s
 exact HI h
theorem Br {x y : Str} {np kp yp pos : Pos} {e : Expr} {j : MS → Nat} {g : Int → D} {lt : Int → Int → Bool} {Good : List Int → Prop} {f : EC} {fv : Addr} {G : dp} {m : Nat} (he : Ev p c n e f) (hG : ax p m fv G) (hg1 : ∀ i, G [.int i] [] fun d os new => d = g i) (hk : ∀ ns, Good ns → tM p g lt ns)
  (hx : c.env.kindOf x = some .globalImplicit) (hg : c.env.globals = mainGlobals) (hb : c.env.builtins = builtinsNs) (hmx : p.mg x = none) (hv : bootBuiltins x = some (.builtin "sorted"))
  (hy : c.env.kindOf y = some .globalImplicit) (hvy : p.mg y = some (.ref fv)) (hmn : autoParam (m + 1 ≤ n) aD)
  (hst : autoParam (starEach [e] c.env = [(false, eval e c.env)]) aR) (hn : autoParam (x ≠ "__name__") aD) (hd : autoParam ((x == ("__debug__" : Str)) = false) aD) (hdy : autoParam ((y == ("__debug__" : Str)) = false) aD) :
  Ev p c n (.Call (.Name x np) [e] [⟨some "key", .Name y yp, kp⟩] pos) (tN j lt Good f) := fun A base σ s k Q E R S hf hQ => by
 refine jN (iP S hx hg hb hmx hv ?_ hn hd)
 refine callWith_kw (spliced_more (pos := pos) (rest := []) (he A base σ s _ _ E R S hf fun d σ1 v h1 t1 hk1 S1 r1 g1 => ?_) hst) (by rw [hst]; rfl) (by rw [hst]; rfl)
 refine spliced_none (kws_cons (iw (s := { s with heap := h1, toks := t1 }) S1 hy hg hvy ?_ hdy))
 refine kws_nil ?_
 show wpAny _ A (call (.builtin "sorted") [v] [(Str.ofString "key", .ref fv)]) Q E { s with heap := h1, toks := t1 }
 refine tu S1 r1 hk1 fun a o hk1 ej ho => cK hk1 fun ns hk1 en => ?_
 have q_h5 := hk1
 obtain ⟨n', rfl⟩ : ∃ n', n = n' + 1 := ⟨n - 1, by lia⟩
 refine yk (p := p) (A := A) (n := n') (s := { s with heap := h1, toks := t1 }) R (fun E => mB ho en R.hd (Nat.le_trans q_h5.1 (by decide))) q_h5.2.2.1 q_h5.1 (hk ns q_h5.2.1) (fun s' i t Q' hi hx' hQ' => ?_) fun h' tk out ns' a' hx' hn' hl hI hs => ?_
 ·refine wpAny_call (hG.le (n := n') (by lia) A.in1.in1 s' [] [.int i t] [.int i] _ _ R.in2 ⟨(S1.okh.keeps hx').keeps (fun a o e => hideAll_get _ e (by simp [bW])), (fun _ h => nomatch h), (by simp [bW])⟩ (.cons (.int i t) .nil) (hg1 i) fun d os new w h' tk hdd B rw_ => ?_)
  exact hQ' w h' tk (fun b o eb => B.kept b o (by simp [bW]) eb) (hdd ▸ rw_)
 ·exact hQ _ _ _ h' tk (q_h5.2.2.2 ns' a' hs) (kH S1 hx' hn' hl (je hI)) (.ref _) (g1.trans (bc.of_ext hx'))
end
end
section
noncomputable def r7 (qual : Str) (scope : Scope) (F : Addr) (cv : Value) (x : Str) (ent : Heap) (L : Addr) : Cx :=
 { env := envOf qual scope L F cv, locs := [.ns L x], fa := [L], ent := ent }
noncomputable abbrev zK (name qual : Str) (params : Arguments) (body : Expr) (scope : Scope) (pm cv ctv : Value) : Obj :=
 { cls := .type "function", data := .func (kla_fn name qual params body scope [] pm cv ctv) }
section
variable {p : P} {A : Around} {n : Nat} {s : Shared}
theorem CV {F : Addr} {name qual x : Str} {params : Arguments} {body : Expr} {scope : Scope} {pm cv ctv : Value} {f : EC} {g : Int → D} (R : HN A (n + 1)) (ok : p.Ok s.heap) (hF : s.heap.get? F = some (zK name qual params body scope pm cv ctv)) (hcd : s.heap.CodeRec cv qual)
  (hbind : ∀ v, bindArgs (kla_fn name qual params body scope [] pm cv ctv) ⟨[v], []⟩ = pure [(x, v)]) (hloc : scope.names.lookup x = some .local) (hb : ∀ ent L, Ev p (r7 qual scope F cv x ent L) n body f) (hf : ∀ i, f ⟨[some (.int i)], []⟩ fun d _ => d = g i)
  (hcell : ∀ y ∈ scope.names, y.2 ≠ .cell) (hk : scope.kind = .function) (hco : scope.isCoroutine = false) (hgen : scope.isGenerator = false) {i : Int} {t : Tok} {Q : Value → Shared → Prop} {E : Value → Shared → Prop}
  (hQ : ∀ k h tk, (∀ b o, s.heap.get? b = some o → h.get? b = some o) → df h k (g i) → Q k { s with heap := h, toks := tk }) : wpAny (model p.prog p.w) A (call (.ref F) [.int i t]) Q E s := by
 refine wpAny_call ?_
 refine kla_callFunE (by have := R.dep; lia) hF rfl hco hgen rfl hcd ?_
 rw [hbind]
 refine HJ (wpAny_newFunctionEnv hcell (fun y hy => by
  obtain rfl : y = (x, .int i t) := by simpa using hy
  exact hloc) (fun h₁ hns hsb => ⟨ok.nolimit.fresh _ hsb, ?_⟩) hk)
 show codeAny _ _ (.expr body (envOf qual scope s.heap.objs.size F cv)) _ _
 have hk₁ : ∀ b o, s.heap.get? b = some o → h₁.get? b = some o := fun b o e => hsb.extBut b o (Nat.ne_of_lt (Heap.lt_size e)) (Heap.get?_push_of_some _ e)
 refine kla_codeExpr ?_
 have S : cJ p (r7 qual scope F cv x s.heap s.heap.objs.size) s.heap ⟨[some (.int i)], []⟩ h₁ := by
  refine ⟨ok, hk, fun _ _ e => e, hk₁, by simp [r7], rfl, fun j l d hl hd => ?_, fun l hl => ?_, fun q hq => (nomatch hq), by simp [MS.feet], fun a ha => by simp [MS.feet] at ha, fun a ha => ?_⟩
  ·cases j with
   | zero =>
    simp [r7] at hl hd
    subst hl; subst hd
    exact ⟨.int i t, ⟨_, hns, by simp⟩, .int i t⟩
   | succ j => simp at hd
  ·obtain rfl : l = .ns s.heap.objs.size x := by simpa [r7] using hl
   exact ⟨⟨_, hns⟩, by simp [r7, eE.addr]⟩
  ·obtain rfl : a = s.heap.objs.size := by simpa [r7] using ha
   exact ⟨dS, eE.Ok.ex (l := .ns s.heap.objs.size ("" : Str)) ⟨_, hns⟩⟩
 exact hb s.heap s.heap.objs.size _ s.heap ⟨[some (.int i)], []⟩ { s with heap := h₁, toks := s.toks + 1 } (fun d _ => d = g i) _ _ (R.deeper _) S (hf i) fun d σ' v h' tk hd S' r g' => by
  subst hd
  exact hQ v h' tk S'.keep r
end
section
variable {p : P} {c : Cx} {n : Nat} {X : XR}
noncomputable def tO (j jt : MS → Nat) (Pt : Addr) (pos : Pos) (qual : Str) (lt : Int → Int → Bool) (Good : List Int → Prop) (f : EC) : EC := fun σ k => f σ fun d σ1 => (σ1.st[jt σ1]? = some (Pt, .tab pos qual)) ∧ Cp d σ1.st[j σ1]? fun _ o => jn (gH o) fun ns => ns.length ≤ 5 ∧ Good ns ∧ gy lt ns ∧ ∀ ns' a', jd lt ns ns' → k (.ref a') ⟨σ1.vars, σ1.st ++ [(a', .list (ns'.map .int))]⟩
theorem Bs {x y : Str} {np kp lp pos : Pos} {e body : Expr} {params : Arguments} {scope : Scope} {j jt : MS → Nat} {g : Int → D} {lt : Int → Int → Bool} {Good : List Int → Prop} {f fb : EC} {cc Pt : Addr} {m : Nat} (he : Ev p c n e f) (hk : ∀ ns, Good ns → tM p g lt ns)
  (hx : c.env.kindOf x = some .globalImplicit) (hg : c.env.globals = mainGlobals) (hb : c.env.builtins = builtinsNs) (hmx : p.mg x = none) (hv : bootBuiltins x = some (.builtin "sorted"))
  (hcode : c.env.code = .ref cc) (hhd : ∀ h, p.Ok h → CodeHd h cc Pt)
  (hcl : closureFor scope c.env = pure [])
  (hbind : ∀ pm cv ctv v, bindArgs (kla_fn "<lambda>" (c.env.qual ++ "<lambda>") params body scope [] pm cv ctv) ⟨[v], []⟩ = pure [(y, v)]) (hloc : scope.names.lookup y = some .local) (hbody : ∀ cv F ent L, Ev p (r7 (c.env.qual ++ "<lambda>") scope F cv y ent L) m body fb) (hf : ∀ i, fb ⟨[some (.int i)], []⟩ fun d _ => d = g i)
  (hdf : defaultsOf params c.env = ([], [])) (hmn : autoParam (m + 2 ≤ n) aD)
  (hcell : autoParam (∀ y ∈ scope.names, y.2 ≠ .cell) aD) (hkind : autoParam (scope.kind = .function) aR) (hco : autoParam (scope.isCoroutine = false) aR) (hgen : autoParam (scope.isGenerator = false) aR)
  (hst : autoParam (starEach [e] c.env = [(false, eval e c.env)]) aR) (hn : autoParam (x ≠ "__name__") aD) (hd : autoParam ((x == ("__debug__" : Str)) = false) aD) :
  Ev p c n (.Call (.Name x np) [e] [⟨some "key", .Lambda params body scope lp, kp⟩] pos) (tO j jt Pt lp (c.env.qual ++ "<lambda>") lt Good f) := fun A base σ s k Q E R S hf' hQ => by
 refine jN (iP S hx hg hb hmx hv ?_ hn hd)
 refine callWith_kw (spliced_more (pos := pos) (rest := []) (he A base σ s _ _ E R S hf' fun d σ1 v h1 t1 hk1 S1 r1 g1 => ?_) hst) (by rw [hst]; rfl) (by rw [hst]; rfl)
 obtain ⟨et, hk1⟩ := hk1
 refine tu S1 r1 hk1 fun a o hk1 ej ho => cK hk1 fun ns hk1 en => ?_
 have q_h5 := hk1
 refine spliced_none (kws_cons ?_)
 obtain ⟨ot, hne⟩ := S1.objs _ (HM et)
 have C := hhd h1 S1.okh
 have hbt : h1.BuiltinsAt p.mg Pt := by
  obtain ⟨bm, ob, e1, e2, e3, e4, e5, e6⟩ := S1.okh.bmain
  refine ⟨bm, ob, e1, e2, fun q => ?_, fun q => ?_, e3, e4, e5, e6⟩
  ·subst q
   obtain ⟨o', _, _, e7, e8, _⟩ := S1.okh.g
   rw [e3] at e7; cases e7
   rw [e6] at e8; cases e8
  ·subst q
   rcases ot with e7 | ⟨c', e7, _⟩
   ·rw [e3] at e7; cases e7; cases e4
   ·rw [e3] at e7; cases e7; cases e4
 have fin : ∀ (h2 : Heap) (t2 : Nat) (F : Addr) (pm cv ctv : Value), cJ p c base σ1 h2 → bc h1 h2 → h2.get? F = some (zK "<lambda>" (c.env.qual ++ "<lambda>") params body scope pm cv ctv) → h2.CodeRec cv (c.env.qual ++ "<lambda>") →
   wpAny (model p.prog p.w) A (call (.builtin "sorted") [.ref a] [(Str.ofString "key", .ref F)]) Q E { s with heap := h2, toks := t2 } := fun h2 t2 F pm cv ctv S2 g2 hF hcr => by
  obtain ⟨n', rfl⟩ : ∃ n', n = n' + 1 := ⟨n - 1, by lia⟩
  refine yk (p := p) (A := A) (n := n') (s := { s with heap := h2, toks := t2 }) R (fun E => mB (S2.objs _ (HM ej)) en R.hd (Nat.le_trans q_h5.1 (by decide))) q_h5.2.2.1 q_h5.1 (hk ns q_h5.2.1) (fun s' i t Q' hi hx' hQ' => ?_) fun h' tk out ns' a' hx' hn' hl hI hs => ?_
  ·have R2 : HN A.in1.in1 (m + 1) := ⟨R.in2.hd, R.in2.gd, by have := R.in2.dep; lia, by have := R.in2.un; lia⟩
   exact CV R2 (S2.okh.keeps hx') (hx' _ _ hF) (hcr.keeps hx') (hbind _ _ _) hloc (hbody cv F) hf hcell hkind hco hgen hQ'
  ·exact hQ _ _ _ h' tk (q_h5.2.2.2 ns' a' hs) (kH S2 hx' hn' hl (je hI)) (.ref _) ((g1.trans g2).trans (bc.of_ext hx'))
 rw [arm_eval_Lambda, hdf]
 refine HI (wpAny_evalAll_nil ?_)
 refine HI (wpAny_holding (HJ ?_))
 rcases ot with e7 | ⟨c', e7, hcr⟩
 ·refine kla_makeFunction (s := { s with heap := h1, toks := t1 }) hcl hg S1.okh.g hcode C e7 trivial rfl (fun q => hne q.symm) hbt fun c' ctv h' tk hx hge hlt hrec htb => ?_
  refine kws_nil ?_
  have ex := b7 (h := h') (kla_obj "<lambda>" (c.env.qual ++ "<lambda>") params body scope [] ((p.mg "__name__").getD .none) c' ctv)
  have hob : dN p h' Pt (.tab lp (c.env.qual ++ "<lambda>")) := ⟨.inr ⟨c', by simpa using htb, hrec⟩, hne⟩
  obtain ⟨S2, g2⟩ := S1.put et (o' := .tab lp (c.env.qual ++ "<lambda>")) rfl (fun b ob hb eb => hx b ob (fun q => hb (by rw [q]; simp [feet])) eb) hob
  rw [xW et] at S2
  exact fin _ tk _ _ _ _ (S2.ext ex) (g2.trans (bc.of_ext ex)) (Heap.get?_push_size _ rfl) (hrec.keeps ex)
 ·refine kla_makeFunctionHit (cv := .ref c') (s := { s with heap := h1, toks := t1 }) (ps := #[rawInt lp.line, rawInt lp.col, .ref c']) hcl hg S1.okh.g hcode C e7 trivial (by simp [codeAmong, rawInt]) hbt fun ctv h' tk hx hge => ?_
  refine kws_nil ?_
  have ex := b7 (h := h') (zK "<lambda>" (c.env.qual ++ "<lambda>") params body scope ((p.mg "__name__").getD .none) (.ref c') ctv)
  exact fin _ tk _ _ _ _ ((S1.ext hx).ext ex) ((bc.of_ext hx).trans (bc.of_ext ex)) (Heap.get?_push_size _ rfl) ((hcr.keeps hx).keeps ex)
end
end
section
section
variable {p : P} {c : Cx} {n : Nat} {X : XR}
noncomputable def nS : EC := fun σ k => ∀ a, k (.ref a) ⟨σ.vars, σ.st ++ [(a, .tdict [])]⟩
theorem CW {pos : Pos} : Ev p c n (.Dict [] [] pos) nS := fun A base σ s k Q E R S hf hQ => by
 refine wpAny_Dict_empty (hQ _ _ _ _ s.toks (hf s.heap.objs.size) (S.push (s.heap.objs.size, .tdict []) (b7 _) ⟨rY S, [], Heap.DictOfH.new s.heap, .nil⟩ (fun a ha => ?_) (by simp [feet])) (.ref _) (bc.of_ext (b7 _)))
 obtain rfl : a = s.heap.objs.size := by simpa [feet] using ha
 exact dS
noncomputable def AF (x : Str) (i : Int) : D := .tup [.str x, .tup [], .int 0, .int i]
theorem CX {h : Heap} {v : Value} {x : Str} {i : Int} (r : df h v (AF x i)) : ∃ a, v = .ref a ∧ kB h (x, i) a := by
 unfold AF at r
 obtain ⟨a, vs, rfl, ht, rs⟩ := df.tup_inv r
 obtain ⟨o, ho, hc, m, hd⟩ := ht
 obtain ⟨_, _, rfl, r1, r⟩ := bo.cons_inv rs
 have r_ := bo.cons_inv r; clear r; obtain ⟨_, _, rfl, r2, r⟩ := r_
 have r_ := bo.cons_inv r; clear r; obtain ⟨_, _, rfl, r3, r⟩ := r_
 have r_ := bo.cons_inv r; clear r; obtain ⟨_, _, rfl, r4, r⟩ := r_
 obtain rfl := bo.nil_inv r
 obtain ⟨t, rfl⟩ := df.str_inv r1
 obtain ⟨u, rfl⟩ := df.int_inv r3
 obtain ⟨v, rfl⟩ := df.int_inv r4
 obtain ⟨e, ws, rfl, he, re⟩ := df.tup_inv r2
 cases re
 obtain ⟨oe, hoe, hce, me, hde⟩ := he
 exact ⟨a, rfl, o, e, m, t, u, v, oe, me, ho, hc, by simpa using hd, hoe, hce, by simpa using hde⟩
noncomputable def CY (kvs : List ((Str × Int) × D)) (k : Str × Int) : Option D := (kvs.find? fun kv => decide (kv.1 = k)).map (·.2)
theorem pE.at {h : Heap} {xs : List ((Str × Int) × Addr × Value)} {kvs : List ((Str × Int) × D)} (t : pE h xs kvs) (k : Str × Int) : (atKey xs k = none ∧ CY kvs k = none) ∨ ∃ a v d, atKey xs k = some (a, v) ∧ CY kvs k = some d ∧ df h v d := by
 induction t with
 | nil => exact .inl ⟨rfl, rfl⟩
 | @cons k' a v d es fs r _ ih =>
  unfold atKey CY at *
  rw [List.find?_cons, List.find?_cons]
  by_cases e : k' = k
  ·simp only [e, decide_true]; exact .inr ⟨a, v, d, rfl, rfl, r⟩
  ·simp only [e, decide_false]; exact ih
theorem pE.length {h : Heap} {xs : List ((Str × Int) × Addr × Value)} {kvs : List ((Str × Int) × D)} (t : pE h xs kvs) : xs.length = kvs.length := by
 induction t with
 | nil => rfl
 | cons _ _ ih => simp [ih]
theorem pE.snoc {h : Heap} {xs : List ((Str × Int) × Addr × Value)} {kvs : List ((Str × Int) × D)} (t : pE h xs kvs) {k : Str × Int} {a : Addr} {v : Value} {d : D} (r : df h v d) : pE h (xs ++ [(k, a, v)]) (kvs ++ [(k, d)]) := by
 induction t with
 | nil => exact .cons r .nil
 | cons r' _ ih => exact .cons r' ih
noncomputable def CZ (j : MS → Nat) (fo fk fd : EC) : EC := fun σ k => fo σ fun d1 σ1 => ∃ a kvs, d1 = .ref a ∧ σ1.st[j σ1]? = some (a, .tdict kvs) ∧ fk σ1 fun d2 σ2 => fd σ2 fun d3 σ3 => ∃ x i kvs', d2 = AF x i ∧ σ3.st[j σ3]? = some (a, .tdict kvs') ∧ k ((CY kvs' (x, i)).getD d3) σ3
theorem FP {e ek ed : Expr} {apos pos : Pos} {j : MS → Nat} {fo fk fd : EC} {pl : Sem Bool} (he : Ev p c n e fo) (hk : Ev p c n ek fk) (hd : Ev p c n ed fd)
  (hst : autoParam (starEach [ek, ed] c.env = (false, eval ek c.env) :: starEach [ed] c.env) aR) (hst2 : autoParam (starEach [ed] c.env = (false, eval ed c.env) :: starEach [] c.env) aR)
  (hp : autoParam (∀ pos, (backTo pos (starEach [ek, ed] c.env)).any (·.1) = false) aI)
  (hev : autoParam (eval (.Call (.Attribute e "get" apos) [ek, ed] [] pos) c.env = (do
   let ov ← eval e c.env
   standAt apos.atName
   let (f, first) ← holding [ov] (getMethod ov "get" pl)
   callWith pos f first (backTo pos (starEach [ek, ed] c.env)) [])) aR) : Ev p c n (.Call (.Attribute e "get" apos) [ek, ed] [] pos) (CZ j fo fk fd) := fun A base σ s k Q E R S hf hQ => by
 refine MethodCall_ (pl := pl) (he A base σ s _ _ E R S hf fun d σ1 v h1 t1 hk1 S1 r1 g1 => ?_) hev
 obtain ⟨a, kvs, rfl, e0, hk1⟩ := hk1
 obtain rfl := df.ref_inv r1
 obtain ⟨hs, xs, hdict, tr⟩ := S1.objs _ (HM e0)
 obtain ⟨o, es, ep, ho, ⟨hc, hdn, hsl⟩, _⟩ := id hdict
 refine getMethod_builtin (T := "dict") ⟨_, ho, hc⟩ PySem.F.plainAttrs_dict PySem.F.slot_dict_get PySem.F.type_dict_get (fun b hb => by cases hb; exact ⟨_, ho, hdn⟩) ?_
 refine bT (Pr := fun _ => True) (hp pos) (dh (by intro a h; cases h)) ?_
 refine spliced_more (pos := pos) (rest := [ed]) (hk A base σ1 { s with heap := h1, toks := t1 } _ _ E R S1 hk1 fun d2 σ2 v2 h2 t2 hk2 S2 r2 g2 => ?_) hst
 refine spliced_more (pos := pos) (rest := []) (hd A base σ2 { s with heap := h2, toks := t2 } _ _ E R S2 hk2 fun d3 σ3 v3 h3 t3 hk3 S3 r3 g3 => ?_) hst2
 refine spliced_none ⟨trivial, ?_⟩
 obtain ⟨x, i, kvs', rfl, e3, hk3⟩ := hk3
 obtain ⟨ak, rfl, hbk⟩ := CX r2
 obtain ⟨hs3, xs3, hdict3, tr3⟩ := S3.objs _ (HM e3)
 have gg := (g1.trans g2).trans g3
 show wpAny _ A (call (.builtin "dict.get") [.ref a, .ref ak, v3]) Q E { s with heap := h3, toks := t3 }
 refine call_meetsIn PySem.F.slot_dict_get (s := { s with heap := h3, toks := t3 }) hdict3.typeIs PySem.F.entry_dict_get (PySem.F.args_dict_get_3 _ _ _) (meetsH_dict_get_default (zy p.prog p.w) a ak hs3 v3) ⟨?_, (x, i), xs3, hbk.grow g3, hdict3, ?_⟩
 ·have := R.un
  show A.units + 1 + 4 < cLine
  lia
 ·rcases tr3.at (x, i) with ⟨q1, q2⟩ | ⟨a', v', d', q1, q2, rv⟩
  ·rw [q1]
   rw [q2] at hk3
   exact hQ _ σ3 v3 h3 _ hk3 S3 r3 gg
  ·rw [q1]
   rw [q2] at hk3
   exact hQ _ σ3 v' h3 _ hk3 S3 rv gg
noncomputable def tP (j : MS → Nat) (fv fo fi : EC) : SC := fun σ k => fv σ fun dv σ1 => fo σ1 fun d1 σ2 => fi σ2 fun d2 σ3 => ∃ a x i kvs, d1 = .ref a ∧ d2 = AF x i ∧ σ3.st[j σ3]? = some (a, .tdict kvs) ∧ kvs.length ≤ 1000 ∧ CY kvs (x, i) = none ∧
 k .next ⟨σ3.vars, σ3.st.set (j σ3) (a, .tdict (kvs ++ [((x, i), dv)]))⟩
theorem Bt {ev eo ei : Expr} {pos' pos : Pos} {j : MS → Nat} {fv fo fi : EC} (hv : Ev p c n ev fv) (ho : Ev p c n eo fo) (hi : Ev p c n ei fi) (hs : autoParam (swapsWith ev (some (.Subscript eo ei pos')) pos.line c.env = pure false) aR) :
  Ex p c X n (.Assign [.Subscript eo ei pos'] ev pos) (tP j fv fo fi) := fun A base σ s k Q E R S hf hQ hE => by
 refine wpAny_Assign_Subscript (hv A base σ s _ _ E R.1 S hf fun dv σ1 v h1 t1 hk1 S1 r1 g1 => ?_) hs
 refine ho A base σ1 _ _ _ E R.1 S1 hk1 fun d1 σ2 ov h2 t2 hk2 S2 r2 g2 => ?_
 refine hi A base σ2 _ _ _ E R.1 S2 hk2 fun d2 σ3 iv h3 t3 hk3 S3 r3 g3 => ?_
 have gg := (g1.trans g2).trans g3
 have rv := r1.grow (g2.trans g3)
 obtain ⟨a, x, i, kvs, rfl, rfl, ej, hsz, hno, hk⟩ := hk3
 obtain rfl := df.ref_inv r2
 obtain ⟨ak, rfl, hbk⟩ := CX r3
 obtain ⟨hsy, xs, hd, tr⟩ := S3.objs _ (HM ej)
 have hz := sizeLine_eq
 have hnone : atKey xs (x, i) = none := by
  rcases tr.at (x, i) with ⟨q1, _⟩ | ⟨_, _, _, _, q2, _⟩
  ·exact q1
  ·rw [hno] at q2; cases q2
 refine wpAny_setItem_heap (s := { s with heap := h3, toks := t3 }) (knd := zy p.prog p.w) ?_ hbk hd (fun h4 hd4 hs4 => ?_) (by rw [tr.length]; exact nA)
 ·have := R.un
  show A.units + 1 + 4 < cLine
  lia
 ·rw [storedH_new hnone] at hd4
  have g4 : bc h3 h4 := fN S3 ej rfl hs4
  obtain ⟨S4, _⟩ := S3.put ej (o' := .tdict (kvs ++ [((x, i), dv)])) rfl (fg rfl hs4) ⟨hsy, _, hd4, (tr.grow g4).snoc (rv.grow g4)⟩
  exact hQ .next _ .next h4 _ hk S4 .next (gg.trans g4)
end
end
section
section
variable {p : P} {c : Cx} {n : Nat} {X : XR}
noncomputable def iS (j1 j2 : MS → Nat) (f g : EC) : EC := fun σ k => f σ fun d1 σ1 => g σ1 fun d2 σ2 => qT d1 fun a => qT d2 fun b => oL σ2.st[j1 σ2]? fun a' xs => oL σ2.st[j2 σ2]? fun b' ys => (a = a' ∧ b = b') ∧ xs.length + ys.length ≤ sizeLine ∧ ∀ r, k (.ref r) ⟨σ2.vars, σ2.st ++ [(r, .list (xs ++ ys))]⟩
theorem Da {l r : Expr} {pos : Pos} {j1 j2 : MS → Nat} {f g : EC} (hl : Ev p c n l f) (hr : Ev p c n r g) : Ev p c n (.BinOp l .Add r pos) (iS j1 j2 f g) := fun A base σ s k Q E R S hf hQ => by
 refine wpAny_BinOp (hl A base σ s _ _ E R S hf fun d1 σ1 v1 h1 t1 hk S1 r1 g1 => ?_)
 refine hr A base σ1 _ _ _ E R S1 hk fun d2 σ2 v2 h2 t2 hk2 S2 r2 g2 => ?_
 refine eP (r1.grow g2) hk2 fun a hk2 => eP r2 hk2 fun b hk2 => j3 S2 hk2 fun a' xs hk2 e1 vs hl rs1 => j3 S2 hk2 fun b' ys hk2 e2 ws hm rs2 => hl.elim fun m1 o1 => hm.elim fun m2 o2 => ?_
 obtain ⟨q, hsz, hk⟩ := hk2
 rw [q.1, q.2]
 refine PySem.P.add_list (n := m1) (n2 := m2) o1 o2 ?_ (by rw [List.size_toArray, List.size_toArray, rs1.length, rs2.length]; exact hsz)
 rw [List.append_toArray]
 have S3 := S2.newList (rs1.append rs2)
 exact hQ _ _ _ _ t2 (hk _) S3.1 (.ref _) ((g1.trans g2).trans S3.2)
theorem FQ {x : Str} {pos : Pos} {y : Str} (hx : c.env.kindOf x = some .globalImplicit) (hg : c.env.globals = mainGlobals) (hv : ∃ t, p.mg x = some (.str y t)) (hd : autoParam ((x == ("__debug__" : Str)) = false) aD) : Ev p c n (.Name x pos) (dt (.str y)) := by
 obtain ⟨t, hv⟩ := hv
 exact s5 hx hg hv (fun _ _ => .str y t) hd
theorem wO {x : Str} {pos : Pos} {i : Int} (hx : c.env.kindOf x = some .globalImplicit) (hg : c.env.globals = mainGlobals) (hv : ∃ t, p.mg x = some (.int i t)) (hd : autoParam ((x == ("__debug__" : Str)) = false) aD) : Ev p c n (.Name x pos) (dt (.int i)) := by
 obtain ⟨t, hv⟩ := hv
 exact s5 hx hg hv (fun _ _ => .int i t) hd
noncomputable def zL (f g : EC) : EC := fun σ k => f σ fun d1 σ1 => g σ1 fun d2 σ2 => ∃ (j : Nat) (a : Addr) (i : Int) (ds : List D) (d : D), d1 = .ref a ∧ d2 = .int i ∧ σ2.st[j]? = some (a, .list ds) ∧ iq ds i = some d ∧ k d σ2
theorem Ew {e i : Expr} {pos : Pos} {f g : EC} (he : Ev p c n e f) (hi : Ev p c n i g) (hs : autoParam (∀ o x, subscripted i false o x = operate [o, x] (getItem o x)) aJ) : Ev p c n (.Subscript e i pos) (zL f g) := fun A base σ s k Q E R S hf hQ => by
 refine Subscript_ (he A base σ s _ _ E R S hf fun d1 σ1 v1 h1 t1 hk1 S1 r1 g1 => ?_)
 refine hi A base σ1 _ _ _ E R S1 hk1 fun d2 σ2 v2 h2 t2 hk2 S2 r2 g2 => ?_
 obtain ⟨j, a, i, ds, d, rfl, rfl, ej, ei, hk⟩ := hk2
 obtain rfl := df.ref_inv r1
 obtain ⟨t, rfl⟩ := df.int_inv r2
 obtain ⟨vs, hl, rs⟩ := S2.objs _ (HM ej)
 refine tail_any hl.isList.typeIs slot_list_getitem.lookup (ye hl.isList rs ei fun v rv => ?_) (hs _ _)
 exact hQ d σ2 v h2 t2 hk S2 rv (g1.trans g2)
noncomputable def jf (o : (MS → Nat) → qW) (fo : EC) (fs : oy) : EC := fun σ k => fo σ fun d σ1 => ∃ (j : Nat) (a : Addr) (ds0 : List D), d = .ref a ∧ σ1.st[j]? = some (a, .list ds0) ∧ fs σ1 fun ds σ2 => ∃ j', o (fun _ => j') (.ref a :: ds) σ2 k
theorem tQ {e : Expr} {name : Str} {apos pos : Pos} {args : List Expr} {id : String} {o : (MS → Nat) → qW} {fo : EC} {fs : oy} {pl : Sem Bool} (ho : ∀ j, BF p (.builtin id) (o j)) (slot : Slot "list" name id) (ty : typeOf (.builtin id) = pure (.type "method_descriptor")) (he : Ev p c n e fo) (hs : xQ p c n args fs)
  (hp : autoParam (∀ pos, (backTo pos (starEach args c.env)).any (·.1) = false) aI)
  (hev : autoParam (eval (.Call (.Attribute e name apos) args [] pos) c.env = (do
   let ov ← eval e c.env
   standAt apos.atName
   let (f, first) ← holding [ov] (getMethod ov name pl)
   callWith pos f first (backTo pos (starEach args c.env)) [])) aR) : Ev p c n (.Call (.Attribute e name apos) args [] pos) (jf o fo fs) := fun A base σ s k Q E R S hf hQ => by
 refine MethodCall_ (pl := pl) (he A base σ s _ _ E R S hf fun d σ1 v h1 t1 hk1 S1 r1 g1 => ?_) hev
 obtain ⟨j, a, ds0, rfl, e0, hk1⟩ := hk1
 obtain rfl := df.ref_inv r1
 obtain ⟨vs0, ⟨m0, el⟩, _⟩ := S1.objs _ (HM e0)
 refine getMethod_builtin (T := "list") ⟨_, el, rfl⟩ F.plainAttrs_list slot ty (fun b hb => by cases hb; exact ⟨_, el, rfl⟩) ?_
 refine bT (Pr := fun _ => True) (hp pos) (dh (by intro a h; cases h)) ?_
 refine hs A base σ1 { s with heap := h1, toks := t1 } _ pos _ E R S1 hk1 fun ds σ2 vs h2 t2 hk2 S2 r2 g2 => ⟨trivial, ?_⟩
 obtain ⟨j', hk2⟩ := hk2
 exact ho (fun _ => j') c A n base σ2 { s with heap := h2, toks := t2 } (.ref a :: vs) _ k _ E R S2 (.cons (.ref a) r2) hk2 fun d σ' v h' tk hk3 S3 r3 g3 => hQ d σ' v h' tk hk3 S3 r3 ((g1.trans g2).trans g3)
noncomputable def Gh (o : (MS → Nat) → qW) : qW := fun ds σ k => ∃ j : Nat, o (fun _ => j) ds σ k
theorem Db {f : Value} {o : (MS → Nat) → qW} (h : ∀ j, BF p f (o j)) : BF p f (Gh o) := fun c A n base σ s vs ds k Q E R S r ⟨j, hf⟩ hQ => h _ c A n base σ s vs ds k Q E R S r hf hQ
noncomputable def eS : SC := fun _ _ => False
theorem fG {st : Stmt} : Ex p c X n st eS := fun A base σ s k Q E R S hf hQ hE => hf.elim
end
end
section
section
variable {prog : Program} {w : World} {A : Around} {E : Value → Shared → Prop} {h : Heap} {g : Array GenState} {d : Drawn} {t : Nat} {os : OsState}
variable {nm q : Str} {C N : Addr} {bs bm bmB : List Value} {hdct : Bool} {sn : List Str} {sub : List Value} {ab : Bool} {col : Option Bool} {dd : Option Addr} {k0 k1 k2 k3 k5 : Option Value} {B newId initId : String} {K : Frag}
theorem yl (F : ExcBaseFacts B newId initId bmB) (hB : bm.contains (.type B) = true) {M : Model} {rest : List Value} {Q : Unit → Shared → Prop} (hC : h.get? C = some (excClassObj nm q C N bs bm hdct sn sub ab col dd k0 k1 k2 k3 k5 newId))
  (hq : Q () ⟨h, g, d, t, os⟩) : wpAny M A (checkBuiltinCall newId ⟨.ref C :: rest, []⟩) Q E ⟨h, g, d, t, os⟩ := by
 have hcont : (Value.ref C :: bm).contains (.type B) = true := by rw [List.contains_cons, hB, Bool.or_true]
 have hstar := F.noStar
 simp only [checkBuiltinCall, F.newKind, F.newSplit, F.newRow]
 repeat (first | refine wpAny_loadPart_at hC ?_ | (refine wpAny_isSubtype_exc hC ?_; rw [hcont]) | refine wpAny_staticBase_exc hC ?_ | refine wpAny_madeBy_exc hC ?_ | simp only [bne_self_eq_false, Bool.false_eq_true, if_false] | wp_step)
 exact hq
theorem Bu (F : ExcBaseFacts B newId initId bmB) (hB : bm.contains (.type B) = true) (hA : bm.contains (.type "AttributeError") = false) (hN : bm.contains (.type "NameError") = false) {R : Result → Shared → Prop} {rest : List Value}
  (hC : h.get? C = some (excClassObj nm q C N bs bm hdct sn sub ab col dd k0 k1 k2 k3 k5 newId))
  (hq : R (.ok (.ret (.ref (h.objs.size + 1)))) ⟨(h.push { cls := .type "tuple", data := .seq rest.toArray }).push
   { cls := .ref C, data := .fields #[.ref h.objs.size, .none, .none, .none, .bool false, .none] }, g, d, t, os⟩) (hrest : autoParam (rest.length ≤ sizeLine) HO) :
  codeAny (model prog w) A (.builtin newId ⟨.ref C :: rest, []⟩) R ⟨h, g, d, t, os⟩ := by
 have hends := F.ends
 have hcB : (Value.ref C :: bm).contains (.type B) = true := by rw [List.contains_cons, hB, Bool.or_true]
 have hcA : (Value.ref C :: bm).contains (.type "AttributeError") = false := by rw [List.contains_cons, hA]; rfl
 have hcN : (Value.ref C :: bm).contains (.type "NameError") = false := by rw [List.contains_cons, hN]; rfl
 refine codeAny_builtinAt F.entry ?_
 unfold Builtin.«BaseException.__new__»
 refine _root_.PySem.wpAt_bind ?_
 show _root_.PySem.wpAt _ _ _ (stack >>= _) _ _ _
 refine _root_.PySem.wpAt_bind (_root_.PySem.wpAt_stack fun p below => _root_.PySem.wpAt_of_wpAny ?_)
 wp_walk
 refine _root_.PySem.wpAt_of_wpAny ?_
 rw [F.owner]
 repeat (first | with_reducible refine wpAny_madeHere_exc F.canon hC ?_ | with_reducible refine wpAny_loadPart_at hC ?_ | (with_reducible refine wpAny_isSubtype_exc hC ?_; first | rw [hcB] | rw [hcA] | rw [hcN]) | wp_step)
 show R _ _
 rw [Heap.size_push]
 exact hq
theorem ym (F : ExcBaseFacts B newId initId bmB) (hB : bm.contains (.type B) = true) (hA : bm.contains (.type "AttributeError") = false) (hN : bm.contains (.type "NameError") = false) {rest : List Value} {fI : Addr} {Q : Fin → Shared → Prop}
  (X : K.In h) (hC : h.get? C = some (excClassObj nm q C N bs bm hdct sn sub ab col dd k0 k1 k2 k3 k5 newId)) (hi : findIn K (.ref C) "__init__" = some (some (.ref fI))) (hty : typeIn K (.ref fI) = some (.type "function"))
  (hq : ∀ h' e, Heap.MadeExcOf h h' e (.ref C) rest →
   wpAny (model prog w) A (call (.ref fI) (.ref e :: rest)) (fun r s' => r = .none ∧ Q (.done (.ret (.ref e))) s') E ⟨h', g, d, t, os⟩) (hrest : autoParam (rest.length ≤ sizeLine) HO) :
  wpAny (model prog w) A (Builtin.«type.__call__» ⟨.ref C :: rest, []⟩) Q E ⟨h, g, d, t, os⟩ := by
 repeat (first | with_reducible refine wpAny_loadPart_at hC ?_ | with_reducible refine wpAny_madeBy_exc hC ?_ | wp_step)
 refine codeAny_call_builtin_code (Code.quiet_builtin _ F.quiet) (yl F hB hC ?_)
 refine Bu F hB hA hN hC ?_ hrest
 show wpAny _ _ _ _ _ _
 have up : ∀ b o, h.get? b = some o → ((h.push { cls := .type "tuple", data := .seq rest.toArray }).push { cls := .ref C, data := .fields #[.ref h.objs.size, .none, .none, .none, .bool false, .none] }).get? b = some o :=
  fun b o e => Heap.get?_push_of_some _ (Heap.get?_push_of_some _ e)
 have hC₁ := up _ _ hC
 have X₁ := X.keeps up
 have hget : ((h.push { cls := .type "tuple", data := .seq rest.toArray }).push
   { cls := .ref C, data := .fields #[.ref h.objs.size, .none, .none, .none, .bool false, .none] }).get? (h.objs.size + 1) = some
   { cls := .ref C, data := .fields #[.ref h.objs.size, .none, .none, .none, .bool false, .none] } := by heap_get
 have hcC : (Value.ref C :: bm).contains (.ref C) = true := by simp
 unfold isInstance
 repeat (first | with_reducible refine wpAny_loadPart_at hget ?_ | (with_reducible refine wpAny_isSubtype_exc hC₁ ?_; rw [hcC]) | wp_step)
 show wpAny _ _ (typeLookup (.ref C) _) _ _ _
 refine (looks_findIn X₁ hi).here ?_
 refine wpAny_holding (HI ?_)
 refine (bind_fn X₁ _ hty).here ?_
 refine HI (wpAny_mono (hq _ (h.objs.size + 1) ⟨up, Heap.get?_none_of_le (Nat.le_succ _), h.objs.size, hget, Heap.get?_none_of_le (Nat.le_refl _), ?_⟩) (fun r s' hr => ?_) fun _ _ x => x)
 ·exact Heap.get?_push_of_some _ (Heap.get?_push_at rfl rfl)
 ·obtain ⟨rfl, hQ⟩ := hr
  wp_walk
  exact hQ
theorem FR (F : ExcBaseFacts B newId initId bmB) (hB : bm.contains (.type B) = true) (hA : bm.contains (.type "AttributeError") = false) (hN : bm.contains (.type "NameError") = false) {rest : List Value} {fI : Addr} {Q : Value → Shared → Prop}
  (X : K.In h) (hC : h.get? C = some (excClassObj nm q C N bs bm hdct sn sub ab col dd k0 k1 k2 k3 k5 newId)) (hi : findIn K (.ref C) "__init__" = some (some (.ref fI))) (hty : typeIn K (.ref fI) = some (.type "function"))
  (hq : ∀ h' e, Heap.MadeExcOf h h' e (.ref C) rest →
   wpAny (model prog w) (A.under (.builtin "type.__call__" ⟨.ref C :: rest, []⟩)) (call (.ref fI) (.ref e :: rest)) (fun r s' => r = .none ∧ Q (.ref e) s') E ⟨h', g, d, t, os⟩) (hrest : autoParam (rest.length ≤ sizeLine) HO) :
  wpAny (model prog w) A (call (.ref C) rest) Q E ⟨h, g, d, t, os⟩ := by
 have f1 := tc_lookup
 have f2 := tc_bind (.ref C)
 have hT : (⟨h, g, d, t, os⟩ : Shared).TypeIs (.ref C) "type" := ⟨_, hC, rfl⟩
 refine wpAny_call (codeAny_of_tree ?_)
 show wpAny _ _ (callAny (.ref C) _) _ _ _
 repeat (any_goals (first | assumption | with_reducible refine wpAny_loadPart_at hC ?_ | wp_step))
 refine ⟨rfl, ?_⟩
 refine codeAny_call_builtin_at (Code.quiet_builtin _ (by decide +kernel)) entry_typeCall (wpAny_check_type_call_sub hC (ym (hrest := hrest) F hB hA hN X hC hi hty fun h' e hm => ?_))
 exact hq h' e hm
end
end
section
noncomputable abbrev mC (C D : Addr) : List Value := [.ref C, .ref D, .type "Exception", .type "BaseException", .type "object"]
noncomputable abbrev iE (t : Addr) : Data := .fields #[.ref t, .none, .none, .none, .bool false, .none]
noncomputable def G1 (h : Heap) (e C : Addr) (od : Option Addr) : Prop :=
 ∃ oe t, h.get? e = some oe ∧ oe.cls = .ref C ∧ oe.data = iE t ∧ oe.dict = od ∧ match od with | none => True | some dx => dx ≠ e ∧ ∃ m ns, h.Ns1 dx m ∧ Within m ns ∧ ns.length ≤ 5
noncomputable def GD (h h' : Heap) (T : List Addr) : Prop := ∀ b o, b ∉ T → h.get? b = some o → h'.get? b = some o
section
variable {prog : Program} {w : World} {A : Around} {E : Value → Shared → Prop} {K : Frag} {C D e : Addr} {cd : ClassData} {name : Str} {v : Value} {od : Option Addr} {s : Shared}
theorem GE {tk : Tok} {R : Result → Shared → Prop} {ox : Obj} (X : K.In s.heap) (hx : s.heap.get? e = some ox) (hcl : ox.cls = .ref C) (hnc : ∀ c, ox.data ≠ .cls c) (hc : clsIn K C = some cd) (hm : cd.mro = mC C D) (hf : findIn K (.ref C) name = some none)
  (h : wpAny (model prog w) A.in1 (Builtin.ObjectAttr.storeInOwnDict (.ref e) (.ref C) (.str name tk) name v false)
   (fun fin s' => match fin with | .done f => R (.ok f) s' | .again c' => c'.quiet = true ∧ codeAny (model prog w) A c' R s') (fun e s' => R (.error e) s') s) :
  codeAny (model prog w) A (.call (.builtin "object.__setattr__") ⟨[.ref e, .str name tk, v], []⟩) R s := by
 have SF := PySem.F.store_Exception
 have ht : Looks (model prog w) s.heap (typeOf (.ref e)) (.ref C) := by rw [← hcl]; exact (Looks.ld hx).andThen .now
 have hmm : Looks (model prog w) s.heap (mroOf (.ref C)) cd.mro := (looks_clsIn X hc).andThen .now
 have sub : Looks (model prog w) s.heap (isInstance (.ref e) (.type "object")) true := ht.andThen (looks_mroIn X (by unfold mroIn; rw [hc, Option.bind_some, hm]; rfl))
 refine codeAny_call_builtin SF.slot.plain SF.entry (@check_slot (model prog w) _ _ s "object.__setattr__" "object" "__setattr__" (.ref e) [.str name tk, v] [] _ SF.kind SF.split sub (SF.args (.ref e) (.str name tk) v) ?_)
 rw [osa_eq, refuse_eq]
 refine HI (HI (ht.here (HI (hmm.here ?_))))
 rw [hm, refuseLoop_ref, refuseLoop_ref, SF.passes]
 refine HJ (HI (ht.here (HI ((looks_findIn X hf).here (HI (HJ ?_))))))
 exact h
theorem vV {Q : Unit → Shared → Prop} (X : K.In s.heap) (I : G1 s.heap e C od) (hc : clsIn K C = some cd) (hm : cd.mro = mC C D) (hdc : cd.hasDict = true) (hf : findIn K (.ref C) name = some none)
  (hsa : findIn K (.ref C) "__setattr__" = some (some (.builtin "object.__setattr__"))) (hnm : ∀ ns : List Str, ns.length ≤ 3 → (name :: ns).length ≤ 5)
  (hod : match od with | none => True | some dx => ∃ m ns, s.heap.Ns1 dx m ∧ Within m ns ∧ ns.length ≤ 4)
  (hQ : ∀ h' tk dx, GD s.heap h' (e :: od.toList) → G1 h' e C (some dx) → (od = none → s.heap.get? dx = none) → (∀ dx', od = some dx' → dx = dx') → (∃ m ns, h'.Ns1 dx m ∧ Within m ns ∧ ns.length ≤ (match od with | none => 1 | some _ => 5)) → Q () { s with heap := h', toks := tk }) :
  wpAny (model prog w) A (setAttr (.ref e) name v) Q E s := by
 obtain ⟨oe, t, hx, hcl, hdt, hdo, hr⟩ := I
 obtain ⟨oc, odi, oda, osl⟩ := oe
 dsimp only at hcl hdt hdo
 subst hcl; subst hdt; subst hdo
 obtain ⟨h, g, d, tk, os⟩ := s
 dsimp only at *
 have ht : Looks (model prog w) h (typeOf (.ref e)) (.ref C) := (Looks.ld hx).andThen .now
 refine HI (wpAny_mkText (HI (HI (HI (ht _ _ _ _ (fun _ _ e => e) (looks_findIn X hsa _ _ _ _ (fun _ _ e => e) (wpAny_holding ?_)))))))
 rw [PySem.F.store_object.slot.bind]
 refine HI (HJ (HI (wpAny_call ?_)))
 refine GE (s := ⟨h, g, d, tk + 1, os⟩) X hx rfl (fun c q => nomatch q) hc hm hf ?_
 refine HI (HJ (HI (HI (wpAny_loadPart hx (HI ((looks_clsIn X hc).here ?_))))))
 rw [hdc]
 cases odi with
 | none =>
  have hx₁ : (h.push { cls := .type "dict", data := .dict #[] }).get? e = some ⟨.ref C, none, iE t, osl⟩ := Heap.get?_push_of_some _ hx
  have hxs : e ≠ h.objs.size := Nat.ne_of_lt (Heap.lt_size hx)
  refine HI (wpAny_alloc' ?_)
  refine HI (wpAny_update' hx₁ ?_)
  refine HJ ?_
  have hgd : ((h.push { cls := .type "dict", data := .dict #[] }).update e fun o => { cls := o.cls, dict := some h.objs.size, data := o.data, slots := o.slots }).get? h.objs.size
    = some { cls := .type "dict", data := .dict #[] } :=
   (Heap.get?_update_ne _ _ _ _ hxs.symm).trans (Heap.get?_push_at rfl rfl)
  have hnd : ((h.push { cls := .type "dict", data := .dict #[] }).update e fun o => { cls := o.cls, dict := some h.objs.size, data := o.data, slots := o.slots }).Ns h.objs.size (fun _ => none) :=
   ⟨_, #[], _, hgd, rfl, fun e he => absurd he (by simp), fun _ => rfl⟩
  show wpAny _ _ (Builtin.ObjectAttr.storeInDict h.objs.size (.str name tk) name v) _ _ _
  unfold Builtin.ObjectAttr.storeInDict Builtin.ObjectAttr.newKeyGuard
  refine HI (HJ (HI (wpAny_nsSet1 (Heap.Ns1.of_empty hnd) fun h' hn' hs => ?_)))
  have hwi := Within.cons (m := fun _ => none) name v (ns := []) Within.nil
  obtain ⟨oD, esD, epD, hoD, hdD, hcD⟩ := hn'.count hwi
  refine HI (wpAny_lookBehind hoD (by rw [hdD]; exact pastItsLine_dict (Nat.le_trans hcD (by rw [aB, aM, sizeLine_eq]; decide))) ?_)
  refine HJ ?_
  have hx' : h'.get? e = some ⟨.ref C, some h.objs.size, iE t, osl⟩ := (hs.2 e hxs).trans (Heap.get?_update_self _ hx₁ rfl)
  refine HJ (HJ (hQ _ _ h.objs.size (fun b o hb q => ?_) ⟨_, t, hx', rfl, rfl, rfl, hxs.symm, _, _, hn', hwi, by simp⟩ (fun _ => Heap.get?_none_of_le (Nat.le_refl _)) (fun _ q => nomatch q) ⟨_, _, hn', hwi, by simp⟩))
  simp only [Option.toList, List.mem_cons, List.not_mem_nil, or_false] at hb
  exact (hs.2 b (Nat.ne_of_lt (Heap.lt_size q))).trans ((Heap.get?_update_ne _ _ _ _ hb).trans (Heap.get?_push_of_some _ q))
 | some dx =>
  obtain ⟨hne, _⟩ := hr
  obtain ⟨m, ns, hns, hw, hln⟩ := hod
  refine HJ ?_
  show wpAny _ _ (Builtin.ObjectAttr.storeInDict dx (.str name tk) name v) _ _ _
  unfold Builtin.ObjectAttr.storeInDict Builtin.ObjectAttr.newKeyGuard
  refine HI (HJ (HI (wpAny_nsSet1 hns fun h' hn' hs => ?_)))
  have hwi := Within.cons name v hw
  obtain ⟨oD, esD, epD, hoD, hdD, hcD⟩ := hn'.count hwi
  refine HI (wpAny_lookBehind hoD (by rw [hdD]; exact pastItsLine_dict (Nat.le_trans hcD (by rw [aB, sizeLine_eq]; exact nB))) ?_)
  refine HJ ?_
  refine HJ (HJ (hQ _ _ dx (fun b o hb q => ?_) ⟨_, t, (hs.2 e hne.symm).trans hx, rfl, rfl, rfl, hne, _, _, hn', hwi, by simp; exact ooK⟩ (fun q => nomatch q) (fun _ q => Option.some.inj q) ⟨_, _, hn', hwi, by simp; exact ooK⟩))
  simp only [Option.toList, List.mem_cons, List.not_mem_nil, or_false, not_or] at hb
  exact (hs.2 b hb.2).trans q
end
end
section
noncomputable abbrev jO (e : Addr) : Obj := { cls := .type "method-wrapper", data := .fields #[.builtin "Exception.__init__", .ref e] }
theorem r8 : Slot "wrapper_descriptor" "__get__" "wrapper_descriptor.__get__" :=
 .of (owner := "wrapper_descriptor") (n := "__get__") (by rw [typeLookup_type, builtinLookup_eq_fast]; kernel_rfl) (by decide +kernel) (by decide +kernel) (by decide +kernel)
  (by first | exact .inl (by decide +kernel) | exact .inr (by decide +kernel)) (by rw [isSubtype_type]; kernel_rfl)
theorem wP : entryFor table "wrapper_descriptor.__get__" = some Builtin.«wrapper_descriptor.__get__» := entryFor_of_tree (by kernel_rfl)
theorem yn (a b c : Value) : argsOk "wrapper_descriptor.__get__" ⟨[a, b, c], []⟩ := by unfold argsOk; kernel_rfl
theorem AG : typeOf (.builtin "Exception.__init__") = pure (.type "wrapper_descriptor") := by show builtinType _ = _; rw [builtinType_eq_fast]; kernel_rfl
theorem Dc (e v : Value) (F : ExcBaseFacts "Exception" "Exception.__new__" "Exception.__init__" [.type "Exception", .type "BaseException", .type "object"]) : checkBoundCall "Exception.__init__" ⟨[e, v], []⟩ = Bind.checkArgs "Exception.__init__" ⟨.positional, "*", "Exception", .self, [⟨"args", .varPos, false⟩]⟩ ⟨[e, v], []⟩ := by
 simp only [checkBoundCall, F.initKind, F.initRow]
 rfl
section
variable {prog : Program} {w : World} {M : Model} {A : Around} {E : Value → Shared → Prop} {h : Heap} {g : Array GenState} {d : Drawn} {t : Nat} {os : OsState} {K : Frag} {e C D so : Addr}
theorem Bv {oe : Obj} {Q : Fin → Shared → Prop} (X : K.In h) (he : h.get? e = some oe) (hcl : oe.cls = .ref C) (hsub : mroIn K C (.type "Exception") = some true)
  (hq : Q (.done (.ret (.ref h.objs.size))) ⟨h.push (jO e), g, d, t, os⟩) :
  wpAny M A (Builtin.«wrapper_descriptor.__get__» ⟨[.builtin "Exception.__init__", .ref e, .ref C], []⟩) Q E ⟨h, g, d, t, os⟩ := by
 have ht : Looks M h (isInstance (.ref e) (.type "Exception")) true := ((Looks.ld he).andThen (by rw [hcl]; exact .now)).andThen (looks_mroIn X hsub)
 unfold Builtin.«wrapper_descriptor.__get__»
 refine HI (wpAny_of_eq (a := (.builtin "Exception.__init__", some (.ref e), some (.ref C))) (by first | rfl | kernel_rfl) ?_)
 dsimp only
 refine HI (HI (wpAny_of_eq (a := (("__init__" : Str), .type "Exception")) (by first | rfl | kernel_rfl) ?_))
 refine HI (ht.here ?_)
 exact HJ (HI (wpAny_newObj_type (HJ hq)))
theorem zM {oe : Obj} {cd : ClassData} {name : Str} {tk : Tok} {Q : Fin → Shared → Prop} (X : K.In h) (hne : e ≠ C)
  (hso : h.get? so = some (ks_superObj D e C)) (hno : Looks (model prog w) h (opaqueClassAbove (.ref C)) none) (he : h.get? e = some oe) (hcl : oe.cls = .ref C) (hsub : mroIn K C (.type "Exception") = some true)
  {l : List Value} (hc : clsIn K C = some cd) (hl0 : (cd.mro.dropWhile (· != .ref D)).drop 1 = l) (hl : alongIn K name l = some (some (.builtin "Exception.__init__"))) (hn : (name == ("__class__" : Str)) = false)
  (hq : Q (.done (.ret (.ref h.objs.size))) ⟨h.push (jO e), g, d, t, os⟩) :
  wpAny (model prog w) A (Builtin.«super.__getattribute__» ⟨[.ref so, .str name tk], []⟩) Q E ⟨h, g, d, t, os⟩ := by
 have hlk := r8.lookup
 have hC : Looks (model prog w) h (mroOf (.ref C)) cd.mro := (looks_clsIn X hc).andThen .now
 have hne' : (Value.ref e == Value.ref C) = false := by simp [hne]
 have hdt : (ks_superObj D e C).data = .fields #[.ref D, .ref e, .ref C] := rfl
 have f0 : (#[.ref D, .ref e, .ref C] : Array Value)[0]? = some (.ref D) := rfl
 have f1 : (#[.ref D, .ref e, .ref C] : Array Value)[1]? = some (.ref e) := rfl
 have f2 : (#[.ref D, .ref e, .ref C] : Array Value)[2]? = some (.ref C) := rfl
 have hT : (⟨h, g, d, t, os⟩ : Shared).TypeIs (.builtin "Exception.__init__") "wrapper_descriptor" := AG
 unfold Builtin.«super.__getattribute__»
 repeat (first
  | (with_reducible refine wpAny_field hso hdt f0 ?_) | (with_reducible refine wpAny_field hso hdt f1 ?_) | (with_reducible refine wpAny_field hso hdt f2 ?_)
  | (with_reducible refine PySem.ks_wpAny_notOpaque hno ?_)
  | (with_reducible refine Looks.at hC ?_; rw [hl0])
  | (refine PySem.ks_forIn_along X (fun _ _ => rfl) rfl ?_ hl
     refine HI (wpAny_of_eq AG ?_)
     refine HI (wpAny_of_eq hlk ?_)
     dsimp only
     rw [hne']
     refine HI (wpAny_holding (wpAny_call_entry r8 hT wP (Bv X he hcl hsub ⟨_, rfl, ?_⟩) (yn _ _ _)))
     refine HI (HJ (HJ ?_))
     exact HJ hq)
  | (simp only [hn, Bool.or_false, Bool.false_eq_true, if_false])
  | wp_step
  | dsimp only)
theorem yo {oe : Obj} {cd : ClassData} {name : Str} {pl : Sem Bool} {Q : Value × List Value → Shared → Prop} (X : K.In h) (hne : e ≠ C)
  (hso : h.get? so = some (ks_superObj D e C)) (hno : Looks (model prog w) h (opaqueClassAbove (.ref C)) none) (he : h.get? e = some oe) (hcl : oe.cls = .ref C) (hsub : mroIn K C (.type "Exception") = some true)
  {l : List Value} (hc : clsIn K C = some cd) (hl0 : (cd.mro.dropWhile (· != .ref D)).drop 1 = l) (hl : alongIn K name l = some (some (.builtin "Exception.__init__"))) (hn : (name == ("__class__" : Str)) = false)
  (hq : Q (.ref h.objs.size, []) ⟨h.push (jO e), g, d, t + 1, os⟩) :
  wpAny (model prog w) A (getMethod (.ref so) name pl) Q E ⟨h, g, d, t, os⟩ := by
 have hlk := PySem.F.ks_slot_super_ga.lookup
 have hcan := PySem.F.ks_canon_super_ga
 have hT : ∀ t', (⟨h, g, d, t', os⟩ : Shared).TypeIs (.ref so) "super" := fun _ => ⟨_, hso, rfl⟩
 unfold getMethod
 refine HI (wpAny_specialOf (hT _) hlk ?_)
 show wpAny _ _ (if (Manifest.canonical "super.__getattribute__" != "object.__getattribute__") = true then _ else _) _ _ _
 rw [if_pos hcan]
 unfold getAttr getAttrBy
 refine HI (HI (wpAny_mkText (wpAny_holding (HI (wpAny_typeOf (hT _) (HI (wpAny_of_eq hlk ?_)))))))
 show wpAny _ _ (getAttrByItsOwn (.ref so) (.str name t) (.type "super") (.builtin "super.__getattribute__") true false) _ _ _
 unfold getAttrByItsOwn hookBefore callGetattribute boundAndCalled
 refine HI (wpAny_of_eq (show (if onTheHeap (.type "super") then typeLookup (.type "super") "__getattr__" else pure none) = pure none from rfl) ?_)
 refine HI (wpAny_attempt (wpAny_holding ?_))
 show wpAny _ _ (bindSpecial (.builtin "super.__getattribute__") (.ref so) >>= _) _ _ _
 refine HI (wpAny_of_eq (PySem.F.ks_slot_super_ga.bind _) ?_)
 refine wpAny_mono (Q := fun v s' => v = .ref h.objs.size ∧ s' = ⟨h.push (jO e), g, d, t + 1, os⟩) (E := fun _ _ => False)
  (wpAny_call_entry PySem.F.ks_slot_super_ga (hT _) PySem.F.ks_entry_super_ga (zM X hne hso hno he hcl hsub hc hl0 hl hn ⟨_, rfl, rfl, rfl⟩) (PySem.F.ks_gaArgs_super _ _)) (fun v s' hv => ?_) fun _ _ z => z.elim
 obtain ⟨rfl, rfl⟩ := hv
 exact HJ (HJ hq)
theorem u9 {q : Addr} : ∀ h : Heap, h.get? q = some (jO e) → ∃ k, (k = Keeper.frame ∨ k = Keeper.machine ∨ k = Keeper.boundFrame) ∧ Looks M h (keeperOf (.ref q)) k := fun h x =>
 ⟨.machine, .inr (.inl rfl), (Looks.ld (part := none) x).andThen .now⟩
theorem vc {q f : Addr} {self : Value} (hf : fnIn K f = true) : ∀ h : Heap, (h.get? q = some (methodObj (.ref f) self) ∧ K.In h) → ∃ k, (k = Keeper.frame ∨ k = Keeper.machine ∨ k = Keeper.boundFrame) ∧ Looks M h (keeperOf (.ref q)) k := fun h x =>
 keeps_M hf h x
theorem yq {q : Addr} {oe : Obj} {tt : Addr} {v : Value} {Q : Value → Shared → Prop} (F : ExcBaseFacts "Exception" "Exception.__new__" "Exception.__init__" [.type "Exception", .type "BaseException", .type "object"])
  (X : K.In h) {cd : ClassData} (hcl : oe.cls = .ref C) (hc : clsIn K C = some cd) (hq0 : h.get? q = some (jO e)) (he : h.get? e = some oe) (hd : oe.data = iE tt)
  (hq : ∀ h' t2, (∀ b o, b ≠ e → h.get? b = some o → h'.get? b = some o) → h'.get? e = some { oe with data := iE t2 } → Q .none ⟨h', g, d, t, os⟩) :
  wpAny (model prog w) A (call (.ref q) [v]) Q E ⟨h, g, d, t, os⟩ := by
 refine wpAny_call (codeAny_of_tree ?_)
 show wpAny _ A.in1 (callAny (.ref q) ⟨[v], []⟩) _ _ _
 simp only [callAny]
 refine HI (wpAny_load hq0 ?_)
 dsimp only
 refine KFB.if_so (by decide) ?_
 refine KFB.if_so (by decide) ?_
 refine HI ?_
 rw [show (#[Value.builtin "Exception.__init__", Value.ref e] : Array Value)[1] = .ref e from rfl, Dc (.ref e) v F]
 have Lc : Looks (model prog w) h (classData C) cd := looks_clsIn X hc
 unfold Bind.checkArgs
 dsimp only
 refine wpAny_mono (Q := fun _ s' => s' = ⟨h, g, d, t, os⟩) (E := fun _ _ => False) ?_ (fun _ s' hs => ?_) fun _ _ z => z.elim
 ·repeat (first | (with_reducible refine wpAny_loadPart_at he ?_; rw [hcl]) | (with_reducible refine Lc.at ?_) | wp_step)
  all_goals rfl
 subst hs
 refine HJ ?_
 refine ⟨Code.quiet_builtin _ (by decide +kernel), codeAny_builtin F.initEntry ?_⟩
 obtain ⟨oc, odi, oda, osl⟩ := oe
 dsimp only at hd
 subst hd
 wp_walk
 refine hq _ h.objs.size (fun b o hb z => ?_) ?_
 ·rw [Heap.get?_update_other _ _ (Ne.symm hb)]
  exact Heap.get?_push_of_some _ z
 ·rw [Heap.get?_update_self _ (Heap.get?_push_of_some _ he) rfl]
  rfl
end
end
section
noncomputable abbrev FS (p : P) (f : Addr) (qual : Str) (xs : List Str) (cda cc : Addr) (scope : Scope) (body : List Stmt) : Prop := G4 fun oc od osl name params dV kV doc pm an ct ar => Ef (p.K.lookup f = some ⟨oc, od, .func (ksFn name qual params body scope dV kV doc pm an (.ref cda) ct cc), osl⟩) ((params.posonlyargs ++ params.args).head? = some ar) (ar.arg = ("self" : Str)) (∀ vs : List Value, vs.length = xs.length → bindArgs (ksFn name qual params body scope dV kV doc pm an (.ref cda) ct cc) ⟨vs, []⟩ = pure (xs.zip vs))
noncomputable abbrev Ey (f : Addr) (qual field : Str) (cda cc : Addr) (scope : Scope) (body : List Stmt) : Prop := Gk fun p0 p1 p2 p3 p4 p5 p6 p7 p8 p9 => Hu (body = [.Expr (.Call (.Attribute (.Call (.Name "super" p0) [] [] p1) "__init__" p2) [.Name "what" p3] [] p4) p5, .Assign [.Attribute (.Name "self" p6) field p7] (.Name field p8) p9]) (∀ L, ∃ pl, eval (.Call (.Attribute (.Call (.Name "super" p0) [] [] p1) "__init__" p2) [.Name "what" p3] [] p4) (ksEnv qual scope L f (.ref cda) cc) = (do
   let ov ← attributeBase (.Call (.Name "super" p0) [] [] p1) "__init__" (ksEnv qual scope L f (.ref cda) cc) (eval (.Call (.Name "super" p0) [] [] p1) (ksEnv qual scope L f (.ref cda) cc))
   standAt p2.atName
   let (ff, first) ← holding [ov] (getMethod ov "__init__" pl)
   callWith p4 ff first (backTo p4 (starEach [.Name "what" p3] (ksEnv qual scope L f (.ref cda) cc))) []))
structure rf (p : P) (f : Addr) (qual : Str) (xs : List Str) (field : Str) (cda cc D : Addr) (scope : Scope) (body : List Stmt) : Prop where
 ex : FS p f qual xs cda cc scope body
 bod : Ey f qual field cda cc scope body
 code : codeIn p.K (.ref cda) qual = true
 cell : ∃ cl cld csl, p.K.lookup cc = some ⟨cl, cld, .cell (some (.ref D)), csl⟩
 cls : ∃ cdD, clsIn p.K D = some cdD
 file : ∃ ccl cdd ccs vs tf file, p.K.lookup cda = some ⟨ccl, cdd, .fields vs, ccs⟩ ∧ vs[2]? = some (.str file tf) ∧ ((p.prog.main.file : Str) == file) = true
 fn : fnIn p.K f = true
 typ : typeIn p.K (.ref f) = some (.type "function")
 nsuper : p.mg "super" = none
 nany : nsIn p.K cStatics "thirdparty.any" = some none
 ntop : (p.prog.main.scope.names.lookup ("super" : Str)).isSome = false
 kind : scope.kind = .function
 ks : scope.names.lookup ("super" : Str) = some .globalImplicit
 kc : scope.names.lookup ("__class__" : Str) = some .free
 kself : scope.names.lookup ("self" : Str) = some .local
 kwhat : scope.names.lookup ("what" : Str) = some .local
 kfield : scope.names.lookup field = some .local
 dfield : (field == ("__debug__" : Str)) = false
 ncell : ∀ x ∈ scope.names, x.2 ≠ .cell
 loc : ∀ x ∈ xs, scope.names.lookup x = some .local
 co : scope.isCoroutine = false
 gen : scope.isGenerator = false
 at0 : xs[0]? = some ("self" : Str)
 at1 : xs[1]? = some ("what" : Str)
 nd : xs.Nodup
section
variable {p : P} {A : Around} {E : Value → Shared → Prop} {h : Heap} {g : Array GenState} {d : Drawn} {t : Nat} {os : OsState} {e C D so f cda cc L : Addr} {qual : Str} {xs : List Str} {field : Str} {scope : Scope} {body : List Stmt}
set_option tactic.hygienic true in
theorem FT {m : Str → Option Value} {oe : Obj} {body' : List Stmt} {p0 p1 : Pos} {attr : Str} {whole : Sem Value} {Q : Value → Shared → Prop} (I : rf p f qual xs field cda cc D scope body) (ok : p.Ok h) (hns : h.Ns L m) (hself : m "self" = some (.ref e))
  (he : h.get? e = some oe) (hcl : oe.cls = .ref C) (hnc : ∀ c, oe.data ≠ .cls c) (hsub : mroIn p.K C (.ref D) = some true) (hat : (attr == ("__class__" : Str)) = false)
  (hq : ∀ h' so, (∀ y o, h.get? y = some o → h'.get? y = some o) → h'.get? so = some (ks_superObj D e C) → Q (.ref so) ⟨h', g, d, t, os⟩) :
  _root_.PySem.wpAt (model p.prog p.w) A (.func body' (ksEnv qual scope L f (.ref cda) cc)) (attributeBase (.Call (.Name "super" p0) [] [] p1) attr (ksEnv qual scope L f (.ref cda) cc) whole) Q E ⟨h, g, d, t, os⟩ := by
 obtain ⟨oc, od, osl, name, params, dV, kV, doc, pm, an, ct, ar, hf, hp, har, _⟩ := I.ex
 obtain ⟨ccl, cdd, ccs, vs, tf, file, hcode, hvs, hfile⟩ := I.file
 obtain ⟨cl, cld, csl, hcell⟩ := I.cell
 obtain ⟨cdD, hD⟩ := I.cls
 have X : p.K.In h := ok.X
 obtain ⟨oD, hD1, hD2⟩ : ∃ oD, h.get? D = some oD ∧ oD.data = .cls cdD := by
  unfold clsIn at hD
  split at hD
  ·rename_i c d cd' sl ho
   cases hD
   exact ⟨_, X _ _ ho, rfl⟩
  ·cases hD
 refine PySem.ks_wpAt_super_base (env := ksEnv qual scope L f (.ref cda) cc) I.ks I.kc hat rfl (X _ _ hf) rfl hp rfl (X _ _ hcode) rfl hvs hfile I.ntop ?_
 refine ks_loadName_global I.kind I.ks (loadGlobal_builtin (env := ksEnv qual scope L f (.ref cda) cc) ok.g I.nsuper ok.b ((ok.builtins _ (by decide +kernel)).trans (by kernel_rfl : bootBuiltins "super" = some (.type "super"))) ⟨rfl, ?_⟩)
 refine wpAny_loadName_free I.kind I.kc rfl ⟨_, X _ _ hcell, rfl⟩ ?_
 rw [har]
 refine wpAny_loadName_local I.kind I.kself hns hself ?_
 refine PySem.ks_wpAny_isType_cls hD1 hD2 ⟨rfl, ?_⟩
 exact PySem.ks_wpAny_call_super hD1 hD2 he hcl hnc (looks_mroIn X hsub) fun h' e1 k => hq h' _ k e1
theorem Dd {vs : List Value} {v w : Value} {oe : Obj} {od0 : Option Addr} {Q : Value → Shared → Prop} (I : rf p f qual xs field cda cc D scope body) (hroom : A.depth < recursionLimit) (ok : p.Ok h) (hvs : vs.length = xs.length) (h0 : vs[0]? = some (.ref e)) (h1 : vs[1]? = some v)
  (hw : ∃ i : Nat, xs[i]? = some field ∧ vs[i]? = some w) (he : h.get? e = some oe) (hcl : oe.cls = .ref C) (hnc : ∀ c, oe.data ≠ .cls c) (hsub : mroIn p.K C (.ref D) = some true)
  (hnext : ∀ h1 L env pl so t' (E' : Value → Shared → Prop), (∀ y o, h.get? y = some o → h1.get? y = some o) → h.get? L = none → h1.get? so = some (ks_superObj D e C) → p.Ok h1 →
   wpAny (model p.prog p.w) (A.deeper env) (getMethod (.ref so) "__init__" pl) (fun fx s2 => fx.2 = [] ∧ (∃ pr : Heap → Prop, (∀ h, pr h → ∃ k, (k = Keeper.frame ∨ k = Keeper.machine ∨ k = Keeper.boundFrame) ∧ Looks (model p.prog p.w) h (keeperOf fx.1) k) ∧ pr s2.heap) ∧
    (∀ y o, h1.get? y = some o → s2.heap.get? y = some o) ∧
    wpAny (model p.prog p.w) (A.deeper env) (call fx.1 [v]) (fun r s3 => (∀ y o, y ≠ e → h1.get? y = some o → s3.heap.get? y = some o) ∧
     wpAny (model p.prog p.w) (A.deeper env) (setAttr (.ref e) field w) (fun _ s4 => Q .none s4) E' s3) E' s2) E' ⟨h1, g, d, t', os⟩) :
  codeAny (model p.prog p.w) A (.call (.ref f) ⟨vs, []⟩) (wants Q E) ⟨h, g, d, t, os⟩ := by
 obtain ⟨oc, od, osl, name, params, dV, kV, doc, pm, an, ct, ar, hf, hp, har, hbind⟩ := I.ex
 obtain ⟨p0, p1, p2, p3, p4, p5, p6, p7, p8, p9, hbody, hev⟩ := I.bod
 refine PySem.ks_codeAny_call_defAt (fd := ksFn name qual params body scope dV kV doc pm an (.ref cda) ct cc) (body := body) (binds := xs.zip vs) hroom (ok.X _ _ hf) rfl ok.nolimit (codeRec_of ok.X I.code) rfl (BindsTo.of_eq (hbind vs hvs)) I.ncell (fun x hx => ?_) (fun h₁ hns hk₁ => ?_) I.co I.gen I.kind
 ·exact I.loc x.1 (List.of_mem_zip hx).1
 ·have hLnone : h.get? h.objs.size = none := Heap.get?_none_of_le (Nat.le_refl _)
  have hlk : ∀ (i : Nat) (x : Str) (u : Value), xs[i]? = some x → vs[i]? = some u → (xs.zip vs).reverse.lookup x = some u := fun i x u hx hu => by
   refine pJ ?_ (List.mem_reverse.mpr (HM (i := i) (List.getElem?_zip_eq_some.mpr ⟨hx, hu⟩)))
   rw [List.map_reverse]
   refine (List.reverse_perm _).nodup_iff.mpr ?_
   rw [show (xs.zip vs).map (·.1) = xs from by rw [← List.unzip_fst, List.unzip_zip (by lia)]]
   exact I.nd
  have hL : (callEnv (ksFn name qual params body scope dV kV doc pm an (.ref cda) ct cc) h.objs.size f) = ksEnv qual scope h.objs.size f (.ref cda) cc := rfl
  rw [hL, hbody]
  generalize hLL : h.objs.size = L at *
  have ok1 : p.Ok h₁ := ok.keeps hk₁
  obtain ⟨pl, hev⟩ := hev L
  refine PySem.ks_wpAt_execs_cons (PySem.ks_wpAt_Expr_any (PySem.ks_wpAt_MethodCall (pl := pl) ?_ hev) (by simp [interactive, I.kind]) rfl)
  rw [← hbody]
  refine FT I ok1 hns (hlk 0 _ _ I.at0 h0) (hk₁ _ _ he) hcl hnc hsub rfl fun h2 so k2 e2 => ?_
  have up2 : ∀ y o, h.get? y = some o → h2.get? y = some o := fun y o z => k2 y o (hk₁ y o z)
  refine wpAny_mono (hnext h2 L _ _ so _ _ up2 hLnone e2 (ok1.keeps k2)) (fun fx s2 hfx => ?_) fun _ _ z => z
  obtain ⟨hfx0, ⟨pr, hk, hpr⟩, k3, hcall⟩ := hfx
  obtain ⟨fv, first⟩ := fx
  dsimp only at hfx0 hk hcall ⊢
  subst hfx0
  have hns2 : s2.heap.Ns L (fun x => (xs.zip vs).reverse.lookup x) := (hns.keeps k2).keeps k3
  refine bT (Pr := pr) rfl hk ?_
  refine spliced_more (wpAny_Name (wpAny_loadName_local I.kind I.kwhat hns2 (hlk 1 _ _ I.at1 h1) ?_)) rfl
  refine spliced_none ⟨hpr, ?_⟩
  refine wpAny_mono hcall (fun r s3 hr => ?_) fun _ _ z => z
  obtain ⟨k4, hset⟩ := hr
  have hLe : L ≠ e := fun q => by rw [q, he] at hLnone; cases hLnone
  have hns3 : s3.heap.Ns L (fun x => (xs.zip vs).reverse.lookup x) := (hns.keeps k2).at' fun o z => k4 L o hLe z
  obtain ⟨i, hwi, hwv⟩ := hw
  refine _root_.PySem.wpAt_of_wpAny ?_
  refine wpAny_execs_cons (plainObj_wpAny_Assign_Attribute (wpAny_Name (wpAny_loadName_local I.kind I.kfield hns3 (hlk i _ _ hwi hwv) ?_) I.dfield) rfl)
  refine wpAny_Name (wpAny_loadName_local I.kind I.kself hns3 (hlk 0 _ _ I.at0 h0) ?_)
  refine wpAny_mono hset (fun _ s4 hs4 => ?_) fun _ _ z => z
  exact wpAny_execs_nil hs4
end
end
section
noncomputable abbrev De (p : P) (C D : Addr) : Prop := G5 fun nm q N bs sn sub ab col dd k0 k1 k2 k3 k5 => p.K.lookup C = some (excClassObj nm q C N bs [.ref D, .type "Exception", .type "BaseException", .type "object"] true sn sub ab col dd k0 k1 k2 k3 k5 "Exception.__new__")
structure hO (p : P) (C D f1 f2 : Addr) : Prop where
 obj : De p C D
 init : findIn p.K (.ref C) "__init__" = some (some (.ref f1))
 sa : findIn p.K (.ref C) "__setattr__" = some (some (.builtin "object.__setattr__"))
 what : findIn p.K (.ref C) "what" = some none
 step : findIn p.K (.ref C) "step" = some none
 al1 : alongIn p.K "__init__" [.ref D, .type "Exception", .type "BaseException", .type "object"] = some (some (.ref f2))
 al2 : alongIn p.K "__init__" [.type "Exception", .type "BaseException", .type "object"] = some (some (.builtin "Exception.__init__"))
 ne : C ≠ D
 i1 : Fd fun qual cda cc scope body => rf p f1 qual ["self", "what", "step"] "step" cda cc C scope body
 i2 : Fd fun qual cda cc scope body => rf p f2 qual ["self", "what"] "what" cda cc D scope body
section
variable {p : P} {A : Around} {E : Value → Shared → Prop} {h : Heap} {g : Array GenState} {d : Drawn} {t : Nat} {os : OsState} {e C D f1 f2 : Addr}
theorem hO.cls (F : hO p C D f1 f2) : ∃ cd, clsIn p.K C = some cd ∧ cd.mro = mC C D ∧ cd.hasDict = true := by
 obtain ⟨nm, q, N, bs, sn, sub, ab, col, dd, k0, k1, k2, k3, k5, e⟩ := F.obj
 exact ⟨_, by unfold clsIn; rw [e], rfl, rfl⟩
theorem hO.mro (F : hO p C D f1 f2) {v : Value} (hv : (mC C D).contains v = true) : mroIn p.K C v = some true := by
 obtain ⟨cd, e, m, _⟩ := F.cls
 unfold mroIn
 rw [e, Option.bind_some, m, if_neg (by simp), hv]
theorem Ez {v : Value} {Q : Value → Shared → Prop} (F : hO p C D f1 f2) (hroom : A.depth + 2 < recursionLimit) (ok : p.Ok h) (I : G1 h e C none) (hne : e ≠ C) (hKe : p.K.lookup e = none)
  (hQ : ∀ h' tk dx, GD h h' [e] → G1 h' e C (some dx) → h.get? dx = none → (∃ m ns, h'.Ns1 dx m ∧ Within m ns ∧ ns.length ≤ 1) → Q .none ⟨h', g, d, tk, os⟩) :
  codeAny (model p.prog p.w) A (.call (.ref f2) ⟨[.ref e, v], []⟩) (wants Q E) ⟨h, g, d, t, os⟩ := by
 obtain ⟨qual, cda, cc, scope, body, I2⟩ := F.i2
 obtain ⟨cd, hcd, hmro, hdict⟩ := F.cls
 obtain ⟨oe, tt, he, hcl, hdt, hdo, _⟩ := I
 have hl0 : (cd.mro.dropWhile (· != .ref D)).drop 1 = [.type "Exception", .type "BaseException", .type "object"] := by
  rw [hmro]
  have : (Value.ref C != Value.ref D) = true := by simpa using F.ne
  simp [mC, List.dropWhile, this]
 refine Dd (w := v) (oe := oe) (od0 := none) I2 (by lia) ok rfl rfl rfl ⟨1, rfl, rfl⟩ he hcl (by rw [hdt]; intro c q; cases q) (F.mro (by simp [mC])) fun h1 L env pl so t' E' up hL hso ok1 => ?_
 have he1 := up _ _ he
 refine yo ok1.X hne hso (looks_opaque ok1.X I2.nany) he1 hcl (F.mro (by simp [mC])) hcd hl0 F.al2 rfl ?_
 have ex1 : ∀ y o, h1.get? y = some o → (h1.push (jO e)).get? y = some o := fun y o z => Heap.get?_push_of_some _ z
 refine ⟨rfl, ⟨fun h => h.get? h1.objs.size = some (jO e), fun h x => u9 h x, Heap.get?_push_size _ rfl⟩, ex1, ?_⟩
 refine yq PySem.F.excBase_Exception (ok1.X.keeps ex1) hcl hcd (Heap.get?_push_size _ rfl) (ex1 _ _ he1) hdt fun h3 t2 k3 e3 => ?_
 have k13 : ∀ y o, y ≠ e → h1.get? y = some o → h3.get? y = some o := fun y o hy z => k3 y o hy (ex1 y o z)
 refine ⟨k13, ?_⟩
 have ok3 : p.K.In h3 := fun a o z => by
  have := ok1.X a o z
  by_cases q : a = e
  ·subst q
   rw [hKe] at z; cases z
  ·exact k13 a o q this
 refine vV (s := ⟨h3, g, d, t' + 1, os⟩) (od := none) ok3 ⟨_, t2, e3, hcl, rfl, hdo, trivial⟩ hcd hmro hdict F.what F.sa (fun ns hn => by simp; exact nA) trivial fun h4 tk dx k4 x4 f4 _ n4 => ?_
 refine hQ h4 tk dx (fun b o hb z => k4 b o (by simpa using hb) (k13 b o (by simpa using hb) (up b o z))) x4 ?_ n4
 have := f4 rfl
 cases q : h.get? dx with
 | none => rfl
 | some o =>
  exfalso
  by_cases qe : dx = e
  ·obtain ⟨_, _, _, _, _, _, hne', _⟩ := x4
   exact hne' qe
  ·rw [k13 dx o qe (up dx o q)] at this; cases this
theorem GF {v1 v2 : Value} {Q : Value → Shared → Prop} (F : hO p C D f1 f2) (hroom : A.depth + 8 < recursionLimit) (ok : p.Ok h)
  (hQ : ∀ h' tk e, h.get? e = none → (∀ b o, h.get? b = some o → h'.get? b = some o) → (∃ oe tt, h'.get? e = some oe ∧ oe.cls = .ref C ∧ oe.data = iE tt) → Q (.ref e) ⟨h', g, d, tk, os⟩) :
  wpAny (model p.prog p.w) A (call (.ref C) [v1, v2]) Q E ⟨h, g, d, t, os⟩ := by
 obtain ⟨qual, cda, cc, scope, body, I1⟩ := F.i1
 obtain ⟨qual2, cda2, cc2, scope2, body2, I2⟩ := F.i2
 obtain ⟨cd, hcd, hmro, hdict⟩ := F.cls
 obtain ⟨nm, q, N, bs, sn, sub, ab, col, dd, k0, k1, k2, k3, k5, hobj⟩ := F.obj
 refine FR PySem.F.excBase_Exception (by simp) (by simp) (by simp) ok.X (ok.X _ _ hobj) F.init I1.typ (fun h1 e M => ?_) (by simp; decide)
 obtain ⟨tt, he, htt, _⟩ := M.there
 have hCn : e ≠ C := fun z => by have := ok.X _ _ hobj; rw [← z, M.new] at this; cases this
 have hKe : p.K.lookup e = none := by
  cases z : p.K.lookup e with
  | none => rfl
  | some o => have := ok.X _ _ z; rw [M.new] at this; cases this
 have ok1 := ok.keeps M.keeps
 have hl0 : (cd.mro.dropWhile (· != .ref C)).drop 1 = [.ref D, .type "Exception", .type "BaseException", .type "object"] := by
  rw [hmro]; simp [List.dropWhile]
 have hd1 : (A.under (.builtin "type.__call__" ⟨.ref C :: [v1, v2], []⟩)).depth + 4 < recursionLimit := by
  rw [depth_under_make]; lia
 refine wpAny_call (Dd (w := v2) (v := v1) (oe := _) (od0 := none) I1 (by lia) ok1 rfl rfl rfl ⟨2, rfl, rfl⟩ he rfl (by intro c q; cases q) (F.mro (by simp [mC])) fun h2 L env pl so t' E' up hL hso ok2 => ?_)
 have he2 := up _ _ he
 have hC2 : Looks (model p.prog p.w) h2 (mroOf (.ref C)) cd.mro := (looks_clsIn ok2.X hcd).andThen .now
 obtain ⟨of, hof, hofc⟩ : ∃ of, h2.get? f2 = some of ∧ of.cls = .type "function" := by
  have ht' : (p.K.lookup f2).map (·.cls) = some (.type "function") := I2.typ
  cases z : p.K.lookup f2 with
  | none => rw [z] at ht'; cases ht'
  | some of => rw [z] at ht'; exact ⟨of, ok2.X _ _ z, Option.some.inj ht'⟩
 refine PySem.ks_wpAny_getMethod_super hso (looks_opaque ok2.X I1.nany) hC2 hl0 ok2.X F.al1 hof hofc hCn rfl ?_
 have ex2 : ∀ y o, h2.get? y = some o → (h2.push { cls := .type "method", data := .fields #[.ref f2, .ref e] }).get? y = some o := fun y o z => Heap.get?_push_of_some _ z
 have hself : (h2.push { cls := .type "method", data := .fields #[.ref f2, .ref e] }).get? h2.objs.size = some (methodObj (.ref f2) (.ref e)) := Heap.get?_push_size _ rfl
 refine ⟨rfl, ⟨fun h => h.get? h2.objs.size = some (methodObj (.ref f2) (.ref e)) ∧ p.K.In h, vc I2.fn, hself, ok2.X.keeps ex2⟩, ex2, ?_⟩
 have ok3 := ok2.keeps ex2
 refine wpAny_call (method_call hself (Ez (t := t' + 1) F (by show (A.under (.builtin "type.__call__" ⟨.ref C :: [v1, v2], []⟩)).depth + 1 + 2 < _; exact nM) ok3 ⟨_, tt, ex2 _ _ he2, rfl, rfl, rfl, trivial⟩ hCn hKe fun h3 tk dx k3 x3 n3 m3 => ?_))
 have k23 : ∀ y o, y ≠ e → h2.get? y = some o → h3.get? y = some o := fun y o hy z => k3 y o (by simpa using hy) (ex2 y o z)
 refine ⟨k23, ?_⟩
 have kh : ∀ y o, h.get? y = some o → h3.get? y = some o := fun y o z => k23 y o (fun q => by rw [q, M.new] at z; cases z) (up y o (M.keeps y o z))
 have hdxn : h.get? dx = none := by
  cases z : h.get? dx with
  | none => rfl
  | some o => rw [ex2 _ _ (up _ _ (M.keeps _ _ z))] at n3; cases n3
 have x3' := x3
 obtain ⟨oe3, t3, he3, hcl3, hdt3, hdo3, hr3⟩ := x3
 obtain ⟨m, ns, hns, hw, hln⟩ := m3
 refine vV (s := ⟨h3, g, d, tk, os⟩) (od := some dx) (ok.X.keeps kh) x3' hcd hmro hdict F.step F.sa (fun ns hn => by simp; exact nA) ⟨m, ns, hns, hw, nA⟩ fun h4 tk4 dx4 k4 x4 f4 e4 n4 => ?_
 obtain ⟨oe4, t4, he4, hcl4, hdt4, _⟩ := x4
 refine ⟨rfl, hQ h4 tk4 e M.new (fun b o z => k4 b o (fun q => ?_) (kh b o z)) ⟨oe4, t4, he4, hcl4, hdt4⟩⟩
 simp only [Option.toList, List.mem_cons, List.not_mem_nil, or_false] at q
 rcases q with rfl | rfl
 ·rw [M.new] at z; cases z
 ·rw [hdxn] at z; cases z
end
end
section
section
variable {p : P} {c : Cx} {n : Nat} {X : XR} {C D f1 f2 : Addr}
theorem r9 {A : Around} {E : Value → Shared → Prop} {s : Shared} {env : Env} {x : Sem Value} {Q : Flow → Shared → Prop} (F : hO p C D f1 f2) (hh : A.handled = none)
  (h : wpAny (model p.prog p.w) A x (fun v s₁ => ∃ e oe tt, v = .ref e ∧ p.K.In s₁.heap ∧ s₁.heap.get? e = some oe ∧ oe.cls = .ref C ∧ oe.data = iE tt ∧ E (.ref e) s₁) E s) :
  wpAny (model p.prog p.w) A (raiseStmt env (some x) none) Q E s := by
 obtain ⟨nm, q, N, bs, sn, sub, ab, col, dd, k0, k1, k2, k3, k5, hobj⟩ := F.obj
 have hcB : (Value.ref C :: [.ref D, .type "Exception", .type "BaseException", .type "object"]).contains (.type "BaseException") = true := by simp
 unfold raiseStmt
 refine HI (wpAny_mono h (fun v s₁ h₁ => ?_) fun _ _ x => x)
 obtain ⟨e, oe, tt, rfl, hX, he, hcl, hdt, hE⟩ := h₁
 have hC := hX _ _ hobj
 obtain ⟨oc, odi, oda, osl⟩ := oe
 dsimp only at hcl hdt
 subst hcl; subst hdt
 obtain ⟨hp, g, d, tk, os⟩ := s₁
 repeat (first | with_reducible refine wpAny_loadPart_at he ?_ | with_reducible refine wpAny_loadPart_at hC ?_ | (with_reducible refine wpAny_isSubtype_exc hC ?_; rw [hcB]) | wp_step)
 exact wpAny_raiseNew_none hh hE
noncomputable def X1 (C L : Addr) : XR := fun A base x h' => ∃ e oe tt, x = .ref e ∧ (∀ a o, base.get? a = some o → h'.get? a = some o) ∧ base.get? e = none ∧ h'.get? e = some oe ∧ oe.cls = .ref C ∧ oe.data = iE tt ∧ ∃ o, h'.get? L = some o ∧ ∀ vs, o.data ≠ .fields vs
noncomputable def pc (fs : oy) : SC := fun σ k => fs σ fun ds σ1 => ds.length = 2 ∧ k .exc σ1
theorem EA {L : Addr} {x y : Str} {np cpos pos : Pos} {args : List Expr} {fs : oy} (F : hO p C D f1 f2) (hL : eE.ns L y ∈ c.locs) (hx : c.env.kindOf x = some .globalImplicit) (hg : c.env.globals = mainGlobals) (hv : p.mg x = some (.ref C)) (hk : keepIn p.K (.ref C) = true)
  (hs : xQ p c n args fs) (hX : ∀ A base x h', X1 C L A base x h' → X A base x h') (hn : autoParam (9 ≤ n) aD) (hp : autoParam (∀ pos, (backTo pos (starEach args c.env)).any (·.1) = false) aI) (hd : autoParam ((x == ("__debug__" : Str)) = false) aD) :
  Ex p c X n (.Raise (some (.Call (.Name x np) args [] cpos)) none pos) (pc fs) := fun A base σ s k Q E R S hf hQ hE => by
 rw [arm_exec_Raise]
 have main : wpAny (model p.prog p.w) A (eval (.Call (.Name x np) args [] cpos) c.env) (fun v s₁ => ∃ e oe tt, v = .ref e ∧ p.K.In s₁.heap ∧ s₁.heap.get? e = some oe ∧ oe.cls = .ref C ∧ oe.data = iE tt ∧ E (.ref e) s₁) E s := by
  refine wpAny_Call_NameR (iw S hx hg hv ?_ hd)
  refine bT (Pr := p.K.In) (hp cpos) (keeps_K hk) ?_
  refine hs A base σ s _ cpos _ E R.1 S hf fun ds σ1 vs h1 t1 hk1 S1 r1 g1 => ⟨S1.okh.X, ?_⟩
  obtain ⟨hlen, hk1⟩ := hk1
  have hlv : vs.length = 2 := by rw [r1.length, hlen]
  obtain ⟨v1, v2, rfl⟩ := mn hlv
  ·refine GF F (by have := R.dep; lia) S1.okh fun h' tk e hnew hkeep he => ?_
   obtain ⟨oe, tt, he1, hcl, hdt⟩ := he
   refine ⟨e, oe, tt, rfl, S1.okh.X.keeps hkeep, he1, hcl, hdt, ?_⟩
   refine hE σ1 (.ref e) h' tk hk1 (hX A base _ h' ⟨e, oe, tt, rfl, fun a o z => hkeep a o (S1.keep a o z), ?_, he1, hcl, hdt, ?_⟩)
   ·cases z : base.get? e with
    | none => rfl
    | some o => rw [S1.keep _ _ z] at hnew; cases hnew
   ·obtain ⟨⟨m, o, es, ep, ho, hdd, _⟩, _⟩ := S1.frm _ hL
    exact ⟨o, hkeep _ _ ho, fun vs q => by rw [hdd] at q; cases q⟩
 first
  | refine HI (wpAny_standAt (r9 F R.hd (HI (wpAny_mono main (fun v s₃ h₃ => HI (wpAny_standAt (HJ h₃))) fun _ _ x => x))))
  | (simp only [evalOpt, Option.map]; refine HI (wpAny_standAt (r9 F R.hd (HI (wpAny_mono main (fun v s₃ h₃ => HI (wpAny_standAt (HJ h₃))) fun _ _ x => x)))))
end
end
section
noncomputable def nT (l : List Env) : List Addr := l.filterMap (·.frame)
noncomputable def pC (h : Heap) (l : List Env) : Prop := ∀ env ∈ l, env.scope.kind ≠ .module ∧ ∃ L o, env.frame = some L ∧ h.get? L = some o ∧ ∀ vs, o.data ≠ .fields vs
theorem pC.slots {h h' : Heap} {l : List Env} (x : pC h l) (k : h.UpToSlots h') : pC h' l := fun env he => by
 obtain ⟨a, L, o, hf, ho, hd⟩ := x env he
 obtain ⟨sl, hs⟩ := k L o ho hd
 exact ⟨a, L, _, hf, hs, hd⟩
theorem pC.keeps {h h' : Heap} {l : List Env} (x : pC h l) (k : ∀ a o, h.get? a = some o → h'.get? a = some o) : pC h' l := x.slots (Heap.UpToSlots.of_keeps k)
theorem pC.fun {h B : Heap} : ∀ {l : List Env}, pC h l → (∀ a ∈ nT l, B.get? a = none) → h.FunFrames B l
 | [], _, _ => trivial
 | env :: l, x, hb => by
  obtain ⟨a, L, o, hf, ho, hd⟩ := x env c8
  refine ⟨a, ⟨L, o, hf, hb L (List.mem_filterMap.mpr ⟨env, c8, hf⟩), ho, hd⟩, pC.fun (fun e he => x e (dP _ he)) fun b hb' => hb b ?_⟩
  obtain ⟨e, he, h2⟩ := List.mem_filterMap.mp hb'
  exact List.mem_filterMap.mpr ⟨e, dP _ he, h2⟩
theorem pC.of_fun {h B : Heap} : ∀ {l : List Env}, h.FunFrames B l → pC h l
 | [], _ => fun _ q => nomatch q
 | env :: l, ⟨a, ⟨L, o, hf, _, ho, hd⟩, r⟩ => fun e he => by
  rcases HL he with rfl | he
  ·exact ⟨a, L, o, hf, ho, hd⟩
  ·exact pC.of_fun r e he
theorem pM {b b' : Heap} {a : Addr} (k : ∀ a o, b.get? a = some o → b'.get? a = some o) (e : b'.get? a = none) : b.get? a = none := by
 cases q : b.get? a with
 | none => rfl
 | some o => rw [k a o q] at e; cases e
theorem tc {b b' : Heap} (k : ∀ a o, b.get? a = some o → b'.get? a = some o) (l : List Addr) : ∀ a o, (hideAll b l).get? a = some o → (hideAll b' l).get? a = some o := fun a o e => by
 refine hideAll_get _ (k a o (of_hideAll _ e)) fun q => ?_
 rw [hideAll_none _ q] at e; cases e
theorem rg {B B' h : Heap} {e : Addr} {cls a0 fl : Value} (k : ∀ a o, B.get? a = some o → B'.get? a = some o) (x : h.TracedAtW B' e cls a0 fl) : h.TracedAtW B e cls a0 fl := by
 obtain ⟨oe, vs, T, oT, ts, h1, h2, h3, h4, h5, h6⟩ := x
 exact ⟨oe, vs, T, oT, ts, h1, h2, h3, h4, pM k h5, h6⟩
noncomputable def XT (C : Addr) (l : List Env) : XR := fun A base x h' => ∃ e, x = .ref e ∧ base.get? e = none ∧ base.UpToSlots h' ∧ pC h' l ∧
 ((∃ oe tt, (∀ a o, base.get? a = some o → h'.get? a = some o) ∧ h'.get? e = some oe ∧ oe.cls = .ref C ∧ oe.data = iE tt) ∨
   (∃ a0 fl, (fl = .none ∨ ∃ env L, l.head? = some env ∧ env.frame = some L ∧ fl = rawInt L) ∧ (hideAll base (nT l)).StaysIn h' ∧ h'.TracedAtW (hideAll base (nT l)) e (.ref C) a0 fl))
theorem AH {b b' h : Heap} (k : ∀ a o, b.get? a = some o → b'.get? a = some o) (x : b'.UpToSlots h) : b.UpToSlots h := fun a o e hn => x a o (k a o e) hn
theorem XT.less {C : Addr} {l : List Env} {A : Around} {base base' h : Heap} {x : Value} (k : ∀ a o, base.get? a = some o → base'.get? a = some o) (X : XT C l A base' x h) : XT C l A base x h := by
 obtain ⟨e, rfl, h1, h2, h3, h4⟩ := X
 refine ⟨e, rfl, pM k h1, AH k h2, h3, ?_⟩
 rcases h4 with ⟨oe, tt, a, b⟩ | ⟨a0, fl, hfl, a, b⟩
 ·exact .inl ⟨oe, tt, fun y o z => a y o (k y o z), b⟩
 ·exact .inr ⟨a0, fl, hfl, fun y o z => a y o (tc k _ y o z), rg (tc k _) b⟩
section
variable {M : Model} {A : Around} {E : Value → Shared → Prop} {s : Shared} {C L : Addr} {env : Env} {l : List Env} {base : Heap} {Q : Unit → Shared → Prop}
theorem wQ {x : Value} (hfr : A.frames = some (env :: l)) (hf : env.frame = some L) (X : XT C (env :: l) A base x s.heap)
  (hQ : ∀ h' e a0, x = .ref e → base.get? e = none → base.UpToSlots h' → pC h' (env :: l) → (hideAll base (nT (env :: l))).StaysIn h' → h'.TracedAtW (hideAll base (nT (env :: l))) e (.ref C) a0 (rawInt L) → Q () { s with heap := h' }) :
  wpAny M A (noteFrame x env) Q E s := by
 obtain ⟨e, rfl, h1, h2, h3, h4⟩ := X
 have hB : ∀ a o, (hideAll base (nT (env :: l))).get? a = some o → base.get? a = some o := fun a o z => of_hideAll _ z
 have hBn : (hideAll base (nT (env :: l))).get? e = none := pM hB h1
 have hF : s.heap.FunFrames (hideAll base (nT (env :: l))) (env :: l) := h3.fun fun a ha => hideAll_none _ ha
 rcases h4 with ⟨oe, tt, k, he, hcl, hdt⟩ | ⟨a0, fl, hfl, k, ht⟩
 ·obtain ⟨oc, odi, oda, osl⟩ := oe
  dsimp only at hcl hdt
  subst hcl; subst hdt
  unfold noteFrame
  simp only [hf]
  refine HI (wpAny_field he rfl (x := .none) (by rfl) ?_)
  rw [if_neg (by decide)]
  refine wpAny_entryW (a0 := .ref tt) hfr hF hf he (fun a o z => k a o (hB a o z)) hBn rfl (by simp) rfl fun h' hN => ?_
  obtain ⟨k1, k2, k3, k4⟩ := hN
  exact hQ h' e _ rfl h1 (h2.trans k4) (pC.of_fun k2) k1 k3
 ·rcases hfl with rfl | ⟨env', L', he', hL', rfl⟩
  ·refine wpAny_noteFrame_onW hfr hF hf ht k hBn fun h' hN => ?_
   obtain ⟨k1, k2, k3, k4⟩ := hN
   exact hQ h' e _ rfl h1 (h2.trans k4) (pC.of_fun k2) k1 k3
  ·simp only [List.head?_cons, Option.some.injEq] at he'
   subst he'
   rw [hf] at hL'
   obtain rfl := Option.some.inj hL'
   refine wpAny_noteFrame_againW hf ht ?_
   exact hQ s.heap e a0 rfl h1 h2 h3 k ht
theorem jP {e : Addr} {a0 fl : Value} {lv : Option Addr} (h1 : base.get? e = none) (h2 : base.UpToSlots s.heap) (h3 : pC s.heap l) (k : (hideAll base (nT l)).StaysIn s.heap) (ht : s.heap.TracedAtW (hideAll base (nT l)) e (.ref C) a0 fl)
  (hQ : ∀ h', base.UpToSlots h' → pC h' l → (hideAll base (nT l)).StaysIn h' → h'.TracedAtW (hideAll base (nT l)) e (.ref C) a0 (lv.elim .none fun f => rawInt f) → s.heap.UpToSlots h' → Q () { s with heap := h' }) :
  wpAny M A (setFlight (.ref e) lv) Q E s := by
 obtain ⟨oe, vs, T, oT, ts, he, hcls, hd, h1', hnT, hTe, hT, hdT, h3'⟩ := ht
 have hsz3 : 3 < ts.size := (Array.getElem?_eq_some_iff.mp h3').1
 have other : ∀ b, b ≠ T → (s.heap.update T (Obj.mapFields (·.setIfInBounds 3 (lv.elim Value.none fun f => rawInt f)))).get? b = s.heap.get? b :=
  fun b hb => Heap.get?_update_other _ _ (Ne.symm hb)
 have noRecord : ∀ b o, s.heap.get? b = some o → (∀ vs, o.data ≠ .fields vs) → b ≠ T := fun b o hb hnf q => by
  rw [q, hT] at hb; injection hb with hb; subst hb; exact hnf ts hdT
 have up : s.heap.UpToSlots (s.heap.update T (Obj.mapFields (·.setIfInBounds 3 (lv.elim Value.none fun f => rawInt f)))) := fun b o hb hn => ⟨o.slots, (other b (noRecord b o hb hn)).trans hb⟩
 unfold setFlight
 refine HI (wpAny_field he hd h1' ?_)
 rw [if_pos (show (Value.ref T != Value.none) = true from by simp)]
 refine wpAny_setField hT hdT hsz3 (hQ _ (h2.trans up) (h3.slots up) (fun b o hbo => (other b fun q => by rw [q, hnT] at hbo; cases hbo).trans (k b o hbo)) ?_ up)
 exact ⟨oe, vs, T, _, _, (other e (Ne.symm hTe)).trans he, hcls, hd, h1', hnT, hTe, Heap.get?_update_self _ hT (Obj.isFreed_of_fields (Obj.data_mapFields hdT _)), Obj.data_mapFields hdT _, by simp [hsz3]⟩
end
theorem XT.loop {p : P} {c : Cx} {C L : Addr} {l : List Env} (hfr : ∀ A, c.fr A → A.frames = some (c.env :: l)) (hf : c.env.frame = some L) : vQ p c (XT C (c.env :: l)) :=
 ⟨fun A base base' x h k X => X.less k, fun A base x h s tk E hA X hE => by
  unfold notedBy
  refine wQ (s := { s with heap := h, toks := tk }) (hfr A hA) hf X fun h1 e a0 hx h1e h2 h3 h4 h5 => ?_
  subst hx
  unfold cameBackBy
  have h5' := h5
  obtain ⟨oe, vs, T, oT, ts, he, hcls, hd, h1', hnT, hTe, hT, hdT, h3'⟩ := h5
  refine HI (wpAny_field (s := { s with heap := h1, toks := tk }) he hd h1' ?_)
  rw [if_neg (by simp)]
  refine jP (s := { s with heap := h1, toks := tk }) h1e h2 h3 h4 h5' fun h6 u1 u2 u3 u4 _ => ?_
  rw [hf] at u4
  exact hE h6 tk ⟨e, rfl, h1e, u1, u2, .inr ⟨a0, _, .inr ⟨c.env, L, rfl, hf, rfl⟩, u3, u4⟩⟩⟩
end
section
noncomputable def GG (C : Addr) (l : List Env) (base : Heap) (x : Value) (h' : Heap) : Prop := ∃ e a0, x = .ref e ∧ base.get? e = none ∧ base.UpToSlots h' ∧ pC h' l ∧ (hideAll base (nT l)).StaysIn h' ∧ h'.TracedAtW (hideAll base (nT l)) e (.ref C) a0 .none
theorem Bw {M : Model} {A : Around} {E : Value → Shared → Prop} {s : Shared} {C L : Addr} {env : Env} {l : List Env} {base : Heap} {Q : Unit → Shared → Prop} {x : Value}
  (hfr : A.frames = some (env :: l)) (hf : env.frame = some L) (hL : base.get? L = none) (X : XT C (env :: l) A base x s.heap) (hQ : ∀ h', GG C l base x h' → Q () { s with heap := h' }) : wpAny M A (leaving env x) Q E s := by
 unfold leaving
 refine HI (wQ hfr hf X fun h1 e a0 hx h1e h2 h3 h4 h5 => ?_)
 subst hx
 refine jP (s := { s with heap := h1 }) h1e h2 h3 h4 h5 fun h6 u1 u2 u3 u4 _ => hQ h6 ⟨e, a0, rfl, h1e, u1, fun env' he => u2 env' (dP _ he), ?_, ?_⟩
 all_goals
  have hle : ∀ a o, (hideAll base (nT l)).get? a = some o → (hideAll base (nT (env :: l))).get? a = some o := fun a o z => by
   refine hideAll_get _ (of_hideAll _ z) fun q => ?_
   rw [show nT (env :: l) = L :: nT l from by simp [nT, hf]] at q
   rcases HL q with rfl | q
   ·rw [of_hideAll _ z] at hL; cases hL
   ·rw [hideAll_none _ q] at z; cases z
 ·exact fun a o z => u3 a o (hle a o z)
 ·exact rg hle u4
noncomputable def vW (p : P) (m : Nat) (f C : Addr) (G : List D → List (Addr × O) → Prop) : Prop :=
 ∀ (A : Around) (l : List Env) (s : Shared) (sub : List (Addr × O)) (vs : List Value) (ds : List D) (R : Result → Shared → Prop), HN A m → A.frames = some l → pC s.heap l → (∀ a ∈ nT l, a ∉ bW sub) → xT p sub s.heap → bo s.heap vs ds → G ds sub →
  (∀ x h' tk, GG C l (hideAll s.heap (bW sub)) x h' → R (.error x) { s with heap := h', toks := tk }) → codeAny (model p.prog p.w) A (.call (.ref f) ⟨vs, []⟩) R s
section
variable {p : P} {c : Cx} {n : Nat} {C : Addr}
structure sy (c : Cx) (l : List Env) (L : Addr) : Prop where
 fr : ∀ A, c.fr A → A.frames = some (c.env :: l)
 own : c.env.frame = some L
 kind : c.env.scope.kind ≠ .module
 loc : ∃ y, eE.ns L y ∈ c.locs
 out : pC c.ent l
theorem sy.stk {l : List Env} {L : Addr} (F : sy c l L) {base : Heap} {σ : MS} {h : Heap} (S : cJ p c base σ h) : pC h (c.env :: l) := fun env he => by
 rcases HL he with rfl | he
 ·obtain ⟨y, hy⟩ := F.loc
  obtain ⟨⟨m, o, es, ep, ho, hdd, _⟩, _⟩ := S.frm _ hy
  exact ⟨F.kind, L, o, F.own, ho, fun vs q => by rw [hdd] at q; cases q⟩
 ·exact F.out.keeps (fun a o z => S.keep a o (S.entb a o z)) env he
theorem sy.apart {l : List Env} {L : Addr} (F : sy c l L) {base : Heap} {σ : MS} {h : Heap} (S : cJ p c base σ h) : ∀ a ∈ nT (c.env :: l), a ∉ σ.feet := fun a ha hq => by
 obtain ⟨x1, x2⟩ := S.apart a hq
 obtain ⟨env, he, hf⟩ := List.mem_filterMap.mp ha
 rcases HL he with rfl | he
 ·rw [F.own] at hf
  obtain rfl := Option.some.inj hf
  obtain ⟨y, hy⟩ := F.loc
  exact x1 (S.frm _ hy).2
 ·obtain ⟨_, L', o, h1, h2, _⟩ := F.out env he
  have h1' : env.frame = some L' := h1
  rw [h1'] at hf
  obtain rfl := Option.some.inj hf
  rw [S.entb _ _ h2] at x2; cases x2
theorem yr {D f1 f2 L : Addr} {l : List Env} {x : Str} {np cpos pos : Pos} {args : List Expr} {fs : oy} (F : hO p C D f1 f2) (Fr : sy c l L) (hx : c.env.kindOf x = some .globalImplicit) (hg : c.env.globals = mainGlobals) (hv : p.mg x = some (.ref C)) (hk : keepIn p.K (.ref C) = true)
  (hs : xQ p c n args fs) (hn : autoParam (9 ≤ n) aD) (hp : autoParam (∀ pos, (backTo pos (starEach args c.env)).any (·.1) = false) aI) (hd : autoParam ((x == ("__debug__" : Str)) = false) aD) :
  Ex p c (XT C (c.env :: l)) n (.Raise (some (.Call (.Name x np) args [] cpos)) none pos) (pc fs) := fun A base σ s k Q E R S hf hQ hE => by
 obtain ⟨y, hy⟩ := Fr.loc
 refine EA (X := fun A' base' x' h' => X1 C L A' base' x' h') F hy hx hg hv hk hs (fun _ _ _ _ z => z) hn hp hd A base σ s k Q E ⟨R.1, R.fr⟩ S hf hQ fun σ' x' h' tk hk' X => ?_
 obtain ⟨e, oe, tt, rfl, k1, k2, k3, k4, k5, o, k6, k7⟩ := X
 refine hE σ' _ h' tk hk' ⟨e, rfl, k2, Heap.UpToSlots.of_keeps k1, fun env he => ?_, .inl ⟨oe, tt, k1, k3, k4, k5⟩⟩
 rcases HL he with rfl | he
 ·exact ⟨Fr.kind, L, o, Fr.own, k6, k7⟩
 ·exact Fr.out.keeps (fun a o z => k1 a o (S.entb a o z)) env he
noncomputable def rh (G : List D → List (Addr × O) → Prop) (is : List Nat) (fs : oy) : SC := fun σ k => fs σ fun ds σ1 => jn (bN σ1.st is) fun sub => G ds sub ∧ k .exc σ1
theorem AI {L f : Addr} {l : List Env} {x : Str} {np cpos pos : Pos} {args : List Expr} {fs : oy} {G : List D → List (Addr × O) → Prop} {is : List Nat} {m : Nat} (hG : vW p m f C G) (Fr : sy c l L) (hx : c.env.kindOf x = some .globalImplicit) (hg : c.env.globals = mainGlobals) (hv : p.mg x = some (.ref f)) (hk : keepIn p.K (.ref f) = true)
  (hs : xQ p c n args fs) (hm : autoParam (m ≤ n) aD) (hi : autoParam (is.Nodup) aD) (hp : autoParam (∀ pos, (backTo pos (starEach args c.env)).any (·.1) = false) aI) (hd : autoParam ((x == ("__debug__" : Str)) = false) aD)
  (hin : autoParam (interactive c.env = false) aR) (hsw : autoParam (swapsWith (.Call (.Name x np) args [] cpos) none pos.line c.env = pure false) aR) :
  Ex p c (XT C (c.env :: l)) n (.Expr (.Call (.Name x np) args [] cpos) pos) (rh G is fs) := fun A base σ s k Q E R S hf hQ hE => by
 refine wpAny_Expr_any (wpAny_Call_NameR (iw S hx hg hv ?_ hd)) hin hsw
 refine bT (Pr := p.K.In) (hp cpos) (keeps_K hk) ?_
 refine hs A base σ s _ cpos _ E R.1 S hf fun ds σ1 vs h1 t1 hk1 S1 r1 g1 => ⟨S1.okh.X, wpAny_call ?_⟩
 refine cK hk1 fun sub hk1 hpk => ?_
 have hnd : (bW sub).Nodup := o7 S1.nodup hi hpk
 have hsubf : ∀ a ∈ bW sub, a ∈ σ1.feet := fun a ha => by
  obtain ⟨q, hq, hf⟩ := List.mem_flatMap.mp ha
  obtain ⟨_, _, e⟩ := (pI hpk).1 q hq
  exact fw (HM e) hf
 refine hG A (c.env :: l) { s with heap := h1, toks := t1 } sub vs ds _ ⟨R.hd, R.gd, by have := R.dep; lia, by have := R.un; lia⟩ (Fr.fr A R.fr) (Fr.stk S1) (fun a ha hq => Fr.apart S1 a ha (hsubf a hq)) (S1.call0 hpk hnd) r1 hk1.1 fun x' h' tk X => ?_
 obtain ⟨e, a0, rfl, k1, k2, k3, k4, k5⟩ := X
 have hle : ∀ a o, base.get? a = some o → (hideAll h1 (bW sub)).get? a = some o := fun a o z => hideAll_get _ (S1.keep a o z) fun q => by
  rw [(S1.apart a (hsubf a q)).2] at z; cases z
 exact hE σ1 _ h' tk hk1.2 ⟨e, rfl, pM hle k1, AH hle k2, k3, .inr ⟨a0, .none, .inl rfl, fun a o z => k4 a o (tc hle _ a o z), rg (tc hle _) k5⟩⟩
theorem Hh {X : XR} {st : Stmt} {f g : SC} (h1 : Ex p c X n st f) (h2 : Ex p c X n st g) : Ex p c X n st (fun σ k => f σ k ∨ g σ k) := fun A base σ s k Q E R S hf hQ hE => by
 rcases hf with hf | hf
 ·exact h1 A base σ s k Q E R S hf hQ hE
 ·exact h2 A base σ s k Q E R S hf hQ hE
end
end
section
noncomputable def Cx.ofF (qual : Str) (scope : Scope) (f : Addr) (cdv : Value) (lc : Addr → List eE) (l : List Env) (ent : Heap) (L : Addr) : Cx :=
 { env := envOfC qual scope L f cdv, locs := lc L, fa := L :: (cellsFrom (L + 1) scope.names []).map (·.2), ent := ent, fr := fun A => A.frames = some (envOfC qual scope L f cdv :: l) }
section
variable {p : P} {c : Cx} {n : Nat} {C : Addr}
theorem yt {f : Addr} {qual : Str} {xs : List Str} {body : List Stmt} {scope : Scope} {cdv : Value} {lc : Addr → List eE} {nv : Nat} {F : SC} {G : List D → List (Addr × O) → Prop} (Fn : d8 p f qual xs body scope cdv) (Lc : d9 scope xs lc) (hnv : ∀ L, (lc L).length = nv)
  (hb : ∀ l ent L, pC ent l → iZ p (Cx.ofF qual scope f cdv lc l ent L) (XT C (envOfC qual scope L f cdv :: l)) n body F) (hG : ∀ ds sub, G ds sub → F ⟨ds.map some ++ List.replicate (nv - ds.length) none, sub⟩ fun fl _ => fl = .exc) (hlen : ∀ ds sub, G ds sub → ds.length = xs.length) (hnx : xs.length ≤ nv)
  (hco : autoParam (scope.isCoroutine = false) aR) (hgen : autoParam (scope.isGenerator = false) aR) (hk : autoParam (scope.kind = .function) aR) : vW p (n + 1) f C G := by
 intro A l s sub vs ds R Rm hAf hStk hap C0 rs hg hR
 refine CC Fn Lc hnv hnx hco hgen hk Rm C0 rs (hlen ds sub hg) fun L h1 t1 hbL S => ?_
 have hst0 : pC (hideAll s.heap (bW sub)) l := fun env he => by
  obtain ⟨a, L', o, h1', h2', h3'⟩ := hStk env he
  exact ⟨a, L', o, h1', hideAll_get _ h2' (hap _ (List.mem_filterMap.mpr ⟨env, he, h1'⟩)), h3'⟩
 refine hb l _ L hst0 _ (hideAll s.heap (bW sub)) _ { s with heap := h1, toks := t1 } _ (fun fl s' => R (.ok (.ret (match fl with | .ret v => v | _ => .none))) s') _ ⟨Rm.deeper _, Around.frames_deeper hAf⟩ (S _) (hG ds sub hg) (fun fl σ' fv h' tk hk2 S2 r2 g2 => ?_) fun σ' x h' tk hk2 hX => ?_
 ·subst hk2; cases r2
 ·refine Bw (s := { s with heap := h', toks := tk }) (Around.frames_deeper hAf) rfl hbL hX fun h2 X => hR x h2 tk X
end
end
section
noncomputable def EB (p : P) (m : Nat) (f : Addr) (G : List D → List (Addr × O) → Prop) : Prop :=
 ∀ (A : Around) (l : List Env) (s : Shared) (sub : List (Addr × O)) (vs : List Value) (ds : List D) (R : Result → Shared → Prop), HN A m → A.frames = some l → pC s.heap l → (∀ a ∈ nT l, a ∉ bW sub) → p.Ok (hideAll (hideAll s.heap (bW sub)) (nT l)) → xT p sub s.heap → bo s.heap vs ds → G ds sub →
  (∀ h' tk, (hideAll (hideAll s.heap (bW sub)) (nT l)).StaysIn h' → (hideAll s.heap (bW sub)).UpToSlots h' → R (.ok (.ret (.bool true))) { s with heap := h', toks := tk }) → codeAny (model p.prog p.w) A (.call (.ref f) ⟨vs, []⟩) R s
section
variable {p : P} {n : Nat} {C : Addr}
theorem ED {f : Addr} {qual : Str} {xs : List Str} {body : List Stmt} {st : Stmt} {rest : List Stmt} {x : Str} {np ckp rp hp tp : Pos} {ck : Nat} {scope : Scope} {cdv : Value} {lc : Addr → List eE} {nv : Nat} {F : SC} {G : List D → List (Addr × O) → Prop} (Fn : d8 p f qual xs body scope cdv) (Lc : d9 scope xs lc) (hnv : ∀ L, (lc L).length = nv)
  (hbody : body = .Try [st] [.ExceptHandler (some (.Name x np)) none [.Return (some (.Constant (.bool true) ck ckp)) rp] hp] [] [] tp :: rest)
  (hb : ∀ l ent L, pC ent l → Ex p (Cx.ofF qual scope f cdv lc l ent L) (XT C (envOfC qual scope L f cdv :: l)) n st F) (hG : ∀ ds sub, G ds sub → F ⟨ds.map some ++ List.replicate (nv - ds.length) none, sub⟩ fun fl _ => fl = .exc) (hlen : ∀ ds sub, G ds sub → ds.length = xs.length) (hnx : xs.length ≤ nv)
  (hx : scope.names.lookup x = some .globalImplicit) (hv : p.mg x = some (.ref C)) (hm : exmOne p.K (.ref C) (.ref C) = some true)
  (hco : autoParam (scope.isCoroutine = false) aR) (hgen : autoParam (scope.isGenerator = false) aR) (hk : autoParam (scope.kind = .function) aR) (hd : autoParam ((x == ("__debug__" : Str)) = false) aD) : EB p (n + 1) f G := by
 intro A l s sub vs ds R Rm hAf hStk hap hok0 C0 rs hg hR
 refine CC Fn Lc hnv hnx hco hgen hk Rm C0 rs (hlen ds sub hg) fun L h1 t1 hbL S => ?_
 have hst0 : pC (hideAll s.heap (bW sub)) l := fun env he => by
  obtain ⟨a, L', o, h1', h2', h3'⟩ := hStk env he
  exact ⟨a, L', o, h1', hideAll_get _ h2' (hap _ (List.mem_filterMap.mpr ⟨env, he, h1'⟩)), h3'⟩
 rw [hbody]
 have hA' := Around.frames_deeper (env := envOfC qual scope L f cdv) hAf
 have hle : ∀ a o, (hideAll (hideAll s.heap (bW sub)) (nT l)).get? a = some o → (hideAll (hideAll s.heap (bW sub)) (nT (envOfC qual scope L f cdv :: l))).get? a = some o := fun a o z => by
  refine hideAll_get _ (of_hideAll _ z) fun q => ?_
  rw [show nT (envOfC qual scope L f cdv :: l) = L :: nT l from by simp [nT, envOfC]] at q
  rcases HL q with rfl | q
  ·rw [of_hideAll _ z] at hbL; cases hbL
  ·rw [hideAll_none _ q] at z; cases z
 refine wpAny_execs_cons (wpAny_Try_except (wpAny_execs_cons (hb l _ L hst0 _ (hideAll s.heap (bW sub)) _ { s with heap := h1, toks := t1 } _ _ _ ⟨Rm.deeper _, hA'⟩ (S _) (hG ds sub hg) (fun fl σ' fv h' tk hk2 S2 r2 g2 => ?_) fun σ' x' h' tk hk2 hX => ?_)))
 ·subst hk2; cases r2
 refine wQ (s := { s with heap := h', toks := tk }) hA' rfl hX fun h2 e a0 hxe h1e u2 u3 u4 u5 => ?_
 subst hxe
 refine jP (s := { s with heap := h2, toks := tk }) h1e u2 u3 u4 u5 fun h3 v2 v3 v4 v5 _ => ?_
 have ok3 : p.Ok h3 := hok0.keeps fun a o z => v4 a o (hle a o z)
 obtain ⟨oe, vs5, T5, oT5, ts5, he5, ⟨hcl5, _⟩, _⟩ := id v5
 have LT : Looks (model p.prog p.w) h3 (typeOf (.ref e)) (.ref C) := by rw [← hcl5]; exact (Looks.ld he5).andThen .now
 refine wpAny_handleBy_cons (codeAny_handlers_test (wpAny_Name (ks_loadName_global hk hx (loadGlobal_global (env := envOfC qual scope L f cdv) ok3.g hv ?_)) hd)) (by intro q; cases q)
 refine (exm_one ok3.X LT hm).here ?_
 refine codeAny_handlers_suite ?_
 refine jP (s := { s with heap := h3, toks := tk }) h1e v2 v3 v4 v5 fun h6 w2 w3 w4 w5 _ => ?_
 refine wpAny_execs_cons (wpAny_Return_some (wpAny_Constant_bool ?_))
 exact hR h6 tk (fun a o z => w4 a o (hle a o z)) w2
end
end
section
section
variable {p : P} {c : Cx} {n : Nat} {X : XR}
theorem cJ.refused {L : Addr} {base h h' : Heap} {vs : List (Option D)} {st0 : List (Addr × O)} {q : Addr × O} (S : cJ p c base ⟨vs, st0 ++ [q]⟩ h) (Fr : sy c [] L)
  (k1 : (hideAll (hideAll h (bW [q])) (nT [c.env])).StaysIn h') (k2 : (hideAll h (bW [q])).UpToSlots h') : cJ p c base ⟨vs, st0⟩ h' ∧ bc h h' := by
 have ef : nT [c.env] = [L] := by simp [nT, Fr.own]
 rw [ef] at k1
 have eq : bW [q] = feet q := by simp [bW]
 rw [eq] at k1 k2
 have hqm : q ∈ (⟨vs, st0 ++ [q]⟩ : MS).st := List.mem_append_right _ c8
 have hqf : ∀ a ∈ feet q, a ∈ (⟨vs, st0 ++ [q]⟩ : MS).feet := fun a ha => fw hqm ha
 have hkeep : ∀ a o, a ∉ feet q → a ≠ L → h.get? a = some o → h'.get? a = some o := fun a o h1 h2 e =>
  k1 a o (hideAll_get _ (hideAll_get _ e h1) (by simpa using h2))
 obtain ⟨y, hy⟩ := Fr.loc
 have hLfa : L ∈ c.fa := (S.frm _ hy).2
 have hLq : L ∉ feet q := fun z => (S.apart L (hqf L z)).1 hLfa
 obtain ⟨⟨m0, oL, es, ep, hoL, hdd, hrest⟩, _⟩ := S.frm _ hy
 obtain ⟨sl, hsl⟩ := k2 L oL (hideAll_get _ hoL hLq) fun vs z => by rw [hdd] at z; cases z
 have hnL : ¬ o3 oL := dJ (fun _ _ z => by rw [hdd] at z; cases z) fun _ z => by rw [hdd] at z; cases z
 have hnL' : ¬ o3 { oL with slots := sl } := dJ (fun _ _ z => by simp only [hdd] at z; cases z) fun _ z => by simp only [hdd] at z; cases z
 have g : bc h h' := fun a o e ht => hkeep a o (fun z => by
  obtain ⟨o', e', hn⟩ := (S.objs q hqm).foot z
  rw [e] at e'; cases e'; exact hn ht) (fun z => by
  subst z; rw [e] at hoL; cases hoL; exact hnL ht) e
 have hfaq : ∀ a ∈ c.fa, a ∉ feet q := fun a ha z => (S.apart a (hqf a z)).1 ha
 have nsk : ∀ a m, a ∈ c.fa → h.Ns a m → h'.Ns a m := fun a m ha hm => by
  refine k2.ns ?_
  exact hm.at' fun o e => hideAll_get _ e (hfaq a ha)
 have cellk : ∀ a v, a ∈ c.fa → h.IsCell a v → h'.IsCell a v := fun a v ha hm => by
  obtain ⟨o, ho, hd⟩ := hm
  by_cases e : a = L
  ·subst e
   rw [ho] at hoL
   cases hoL
   exact ⟨_, hsl, by simpa using hd⟩
  ·exact ⟨o, hkeep a o (hfaq a ha) e ho, hd⟩
 have fst : (⟨vs, st0 ++ [q]⟩ : MS).feet = (⟨vs, st0⟩ : MS).feet ++ feet q := by simp [MS.feet]
 have hnd := S.nodup
 rw [fst] at hnd
 refine ⟨⟨S.ok, S.kind, S.entb, fun a o e => ?_, S.nodl, S.lenv, fun i l d hl hd => ?_, fun l hl => ?_, fun r hr => ?_, (List.nodup_append.mp hnd).1, fun a ha => ?_, fun a ha => ?_⟩, g⟩
 ·refine hkeep a o (fun z => ?_) (fun z => ?_) (S.keep a o e)
  ·rw [(S.apart a (hqf a z)).2] at e; cases e
  ·subst z; rw [(S.faok a hLfa).1] at e; cases e
 ·obtain ⟨v, x, r⟩ := S.vars i l d hl hd
  have hfa := (S.frm l (HM hl)).2
  refine ⟨v, ?_, r.grow g⟩
  cases l with
  | ns a y => obtain ⟨m, hm, e⟩ := x; exact ⟨m, nsk a m hfa hm, e⟩
  | cell a => exact cellk a _ hfa x
 ·obtain ⟨x, hfa⟩ := S.frm l hl
  refine ⟨?_, hfa⟩
  cases l with
  | ns a y => obtain ⟨m, hm⟩ := x; exact ⟨m, nsk a m hfa hm⟩
  | cell a => obtain ⟨v, hv⟩ := x; exact ⟨v, cellk a _ hfa hv⟩
 ·refine (S.objs r (List.mem_append_left _ hr)).move g fun a ha o e => ?_
  have har : a ∈ (⟨vs, st0⟩ : MS).feet := fw (σ := ⟨vs, st0⟩) hr ha
  refine hkeep a o (fun z => (List.nodup_append.mp hnd).2.2 a har a z rfl) (fun z => ?_) e
  subst z
  exact (S.apart a (by rw [fst]; exact List.mem_append_left _ har)).1 hLfa
 ·exact S.apart a (by rw [fst]; exact List.mem_append_left _ ha)
 ·obtain ⟨x, o, e, z⟩ := S.faok a ha
  by_cases eL : a = L
  ·subst eL; exact ⟨x, _, hsl, hnL'⟩
  ·exact ⟨x, o, hkeep a o (hfaq a ha) eL e, z⟩
noncomputable def dK (G : List D → List (Addr × O) → Prop) (fs : oy) : SC := fun σ k => fs σ fun ds σ1 => ∃ st0 q, σ1.st = st0 ++ [q] ∧ G ds [q] ∧ k .next ⟨σ1.vars, st0⟩
theorem we {L f : Addr} {x : Str} {np cpos upos pos : Pos} {args : List Expr} {body : List Stmt} {fs : oy} {G : List D → List (Addr × O) → Prop} {m : Nat} (hG : EB p m f G) (Fr : sy c [] L) (hx : c.env.kindOf x = some .globalImplicit) (hg : c.env.globals = mainGlobals) (hv : p.mg x = some (.ref f)) (hk : keepIn p.K (.ref f) = true)
  (hs : xQ p c n args fs) (hm : autoParam (m ≤ n) aD) (hp : autoParam (∀ pos, (backTo pos (starEach args c.env)).any (·.1) = false) aI) (hd : autoParam ((x == ("__debug__" : Str)) = false) aD)
  (hev : autoParam (isTrue (.Call (.Name x np) args [] cpos) c.env (eval (.Call (.Name x np) args [] cpos) c.env) = (do let v ← eval (.Call (.Name x np) args [] cpos) c.env; standAt (Expr.Call (.Name x np) args [] cpos).pos; holding [v] (truthy v))) aR) :
  Ex p c X n (.If (.UnaryOp .Not (.Call (.Name x np) args [] cpos) upos) body [] pos) (dK G fs) := fun A base σ s k Q E R S hf hQ hE => by
 refine wpAny_If (wpAny_isTrue_Not ?_)
 rw [hev]
 refine HI (wpAny_Call_NameR (iw S hx hg hv ?_ hd))
 refine bT (Pr := p.K.In) (hp cpos) (keeps_K hk) ?_
 refine hs A base σ s _ cpos _ E R.1 S hf fun ds σ1 vs h1 t1 hk1 S1 r1 g1 => ⟨S1.okh.X, wpAny_call ?_⟩
 obtain ⟨st0, q, e, hg1, hk1⟩ := hk1
 obtain ⟨v1, st1⟩ := σ1
 simp only at e hk1
 subst e
 have hpk : bN (st0 ++ [q]) [st0.length] = some [q] := by simp [bN]
 have hnd : (bW [q]).Nodup := o7 S1.nodup (by simp) hpk
 have hqm : q ∈ (⟨v1, st0 ++ [q]⟩ : MS).st := List.mem_append_right _ c8
 have hqf : ∀ a ∈ bW [q], a ∈ (⟨v1, st0 ++ [q]⟩ : MS).feet := fun a ha => fw hqm (by simpa [bW] using ha)
 have hA := Fr.fr A R.fr
 have ef : nT [c.env] = [L] := by simp [nT, Fr.own]
 obtain ⟨y, hy⟩ := Fr.loc
 have hLfa : L ∈ c.fa := (S1.frm _ hy).2
 refine hG A [c.env] { s with heap := h1, toks := t1 } [q] vs ds _ ⟨R.hd, R.gd, by have := R.dep; lia, by have := R.un; lia⟩ hA (Fr.stk S1) (fun a ha hq => Fr.apart S1 a ha (hqf a hq)) ?_ (S1.call0 hpk hnd) r1 hg1 fun h' tk k1 k2 => ?_
 ·refine S1.ok.keeps fun a o z => ?_
  have zb := S1.entb a o z
  refine hideAll_get _ (hideAll_get _ (S1.keep a o zb) fun u => ?_) fun u => ?_
  ·rw [(S1.apart a (hqf a u)).2] at zb; cases zb
  ·rw [ef, List.mem_singleton] at u
   subst u
   rw [(S1.faok a hLfa).1] at zb; cases zb
 ·obtain ⟨S2, g2⟩ := S1.refused Fr k1 k2
  refine HI (wpAny_standAt (wpAny_holding (wpAny_truthy_bool ?_)))
  exact aN (X := X) A base ⟨v1, st0⟩ { s with heap := h', toks := tk } _ _ _ R S2 hk1 (fun fl σ2 v h2 t2 hk2 S3 r3 g3 => hQ fl σ2 v h2 t2 hk2 S3 r3 (g1.trans (g2.trans g3))) fun σ' x' h'' tk'' hk2 hx' => hE σ' x' h'' tk'' hk2 hx'
end
end
section
noncomputable def EI : List Stmt → Stmt
 | .Try [st] _ _ _ _ :: _ => st
 | _ => .Pass ⟨0, 0, 0, 0⟩
section
variable {p : P} {c : Cx} {n : Nat} {X : XR}
theorem Dq {h : Heap} {vs : List Value} {ns : List Int} (x : IntsAre vs ns) : bo h vs (ns.map .int) := by
 induction x with
 | nil => exact .nil
 | cons n t _ ih => exact .cons (.int n t) ih
noncomputable def td (a0 : Addr) (ns : List Int) (f g : EC) : EC := fun σ k => f σ fun d1 σ1 => g σ1 fun d2 σ2 => ∃ i : Int, d1 = .ref a0 ∧ d2 = .int i ∧ 0 ≤ i ∧ ns.length ≤ sizeLine ∧ ∀ a', k (.ref a') ⟨σ2.vars, σ2.st ++ [(a', .list ((ns.map .int).take i.toNat))]⟩
theorem Dr {a0 : Addr} {ws : List Value} {ns : List Int} (hD : c.ent.IsList a0 ws.toArray) (hI : IntsAre ws ns) {e i : Expr} {sp pos : Pos} {f g : EC} (he : Ev p c n e f) (hi : Ev p c n i g) (ht : autoParam (∀ o r, letTemporaryGo e o r = pure ()) aJ) : Ev p c n (.Subscript e (.Slice none (some i) none sp) pos) (td a0 ns f g) := fun A base σ s k Q E R S hf hQ => by
 refine wpAny_Subscript_list_slice (he A base σ s _ _ E R S hf fun d1 σ1 v1 h1 t1 hk1 S1 r1 g1 => ?_) ht
 refine evalPart_none_step ?_
 refine evalPart_some_step (hi A base σ1 _ _ _ E R S1 hk1 fun d2 σ2 v2 h2 t2 hk2 S2 r2 g2 => ?_)
 obtain ⟨i, rfl, rfl, h0, hsz, hk⟩ := hk2
 cases r1 with
 | ref a =>
  cases r2 with
  | int i t =>
   have hl : h2.IsList a0 ws.toArray := by
    obtain ⟨o, e1, e2⟩ := hD
    exact ⟨o, S2.keep _ o (S2.entb _ o e1), e2⟩
   have rs : bo h2 ws (ns.map .int) := Dq hI
   refine ⟨a0, _, none, some i, rfl, hl, by rw [List.size_toArray, rs.length, dI]; exact hsz, .none, .int i t, ?_⟩
   obtain ⟨m, rfl⟩ := Int.eq_ofNat_of_zero_le h0
   rw [slicePick_upto']
   have ex := b7 (h := h2) { cls := .type "slice", data := .fields #[.none, .int (m : Int) t, .none] }
   obtain ⟨S3, g3⟩ := (S2.ext ex).newList ((rs.take m).grow (bc.of_ext ex))
   have e2 : (h2.push { cls := .type "slice", data := .fields #[.none, .int (m : Int) t, .none] }).objs.size = h2.objs.size + 1 := Heap.size_push ..
   rw [e2] at S3
   exact hQ _ _ _ _ t2 (hk (h2.objs.size + 1)) S3 (.ref _) (((g1.trans g2).trans (bc.of_ext ex)).trans g3)
end
end
noncomputable def iT : List (List Nat) := (List.range 128).map fun m => (List.range 7).filter fun i => m.testBit i
noncomputable def cX (ns : List Nat) : Nat := if 5 ≤ ns.length then 31 else 7
noncomputable abbrev eT (ns : List Nat) (M f m : Nat) (l : Bool) : SetTable := { mask := M, place := ns.toArray, dummies := #[], finger := f, led := l, moves := m, plain := true }
noncomputable def gz (ns : List Nat) (k : Nat) : List Nat := ns.take (SetTable.below ns.toArray k) ++ k :: ns.drop (SetTable.below ns.toArray k)
noncomputable def AJ (f m : Nat) (l : Bool) (ns : List Nat) (k : Nat) : Bool := ns.contains k || (match (eT ns (cX ns) f m l).freeSlot (Int.ofNat k) with
 | some (j, d) => (j == k) && !d
 | none => false)
theorem Df (f m : Nat) (l : Bool) : (iT.all fun ns => (List.range 7).all fun k => AJ f m l ns k) = true := by kernel_rfl
noncomputable def zN (ns : List Nat) (k : Nat) : Bool := ns.contains k || ((iT.contains (gz ns k) && decide (SetTable.below ns.toArray k ≤ ns.length)) && decide (ns.length + 1 ≤ cX ns))
theorem AK : (iT.all fun ns => (List.range 7).all fun k => zN ns k) = true := by decide +kernel
noncomputable def yu (f m : Nat) (l : Bool) (ns : List Nat) : Bool := !(ns.length == 5) || (match (eT ns 7 f m l).relaid (ns.map Int.ofNat).toArray 20 with
 | some (t, o) => t.mask == 31 && t.place.toList == ns && t.dummies.toList == [] && t.led == l && t.plain && o.toList == List.range 5
 | none => false)
theorem Bx (f m : Nat) (l : Bool) : (iT.all fun ns => yu f m l ns) = true := by cases l <;> kernel_rfl
noncomputable def ri (ns : List Nat) : Bool := decide (ns.length ≤ 7) && (decide (ns.length ≥ 7) || decide (ns.length + 1 ≤ cX ns)) && (ns.all fun n => decide (n < 7))
theorem nU : (iT.all fun ns => ri ns) = true := by decide +kernel
theorem Dg : [] ∈ iT := by decide +kernel
theorem j6 {α : Type} (xs : Array α) (p : Nat) (x : α) : (SetTable.insertAt xs p x).toList = xs.toList.take p ++ x :: xs.toList.drop p := by
 unfold SetTable.insertAt
 simp [Array.toList_extract, List.extract_eq_take_drop]
 exact List.take_of_length_le (by simp)
section
noncomputable def fj : List Nat → List (Int × Value) → Prop
 | [], [] => True
 | n :: ns, e :: es => (∃ tk, e = (Int.ofNat n, .int (Int.ofNat n) tk)) ∧ fj ns es
 | _, _ => False
theorem fj.length : ∀ {ns : List Nat} {es : List (Int × Value)}, fj ns es → es.length = ns.length
 | [], [], _ => rfl
 | _ :: _, _ :: _, ⟨_, h⟩ => by simp [fj.length h]
 | [], _ :: _, h => h.elim
 | _ :: _, [], h => h.elim
theorem fj.append : ∀ {ns ms : List Nat} {es fs : List (Int × Value)}, fj ns es → fj ms fs → fj (ns ++ ms) (es ++ fs)
 | [], _, [], _, _, h => h
 | _ :: _, _, _ :: _, _, ⟨a, h⟩, h2 => ⟨a, fj.append h h2⟩
 | [], _, _ :: _, _, h, _ => h.elim
 | _ :: _, _, [], _, h, _ => h.elim
theorem fj.take : ∀ (p : Nat) {ns : List Nat} {es : List (Int × Value)}, fj ns es → fj (ns.take p) (es.take p)
 | 0, _, _, _ => by simp [fj]
 | p + 1, [], [], _ => by simp [fj]
 | p + 1, _ :: _, _ :: _, ⟨a, h⟩ => ⟨a, fj.take p h⟩
 | p + 1, [], _ :: _, h => h.elim
 | p + 1, _ :: _, [], h => h.elim
theorem fj.drop : ∀ (p : Nat) {ns : List Nat} {es : List (Int × Value)}, fj ns es → fj (ns.drop p) (es.drop p)
 | 0, _, _, h => h
 | p + 1, [], [], _ => by simp [fj]
 | p + 1, _ :: _, _ :: _, ⟨a, h⟩ => fj.drop p h
 | p + 1, [], _ :: _, h => h.elim
 | p + 1, _ :: _, [], h => h.elim
theorem fj.hashes : ∀ {ns : List Nat} {es : List (Int × Value)}, fj ns es → es.map (·.1) = ns.map Int.ofNat
 | [], [], _ => rfl
 | _ :: _, _ :: _, ⟨⟨tk, e⟩, h⟩ => by subst e; simp [fj.hashes h]
 | [], _ :: _, h => h.elim
 | _ :: _, [], h => h.elim
theorem fj.mem : ∀ {ns : List Nat} {es : List (Int × Value)}, fj ns es → ∀ e ∈ es, ∃ n ∈ ns, ∃ tk, e = (Int.ofNat n, .int (Int.ofNat n) tk)
 | [], [], _ => fun _ q => nomatch q
 | n :: _, _ :: _, ⟨⟨tk, e⟩, h⟩ => fun e' he => by
  rcases HL he with rfl | he
  ·exact ⟨n, c8, tk, e⟩
  ·obtain ⟨m, hm, x⟩ := fj.mem h e' he
   exact ⟨m, dP _ hm, x⟩
 | [], _ :: _, h => h.elim
 | _ :: _, [], h => h.elim
theorem fj.has : ∀ {ns : List Nat} {es : List (Int × Value)}, fj ns es → ∀ n ∈ ns, ∃ tk, (Int.ofNat n, Value.int (Int.ofNat n) tk) ∈ es
 | [], [], _ => fun _ q => nomatch q
 | n :: _, _ :: _, ⟨⟨tk, e⟩, h⟩ => fun m hm => by
  rcases HL hm with rfl | hm
  ·exact ⟨tk, by rw [e]; exact c8⟩
  ·obtain ⟨tk', x⟩ := fj.has h m hm
   exact ⟨tk', dP _ x⟩
 | [], _ :: _, h => h.elim
 | _ :: _, [], h => h.elim
section
variable {prog : Program} {w : World}
theorem yv : ∀ n < 7, PySem.hashInt (Int.ofNat n) = Int.ofNat n := by decide +kernel
theorem pd {n : Nat} (h : n < 7) : (intKind prog w).hash (Int.ofNat n) = Int.ofNat n := yv n h
end
theorem EE {ns : List Nat} {es : Array (Int × Value)} {k f m : Nat} {l : Bool} {x : Value} (hs : ns ∈ iT) (hk : k < 7) (hn : k ∉ ns) (hr : fj ns es.toList) :
  layNew (eT ns (cX ns) f m l) es (Int.ofNat k) x = (SetTable.insertAt es (SetTable.below ns.toArray k) (Int.ofNat k, x), eT (gz ns k) (cX ns) f m l, false, false) := by
 have h1 := List.all_eq_true.mp (List.all_eq_true.mp (Df f m l) ns hs) k (by simp [hk])
 have h2 := List.all_eq_true.mp (List.all_eq_true.mp AK ns hs) k (by simp [hk])
 have h3 := List.all_eq_true.mp nU ns hs
 have hc : ns.contains k = false := by simpa using hn
 unfold AJ at h1
 rw [hc, Bool.false_or] at h1
 unfold zN at h2
 rw [hc, Bool.false_or, Bool.and_eq_true, Bool.and_eq_true, decide_eq_true_eq, decide_eq_true_eq] at h2
 cases hf : (eT ns (cX ns) f m l).freeSlot (Int.ofNat k) with
 | none => rw [hf] at h1; cases h1
 | some r =>
  obtain ⟨j, d⟩ := r
  rw [hf] at h1
  simp only [Bool.and_eq_true, beq_iff_eq, Bool.not_eq_true'] at h1
  obtain ⟨rfl, rfl⟩ := h1
  have hpl : SetTable.insertAt ns.toArray (SetTable.below ns.toArray j) j = (gz ns j).toArray := by
   apply Array.ext'
   rw [j6]
   rfl
  have hput : (eT ns (cX ns) f m l).put j = (eT (gz ns j) (cX ns) f m l, SetTable.below ns.toArray j) := by
   unfold SetTable.put
   dsimp only
   rw [hpl]
   rfl
  unfold layNew
  rw [hf]
  dsimp only
  rw [hput]
  dsimp only
  have hfit : (eT (gz ns j) (cX ns) f m l).fits (SetTable.insertAt es (SetTable.below ns.toArray j) (Int.ofNat j, x)).size = true := by
   have e1 : (SetTable.insertAt es (SetTable.below ns.toArray j) (Int.ofNat j, x)).size = ns.length + 1 := by
    rw [← Array.length_toList, j6, eX, aB, List.length_take, List.length_drop, hr.length]
    have := h2.1.2
    lia
   have e2 : (gz ns j).length = ns.length + 1 := by
    unfold gz
    rw [eX, aB, List.length_take, List.length_drop]
    have := h2.1.2
    lia
   unfold SetTable.fits SetTable.fill
   simp only [List.size_toArray, e1, e2, beq_self_eq_true, Bool.true_and, decide_eq_true_eq]
   exact h2.2
  unfold SetTable.orStandIn
  rw [hfit]
  rfl
end
section
theorem By {ns : List Nat} {es : Array (Int × Value)} {f m : Nat} {l : Bool} (hs : ns ∈ iT) (h5 : ns.length = 5) (hr : fj ns es.toList) :
  ∃ f' m', relayAll (eT ns 7 f m l) es 20 = (es, eT ns 31 f' m' l, false) := by
 have h1 := List.all_eq_true.mp (Bx f m l) ns hs
 unfold yu at h1
 rw [h5] at h1
 have hmap : es.map (·.1) = (ns.map Int.ofNat).toArray := by
  apply Array.ext'
  rw [Array.toList_map, hr.hashes]
 unfold relayAll
 rw [hmap]
 cases hq : (eT ns 7 f m l).relaid (ns.map Int.ofNat).toArray 20 with
 | none => rw [hq] at h1; cases h1
 | some r =>
  obtain ⟨t, o⟩ := r
  rw [hq] at h1
  simp only [beq_self_eq_true, Bool.not_true, Bool.false_or, Bool.and_eq_true, beq_iff_eq] at h1
  obtain ⟨⟨⟨⟨⟨a1, a2⟩, a3⟩, a4⟩, a5⟩, a6⟩ := h1
  obtain ⟨mask, place, dummies, finger, led, moves, plain⟩ := t
  dsimp only at a1 a2 a3 a4 a5
  subst a1; subst a4; subst a5
  obtain ⟨place⟩ := place
  obtain ⟨dummies⟩ := dummies
  obtain ⟨o⟩ := o
  dsimp only at a2 a3 a6
  subst a2; subst a3; subst a6
  have hsz : es.size = 5 := by rw [← Array.length_toList, hr.length, h5]
  have hfm : (Array.mk (List.range 5)).filterMap (es[·]?) = es := by
   obtain ⟨es⟩ := es
   obtain ⟨a, b, c, d, e, rfl⟩ := Fk (l := es) hsz
   rfl
  refine ⟨finger, moves, ?_⟩
  dsimp only
  rw [hfm]
  have hcov : coversAll (Array.mk (List.range 5)) es.size = true := by rw [hsz]; decide +kernel
  have hfit : ∀ led, (eT place 31 finger moves led).fits es.size = true := fun led => by
   unfold SetTable.fits SetTable.fill
   simp [hsz, h5]
  rw [hcov, hfit]
  rfl
noncomputable def oA (h : Heap) (a : Addr) (ns : List Nat) (l : Bool) : Prop :=
 ∃ es ep f m, h.get? a = some { cls := .type "set", dict := none, data := .set es ep (eT ns (cX ns) f m l) } ∧ ns ∈ iT ∧ fj ns es.toList
section
variable {prog : Program} {w : World} {A : Around} {E : Value → Shared → Prop} {s : Shared} {a : Addr} {ns : List Nat} {l : Bool}
theorem Bz {es : List (Int × Value)} (hs : ns ∈ iT) (hr : fj ns es) : ElemsOf (intKind prog w) es := fun e he => by
 obtain ⟨n, hn, tk, rfl⟩ := hr.mem e he
 have h3 := List.all_eq_true.mp nU ns hs
 unfold ri at h3
 rw [Bool.and_eq_true] at h3
 have hlt : n < 7 := by simpa using List.all_eq_true.mp h3.2 n hn
 exact ⟨⟨Int.ofNat n, intKind_is _ _ _ _, (pd hlt).symm⟩, rfl⟩
theorem EF {k : Nat} {tk : Tok} {Q : Bool → Shared → Prop} (hk : k < 7) (S : oA s.heap a ns l)
  (hQ : ∀ h' ns' b, Heap.SameBut a s.heap h' → oA h' a ns' l → (∀ x, x ∈ ns' ↔ x ∈ ns ∨ x = k) → Q b { s with heap := h' }) :
  wpAny (model prog w) A (setAddHashed a (.int (Int.ofNat k) tk) (Int.ofNat k)) Q E s := by
 obtain ⟨es, ep, f, m, ho, hs, hr⟩ := S
 have h3 := List.all_eq_true.mp nU ns hs
 unfold ri at h3
 simp only [Bool.and_eq_true, decide_eq_true_eq] at h3
 have hsz : es.size = ns.length := by rw [← Array.length_toList, hr.length]
 have hel := Bz (prog := prog) (w := w) hs hr
 have hf : (eT ns (cX ns) f m l).fits es.size = true := by
  unfold SetTable.fits SetTable.fill
  have : ns.length ≤ cX ns := by unfold cX; split <;> lia
  simp [hsz, this]
 have hkey : (intKind prog w).is (Int.ofNat k) (.int (Int.ofNat k) tk) = true := intKind_is _ _ _ _
 have hb : es.size < scanBound := by rw [hsz]; unfold scanBound; lia
 unfold setAddHashed setAddHashedIn
 refine wpAny_holding (HI (wpAny_setState_of ho rfl hf ?_))
 dsimp only
 rw [byScan_of rfl hb hel]
 simp only [↓reduceIte]
 unfold setAddByScan
 refine HI ?_
 refine HI (wpAny_rule ?_)
 have hscan : ∀ {Q' : ScanMet → Shared → Prop}, Q' (match es.toList.findIdx? (fun e => (intKind prog w).is (Int.ofNat k) e.2) with | some j => .found (0 + j) | none => .absent) s → wpAny (model prog w) A (setScan a (.int (Int.ofNat k) tk) (Int.ofNat k) true es) Q' E s := fun {Q'} h => by
  have key := wpAny_setScan_of (knd := intKind prog w) (adding := true) (E := E) (A := A) (Q := Q') hkey ho rfl hf hel h
  rw [pd hk] at key
  exact key
 refine HI (hscan ?_)
 cases hri : List.findIdx? (fun e => (intKind prog w).is (Int.ofNat k) e.2) es.toList with
 | some j =>
  dsimp only
  refine HJ (HJ ?_)
  obtain ⟨hj, hpj, _⟩ := List.findIdx?_eq_some_iff_getElem.mp hri
  obtain ⟨n, hn, tk', he⟩ := hr.mem _ (List.getElem_mem hj)
  rw [he] at hpj
  have hkn : k = n := by
   have h1 : Value.isInt (Int.ofNat k) (.int (Int.ofNat n) tk') = true := hpj
   have h2 : (n : Int) = (k : Int) := by simpa [Value.isInt] using h1
   lia
  subst hkn
  exact hQ s.heap ns false (Heap.SameBut.refl a s.heap) ⟨es, ep, f, m, ho, hs, hr⟩ fun x => ⟨.inl, fun h => h.elim id fun q => q ▸ hn⟩
 | none =>
  dsimp only
  have hn : k ∉ ns := fun hm => by
   obtain ⟨tk', he⟩ := hr.has k hm
   have := List.findIdx?_eq_none_iff.mp hri _ he
   rw [intKind_is] at this
   cases this
  rw [EE hs hk hn hr]
  dsimp only
  have h2 := List.all_eq_true.mp (List.all_eq_true.mp AK ns hs) k (by simp [hk])
  have hc : ns.contains k = false := by simpa using hn
  unfold zN at h2
  rw [hc, Bool.false_or, Bool.and_eq_true, Bool.and_eq_true, decide_eq_true_eq, decide_eq_true_eq] at h2
  have hs' : gz ns k ∈ iT := by simpa using h2.1.1
  generalize hes : SetTable.insertAt es (SetTable.below ns.toArray k) (Int.ofNat k, Value.int (Int.ofNat k) tk) = es1
  have e0 : es1.toList = es.toList.take (SetTable.below ns.toArray k) ++ (Int.ofNat k, Value.int (Int.ofNat k) tk) :: es.toList.drop (SetTable.below ns.toArray k) := by rw [← hes, j6]
  have hr' : fj (gz ns k) es1.toList := by
   rw [e0]
   exact fj.append (hr.take _) ⟨⟨tk, rfl⟩, hr.drop _⟩
  have e2 : (gz ns k).length = ns.length + 1 := by
   unfold gz
   rw [eX, aB, List.length_take, List.length_drop]
   have := h2.1.2
   lia
  have e1 : es1.size = ns.length + 1 := by rw [← Array.length_toList, hr'.length, e2]
  have hmem : ∀ x, x ∈ gz ns k ↔ x ∈ ns ∨ x = k := fun x => by
   unfold gz
   rw [List.mem_append, List.mem_cons]
   conv => rhs; rw [← List.take_append_drop (SetTable.below ns.toArray k) ns, List.mem_append]
   constructor
   ·rintro (h | h | h)
    ·exact .inl (.inl h)
    ·exact .inr h
    ·exact .inl (.inr h)
   ·rintro ((h | h) | h)
    ·exact .inl h
    ·exact .inr (.inr h)
    ·exact .inr (.inl h)
  have hz : es1.size ≤ sizeLine := by rw [e1, sizeLine_eq]; lia
  refine HI (HJ ?_)
  rw [if_pos rfl]
  refine HI (wpAny_of_eq (a := true) rfl ?_)
  simp only [if_true]
  refine HI (wpAny_storeSet_of ho rfl ?_ hz)
  have hg : (s.heap.update a (Obj.putSet es1 (eT (gz ns k) (cX ns) f m l))).get? a = some { cls := .type "set", dict := none, data := .set es1 (ep + 1) (eT (gz ns k) (cX ns) f m l) } := by
   rw [Heap.get?_update_self _ ho (by rw [putSet_of es1 _ rfl]; rfl), putSet_of es1 _ rfl]
  have hsb := Heap.SameBut.update s.heap a (Obj.putSet es1 (eT (gz ns k) (cX ns) f m l))
  have htf : (eT (gz ns k) (cX ns) f m l).tooFull = decide ((ns.length + 1) * 5 ≥ cX ns * 3) := by
   unfold SetTable.tooFull SetTable.fill
   simp [e2]
  rw [htf]
  by_cases h4 : ns.length = 4
  ·have hm7 : cX ns = 7 := by unfold cX; rw [if_neg (by lia)]
   have hm31 : cX (gz ns k) = 31 := by unfold cX; rw [if_pos (by lia)]
   rw [if_pos (by rw [h4, hm7]; rfl)]
   rw [hm7] at hg hsb ⊢
   obtain ⟨f', m', hrl⟩ := By (f := f) (m := m) (l := l) hs' (by lia) hr'
   rw [show SetTable.grown es1.size = 20 from by rw [e1, h4]; rfl, hrl]
   dsimp only
   refine HI (HJ ?_)
   refine HI (wpAny_storeSet_of hg rfl ?_ hz)
   refine HJ (HJ (hQ _ (gz ns k) true (hsb.trans (Heap.SameBut.update _ a _)) ⟨es1, ep + 2, f', m', ?_, hs', hr'⟩ hmem))
   rw [Heap.get?_update_self _ hg (by rw [putSet_of es1 _ rfl]; rfl), putSet_of es1 _ rfl, hm31]
  ·have hmm : cX (gz ns k) = cX ns := by unfold cX; rw [e2]; split <;> split <;> first | decide | lia
   have hnt : ¬ ((ns.length + 1) * 5 ≥ cX ns * 3) := by
    unfold cX
    have := h3.1.1
    split <;> lia
   rw [decide_eq_false hnt]
   rw [if_neg (by simp)]
   refine HJ (HJ (hQ _ (gz ns k) true hsb ⟨es1, ep + 1, f, m, ?_, hs', hr'⟩ hmem))
   rw [hmm]; exact hg
end
end
section
noncomputable abbrev lU (w : World) : Bool := !(w.params.followText "set-order")
section
variable {prog : Program} {w : World} {A : Around} {E : Value → Shared → Prop} {s : Shared}
theorem Dh (a : Value) {Q₁ : Value → Shared → Prop}
  (h : Q₁ (.ref s.heap.objs.size) { s with heap := s.heap.push { cls := .type "set", dict := none, data := .set #[] 0 (.fresh 0 0 (lU w)) } }) :
  codeAny (model prog w) A (.call (.builtin "set.__new__") ⟨[.type "set", a], []⟩) (wants Q₁ E) s := by
 refine codeAny_of_tree ?_
 show wpAny _ A.in1 (do checkBuiltinCall "set.__new__" ⟨[.type "set", a], []⟩; again (.builtin "set.__new__" ⟨[.type "set", a], []⟩)) _ _ s
 refine HI (wpAny_of_eq (PySem.F.newCall_set_1 a) (HJ ⟨plainId_quiet PySem.F.plain_set_new _, codeAny_builtin PySem.F.entry_set_new ?_⟩))
 rw [Around.under_plainId PySem.F.plain_set_new _]
 unfold Builtin.«set.__new__» Builtin.Frozenset.newClass
 have hsub := PySem.sub_set_self
 obtain ⟨hp, g, d, tk, os⟩ := s
 dsimp only
 wp_walk
 refine wpAny_askSetting (HJ ?_)
 dsimp only
 simp only [newObj]
 refine HI (wpAny_alloc (HJ ?_))
 exact HJ h
noncomputable def Gi (ks : List Nat) (i : Nat) (ns : List Nat) : Prop := ∀ x, x ∈ ns ↔ ∃ j, j < i ∧ ks[j]? = some x
variable {R : Result → Shared → Prop} {I : Addr} {fp wr : List Addr} {G : Array GenState → Array GenState → Prop} {P : Nat → Value → Prop} {St : Nat → Shared → Prop}
theorem Di {ks : List Nat} {l : Bool} (hks : ∀ k ∈ ks, k < 7) (W : WalksS prog w A.in1 I fp wr G ks.length P St) (S : Addr) (hSf : S ∉ fp)
  (hval : ∀ i v, P i v → ∃ t k, v = .int (Int.ofNat k) t ∧ ks[i]? = some k) :
  ∀ (k i : Nat) (s : Shared) (ns : List Nat), ks.length - i = k → i ≤ ks.length → St i s → oA s.heap S ns l → Gi ks i ns →
   (∀ s' ns', Moved (S :: wr) G s s' → oA s'.heap S ns' l → Gi ks ks.length ns' → R (.ok (.ret .none)) s') →
   codeAny (model prog w) A (.builtin "set.update.loop" ⟨[.ref S, .ref I], []⟩) R s := by
 have hSw : S ∉ wr := fun h => hSf (W.sub _ h)
 have hsub : ∀ b ∈ wr, b ∈ S :: wr := fun b hb => dP _ hb
 intro k
 induction k with
 | zero =>
  intro i s ns hk hi hst hS hM hR
  have hin : i = ks.length := by lia
  subst hin
  refine codeAny_builtin PyProof.Rows.F.entry_set_update_loop ?_
  rw [Around.under_plainId PyProof.Rows.F.plain_set_update_loop _]
  show wpAny _ A.in1 (pyNext (.ref I) >>= _) _ _ s
  refine HI (W.done s _ _ hst fun s' hm => ?_)
  show wpAny _ A.in1 (ret Value.none) _ _ s'
  refine HJ (hR s' ns (hm.mono hsub) ?_ hM)
  obtain ⟨es, ep, f, m, ho, rest⟩ := hS
  exact ⟨es, ep, f, m, hm.heap S _ hSw ho, rest⟩
 | succ k ih =>
  intro i s ns hk hi hst hS hM hR
  have hlt : i < ks.length := Fe hk
  refine codeAny_builtin PyProof.Rows.F.entry_set_update_loop ?_
  rw [Around.under_plainId PyProof.Rows.F.plain_set_update_loop _]
  show wpAny _ A.in1 (pyNext (.ref I) >>= _) _ _ s
  refine HI (W.item i s _ _ hlt hst fun v s' hP hst' hm => ?_)
  obtain ⟨t, x, rfl, hx⟩ := hval i v hP
  have hx7 : x < 7 := hks x (HM hx)
  have hS' : oA s'.heap S ns l := by
   obtain ⟨es, ep, f, m, ho, rest⟩ := hS
   exact ⟨es, ep, f, m, hm.heap S _ hSw ho, rest⟩
  show wpAny _ A.in1 (holding [Value.int (Int.ofNat x) t] (setAdd S (.int (Int.ofNat x) t)) >>= _) _ _ s'
  refine HI (wpAny_holding ?_)
  unfold setAdd
  refine wpAny_holding ?_
  refine HI ((intKind prog w).pyHash (k := Int.ofNat x) (intKind_is _ _ _ _) ?_)
  rw [pd hx7]
  refine EF (s := { s' with toks := s'.toks + 1 }) hx7 hS' fun h' ns' b hsb hS2 hmem => ?_
  have hM' : Gi ks (i + 1) ns' := fun y => by
   rw [hmem y, hM y]
   constructor
   ·rintro (⟨j, hj, e⟩ | rfl)
    ·exact ⟨j, nF, e⟩
    ·exact ⟨i, by lia, hx⟩
   ·rintro ⟨j, hj, e⟩
    by_cases q : j = i
    ·subst q; rw [hx] at e; exact .inr (Option.some.inj e).symm
    ·exact .inl ⟨j, by lia, e⟩
  refine HJ ⟨plainId_quiet PyProof.Rows.F.plain_set_update_loop _, ih (i + 1) _ ns' (wz hk) hlt (W.frame _ s' _ _ hst' (Nat.le_succ _) fun b hb o e => ?_) hS2 hM' fun s'' ns'' hm'' hS'' hM'' => ?_⟩
  ·rw [hsb.2 b (fun h : b = S => hSf (by rw [← h]; exact hb))]; exact e
  ·refine hR s'' ns'' (Moved.trans W.gtrans ((hm.mono hsub).then_heap (Nat.le_succ _) fun b o hb e => ?_) hm'') hS'' hM''
   rw [hsb.2 b (fun h : b = S => hb (by rw [h]; exact c8))]; exact e
end
end
section
noncomputable def AL (items : List Value) (ks : List Nat) : Prop := items.length = ks.length ∧ ∀ (i : Nat) (v : Value), items[i]? = some v → ∃ t k, v = .int (Int.ofNat k) t ∧ ks[i]? = some k
theorem Hi {ks : List Nat} : Gi ks 0 [] := fun x => Iff.intro (fun q => by simp at q) (fun q => by obtain ⟨j, hj, _⟩ := q; exact absurd hj (Nat.not_lt_zero _))
section
variable {prog : Program} {w : World} {A : Around} {E : Value → Shared → Prop} {s : Shared}
noncomputable abbrev tR (w : World) : Obj := { cls := .type "set", dict := none, data := .set #[] 0 (.fresh 0 0 (lU w)) }
theorem EG {h : Heap} {a : Addr} (e : h.get? a = some (tR w)) : oA h a [] (lU w) := ⟨#[], 0, 0, 0, e, Dg, trivial⟩
theorem Dj {l : Addr} {items : Array Value} {ks : List Nat} {Q : Value → Shared → Prop} (hh : A.handled = none) (hl : s.heap.IsList l items) (hi : AL items.toList ks) (hks : ∀ k ∈ ks, k < 7)
  (h : ∀ (h' : Heap) (tk : Nat) (ns : List Nat), oA h' s.heap.objs.size ns (lU w) → (∀ x, x ∈ ns ↔ x ∈ ks) → (∀ b o, s.heap.get? b = some o → h'.get? b = some o) → Q (.ref s.heap.objs.size) { s with heap := h', toks := tk }) :
  wpAny (model prog w) A (call (.type "set") [.ref l]) Q E s := by
 obtain ⟨c, tl, hmro⟩ := PySem.F.called_set.mro
 have hmade := PySem.F.called_set.made
 have hsub := PySem.F.called_set.sub
 have hmet : ∀ ns, Gi ks ks.length ns → ∀ x, x ∈ ns ↔ x ∈ ks := fun ns hM x => by
  rw [hM x]
  exact ⟨fun ⟨j, _, e⟩ => HM e, fun hx => let ⟨j, e⟩ := List.getElem?_of_mem hx; ⟨j, (List.getElem?_eq_some_iff.mp e).1, e⟩⟩
 refine wpAny_call (codeAny_of_tree ?_)
 show wpAny _ _ (callAny (.type "set") _) _ _ _
 refine HJ ⟨Code.quiet_builtin _ (by decide +kernel), codeAny_builtin PySem.F.entry_type_call ?_⟩
 rw [Around.under_plain (weight_type_call_type "set" [.ref l] []) rfl]
 have h1 := PySem.F.called_set.notType
 have h2 := PySem.F.called_set.canCreate
 have hct := PySem.F.typeCall_set_1 (.ref l)
 repeat (any_goals (first | assumption | wp_step))
 refine codeAny_mono (Dh (.ref l) (E := E) (Q₁ := fun obj s₁ => obj = .ref s.heap.objs.size ∧ s₁ = { s with heap := s.heap.push (tR w) }) ⟨rfl, rfl⟩) fun r s₁ hr => ?_
 cases r with
 | error e => exact hr
 | ok fl =>
  cases fl with
  | ret obj =>
   obtain ⟨rfl, rfl⟩ := hr
   have hS : (s.heap.push (tR w)).get? s.heap.objs.size = some (tR w) := Heap.get?_push_size _ rfl
   have hT : Shared.TypeIs { s with heap := s.heap.push (tR w) } (.ref s.heap.objs.size) "set" := ⟨_, hS, rfl⟩
   have hli := PySem.F.called_set.init.lookup
   have hbi := PySem.F.called_set.init.bind (.ref s.heap.objs.size)
   repeat (any_goals (first | assumption | wp_step))
   refine codeAny_mono (codeAny_call_builtin (R := wants (fun r s₂ => r = .none ∧ ∃ h' tk ns, s₂ = { s with heap := h', toks := tk } ∧ oA h' s.heap.objs.size ns (lU w) ∧ Gi ks ks.length ns ∧
     (∀ b o, s.heap.get? b = some o → h'.get? b = some o)) E) PySem.F.called_set.init.plain PySem.F.entry_set_init (PySem.check_set_init_1 hT ?_)) fun r₂ s₂ hr₂ => ?_
   ·obtain ⟨ol, hol, hcl, nl, hdl⟩ := hl
    obtain ⟨ocls, odict, odata, oslots⟩ := ol
    simp only at hcl hdl
    subst hcl; subst hdl
    have hol' : (s.heap.push (tR w)).get? l = some { cls := .type "list", dict := odict, data := .seq items nl, slots := oslots } := Heap.get?_push_of_some _ hol
    have hsls := PySem.F.sub_list_set
    have hslf := PySem.F.sub_list_frozenset
    have hne : (Value.type "list" == Value.type "dict") = false := by decide
    have hl1 : (s.heap.push (tR w)).IsList l items := ⟨_, hol', rfl, nl, rfl⟩
    unfold Builtin.«set.__init__» noKeywords Builtin.Frozenset.updateFrom
    generalize hPI : pyIter = PI
    wp_walk
    subst hPI
    refine wpAny_pyIter_list hl1 ?_
    refine HI (wpAny_runValue ?_)
    have hlS : l < s.heap.objs.size := Heap.lt_size hol
    have hh3 : A.in1.in1.in1.handled = none := by simp [hh]
    have hneI : l ≠ (s.heap.push (tR w)).objs.size := by
     rw [Heap.size_push]; exact Nat.ne_of_lt (Nat.lt_succ_of_lt hlS)
    have hSf : s.heap.objs.size ∉ [(s.heap.push (tR w)).objs.size, l] := by
     rw [Heap.size_push]; simp only [List.mem_cons, List.mem_singleton, List.not_mem_nil, or_false, not_or]
     exact ⟨Nat.ne_of_lt (Nat.lt_succ_self _), Nat.ne_of_gt hlS⟩
    have hlen : items.size = ks.length := by rw [← Array.length_toList, hi.1]
    have W := (Walks.list (prog := prog) (w := w) hh3 (s.heap.push (tR w)).objs.size l hneI items).toS
    rw [hlen] at W
    refine Di hks W s.heap.objs.size hSf (fun i v hv => hi.2 i v (by rw [Array.getElem?_toList]; exact hv)) (ks.length - 0) 0 _ [] (by lia) (Nat.zero_le _)
     ⟨⟨_, Heap.get?_push_size _ rfl, rfl, rfl⟩, (hl1.push _)⟩ (EG (Heap.get?_push_of_some _ hS)) Hi fun s' ns' hm hS' hM' => ?_
    obtain ⟨h', g', d', tk', os'⟩ := s'
    have eg : g' = s.gens := hm.gens
    have ed : d' = s.drawn := hm.drawn
    have eo : os' = s.os := hm.os
    subst eg; subst ed; subst eo
    show wpAny _ _ _ _ _ _
    refine HJ ?_
    show wpAny _ _ (ret Value.none) _ _ _
    refine HJ ⟨rfl, h', tk', ns', rfl, hS', hM', fun b o e => ?_⟩
    have hb := Heap.lt_size e
    have hb1 : b ≠ s.heap.objs.size := Nat.ne_of_lt hb
    have hb2 : b ≠ (s.heap.push (tR w)).objs.size := by
     rw [Heap.size_push]; exact Nat.ne_of_lt (Nat.lt_succ_of_lt hb)
    exact hm.heap b o (by simp only [List.mem_cons, List.not_mem_nil, or_false, not_or]; exact ⟨hb1, hb2⟩) (Heap.get?_push_of_some _ (Heap.get?_push_of_some _ e))
   ·cases r₂ with
    | error e => exact hr₂
    | ok fl₂ =>
     cases fl₂ with
     | ret r =>
      obtain ⟨rfl, h', tk, ns, rfl, hS', hM', hk'⟩ := hr₂
      repeat (any_goals (first | assumption | wp_step))
      exact h _ _ ns hS' (hmet ns hM') hk'
     | _ => exact hr₂.elim
  | _ => exact hr.elim
end
end
theorem yw {α : Type} : ∀ {l : List α} {i : Nat} (h : i < l.length), (l[i] :: l.eraseIdx i).Perm l
 | [], _, h => by simp at h
 | a :: r, 0, _ => by simp
 | a :: r, i + 1, h => by
  simp only [List.getElem_cons_succ, List.eraseIdx_cons_succ]
  exact (List.Perm.swap a _ _).trans (List.Perm.cons a (yw (by simpa using h)))
theorem AM {α : Type} (next : Nat → Nat) : ∀ (fuel k : Nat) (left : List α) (out : Array α), left.length ≤ fuel → (pickOrder.go next fuel k left out).toList.Perm (out.toList ++ left)
 | 0, k, [], out, _ => by simp [pickOrder.go]
 | 0, k, _ :: _, out, h => by simp at h
 | fuel + 1, k, left, out, h => by
  unfold pickOrder.go
  cases left with
  | nil => simp
  | cons a r =>
   have hlt : next k % (a :: r).length < (a :: r).length := Nat.mod_lt _ (by simp)
   rw [List.getElem?_eq_getElem hlt]
   dsimp only
   refine (AM next fuel (k + 1) _ _ (by rw [List.length_eraseIdx]; split <;> simp at h ⊢ <;> exact ooK)).trans ?_
   rw [Array.toList_push, List.append_assoc]
   refine List.Perm.append_left _ ?_
   exact yw hlt
theorem BA {α : Type} (next : Nat → Nat) (xs : Array α) : (pickOrder next xs).toList.Perm xs.toList := by
 have := AM next xs.size 0 xs.toList #[] (by simp)
 simpa [pickOrder] using this
noncomputable def tS (ns : List Nat) : Bool := SetTable.below ns.toArray 0 == 0 && (List.range ns.length).all fun i => SetTable.below ns.toArray (ns.getD i 0 + 1) == i + 1
theorem vX : (iT.all tS) = true := by decide +kernel
theorem pN : Slot "set" "__iter__" "set.__iter__" :=
 .of (owner := "set") (n := "__iter__") (by rw [typeLookup_type, builtinLookup_eq_fast]; kernel_rfl) (by decide +kernel) (by decide +kernel) (by decide +kernel)
  (by first | exact .inl (by decide +kernel) | exact .inr (by decide +kernel)) (by rw [isSubtype_type]; kernel_rfl)
theorem vd : entryFor table "set.__iter__" = some Builtin.«frozenset.__iter__» := entryFor_alias (id' := "frozenset.__iter__") (by kernel_rfl) rfl (by decide +kernel) (by kernel_rfl)
theorem wR (a : Value) : argsOk "set.__iter__" ⟨[a], []⟩ := by unfold argsOk; kernel_rfl
theorem yx : Slot "set" "__len__" "set.__len__" :=
 .of (owner := "set") (n := "__len__") (by rw [typeLookup_type, builtinLookup_eq_fast]; kernel_rfl) (by decide +kernel) (by decide +kernel) (by decide +kernel)
  (by first | exact .inl (by decide +kernel) | exact .inr (by decide +kernel)) (by rw [isSubtype_type]; kernel_rfl)
theorem fY : Slot "set_iterator" "__next__" "set_iterator.__next__" :=
 .of (owner := "set_iterator") (n := "__next__") (by rw [typeLookup_type, builtinLookup_eq_fast]; kernel_rfl) (by decide +kernel) (by decide +kernel) (by decide +kernel)
  (by first | exact .inl (by decide +kernel) | exact .inr (by decide +kernel)) (by rw [isSubtype_type]; kernel_rfl)
theorem oB : entryFor table "set_iterator.__next__" = some Builtin.«set_iterator.__next__» := entryFor_of_tree (by kernel_rfl)
theorem pO (a : Value) : argsOk "set_iterator.__next__" ⟨[a], []⟩ := by unfold argsOk; kernel_rfl
theorem pP : Slot "set_iterator" "__iter__" "set_iterator.__iter__" :=
 .of (owner := "set_iterator") (n := "__iter__") (by rw [typeLookup_type, builtinLookup_eq_fast]; kernel_rfl) (by decide +kernel) (by decide +kernel) (by decide +kernel)
  (by first | exact .inl (by decide +kernel) | exact .inr (by decide +kernel)) (by rw [isSubtype_type]; kernel_rfl)
theorem wS (a : Value) : argsOk "set_iterator.__iter__" ⟨[a], []⟩ := by unfold argsOk; kernel_rfl
section
theorem ve : entryFor table "set_iterator.__iter__" = some Builtin.«dict_keyiterator.__iter__» := entryFor_alias (id' := "dict_keyiterator.__iter__") (by kernel_rfl) rfl (by decide +kernel) (by kernel_rfl)
noncomputable abbrev tT (es : Array (Int × Value)) (ep : Nat) (t : SetTable) : Obj := { cls := .type "set", dict := none, data := .set es ep t }
noncomputable abbrev vY (slot : Int) (a : Addr) (i n ep : Nat) : Obj := { cls := .type "set_iterator", data := .fields #[rawInt slot, rawInt i, .ref a, rawInt n, rawInt ep] }
section
variable {prog : Program} {w : World} {A : Around} {E : Value → Shared → Prop} {s : Shared} {a I : Addr} {es : Array (Int × Value)} {ep : Nat} {t : SetTable}
theorem j7 {Q : Bool → Shared → Prop} (h : Q (w.params.followText "set-order") s) : wpAny (model prog w) A setsByText Q E s := by
 unfold setsByText
 exact HI (wpAny_askSetting (HJ h))
theorem pQ {ns : List Nat} {f m : Nat} {l : Bool} {es : Array (Int × Value)} (hs : ns ∈ iT) (hr : fj ns es.toList) : (eT ns (cX ns) f m l).fits es.size = true := by
 have h3 := List.all_eq_true.mp nU ns hs
 unfold ri at h3
 simp only [Bool.and_eq_true, decide_eq_true_eq] at h3
 have hsz : es.size = ns.length := by rw [← Array.length_toList, hr.length]
 unfold SetTable.fits SetTable.fill
 have : ns.length ≤ cX ns := by unfold cX; split <;> lia
 simp [hsz, this]
theorem zO {ns : List Nat} {M f m : Nat} {l : Bool} {Q : Value → Shared → Prop} (ho : s.heap.get? a = some (tT es ep (eT ns M f m l))) (hf : (eT ns M f m l).fits es.size = true)
  (hQ : Q (.ref s.heap.objs.size) { s with heap := s.heap.push (vY 0 a 0 es.size ep) }) : wpAny (model prog w) A (pyIter (.ref a)) Q E s := by
 have hT : s.TypeIs (.ref a) "set" := ⟨_, ho, rfl⟩
 refine wpAny_pyIter_slot hT pN (wpAny_call_entry pN hT vd ?_ (wR _))
 unfold Builtin.«frozenset.__iter__»
 refine HI (wpAny_of_eq (a := a) rfl ?_)
 refine HI (HI (HI (wpAny_setState_of ho rfl hf (HJ (HJ ?_)))))
 refine HI (HI (wpAny_setState_of ho rfl hf (HI (j7 (HJ ?_)))))
 generalize w.params.followText "set-order" = b
 refine KFB.if_not (by cases b <;> rfl) ?_
 refine HI (HJ (HI (HI (wpAny_setState_of ho rfl hf (HJ (HI ?_))))))
 refine wpAny_newObj_type (HJ ⟨_, rfl, "set_iterator", _, ⟨_, Heap.get?_push_size _ rfl, rfl⟩, fY.lookup, ?_⟩)
 exact hQ
theorem zP {slot : Int} {i : Nat} {x : Value} {nx : Nat} {Q : Option Value → Shared → Prop} {ns : List Nat} {M f m : Nat} {l : Bool} (hi : s.heap.get? I = some (vY slot a i es.size ep)) (ho : s.heap.get? a = some (tT es ep (eT ns M f m l))) (hf : (eT ns M f m l).fits es.size = true)
  (hn : ∀ {A' : Around} {Q' : Option (Value × Nat) → Shared → Prop} {E' : Value → Shared → Prop}, Q' (some (x, nx)) s → wpAny (model prog w) A' (setNext a slot.toNat i ep) Q' E' s)
  (hQ : ∀ h', Heap.SameBut I s.heap h' → h'.get? I = some (vY nx a (i + 1) es.size ep) → Q (some x) { s with heap := h' }) : wpAny (model prog w) A (pyNext (.ref I)) Q E s := by
 have hT : s.TypeIs (.ref I) "set_iterator" := ⟨_, hi, rfl⟩
 unfold pyNext
 refine HI (wpAny_attempt (wpAny_callSpecial?_slot (name := Str.ofString "__next__") hT fY (wpAny_call_entry fY hT oB ?_ (pO _))))
 unfold Builtin.«set_iterator.__next__»
 refine HI (wpAny_of_eq (a := (Value.ref I, ([] : List Value))) rfl ?_)
 refine HI (wpAny_fieldsOf hi rfl ?_)
 show wpAny _ _ (setEntries a >>= _) _ _ s
 refine HI (HI (wpAny_setState_of ho rfl hf (HJ (KFB.if_not (by simp) ?_))))
 show wpAny _ _ (setNext a slot.toNat i ep >>= _) _ _ s
 refine HI (hn ?_)
 dsimp only
 refine HI (wpAny_setField_rec hi (by simp [rawInt]) fun h1 e1 s1 => ?_)
 refine HI (wpAny_setField_rec e1 (by simp [rawInt]) fun h2 e2 s2 => ?_)
 exact HJ ⟨_, rfl, HJ (hQ h2 (s1.trans s2) (by simpa [rawInt, vY, Int.natCast_add] using e2))⟩
theorem tU {slot : Int} {i : Nat} {Q : Option Value → Shared → Prop} {ns : List Nat} {M f m : Nat} {l : Bool} (hh : A.handled = none) (hi : s.heap.get? I = some (vY slot a i es.size ep)) (ho : s.heap.get? a = some (tT es ep (eT ns M f m l))) (hf : (eT ns M f m l).fits es.size = true)
  (hn : ∀ {A' : Around} {Q' : Option (Value × Nat) → Shared → Prop} {E' : Value → Shared → Prop}, Q' none s → wpAny (model prog w) A' (setNext a slot.toNat i ep) Q' E' s)
  (hQ : ∀ h', (∀ b o, b ≠ I → s.heap.get? b = some o → h'.get? b = some o) → Q none { s with heap := h' }) : wpAny (model prog w) A (pyNext (.ref I)) Q E s := by
 have hT : s.TypeIs (.ref I) "set_iterator" := ⟨_, hi, rfl⟩
 unfold pyNext
 refine HI (wpAny_attempt (wpAny_callSpecial?_slot (name := Str.ofString "__next__") hT fY (wpAny_call_entry fY hT oB ?_ (pO _))))
 unfold Builtin.«set_iterator.__next__»
 refine HI (wpAny_of_eq (a := (Value.ref I, ([] : List Value))) rfl ?_)
 refine HI (wpAny_fieldsOf hi rfl ?_)
 show wpAny _ _ (setEntries a >>= _) _ _ s
 refine HI (HI (wpAny_setState_of ho rfl hf (HJ (KFB.if_not (by simp) ?_))))
 show wpAny _ _ (setNext a slot.toNat i ep >>= _) _ _ s
 refine HI (hn ?_)
 dsimp only
 refine HI (wpAny_setField_rec hi (by simp [rawInt]) fun h1 e1 s1 => ?_)
 refine HI ?_
 unfold newExc newTuple
 refine HI (wpAny_newObj_type ?_ (by size_fits))
 refine HI (m := firstArgMember _ _) (wpAny_of_eq (a := Value.none) (by first | rfl | (simp only [firstArgMember]; rfl)) ?_)
 refine wpAny_newObj_type ?_ (by size_fits)
 unfold raiseNew
 refine HI (wpAny_handled ?_)
 rw [show A.in1.handled = none from hh]
 refine HI (HJ (wpAny_throw ?_))
 refine HI (wpAny_isInstance (T := "StopIteration") (b := true) ⟨_, Heap.get?_push_size _ rfl, rfl⟩ isSubtype_stop ?_)
 exact HJ (hQ _ fun b o hb z => Heap.get?_push_of_some _ (Heap.get?_push_of_some _ ((s1.2 b hb).trans z)))
end
end
section
noncomputable def ju (w : World) (a : Addr) (ep : Nat) (es : Array (Int × Value)) : Array (Int × Value) := if w.params.followText "set-order" then pickOrder (w.params.setOrder a ep) es else es
theorem yy (w : World) (a : Addr) (ep : Nat) (es : Array (Int × Value)) : (ju w a ep es).toList.Perm es.toList := by
 unfold ju
 split
 ·exact BA _ _
 ·exact List.Perm.refl _
noncomputable def Dk (w : World) (ns : List Nat) (slot : Int) (i : Nat) : Prop := w.params.followText "set-order" = true ∨ SetTable.below ns.toArray slot.toNat = i
section
variable {prog : Program} {w : World} {A : Around} {E : Value → Shared → Prop} {s : Shared} {a I : Addr} {es : Array (Int × Value)} {ep : Nat}
theorem tV {ns : List Nat} {f m : Nat} {slot : Int} {i : Nat} {Q : Option (Value × Nat) → Shared → Prop} (ho : s.heap.get? a = some (tT es ep (eT ns (cX ns) f m (lU w)))) (hs : ns ∈ iT) (hr : fj ns es.toList)
  (hsl : Dk w ns slot i)
  (hQ : Q (((ju w a ep es)[i]?).map fun e => (e.2, if w.params.followText "set-order" then slot.toNat else ns.getD i 0 + 1)) s) :
  wpAny (model prog w) A (setNext a slot.toNat i ep) Q E s := by
 have hf := pQ (f := f) (m := m) (l := lU w) hs hr
 unfold setNext
 refine HI (wpAny_setState_of ho rfl hf (HI (j7 ?_)))
 cases hb : w.params.followText "set-order" with
 | true =>
  rw [hb] at hQ
  rw [if_pos rfl] at hQ ⊢
  refine KFB.if_not (by simp) ?_
  unfold setWalk
  refine HI (HI (wpAny_setState_of ho rfl hf (HI (j7 ?_))))
  rw [hb, if_pos rfl]
  refine HI (wpAny_askSetting (HJ ?_))
  unfold ju at hQ
  rw [hb, if_pos rfl] at hQ
  exact HJ hQ
 | false =>
  rw [hb] at hQ
  rw [if_neg (by simp)] at hQ
  rw [if_neg (by simp)]
  refine KFB.if_not rfl ?_
  have hled : lU w = true := by unfold lU; rw [hb]; rfl
  rw [hled]
  refine HI (HJ ?_)
  refine HJ ?_
  rcases hsl with h | h
  ·rw [hb] at h; cases h
  ·unfold ju at hQ
   rw [hb, if_neg (by simp)] at hQ
   show Q (match es[SetTable.below ns.toArray slot.toNat]?, ns.toArray[SetTable.below ns.toArray slot.toNat]? with | some (_, x), some j => some (x, j + 1) | _, _ => none) s
   rw [h]
   have hsz : es.size = ns.length := by rw [← Array.length_toList, hr.length]
   by_cases hi : i < es.size
   ·have e1 : es[i]? = some es[i] := by simp [hi]
    have e2 : ns.toArray[i]? = some (ns.getD i 0) := by
     have : i < ns.length := by lia
     simp [List.getD, this]
    rw [e1] at hQ ⊢
    rw [e2]
    exact hQ
   ·have e1 : es[i]? = none := by simp; exact nD
    rw [e1] at hQ ⊢
    exact hQ
end
end
section
section
variable {prog : Program} {w : World} {A : Around} {E : Value → Shared → Prop} {s : Shared} {a I : Addr} {es : Array (Int × Value)} {ep : Nat}
noncomputable def GH (w : World) (a : Addr) (es : Array (Int × Value)) (ep : Nat) (ns : List Nat) (f m : Nat) (h : Heap) : Prop := h.get? a = some (tT es ep (eT ns (cX ns) f m (lU w)))
theorem AN : ∀ (l : List (Int × Value)), (∀ e ∈ l, ∃ n tk, e = (Int.ofNat n, Value.int (Int.ofNat n) tk)) → IntsAre (l.map (·.2)) ((l.map fun e => e.1.toNat).map Int.ofNat)
 | [], _ => .nil
 | e :: l, h => by
  obtain ⟨n, tk, rfl⟩ := h e c8
  exact .cons _ tk (AN l fun e he => h e (dP _ he))
theorem tW : (ju w a ep es).size = es.size := by
 rw [← Array.length_toList, (yy w a ep es).length_eq, Array.length_toList]
theorem BB {ns : List Nat} {f m : Nat} (hh : A.handled = none) (hne : a ≠ I) (hs : ns ∈ iT) (hr : fj ns es.toList) :
  Walks prog w A I [I, a] [I] es.size (fun i v => ∃ e, (ju w a ep es)[i]? = some e ∧ v = e.2)
   (fun i h => ∃ slot, Dk w ns slot i ∧ h.get? I = some (vY slot a i es.size ep) ∧ GH w a es ep ns f m h) where
 sub := fun b hb => by simp at hb; simp [hb]
 frame := fun i h h' st hk => by
  obtain ⟨slot, x1, x2, x3⟩ := st
  exact ⟨slot, x1, hk I (by simp) _ x2, hk a (by simp) _ x3⟩
 item := fun i s Q E hi st hQ => by
  obtain ⟨slot, x1, x2, x3⟩ := st
  have hio : i < (ju w a ep es).size := by rw [tW]; exact hi
  have he : (ju w a ep es)[i]? = some (ju w a ep es)[i] := by simp [hio]
  have hsz : es.size = ns.length := by rw [← Array.length_toList, hr.length]
  refine zP x2 x3 (pQ hs hr) (fun {A' Q' E'} hq => tV x3 hs hr x1 (by rw [he]; exact hq)) fun h' hsb e' => ?_
  refine hQ _ h' s.toks ⟨_, he, rfl⟩ ⟨_, ?_, e', (hsb.2 a hne).trans x3⟩ fun b o hb z => (hsb.2 b (by simpa using hb)).trans z
  cases hb : w.params.followText "set-order" with
  | true => exact .inl hb
  | false =>
   refine .inr ?_
   have h4 := List.all_eq_true.mp vX ns hs
   unfold tS at h4
   rw [Bool.and_eq_true] at h4
   have := List.all_eq_true.mp h4.2 i (by simp; lia)
   simpa using this
 done := fun s Q E st hQ => by
  obtain ⟨slot, x1, x2, x3⟩ := st
  have he : (ju w a ep es)[es.size]? = none := by
   have := tW (w := w) (a := a) (ep := ep) (es := es)
   simp; lia
  refine tU hh x2 x3 (pQ hs hr) (fun {A' Q' E'} hq => tV x3 hs hr x1 (by rw [he]; exact hq)) fun h' hk => ?_
  exact hQ h' s.toks fun b o hb z => hk b o (by simpa using hb) z
 self := fun i s Q E st hQ => by
  obtain ⟨slot, x1, x2, x3⟩ := st
  have hT : s.TypeIs (.ref I) "set_iterator" := ⟨_, x2, rfl⟩
  refine wpAny_pyIter_slot hT pP (wpAny_call_entry pP hT ve ?_ (wS _))
  show wpAny _ _ (ret (.ref I)) _ _ s
  exact HJ ⟨_, rfl, "set_iterator", _, hT, fY.lookup, hQ⟩
theorem Dm {Q : Bool → Shared → Prop} (hT : s.TypeIs (.ref a) "set") (h : Q false s) : wpAny (model prog w) A (Builtin.List.listLengthHint (.ref a)) Q E s := by
 unfold Builtin.List.listLengthHint
 refine HI (wpAny_specialOf hT yx.lookup ?_)
 generalize hid : ("set.__len__" : String) = id0
 wp_delta
 rw [show splitId id0 = some ("set", "__len__") from by subst hid; decide +kernel]
 subst hid
 refine HI (wpAny_isInstance (T := "set") (b := true) hT (by rw [isSubtype_type]; kernel_rfl) ?_)
 refine wpAny_ite_split (fun hab => absurd hab (by decide)) (fun _ => ?_)
 refine wpAny_ite_split (fun _ => ?_) (fun hab => absurd (by decide +kernel) hab)
 refine HI (wpAny_typeOf hT ?_)
 exact HJ h
theorem EH {ns : List Nat} {f m : Nat} (hs : ns ∈ iT) (hr : fj ns es.toList) :
  KdlSrc prog w "set" a a es.size (fun i v => ∃ e, (ju w a ep es)[i]? = some e ∧ v = e.2) (GH w a es ep ns f m) where
 type := fun _ hm => ⟨_, hm, rfl⟩
 there := fun _ hm => ⟨Heap.lt_size hm, Heap.lt_size hm⟩
 keep := fun _ _ hm hk => hk a (.inl rfl) _ hm
 notList := by decide
 notTuple := by decide
 hint := fun _ _ s _ hm hq => Dm ⟨_, hm, rfl⟩ hq
 iter := fun _ s hh hm => ⟨_, _, (fun _ _ hq => zO hm (pQ hs hr) hq), BB hh (Nat.ne_of_lt (Heap.lt_size hm)) hs hr, ⟨0, by
  have h4 := List.all_eq_true.mp vX ns hs
  unfold tS at h4
  rw [Bool.and_eq_true] at h4
  exact .inr (by simpa using h4.1), Heap.get?_push_size _ rfl, Heap.get?_push_of_some _ hm⟩⟩
theorem yz {ns : List Nat} {R : List Value → Shared → Prop} (hh : A.handled = none) (S : oA s.heap a ns (lU w))
  (h : ∀ (h' : Heap) (tk : Nat) (vs : List Value) (ks : List Nat), (∀ b o, s.heap.get? b = some o → h'.get? b = some o) → ks.Perm ns → IntsAre vs (ks.map Int.ofNat) → R vs { s with heap := h', toks := tk }) :
  wpAny (model prog w) A (collect (.ref a)) R E s := by
 obtain ⟨es, ep, f, m, ho, hs, hr⟩ := S
 have h3 := List.all_eq_true.mp nU ns hs
 unfold ri at h3
 simp only [Bool.and_eq_true, decide_eq_true_eq] at h3
 have hsz : es.size = ns.length := by rw [← Array.length_toList, hr.length]
 refine kdu_collect (EH (ep := ep) (f := f) (m := m) hs hr) hh ho (by rw [hsz, sizeLine_eq]; lia) fun h' tk acc hk hacc => ?_
 have hl : acc.toList = (ju w a ep es).toList.map (·.2) := by
  refine List.ext_getElem? fun j => ?_
  rw [List.getElem?_map, Array.getElem?_toList, Array.getElem?_toList]
  cases q : acc[j]? with
  | some v =>
   obtain ⟨e, e1, e2⟩ := hacc.2 j v q
   rw [e1, e2]; rfl
  | none =>
   have hj : acc.size ≤ j := by simpa using q
   have : (ju w a ep es)[j]? = none := by
    have h1 := tW (w := w) (a := a) (ep := ep) (es := es)
    have h2 := hacc.1
    simp; lia
   rw [this]; rfl
 have hp := yy w a ep es
 refine h h' tk acc.toList ((ju w a ep es).toList.map fun e => e.1.toNat) hk ?_ ?_
 ·refine (hp.map _).trans ?_
  have : (es.toList.map fun e => e.1.toNat) = ns := by
   have h5 : (es.toList.map fun e => e.1.toNat) = (es.toList.map (·.1)).map Int.toNat := by rw [List.map_map]; rfl
   rw [h5, hr.hashes, List.map_map]
   have h6 : (Int.toNat ∘ Int.ofNat) = id := funext fun n => rfl
   rw [h6, List.map_id]
  rw [this]
 ·rw [hl]
  exact AN _ fun e he => by
   obtain ⟨n, _, tk, x⟩ := hr.mem e (hp.mem_iff.mp he)
   exact ⟨n, tk, x⟩
end
end
section
section
variable {p : P} {A : Around} {E : Value → Shared → Prop} {s : Shared} {a : Addr}
theorem BD {ns : List Nat} {Q : Value → Shared → Prop} (hh : A.handled = none) (S : oA s.heap a ns (lU p.w))
  (hQ : ∀ h' tk out ns' a', (∀ b o, s.heap.get? b = some o → h'.get? b = some o) → s.heap.get? a' = none → h'.PlainList a' (List.toArray out) → IntsAre out ns' → s9 (ns.map Int.ofNat) ns' → Q (.ref a') { s with heap := h', toks := tk }) :
  wpAny (model p.prog p.w) A (call (.builtin "sorted") [.ref a]) Q E s := by
 have hz := sizeLine_eq
 have h3 := List.all_eq_true.mp nU ns (by obtain ⟨_, _, _, _, _, hs, _⟩ := S; exact hs)
 unfold ri at h3
 simp only [Bool.and_eq_true, decide_eq_true_eq] at h3
 refine Calls.call_function_entry kind_sorted plain_sorted entry_sorted (args_sorted1 _) ?_
 unfold Builtin.«sorted»
 refine HI (m := checkCount "sorted" 1 1 _) (HJ ?_)
 refine HI (yz (A := A.in1) hh S fun h' tk vs ks hx hp hi => ?_)
 have hvl := hi.length
 have hkl := hp.length_eq
 rw [dI] at hvl
 refine HI (wpAny_newList ?_ (by lia))
 have hoL : (h'.push (seqObj "list" vs.toArray 0)).get? h'.objs.size = some (seqObj "list" vs.toArray 0) := Heap.get?_push_size _ rfl
 have ex := b7 (h := h') (seqObj "list" vs.toArray 0)
 refine HI (wpAny_holding (wpAny_call_entry slot_list_sort ⟨_, hoL, rfl⟩ entry_list_sort (list_sort_tree hoL hi (by lia) fun out ns' a1 a2 a3 => ⟨_, rfl, ?_⟩) (args_list_sort _)))
 refine HJ ⟨_, rfl, ?_⟩
 obtain ⟨c, hc⟩ := sortedHeap_at (out := out) hoL
 refine hQ _ tk out.toList ns' _ (fun b o e => ?_) (wN hx) ⟨c, by simpa [seqObj] using hc⟩ a1 ⟨a2.trans (hp.map _), a3⟩
 have hlt : b < h'.objs.size := Heap.lt_size (hx b o e)
 rw [sortedHeap_old (Nat.ne_of_lt hlt) (by rw [size_push']; exact Nat.lt_succ_of_lt hlt)]
 exact ex b o (hx b o e)
end
end
section
noncomputable def iU : List D → Option (List Nat)
 | [] => some []
 | .int i :: r => if 0 ≤ i ∧ i < 7 then (iU r).map (i.toNat :: ·) else none
 | _ :: _ => none
set_option tactic.hygienic true in
theorem yA {h : Heap} : ∀ {vs : List Value} {ds : List D} {ks : List Nat}, bo h vs ds → iU ds = some ks → AL vs ks ∧ ∀ k ∈ ks, k < 7 := by
 intro vs ds
 induction ds generalizing vs with
 | nil =>
  intro ks r e
  obtain rfl := bo.nil_inv r
  simp only [iU, Option.some.injEq] at e
  subst e
  exact ⟨⟨rfl, fun i v q => by simp at q⟩, fun _ q => nomatch q⟩
 | cons d ds ih =>
  intro ks r e
  obtain ⟨v, vs, rfl, r1, r2⟩ := bo.cons_inv r
  cases r1 with
  | int i t =>
   simp only [iU] at e
   split at e
   ·rename_i hi
    obtain ⟨ks', e', rfl⟩ := Option.map_eq_some_iff.mp e
    obtain ⟨⟨a1, a2⟩, b⟩ := ih r2 e'
    refine ⟨⟨by simp [a1], fun j v q => ?_⟩, fun k hk => ?_⟩
    ·cases j with
     | zero =>
      simp only [al, Option.some.injEq] at q
      subst q
      exact ⟨t, i.toNat, by rw [show Int.ofNat i.toNat = i from Int.toNat_of_nonneg hi.1], rfl⟩
     | succ j => simpa using a2 j v (by simpa using q)
    ·rcases HL hk with rfl | hk
     ·lia
     ·exact b k hk
   ·cases e
  | _ => simp [iU] at e
section
variable {p : P} {c : Cx} {n : Nat}
noncomputable def pe (j : MS → Nat) (f : EC) : EC := fun σ k => f σ fun d σ1 => jo d σ1.st[j σ1]? fun _ ds => jn (iU ds) fun ks => ∀ (ns' : List Int) (a' : Addr), ns'.Pairwise (· < ·) → (∀ x : Int, x ∈ ns' ↔ ∃ m ∈ ks, x = Int.ofNat m) → k (.ref a') ⟨σ1.vars, σ1.st ++ [(a', .list (ns'.map .int))]⟩
theorem nV : ∀ {l : List Int}, l.Pairwise (· ≤ ·) → l.Nodup → l.Pairwise (· < ·)
 | [], _, _ => .nil
 | a :: l, .cons h1 h2, hn => by
  rw [List.nodup_cons] at hn
  refine .cons (fun b hb => ?_) (nV h2 hn.2)
  have := h1 b hb
  have hne : a ≠ b := fun q => hn.1 (q ▸ hb)
  lia
theorem zQ : (iT.all fun ns => decide ns.Nodup) = true := by decide +kernel
theorem yB {np1 np2 pos1 pos2 : Pos} {e : Expr} {j : MS → Nat} {f : EC} (he : Ev p c n e f) (hx1 : c.env.kindOf "sorted" = some .globalImplicit) (hx2 : c.env.kindOf "set" = some .globalImplicit) (hg : c.env.globals = mainGlobals) (hb : c.env.builtins = builtinsNs) (hm1 : p.mg "sorted" = none) (hm2 : p.mg "set" = none)
  (hst : autoParam (starEach [e] c.env = [(false, eval e c.env)]) aR) (hp1 : autoParam (∀ pos, (backTo pos (starEach [.Call (.Name "set" np2) [e] [] pos2] c.env)).any (·.1) = false) aI) (hp2 : autoParam (∀ pos, (backTo pos (starEach [e] c.env)).any (·.1) = false) aI)
  (hst2 : autoParam (starEach [.Call (.Name "set" np2) [e] [] pos2] c.env = [(false, eval (.Call (.Name "set" np2) [e] [] pos2) c.env)]) aR) :
  Ev p c n (.Call (.Name "sorted" np1) [.Call (.Name "set" np2) [e] [] pos2] [] pos1) (pe j f) := fun A base σ s k Q E R S hf hQ => by
 refine wpAny_Call_NameR (iP S hx1 hg hb hm1 (by kernel_rfl : bootBuiltins "sorted" = some (.builtin "sorted")) ?_ (by decide) (by decide))
 refine bT (Pr := fun _ => True) (hp1 pos1) (dh (by intro a h; cases h)) ?_
 refine spliced_more ?_ hst2
 refine wpAny_Call_NameR (iP S hx2 hg hb hm2 (by kernel_rfl : bootBuiltins "set" = some (.type "set")) ?_ (by decide) (by decide))
 refine bT (Pr := fun _ => True) (hp2 pos2) (dh (by intro a h; cases h)) ?_
 refine spliced_more (he A base σ s _ _ E R S hf fun d σ1 v h1 t1 hk1 S1 r1 g1 => ?_) hst
 refine spliced_none ⟨trivial, ?_⟩
 refine dT S1 r1 hk1 fun a ds hk1 ej vs hpl rv => cK hk1 fun ks hk1 ek => hpl.elim fun cc hl => ?_
 have hN := yA rv ek
 refine Dj (s := { s with heap := h1, toks := t1 }) (items := vs.toArray) R.hd ⟨_, hl, rfl, cc, rfl⟩ (by simpa using hN.1) hN.2 fun h2 t2 ns hS hm hk2 => ?_
 refine spliced_none ⟨trivial, ?_⟩
 refine BD (s := { s with heap := h2, toks := t2 }) R.hd hS fun h3 t3 out ns' a' hk3 hnew hpl hI hsl => ?_
 have hx : ∀ b o, h1.get? b = some o → h3.get? b = some o := fun b o z => hk3 b o (hk2 b o z)
 have hn1 : h1.get? a' = none := pM hk2 hnew
 refine hQ _ _ _ h3 t3 (hk1 ns' a' ?_ fun x => ?_) (kH S1 hx hn1 hpl (je hI)) (.ref _) (g1.trans (bc.of_ext hx))
 ·have hnd : ns.Nodup := by
   obtain ⟨_, _, _, _, _, hs, _⟩ := hS
   simpa using List.all_eq_true.mp zQ ns hs
  exact nV hsl.2 (hsl.1.nodup_iff.mpr (List.Pairwise.map Int.ofNat (fun a b hab q => hab (Int.ofNat.inj q)) hnd))
 ·rw [hsl.1.mem_iff, List.mem_map]
  exact ⟨fun q => q.elim fun m q => ⟨m, (hm m).mp q.1, q.2.symm⟩, fun q => q.elim fun m q => ⟨m, (hm m).mpr q.1, q.2.symm⟩⟩
end
end
noncomputable def ch : Stmt → List Stmt
 | .FunctionDef _ _ b _ _ _ _ _ _ _ => b
 | _ => []
noncomputable def bG : Stmt → Scope
 | .FunctionDef _ _ _ _ _ _ s _ _ _ => s
 | _ => ⟨.function, [], false, false, []⟩
noncomputable def cY : Stmt → List Stmt
 | .ClassDef _ _ _ b _ _ _ _ _ _ _ => b
 | _ => []
noncomputable def nth : List Stmt → Nat → Stmt
 | s :: _, 0 => s
 | _ :: r, i + 1 => nth r i
 | [], _ => .Pass ⟨0, 0, 0, 0⟩
noncomputable def eY (i : Nat) : Stmt := nth PySem.Challenge.pw_no0010_01.main.body i
theorem XL {p : P} {c : Cx} : vQ p c k8 := Cw
noncomputable def iV (ns : List Int) : Prop := ∀ x ∈ ns, ∀ y ∈ ns, x.natAbs = y.natAbs → x = y
noncomputable def pR : Str := "0123456789"
noncomputable def nW : D := .tup ((["define", "ite_term", "three", "bits", "congruence", "farkas", "branch", "divide", "cut"] : List Str).map D.str)
noncomputable def zR : D := .tup ((["input", "define", "ite_term", "three", "bits", "congruence", "farkas", "branch", "divide", "cut", "resolve"] : List Str).map D.str)
theorem tX {c : Cx} {x y : Str} {i j : Nat} (hx : tw c x i) (hy : tw c y j) : ∀ (k : Nat) (z : Str) (m : Nat), ([x, y] : List Str).reverse[k]? = some z → ([i, j] : List Nat).reverse[k]? = some m → vM c z m := fun k z m h1 h2 => by
 match k with
 | 0 => simp at h1 h2; subst h1; subst h2; exact .inl hy
 | 1 => simp at h1 h2; subst h1; subst h2; exact .inl hx
 | k + 2 => simp at h1
noncomputable def sA (i : Int) : Int := 2 * (i.natAbs : Int) + if decide (0 < i) = true then 1 else 0
noncomputable def FU (i : Int) : D := .int (sA i)
noncomputable def sb (x y : Int) : Bool := decide (sA x < sA y)
noncomputable def AO : Str := ("_law_clause" : Str) ++ ".<locals>." ++ "<lambda>"
theorem FV {p : P} : ∀ ns, (fun _ : List Int => True) ns → tM p FU sb ns := fun ns _ => FO sA ns
theorem FW : ∀ i : Int, (bC cO (bC CF (ao 2) (bK qY (aa (ac 0) ad))) (bK mh (aa (eh (oI fun a b => decide (b < a)) (ac 0) (ao 0)) ad))) ⟨[some (.int i)], []⟩ fun d _ => d = FU i := fun i => by
 show IntMulOk 2 (i.natAbs : Int) ∧ _
 exact ⟨.of_left (by decide), rfl⟩
structure Gl (p : P) : Prop where
 nabs : p.mg "abs" = none
 nint : p.mg "int" = none
 nisinstance : p.mg "isinstance" = none
 nlen : p.mg "len" = none
 nrange : p.mg "range" = none
 nrepr : p.mg "repr" = none
 nset : p.mg "set" = none
 nsorted : p.mg "sorted" = none
 nstr : p.mg "str" = none
 ntuple : p.mg "tuple" = none
 gFIGURES : ∃ t, p.mg "FIGURES" = some (.str pR t)
 gBOOL : ∃ t, p.mg "BOOL" = some (.int 0 t)
 gRULES : p.mg "RULES" = some (.ref 79)
 rRULES : ∀ h, p.Ok h → df h (.ref 79) zR
 glaw_rules : p.mg "_law_rules" = some (.ref 498)
 rlaw_rules : ∀ h, p.Ok h → df h (.ref 498) nW
 gorder_of : p.mg "order_of" = some (.ref 86)
 korder_of : keepIn p.K (.ref 86) = true
 gtidy : p.mg "tidy" = some (.ref 93)
 ktidy : keepIn p.K (.ref 93) = true
 gis_tidy : p.mg "is_tidy" = some (.ref 100)
 kis_tidy : keepIn p.K (.ref 100) = true
 gresolve_on : p.mg "resolve_on" = some (.ref 105)
 kresolve_on : keepIn p.K (.ref 105) = true
 gnote_text : p.mg "note_text" = some (.ref 237)
 knote_text : keepIn p.K (.ref 237) = true
 grow_of : p.mg "row_of" = some (.ref 242)
 krow_of : keepIn p.K (.ref 242) = true
 gproof_text : p.mg "proof_text" = some (.ref 249)
 kproof_text : keepIn p.K (.ref 249) = true
 gis_number_word : p.mg "is_number_word" = some (.ref 254)
 kis_number_word : keepIn p.K (.ref 254) = true
 gnumbers_in : p.mg "numbers_in" = some (.ref 259)
 knumbers_in : keepIn p.K (.ref 259) = true
 gnote_from : p.mg "note_from" = some (.ref 266)
 knote_from : keepIn p.K (.ref 266) = true
 gread_step : p.mg "read_step" = some (.ref 273)
 kread_step : keepIn p.K (.ref 273) = true
 gread_proof : p.mg "read_proof" = some (.ref 280)
 kread_proof : keepIn p.K (.ref 280) = true
 glaw_digit : p.mg "_law_digit" = some (.ref 505)
 klaw_digit : keepIn p.K (.ref 505) = true
 glaw_literal : p.mg "_law_literal" = some (.ref 512)
 klaw_literal : keepIn p.K (.ref 512) = true
 glaw_clause : p.mg "_law_clause" = some (.ref 519)
 klaw_clause : keepIn p.K (.ref 519) = true
 glaw_note : p.mg "_law_note" = some (.ref 526)
 klaw_note : keepIn p.K (.ref 526) = true
 glaw_chain : p.mg "_law_chain" = some (.ref 531)
 klaw_chain : keepIn p.K (.ref 531) = true
 glaw_put : p.mg "_law_put" = some (.ref 536)
 klaw_put : keepIn p.K (.ref 536) = true
 glaw_rest_on : p.mg "_law_rest_on" = some (.ref 541)
 klaw_rest_on : keepIn p.K (.ref 541) = true
 glaw_is_trimmed : p.mg "_law_is_trimmed" = some (.ref 546)
 klaw_is_trimmed : keepIn p.K (.ref 546) = true
 glaw_is_refused : p.mg "_law_is_refused" = some (.ref 553)
 klaw_is_refused : keepIn p.K (.ref 553) = true
 glaw : p.mg "law" = some (.ref 558)
 klaw : keepIn p.K (.ref 558) = true
 gProof : p.mg "Proof" = some (.ref 230)
 kProof : keepIn p.K (.ref 230) = true
 mkProof : makesIn p.K 230 = true
 inProof : findIn p.K (.ref 230) "__init__" = some (some (.ref 119))
 tyProof : typeIn p.K (.ref 119) = some (.type "function")
 cls230 : tB p 230
 n230_steps : eQ p 230 "steps"
 n230_named : eQ p 230 "named"
 n230_empty : eQ p 230 "empty"
 gBank : p.mg "Bank" = some (.ref 493)
 kBank : keepIn p.K (.ref 493) = true
 mkBank : makesIn p.K 493 = true
 inBank : findIn p.K (.ref 493) "__init__" = some (some (.ref 294))
 tyBank : typeIn p.K (.ref 294) = some (.type "function")
 cls493 : tB p 493
 n493_sort_names : eQ p 493 "sort_names"
 n493_sort_widths : eQ p 493 "sort_widths"
 n493_fun_names : eQ p 493 "fun_names"
 n493_fun_args : eQ p 493 "fun_args"
 n493_fun_results : eQ p 493 "fun_results"
 n493_fresh_count : eQ p 493 "fresh_count"
 n493_term_ops : eQ p 493 "term_ops"
 n493_term_args : eQ p 493 "term_args"
 n493_term_sorts : eQ p 493 "term_sorts"
 n493_term_datas : eQ p 493 "term_datas"
 n493_numbers : eQ p 493 "numbers"
 n493_true_number : eQ p 493 "true_number"
 n493_false_number : eQ p 493 "false_number"
 mSteps_name : gG p 230 "name" 126
 mSteps_names : gG p 230 "names" 133
 mSteps_var_count : gG p 230 "var_count" 140
 mSteps_size : gG p 230 "size" 147
 mSteps_clause : gG p 230 "clause" 154
 mSteps_add : gG p 230 "add" 168
 mSteps_chain : gG p 230 "chain" 173
 mProof_needed : gG p 230 "needed" 194
 mProof_trimmed : gG p 230 "trimmed" 199
 mProof_used_inputs : gG p 230 "used_inputs" 213
 mBank_declare_fun : gG p 493 "declare_fun" 336
 mBank_fresh_const : gG p 493 "fresh_const" 350
 mBank_op : gG p 493 "op" 385
 mBank_make : gG p 493 "make" 427
 codehd : ∀ h, p.Ok h → CodeHd h 518 514
 fault : hO p 76 47 66 37
 gProofFault : p.mg "ProofFault" = some (.ref 76)
 kProofFault : keepIn p.K (.ref 76) = true
 exm : exmOne p.K (.ref 76) (.ref 76) = some true
section
local macro_rules | `(¬ $x) => `(by exact $x)
noncomputable def tY : List Stmt := ch (eY 7)
noncomputable def pf : Scope := bG (eY 7)
noncomputable def sd (L : Addr) : List eE := [.ns L "literal"]
noncomputable abbrev zS (f : Addr) (cdv : Value) (ent : Heap) (L : Addr) : Cx := Cx.of "order_of" pf f cdv sd ent L
noncomputable def pg : SC := (aj (bp (cD (aa (bK qY (aa (ac 0) ad)) (aa (eh (oI fun a b => decide (b < a)) (ac 0) (ao 0)) ad)))) aw)
theorem zT {p : P} (h : Gl p) {f : Addr} {cdv : Value} {ent : Heap} {L : Addr}   : iZ p (zS f cdv ent L) k8 0 tY pg :=
 ai (¬cr (¬dW (¬ae (¬ca o9 nofun rfl rfl rfl h.nabs rfl (¬ae (¬ag) (¬ah))) (¬ae (¬j4 mu (¬ag) (¬aO)) (¬ah))))) (¬aN)
noncomputable def Dn : List Stmt := ch (eY 8)
noncomputable def zU : Scope := bG (eY 8)
noncomputable def AP (L : Addr) : List eE := [.ns L "literals", .ns L "kept", .ns L "literal"]
noncomputable abbrev FX (f : Addr) (cdv : Value) (ent : Heap) (L : Addr) : Cx := Cx.of "tidy" zU f cdv AP ent L
noncomputable def zV (Gorder_of : dp) : SC := (aj (ba o8 (aL 1)) (aj (dq (bR (fun _ => 0) (ac 0)) (aL 2) (aj (fu (aA (CM (fun _ => 1)) (fJ (ac 2)) (ac 1)) (aj (bp g6) aw) aw) (aj (eM (fun _ => 1) (fF true) (ac 1) (ac 2)) aw))) (aj (bp (bK (c6 (fun _ => 2)) (aa (tN (fun _ => 1) mA iV (ac 1)) ad))) aw)))
theorem FY {p : P} (h : Gl p) {f : Addr} {cdv : Value} {ent : Heap} {L : Addr}  {Gorder_of : dp} (Korder_of : ax p 1 86 Gorder_of) (Horder_of : ∀ i, Gorder_of [.int i] [] fun d _ _ => d = AE i) : iZ p (FX f cdv ent L) k8 2 Dn (zV Gorder_of) :=
 ai (¬cs (¬wH) (¬bi)) (¬ai (¬gb XL (¬g7 (¬ag)) (¬cg (¬bi)) (¬ai (¬dO (¬bf CN (¬i7 (¬ag)) (¬ag)) (¬ai (¬cr (¬o6)) (¬aN)) (¬aN)) (¬ai (¬mw (¬jp) (¬ag) (¬ag)) (¬aN)))) (¬ai (¬cr (¬ca er nofun rfl rfl rfl h.ntuple rfl (¬ae (¬Br (¬ag) Korder_of Horder_of (fun _ h => Et h) rfl rfl rfl h.nsorted rfl rfl h.gorder_of) (¬ah)))) (¬aN)))
noncomputable def vZ : List Stmt := ch (eY 9)
noncomputable def rj : Scope := bG (eY 9)
noncomputable def tZ (L : Addr) : List eE := [.ns L "clause", .ns L "place"]
noncomputable abbrev BE (f : Addr) (cdv : Value) (ent : Heap) (L : Addr) : Cx := Cx.of "is_tidy" rj f cdv tZ ent L
noncomputable def rl : SC := (aj (dq (bE (aa (bK (bv (fun _ => 0)) (aa (ac 0) ad)) ad)) (aL 1) (aj (fu (aA fy (cL (ac 0) (ac 1)) (ao 0)) (aj (bp (fF false)) aw) aw) (aj (fu (ip (aA (oI fun a b => decide (b < a)) (ac 1) (ao 0)) (ip (aA (oI fun a b => decide (b ≤ a)) (bK qY (aa (cL (ac 0) (bC jI (ac 1) (ao 1))) ad)) (bK qY (aa (cL (ac 0) (ac 1)) ad))) (cH true))) (aj (bp (fF false)) aw) aw) aw))) (aj (bp (fF true)) aw))
theorem BG {p : P} (h : Gl p) {f : Addr} {cdv : Value} {ent : Heap} {L : Addr}   : iZ p (BE f cdv ent L) k8 0 vZ rl :=
 ai (¬gb XL (¬fh rfl rfl rfl h.nrange rfl (¬ae (¬ca b9 nofun rfl rfl rfl h.nlen rfl (¬ae (¬ag) (¬ah))) (¬ah))) (¬cg (¬bi)) (¬ai (¬dO (¬bf d6 (¬fc (¬ag) (¬ag)) (¬aO)) (¬ai (¬cr (¬jp)) (¬aN)) (¬aN)) (¬ai (¬dO (¬gk (¬fA (¬bf mu (¬ag) (¬aO)) (¬fA (¬bf Gv (¬ca o9 nofun rfl rfl rfl h.nabs rfl (¬ae (¬fc (¬ag) (¬dB k9 (¬ag) (¬aO))) (¬ah))) (¬ca o9 nofun rfl rfl rfl h.nabs rfl (¬ae (¬fc (¬ag) (¬ag)) (¬ah)))) (¬fW)))) (¬ai (¬cr (¬jp)) (¬aN)) (¬aN)) (¬aN)))) (¬ai (¬cr (¬jp)) (¬aN))
noncomputable def pS : List Stmt := ch (eY 10)
noncomputable def lj : Scope := bG (eY 10)
noncomputable def oE (L : Addr) : List eE := [.ns L "one", .ns L "other", .cell (L + 1), .ns L "rest"]
noncomputable abbrev wT (f : Addr) (cdv : Value) (ent : Heap) (L : Addr) : Cx := Cx.of "resolve_on" lj f cdv oE ent L
noncomputable def jg (Gtidy : dp) : SC := (aj (fu (ip (aA (yb false) (ac 2) (ac 0)) (ip (aA (yb false) (fJ (ac 2)) (ac 1)) (cH true))) (aj (ba (bM 1 (dy (ac 0)) (aL 4) (aA n8 (ac 4) (ac 2)) (ac 4)) (aL 3)) (aj (br (bD (fun _ => 0) (lh (fun _ => 0) (fun _ => 1)) (ac 3) (aa (bM 1 (dy (ac 1)) (aL 4) (aA n8 (ac 4) (fJ (ac 2))) (ac 4)) ad))) aw)) (aj (fu (ip (aA (yb false) (fJ (ac 2)) (ac 0)) (ip (aA (yb false) (ac 2) (ac 1)) (cH true))) (aj (ba (bM 1 (dy (ac 0)) (aL 4) (aA n8 (ac 4) (fJ (ac 2))) (ac 4)) (aL 3)) (aj (br (bD (fun _ => 0) (lh (fun _ => 0) (fun _ => 1)) (ac 3) (aa (bM 1 (dy (ac 1)) (aL 4) (aA n8 (ac 4) (ac 2)) (ac 4)) ad))) aw)) (aj eS aw)) aw)) (aj (bp (a9 Gtidy [0] (aa (ac 3) ad))) aw))
theorem wU {p : P} (h : Gl p) {f : Addr} {cdv : Value} {ent : Heap} {L : Addr}  {Gtidy : dp} (Ktidy : ax p 3 93 Gtidy) : iZ p (wT f cdv ent L) k8 3 pS (jg Gtidy) :=
 ai (¬dO (¬gk (¬fA (¬bf yc (¬cC) (¬ag)) (¬fA (¬bf yc (¬i7 (¬cC)) (¬ag)) (¬fW)))) (¬ai (¬nO (x0 := "literal") (xs := []) (by rfl) (by decide) (¬kF (¬ag)) (fun C => (¬cg (¬bi))) (fun C => (¬pH (¬bf g8 (¬ag) (¬cC)))) (fun C => (¬ag)) (¬bi)) (¬ai (¬cV (¬di q8 PySem.F.slot_list_extend PySem.F.type_list_extend (¬ag) (¬ae (¬fM (x0 := "literal") (xs := []) (by rfl) (by decide) (¬kF (¬ag)) (fun C => (¬cg (¬bi))) (fun C => (¬pH (¬bf g8 (¬ag) (¬i7 (¬cC))))) (fun C => (¬ag))) (¬ah)))) (¬aN))) (¬ai (¬dO (¬gk (¬fA (¬bf yc (¬i7 (¬cC)) (¬ag)) (¬fA (¬bf yc (¬cC) (¬ag)) (¬fW)))) (¬ai (¬nO (x0 := "literal") (xs := []) (by rfl) (by decide) (¬kF (¬ag)) (fun C => (¬cg (¬bi))) (fun C => (¬pH (¬bf g8 (¬ag) (¬i7 (¬cC))))) (fun C => (¬ag)) (¬bi)) (¬ai (¬cV (¬di q8 PySem.F.slot_list_extend PySem.F.type_list_extend (¬ag) (¬ae (¬fM (x0 := "literal") (xs := []) (by rfl) (by decide) (¬kF (¬ag)) (fun C => (¬cg (¬bi))) (fun C => (¬pH (¬bf g8 (¬ag) (¬cC)))) (fun C => (¬ag))) (¬ah)))) (¬aN))) (¬ai (¬fG) (¬aN))) (¬aN))) (¬ai (¬cr (¬bI Ktidy rfl rfl h.gtidy h.ktidy (¬ae (¬ag) (¬ah)))) (¬aN))
noncomputable def pT : List Stmt := ch (nth (cY (eY 11)) 0)
noncomputable def lk : Scope := bG (nth (cY (eY 11)) 0)
noncomputable def oF (L : Addr) : List eE := [.ns L "self"]
noncomputable abbrev wV (f : Addr) (cdv : Value) (ent : Heap) (L : Addr) : Cx := Cx.of "Steps.__init__" lk f cdv oF ent L
noncomputable def ll : SC := (aj (aT 230 (fun _ => 0) "steps" (bg ad) (ac 0)) (aj (aT 230 (fun _ => 0) "named" (bg (aa (ao 0) ad)) (ac 0)) (aj (aT 230 (fun _ => 0) "empty" (fJ (ao 1)) (ac 0)) aw)))
theorem wW {p : P} (h : Gl p) {f : Addr} {cdv : Value} {ent : Heap} {L : Addr}   : iZ p (wV f cdv ent L) k8 0 pT ll :=
 ai (¬dn h.cls230 h.n230_steps (¬dc (¬ah)) (¬ag)) (¬ai (¬dn h.cls230 h.n230_named (¬dc (¬ae (¬aO) (¬ah))) (¬ag)) (¬ai (¬dn h.cls230 h.n230_empty (¬i7 (¬aO)) (¬ag)) (¬aN)))
noncomputable def pU : List Stmt := ch (nth (cY (eY 11)) 1)
noncomputable def lm : Scope := bG (nth (cY (eY 11)) 1)
noncomputable def oG (L : Addr) : List eE := [.ns L "self", .ns L "var", .ns L "term"]
noncomputable abbrev wX (f : Addr) (cdv : Value) (ent : Heap) (L : Addr) : Cx := Cx.of "Steps.name" lm f cdv oG ent L
noncomputable def ln : SC := (aj (fu (aA n8 (ac 1) (bK (bv (fun _ => 2)) (aa (bU 230 (fun _ => 0) "named" 1 (ac 0)) ad))) (aj eS aw) aw) (aj (br (bD (fun _ => 2) (bl (fun _ => 2)) (bU 230 (fun _ => 0) "named" 1 (ac 0)) (aa (ac 2) ad))) aw))
theorem wY {p : P} (h : Gl p) {f : Addr} {cdv : Value} {ent : Heap} {L : Addr}   : iZ p (wX f cdv ent L) k8 0 pU ln :=
 ai (¬dO (¬bf g8 (¬ag) (¬ca b9 nofun rfl rfl rfl h.nlen rfl (¬ae (¬cW h.cls230 h.n230_named (¬ag)) (¬ah)))) (¬ai (¬fG) (¬aN)) (¬aN)) (¬ai (¬cV (¬di cA PySem.F.slot_list_append PySem.F.type_list_append (¬cW h.cls230 h.n230_named (¬ag)) (¬ae (¬ag) (¬ah)))) (¬aN))
noncomputable def oH : List Stmt := ch (nth (cY (eY 11)) 2)
noncomputable def j8 : Scope := bG (nth (cY (eY 11)) 2)
noncomputable def mD (L : Addr) : List eE := [.ns L "self", .ns L "var"]
noncomputable abbrev vf (f : Addr) (cdv : Value) (ent : Heap) (L : Addr) : Cx := Cx.of "Steps.names" j8 f cdv mD ent L
noncomputable def j9 : SC := (aj (fu (i0 (wF (oI fun a b => decide (a < b)) (oI fun a b => decide (a < b)) (ao 0) (ac 1) (bK (bv (fun _ => 2)) (aa (bU 230 (fun _ => 0) "named" 1 (ac 0)) ad)))) (aj eS aw) aw) (aj (bp (aX (fun _ => 2) (bU 230 (fun _ => 0) "named" 1 (ac 0)) (ac 1))) aw))
theorem vg {p : P} (h : Gl p) {f : Addr} {cdv : Value} {ent : Heap} {L : Addr}   : iZ p (vf f cdv ent L) k8 0 oH j9 :=
 ai (¬dO (¬pG (¬Az ya ya (¬aO) (¬ag) (¬ca b9 nofun rfl rfl rfl h.nlen rfl (¬ae (¬cW h.cls230 h.n230_named (¬ag)) (¬ah))))) (¬ai (¬fG) (¬aN)) (¬aN)) (¬ai (¬cr (¬bx (¬cW h.cls230 h.n230_named (¬ag)) (¬ag))) (¬aN))
noncomputable def jQ : List Stmt := ch (nth (cY (eY 11)) 3)
noncomputable def hU : Scope := bG (nth (cY (eY 11)) 3)
noncomputable def jv (L : Addr) : List eE := [.ns L "self"]
noncomputable abbrev pV (f : Addr) (cdv : Value) (ent : Heap) (L : Addr) : Cx := Cx.of "Steps.var_count" hU f cdv jv ent L
noncomputable def hV : SC := (aj (bp (bC jI (bK (bv (fun _ => 2)) (aa (bU 230 (fun _ => 0) "named" 1 (ac 0)) ad)) (ao 1))) aw)
theorem pW {p : P} (h : Gl p) {f : Addr} {cdv : Value} {ent : Heap} {L : Addr}   : iZ p (pV f cdv ent L) k8 0 jQ hV :=
 ai (¬cr (¬dB k9 (¬ca b9 nofun rfl rfl rfl h.nlen rfl (¬ae (¬cW h.cls230 h.n230_named (¬ag)) (¬ah))) (¬aO))) (¬aN)
noncomputable def pX : List Stmt := ch (nth (cY (eY 11)) 4)
noncomputable def lq : Scope := bG (nth (cY (eY 11)) 4)
noncomputable def oJ (L : Addr) : List eE := [.ns L "self"]
noncomputable abbrev wZ (f : Addr) (cdv : Value) (ent : Heap) (L : Addr) : Cx := Cx.of "Steps.size" lq f cdv oJ ent L
noncomputable def ls : SC := (aj (bp (bK (bv (fun _ => 1)) (aa (bU 230 (fun _ => 0) "steps" 0 (ac 0)) ad))) aw)
theorem w0 {p : P} (h : Gl p) {f : Addr} {cdv : Value} {ent : Heap} {L : Addr}   : iZ p (wZ f cdv ent L) k8 0 pX ls :=
 ai (¬cr (¬ca b9 nofun rfl rfl rfl h.nlen rfl (¬ae (¬cW h.cls230 h.n230_steps (¬ag)) (¬ah)))) (¬aN)
noncomputable def mE : List Stmt := ch (nth (cY (eY 11)) 5)
noncomputable def jw : Scope := bG (nth (cY (eY 11)) 5)
noncomputable def lV (L : Addr) : List eE := [.ns L "self", .ns L "step"]
noncomputable abbrev t6 (f : Addr) (cdv : Value) (ent : Heap) (L : Addr) : Cx := Cx.of "Steps.clause" jw f cdv lV ent L
noncomputable def jx : SC := (aj (bp (cL (aX (fun _ => 1) (bU 230 (fun _ => 0) "steps" 0 (ac 0)) (ac 1)) (ao 1))) aw)
theorem t7 {p : P} (h : Gl p) {f : Addr} {cdv : Value} {ent : Heap} {L : Addr}   : iZ p (t6 f cdv ent L) k8 0 mE jx :=
 ai (¬cr (¬fc (¬bx (¬cW h.cls230 h.n230_steps (¬ag)) (¬ag)) (¬aO))) (¬aN)
noncomputable def se : List Stmt := ch (nth (cY (eY 11)) 7)
noncomputable def mF : Scope := bG (nth (cY (eY 11)) 7)
noncomputable def pY (L : Addr) : List eE := [.ns L "self", .ns L "rule", .ns L "clause", .ns L "premises", .ns L "note", .ns L "number", .ns L "one"]
noncomputable abbrev yC (f : Addr) (cdv : Value) (ent : Heap) (L : Addr) : Cx := Cx.of "Steps.add" mF f cdv pY ent L
noncomputable def mG (Gis_tidy : dp) : SC := (aj (ba (bK (bv (fun _ => 1)) (aa (bU 230 (fun _ => 0) "steps" 0 (ac 0)) ad)) (aL 5)) (aj (fu (aA (yb true) (ac 1) (dt zR)) (aj eS aw) aw) (aj (fu (i0 (gw (a9 Gis_tidy [] (aa (ac 2) ad)))) (aj eS aw) aw) (aj (dq (dy (ac 3)) (aL 6) (aj (fu (i0 (wF (oI fun a b => decide (a ≤ b)) (oI fun a b => decide (a < b)) (ao 0) (ac 6) (ac 5))) (aj eS aw) aw) aw)) (aj (br (bD (fun _ => 1) (bl (fun _ => 1)) (bU 230 (fun _ => 0) "steps" 0 (ac 0)) (aa (cD (aa (ac 1) (aa (bK (c6 (fun _ => 0)) (aa (ac 2) ad)) (aa (bK (c6 (fun _ => 0)) (aa (ac 3) ad)) (aa (ac 4) ad))))) ad))) (aj (fu (ip (aA fy (bK (bv (fun _ => 0)) (aa (ac 2) ad)) (ao 0)) (ip (aA (oI fun a b => decide (a < b)) (bU 230 (fun _ => 0) "empty" 2 (ac 0)) (ao 0)) (cH true))) (aj (qX 230 (fun _ => 0) "empty" 2 (ac 5) (ac 0)) aw) aw) (aj (bp (ac 5)) aw)))))))
theorem yD {p : P} (h : Gl p) {f : Addr} {cdv : Value} {ent : Heap} {L : Addr}  {Gis_tidy : dp} (Kis_tidy : ax p 1 100 Gis_tidy) : iZ p (yC f cdv ent L) k8 1 se (mG Gis_tidy) :=
 ai (¬cs (¬ca b9 nofun rfl rfl rfl h.nlen rfl (¬ae (¬cW h.cls230 h.n230_steps (¬ag)) (¬ah))) (¬bi)) (¬ai (¬dO (¬bf yd (¬ag) (¬s5 rfl rfl h.gRULES h.rRULES)) (¬ai (¬fG) (¬aN)) (¬aN)) (¬ai (¬dO (¬pG (¬oz (¬bI Kis_tidy rfl rfl h.gis_tidy h.kis_tidy (¬ae (¬ag) (¬ah))))) (¬ai (¬fG) (¬aN)) (¬aN)) (¬ai (¬gb XL (¬kF (¬ag)) (¬cg (¬bi)) (¬ai (¬dO (¬pG (¬Az Gu ya (¬aO) (¬ag) (¬ag))) (¬ai (¬fG) (¬aN)) (¬aN)) (¬aN))) (¬ai (¬cV (¬di cA PySem.F.slot_list_append PySem.F.type_list_append (¬cW h.cls230 h.n230_steps (¬ag)) (¬ae (¬dW (¬ae (¬ag) (¬ae (¬ca er nofun rfl rfl rfl h.ntuple rfl (¬ae (¬ag) (¬ah))) (¬ae (¬ca er nofun rfl rfl rfl h.ntuple rfl (¬ae (¬ag) (¬ah))) (¬ae (¬ag) (¬ah)))))) (¬ah)))) (¬ai (¬dO (¬gk (¬fA (¬bf d6 (¬ca b9 nofun rfl rfl rfl h.nlen rfl (¬ae (¬ag) (¬ah))) (¬aO)) (¬fA (¬bf ya (¬cW h.cls230 h.n230_empty (¬ag)) (¬aO)) (¬fW)))) (¬ai (¬Bk h.cls230 h.n230_empty (¬ag) (¬ag)) (¬aN)) (¬aN)) (¬ai (¬cr (¬ag)) (¬aN)))))))
noncomputable def oK : List Stmt := ch (nth (cY (eY 11)) 8)
noncomputable def ka : Scope := bG (nth (cY (eY 11)) 8)
noncomputable def mH (L : Addr) : List eE := [.ns L "self", .ns L "first", .ns L "pairs", .ns L "stand", .ns L "variable", .ns L "other", .ns L "premises"]
noncomputable abbrev vh (f : Addr) (cdv : Value) (ent : Heap) (L : Addr) : Cx := Cx.of "Steps.chain" ka f cdv mH ent L
noncomputable def kg (GSteps_add GSteps_clause Gresolve_on : dp) : SC := (aj (ba (bB 230 (fun _ => 0) "clause" GSteps_clause [0, 1, 2] (ac 0) (aa (ac 1) ad)) (aL 3)) (aj (dq (bR (fun _ => 3) (ac 2)) (gF [4, 5]) (aj (ba (a9 Gresolve_on [] (aa (ac 3) (aa (bB 230 (fun _ => 0) "clause" GSteps_clause [0, 1, 2] (ac 0) (aa (ac 5) ad)) (aa (ac 4) ad)))) (aL 3)) (aj (fu (aA Cl (ac 3) g6) (aj eS aw) aw) aw))) (aj (fu (aA fy (bK (bv (fun _ => 3)) (aa (ac 2) ad)) (ao 0)) (aj (bp (ac 1)) aw) aw) (aj (ba (bC cO (cD (aa (ac 1) ad)) (bK (c6 (fun _ => 4)) (aa (bM 2 (bR (fun _ => 3) (ac 2)) (gF [7, 8]) (cH true) (ac 8)) ad))) (aL 6)) (aj (bp (bB 230 (fun _ => 0) "add" GSteps_add [0, 1, 2] (ac 0) (aa (bh "resolve") (aa (ac 3) (aa (ac 6) (aa (bK (c6 (fun _ => 5)) (aa (bM 2 (bR (fun _ => 3) (ac 2)) (gF [7, 8]) (cH true) (ac 7)) ad)) ad)))))) aw)))))
theorem vi {p : P} (h : Gl p) {f : Addr} {cdv : Value} {ent : Heap} {L : Addr}  {GSteps_add GSteps_clause Gresolve_on : dp} (KSteps_add : ax p 2 168 GSteps_add) (KSteps_clause : ax p 1 154 GSteps_clause) (Kresolve_on : ax p 4 105 Gresolve_on) : iZ p (vh f cdv ent L) k8 4 oK (kg GSteps_add GSteps_clause Gresolve_on) :=
 ai (¬cs (¬dj h.cls230 h.mSteps_clause KSteps_clause (¬ag) (¬ae (¬ag) (¬ah))) (¬bi)) (¬ai (¬gb XL (¬g7 (¬ag)) (¬lQ (¬cU (¬(Or.inl ⟨rfl, rfl⟩)) (¬cU (¬(Or.inl ⟨rfl, rfl⟩)) (¬lP)))) (¬ai (¬cs (¬bI Kresolve_on rfl rfl h.gresolve_on h.kresolve_on (¬ae (¬ag) (¬ae (¬dj h.cls230 h.mSteps_clause KSteps_clause (¬ag) (¬ae (¬ag) (¬ah))) (¬ae (¬ag) (¬ah))))) (¬bi)) (¬ai (¬dO (¬bf CJ (¬ag) (¬o6)) (¬ai (¬fG) (¬aN)) (¬aN)) (¬aN)))) (¬ai (¬dO (¬bf d6 (¬ca b9 nofun rfl rfl rfl h.nlen rfl (¬ae (¬ag) (¬ah))) (¬aO)) (¬ai (¬cr (¬ag)) (¬aN)) (¬aN)) (¬ai (¬cs (¬dB e9 (¬dW (¬ae (¬ag) (¬ah))) (¬ca er nofun rfl rfl rfl h.ntuple rfl (¬ae (¬fM (x0 := "variable") (xs := ["other"]) (by rfl) (by decide) (¬g7 (¬ag)) (fun C => (¬lQ (¬cU (¬(Or.inl ⟨rfl, rfl⟩)) (¬cU (¬(Or.inl ⟨rfl, rfl⟩)) (¬lP))))) (fun C => (¬lR)) (fun C => (¬ag))) (¬ah)))) (¬bi)) (¬ai (¬cr (¬dj h.cls230 h.mSteps_add KSteps_add (¬ag) (¬ae (¬cm) (¬ae (¬ag) (¬ae (¬ag) (¬ae (¬ca er nofun rfl rfl rfl h.ntuple rfl (¬ae (¬fM (x0 := "variable") (xs := ["other"]) (by rfl) (by decide) (¬g7 (¬ag)) (fun C => (¬lQ (¬cU (¬(Or.inl ⟨rfl, rfl⟩)) (¬cU (¬(Or.inl ⟨rfl, rfl⟩)) (¬lP))))) (fun C => (¬lR)) (fun C => (¬ag))) (¬ah))) (¬ah))))))) (¬aN)))))
noncomputable def mI : List Stmt := ch (nth (cY (eY 12)) 0)
noncomputable def jy : Scope := bG (nth (cY (eY 12)) 0)
noncomputable def lW (L : Addr) : List eE := [.ns L "self", .ns L "last", .ns L "wanted", .ns L "number", .ns L "one"]
noncomputable abbrev t8 (f : Addr) (cdv : Value) (ent : Heap) (L : Addr) : Cx := Cx.of "Proof.needed" jy f cdv lW ent L
noncomputable def jz : SC := (aj (ba (zD (ac 1) (fF true)) (aL 2)) (aj (dq (bE (aa (ac 1) (aa (fJ (ao 1)) (aa (fJ (ao 1)) ad)))) (aL 3) (aj (fu (aA (CM (fun _ => 3)) (ac 3) (ac 2)) (aj (dq (dy (cL (aX (fun _ => 1) (bU 230 (fun _ => 0) "steps" 0 (ac 0)) (ac 3)) (ao 2))) (aL 4) (aj (eM (fun _ => 3) (fF true) (ac 2) (ac 4)) aw)) aw) aw) aw)) (aj (bp (bK (li (fun _ => 3)) (aa (ac 2) ad))) aw)))
theorem t9 {p : P} (h : Gl p) {f : Addr} {cdv : Value} {ent : Heap} {L : Addr}   : iZ p (t8 f cdv ent L) k8 0 mI jz :=
 ai (¬cs (¬Ek (¬ag) (¬jp)) (¬bi)) (¬ai (¬gb XL (¬fh rfl rfl rfl h.nrange rfl (¬ae (¬ag) (¬ae (¬i7 (¬aO)) (¬ae (¬i7 (¬aO)) (¬ah))))) (¬cg (¬bi)) (¬ai (¬dO (¬bf CN (¬ag) (¬ag)) (¬ai (¬gb XL (¬kF (¬fc (¬bx (¬cW h.cls230 h.n230_steps (¬ag)) (¬ag)) (¬aO))) (¬cg (¬bi)) (¬ai (¬mw (¬jp) (¬ag) (¬ag)) (¬aN))) (¬aN)) (¬aN)) (¬aN))) (¬ai (¬cr (¬ca rd nofun rfl rfl rfl h.nsorted rfl (¬ae (¬ag) (¬ah)))) (¬aN)))
noncomputable def lX : List Stmt := ch (nth (cY (eY 12)) 1)
noncomputable def i3 : Scope := bG (nth (cY (eY 12)) 1)
noncomputable def kI (L : Addr) : List eE := [.ns L "self", .ns L "last", .ns L "found", .cell (L + 1), .ns L "var", .ns L "number", .ns L "rule", .ns L "clause", .ns L "premises", .ns L "note"]
noncomputable abbrev sB (f : Addr) (cdv : Value) (ent : Heap) (L : Addr) : Cx := Cx.of "Proof.trimmed" i3 f cdv kI ent L
noncomputable def i4 (GProof_needed GSteps_add GSteps_init GSteps_name : dp) : SC := (aj (ba (cD (aa (sx 230 GSteps_init ad) (aa o8 ad))) (gF [2, 3])) (aj (dq (bE (aa (ao 1) (aa (bK (bv (fun _ => 2)) (aa (bU 230 (fun _ => 0) "named" 1 (ac 0)) ad)) ad))) (aL 4) (aj (br (bB 230 (fun _ => 3) "name" GSteps_name [3, 4, 5] (ac 2) (aa (ac 4) (aa (aX (fun _ => 2) (bU 230 (fun _ => 0) "named" 1 (ac 0)) (ac 4)) ad)))) aw)) (aj (dq (bR (fun _ => 7) (bB 230 (fun _ => 0) "needed" GProof_needed [0, 1, 2] (ac 0) (aa (ac 1) ad))) (aL 5) (aj (ba (aX (fun _ => 1) (bU 230 (fun _ => 0) "steps" 0 (ac 0)) (ac 5)) (gF [6, 7, 8, 9])) (aj (eM (fun _ => 6) (bB 230 (fun _ => 3) "add" GSteps_add [3, 4, 5] (ac 2) (aa (ac 6) (aa (ac 7) (aa (bK (c6 (fun _ => 8)) (aa (bM 1 (dy (ac 8)) (aL 10) (cH true) (CL (fun _ => 6) (ac 3) (ac 10))) ad)) (aa (ac 9) ad))))) (ac 3) (ac 5)) aw))) (aj (bp (ac 2)) aw))))
theorem sC {p : P} (h : Gl p) {f : Addr} {cdv : Value} {ent : Heap} {L : Addr}  {GProof_needed GSteps_add GSteps_init GSteps_name : dp} (KProof_needed : ax p 1 194 GProof_needed) (KSteps_add : ax p 2 168 GSteps_add) (KSteps_init : ax p 1 119 GSteps_init) (KSteps_name : ax p 1 126 GSteps_name) : iZ p (sB f cdv ent L) k8 3 lX (i4 GProof_needed GSteps_add GSteps_init GSteps_name) :=
 ai (¬tx (¬dW (¬ae (¬xX KSteps_init rfl rfl h.gProof h.kProof h.mkProof h.inProof h.tyProof (¬ah)) (¬ae (¬wH) (¬ah)))) (¬lQ (¬cU (¬(Or.inl ⟨rfl, rfl⟩)) (¬cU (¬(Or.inr ⟨_, ⟨Or.inl rfl, rfl, rfl⟩, rfl⟩)) (¬lP))))) (¬ai (¬gb XL (¬fh rfl rfl rfl h.nrange rfl (¬ae (¬aO) (¬ae (¬ca b9 nofun rfl rfl rfl h.nlen rfl (¬ae (¬cW h.cls230 h.n230_named (¬ag)) (¬ah))) (¬ah)))) (¬cg (¬bi)) (¬ai (¬cV (¬dj h.cls230 h.mSteps_name KSteps_name (¬ag) (¬ae (¬ag) (¬ae (¬bx (¬cW h.cls230 h.n230_named (¬ag)) (¬ag)) (¬ah))))) (¬aN))) (¬ai (¬gb XL (¬g7 (¬dj h.cls230 h.mProof_needed KProof_needed (¬ag) (¬ae (¬ag) (¬ah)))) (¬cg (¬bi)) (¬ai (¬tx (¬bx (¬cW h.cls230 h.n230_steps (¬ag)) (¬ag)) (¬lQ (¬cU (¬(Or.inl ⟨rfl, rfl⟩)) (¬cU (¬(Or.inl ⟨rfl, rfl⟩)) (¬cU (¬(Or.inl ⟨rfl, rfl⟩)) (¬cU (¬(Or.inl ⟨rfl, rfl⟩)) (¬lP))))))) (¬ai (¬mw (¬dj h.cls230 h.mSteps_add KSteps_add (¬ag) (¬ae (¬ag) (¬ae (¬ag) (¬ae (¬ca er nofun rfl rfl rfl h.ntuple rfl (¬ae (¬fM (x0 := "one") (xs := []) (by rfl) (by decide) (¬kF (¬ag)) (fun C => (¬cg (¬bi))) (fun C => (¬lR)) (fun C => (¬Fz (¬cC) (¬ag)))) (¬ah))) (¬ae (¬ag) (¬ah)))))) (¬cC) (¬ag)) (¬aN)))) (¬ai (¬cr (¬ag)) (¬aN))))
noncomputable def i8 : List Stmt := ch (nth (cY (eY 12)) 3)
noncomputable def gn : Scope := bG (nth (cY (eY 12)) 3)
noncomputable def iW (L : Addr) : List eE := [.ns L "self", .ns L "last", .ns L "found", .ns L "number"]
noncomputable abbrev n9 (f : Addr) (cdv : Value) (ent : Heap) (L : Addr) : Cx := Cx.of "Proof.used_inputs" gn f cdv iW ent L
noncomputable def gp (GProof_needed : dp) : SC := (aj (ba o8 (aL 2)) (aj (dq (bR (fun _ => 4) (bB 230 (fun _ => 0) "needed" GProof_needed [0, 1, 2] (ac 0) (aa (ac 1) ad))) (aL 3) (aj (fu (aA fy (cL (aX (fun _ => 1) (bU 230 (fun _ => 0) "steps" 0 (ac 0)) (ac 3)) (ao 0)) (bh "input")) (aj (eM (fun _ => 3) (fF true) (ac 2) (cL (aX (fun _ => 1) (bU 230 (fun _ => 0) "steps" 0 (ac 0)) (ac 3)) (ao 3))) aw) aw) aw)) (aj (bp (bK (li (fun _ => 3)) (aa (ac 2) ad))) aw)))
theorem og {p : P} (h : Gl p) {f : Addr} {cdv : Value} {ent : Heap} {L : Addr}  {GProof_needed : dp} (KProof_needed : ax p 1 194 GProof_needed) : iZ p (n9 f cdv ent L) k8 1 i8 (gp GProof_needed) :=
 ai (¬cs (¬wH) (¬bi)) (¬ai (¬gb XL (¬g7 (¬dj h.cls230 h.mProof_needed KProof_needed (¬ag) (¬ae (¬ag) (¬ah)))) (¬cg (¬bi)) (¬ai (¬dO (¬bf d6 (¬fc (¬bx (¬cW h.cls230 h.n230_steps (¬ag)) (¬ag)) (¬aO)) (¬cm)) (¬ai (¬mw (¬jp) (¬ag) (¬fc (¬bx (¬cW h.cls230 h.n230_steps (¬ag)) (¬ag)) (¬aO))) (¬aN)) (¬aN)) (¬aN))) (¬ai (¬cr (¬ca rd nofun rfl rfl rfl h.nsorted rfl (¬ae (¬ag) (¬ah)))) (¬aN)))
noncomputable def sf : List Stmt := ch (eY 13)
noncomputable def mJ : Scope := bG (eY 13)
noncomputable def pZ (L : Addr) : List eE := [.ns L "note"]
noncomputable abbrev yE (f : Addr) (cdv : Value) (ent : Heap) (L : Addr) : Cx := Cx.of "note_text" mJ f cdv pZ ent L
noncomputable def gS (Gnote_text : dp) : SC := (aj (fu (aA Cl (ac 0) g6) (aj (bp (bh "-")) aw) aw) (aj (fu (gw (tG (ac 0))) (aj (bp (bC cO (bC cO (bh "(") (bq (mx (fun _ => 0)) (bh " ") (aa (bM 1 (dy (ac 0)) (aL 1) (cH true) (a9 Gnote_text [] (aa (ac 1) ad))) ad))) (bh ")"))) aw) aw) (aj (bp (bK qZ (aa (ac 0) ad))) aw)))
theorem yF {p : P} (h : Gl p) {f : Addr} {cdv : Value} {ent : Heap} {L : Addr} {d : Nat}  {Gnote_text : dp} (Knote_text : ax p d 237 Gnote_text) : iZ p (yE f cdv ent L) k8 d sf (gS Gnote_text) :=
 ai (¬dO (¬bf CJ (¬ag) (¬o6)) (¬ai (¬cr (¬cm)) (¬aN)) (¬aN)) (¬ai (¬dO (¬oz (¬Em (¬ag) rfl rfl rfl h.nisinstance rfl rfl h.ntuple rfl)) (¬ai (¬cr (¬dB e9 (¬dB e9 (¬cm) (¬@ee _ _ _ _ _ _ _ _ _ _ _ _ _ s7 PySem.F.slot_str_join PySem.F.type_str_join (¬cm) (¬ae (¬fM (x0 := "one") (xs := []) (by rfl) (by decide) (¬kF (¬ag)) (fun C => (¬cg (¬bi))) (fun C => (¬lR)) (fun C => (¬bI Knote_text rfl rfl h.gnote_text h.knote_text (¬ae (¬ag) (¬ah)) (Nat.le_refl _)))) (¬ah)) (by intro _; rfl) (by rfl))) (¬cm))) (¬aN)) (¬aN)) (¬ai (¬cr (¬ca tH nofun rfl rfl rfl h.nstr rfl (¬ae (¬ag) (¬ah)))) (¬aN)))
noncomputable def yG : List Stmt := ch (eY 14)
noncomputable def uc : Scope := bG (eY 14)
noncomputable def v0 (L : Addr) : List eE := [.ns L "numbers"]
noncomputable abbrev Do (f : Addr) (cdv : Value) (ent : Heap) (L : Addr) : Cx := Cx.of "row_of" uc f cdv v0 ent L
noncomputable def ud : SC := (aj (bp (Be (aA fy (bK (bv (fun _ => 0)) (aa (ac 0) ad)) (ao 0)) (bh "-") (bq (mx (fun _ => 0)) (bh " ") (aa (bM 1 (dy (ac 0)) (aL 1) (cH true) (bK qZ (aa (ac 1) ad))) ad)))) aw)
theorem Dp {p : P} (h : Gl p) {f : Addr} {cdv : Value} {ent : Heap} {L : Addr}   : iZ p (Do f cdv ent L) k8 0 yG ud :=
 ai (¬cr (¬xR (¬bf d6 (¬ca b9 nofun rfl rfl rfl h.nlen rfl (¬ae (¬ag) (¬ah))) (¬aO)) (¬cm) (¬@ee _ _ _ _ _ _ _ _ _ _ _ _ _ s7 PySem.F.slot_str_join PySem.F.type_str_join (¬cm) (¬ae (¬fM (x0 := "one") (xs := []) (by rfl) (by decide) (¬kF (¬ag)) (fun C => (¬cg (¬bi))) (fun C => (¬lR)) (fun C => (¬ca tH nofun rfl rfl rfl h.nstr rfl (¬ae (¬ag) (¬ah))))) (¬ah)) (by intro _; rfl) (by rfl)))) (¬aN)
noncomputable def qa : List Stmt := ch (eY 15)
noncomputable def lu : Scope := bG (eY 15)
noncomputable def oM (L : Addr) : List eE := [.ns L "bank", .ns L "proof", .ns L "rows", .ns L "var", .ns L "term", .ns L "number", .ns L "rule", .ns L "clause", .ns L "premises", .ns L "note"]
noncomputable abbrev w1 (f : Addr) (cdv : Value) (ent : Heap) (L : Addr) : Cx := Cx.of "proof_text" lu f cdv oM ent L
noncomputable def lw (GBank_op GSteps_names GSteps_size GSteps_var_count Gnote_text Grow_of : dp) : SC := (aj (ba (bg ad) (aL 2)) (aj (dq (bE (aa (ao 1) (aa (bC cO (bB 230 (fun _ => 2) "var_count" GSteps_var_count [2, 3, 4] (ac 1) ad) (ao 1)) ad))) (aL 3) (aj (ba (bB 230 (fun _ => 2) "names" GSteps_names [2, 3, 4] (ac 1) (aa (ac 3) ad)) (aL 4)) (aj (br (bD (fun _ => 5) (bl (fun _ => 5)) (ac 2) (aa (s8 (hJ (bh "name ") (hJ (tI (ac 3)) (hJ (bh " ") (hJ (tI (ac 4)) (hJ (bh " ; ") (hJ (tI (bB 493 (fun _ => 0) "op" GBank_op [0, 1] (ac 0) (aa (ac 4) ad))) CR))))))) ad))) aw))) (aj (dq (bE (aa (bB 230 (fun _ => 2) "size" GSteps_size [2, 3, 4] (ac 1) ad) ad)) (aL 5) (aj (ba (aX (fun _ => 3) (bU 230 (fun _ => 2) "steps" 0 (ac 1)) (ac 5)) (gF [6, 7, 8, 9])) (aj (br (bD (fun _ => 5) (bl (fun _ => 5)) (ac 2) (aa (s8 (hJ (bh "step ") (hJ (tI (ac 5)) (hJ (bh " ") (hJ (tI (ac 6)) (hJ (bh " | ") (hJ (tI (a9 Grow_of [] (aa (ac 7) ad))) (hJ (bh " | ") (hJ (tI (a9 Grow_of [] (aa (ac 8) ad))) (hJ (bh " | ") (hJ (tI (a9 Gnote_text [] (aa (ac 9) ad))) CR))))))))))) ad))) aw))) (aj (bp (bq (mx (fun _ => 5)) (bh "\n") (aa (ac 2) ad))) aw))))
theorem w7 {p : P} (h : Gl p) {f : Addr} {cdv : Value} {ent : Heap} {L : Addr}  {GBank_op GSteps_names GSteps_size GSteps_var_count Gnote_text Grow_of : dp} (KBank_op : ax p 1 385 GBank_op) (KSteps_names : ax p 1 133 GSteps_names) (KSteps_size : ax p 1 147 GSteps_size) (KSteps_var_count : ax p 1 140 GSteps_var_count) (Knote_text : ax p 20 237 Gnote_text) (Krow_of : ax p 1 242 Grow_of) : iZ p (w1 f cdv ent L) k8 20 qa (lw GBank_op GSteps_names GSteps_size GSteps_var_count Gnote_text Grow_of) :=
 ai (¬cs (¬dc (¬ah)) (¬bi)) (¬ai (¬gb XL (¬fh rfl rfl rfl h.nrange rfl (¬ae (¬aO) (¬ae (¬dB e9 (¬dj h.cls230 h.mSteps_var_count KSteps_var_count (¬ag) (¬ah)) (¬aO)) (¬ah)))) (¬cg (¬bi)) (¬ai (¬cs (¬dj h.cls230 h.mSteps_names KSteps_names (¬ag) (¬ae (¬ag) (¬ah))) (¬bi)) (¬ai (¬cV (¬di cA PySem.F.slot_list_append PySem.F.type_list_append (¬ag) (¬ae (¬yh (¬gl (¬cm) (¬gl (¬r6 (¬ag)) (¬gl (¬cm) (¬gl (¬r6 (¬ag)) (¬gl (¬cm) (¬gl (¬r6 (¬dj h.cls493 h.mBank_op KBank_op (¬ag) (¬ae (¬ag) (¬ah)))) (¬E5)))))))) (¬ah)))) (¬aN)))) (¬ai (¬gb XL (¬fh rfl rfl rfl h.nrange rfl (¬ae (¬dj h.cls230 h.mSteps_size KSteps_size (¬ag) (¬ah)) (¬ah))) (¬cg (¬bi)) (¬ai (¬tx (¬bx (¬cW h.cls230 h.n230_steps (¬ag)) (¬ag)) (¬lQ (¬cU (¬(Or.inl ⟨rfl, rfl⟩)) (¬cU (¬(Or.inl ⟨rfl, rfl⟩)) (¬cU (¬(Or.inl ⟨rfl, rfl⟩)) (¬cU (¬(Or.inl ⟨rfl, rfl⟩)) (¬lP))))))) (¬ai (¬cV (¬di cA PySem.F.slot_list_append PySem.F.type_list_append (¬ag) (¬ae (¬yh (¬gl (¬cm) (¬gl (¬r6 (¬ag)) (¬gl (¬cm) (¬gl (¬r6 (¬ag)) (¬gl (¬cm) (¬gl (¬r6 (¬bI Krow_of rfl rfl h.grow_of h.krow_of (¬ae (¬ag) (¬ah)))) (¬gl (¬cm) (¬gl (¬r6 (¬bI Krow_of rfl rfl h.grow_of h.krow_of (¬ae (¬ag) (¬ah)))) (¬gl (¬cm) (¬gl (¬r6 (¬bI Knote_text rfl rfl h.gnote_text h.knote_text (¬ae (¬ag) (¬ah)))) (¬E5)))))))))))) (¬ah)))) (¬aN)))) (¬ai (¬cr (¬@ee _ _ _ _ _ _ _ _ _ _ _ _ _ s7 PySem.F.slot_str_join PySem.F.type_str_join (¬cm) (¬ae (¬ag) (¬ah)) (by intro _; rfl) (by rfl))) (¬aN))))
noncomputable def kJ : List Stmt := ch (eY 16)
noncomputable def ix : Scope := bG (eY 16)
noncomputable def jR (L : Addr) : List eE := [.ns L "word", .ns L "figures"]
noncomputable abbrev rm (f : Addr) (cdv : Value) (ent : Heap) (L : Addr) : Cx := Cx.of "is_number_word" ix f cdv jR ent L
noncomputable def iy : SC := (aj (ba (Be (gw (bq s6 (ac 0) (aa (bh "-") ad))) (zE (ac 0) (ao 1)) (ac 0)) (aL 1)) (aj (bp (u7 (eh (oI fun a b => decide (b < a)) (bK (bv (fun _ => 0)) (aa (ac 1) ad)) (ao 0)) (eh fy (bK (bv (fun _ => 0)) (aa (bM 1 (rZ (ac 1)) (aL 2) (aA (yb true) (ac 2) (dt (.str pR))) (ac 2)) ad)) (ao 0)))) aw))
theorem rn {p : P} (h : Gl p) {f : Addr} {cdv : Value} {ent : Heap} {L : Addr}   : iZ p (rm f cdv ent L) k8 0 kJ iy :=
 ai (¬cs (¬xR (¬oz (¬@ee _ _ _ _ _ _ _ _ _ _ _ _ _ Bl PySem.F.slot_str_startswith PySem.F.type_str_startswith (¬ag) (¬ae (¬cm) (¬ah)) (by intro _; rfl) (by rfl))) (¬El (¬ag) (¬aO)) (¬ag)) (¬bi)) (¬ai (¬cr (¬E4 (¬j4 mu (¬ca b9 nofun rfl rfl rfl h.nlen rfl (¬ae (¬ag) (¬ah))) (¬aO)) (¬j4 d6 (¬ca b9 nofun rfl rfl rfl h.nlen rfl (¬ae (¬fM (x0 := "sign") (xs := []) (by rfl) (by decide) (¬Gz (¬ag)) (fun C => (¬cg (¬bi))) (fun C => (¬pH (¬bf yd (¬ag) (¬FQ rfl rfl h.gFIGURES)))) (fun C => (¬ag))) (¬ah))) (¬aO)))) (¬aN))
noncomputable def qb : List Stmt := ch (eY 17)
noncomputable def lx : Scope := bG (eY 17)
noncomputable def oN (L : Addr) : List eE := [.ns L "part", .ns L "where", .ns L "words", .ns L "word"]
noncomputable abbrev w8 (f : Addr) (cdv : Value) (ent : Heap) (L : Addr) : Cx := Cx.of "numbers_in" lx f cdv oN ent L
noncomputable def ly (Gis_number_word : dp) : SC := (aj (ba (bq bP (ac 0) ad) (aL 2)) (aj (fu (aA (lg false (fun _ => 0) (fun _ => 1)) (ac 2) (bg (aa (bh "-") ad))) (aj (bp (cD ad)) aw) aw) (aj (dq (bR (fun _ => 0) (ac 2)) (aL 3) (aj (fu (i0 (gw (a9 Gis_number_word [] (aa (ac 3) ad)))) (aj eS aw) aw) aw)) (aj (bp (bK (c6 (fun _ => 2)) (aa (bM 1 (bR (fun _ => 0) (ac 2)) (aL 4) (cH true) (bK mh (aa (ac 4) ad))) ad))) aw))))
theorem w9 {p : P} (h : Gl p) {f : Addr} {cdv : Value} {ent : Heap} {L : Addr}  {Gis_number_word : dp} (Kis_number_word : ax p 1 254 Gis_number_word) : iZ p (w8 f cdv ent L) k8 1 qb (ly Gis_number_word) :=
 ai (¬cs (¬@ee _ _ _ _ _ _ _ _ _ _ _ _ _ eR PySem.F.slot_str_split PySem.F.type_str_split (¬ag) (¬ah) (by intro _; rfl) (by rfl)) (¬bi)) (¬ai (¬dO (¬bf tF (¬ag) (¬dc (¬ae (¬cm) (¬ah)))) (¬ai (¬cr (¬dW (¬ah))) (¬aN)) (¬aN)) (¬ai (¬gb XL (¬g7 (¬ag)) (¬cg (¬bi)) (¬ai (¬dO (¬pG (¬oz (¬bI Kis_number_word rfl rfl h.gis_number_word h.kis_number_word (¬ae (¬ag) (¬ah))))) (¬ai (¬fG) (¬aN)) (¬aN)) (¬aN))) (¬ai (¬cr (¬ca er nofun rfl rfl rfl h.ntuple rfl (¬ae (¬fM (x0 := "word") (xs := []) (by rfl) (by decide) (¬g7 (¬ag)) (fun C => (¬cg (¬bi))) (fun C => (¬lR)) (fun C => (¬ca pb nofun rfl rfl rfl h.nint rfl (¬ae (¬ag) (¬ah))))) (¬ah)))) (¬aN))))
noncomputable def sg : List Stmt := ch (eY 18)
noncomputable def mK : Scope := bG (eY 18)
noncomputable def qc (L : Addr) : List eE := [.ns L "text", .ns L "where", .ns L "stack", .ns L "word", .ns L "done"]
noncomputable abbrev yH (f : Addr) (cdv : Value) (ent : Heap) (L : Addr) : Cx := Cx.of "note_from" mK f cdv qc ent L
noncomputable def jS (Gis_number_word : dp) : SC := (aj (ba (bg (aa (bg ad) ad)) (aL 2)) (aj (mt (bR (fun _ => 2) (bq bP (lT ")" " ) " (lT "(" " ( " (ac 0))) ad)) (aL 3) (aj (fu (aA fy (ac 3) (bh "(")) (aj (br (bD (fun _ => 1) (bl (fun _ => 1)) (ac 2) (aa (bg ad) ad))) aw) (aj (fu (aA fy (ac 3) (bh ")")) (aj (fu (aA (oI fun a b => decide (a < b)) (bK (bv (fun _ => 1)) (aa (ac 2) ad)) (ao 2)) (aj eS aw) aw) (aj (ba (bK (Gh c6) (aa (bD (fun _ => 1) (En (fun _ => 1)) (ac 2) ad) ad)) (aL 4)) (aj (br (jf bl (aX (fun _ => 1) (ac 2) (fJ (ao 1))) (aa (ac 4) ad))) aw))) (aj (fu (aA fy (ac 3) (bh "-")) (aj (br (jf bl (aX (fun _ => 1) (ac 2) (fJ (ao 1))) (aa g6 ad))) aw) (aj (br (jf bl (aX (fun _ => 1) (ac 2) (fJ (ao 1))) (aa (Be (gw (a9 Gis_number_word [] (aa (ac 3) ad))) (bK mh (aa (ac 3) ad)) (ac 3)) ad))) aw)) aw)) aw)) aw)) (aj (fu (qR (aA n8 (bK (bv (fun _ => 1)) (aa (ac 2) ad)) (ao 1)) (qR (aA n8 (bK (Gh bv) (aa (aX (fun _ => 1) (ac 2) (ao 0)) ad)) (ao 1)) (cH false))) (aj eS aw) aw) (aj (bp (zL (aX (fun _ => 1) (ac 2) (ao 0)) (ao 0))) aw))))
theorem yI {p : P} (h : Gl p) {f : Addr} {cdv : Value} {ent : Heap} {L : Addr}  {Gis_number_word : dp} (Kis_number_word : ax p 1 254 Gis_number_word) : iZ p (yH f cdv ent L) k8 1 sg (jS Gis_number_word) :=
 CS (¬dc (¬ae (¬dc (¬ah)) (¬ah))) ⟨rfl, rfl⟩ (¬Er XL (¬Ep (¬Bm eR PySem.F.slot_str_split PySem.F.type_str_split (¬AD (¬AD (¬Ev.toP (¬ag)) (by decide)) (by decide)))) (¬cg (¬bi)) (¬ai (¬dO (¬bf d6 (¬ag) (¬cm)) (¬ai (¬cV (¬di cA PySem.F.slot_list_append PySem.F.type_list_append (¬ag) (¬ae (¬dc (¬ah)) (¬ah)))) (¬aN)) (¬ai (¬dO (¬bf d6 (¬ag) (¬cm)) (¬ai (¬dO (¬bf ya (¬ca b9 nofun rfl rfl rfl h.nlen rfl (¬ae (¬ag) (¬ah))) (¬aO)) (¬ai (¬fG) (¬aN)) (¬aN)) (¬ai (¬cs (¬ca (Db fun _ => er) nofun rfl rfl rfl h.ntuple rfl (¬ae (¬di FE PySem.F.slot_list_pop PySem.F.type_list_pop (¬ag) (¬ah)) (¬ah))) (¬bi)) (¬ai (¬cV (¬tQ (fun j => cA) PySem.F.slot_list_append PySem.F.type_list_append (¬bx (¬ag) (¬i7 (¬aO))) (¬ae (¬ag) (¬ah)))) (¬aN)))) (¬ai (¬dO (¬bf d6 (¬ag) (¬cm)) (¬ai (¬cV (¬tQ (fun j => cA) PySem.F.slot_list_append PySem.F.type_list_append (¬bx (¬ag) (¬i7 (¬aO))) (¬ae (¬o6) (¬ah)))) (¬aN)) (¬ai (¬cV (¬tQ (fun j => cA) PySem.F.slot_list_append PySem.F.type_list_append (¬bx (¬ag) (¬i7 (¬aO))) (¬ae (¬xR (¬oz (¬bI Kis_number_word rfl rfl h.gis_number_word h.kis_number_word (¬ae (¬ag) (¬ah)))) (¬ca pb nofun rfl rfl rfl h.nint rfl (¬ae (¬ag) (¬ah))) (¬ag)) (¬ah)))) (¬aN))) (¬aN))) (¬aN))) (¬aN))) (¬ai (¬dO (¬gk (¬iO (¬bf g8 (¬ca b9 nofun rfl rfl rfl h.nlen rfl (¬ae (¬ag) (¬ah))) (¬aO)) (¬iO (¬bf g8 (¬ca (Db fun _ => b9) nofun rfl rfl rfl h.nlen rfl (¬ae (¬bx (¬ag) (¬aO)) (¬ah))) (¬aO)) (¬jq)))) (¬ai (¬fG) (¬aN)) (¬aN)) (¬ai (¬cr (¬Ew (¬bx (¬ag) (¬aO)) (¬aO))) (¬aN)))
noncomputable def sh : List Stmt := ch (eY 19)
noncomputable def mL : Scope := bG (eY 19)
noncomputable def qd (L : Addr) : List eE := [.ns L "proof", .ns L "row", .ns L "where", .ns L "parts", .ns L "head"]
noncomputable abbrev yJ (f : Addr) (cdv : Value) (ent : Heap) (L : Addr) : Cx := Cx.of "read_step" mL f cdv qd ent L
noncomputable def mM (GSteps_add GSteps_size Gnote_from Gnumbers_in : dp) : SC := (aj (ba (bq bP (ac 1) (aa (bh "|") ad)) (aL 3)) (aj (ba (bq bP (aX (fun _ => 3) (ac 3) (ao 0)) ad) (aL 4)) (aj (fu (qR (aA n8 (bK (bv (fun _ => 3)) (aa (ac 3) ad)) (ao 4)) (qR (aA n8 (bK (bv (fun _ => 4)) (aa (ac 4) ad)) (ao 3)) (qR (aA n8 (aX (fun _ => 4) (ac 4) (ao 1)) (bK qZ (aa (bB 230 (fun _ => 0) "size" GSteps_size [0, 1, 2] (ac 0) ad) ad))) (cH false)))) (aj eS aw) aw) (aj (br (bB 230 (fun _ => 0) "add" GSteps_add [0, 1, 2] (ac 0) (aa (aX (fun _ => 4) (ac 4) (ao 2)) (aa (a9 Gnumbers_in [] (aa (aX (fun _ => 3) (ac 3) (ao 1)) (aa (ac 2) ad))) (aa (a9 Gnumbers_in [] (aa (aX (fun _ => 3) (ac 3) (ao 2)) (aa (ac 2) ad))) (aa (a9 Gnote_from [] (aa (aX (fun _ => 3) (ac 3) (ao 3)) (aa (ac 2) ad))) ad)))))) aw))))
theorem yK {p : P} (h : Gl p) {f : Addr} {cdv : Value} {ent : Heap} {L : Addr}  {GSteps_add GSteps_size Gnote_from Gnumbers_in : dp} (KSteps_add : ax p 2 168 GSteps_add) (KSteps_size : ax p 1 147 GSteps_size) (Knote_from : ax p 2 266 Gnote_from) (Knumbers_in : ax p 2 259 Gnumbers_in) : iZ p (yJ f cdv ent L) k8 2 sh (mM GSteps_add GSteps_size Gnote_from Gnumbers_in) :=
 ai (¬cs (¬@ee _ _ _ _ _ _ _ _ _ _ _ _ _ eR PySem.F.slot_str_split PySem.F.type_str_split (¬ag) (¬ae (¬cm) (¬ah)) (by intro _; rfl) (by rfl)) (¬bi)) (¬ai (¬cs (¬@ee _ _ _ _ _ _ _ _ _ _ _ _ _ eR PySem.F.slot_str_split PySem.F.type_str_split (¬bx (¬ag) (¬aO)) (¬ah) (by intro _; rfl) (by rfl)) (¬bi)) (¬ai (¬dO (¬gk (¬iO (¬bf g8 (¬ca b9 nofun rfl rfl rfl h.nlen rfl (¬ae (¬ag) (¬ah))) (¬aO)) (¬iO (¬bf g8 (¬ca b9 nofun rfl rfl rfl h.nlen rfl (¬ae (¬ag) (¬ah))) (¬aO)) (¬iO (¬bf g8 (¬bx (¬ag) (¬aO)) (¬ca tH nofun rfl rfl rfl h.nstr rfl (¬ae (¬dj h.cls230 h.mSteps_size KSteps_size (¬ag) (¬ah)) (¬ah)))) (¬jq))))) (¬ai (¬fG) (¬aN)) (¬aN)) (¬ai (¬cV (¬dj h.cls230 h.mSteps_add KSteps_add (¬ag) (¬ae (¬bx (¬ag) (¬aO)) (¬ae (¬bI Knumbers_in rfl rfl h.gnumbers_in h.knumbers_in (¬ae (¬bx (¬ag) (¬aO)) (¬ae (¬ag) (¬ah)))) (¬ae (¬bI Knumbers_in rfl rfl h.gnumbers_in h.knumbers_in (¬ae (¬bx (¬ag) (¬aO)) (¬ae (¬ag) (¬ah)))) (¬ae (¬bI Knote_from rfl rfl h.gnote_from h.knote_from (¬ae (¬bx (¬ag) (¬aO)) (¬ae (¬ag) (¬ah)))) (¬ah))))))) (¬aN))))
noncomputable def oO : List Stmt := ch (eY 19)
noncomputable def iF : Scope := bG (eY 19)
noncomputable def jA (L : Addr) : List eE := [.ns L "proof", .ns L "row", .ns L "where", .ns L "parts", .ns L "head"]
noncomputable abbrev oP (f : Addr) (cdv : Value) (l : List Env) (ent : Heap) (L : Addr) : Cx := Cx.ofF "read_step" iF f cdv jA l ent L
noncomputable def ki (GSteps_add GSteps_size Gnote_from Gnumbers_in : dp) : SC := (aj (ba (bq bP (ac 1) (aa (bh "|") ad)) (aL 3)) (aj (ba (bq bP (aX (fun _ => 3) (ac 3) (ao 0)) ad) (aL 4)) (aj (fu (qR (aA n8 (bK (bv (fun _ => 3)) (aa (ac 3) ad)) (ao 4)) (qR (aA n8 (bK (bv (fun _ => 4)) (aa (ac 4) ad)) (ao 3)) (qR (aA n8 (aX (fun _ => 4) (ac 4) (ao 1)) (bK qZ (aa (bB 230 (fun _ => 0) "size" GSteps_size [0, 1, 2] (ac 0) ad) ad))) (cH false)))) (aj (pc (aa (bh "a step is not written as one") (aa (ac 2) ad))) aw) aw) (aj (br (bB 230 (fun _ => 0) "add" GSteps_add [0, 1, 2] (ac 0) (aa (aX (fun _ => 4) (ac 4) (ao 2)) (aa (a9 Gnumbers_in [] (aa (aX (fun _ => 3) (ac 3) (ao 1)) (aa (ac 2) ad))) (aa (a9 Gnumbers_in [] (aa (aX (fun _ => 3) (ac 3) (ao 2)) (aa (ac 2) ad))) (aa (a9 Gnote_from [] (aa (aX (fun _ => 3) (ac 3) (ao 3)) (aa (ac 2) ad))) ad)))))) aw))))
theorem vj {p : P} (h : Gl p) {f : Addr} {cdv : Value} {l : List Env} {ent : Heap} {L : Addr} (hst : pC ent l)  {GSteps_add GSteps_size Gnote_from Gnumbers_in : dp} (KSteps_add : ax p 2 168 GSteps_add) (KSteps_size : ax p 1 147 GSteps_size) (Knote_from : ax p 2 266 Gnote_from) (Knumbers_in : ax p 2 259 Gnumbers_in)  : iZ p (oP f cdv l ent L) (XT 76 (envOfC "read_step" iF L f cdv :: l)) 9 oO (ki GSteps_add GSteps_size Gnote_from Gnumbers_in ) := by
 have Fr : sy (oP f cdv l ent L) l L := ⟨fun _ z => z, rfl, (by intro z; cases z), ⟨"proof", by simp [Cx.ofF, jA]⟩, hst⟩
 exact ai (¬cs (¬@ee _ _ _ _ _ _ _ _ _ _ _ _ _ eR PySem.F.slot_str_split PySem.F.type_str_split (¬ag) (¬ae (¬cm) (¬ah)) (by intro _; rfl) (by rfl)) (¬bi)) (¬ai (¬cs (¬@ee _ _ _ _ _ _ _ _ _ _ _ _ _ eR PySem.F.slot_str_split PySem.F.type_str_split (¬bx (¬ag) (¬aO)) (¬ah) (by intro _; rfl) (by rfl)) (¬bi)) (¬ai (¬dO (¬gk (¬iO (¬bf g8 (¬ca b9 nofun rfl rfl rfl h.nlen rfl (¬ae (¬ag) (¬ah))) (¬aO)) (¬iO (¬bf g8 (¬ca b9 nofun rfl rfl rfl h.nlen rfl (¬ae (¬ag) (¬ah))) (¬aO)) (¬iO (¬bf g8 (¬bx (¬ag) (¬aO)) (¬ca tH nofun rfl rfl rfl h.nstr rfl (¬ae (¬dj h.cls230 h.mSteps_size KSteps_size (¬ag) (¬ah)) (¬ah)))) (¬jq))))) (¬ai (¬yr h.fault Fr rfl rfl h.gProofFault h.kProofFault (¬ae (¬cm) (¬ae (¬ag) (¬ah)))) (¬aN)) (¬aN)) (¬ai (¬cV (¬dj h.cls230 h.mSteps_add KSteps_add (¬ag) (¬ae (¬bx (¬ag) (¬aO)) (¬ae (¬bI Knumbers_in rfl rfl h.gnumbers_in h.knumbers_in (¬ae (¬bx (¬ag) (¬aO)) (¬ae (¬ag) (¬ah)))) (¬ae (¬bI Knumbers_in rfl rfl h.gnumbers_in h.knumbers_in (¬ae (¬bx (¬ag) (¬aO)) (¬ae (¬ag) (¬ah)))) (¬ae (¬bI Knote_from rfl rfl h.gnote_from h.knote_from (¬ae (¬bx (¬ag) (¬aO)) (¬ae (¬ag) (¬ah)))) (¬ah))))))) (¬aN))))
noncomputable def qf : List Stmt := ch (eY 20)
noncomputable def lz : Scope := bG (eY 20)
noncomputable def oQ (L : Addr) : List eE := [.ns L "text", .ns L "proof", .ns L "rows", .ns L "where", .ns L "row", .ns L "words"]
noncomputable abbrev xa (f : Addr) (cdv : Value) (ent : Heap) (L : Addr) : Cx := Cx.of "read_proof" lz f cdv oQ ent L
noncomputable def lA (GSteps_init GSteps_name Gis_number_word Gread_step : dp) : SC := (aj (ba (sx 230 GSteps_init ad) (aL 1)) (aj (ba (Be (aA n8 (ac 0) (bh "")) (bq bP (ac 0) (aa (bh "\n") ad)) (bg ad)) (aL 2)) (aj (dq (bE (aa (bK (bv (fun _ => 3)) (aa (ac 2) ad)) ad)) (aL 3) (aj (ba (aX (fun _ => 4) (bq bP (aX (fun _ => 3) (ac 2) (ac 3)) (aa (bh ";") ad)) (ao 0)) (aL 4)) (aj (ba (bq bP (ac 4) ad) (aL 5)) (aj (fu (ip (aA fy (bK (bv (fun _ => 5)) (aa (ac 5) ad)) (ao 3)) (ip (aA fy (aX (fun _ => 5) (ac 5) (ao 0)) (bh "name")) (cH true))) (aj (fu (qR (i0 (gw (a9 Gis_number_word [] (aa (aX (fun _ => 5) (ac 5) (ao 1)) ad)))) (qR (i0 (gw (a9 Gis_number_word [] (aa (aX (fun _ => 5) (ac 5) (ao 2)) ad)))) (cH false))) (aj eS aw) aw) (aj (br (bB 230 (fun _ => 0) "name" GSteps_name [0, 1, 2] (ac 1) (aa (bK mh (aa (aX (fun _ => 5) (ac 5) (ao 1)) ad)) (aa (bK mh (aa (aX (fun _ => 5) (ac 5) (ao 2)) ad)) ad)))) aw)) (aj (fu (ip (aA (oI fun a b => decide (b < a)) (bK (bv (fun _ => 5)) (aa (ac 5) ad)) (ao 0)) (ip (aA fy (aX (fun _ => 5) (ac 5) (ao 0)) (bh "step")) (cH true))) (aj (br (a9 Gread_step [0, 1, 2] (aa (ac 1) (aa (ac 4) (aa (ac 3) ad))))) aw) (aj (fu (aA (oI fun a b => decide (b < a)) (bK (bv (fun _ => 5)) (aa (ac 5) ad)) (ao 0)) (aj eS aw) aw) aw)) aw)) aw)))) (aj (bp (ac 1)) aw))))
theorem xb {p : P} (h : Gl p) {f : Addr} {cdv : Value} {ent : Heap} {L : Addr}  {GSteps_init GSteps_name Gis_number_word Gread_step : dp} (KSteps_init : ax p 1 119 GSteps_init) (KSteps_name : ax p 1 126 GSteps_name) (Kis_number_word : ax p 1 254 Gis_number_word) (Kread_step : ax p 3 273 Gread_step) : iZ p (xa f cdv ent L) k8 3 qf (lA GSteps_init GSteps_name Gis_number_word Gread_step) :=
 ai (¬cs (¬xX KSteps_init rfl rfl h.gProof h.kProof h.mkProof h.inProof h.tyProof (¬ah)) (¬bi)) (¬ai (¬cs (¬xR (¬bf g8 (¬ag) (¬cm)) (¬@ee _ _ _ _ _ _ _ _ _ _ _ _ _ eR PySem.F.slot_str_split PySem.F.type_str_split (¬ag) (¬ae (¬cm) (¬ah)) (by intro _; rfl) (by rfl)) (¬dc (¬ah))) (¬bi)) (¬ai (¬gb XL (¬fh rfl rfl rfl h.nrange rfl (¬ae (¬ca b9 nofun rfl rfl rfl h.nlen rfl (¬ae (¬ag) (¬ah))) (¬ah))) (¬cg (¬bi)) (¬ai (¬cs (¬bx (¬@ee _ _ _ _ _ _ _ _ _ _ _ _ _ eR PySem.F.slot_str_split PySem.F.type_str_split (¬bx (¬ag) (¬ag)) (¬ae (¬cm) (¬ah)) (by intro _; rfl) (by rfl)) (¬aO)) (¬bi)) (¬ai (¬cs (¬@ee _ _ _ _ _ _ _ _ _ _ _ _ _ eR PySem.F.slot_str_split PySem.F.type_str_split (¬ag) (¬ah) (by intro _; rfl) (by rfl)) (¬bi)) (¬ai (¬dO (¬gk (¬fA (¬bf d6 (¬ca b9 nofun rfl rfl rfl h.nlen rfl (¬ae (¬ag) (¬ah))) (¬aO)) (¬fA (¬bf d6 (¬bx (¬ag) (¬aO)) (¬cm)) (¬fW)))) (¬ai (¬dO (¬gk (¬iO (¬pG (¬oz (¬bI Kis_number_word rfl rfl h.gis_number_word h.kis_number_word (¬ae (¬bx (¬ag) (¬aO)) (¬ah))))) (¬iO (¬pG (¬oz (¬bI Kis_number_word rfl rfl h.gis_number_word h.kis_number_word (¬ae (¬bx (¬ag) (¬aO)) (¬ah))))) (¬jq)))) (¬ai (¬fG) (¬aN)) (¬aN)) (¬ai (¬cV (¬dj h.cls230 h.mSteps_name KSteps_name (¬ag) (¬ae (¬ca pb nofun rfl rfl rfl h.nint rfl (¬ae (¬bx (¬ag) (¬aO)) (¬ah))) (¬ae (¬ca pb nofun rfl rfl rfl h.nint rfl (¬ae (¬bx (¬ag) (¬aO)) (¬ah))) (¬ah))))) (¬aN))) (¬ai (¬dO (¬gk (¬fA (¬bf mu (¬ca b9 nofun rfl rfl rfl h.nlen rfl (¬ae (¬ag) (¬ah))) (¬aO)) (¬fA (¬bf d6 (¬bx (¬ag) (¬aO)) (¬cm)) (¬fW)))) (¬ai (¬cV (¬bI Kread_step rfl rfl h.gread_step h.kread_step (¬ae (¬ag) (¬ae (¬ag) (¬ae (¬ag) (¬ah)))))) (¬aN)) (¬ai (¬dO (¬bf mu (¬ca b9 nofun rfl rfl rfl h.nlen rfl (¬ae (¬ag) (¬ah))) (¬aO)) (¬ai (¬fG) (¬aN)) (¬aN)) (¬aN))) (¬aN))) (¬aN))))) (¬ai (¬cr (¬ag)) (¬aN))))
noncomputable def mN : List Stmt := ch (eY 20)
noncomputable def hY : Scope := bG (eY 20)
noncomputable def i5 (L : Addr) : List eE := [.ns L "text", .ns L "proof", .ns L "rows", .ns L "where", .ns L "row", .ns L "words"]
noncomputable abbrev mO (f : Addr) (cdv : Value) (l : List Env) (ent : Heap) (L : Addr) : Cx := Cx.ofF "read_proof" hY f cdv i5 l ent L
noncomputable def jB (GSteps_init GSteps_name Gis_number_word Gread_step : dp) (GXread_step : List D → List (Addr × O) → Prop) : SC := (aj (ba (sx 230 GSteps_init ad) (aL 1)) (aj (ba (Be (aA n8 (ac 0) (bh "")) (bq bP (ac 0) (aa (bh "\n") ad)) (bg ad)) (aL 2)) (aj (dq (bE (aa (bK (bv (fun _ => 3)) (aa (ac 2) ad)) ad)) (aL 3) (aj (ba (aX (fun _ => 4) (bq bP (aX (fun _ => 3) (ac 2) (ac 3)) (aa (bh ";") ad)) (ao 0)) (aL 4)) (aj (ba (bq bP (ac 4) ad) (aL 5)) (aj (fu (ip (aA fy (bK (bv (fun _ => 5)) (aa (ac 5) ad)) (ao 3)) (ip (aA fy (aX (fun _ => 5) (ac 5) (ao 0)) (bh "name")) (cH true))) (aj (fu (qR (i0 (gw (a9 Gis_number_word [] (aa (aX (fun _ => 5) (ac 5) (ao 1)) ad)))) (qR (i0 (gw (a9 Gis_number_word [] (aa (aX (fun _ => 5) (ac 5) (ao 2)) ad)))) (cH false))) (aj eS aw) aw) (aj (br (bB 230 (fun _ => 0) "name" GSteps_name [0, 1, 2] (ac 1) (aa (bK mh (aa (aX (fun _ => 5) (ac 5) (ao 1)) ad)) (aa (bK mh (aa (aX (fun _ => 5) (ac 5) (ao 2)) ad)) ad)))) aw)) (aj (fu (ip (aA (oI fun a b => decide (b < a)) (bK (bv (fun _ => 5)) (aa (ac 5) ad)) (ao 0)) (ip (aA fy (aX (fun _ => 5) (ac 5) (ao 0)) (bh "step")) (cH true))) (aj (fun σ k => br (a9 Gread_step [0, 1, 2] (aa (ac 1) (aa (ac 4) (aa (ac 3) ad)))) σ k ∨ rh GXread_step [0, 1, 2] (aa (ac 1) (aa (ac 4) (aa (ac 3) ad))) σ k) aw) (aj (fu (aA (oI fun a b => decide (b < a)) (bK (bv (fun _ => 5)) (aa (ac 5) ad)) (ao 0)) (aj (pc (aa (bh "a row is neither a name nor a step") (aa (ac 3) ad))) aw) aw) aw)) aw)) aw)))) (aj (bp (ac 1)) aw))))
theorem ue {p : P} (h : Gl p) {f : Addr} {cdv : Value} {l : List Env} {ent : Heap} {L : Addr} (hst : pC ent l)  {GSteps_init GSteps_name Gis_number_word Gread_step : dp} {GXread_step : List D → List (Addr × O) → Prop} (KSteps_init : ax p 1 119 GSteps_init) (KSteps_name : ax p 1 126 GSteps_name) (Kis_number_word : ax p 1 254 Gis_number_word) (Kread_step : ax p 3 273 Gread_step) (KXread_step : vW p 10 273 76 GXread_step) : iZ p (mO f cdv l ent L) (XT 76 (envOfC "read_proof" hY L f cdv :: l)) 10 mN (jB GSteps_init GSteps_name Gis_number_word Gread_step GXread_step) := by
 have Fr : sy (mO f cdv l ent L) l L := ⟨fun _ z => z, rfl, (by intro z; cases z), ⟨"text", by simp [Cx.ofF, i5]⟩, hst⟩
 exact ai (¬cs (¬xX KSteps_init rfl rfl h.gProof h.kProof h.mkProof h.inProof h.tyProof (¬ah)) (¬bi)) (¬ai (¬cs (¬xR (¬bf g8 (¬ag) (¬cm)) (¬@ee _ _ _ _ _ _ _ _ _ _ _ _ _ eR PySem.F.slot_str_split PySem.F.type_str_split (¬ag) (¬ae (¬cm) (¬ah)) (by intro _; rfl) (by rfl)) (¬dc (¬ah))) (¬bi)) (¬ai (¬gb (XT.loop Fr.fr Fr.own) (¬fh rfl rfl rfl h.nrange rfl (¬ae (¬ca b9 nofun rfl rfl rfl h.nlen rfl (¬ae (¬ag) (¬ah))) (¬ah))) (¬cg (¬bi)) (¬ai (¬cs (¬bx (¬@ee _ _ _ _ _ _ _ _ _ _ _ _ _ eR PySem.F.slot_str_split PySem.F.type_str_split (¬bx (¬ag) (¬ag)) (¬ae (¬cm) (¬ah)) (by intro _; rfl) (by rfl)) (¬aO)) (¬bi)) (¬ai (¬cs (¬@ee _ _ _ _ _ _ _ _ _ _ _ _ _ eR PySem.F.slot_str_split PySem.F.type_str_split (¬ag) (¬ah) (by intro _; rfl) (by rfl)) (¬bi)) (¬ai (¬dO (¬gk (¬fA (¬bf d6 (¬ca b9 nofun rfl rfl rfl h.nlen rfl (¬ae (¬ag) (¬ah))) (¬aO)) (¬fA (¬bf d6 (¬bx (¬ag) (¬aO)) (¬cm)) (¬fW)))) (¬ai (¬dO (¬gk (¬iO (¬pG (¬oz (¬bI Kis_number_word rfl rfl h.gis_number_word h.kis_number_word (¬ae (¬bx (¬ag) (¬aO)) (¬ah))))) (¬iO (¬pG (¬oz (¬bI Kis_number_word rfl rfl h.gis_number_word h.kis_number_word (¬ae (¬bx (¬ag) (¬aO)) (¬ah))))) (¬jq)))) (¬ai (¬fG) (¬aN)) (¬aN)) (¬ai (¬cV (¬dj h.cls230 h.mSteps_name KSteps_name (¬ag) (¬ae (¬ca pb nofun rfl rfl rfl h.nint rfl (¬ae (¬bx (¬ag) (¬aO)) (¬ah))) (¬ae (¬ca pb nofun rfl rfl rfl h.nint rfl (¬ae (¬bx (¬ag) (¬aO)) (¬ah))) (¬ah))))) (¬aN))) (¬ai (¬dO (¬gk (¬fA (¬bf mu (¬ca b9 nofun rfl rfl rfl h.nlen rfl (¬ae (¬ag) (¬ah))) (¬aO)) (¬fA (¬bf d6 (¬bx (¬ag) (¬aO)) (¬cm)) (¬fW)))) (¬ai (¬Hh (¬cV (¬bI Kread_step rfl rfl h.gread_step h.kread_step (¬ae (¬ag) (¬ae (¬ag) (¬ae (¬ag) (¬ah)))))) (¬AI KXread_step Fr rfl rfl h.gread_step h.kread_step (¬ae (¬ag) (¬ae (¬ag) (¬ae (¬ag) (¬ah)))))) (¬aN)) (¬ai (¬dO (¬bf mu (¬ca b9 nofun rfl rfl rfl h.nlen rfl (¬ae (¬ag) (¬ah))) (¬aO)) (¬ai (¬yr h.fault Fr rfl rfl h.gProofFault h.kProofFault (¬ae (¬cm) (¬ae (¬ag) (¬ah)))) (¬aN)) (¬aN)) (¬aN))) (¬aN))) (¬aN))))) (¬ai (¬cr (¬ag)) (¬aN))))
noncomputable def si : List Stmt := ch (nth (cY (eY 23)) 0)
noncomputable def mP : Scope := bG (nth (cY (eY 23)) 0)
noncomputable def qh (L : Addr) : List eE := [.ns L "self"]
noncomputable abbrev yL (f : Addr) (cdv : Value) (ent : Heap) (L : Addr) : Cx := Cx.of "Bank.__init__" mP f cdv qh ent L
noncomputable def mQ (GBank_make : dp) : SC := (aj (aT 493 (fun _ => 0) "sort_names" (bg (aa (bh "Bool") (aa (bh "Int") (aa (bh "Real") ad)))) (ac 0)) (aj (aT 493 (fun _ => 0) "sort_widths" (bg (aa (ao 0) (aa (ao 0) (aa (ao 0) ad)))) (ac 0)) (aj (aT 493 (fun _ => 0) "fun_names" (bg ad) (ac 0)) (aj (aT 493 (fun _ => 0) "fun_args" (bg ad) (ac 0)) (aj (aT 493 (fun _ => 0) "fun_results" (bg ad) (ac 0)) (aj (aT 493 (fun _ => 0) "fresh_count" (ao 0) (ac 0)) (aj (aT 493 (fun _ => 0) "term_ops" (bg (aa (bh "") ad)) (ac 0)) (aj (aT 493 (fun _ => 0) "term_args" (bg (aa (cD ad) ad)) (ac 0)) (aj (aT 493 (fun _ => 0) "term_sorts" (bg (aa (dt (.int 0)) ad)) (ac 0)) (aj (aT 493 (fun _ => 0) "term_datas" (bg (aa (ao 0) ad)) (ac 0)) (aj (aT 493 (fun _ => 0) "numbers" nS (ac 0)) (aj (aT 493 (fun _ => 0) "true_number" (bB 493 (fun _ => 0) "make" GBank_make [0, 6, 7, 8, 9, 10] (ac 0) (aa (bh "true") (aa (cD ad) (aa (dt (.int 0)) (aa (ao 0) ad))))) (ac 0)) (aj (aT 493 (fun _ => 0) "false_number" (bB 493 (fun _ => 0) "make" GBank_make [0, 6, 7, 8, 9, 10] (ac 0) (aa (bh "false") (aa (cD ad) (aa (dt (.int 0)) (aa (ao 0) ad))))) (ac 0)) aw)))))))))))))
theorem yM {p : P} (h : Gl p) {f : Addr} {cdv : Value} {ent : Heap} {L : Addr}  {GBank_make : dp} (KBank_make : ax p 1 427 GBank_make) : iZ p (yL f cdv ent L) k8 1 si (mQ GBank_make) :=
 ai (¬dn h.cls493 h.n493_sort_names (¬dc (¬ae (¬cm) (¬ae (¬cm) (¬ae (¬cm) (¬ah))))) (¬ag)) (¬ai (¬dn h.cls493 h.n493_sort_widths (¬dc (¬ae (¬aO) (¬ae (¬aO) (¬ae (¬aO) (¬ah))))) (¬ag)) (¬ai (¬dn h.cls493 h.n493_fun_names (¬dc (¬ah)) (¬ag)) (¬ai (¬dn h.cls493 h.n493_fun_args (¬dc (¬ah)) (¬ag)) (¬ai (¬dn h.cls493 h.n493_fun_results (¬dc (¬ah)) (¬ag)) (¬ai (¬dn h.cls493 h.n493_fresh_count (¬aO) (¬ag)) (¬ai (¬dn h.cls493 h.n493_term_ops (¬dc (¬ae (¬cm) (¬ah))) (¬ag)) (¬ai (¬dn h.cls493 h.n493_term_args (¬dc (¬ae (¬dW (¬ah)) (¬ah))) (¬ag)) (¬ai (¬dn h.cls493 h.n493_term_sorts (¬dc (¬ae (¬wO rfl rfl h.gBOOL) (¬ah))) (¬ag)) (¬ai (¬dn h.cls493 h.n493_term_datas (¬dc (¬ae (¬aO) (¬ah))) (¬ag)) (¬ai (¬dn h.cls493 h.n493_numbers (¬CW) (¬ag)) (¬ai (¬dn h.cls493 h.n493_true_number (¬dj h.cls493 h.mBank_make KBank_make (¬ag) (¬ae (¬cm) (¬ae (¬dW (¬ah)) (¬ae (¬wO rfl rfl h.gBOOL) (¬ae (¬aO) (¬ah)))))) (¬ag)) (¬ai (¬dn h.cls493 h.n493_false_number (¬dj h.cls493 h.mBank_make KBank_make (¬ag) (¬ae (¬cm) (¬ae (¬dW (¬ah)) (¬ae (¬wO rfl rfl h.gBOOL) (¬ae (¬aO) (¬ah)))))) (¬ag)) (¬aN)))))))))))))
noncomputable def jC : List Stmt := ch (nth (cY (eY 23)) 6)
noncomputable def gI : Scope := bG (nth (cY (eY 23)) 6)
noncomputable def i9 (L : Addr) : List eE := [.ns L "self", .ns L "name", .ns L "arg_sorts", .ns L "result"]
noncomputable abbrev ph (f : Addr) (cdv : Value) (ent : Heap) (L : Addr) : Cx := Cx.of "Bank.declare_fun" gI f cdv i9 ent L
noncomputable def gJ : SC := (aj (br (bD (fun _ => 1) (bl (fun _ => 1)) (bU 493 (fun _ => 0) "fun_names" 2 (ac 0)) (aa (ac 1) ad))) (aj (br (bD (fun _ => 2) (bl (fun _ => 2)) (bU 493 (fun _ => 0) "fun_args" 3 (ac 0)) (aa (bK (c6 (fun _ => 0)) (aa (ac 2) ad)) ad))) (aj (br (bD (fun _ => 3) (bl (fun _ => 3)) (bU 493 (fun _ => 0) "fun_results" 4 (ac 0)) (aa (ac 3) ad))) (aj (bp (bC jI (bK (bv (fun _ => 1)) (aa (bU 493 (fun _ => 0) "fun_names" 2 (ac 0)) ad)) (ao 1))) aw))))
theorem pi {p : P} (h : Gl p) {f : Addr} {cdv : Value} {ent : Heap} {L : Addr}   : iZ p (ph f cdv ent L) k8 0 jC gJ :=
 ai (¬cV (¬di cA PySem.F.slot_list_append PySem.F.type_list_append (¬cW h.cls493 h.n493_fun_names (¬ag)) (¬ae (¬ag) (¬ah)))) (¬ai (¬cV (¬di cA PySem.F.slot_list_append PySem.F.type_list_append (¬cW h.cls493 h.n493_fun_args (¬ag)) (¬ae (¬ca er nofun rfl rfl rfl h.ntuple rfl (¬ae (¬ag) (¬ah))) (¬ah)))) (¬ai (¬cV (¬di cA PySem.F.slot_list_append PySem.F.type_list_append (¬cW h.cls493 h.n493_fun_results (¬ag)) (¬ae (¬ag) (¬ah)))) (¬ai (¬cr (¬dB k9 (¬ca b9 nofun rfl rfl rfl h.nlen rfl (¬ae (¬cW h.cls493 h.n493_fun_names (¬ag)) (¬ah))) (¬aO))) (¬aN))))
noncomputable def jD : List Stmt := ch (nth (cY (eY 23)) 8)
noncomputable def gK : Scope := bG (nth (cY (eY 23)) 8)
noncomputable def ja (L : Addr) : List eE := [.ns L "self", .ns L "name", .ns L "s"]
noncomputable abbrev pj (f : Addr) (cdv : Value) (ent : Heap) (L : Addr) : Cx := Cx.of "Bank.fresh_const" gK f cdv ja ent L
noncomputable def gM (GBank_declare_fun GBank_make : dp) : SC := (aj (bp (bB 493 (fun _ => 0) "make" GBank_make [0, 4, 5, 6, 7, 8] (ac 0) (aa (bh "app") (aa (cD ad) (aa (ac 2) (aa (bB 493 (fun _ => 0) "declare_fun" GBank_declare_fun [0, 1, 2, 3] (ac 0) (aa (ac 1) (aa (cD ad) (aa (ac 2) ad)))) ad)))))) aw)
theorem pk {p : P} (h : Gl p) {f : Addr} {cdv : Value} {ent : Heap} {L : Addr}  {GBank_declare_fun GBank_make : dp} (KBank_declare_fun : ax p 1 336 GBank_declare_fun) (KBank_make : ax p 1 427 GBank_make) : iZ p (pj f cdv ent L) k8 1 jD (gM GBank_declare_fun GBank_make) :=
 ai (¬cr (¬dj h.cls493 h.mBank_make KBank_make (¬ag) (¬ae (¬cm) (¬ae (¬dW (¬ah)) (¬ae (¬ag) (¬ae (¬dj h.cls493 h.mBank_declare_fun KBank_declare_fun (¬ag) (¬ae (¬ag) (¬ae (¬dW (¬ah)) (¬ae (¬ag) (¬ah))))) (¬ah))))))) (¬aN)
noncomputable def wa : List Stmt := ch (nth (cY (eY 23)) 13)
noncomputable def ro : Scope := bG (nth (cY (eY 23)) 13)
noncomputable def uf (L : Addr) : List eE := [.ns L "self", .ns L "t"]
noncomputable abbrev BH (f : Addr) (cdv : Value) (ent : Heap) (L : Addr) : Cx := Cx.of "Bank.op" ro f cdv uf ent L
noncomputable def rq : SC := (aj (bp (aX (fun _ => 1) (bU 493 (fun _ => 0) "term_ops" 6 (ac 0)) (ac 1))) aw)
theorem BI {p : P} (h : Gl p) {f : Addr} {cdv : Value} {ent : Heap} {L : Addr}   : iZ p (BH f cdv ent L) k8 0 wa rq :=
 ai (¬cr (¬bx (¬cW h.cls493 h.n493_term_ops (¬ag)) (¬ag))) (¬aN)
noncomputable def sj : List Stmt := ch (nth (cY (eY 23)) 19)
noncomputable def mR : Scope := bG (nth (cY (eY 23)) 19)
noncomputable def qi (L : Addr) : List eE := [.ns L "self", .ns L "op", .ns L "args", .ns L "sort", .ns L "data", .ns L "key", .ns L "found"]
noncomputable abbrev yN (f : Addr) (cdv : Value) (ent : Heap) (L : Addr) : Cx := Cx.of "Bank.make" mR f cdv qi ent L
noncomputable def mS : SC := (aj (ba (cD (aa (ac 1) (aa (ac 2) (aa (ac 3) (aa (ac 4) ad))))) (aL 5)) (aj (ba (CZ (fun _ => 5) (bU 493 (fun _ => 0) "numbers" 10 (ac 0)) (ac 5) (ao 0)) (aL 6)) (aj (fu (aA fy (ac 6) (ao 0)) (aj (ba (bK (bv (fun _ => 1)) (aa (bU 493 (fun _ => 0) "term_ops" 6 (ac 0)) ad)) (aL 6)) (aj (br (bD (fun _ => 1) (bl (fun _ => 1)) (bU 493 (fun _ => 0) "term_ops" 6 (ac 0)) (aa (ac 1) ad))) (aj (br (bD (fun _ => 2) (bl (fun _ => 2)) (bU 493 (fun _ => 0) "term_args" 7 (ac 0)) (aa (ac 2) ad))) (aj (br (bD (fun _ => 3) (bl (fun _ => 3)) (bU 493 (fun _ => 0) "term_sorts" 8 (ac 0)) (aa (ac 3) ad))) (aj (br (bD (fun _ => 4) (bl (fun _ => 4)) (bU 493 (fun _ => 0) "term_datas" 9 (ac 0)) (aa (ac 4) ad))) (aj (tP (fun _ => 5) (ac 6) (bU 493 (fun _ => 0) "numbers" 10 (ac 0)) (ac 5)) aw)))))) aw) (aj (bp (ac 6)) aw))))
theorem yO {p : P} (h : Gl p) {f : Addr} {cdv : Value} {ent : Heap} {L : Addr}   : iZ p (yN f cdv ent L) k8 0 sj mS :=
 ai (¬cs (¬dW (¬ae (¬ag) (¬ae (¬ag) (¬ae (¬ag) (¬ae (¬ag) (¬ah)))))) (¬bi)) (¬ai (¬cs (¬FP (¬cW h.cls493 h.n493_numbers (¬ag)) (¬ag) (¬aO)) (¬bi)) (¬ai (¬dO (¬bf d6 (¬ag) (¬aO)) (¬ai (¬cs (¬ca b9 nofun rfl rfl rfl h.nlen rfl (¬ae (¬cW h.cls493 h.n493_term_ops (¬ag)) (¬ah))) (¬bi)) (¬ai (¬cV (¬di cA PySem.F.slot_list_append PySem.F.type_list_append (¬cW h.cls493 h.n493_term_ops (¬ag)) (¬ae (¬ag) (¬ah)))) (¬ai (¬cV (¬di cA PySem.F.slot_list_append PySem.F.type_list_append (¬cW h.cls493 h.n493_term_args (¬ag)) (¬ae (¬ag) (¬ah)))) (¬ai (¬cV (¬di cA PySem.F.slot_list_append PySem.F.type_list_append (¬cW h.cls493 h.n493_term_sorts (¬ag)) (¬ae (¬ag) (¬ah)))) (¬ai (¬cV (¬di cA PySem.F.slot_list_append PySem.F.type_list_append (¬cW h.cls493 h.n493_term_datas (¬ag)) (¬ae (¬ag) (¬ah)))) (¬ai (¬Bt (¬ag) (¬cW h.cls493 h.n493_numbers (¬ag)) (¬ag)) (¬aN))))))) (¬aN)) (¬ai (¬cr (¬ag)) (¬aN))))
noncomputable def sk : List Stmt := ch (eY 26)
noncomputable def mT : Scope := bG (eY 26)
noncomputable def qj (L : Addr) : List eE := [.ns L "rest", .ns L "many", .ns L "found"]
noncomputable abbrev yP (f : Addr) (cdv : Value) (ent : Heap) (L : Addr) : Cx := Cx.of "_law_digit" mT f cdv qj ent L
noncomputable def mU : SC := (aj (ba (bC tE (aX (fun _ => 0) (ac 0) (ao 0)) (ac 1)) (aL 2)) (aj (eM (fun _ => 0) (bC tD (aX (fun _ => 0) (ac 0) (ao 0)) (ac 1)) (ac 0) (ao 0)) (aj (bp (ac 2)) aw)))
theorem yQ {p : P} (h : Gl p) {f : Addr} {cdv : Value} {ent : Heap} {L : Addr}   : iZ p (yP f cdv ent L) k8 0 sk mU :=
 ai (¬cs (¬dB wE (¬bx (¬ag) (¬aO)) (¬ag)) (¬bi)) (¬ai (¬mw (¬dB CH (¬bx (¬ag) (¬aO)) (¬ag)) (¬ag) (¬aO)) (¬ai (¬cr (¬ag)) (¬aN)))
noncomputable def oR : List Stmt := ch (eY 27)
noncomputable def kj : Scope := bG (eY 27)
noncomputable def mV (L : Addr) : List eE := [.ns L "rest", .ns L "many", .ns L "side"]
noncomputable abbrev vk (f : Addr) (cdv : Value) (ent : Heap) (L : Addr) : Cx := Cx.of "_law_literal" kj f cdv mV ent L
noncomputable def km (Glaw_digit : dp) : SC := (aj (ba (Be (aA fy (a9 Glaw_digit [0] (aa (ac 0) (aa (ao 2) ad))) (ao 1)) (fJ (ao 1)) (ao 1)) (aL 2)) (aj (bp (bC CF (ac 2) (bC cO (ao 1) (a9 Glaw_digit [0] (aa (ac 0) (aa (ac 1) ad)))))) aw))
theorem vl {p : P} (h : Gl p) {f : Addr} {cdv : Value} {ent : Heap} {L : Addr}  {Glaw_digit : dp} (Klaw_digit : ax p 1 505 Glaw_digit) : iZ p (vk f cdv ent L) k8 1 oR (km Glaw_digit) :=
 ai (¬cs (¬xR (¬bf d6 (¬bI Klaw_digit rfl rfl h.glaw_digit h.klaw_digit (¬ae (¬ag) (¬ae (¬aO) (¬ah)))) (¬aO)) (¬i7 (¬aO)) (¬aO)) (¬bi)) (¬ai (¬cr (¬dB CG (¬ag) (¬dB e9 (¬aO) (¬bI Klaw_digit rfl rfl h.glaw_digit h.klaw_digit (¬ae (¬ag) (¬ae (¬ag) (¬ah))))))) (¬aN))
noncomputable def qk : List Stmt := ch (eY 28)
noncomputable def lB : Scope := bG (eY 28)
noncomputable def oS (L : Addr) : List eE := [.ns L "literals", .ns L "found", .ns L "one"]
noncomputable abbrev xc (f : Addr) (cdv : Value) (ent : Heap) (L : Addr) : Cx := Cx.of "_law_clause" lB f cdv oS ent L
noncomputable def lC : SC := (aj (ba (bg ad) (aL 1)) (aj (dq (bR (fun _ => 0) (ac 0)) (aL 2) (aj (fu (aA (kG (fun _ => 2) false) (fJ (ac 2)) (ac 1)) (aj (bp g6) aw) aw) (aj (fu (aA (kG (fun _ => 2) true) (ac 2) (ac 1)) (aj (br (bD (fun _ => 2) (bl (fun _ => 2)) (ac 1) (aa (ac 2) ad))) aw) aw) aw))) (aj (bp (bK (c6 (fun _ => 3)) (aa (tO (fun _ => 2) (fun _ => 1) 514 ⟨348, 35, 348, 74⟩ AO sb (fun _ => True) (ac 1)) ad))) aw)))
theorem xd {p : P} (h : Gl p) {f : Addr} {ent : Heap} {L : Addr}   : iZ p (xc f (.ref 518) ent L) k8 2 qk lC :=
 ai (¬cs (¬dc (¬ah)) (¬bi)) (¬ai (¬gb XL (¬g7 (¬ag)) (¬cg (¬bi)) (¬ai (¬dO (¬bf CK (¬i7 (¬ag)) (¬ag)) (¬ai (¬cr (¬o6)) (¬aN)) (¬aN)) (¬ai (¬dO (¬bf vT (¬ag) (¬ag)) (¬ai (¬cV (¬di cA PySem.F.slot_list_append PySem.F.type_list_append (¬ag) (¬ae (¬ag) (¬ah)))) (¬aN)) (¬aN)) (¬aN)))) (¬ai (¬cr (¬ca er nofun rfl rfl rfl h.ntuple rfl (¬ae (¬Bs (y := "one") (g := FU) (m := 0) (fb := (bC cO (bC CF (ao 2) (bK qY (aa (ac 0) ad))) (bK mh (aa (eh (oI fun a b => decide (b < a)) (ac 0) (ao 0)) ad)))) (¬ag) FV rfl rfl rfl h.nsorted rfl rfl h.codehd rfl (fun _ _ _ _ => rfl) rfl (fun _ _ _ _ => (¬dB e9 (¬dB CG (¬aO) (¬ca o9 nofun rfl rfl rfl h.nabs rfl (¬ae (¬ag) (¬ah)))) (¬ca pb nofun rfl rfl rfl h.nint rfl (¬ae (¬j4 mu (¬ag) (¬aO)) (¬ah))))) FW rfl) (¬ah)))) (¬aN)))
noncomputable def ug : List Stmt := ch (eY 29)
noncomputable def pn : Scope := bG (eY 29)
noncomputable def sm (L : Addr) : List eE := [.ns L "rest", .ns L "many", .ns L "way", .ns L "pairs", .ns L "lap"]
noncomputable abbrev zW (f : Addr) (cdv : Value) (ent : Heap) (L : Addr) : Cx := Cx.of "_law_note" pn f cdv sm ent L
noncomputable def po (Glaw_digit Glaw_literal : dp) : SC := (aj (ba (a9 Glaw_digit [0] (aa (ac 0) (aa (ao 5) ad))) (aL 2)) (aj (fu (aA fy (ac 2) (ao 0)) (aj (bp g6) aw) aw) (aj (fu (aA fy (ac 2) (ao 1)) (aj (bp (bC jI (a9 Glaw_digit [0] (aa (ac 0) (aa (ao 9) ad))) (ao 4))) aw) aw) (aj (fu (aA fy (ac 2) (ao 2)) (aj (bp (cD (aa (a9 Glaw_digit [0] (aa (ac 0) (aa (ao 9) ad))) (aa (a9 Glaw_digit [0] (aa (ac 0) (aa (ao 5) ad))) ad)))) aw) aw) (aj (fu (aA fy (ac 2) (ao 3)) (aj (ba (bg ad) (aL 3)) (aj (dq (bE (aa (bC cO (ao 1) (a9 Glaw_digit [0] (aa (ac 0) (aa (ao 2) ad)))) ad)) (aL 4) (aj (br (bD (fun _ => 1) (bl (fun _ => 1)) (ac 3) (aa (cD (aa (a9 Glaw_literal [0] (aa (ac 0) (aa (ac 1) ad))) (aa (cD (aa (bC jI (a9 Glaw_digit [0] (aa (ac 0) (aa (ao 9) ad))) (ao 4)) (aa (bC cO (ao 1) (a9 Glaw_digit [0] (aa (ac 0) (aa (ao 3) ad)))) ad))) ad))) ad))) aw)) (aj (bp (bK (c6 (fun _ => 1)) (aa (ac 3) ad))) aw))) aw) (aj (bp (cD (aa (a9 Glaw_digit [0] (aa (ac 0) (aa (ao 9) ad))) (aa (cL (cD (aa (bh "sum") (aa (bh "carry") (aa (bh "cut-off") ad)))) (a9 Glaw_digit [0] (aa (ac 0) (aa (ao 3) ad)))) (aa (cD ad) ad))))) aw))))))
theorem zX {p : P} (h : Gl p) {f : Addr} {cdv : Value} {ent : Heap} {L : Addr}  {Glaw_digit Glaw_literal : dp} (Klaw_digit : ax p 1 505 Glaw_digit) (Klaw_literal : ax p 2 512 Glaw_literal) : iZ p (zW f cdv ent L) k8 2 ug (po Glaw_digit Glaw_literal) :=
 ai (¬cs (¬bI Klaw_digit rfl rfl h.glaw_digit h.klaw_digit (¬ae (¬ag) (¬ae (¬aO) (¬ah)))) (¬bi)) (¬ai (¬dO (¬bf d6 (¬ag) (¬aO)) (¬ai (¬cr (¬o6)) (¬aN)) (¬aN)) (¬ai (¬dO (¬bf d6 (¬ag) (¬aO)) (¬ai (¬cr (¬dB k9 (¬bI Klaw_digit rfl rfl h.glaw_digit h.klaw_digit (¬ae (¬ag) (¬ae (¬aO) (¬ah)))) (¬aO))) (¬aN)) (¬aN)) (¬ai (¬dO (¬bf d6 (¬ag) (¬aO)) (¬ai (¬cr (¬dW (¬ae (¬bI Klaw_digit rfl rfl h.glaw_digit h.klaw_digit (¬ae (¬ag) (¬ae (¬aO) (¬ah)))) (¬ae (¬bI Klaw_digit rfl rfl h.glaw_digit h.klaw_digit (¬ae (¬ag) (¬ae (¬aO) (¬ah)))) (¬ah))))) (¬aN)) (¬aN)) (¬ai (¬dO (¬bf d6 (¬ag) (¬aO)) (¬ai (¬cs (¬dc (¬ah)) (¬bi)) (¬ai (¬gb XL (¬fh rfl rfl rfl h.nrange rfl (¬ae (¬dB e9 (¬aO) (¬bI Klaw_digit rfl rfl h.glaw_digit h.klaw_digit (¬ae (¬ag) (¬ae (¬aO) (¬ah))))) (¬ah))) (¬cg (¬bi)) (¬ai (¬cV (¬di cA PySem.F.slot_list_append PySem.F.type_list_append (¬ag) (¬ae (¬dW (¬ae (¬bI Klaw_literal rfl rfl h.glaw_literal h.klaw_literal (¬ae (¬ag) (¬ae (¬ag) (¬ah)))) (¬ae (¬dW (¬ae (¬dB k9 (¬bI Klaw_digit rfl rfl h.glaw_digit h.klaw_digit (¬ae (¬ag) (¬ae (¬aO) (¬ah)))) (¬aO)) (¬ae (¬dB e9 (¬aO) (¬bI Klaw_digit rfl rfl h.glaw_digit h.klaw_digit (¬ae (¬ag) (¬ae (¬aO) (¬ah))))) (¬ah)))) (¬ah)))) (¬ah)))) (¬aN))) (¬ai (¬cr (¬ca er nofun rfl rfl rfl h.ntuple rfl (¬ae (¬ag) (¬ah)))) (¬aN)))) (¬aN)) (¬ai (¬cr (¬dW (¬ae (¬bI Klaw_digit rfl rfl h.glaw_digit h.klaw_digit (¬ae (¬ag) (¬ae (¬aO) (¬ah)))) (¬ae (¬fc (¬dW (¬ae (¬cm) (¬ae (¬cm) (¬ae (¬cm) (¬ah))))) (¬bI Klaw_digit rfl rfl h.glaw_digit h.klaw_digit (¬ae (¬ag) (¬ae (¬aO) (¬ah))))) (¬ae (¬dW (¬ah)) (¬ah)))))) (¬aN))))))
noncomputable def sq : List Stmt := ch (eY 30)
noncomputable def mW : Scope := bG (eY 30)
noncomputable def ql (L : Addr) : List eE := [.cell (L + 1), .ns L "first", .ns L "begin", .ns L "stand", .ns L "pairs", .ns L "lap", .ns L "place", .cell (L + 2), .cell (L + 3), .ns L "rest"]
noncomputable abbrev yR (f : Addr) (cdv : Value) (ent : Heap) (L : Addr) : Cx := Cx.of "_law_chain" mW f cdv ql ent L
noncomputable def mX (Glaw_clause : dp) : SC := (aj (ba (cD (aa (cL (aX (fun _ => 0) (ac 0) (ac 1)) (ao 1)) (aa (bg ad) ad))) (vN [3, 4])) (aj (dq (bE (aa (ao 2) ad)) (aL 5) (aj (dq (bE (aa (bK (bv (fun _ => 0)) (aa (ac 0) ad)) ad)) (aL 6) (aj (ba (bC tE (bC cO (ac 2) (ac 6)) (bK (bv (fun _ => 0)) (aa (ac 0) ad))) (aL 7)) (aj (ba (bM 1 (dy (ac 3)) (aL 10) (aA (yb false) (fJ (ac 10)) (cL (aX (fun _ => 0) (ac 0) (ac 7)) (ao 1))) (ac 10)) (aL 8)) (aj (fu (ip (aA fy (bK (bv (fun _ => 3)) (aa (ac 8) ad)) (ao 1)) (ip (aA fy (bK (bv (fun _ => 2)) (aa (ac 4) ad)) (ac 5)) (cH true))) (aj (br (bD (fun _ => 2) (bl (fun _ => 2)) (ac 4) (aa (cD (aa (bK qY (aa (aX (fun _ => 3) (ac 8) (ao 0)) ad)) (aa (ac 7) ad))) ad))) (aj (ba (bM 1 (dy (bC cO (ac 3) (cL (aX (fun _ => 0) (ac 0) (ac 7)) (ao 1)))) (aL 10) (aA n8 (bK qY (aa (ac 10) ad)) (bK qY (aa (aX (fun _ => 3) (ac 8) (ao 0)) ad))) (ac 10)) (aL 9)) (aj (ba (a9 Glaw_clause [4, 1] (aa (ac 9) ad)) (aL 3)) aw))) aw) aw)))) aw)) (aj (bp (cD (aa (ac 4) (aa (ac 3) ad)))) aw)))
theorem yS {p : P} (h : Gl p) {f : Addr} {cdv : Value} {ent : Heap} {L : Addr}  {Glaw_clause : dp} (Klaw_clause : ax p 3 519 Glaw_clause) : iZ p (yR f cdv ent L) k8 3 sq (mX Glaw_clause) :=
 ai (¬Cv (xs := ["stand", "pairs"]) (¬dW (¬ae (¬fc (¬bx (¬cC) (¬ag)) (¬aO)) (¬ae (¬dc (¬ah)) (¬ah)))) rfl (tX ⟨rfl, rfl⟩ ⟨rfl, rfl⟩)) (¬ai (¬gb XL (¬fh rfl rfl rfl h.nrange rfl (¬ae (¬aO) (¬ah))) (¬cg (¬bi)) (¬ai (¬gb XL (¬fh rfl rfl rfl h.nrange rfl (¬ae (¬ca b9 nofun rfl rfl rfl h.nlen rfl (¬ae (¬cC) (¬ah))) (¬ah))) (¬cg (¬bi)) (¬ai (¬cs (¬dB wE (¬dB e9 (¬ag) (¬ag)) (¬ca b9 nofun rfl rfl rfl h.nlen rfl (¬ae (¬cC) (¬ah)))) (¬vL ⟨Or.inl rfl, rfl, rfl⟩ rfl)) (¬ai (¬cs (¬fM (x0 := "one") (xs := []) (by rfl) (by decide) (¬kF (¬ag)) (fun C => (¬cg (¬bi))) (fun C => (¬pH (¬bf yc (¬i7 (¬ag)) (¬fc (¬bx (¬cC) (¬cC)) (¬aO))))) (fun C => (¬ag))) (¬vL ⟨Or.inl rfl, rfl, rfl⟩ rfl)) (¬ai (¬dO (¬gk (¬fA (¬bf d6 (¬ca b9 nofun rfl rfl rfl h.nlen rfl (¬ae (¬cC) (¬ah))) (¬aO)) (¬fA (¬bf d6 (¬ca b9 nofun rfl rfl rfl h.nlen rfl (¬ae (¬ag) (¬ah))) (¬ag)) (¬fW)))) (¬ai (¬cV (¬di cA PySem.F.slot_list_append PySem.F.type_list_append (¬ag) (¬ae (¬dW (¬ae (¬ca o9 nofun rfl rfl rfl h.nabs rfl (¬ae (¬bx (¬cC) (¬aO)) (¬ah))) (¬ae (¬cC) (¬ah)))) (¬ah)))) (¬ai (¬nO (x0 := "one") (xs := []) (by rfl) (by decide) (¬kF (¬dB e9 (¬ag) (¬fc (¬bx (¬cC) (¬cC)) (¬aO)))) (fun C => (¬cg (¬bi))) (fun C => (¬pH (¬bf g8 (¬ca o9 nofun rfl rfl rfl h.nabs rfl (¬ae (¬ag) (¬ah))) (¬ca o9 nofun rfl rfl rfl h.nabs rfl (¬ae (¬bx (¬cC) (¬aO)) (¬ah)))))) (fun C => (¬ag)) (¬bi)) (¬ai (¬cs (¬bI Klaw_clause rfl rfl h.glaw_clause h.klaw_clause (¬ae (¬ag) (¬ah))) (¬bi)) (¬aN)))) (¬aN)) (¬aN))))) (¬aN))) (¬ai (¬cr (¬dW (¬ae (¬ag) (¬ae (¬ag) (¬ah))))) (¬aN)))
noncomputable def wb : List Stmt := ch (eY 31)
noncomputable def rt : Scope := bG (eY 31)
noncomputable def uh (L : Addr) : List eE := [.ns L "proof", .ns L "rows", .cell (L + 1), .ns L "number", .cell (L + 2), .ns L "kind", .ns L "rule", .ns L "clause", .ns L "row", .ns L "first", .ns L "begin", .ns L "pairs", .ns L "stand", .ns L "told", .ns L "premises"]
noncomputable abbrev BJ (f : Addr) (cdv : Value) (ent : Heap) (L : Addr) : Cx := Cx.of "_law_put" rt f cdv uh ent L
noncomputable def rx (GSteps_add GSteps_chain Glaw_chain Glaw_clause Glaw_digit Glaw_literal Glaw_note : dp) : SC := (aj (ba (bg (aa (ac 3) ad)) (aL 4)) (aj (ba (a9 Glaw_digit [5] (aa (ac 4) (aa (ao 4) ad))) (aL 5)) (aj (fu (aA fy (ac 5) (ao 1)) (aj (ba (cL (dt nW) (a9 Glaw_digit [5] (aa (ac 4) (aa (ao 9) ad)))) (aL 6)) (aj (ba (a9 Glaw_clause [6, 4] (aa (bM 1 (bE (aa (bC cO (ao 1) (a9 Glaw_digit [5] (aa (ac 4) (aa (ao 3) ad)))) ad)) (aL 15) (cH true) (a9 Glaw_literal [5] (aa (ac 4) (aa (ac 2) ad)))) ad)) (aL 7)) (aj (fu (aA Cl (ac 7) g6) (aj (bp (fF true)) aw) aw) (aj (ba (cD (aa (ac 6) (aa (ac 7) (aa (cD ad) (aa (a9 Glaw_note [5] (aa (ac 4) (aa (ac 2) ad))) ad))))) (aL 8)) aw)))) (aj (fu (qR (aA fy (ac 5) (ao 0)) (qR (aA (lg false (fun _ => 3) (fun _ => 6)) (ac 1) (bg ad)) (cH false))) (aj (ba (cD (aa (bh "input") (aa (cD (aa (a9 Glaw_literal [5] (aa (ac 4) (aa (ac 2) ad))) ad)) (aa (cD ad) (aa (a9 Glaw_digit [5] (aa (ac 4) (aa (ao 7) ad))) ad))))) (aL 8)) aw) (aj (ba (cD (aa (a9 Glaw_digit [5] (aa (ac 4) (aa (bK (bv (fun _ => 3)) (aa (ac 1) ad)) ad))) (aa (a9 Glaw_digit [5] (aa (ac 4) (aa (bK (bv (fun _ => 3)) (aa (ac 1) ad)) ad))) ad))) (vN [9, 10])) (aj (ba (a9 Glaw_chain [3, 4] (aa (ac 1) (aa (ac 9) (aa (ac 10) ad)))) (gF [11, 12])) (aj (ba (bB 230 (fun _ => 0) "chain" GSteps_chain [0, 1, 2, 7] (ac 0) (aa (ac 9) (aa (ac 11) ad))) (aL 13)) (aj (fu (aA (lg false (fun _ => 7) (fun _ => 8)) (ac 11) (bg ad)) (aj (bp (eh fy (ac 13) (ac 9))) aw) aw) (aj (ba (bC cO (cD (aa (ac 9) ad)) (bK (c6 (fun _ => 9)) (aa (bM 2 (bR (fun _ => 7) (ac 11)) (gF [15, 16]) (cH true) (ac 16)) ad))) (aL 14)) (aj (br (bD (fun _ => 3) (bl (fun _ => 3)) (ac 1) (aa (cD (aa (bh "resolve") (aa (ac 12) (aa (ac 14) (aa (bK (c6 (fun _ => 10)) (aa (bM 2 (bR (fun _ => 7) (ac 11)) (gF [15, 16]) (cH true) (ac 15)) ad)) ad))))) ad))) (aj (bp (eh fy (ac 13) (bC jI (bK (bv (fun _ => 3)) (aa (ac 1) ad)) (ao 1)))) aw)))))))) aw)) (aj (br (bD (fun _ => 3) (bl (fun _ => 3)) (ac 1) (aa (ac 8) ad))) (aj (bp (eh fy (bB 230 (fun _ => 0) "add" GSteps_add [0, 1, 2] (ac 0) (aa (cL (ac 8) (ao 0)) (aa (cL (ac 8) (ao 1)) (aa (cL (ac 8) (ao 2)) (aa (cL (ac 8) (ao 3)) ad))))) (bC jI (bK (bv (fun _ => 3)) (aa (ac 1) ad)) (ao 1)))) aw)))))
theorem BK {p : P} (h : Gl p) {f : Addr} {cdv : Value} {ent : Heap} {L : Addr}  {GSteps_add GSteps_chain Glaw_chain Glaw_clause Glaw_digit Glaw_literal Glaw_note : dp} (KSteps_add : ax p 2 168 GSteps_add) (KSteps_chain : ax p 5 173 GSteps_chain) (Klaw_chain : ax p 4 531 Glaw_chain) (Klaw_clause : ax p 3 519 Glaw_clause) (Klaw_digit : ax p 1 505 Glaw_digit) (Klaw_literal : ax p 2 512 Glaw_literal) (Klaw_note : ax p 3 526 Glaw_note) : iZ p (BJ f cdv ent L) k8 5 wb (rx GSteps_add GSteps_chain Glaw_chain Glaw_clause Glaw_digit Glaw_literal Glaw_note) :=
 ai (¬cs (¬dc (¬ae (¬ag) (¬ah))) (¬vL ⟨Or.inl rfl, rfl, rfl⟩ rfl)) (¬ai (¬cs (¬bI Klaw_digit rfl rfl h.glaw_digit h.klaw_digit (¬ae (¬cC) (¬ae (¬aO) (¬ah)))) (¬bi)) (¬ai (¬dO (¬bf d6 (¬ag) (¬aO)) (¬ai (¬cs (¬fc (¬s5 rfl rfl h.glaw_rules h.rlaw_rules) (¬bI Klaw_digit rfl rfl h.glaw_digit h.klaw_digit (¬ae (¬cC) (¬ae (¬aO) (¬ah))))) (¬bi)) (¬ai (¬cs (¬bI Klaw_clause rfl rfl h.glaw_clause h.klaw_clause (¬ae (¬fM (x0 := "lap") (xs := []) (by rfl) (by decide) (¬fh rfl rfl rfl h.nrange rfl (¬ae (¬dB e9 (¬aO) (¬bI Klaw_digit rfl rfl h.glaw_digit h.klaw_digit (¬ae (¬cC) (¬ae (¬aO) (¬ah))))) (¬ah))) (fun C => (¬cg (¬bi))) (fun C => (¬lR)) (fun C => (¬bI Klaw_literal rfl rfl h.glaw_literal h.klaw_literal (¬ae (¬cC) (¬ae (¬cC) (¬ah)))))) (¬ah))) (¬bi)) (¬ai (¬dO (¬bf CJ (¬ag) (¬o6)) (¬ai (¬cr (¬jp)) (¬aN)) (¬aN)) (¬ai (¬cs (¬dW (¬ae (¬ag) (¬ae (¬ag) (¬ae (¬dW (¬ah)) (¬ae (¬bI Klaw_note rfl rfl h.glaw_note h.klaw_note (¬ae (¬cC) (¬ae (¬cC) (¬ah)))) (¬ah)))))) (¬bi)) (¬aN))))) (¬ai (¬dO (¬gk (¬iO (¬bf d6 (¬ag) (¬aO)) (¬iO (¬bf tF (¬ag) (¬dc (¬ah))) (¬jq)))) (¬ai (¬cs (¬dW (¬ae (¬cm) (¬ae (¬dW (¬ae (¬bI Klaw_literal rfl rfl h.glaw_literal h.klaw_literal (¬ae (¬cC) (¬ae (¬cC) (¬ah)))) (¬ah))) (¬ae (¬dW (¬ah)) (¬ae (¬bI Klaw_digit rfl rfl h.glaw_digit h.klaw_digit (¬ae (¬cC) (¬ae (¬aO) (¬ah)))) (¬ah)))))) (¬bi)) (¬aN)) (¬ai (¬Cv (xs := ["first", "begin"]) (¬dW (¬ae (¬bI Klaw_digit rfl rfl h.glaw_digit h.klaw_digit (¬ae (¬cC) (¬ae (¬ca b9 nofun rfl rfl rfl h.nlen rfl (¬ae (¬ag) (¬ah))) (¬ah)))) (¬ae (¬bI Klaw_digit rfl rfl h.glaw_digit h.klaw_digit (¬ae (¬cC) (¬ae (¬ca b9 nofun rfl rfl rfl h.nlen rfl (¬ae (¬ag) (¬ah))) (¬ah)))) (¬ah)))) rfl (tX ⟨rfl, rfl⟩ ⟨rfl, rfl⟩)) (¬ai (¬tx (¬bI Klaw_chain rfl rfl h.glaw_chain h.klaw_chain (¬ae (¬ag) (¬ae (¬ag) (¬ae (¬ag) (¬ah))))) (¬lQ (¬cU (¬(Or.inl ⟨rfl, rfl⟩)) (¬cU (¬(Or.inl ⟨rfl, rfl⟩)) (¬lP))))) (¬ai (¬cs (¬dj h.cls230 h.mSteps_chain KSteps_chain (¬ag) (¬ae (¬ag) (¬ae (¬ag) (¬ah)))) (¬bi)) (¬ai (¬dO (¬bf tF (¬ag) (¬dc (¬ah))) (¬ai (¬cr (¬j4 d6 (¬ag) (¬ag))) (¬aN)) (¬aN)) (¬ai (¬cs (¬dB e9 (¬dW (¬ae (¬ag) (¬ah))) (¬ca er nofun rfl rfl rfl h.ntuple rfl (¬ae (¬fM (x0 := "variable") (xs := ["other"]) (by rfl) (by decide) (¬g7 (¬ag)) (fun C => (¬lQ (¬cU (¬(Or.inl ⟨rfl, rfl⟩)) (¬cU (¬(Or.inl ⟨rfl, rfl⟩)) (¬lP))))) (fun C => (¬lR)) (fun C => (¬ag))) (¬ah)))) (¬bi)) (¬ai (¬cV (¬di cA PySem.F.slot_list_append PySem.F.type_list_append (¬ag) (¬ae (¬dW (¬ae (¬cm) (¬ae (¬ag) (¬ae (¬ag) (¬ae (¬ca er nofun rfl rfl rfl h.ntuple rfl (¬ae (¬fM (x0 := "variable") (xs := ["other"]) (by rfl) (by decide) (¬g7 (¬ag)) (fun C => (¬lQ (¬cU (¬(Or.inl ⟨rfl, rfl⟩)) (¬cU (¬(Or.inl ⟨rfl, rfl⟩)) (¬lP))))) (fun C => (¬lR)) (fun C => (¬ag))) (¬ah))) (¬ah)))))) (¬ah)))) (¬ai (¬cr (¬j4 d6 (¬ag) (¬dB k9 (¬ca b9 nofun rfl rfl rfl h.nlen rfl (¬ae (¬ag) (¬ah))) (¬aO)))) (¬aN))))))))) (¬aN))) (¬ai (¬cV (¬di cA PySem.F.slot_list_append PySem.F.type_list_append (¬ag) (¬ae (¬ag) (¬ah)))) (¬ai (¬cr (¬j4 d6 (¬dj h.cls230 h.mSteps_add KSteps_add (¬ag) (¬ae (¬fc (¬ag) (¬aO)) (¬ae (¬fc (¬ag) (¬aO)) (¬ae (¬fc (¬ag) (¬aO)) (¬ae (¬fc (¬ag) (¬aO)) (¬ah)))))) (¬dB k9 (¬ca b9 nofun rfl rfl rfl h.nlen rfl (¬ae (¬ag) (¬ah))) (¬aO)))) (¬aN)))))
noncomputable def oU : List Stmt := ch (eY 32)
noncomputable def kn : Scope := bG (eY 32)
noncomputable def mY (L : Addr) : List eE := [.ns L "rows", .ns L "last", .cell (L + 1), .ns L "number"]
noncomputable abbrev vm (f : Addr) (cdv : Value) (ent : Heap) (L : Addr) : Cx := Cx.of "_law_rest_on" kn f cdv mY ent L
noncomputable def ko : SC := (aj (ba (bg (aa (ac 1) ad)) (aL 2)) (aj (dq (bE (aa (ac 1) (aa (fJ (ao 1)) (aa (fJ (ao 1)) ad)))) (aL 3) (aj (fu (aA (kG (fun _ => 1) false) (ac 3) (ac 2)) (aj (br (bD (fun _ => 1) (lh (fun _ => 1) (fun _ => 2)) (ac 2) (aa (bM 1 (dy (cL (aX (fun _ => 0) (ac 0) (ac 3)) (ao 2))) (aL 4) (aA (kG (fun _ => 1) true) (ac 4) (ac 2)) (ac 4)) ad))) aw) aw) aw)) (aj (bp (bK (li (fun _ => 1)) (aa (ac 2) ad))) aw)))
theorem vn {p : P} (h : Gl p) {f : Addr} {cdv : Value} {ent : Heap} {L : Addr}   : iZ p (vm f cdv ent L) k8 0 oU ko :=
 ai (¬cs (¬dc (¬ae (¬ag) (¬ah))) (¬vL ⟨Or.inl rfl, rfl, rfl⟩ rfl)) (¬ai (¬gb XL (¬fh rfl rfl rfl h.nrange rfl (¬ae (¬ag) (¬ae (¬i7 (¬aO)) (¬ae (¬i7 (¬aO)) (¬ah))))) (¬cg (¬bi)) (¬ai (¬dO (¬bf CK (¬ag) (¬cC)) (¬ai (¬cV (¬di q8 PySem.F.slot_list_extend PySem.F.type_list_extend (¬cC) (¬ae (¬fM (x0 := "one") (xs := []) (by rfl) (by decide) (¬kF (¬fc (¬bx (¬ag) (¬ag)) (¬aO))) (fun C => (¬cg (¬bi))) (fun C => (¬pH (¬bf vT (¬ag) (¬cC)))) (fun C => (¬ag))) (¬ah)))) (¬aN)) (¬aN)) (¬aN))) (¬ai (¬cr (¬ca rd nofun rfl rfl rfl h.nsorted rfl (¬ae (¬cC) (¬ah)))) (¬aN)))
noncomputable def kK : List Stmt := ch (eY 33)
noncomputable def iz : Scope := bG (eY 33)
noncomputable def jT (L : Addr) : List eE := [.ns L "proof", .cell (L + 1), .ns L "last", .cell (L + 2), .ns L "due", .ns L "number", .ns L "rule", .ns L "clause", .ns L "premises", .ns L "note", .ns L "inputs"]
noncomputable abbrev ry (f : Addr) (cdv : Value) (ent : Heap) (L : Addr) : Cx := Cx.of "_law_is_trimmed" iz f cdv jT ent L
noncomputable def iA (GProof_trimmed GProof_used_inputs Glaw_rest_on : dp) : SC := (aj (ba (bC jI (bK (bv (fun _ => 3)) (aa (ac 1) ad)) (ao 1)) (aL 2)) (aj (ba (cD (aa (a9 Glaw_rest_on [3] (aa (ac 1) (aa (ac 2) ad))) (aa (bg ad) ad))) (gF [3, 4])) (aj (dq (bR (fun _ => 4) (ac 3)) (aL 5) (aj (ba (aX (fun _ => 3) (ac 1) (ac 5)) (gF [6, 7, 8, 9])) (aj (br (bD (fun _ => 5) (bl (fun _ => 5)) (ac 4) (aa (cD (aa (ac 6) (aa (ac 7) (aa (bK (c6 (fun _ => 6)) (aa (bM 1 (dy (ac 8)) (aL 11) (cH true) (bD (fun _ => 4) (zF (fun _ => 4)) (ac 3) (aa (ac 11) ad))) ad)) (aa (ac 9) ad))))) ad))) aw))) (aj (ba (pe (fun _ => 6) (bM 1 (bR (fun _ => 4) (ac 3)) (aL 11) (aA fy (cL (aX (fun _ => 3) (ac 1) (ac 11)) (ao 0)) (bh "input")) (cL (aX (fun _ => 3) (ac 1) (ac 11)) (ao 3)))) (aL 10)) (aj (bp (u7 (eh fy (bK (jM (fun _ => 9)) (aa (bU 230 (fun _ => 8) "steps" 0 (bB 230 (fun _ => 0) "trimmed" GProof_trimmed [0, 1, 2] (ac 0) (aa (ac 2) ad))) ad)) (bK (jM (fun _ => 5)) (aa (ac 4) ad))) (eh (lg false (fun _ => 11) (fun _ => 7)) (bB 230 (fun _ => 0) "used_inputs" GProof_used_inputs [0, 1, 2] (ac 0) (aa (ac 2) ad)) (ac 10)))) aw)))))
theorem rz {p : P} (h : Gl p) {f : Addr} {cdv : Value} {ent : Heap} {L : Addr}  {GProof_trimmed GProof_used_inputs Glaw_rest_on : dp} (KProof_trimmed : ax p 4 199 GProof_trimmed) (KProof_used_inputs : ax p 2 213 GProof_used_inputs) (Klaw_rest_on : ax p 1 541 Glaw_rest_on) : iZ p (ry f cdv ent L) k8 8 kK (iA GProof_trimmed GProof_used_inputs Glaw_rest_on) :=
 ai (¬cs (¬dB k9 (¬ca b9 nofun rfl rfl rfl h.nlen rfl (¬ae (¬cC) (¬ah))) (¬aO)) (¬bi)) (¬ai (¬tx (¬dW (¬ae (¬bI Klaw_rest_on rfl rfl h.glaw_rest_on h.klaw_rest_on (¬ae (¬cC) (¬ae (¬ag) (¬ah)))) (¬ae (¬dc (¬ah)) (¬ah)))) (¬lQ (¬cU (¬(Or.inr ⟨_, ⟨Or.inl rfl, rfl, rfl⟩, rfl⟩)) (¬cU (¬(Or.inl ⟨rfl, rfl⟩)) (¬lP))))) (¬ai (¬gb XL (¬g7 (¬cC)) (¬cg (¬bi)) (¬ai (¬tx (¬bx (¬cC) (¬ag)) (¬lQ (¬cU (¬(Or.inl ⟨rfl, rfl⟩)) (¬cU (¬(Or.inl ⟨rfl, rfl⟩)) (¬cU (¬(Or.inl ⟨rfl, rfl⟩)) (¬cU (¬(Or.inl ⟨rfl, rfl⟩)) (¬lP))))))) (¬ai (¬cV (¬di cA PySem.F.slot_list_append PySem.F.type_list_append (¬ag) (¬ae (¬dW (¬ae (¬ag) (¬ae (¬ag) (¬ae (¬ca er nofun rfl rfl rfl h.ntuple rfl (¬ae (¬fM (x0 := "one") (xs := []) (by rfl) (by decide) (¬kF (¬ag)) (fun C => (¬cg (¬bi))) (fun C => (¬lR)) (fun C => (¬di CQ PySem.F.slot_list_index PySem.F.type_list_index (¬cC) (¬ae (¬ag) (¬ah))))) (¬ah))) (¬ae (¬ag) (¬ah)))))) (¬ah)))) (¬aN)))) (¬ai (¬cs (¬yB (¬fM (x0 := "number") (xs := []) (by rfl) (by decide) (¬g7 (¬cC)) (fun C => (¬cg (¬bi))) (fun C => (¬pH (¬bf d6 (¬fc (¬bx (¬cC) (¬ag)) (¬aO)) (¬cm)))) (fun C => (¬fc (¬bx (¬cC) (¬ag)) (¬aO)))) rfl rfl rfl rfl h.nsorted h.nset) (¬bi)) (¬ai (¬cr (¬E4 (¬j4 d6 (¬ca nQ nofun rfl rfl rfl h.nrepr rfl (¬ae (¬cW h.cls230 h.n230_steps (¬dj h.cls230 h.mProof_trimmed KProof_trimmed (¬ag) (¬ae (¬ag) (¬ah)))) (¬ah))) (¬ca nQ nofun rfl rfl rfl h.nrepr rfl (¬ae (¬ag) (¬ah)))) (¬j4 tF (¬dj h.cls230 h.mProof_used_inputs KProof_used_inputs (¬ag) (¬ae (¬ag) (¬ah))) (¬ag)))) (¬aN)))))
noncomputable def kL : List Stmt := ch (eY 34)
noncomputable def fZ : Scope := bG (eY 34)
noncomputable def hZ (L : Addr) : List eE := [.ns L "lines"]
noncomputable def qo : Stmt := EI kL
noncomputable abbrev kM (f : Addr) (cdv : Value) (l : List Env) (ent : Heap) (L : Addr) : Cx := Cx.ofF "_law_is_refused" fZ f cdv hZ l ent L
noncomputable def iB (GXread_proof : List D → List (Addr × O) → Prop) : SC := rh GXread_proof [] (aa (bq (mx (fun _ => 0)) (bh "\n") (aa (ac 0) ad)) ad)
theorem rA {p : P} (h : Gl p) {f : Addr} {cdv : Value} {l : List Env} {ent : Heap} {L : Addr} (hst : pC ent l) {GXread_proof : List D → List (Addr × O) → Prop} (KXread_proof : vW p 11 280 76 GXread_proof) : Ex p (kM f cdv l ent L) (XT 76 (envOfC "_law_is_refused" fZ L f cdv :: l)) 11 qo (iB GXread_proof) := by
 have Fr : sy (kM f cdv l ent L) l L := ⟨fun _ z => z, rfl, (by intro z; cases z), ⟨"lines", by simp [Cx.ofF, hZ]⟩, hst⟩
 exact AI KXread_proof Fr rfl rfl h.gread_proof h.kread_proof (¬ae (¬@ee _ _ _ _ _ _ _ _ _ _ _ _ _ s7 PySem.F.slot_str_join PySem.F.type_str_join (¬cm) (¬ae (¬ag) (¬ah)) (by intro _; rfl) (by rfl)) (¬ah))
noncomputable def E6 : List Stmt := ch (eY 35)
noncomputable def yT : Scope := bG (eY 35)
noncomputable def rB (L : Addr) : List eE := [.ns L "script", .ns L "drawn", .ns L "opening", .ns L "many", .cell (L + 1), .ns L "proof", .ns L "rows", .ns L "named", .ns L "place", .ns L "number", .ns L "text", .cell (L + 2), .ns L "lines"]
noncomputable abbrev yU (f : Addr) (cdv : Value) (ent : Heap) (L : Addr) : Cx := Cx.ofF "law" yT f cdv rB [] ent L
noncomputable def Ds (a0 : Addr) (ns0 : List Int) (GBank_fresh_const GBank_init GSteps_init GSteps_name GSteps_names GSteps_var_count Glaw_is_trimmed Glaw_put Gproof_text Gread_proof : dp) (GR : List D → List (Addr × O) → Prop) : SC := (aj (ba (td a0 ns0 (ac 0) (ao 14)) (aL 1)) (aj (ba (Be (aA (oI fun a b => decide (b < a)) (bK (bv (fun _ => 1)) (aa (ac 1) ad)) (ao 0)) (aX (fun _ => 1) (ac 1) (ao 0)) (ao 3)) (aL 2)) (aj (ba (cD (aa (bC cO (ao 2) (bC tE (ac 2) (ao 4))) (aa (sx 493 GBank_init ad) (aa (sx 230 GSteps_init ad) (aa (bg ad) ad))))) (gF [3, 4, 5, 6])) (aj (ba (bM 1 (bE (aa (ao 1) (aa (bC cO (ac 3) (ao 1)) ad))) (aL 13) (cH true) (bB 493 (fun _ => 2) "fresh_const" GBank_fresh_const [2, 5, 6, 7, 8, 9, 10, 11, 12] (ac 4) (aa (bC cO (bh "p") (bK qZ (aa (ac 13) ad))) (aa (dt (.int 0)) ad)))) (aL 7)) (aj (dq (bE (aa (ac 3) ad)) (aL 8) (aj (br (bB 230 (fun _ => 13) "name" GSteps_name [13, 14, 15] (ac 5) (aa (bC cO (ac 8) (ao 1)) (aa (aX (fun _ => 17) (ac 7) (ac 8)) ad)))) aw)) (aj (dq (bR (fun _ => 18) (Be (aA (oI fun a b => decide (b < a)) (bK (bv (fun _ => 1)) (aa (ac 1) ad)) (ao 1)) (iQ (fun _ => 1) (ac 1) (ao 1)) (bg (aa (ao 0) (aa (ao 3241) (aa (ao 4) (aa (ao 2) (aa (ao 6) (aa (ao 97) ad))))))))) (aL 9) (aj (fu (i0 (gw (a9 Glaw_put [13, 14, 15, 16, 0] (aa (ac 5) (aa (ac 6) (aa (ac 3) (aa (ac 9) ad))))))) (aj (bp (fF false)) aw) aw) aw)) (aj (ba (a9 Gproof_text [2, 8, 13, 14, 15] (aa (ac 4) (aa (ac 5) ad))) (aL 10)) (aj (ba (a9 Gread_proof [] (aa (ac 10) ad)) (aL 11)) (aj (fu (qR (aA n8 (bK (jM (fun _ => 14)) (aa (bU 230 (fun _ => 13) "steps" 0 (ac 5)) ad)) (bK (jM (fun _ => 16)) (aa (ac 6) ad))) (qR (aA n8 (bK (jM (fun _ => 20)) (aa (bU 230 (fun _ => 19) "steps" 0 (ac 11)) ad)) (bK (jM (fun _ => 16)) (aa (ac 6) ad))) (qR (aA n8 (bB 230 (fun _ => 19) "var_count" GSteps_var_count [19, 20, 21] (ac 11) ad) (ac 3)) (cH false)))) (aj (bp (fF false)) aw) aw) (aj (fu (aA (lg true (fun _ => 22) (fun _ => 17)) (bM 1 (bE (aa (ao 1) (aa (bC cO (ac 3) (ao 1)) ad))) (aL 13) (cH true) (bB 230 (fun _ => 19) "names" GSteps_names [19, 20, 21] (ac 11) (aa (ac 13) ad))) (ac 7)) (aj (bp (fF false)) aw) aw) (aj (ba (bq bP (ac 10) (aa (bh "\n") ad)) (aL 12)) (aj (dK GR (aa (iS (fun _ => 23) (fun _ => 24) (ac 12) (bg (aa (bh "stop") ad))) ad)) (aj (fu (aA (oI fun a b => decide (b < a)) (bK (bv (fun _ => 16)) (aa (ac 6) ad)) (ao 1)) (aj (ba (bC cO (ac 3) (bC tE (bC tD (ac 2) (ao 4)) (bC jI (bK (bv (fun _ => 16)) (aa (ac 6) ad)) (ao 1)))) (aL 8)) (aj (dK GR (aa (iS (fun _ => 25) (fun _ => 26) (jL (fun _ => 23) (ac 12) (ac 8)) (iQ (fun _ => 23) (ac 12) (bC cO (ac 8) (ao 1)))) ad)) aw)) aw) (aj (bp (GY (eh (lg false (fun _ => 16) (fun σ => σ.st.length - 1)) (ac 6) (bg ad)) (a9 Glaw_is_trimmed [13, 14, 15, 16] (aa (ac 5) (aa (ac 6) ad))))) aw))))))))))))))
theorem GI {p : P} (h : Gl p) {f : Addr} {cdv : Value} {ent : Heap} {L : Addr} {a0 : Addr} {ws : List Value} {ns0 : List Int} (hD : ent.IsList a0 ws.toArray) (hI : IntsAre ws ns0) {GBank_fresh_const GBank_init GSteps_init GSteps_name GSteps_names GSteps_var_count Glaw_is_trimmed Glaw_put Gproof_text Gread_proof : dp} {GR : List D → List (Addr × O) → Prop} (KBank_fresh_const : ax p 2 350 GBank_fresh_const) (KBank_init : ax p 2 294 GBank_init) (KSteps_init : ax p 1 119 GSteps_init) (KSteps_name : ax p 1 126 GSteps_name) (KSteps_names : ax p 1 133 GSteps_names) (KSteps_var_count : ax p 1 140 GSteps_var_count) (Klaw_is_trimmed : ax p 9 546 Glaw_is_trimmed) (Klaw_put : ax p 6 536 Glaw_put) (Kproof_text : ax p 21 249 Gproof_text) (Kread_proof : ax p 4 280 Gread_proof) (KR : EB p 12 553 GR) : iZ p (yU f cdv ent L) k8 22 E6 (Ds a0 ns0 GBank_fresh_const GBank_init GSteps_init GSteps_name GSteps_names GSteps_var_count Glaw_is_trimmed Glaw_put Gproof_text Gread_proof GR) := by
 have Fr : sy (yU f cdv ent L) [] L := ⟨fun _ z => z, rfl, (by intro z; cases z), ⟨"script", by simp [Cx.ofF, rB]⟩, fun _ z => nomatch z⟩
 exact ai (¬cs (¬Dr hD hI (¬ag) (¬aO)) (¬bi)) (¬ai (¬cs (¬xR (¬bf mu (¬ca b9 nofun rfl rfl rfl h.nlen rfl (¬ae (¬ag) (¬ah))) (¬aO)) (¬bx (¬ag) (¬aO)) (¬aO)) (¬bi)) (¬ai (¬tx (¬dW (¬ae (¬dB e9 (¬aO) (¬dB wE (¬ag) (¬aO))) (¬ae (¬xX KBank_init rfl rfl h.gBank h.kBank h.mkBank h.inBank h.tyBank (¬ah)) (¬ae (¬xX KSteps_init rfl rfl h.gProof h.kProof h.mkProof h.inProof h.tyProof (¬ah)) (¬ae (¬dc (¬ah)) (¬ah)))))) (¬lQ (¬cU (¬(Or.inl ⟨rfl, rfl⟩)) (¬cU (¬(Or.inr ⟨_, ⟨Or.inl rfl, rfl, rfl⟩, rfl⟩)) (¬cU (¬(Or.inl ⟨rfl, rfl⟩)) (¬cU (¬(Or.inl ⟨rfl, rfl⟩)) (¬lP))))))) (¬ai (¬nO (x0 := "var") (xs := []) (by rfl) (by decide) (¬fh rfl rfl rfl h.nrange rfl (¬ae (¬aO) (¬ae (¬dB e9 (¬ag) (¬aO)) (¬ah)))) (fun C => (¬cg (¬bi))) (fun C => (¬lR)) (fun C => (¬dj h.cls493 h.mBank_fresh_const KBank_fresh_const (¬cC) (¬ae (¬dB e9 (¬cm) (¬ca tH nofun rfl rfl rfl h.nstr rfl (¬ae (¬ag) (¬ah)))) (¬ae (¬wO rfl rfl h.gBOOL) (¬ah))))) (¬bi)) (¬ai (¬gb XL (¬fh rfl rfl rfl h.nrange rfl (¬ae (¬ag) (¬ah))) (¬cg (¬bi)) (¬ai (¬cV (¬dj h.cls230 h.mSteps_name KSteps_name (¬ag) (¬ae (¬dB e9 (¬ag) (¬aO)) (¬ae (¬bx (¬ag) (¬ag)) (¬ah))))) (¬aN))) (¬ai (¬gb XL (¬g7 (¬xR (¬bf mu (¬ca b9 nofun rfl rfl rfl h.nlen rfl (¬ae (¬ag) (¬ah))) (¬aO)) (¬CP (¬ag) (¬aO)) (¬dc (¬ae (¬aO) (¬ae (¬aO) (¬ae (¬aO) (¬ae (¬aO) (¬ae (¬aO) (¬ae (¬aO) (¬ah)))))))))) (¬cg (¬bi)) (¬ai (¬dO (¬pG (¬oz (¬bI Klaw_put rfl rfl h.glaw_put h.klaw_put (¬ae (¬ag) (¬ae (¬ag) (¬ae (¬ag) (¬ae (¬ag) (¬ah)))))))) (¬ai (¬cr (¬jp)) (¬aN)) (¬aN)) (¬aN))) (¬ai (¬cs (¬bI Kproof_text rfl rfl h.gproof_text h.kproof_text (¬ae (¬cC) (¬ae (¬ag) (¬ah)))) (¬bi)) (¬ai (¬cs (¬bI Kread_proof rfl rfl h.gread_proof h.kread_proof (¬ae (¬ag) (¬ah))) (¬vL ⟨Or.inl rfl, rfl, rfl⟩ rfl)) (¬ai (¬dO (¬gk (¬iO (¬bf g8 (¬ca nQ nofun rfl rfl rfl h.nrepr rfl (¬ae (¬cW h.cls230 h.n230_steps (¬ag)) (¬ah))) (¬ca nQ nofun rfl rfl rfl h.nrepr rfl (¬ae (¬ag) (¬ah)))) (¬iO (¬bf g8 (¬ca nQ nofun rfl rfl rfl h.nrepr rfl (¬ae (¬cW h.cls230 h.n230_steps (¬cC)) (¬ah))) (¬ca nQ nofun rfl rfl rfl h.nrepr rfl (¬ae (¬ag) (¬ah)))) (¬iO (¬bf g8 (¬dj h.cls230 h.mSteps_var_count KSteps_var_count (¬cC) (¬ah)) (¬ag)) (¬jq))))) (¬ai (¬cr (¬jp)) (¬aN)) (¬aN)) (¬ai (¬dO (¬bf Fy (¬fM (x0 := "var") (xs := []) (by rfl) (by decide) (¬fh rfl rfl rfl h.nrange rfl (¬ae (¬aO) (¬ae (¬dB e9 (¬ag) (¬aO)) (¬ah)))) (fun C => (¬cg (¬bi))) (fun C => (¬lR)) (fun C => (¬dj h.cls230 h.mSteps_names KSteps_names (¬cC) (¬ae (¬ag) (¬ah))))) (¬ag)) (¬ai (¬cr (¬jp)) (¬aN)) (¬aN)) (¬ai (¬cs (¬@ee _ _ _ _ _ _ _ _ _ _ _ _ _ eR PySem.F.slot_str_split PySem.F.type_str_split (¬ag) (¬ae (¬cm) (¬ah)) (by intro _; rfl) (by rfl)) (¬bi)) (¬ai (¬we KR Fr rfl rfl h.glaw_is_refused h.klaw_is_refused (¬ae (¬Da (¬ag) (¬dc (¬ae (¬cm) (¬ah)))) (¬ah))) (¬ai (¬dO (¬bf mu (¬ca b9 nofun rfl rfl rfl h.nlen rfl (¬ae (¬ag) (¬ah))) (¬aO)) (¬ai (¬cs (¬dB e9 (¬ag) (¬dB wE (¬dB CH (¬ag) (¬aO)) (¬dB k9 (¬ca b9 nofun rfl rfl rfl h.nlen rfl (¬ae (¬ag) (¬ah))) (¬aO)))) (¬bi)) (¬ai (¬we KR Fr rfl rfl h.glaw_is_refused h.klaw_is_refused (¬ae (¬Da (¬FB (¬ag) (¬ag)) (¬CP (¬ag) (¬dB e9 (¬ag) (¬aO)))) (¬ah))) (¬aN))) (¬aN)) (¬ai (¬cr (¬Hc (¬j4 tF (¬ag) (¬dc (¬ah))) (¬bI Klaw_is_trimmed rfl rfl h.glaw_is_trimmed h.klaw_is_trimmed (¬ae (¬ag) (¬ae (¬ag) (¬ah)))))) (¬aN))))))))))))))
end
section
noncomputable def yV (g : SC) (k : Fl → MS → Prop) : Fl → MS → Prop := fun fl σ1 => match fl with | .next => g σ1 k | fl => k fl σ1
noncomputable def Hj (f g : SC) (k : Fl → MS → Prop) : Bool → MS → Prop := fun b σ1 => match b with | true => f σ1 k | false => g σ1 k
noncomputable def FZ (f g : EC) (k : D → MS → Prop) : Bool → MS → Prop := fun b σ1 => match b with | true => f σ1 k | false => g σ1 k
noncomputable def F0 (g : BC) (k : Bool → MS → Prop) : Bool → MS → Prop := fun b σ1 => match b with | true => g σ1 k | false => k false σ1
noncomputable def Hk (g : BC) (k : Bool → MS → Prop) : Bool → MS → Prop := fun b σ1 => match b with | true => k true σ1 | false => g σ1 k
noncomputable def Dt (o2 : D → D → MS → (Bool → Prop) → Prop) (h : EC) (d2 : D) (σ2 : MS) (k : Bool → MS → Prop) : Bool → Prop := fun b => match b with | false => k false σ2 | true => h σ2 fun d3 σ3 => o2 d2 d3 σ3 fun b => k b σ3
noncomputable def yW (g : GC) (fb : SC) (d7 : MS → Prop) (cut : MS → MS) (r : List D) (k : Fl → MS → Prop) : Fl → MS → Prop := fun fl σ2 => match fl with
  | .next => d7 σ2 ∧ dg g fb d7 cut r (cut σ2) k
  | .cont => d7 σ2 ∧ dg g fb d7 cut r (cut σ2) k
  | .brk => k .next σ2
  | .exc => k .exc σ2
  | .ret d => k (.ret d) σ2
noncomputable def Du (g : GC) (t : BC) (f : EC) (d7 : MS → Prop) (cut : MS → MS) (r acc : List D) (k : List D → MS → Prop) : Bool → MS → Prop := fun b σ2 => match b with
  | true => f σ2 fun y σ3 => d7 σ3 ∧ du g t f d7 cut r (cut σ3) (acc ++ [y]) k
  | false => d7 σ2 ∧ du g t f d7 cut r (cut σ2) acc k
section
variable {f g : SC} {fe ge : EC} {t u : BC} {gc : GC} {d7 : MS → Prop} {cut : MS → MS} {r acc : List D} {d : D} {σ : MS} {k : Fl → MS → Prop} {kb : Bool → MS → Prop} {ke : D → MS → Prop} {kl : List D → MS → Prop} {o1 o2 : D → D → MS → (Bool → Prop) → Prop}
theorem af : aj f g σ k = f σ (yV g k) := rfl
theorem cp (h : g σ k) : yV g k .next σ := h
theorem aW : yV g k (.ret d) σ = k (.ret d) σ := rfl
theorem kN : yV g k .exc σ = k .exc σ := rfl
theorem bw : fu t f g σ k = t σ (Hj f g k) := rfl
theorem cQ : Hj f g k true σ = f σ k := rfl
theorem b0 : Hj f g k false σ = g σ k := rfl
theorem oV : Be t fe ge σ ke = t σ (FZ fe ge ke) := rfl
theorem mZ : FZ fe ge ke true σ = fe σ ke := rfl
theorem rC : FZ fe ge ke false σ = ge σ ke := rfl
theorem dz : ip t u σ kb = t σ (F0 u kb) := rfl
theorem gq : F0 u kb true σ = u σ kb := rfl
theorem gN : F0 u kb false σ = kb false σ := rfl
theorem jb : qR t u σ kb = t σ (Hk u kb) := rfl
theorem Dv : Hk u kb true σ = kb true σ := rfl
theorem jE : Hk u kb false σ = u σ kb := rfl
theorem yX {h : EC} : wF o1 o2 fe ge h σ kb = fe σ fun d1 σ1 => ge σ1 fun d2 σ2 => o1 d1 d2 σ2 (Dt o2 h d2 σ2 kb) := rfl
theorem yY {h : EC} : Dt o2 h d σ kb true = h σ fun d3 σ3 => o2 d d3 σ3 fun b => kb b σ3 := rfl
theorem zY : dg gc f d7 cut [] σ k = k .next σ := rfl
theorem bj : dg gc f d7 cut (d :: r) σ k = gc d σ fun σ1 => f σ1 (yW gc f d7 cut r k) := rfl
theorem bb : yW gc f d7 cut r k .next σ = (d7 σ ∧ dg gc f d7 cut r (cut σ) k) := rfl
theorem jU (h : d7 σ ∧ dg gc f d7 cut r (cut σ) k) : yW gc f d7 cut r k .next σ := h
theorem wf : yW gc f d7 cut r k .exc σ = k .exc σ := rfl
theorem BL : yW gc f d7 cut r k (.ret d) σ = k (.ret d) σ := rfl
theorem bz : du gc t fe d7 cut (d :: r) σ acc kl = gc d σ fun σ1 => t σ1 (Du gc t fe d7 cut r acc kl) := rfl
theorem dF : Du gc t fe d7 cut r acc kl true σ = fe σ fun y σ3 => d7 σ3 ∧ du gc t fe d7 cut r (cut σ3) (acc ++ [y]) kl := rfl
theorem jh : Du gc t fe d7 cut r acc kl false σ = (d7 σ ∧ du gc t fe d7 cut r (cut σ) acc kl) := rfl
end
theorem bS {g : GC} {fb : SC} {d7 : MS → Prop} {cut : MS → MS} {k : Fl → MS → Prop} (I : List D → MS → Prop) (h0 : ∀ σ, I [] σ → k .next σ)
  (hs : ∀ d r σ, I (d :: r) σ → (∀ σ', I r σ' → dg g fb d7 cut r σ' k) → dg g fb d7 cut (d :: r) σ k) : ∀ all σ, I all σ → dg g fb d7 cut all σ k
 | [], σ, h => h0 σ h
 | d :: r, σ, h => hs d r σ h fun σ' h' => bS I h0 hs r σ' h'
theorem gT {g : GC} {t : BC} {f : EC} {d7 : MS → Prop} {cut : MS → MS} {k : List D → MS → Prop} (I : List D → MS → List D → Prop) (h0 : ∀ σ acc, I [] σ acc → k acc σ)
  (hs : ∀ d r σ acc, I (d :: r) σ acc → (∀ σ' acc', I r σ' acc' → du g t f d7 cut r σ' acc' k) → du g t f d7 cut (d :: r) σ acc k) : ∀ all σ acc, I all σ acc → du g t f d7 cut all σ acc k
 | [], σ, acc, h => h0 σ acc h
 | d :: r, σ, acc, h => hs d r σ acc h fun σ' acc' h' => gT I h0 hs r σ' acc' h'
theorem bu (a c : Int) (n : Nat) : db a c (n + 1) = .int a :: db (a + c) c n := by
 unfold db
 rw [List.range_succ_eq_map, bk, List.map_map]
 congr 1
 ·simp
 ·refine List.map_congr_left fun i _ => ?_
  simp only [Function.comp, Nat.succ_eq_add_one, Int.natCast_add, Int.natCast_one]
  congr 1
  rw [Int.add_mul, Int.one_mul, Int.add_assoc, Int.add_comm c]
theorem bO {α : Type} (l : List α) (i : Nat) (h : i < 2 ^ 63) : iq l (i : Int) = l[i]? := by
 unfold iq
 rw [if_pos (by lia), if_pos (by lia)]
 simp
theorem cI {α : Type} {x : α} {l : List α} : iq (x :: l) 0 = some x := rfl
theorem dG {α : Type} {x y : α} {l : List α} : iq (x :: y :: l) 1 = some y := rfl
theorem gC {α : Type} {x y z : α} {l : List α} : iq (x :: y :: z :: l) 2 = some z := rfl
theorem jV {α : Type} {x y z w : α} {l : List α} : iq (x :: y :: z :: w :: l) 3 = some w := rfl
noncomputable def DL (ns : List Int) : List D := ns.map .int
theorem zZ {ns : List Int} {i : Nat} (h : i < ns.length) : (DL ns)[i]? = some (.int ns[i]) := by simp [DL, h]
theorem bY {ns : List Int} : (DL ns).length = ns.length := by simp [DL]
theorem cG (ns : List Int) : lf (DL ns) = some ns := zC ns
theorem z4 : ∀ ns : List Int, eZ (DL ns) = true
 | [] => rfl
 | _ :: r => by show (true && eZ (DL r)) = true; rw [z4 r]; rfl
theorem aE {n : Nat} (h : n ≤ 1000000) : n ≤ sizeLine := by unfold sizeLine; exact nA
noncomputable def SF : List (Addr × O) → List O → Prop
 | [], [] => True
 | q :: r, o :: os => feet (q.1, o) = feet q ∧ SF r os
 | _, _ => False
theorem SF.len : ∀ {sub : List (Addr × O)} {os : List O}, SF sub os → os.length = sub.length
 | [], [], _ => rfl
 | _ :: _, _ :: _, h => by rw [aB, aB, SF.len h.2]
 | [], _ :: _, h => h.elim
 | _ :: _, [], h => h.elim
theorem SF.at : ∀ {sub : List (Addr × O)} {os : List O}, SF sub os → ∀ (i : Nat) (q : Addr × O) (o : O), sub[i]? = some q → os[i]? = some o → feet (q.1, o) = feet q
 | [], [], _, i, q, o, h1, _ => by simp at h1
 | _ :: _, _ :: _, h, 0, q, o, h1, h2 => by
  simp at h1 h2; subst h1; subst h2; exact h.1
 | _ :: _, _ :: _, h, i + 1, q, o, h1, h2 => SF.at h.2 i q o (by simpa using h1) (by simpa using h2)
 | [], _ :: _, h, _, _, _, _, _ => h.elim
 | _ :: _, [], h, _, _, _, _, _ => h.elim
theorem bA {sub rest : List (Addr × O)} {os : List O} {new : List (Addr × O)} {k : cu} {fl : Fl} {d : D} {σ : MS} (hk : k d os new) (hsf : SF sub os) (e : σ.st = (sub.zip os).map (fun x => (x.1.1, x.2)) ++ rest) (hn : new.Sublist rest) (hr : CA fl = some d) :
  Ei sub k fl σ := ⟨os, new, d, ⟨rest, e, hsf.len, hsf.at, hn⟩, hr, hk⟩
noncomputable def kO (ns : List Int) : Prop := (∀ x ∈ ns, x ≠ 0) ∧ ns.Pairwise (fun x y => x.natAbs < y.natAbs)
inductive lD : List D → List (Addr × O) → cu → Prop
 | mk {ds : List D} {sub : List (Addr × O)} {k : cu} (i : _) (h0 : ds = [.int i]) (h1 : sub = []) (h2 : k (AE i) [] []) : lD ds sub k
theorem vo : fC pg 1 lD := by
 rintro ds sub k ⟨i, rfl, rfl, hk⟩
 ((try dsimp only [pg, aB, aM, af, bp, cD, aa, bK, ac, aW, eh, ad, oI, ao, aq, qY, b6]); (try simp only [bk, bF, az, ay, al, aq]))
 (refine ⟨aE (by decide), ?_⟩; refine bA (rest := []) hk trivial rfl (.refl _) rfl)
inductive nX : List D → List (Addr × O) → cu → Prop
 | mk {ds : List D} {sub : List (Addr × O)} {k : cu} (ns : List Int) (h0 : ds = [.tup (DL ns)]) (h1 : sub = []) (h2 : ns.length < 2 ^ 20) (h3 : kO ns) (h4 : k (.bool true) [] []) : nX ds sub k
theorem xe : fC rl 2 nX := by
 rintro ds sub k ⟨ns, rfl, rfl, hl, ⟨h0, hp⟩, hk⟩
 ((try dsimp only [rl, fy, aB, aM, cS, cR, af, dq, bE, aa, bK, ac, MS.trunc, ad, gZ, bv, aq, b6, bV, List.getElem?_nil]); (try simp only [bk, bF, az, ay, al, kE]))
 rw [List.pairwise_iff_getElem] at hp
 refine ⟨by rw [bY]; exact nA, by rw [bY]; lia, ?_⟩
 refine bS (fun r σ => ∃ i : Nat, i ≤ ns.length ∧ r = db i 1 (ns.length - i) ∧ ∃ pl, σ = ⟨[some (.tup (DL ns)), pl], []⟩) ?_ ?_ _ _ ⟨0, by lia, by simp [bY], _, rfl⟩
 ·rintro σ ⟨i, hi, he, pl, rfl⟩
  ((try ((with_reducible refine cp ?_))); (try dsimp only [af, bp, fF, aW]))
  exact bA (rest := []) hk trivial rfl (.refl _) rfl
 ·rintro d r σ ⟨i, hi, he, pl, rfl⟩ ih
  obtain ⟨m, hm⟩ : ∃ m, ns.length - i = m + 1 := ⟨ns.length - i - 1, by
   cases h : ns.length - i with
   | zero => rw [h] at he; cases he
   | succ m => lia⟩
  rw [hm, bu] at he
  cases he
  have hi' : i < ns.length := Fe hm
  have nxt := ih ⟨[some (.tup (DL ns)), some (.int i)], []⟩ ⟨i + 1, ooK, by rw [wz hm]; rfl, _, rfl⟩
  have hz : (ns[i] == 0) = false := by simpa using h0 _ (List.getElem_mem hi')
  ((try dsimp only [bj, af, bw, aA, cL, ac, cP, ao, aq, aL, MS.set, aY, aK, al, au, b8]); (try simp only [bO _ i (by lia), zZ hi', am, cz, hz, b0, aw]); (repeat ((with_reducible refine cp ?_); (try dsimp only [af, bw, dz, aA, ac, au, al, oI, ao, aq]))))
  by_cases hpos : i = 0
  ·subst hpos
   ((try simp only [show decide ((0 : Int) < ((0 : Nat) : Int)) = false from rfl, gN, b0, aw]); (repeat ((with_reducible refine cp ?_); (try dsimp only [aw, bb]))))
   exact ⟨trivial, nxt⟩
  ·have hp0 : 0 < i := Nat.pos_of_ne_zero hpos
   have hq : i - 1 < ns.length := Nat.lt_of_le_of_lt (Nat.sub_le i 1) hi'
   have e1 : decide ((0 : Int) < (i : Int)) = true := decide_eq_true (Int.ofNat_lt.mpr hp0)
   have e2 : iq (DL ns) ((i : Int) - 1) = some (.int (ns[i - 1]'hq)) := by
    rw [show ((i : Int) - 1) = ((i - 1 : Nat) : Int) from (Int.ofNat_sub hp0).symm, bO _ _ (Nat.lt_of_lt_of_le (Nat.lt_trans hq hl) (by decide)), zZ hq]
   have e3 : decide ((↑(ns[i]).natAbs : Int) ≤ ↑(ns[i - 1]'hq).natAbs) = false := by
    have := hp (i - 1) i hq hi' (Nat.sub_lt hp0 Nat.one_pos)
    simp; exact ooK
   ((try simp only [e1, gq, dz, aA, bK, aa, cL, ac, al, bC, au, ao, jI, ad, qY, oI, aq, b6, bO _ i (by lia), b8, zZ hi', am, e2, e3, gN, b0, aw]); (repeat ((with_reducible refine cp ?_); (try dsimp only [aw, bb]))))
   exact ⟨trivial, nxt⟩
end
local macro_rules | `(tactic| left) => `(tactic| with_reducible refine cp ?_)
structure cT where
 rule : Str
 cl : List Int
 pr : List Int
 note : D
noncomputable def cT.d (r : cT) : D := .tup [.str r.rule, .tup (DL r.cl), .tup (DL r.pr), r.note]
noncomputable def RL (rows : List cT) : List D := rows.map cT.d
theorem c7 {rows : List cT} : (RL rows).length = rows.length := by simp [RL]
theorem fE {rows : List cT} {i : Nat} {r : cT} (h : rows[i]? = some r) : (RL rows)[i]? = some (.tup [.str r.rule, .tup (DL r.cl), .tup (DL r.pr), r.note]) := by
 rw [RL, List.getElem?_map, h]; rfl
theorem lE {rows : List cT} {r : cT} : RL (rows ++ [r]) = RL rows ++ [.tup [.str r.rule, .tup (DL r.cl), .tup (DL r.pr), r.note]] := by
 simp [RL, cT.d]
noncomputable def PO (dx s nm : Addr) (e : Int) : O := .inst 230 dx [("steps", .ref s), ("named", .ref nm), ("empty", .int e)]
noncomputable def ir : List Str := ["input", "define", "ite_term", "three", "bits", "congruence", "farkas", "branch", "divide", "cut", "resolve"]
inductive dR : List D → List (Addr × O) → cu → Prop
 | mk {ds : List D} {sub : List (Addr × O)} {k : cu} (a dx : _) (h0 : ds = [.ref a]) (h1 : sub = [(a, .inst 230 dx [])]) (h2 : ∀ s nm, k .none [PO dx s nm (-1)] [(s, .list []), (nm, .list [.int 0])]) : dR ds sub k
theorem sD : fC ll 1 dR := by
 rintro ds sub k ⟨a, dx, rfl, rfl, hk⟩
 ((try dsimp only [ll, aB, aM, af, aT, bg, ad, aG, ac, az, ay, al, aK, aH]); (try simp only [bk, bF, az, ay, al, aF]))
 (refine ⟨aE (by decide), ?_⟩; refine fun s => ?_)
 (skip)
 refine ⟨trivial, trivial, by simp, by decide, ?_⟩
 ((try (left)); (try dsimp only [af, aT, bg, aa, ao, ad, aB, aM, aG, ac, az, ay, al, aK, aH, aF]); (try simp only []))
 (refine ⟨aE (by decide), ?_⟩; refine fun nm => ?_)
 (skip)
 refine ⟨trivial, trivial, by simp; decide, by decide, ?_⟩
 ((try (left)); (try dsimp only [af, aT, fJ, ao, aG, ac, al, aK, aH, aB, aM, az, ay, aF, aq]); (try simp only []))
 refine ⟨trivial, trivial, by simp; decide, by decide, ?_⟩
 ((try (left)); (try dsimp only [aw]))
 exact bA (rest := [(s, .list []), (nm, .list [.int 0])]) (hk s nm) ⟨rfl, trivial⟩ rfl (.refl _) rfl
noncomputable def PR (a dx s nm : Addr) (e : Int) (rows : List cT) (named : List D) : List (Addr × O) := [(a, PO dx s nm e), (s, .list (RL rows)), (nm, .list named)]
theorem lY {a dx s nm : Addr} {e e' : Int} {rows : List cT} {xs ys named : List D} : SF (PR a dx s nm e rows named) [PO dx s nm e', .list xs, .list ys] := ⟨rfl, rfl, rfl, trivial⟩
inductive dk : List D → List (Addr × O) → cu → Prop
 | mk {ds : List D} {sub : List (Addr × O)} {k : cu} (a dx s nm e rows named d : _) (h0 : ds = [.ref a, .int (named.length : Nat), d]) (h1 : sub = PR a dx s nm e rows named) (h2 : named.length ≤ 1000) (h3 : k .none [PO dx s nm e, .list (RL rows), .list (named ++ [d])] []) : dk ds sub k
theorem sE : fC ln 3 dk := by
 rintro ds sub k ⟨a, dx, s, nm, e, rows, named, d, rfl, rfl, hl, hk⟩
 ((try dsimp only [ln, n8, aB, aM, PR, PO, af, bw, aA, ac, cP, bK, aa, bU, bv, aq, ad, b6, cy, aG, al, au, cj, aH, am, c9]); (try simp only [bk, bF, az, ay, au, al, cz, bne_self_eq_false, b0, aw, aF]))
 (repeat first | ((with_reducible refine And.intro ?pa ?_); (case pa => first | decide | lia | (simp only [c7, bY, eX, dI, aB, aM]; lia))) | (left; (try dsimp only [af, br, bD, bU, ac, al, bl, aa, ad, fV, cy, aG, au, aY, aK, av, aH, am, aF, aw]); (try simp only [])))
 exact bA (rest := []) hk lY rfl (.refl _) rfl
inductive eH : List D → List (Addr × O) → cu → Prop
 | mk {ds : List D} {sub : List (Addr × O)} {k : cu} (a dx s nm e rows named v d : _) (h0 : ds = [.ref a, .int (v : Nat)]) (h1 : sub = PR a dx s nm e rows named) (h2 : named.length ≤ 1000) (h3 : 0 < v) (h4 : named[v]? = some d) (h5 : k d [PO dx s nm e, .list (RL rows), .list named] []) : eH ds sub k
theorem rD : fC j9 2 eH := by
 rintro ds sub k ⟨a, dx, s, nm, e, rows, named, v, d, rfl, rfl, hl, h0, hv, hk⟩
 have hlt : v < named.length := (List.getElem?_eq_some_iff.mp hv).1
 have e1 : decide ((0 : Int) < (v : Int)) = true := by simp; exact ooK
 have e2 : decide ((v : Int) < (named.length : Int)) = true := by simp; exact ooK
 ((try dsimp only [j9, aB, aM, PR, PO, af, bw, i0, yX, oI, ac, ao, aq]); (try simp only [bk, bF, az, ay, au, al, aq, e1, yY, bK, aa, bU, ac, aG, cy, ad, bv, oI, cj, e2, Bool.not_true, b0, aw, b6, aH, am, c9, aF]))
 (repeat first | ((with_reducible refine And.intro ?pa ?_); (case pa => first | decide | lia | (simp only [c7, bY, eX, dI, aB, aM]; lia))) | (left; (try dsimp only [af, bp, aX, bU, ac, al, aW, cy, aG, au, aq, aH, am, av, aF]); (try simp only [bO _ v (by lia), hv, am])))
 exact bA (rest := []) hk lY rfl (.refl _) rfl
inductive dl : List D → List (Addr × O) → cu → Prop
 | mk {ds : List D} {sub : List (Addr × O)} {k : cu} (a dx s nm e rows named : _) (h0 : ds = [.ref a]) (h1 : sub = PR a dx s nm e rows named) (h2 : named.length ≤ 1000) (h3 : k (.int ((named.length : Int) - 1)) [PO dx s nm e, .list (RL rows), .list named] []) : dl ds sub k
theorem m6 : fC hV 1 dl := by
 rintro ds sub k ⟨a, dx, s, nm, e, rows, named, rfl, rfl, hl, hk⟩
 ((try dsimp only [hV, aB, aM, PR, PO, af, bp, bC, bK, aa, bU, ac, aW, jI, ao, aq, bv, ad, b6, cy, aG, al, au, cj, aH, am, c9]); (try simp only [bk, bF, az, ay, al, aF]))
 (repeat first | ((with_reducible refine And.intro ?pa ?_); (case pa => first | decide | lia | (simp only [c7, bY, eX, dI, aB, aM]; lia))) | (left))
 exact bA (rest := []) hk lY rfl (.refl _) rfl
inductive f5 : List D → List (Addr × O) → cu → Prop
 | mk {ds : List D} {sub : List (Addr × O)} {k : cu} (a dx s nm e rows named : _) (h0 : ds = [.ref a]) (h1 : sub = PR a dx s nm e rows named) (h2 : rows.length ≤ 1000) (h3 : k (.int (rows.length : Int)) [PO dx s nm e, .list (RL rows), .list named] []) : f5 ds sub k
theorem sF : fC ls 1 f5 := by
 rintro ds sub k ⟨a, dx, s, nm, e, rows, named, rfl, rfl, hl, hk⟩
 ((try dsimp only [ls, aB, aM, PR, PO, af, bp, bK, aa, bU, ac, aW, bv, ad, b6, cy, aG, al, au, cj, aH, am, c9]); (try simp only [bk, bF, az, ay, al, c7, aF]))
 (repeat first | ((with_reducible refine And.intro ?pa ?_); (case pa => first | decide | lia | (simp only [c7, bY, eX, dI, aB, aM]; lia))) | (left))
 exact bA (rest := []) hk lY rfl (.refl _) rfl
inductive ia : List D → List (Addr × O) → cu → Prop
 | mk {ds : List D} {sub : List (Addr × O)} {k : cu} (a dx s nm e rows named i r : _) (h0 : ds = [.ref a, .int (i : Nat)]) (h1 : sub = PR a dx s nm e rows named) (h2 : rows.length ≤ 1000) (h3 : rows[i]? = some r) (h4 : k (.tup (DL r.cl)) [PO dx s nm e, .list (RL rows), .list named] []) : ia ds sub k
theorem qp : fC jx 2 ia := by
 rintro ds sub k ⟨a, dx, s, nm, e, rows, named, i, r, rfl, rfl, hl, hr, hk⟩
 have hlt : i < rows.length := (List.getElem?_eq_some_iff.mp hr).1
 ((try dsimp only [jx, aB, aM, PR, PO, af, bp, cL, aX, bU, ac, aW, ao, aq, cy, aG, al, au, aH, am, av]); (try simp only [bk, bF, az, ay, al, au, aq, bO _ i (by lia), fE hr, am, b8, dG, aF]))
 (repeat first | ((with_reducible refine And.intro ?pa ?_); (case pa => first | decide | lia | (simp only [c7, bY, eX, dI, aB, aM]; lia))) | (left))
 exact bA (rest := []) hk lY rfl (.refl _) rfl
inductive ey : List D → List (Addr × O) → cu → Prop
 | mk {ds : List D} {sub : List (Addr × O)} {k : cu} (a dx s nm e rows named r : _) (h0 : ds = [.ref a, .str r.rule, .tup (DL r.cl), .tup (DL r.pr), r.note]) (h1 : sub = PR a dx s nm e rows named) (h2 : rows.length ≤ 1000) (h3 : r.rule ∈ ir) (h4 : kO r.cl) (h5 : r.cl.length ≤ 1000) (h6 : r.pr.length ≤ 1000) (h7 : (∀ x : Int, x ∈ r.pr → 0 ≤ x ∧ x < (rows.length : Int))) (h8 : ∀ e', k (.int (rows.length : Int)) [PO dx s nm e', .list (RL (rows ++ [r])), .list named] []) : ey ds sub k
noncomputable def RS : List D := ir.map D.str
theorem BM : zR = .tup RS := rfl
theorem EJ : j5 RS = some ir := jr _
theorem ui : fC (mG nX) 7 ey := by
 rintro ds sub k ⟨a, dx, s, nm, e, rows, named, ⟨rule, cl, pr, note⟩, rfl, rfl, hl, hr, ht, hcl, hpl, hp, hk⟩
 simp only at hr ht hcl hpl hp hk
 have e1 : (true != List.any ir (· == rule)) = false := by
  have : List.any ir (· == rule) = true := List.any_eq_true.mpr ⟨rule, hr, by simp⟩
  rw [this]; rfl
 ((try dsimp only [aB, aM, cS, cR, PR, PO, mG, BM, fy, af, ba, bK, aa, bU, ac, aL, MS.set, bv, ad, b6, cy, aG, al, au, cj, aH, am, c9]); (try simp only [bk, bF, az, ay, al, c7, aY, aK, aF]))
 (repeat first | ((with_reducible refine And.intro ?pa ?_); (case pa => first | decide | lia | (simp only [c7, bY, eX, dI, aB, aM]; lia))) | (left; (try dsimp only [af, bw, aA, ac, au, al, yb, dt, b8, kE, eG, i0, gw, a9, aa, bN, aZ, am, ad, az, ay]); (try simp only [EJ, am, e1, b0, aw])))
 refine ⟨cl, rfl, rfl, nB, ht, ?_⟩
 ((try dsimp only [dE]); (try simp only [Bool.not_true, b0, aw]); (repeat (left; (try dsimp only [af, dq, dy, ac, au, al, MS.trunc, aB, aM, b8]))))
 refine bS (fun r σ => (∀ d ∈ r, ∃ x : Int, d = .int x ∧ 0 ≤ x ∧ x < (rows.length : Int)) ∧ ∃ v, σ = ⟨[some (.ref a), some (.str rule), some (.tup (DL cl)), some (.tup (DL pr)), some note, some (.int rows.length), v], PR a dx s nm e rows named⟩) ?_ ?_ _ _ ⟨?_, _, rfl⟩
 ·rintro σ ⟨-, v, rfl⟩
  ((try (left)); (try dsimp only [PR, PO, af, br, bD, bU, ac, al, bl, aa, cD, ad, fV, aB, bK, aM, c6, b6, cy, aG, au, aY, aK, av, kE, aH, am, aF]); (try simp only []))
  (repeat first | ((with_reducible refine And.intro ?pa ?_); (case pa => first | decide | lia | (simp only [c7, bY, eX, dI, aB, aM]; lia))) | (left; (try dsimp only [af, bw, dz, aA, bK, aa, ac, au, al, cP, ao, aq, bv, cz, ad, b6, kE]); (try simp only [bY])))
  by_cases hc : ((cl.length : Int) == 0) = true
  ·by_cases he : decide (e < 0) = true
   ·(try simp only [hc, gq, dz, aA, bU, ac, al, aG, cy, ao, oI, aq, aH, au, am, he, cH, cQ, af, qX, aK, aY, aF])
    (repeat first | ((with_reducible refine And.intro ?pa ?_); (case pa => first | decide | lia | (simp only [c7, bY, eX, dI, aB, aM]; lia))) | (left; (try dsimp only [aw, af, bp, ac, au, al, aW])))
    rw [lE] at hk
    exact bA (rest := []) (fl := .ret _) (hk _) lY rfl (.refl _) rfl
   ·simp only [hc, Bool.not_eq_true] at he ⊢
    ((try dsimp only [gq, dz, aA, bU, ac, al, oI, ao, aq, cy, aG, aH, au, am, aF]); (try simp only [he, gN, b0, aw]))
    (repeat first | ((with_reducible refine And.intro ?pa ?_); (case pa => first | decide | lia | (simp only [c7, bY, eX, dI, aB, aM]; lia))) | (left; (try dsimp only [af, bp, ac, au, al, aW])))
    rw [lE] at hk
    exact bA (rest := []) (fl := .ret _) (hk _) lY rfl (.refl _) rfl
  ·simp only [Bool.not_eq_true] at hc
   ((try simp only [hc, gN, b0, aw]); (repeat (left; (try dsimp only [af, bp, ac, au, al, aW]))))
   rw [lE] at hk
   exact bA (rest := []) (fl := .ret _) (hk _) lY rfl (.refl _) rfl
 ·rintro d r σ ⟨hr, v, rfl⟩ ih
  obtain ⟨x, rfl, h0, h1⟩ := hr d c8
  have f1 : decide (0 ≤ x) = true := by simpa using h0
  have f2 : decide (x < (rows.length : Int)) = true := by simpa using h1
  ((try dsimp only [PR, PO, bj, af, bw, i0, yX, oI, ac, ao, aq, aL, MS.set, aY, aK, au, al]); (try simp only [f1, yY, ac, au, al, oI, aq, f2, Bool.not_true, b0, aw]); (repeat (left; (try dsimp only [aw, bb, ci, bV]); (try simp only [aV]))))
  exact ih _ ⟨fun d hd => hr d (dP _ hd), _, rfl⟩
 ·intro d hd
  obtain ⟨x, hx, rfl⟩ := List.mem_map.mp hd
  exact ⟨x, rfl, hp x hx⟩
theorem nY : ∀ (n : Nat) (l : List Nat), l.Nodup → (∀ x ∈ l, x < n) → l.length ≤ n
 | 0, l, _, h => by
  cases l with
  | nil => exact Nat.le_refl _
  | cons a l => exact absurd (h a c8) (Nat.not_lt_zero _)
 | n + 1, l, hn, h => by
  by_cases hm : n ∈ l
  ·have e := List.length_erase_of_mem hm
   have := nY n (l.erase n) (hn.erase n) fun x hx => by
    rw [hn.mem_erase_iff] at hx
    have := h x hx.2
    lia
   lia
  ·have := nY n l hn fun x hx => by
    have := h x hx
    have hne : x ≠ n := fun e => hm (e ▸ hx)
    lia
   exact nF
noncomputable def ib (ns : List Int) : Prop := ∀ x ∈ ns, x ≠ 0 ∧ -x ∉ ns ∧ x.natAbs ≤ 5
theorem ib.apart {ns : List Int} (h : ib ns) : iV ns := fun x hx y hy e => by
 have h1 := (h y hy).2.1
 rcases Int.natAbs_eq_natAbs_iff.mp e with e | e
 ·exact e
 ·exact absurd (by rw [← e]; exact hx) h1
theorem BN {l : List Int} (hn : l.Nodup) (ha : iV l) : (l.map Int.natAbs).Nodup := by
 induction l with
 | nil => exact List.nodup_nil
 | cons a l ih =>
  obtain ⟨h1, h2⟩ := List.nodup_cons.mp hn
  rw [bk, List.nodup_cons]
  refine ⟨fun hm => ?_, ih h2 fun x hx y hy => ha x (dP _ hx) y (dP _ hy)⟩
  obtain ⟨y, hy, e⟩ := List.mem_map.mp hm
  exact h1 (ha y (dP _ hy) a c8 e ▸ hy)
theorem ib.five {ns ks : List Int} (h : ib ns) (hn : ks.Nodup) (hm : ∀ x ∈ ks, x ∈ ns) : ks.length ≤ 5 := by
 have h1 := BN hn fun x hx y hy => h.apart x (hm x hx) y (hm y hy)
 have := nY 6 (0 :: ks.map Int.natAbs) (List.nodup_cons.mpr ⟨fun q => by
  obtain ⟨y, hy, e⟩ := List.mem_map.mp q
  have := h y (hm y hy)
  lia, h1⟩) (by
  intro x hx
  rcases HL hx with rfl | hx
  ·decide
  ·obtain ⟨y, hy, rfl⟩ := List.mem_map.mp hx
   have := h y (hm y hy)
   lia)
 simp only [aB, dI] at this
 lia
noncomputable def KV (ks : List Int) : List (Int × D) := ks.map fun k => (k, .bool true)
theorem E7 (ks : List Int) (y : Int) : (lS (KV ks) y).isSome = decide (y ∈ ks) := by
 induction ks with
 | nil => rfl
 | cons a r ih =>
  unfold lS KV at *
  rw [bk, List.find?_cons]
  by_cases e : a = y
  ·simp [e]
  ·simp only [e, decide_false]
   rw [ih]
   simp [List.mem_cons, Ne.symm e]
theorem F1 (ks : List Int) (y : Int) : (KV ks).any (fun kv => decide (kv.1 = y)) = decide (y ∈ ks) := by
 induction ks with
 | nil => rfl
 | cons a r ih =>
  unfold KV at *
  rw [bk, List.any_cons, ih]
  by_cases e : a = y
  ·simp [e]
  ·simp [e, Ne.symm e]
theorem z5 (ks : List Int) (y : Int) : g9 (KV ks) y (.bool true) = KV (if y ∈ ks then ks else ks ++ [y]) := by
 unfold g9
 rw [F1]
 by_cases h : y ∈ ks
 ·simp only [h, decide_true, if_true]
  unfold KV
  rw [List.map_map]
  refine List.map_congr_left fun k hk => ?_
  simp only [Function.comp]
  split <;> rfl
 ·simp only [h, decide_false, if_false, Bool.false_eq_true]
  unfold KV; simp
theorem z6 (ks : List Int) : (KV ks).length = ks.length := by simp [KV]
theorem xf (ks : List Int) : (KV ks).map (·.1) = ks := by unfold KV; rw [List.map_map]; exact List.map_id _
theorem BP {ks : List Int} (hn : ks.Nodup) (h : iV ks) : gy mA ks := by
 refine ⟨fun x _ => by simp [mA], fun x hx y hy hne => ?_, fun x _ y _ z _ h1 h2 => ?_, hn⟩
 ·have : x.natAbs ≠ y.natAbs := fun e => hne (h x hx y hy e)
  simp only [mA]
  by_cases hlt : x.natAbs < y.natAbs
  ·simp [hlt]; exact nM
  ·simp [hlt]; lia
 ·simp only [mA, decide_eq_true_eq] at *
  lia
theorem vp {ns ks out : List Int} (h0 : ∀ x ∈ ns, x ≠ 0) (hm : ∀ x, x ∈ ks ↔ x ∈ ns) (h : jd mA ks out) : kO out ∧ ∀ x, x ∈ out ↔ x ∈ ns := by
 refine ⟨⟨fun x hx => h0 x ((hm x).mp (h.1.mem_iff.mp hx)), h.2.imp fun q => by simpa [mA] using q⟩, fun x => h.1.mem_iff.trans (hm x)⟩
inductive xg : List D → List (Addr × O) → cu → Prop
 | mk {ds : List D} {sub : List (Addr × O)} {k : cu} (a ns : _) (h0 : ds = [.ref a]) (h1 : sub = [(a, .list (DL ns))]) (h2 : ib ns) (h3 : ∀ out, kO out → (∀ x, x ∈ out ↔ x ∈ ns) → k (.tup (DL out)) [.list (DL ns)] []) : xg ds sub k
set_option tactic.hygienic true in
theorem BQ : fC (zV lD) 3 xg := by
 rintro ds sub k ⟨a, ns, rfl, rfl, hc, hk⟩
 ((try dsimp only [aB, aM, cS, cR, zV, af, ba, o8, aL, MS.set, az, ay]); (try simp only [bk, bF, az, ay, aY, aK]))
 intro b
 ((try (left)); (try dsimp only [af, dq, bR, ac, al, MS.trunc, aB, aM, av]); (try simp only []))
 (refine ⟨by trivial, ?_⟩)
 refine bS (fun r σ => Fc fun ns1 ns2 ks => GX (ns = ns1 ++ ns2) (r = DL ns2) (ks.Nodup) ((∀ x, x ∈ ks ↔ x ∈ ns1)) (∃ v, σ = ⟨[some (.ref a), some (.ref b), v], [(a, .list (DL ns)), (b, .dict (KV ks))]⟩)) ?_ ?_ _ _ ⟨[], ns, [], rfl, rfl, .nil, by simp, _, rfl⟩
 ·rintro σ ⟨ns1, ns2, ks, e, hr, hn, hm, v, rfl⟩
  have e2 : ns2 = [] := by
   cases ns2 with
   | nil => rfl
   | cons _ _ => cases hr
  subst e2
  rw [List.append_nil] at e
  subst e
  ((try (left)); (try dsimp only [af, bp, bK, aa, tN, ac, au, al, gH, aW, c6, ad, b6, c9, az, ay, cj, tq, am]); (try simp only [xf]))
  (refine ⟨by trivial, ?_⟩; refine ⟨hc.five hn fun x hx => (hm x).mp hx, ?_⟩; refine ⟨fun x hx y hy => hc.apart x ((hm x).mp hx) y ((hm y).mp hy), ?_⟩; refine ⟨BP hn fun x hx y hy => hc.apart x ((hm x).mp hx) y ((hm y).mp hy), ?_⟩; refine fun out c hs => ?_)
  obtain ⟨t1, t2⟩ := vp (fun x hx => (hc x hx).1) hm hs
  have hlen : out.length ≤ 5 := by rw [hs.1.length_eq]; exact hc.five hn fun x hx => (hm x).mp hx
  (refine ⟨by trivial, ?_⟩; refine ⟨aE (by rw [dI]; exact nA), ?_⟩)
  exact bA (rest := [(b, _), (c, _)]) (fl := .ret _) (hk out t1 t2) ⟨rfl, trivial⟩ rfl (List.nil_sublist _) rfl
 ·rintro d r σ ⟨ns1, ns2, ks, e, hr, hn, hm, v, rfl⟩ ih
  cases ns2 with
  | nil => cases hr
  | cons x ns2 =>
   cases hr
   have hx : x ∈ ns := by rw [e]; simp
   have hnx : decide (-x ∈ ks) = false := by
    have := (hc x hx).2.1
    simp only [decide_eq_false_iff_not, hm]
    intro q
    exact this (by rw [e]; exact List.mem_append_left _ q)
   have hl : ks.length ≤ 5 := hc.five hn fun y hy => by rw [e]; exact List.mem_append_left _ ((hm y).mp hy)
   ((try dsimp only [bj, af, bw, aA, fJ, ac, CM, aq, aL, MS.set, aY, aK, au, al, wC]); (try simp only [E7, hnx, b0, aw]))
   (repeat first | ((with_reducible refine And.intro ?pa ?_); (case pa => first | decide | lia | exact aE (by lia))) | (left; (try dsimp only [af, eM, fF, ac, au, al, aY, aK, xP, aq, aF, aw, bb, ci, bV]); (try simp only [z6, z5])))
   refine ih _ ⟨ns1 ++ [x], ns2, _, by rw [e]; simp, rfl, ?_, ?_, _, rfl⟩
   ·split
    ·exact hn
    ·rename_i hxk
     exact List.nodup_append.mpr ⟨hn, by simp, fun y hy z hz e => hxk (by simp at hz; rw [← hz, ← e]; exact hy)⟩
   ·intro y
    split
    ·rename_i hxk
     simp only [List.mem_append, List.mem_singleton, hm]
     exact ⟨.inl, fun q => q.elim id fun q => by subst q; exact (hm _).mp hxk⟩
    ·simp only [List.mem_append, List.mem_singleton, hm]
noncomputable def dL (c : List Int) : Prop := kO c ∧ ∀ x ∈ c, x.natAbs ≤ 5
theorem kO.apart : ∀ {c : List Int}, c.Pairwise (fun x y => x.natAbs < y.natAbs) → iV c
 | [], _ => fun x hx => nomatch hx
 | a :: r, h => fun x hx y hy e => by
  obtain ⟨h1, h2⟩ := List.pairwise_cons.mp h
  rcases HL hx with rfl | hx2 <;> rcases HL hy with rfl | hy2
  ·rfl
  ·have := h1 _ hy2; lia
  ·have := h1 _ hx2; lia
  ·exact kO.apart h2 x hx2 y hy2 e
theorem BR {c : List Int} (h : c.Pairwise (fun x y => x.natAbs < y.natAbs)) : c.Nodup := h.imp fun q e => by subst e; lia
theorem dL.len {c : List Int} (h : dL c) : c.length ≤ 5 := by
 have hc : ib c := fun x hx => ⟨h.1.1 x hx, fun q => by
  have := kO.apart h.1.2 x hx (-x) q (pD rfl)
  have := h.1.1 x hx
  lia, h.2 x hx⟩
 exact hc.five (BR h.1.2) fun _ q => q
structure qq (one other : List Int) (x : Int) : Prop where
 a : dL one
 b : dL other
 l : x ∈ one
 r : -x ∈ other
 u : ∀ y ∈ one, -y ∈ other → y = x
theorem qq.rest {one other : List Int} {x : Int} (h : qq one other x) {ns : List Int} (hm : ∀ y, y ∈ ns ↔ (y ∈ one ∨ y ∈ other) ∧ y.natAbs ≠ x.natAbs) : ib ns := fun y hy => by
 obtain ⟨h1, h2⟩ := (hm y).mp hy
 refine ⟨fun e => ?_, fun q => ?_, ?_⟩
 ·subst e
  rcases h1 with q | q
  ·exact h.a.1.1 _ q rfl
  ·exact h.b.1.1 _ q rfl
 ·obtain ⟨h3, h4⟩ := (hm _).mp q
  have key : ∀ c : List Int, dL c → y ∈ c → -y ∈ c → False := fun c hc q1 q2 => by
   have := kO.apart hc.1.2 y q1 (-y) q2 (pD rfl)
   have := hc.1.1 y q1
   lia
  rcases h1 with q1 | q1 <;> rcases h3 with q2 | q2
  ·exact key _ h.a q1 q2
  ·exact h2 (by rw [h.u y q1 q2])
  ·exact h2 (by rw [← h.u (-y) q2 (by rw [Int.neg_neg]; exact q1)]; exact pD rfl)
  ·exact key _ h.b q1 q2
 ·rcases h1 with q | q
  ·exact h.a.2 y q
  ·exact h.b.2 y q
theorem fO (ns : List Int) (i : Int) : ns.any (· == i) = decide (i ∈ ns) := by
 induction ns with
 | nil => rfl
 | cons a r ih =>
  rw [List.any_cons, ih]
  by_cases e : a = i
  ·simp [e]
  ·simp [e, Ne.symm e]
theorem jF {g : GC} {t : BC} {f : EC} {cut : MS → MS} {k : List D → MS → Prop} {ns : List Int} (q : Int → Bool) (St : Option D → MS)
  (hs : ∀ (x : Int), x ∈ ns → ∀ (v : Option D) (r acc : List D), (∀ v', du g t f (fun _ => True) cut r (St v') (if q x then acc ++ [.int x] else acc) k) → du g t f (fun _ => True) cut (.int x :: r) (St v) acc k)
  (hk : ∀ v, k (DL (ns.filter q)) (St v)) (v : Option D) : du g t f (fun _ => True) cut (DL ns) (St v) [] k := by
 refine gT (fun r σ acc => G2 fun n1 n2 => Ef (ns = n1 ++ n2) (r = DL n2) (acc = DL (n1.filter q)) (∃ v, σ = St v)) ?_ ?_ _ _ _ ⟨[], ns, rfl, rfl, rfl, v, rfl⟩
 ·rintro σ acc ⟨n1, n2, e, hr, rfl, v, rfl⟩
  cases n2 with
  | nil => rw [List.append_nil] at e; subst e; exact hk v
  | cons _ _ => cases hr
 ·rintro d r σ acc ⟨n1, n2, e, hr, rfl, v, rfl⟩ ih
  cases n2 with
  | nil => cases hr
  | cons x n2 =>
   cases hr
   refine hs x (by rw [e]; simp) v _ _ fun v' => ?_
   refine ih _ _ ⟨n1 ++ [x], n2, by rw [e]; simp, rfl, ?_, v', rfl⟩
   rw [List.filter_append]
   cases hq : q x
   ·simp [hq]
   ·simp [hq, DL]
inductive ji : List D → List (Addr × O) → cu → Prop
 | mk {ds : List D} {sub : List (Addr × O)} {k : cu} (one other x : _) (h0 : ds = [.tup (DL one), .tup (DL other), .int (x.natAbs : Nat)]) (h1 : sub = []) (h2 : qq one other x) (h3 : ∀ out, kO out → (∀ y, y ∈ out ↔ (y ∈ one ∨ y ∈ other) ∧ y.natAbs ≠ x.natAbs) → k (.tup (DL out)) [] []) : ji ds sub k
theorem qr (ns : List Int) (q : Int → Bool) (h : ns.length ≤ 5) : (DL (ns.filter q)).length ≤ 5 := by
 rw [bY]; exact Nat.le_trans (List.length_filter_le _ _) h
theorem sG : fC (jg xg) 4 ji := by
 rintro ds sub k ⟨one, other, x, rfl, rfl, hc, hk⟩
 have hx0 := hc.a.1.1 x hc.l
 have apA := kO.apart hc.a.1.2
 have apB := kO.apart hc.b.1.2
 have la := hc.a.len
 have lb := hc.b.len
 have fin : ∀ u w : Int, ((u = x ∧ w = -x)) → ∀ y, y ∈ one.filter (· != u) ++ other.filter (· != w) ↔ (y ∈ one ∨ y ∈ other) ∧ y.natAbs ≠ x.natAbs := by
  rintro u w ⟨rfl, rfl⟩ y
  simp only [List.mem_append, List.mem_filter, bne_iff_ne]
  constructor
  ·rintro (⟨h1, h2⟩ | ⟨h1, h2⟩)
   ·exact ⟨.inl h1, fun e => h2 (apA y h1 _ hc.l e)⟩
   ·exact ⟨.inr h1, fun e => h2 (apB y h1 _ hc.r (pD e))⟩
  ·rintro ⟨h1 | h1, h2⟩
   ·exact .inl ⟨h1, fun e => h2 (by rw [e])⟩
   ·exact .inr ⟨h1, fun e => h2 (by rw [e, Int.natAbs_neg])⟩
 by_cases hpos : 0 < x
 ·have ev : ((x.natAbs : Nat) : Int) = x := by lia
  have e1 : decide (x ∈ one) = true := by simpa using hc.l
  have e2 : decide (-x ∈ other) = true := by simpa using hc.r
  ((try dsimp only [aB, aM, cS, cR, jg, n8, af, bw, dz, aA, ac, yb]); (try simp only [ev, bk, bF, az, ay, au, al, fO, Bool.false_bne, b8, cG, am, kE, cz, e1, gq, dz, aA, fJ, ac, yb, aq, e2, cH, cQ, af, ba, bM, dy, MS.trunc, aM, bV, MS.more, cS, cR, aL, MS.set, aB]))
  (refine ⟨aE (by rw [bY]; exact nA), ?_⟩)
  refine jF (fun y => y != x) (fun v => ⟨[some (.tup (DL one)), some (.tup (DL other)), some (.int x), none, v], []⟩) ?_ ?_ none
  ·intro y hy v r acc hn
   (try dsimp only [bz, aA, ac, cP, aL, MS.set, aY, aK, au, al, aq, cz])
   cases hq : (y != x) <;> ((try simp only [hq, Bool.false_eq_true, if_false, if_true] at hn); (try dsimp only [jh, dF, ac, au, al])) <;> exact ⟨trivial, hn _⟩
  ·intro v a
   ((try (left)); (try dsimp only [ci, bV, aY, aK, ay, af, br, bD, ac, au, al, lh, aa, bM, dy, MS.trunc, MS.more, cS, cR, ad, fV, aF, aB, aM, az, b8, av]); (try simp only []))
   (refine ⟨by trivial, ?_⟩; refine ⟨aE (by rw [bY]; exact nA), ?_⟩)
   refine jF (fun y => y != -x) (fun v => ⟨[some (.tup (DL one)), some (.tup (DL other)), some (.int x), some (.ref a), v], [(a, .list (DL (one.filter (· != x))))]⟩) ?_ ?_ none
   ·intro y hy v r acc hn
    (try dsimp only [bz, aA, ac, cP, fJ, aq, aL, MS.set, aY, aK, au, al, cz])
    cases hq : (y != -x) <;> ((try simp only [hq, Bool.false_eq_true, if_false, if_true] at hn); (try dsimp only [jh, ci, bV, dF, ac, au, al])) <;> exact ⟨trivial, hn _⟩
   ·intro v b
    have h1 := qr one (· != x) la
    have h2 := qr other (· != -x) lb
    ((try dsimp only [az, ay, al, au, ci, bV, aK, cj]); (try simp only []))
    (repeat first | ((with_reducible refine And.intro ?pa ?_); (case pa => first | decide | lia | exact aE (by lia))) | (left; (try dsimp only [aw, af, bp, a9, aa, ac, au, al, bN, aW, ad, am])))
    refine ⟨a, one.filter (· != x) ++ other.filter (· != -x), rfl, by simp [DL], hc.rest (fin x (-x) ⟨rfl, rfl⟩), fun out ht hm => ?_⟩
    (try dsimp only [aZ, al, aK, az, ay])
    exact bA (rest := [(a, _), (b, _)]) (fl := .ret _) (hk out ht fun y => (hm y).trans (fin _ _ ⟨rfl, rfl⟩ y)) trivial rfl (List.nil_sublist _) rfl
 ·have ev : ((x.natAbs : Nat) : Int) = -x := by lia
  have e0 : decide (-x ∈ one) = false := by
   simp only [decide_eq_false_iff_not]
   intro q
   have := apA x hc.l (-x) q (pD rfl)
   lia
  have e1 : decide (x ∈ one) = true := by simpa using hc.l
  have e2 : decide (-x ∈ other) = true := by simpa using hc.r
  ((try dsimp only [aB, aM, cS, cR, jg, n8, af, bw, dz, aA, ac, yb]); (try simp only [ev, bk, bF, az, ay, au, al, fO, Bool.false_bne, b8, cG, am, kE, cz, e0, gN, b0, af, bw, dz, aA, fJ, ac, yb, aq, Int.neg_neg, e1, gq, e2, cH, cQ, ba, bM, dy, MS.trunc, aM, bV, MS.more, cS, cR, aL, MS.set, aB]))
  (refine ⟨aE (by rw [bY]; exact nA), ?_⟩)
  refine jF (fun y => y != x) (fun v => ⟨[some (.tup (DL one)), some (.tup (DL other)), some (.int (-x)), none, v], []⟩) ?_ ?_ none
  ·intro y hy v r acc hn
   ((try dsimp only [bz, aA, ac, cP, fJ, aq, aL, MS.set, aY, aK, au, al, cz]); (try simp only [Int.neg_neg]))
   cases hq : (y != x) <;> ((try simp only [hq, Bool.false_eq_true, if_false, if_true] at hn); (try dsimp only [jh, dF, ac, au, al])) <;> exact ⟨trivial, hn _⟩
  ·intro v a
   ((try (left)); (try dsimp only [ci, bV, aY, aK, ay, af, br, bD, ac, au, al, lh, aa, bM, dy, MS.trunc, MS.more, cS, cR, ad, fV, aF, aB, aM, az, b8, av]); (try simp only []))
   (refine ⟨by trivial, ?_⟩; refine ⟨aE (by rw [bY]; exact nA), ?_⟩)
   refine jF (fun y => y != -x) (fun v => ⟨[some (.tup (DL one)), some (.tup (DL other)), some (.int (-x)), some (.ref a), v], [(a, .list (DL (one.filter (· != x))))]⟩) ?_ ?_ none
   ·intro y hy v r acc hn
    (try dsimp only [bz, aA, ac, cP, aL, MS.set, aY, aK, au, al, aq, cz])
    cases hq : (y != -x) <;> ((try simp only [hq, Bool.false_eq_true, if_false, if_true] at hn); (try dsimp only [jh, ci, bV, dF, ac, au, al])) <;> exact ⟨trivial, hn _⟩
   ·intro v b
    have h1 := qr one (· != x) la
    have h2 := qr other (· != -x) lb
    ((try dsimp only [az, ay, al, au, ci, bV, aK, cj]); (try simp only []))
    (repeat first | ((with_reducible refine And.intro ?pa ?_); (case pa => first | decide | lia | exact aE (by lia))) | (left; (try dsimp only [aw, af, bp, a9, aa, ac, au, al, bN, aW, ad, am])))
    refine ⟨a, one.filter (· != x) ++ other.filter (· != -x), rfl, by simp [DL], hc.rest (fin x (-x) ⟨rfl, rfl⟩), fun out ht hm => ?_⟩
    (try dsimp only [aZ, al, aK, az, ay])
    exact bA (rest := [(a, _), (b, _)]) (fl := .ret _) (hk out ht fun y => (hm y).trans (fin _ _ ⟨rfl, rfl⟩ y)) trivial rfl (List.nil_sublist _) rfl
theorem yZ : ∀ {a b : List Int}, a.Pairwise (fun x y => x.natAbs < y.natAbs) → b.Pairwise (fun x y => x.natAbs < y.natAbs) → (∀ x, x ∈ a ↔ x ∈ b) → a = b
 | [], [], _, _, _ => rfl
 | [], y :: b, _, _, h => absurd ((h y).mpr c8) (by simp)
 | x :: a, [], _, _, h => absurd ((h x).mp c8) (by simp)
 | x :: a, y :: b, ha, hb, h => by
  obtain ⟨a1, a2⟩ := List.pairwise_cons.mp ha
  obtain ⟨b1, b2⟩ := List.pairwise_cons.mp hb
  have exy : x = y := by
   rcases HL ((h x).mp c8) with e | q
   ·exact e
   ·rcases HL ((h y).mpr c8) with e | q2
    ·exact e.symm
    ·have := b1 x q; have := a1 y q2; lia
  subst exy
  rw [yZ a2 b2 fun z => ?_]
  constructor
  ·intro q
   rcases HL ((h z).mp (dP _ q)) with e | q2
   ·subst e; have := a1 _ q; lia
   ·exact q2
  ·intro q
   rcases HL ((h z).mpr (dP _ q)) with e | q2
   ·subst e; have := b1 _ q; lia
   ·exact q2
inductive xh (rows : List cT) : List Int → List (Nat × Nat) → List Int → Prop
 | nil {st : List Int} : xh rows st [] st
 | cons {st st' out : List Int} {x : Int} {n : Nat} {r : cT} {ps : List (Nat × Nat)} : rows[n]? = some r → qq st r.cl x → kO st' → (∀ y, y ∈ st' ↔ (y ∈ st ∨ y ∈ r.cl) ∧ y.natAbs ≠ x.natAbs) → xh rows st' ps out → xh rows st ((x.natAbs, n) :: ps) out
theorem qq.next {st o st' : List Int} {x : Int} (h : qq st o x) (ht : kO st') (hm : ∀ y, y ∈ st' ↔ (y ∈ st ∨ y ∈ o) ∧ y.natAbs ≠ x.natAbs) : dL st' := ⟨ht, fun y hy => by
 rcases ((hm y).mp hy).1 with q | q
 ·exact h.a.2 y q
 ·exact h.b.2 y q⟩
theorem xh.ok {rows : List cT} {st out : List Int} {ps : List (Nat × Nat)} (h : xh rows st ps out) (hc : dL st) : dL out := by
 induction h with
 | nil => exact hc
 | cons h1 h2 h3 h4 _ ih => exact ih (h2.next h3 h4)
theorem xh.snoc {rows : List cT} {st out out' : List Int} {ps : List (Nat × Nat)} {n : Nat} {r : cT} {x : Int} (h : xh rows st ps out) (hr : rows[n]? = some r) (hc : qq out r.cl x) (ht : kO out') (hm : ∀ y, y ∈ out' ↔ (y ∈ out ∨ y ∈ r.cl) ∧ y.natAbs ≠ x.natAbs) :
  xh rows st (ps ++ [(x.natAbs, n)]) out' := by
 induction h with
 | nil => exact .cons hr hc ht hm .nil
 | cons h1 h2 h3 h4 _ ih => exact .cons h1 h2 h3 h4 (ih hc hm)
theorem xh.refs {rows : List cT} {st out : List Int} {ps : List (Nat × Nat)} (h : xh rows st ps out) : ∀ q ∈ ps, q.2 < rows.length := by
 induction h with
 | nil => exact fun _ q => nomatch q
 | cons h1 _ _ _ _ ih =>
  intro q hq
  rcases HL hq with rfl | hq
  ·exact (List.getElem?_eq_some_iff.mp h1).1
  ·exact ih q hq
noncomputable def kP (q : Nat × Nat) : D := .tup [.int (q.1 : Nat), .int (q.2 : Nat)]
noncomputable def PL (ps : List (Nat × Nat)) : List D := ps.map kP
theorem lF {ps : List (Nat × Nat)} : (PL ps).length = ps.length := by simp [PL]
noncomputable def dX (first : Nat) (ps : List (Nat × Nat)) (stand : List Int) : cT := ⟨"resolve", stand, (first : Int) :: ps.map fun q => (q.2 : Int), .tup (DL (ps.map fun q => (q.1 : Int)))⟩
theorem ic {α β : Type} {g : GC} {t : BC} {f : EC} {d7 : MS → Prop} {cut : MS → MS} {k : List D → MS → Prop} {l : List α} (q : α → D) (h : α → Option D) (St : β → MS)
  (hs : ∀ (x : α), x ∈ l → ∀ (v : β) (r acc : List D), (∀ v', du g t f d7 cut r (St v') (acc ++ (h x).toList) k) → du g t f d7 cut (q x :: r) (St v) acc k)
  (hk : ∀ v, k (l.filterMap h) (St v)) (v : β) : du g t f d7 cut (l.map q) (St v) [] k := by
 refine gT (fun r σ acc => G2 fun n1 n2 => Ef (l = n1 ++ n2) (r = n2.map q) (acc = n1.filterMap h) (∃ v, σ = St v)) ?_ ?_ _ _ _ ⟨[], l, rfl, rfl, rfl, v, rfl⟩
 ·rintro σ acc ⟨n1, n2, e, hr, rfl, v, rfl⟩
  cases n2 with
  | nil => rw [List.append_nil] at e; subst e; exact hk v
  | cons _ _ => cases hr
 ·rintro d r σ acc ⟨n1, n2, e, hr, rfl, v, rfl⟩ ih
  cases n2 with
  | nil => cases hr
  | cons x n2 =>
   cases hr
   refine hs x (by rw [e]; simp) v _ _ fun v' => ?_
   refine ih _ _ ⟨n1 ++ [x], n2, by rw [e]; simp, rfl, ?_, v', rfl⟩
   rw [List.filterMap_append]
   cases hq : h x <;> simp [hq]
theorem dm {α β : Type} (f : α → β) (l : List α) : l.filterMap (fun x => some (f x)) = l.map f := by
 induction l with
 | nil => rfl
 | cons a l ih => simp
inductive iG : List D → List (Addr × O) → cu → Prop
 | mk {ds : List D} {sub : List (Addr × O)} {k : cu} (a dx s nm e rows named pa first r ps stand : _) (h0 : ds = [.ref a, .int (first : Nat), .ref pa]) (h1 : sub = PR a dx s nm e rows named ++ [(pa, .list (PL ps))]) (h2 : rows.length ≤ 1000) (h3 : rows[first]? = some r) (h4 : dL r.cl) (h5 : xh rows r.cl ps stand) (h6 : ps.length ≤ 100) (h7 : (ps = [] → k (.int (first : Nat)) [PO dx s nm e, .list (RL rows), .list named, .list (PL ps)] [])) (h8 : (ps ≠ [] → ∀ e', k (.int (rows.length : Nat)) [PO dx s nm e', .list (RL (rows ++ [dX first ps stand])), .list named, .list (PL ps)] [])) : iG ds sub k
theorem rE : fC (kg ey ia ji) 7 iG := by
 rintro ds sub k ⟨a, dx, s, nm, e, rows, named, pa, first, r, ps, stand, rfl, rfl, hl, hr, hok, hrun, hps, hk1, hk2⟩
 ((try dsimp only [aB, aM, cS, cR, PR, PO, az, ay, kg, fy, af, ba, bB, ac, bN, aL, MS.set, aa, ad, aG, al, au, am, aH]); (try simp only [bk, bF, az, ay, al, au, aY, aK, aF]))
 (repeat first | ((with_reducible refine And.intro ?pa ?_); (case pa => first | decide | lia | exact aE (by first | decide | lia | (simp only [c7, bY, eX, dI, aB, aM]; lia)))) | (left))
 refine ⟨a, dx, s, nm, e, rows, named, first, r, rfl, rfl, hl, hr, ?_⟩
 ((try (left)); (try dsimp only [PO, aZ, al, aK, au, aY, az, ay, af, dq, bR, ac, MS.trunc, aB, aM, av]); (try simp only []))
 (repeat first | ((with_reducible refine And.intro ?pa ?_); (case pa => first | decide | lia | exact aE (by first | decide | lia | (simp only [c7, bY, eX, dI, aB, aM]; lia)))) | (left))
 refine bS (fun l σ => EZ fun st q v w => Ef (l = PL q) (dL st) (xh rows st q stand) (σ = ⟨[some (.ref a), some (.int first), some (.ref pa), some (.tup (DL st)), v, w, none], PR a dx s nm e rows named ++ [(pa, .list (PL ps))]⟩)) ?_ ?_ _ _ ⟨r.cl, ps, _, _, rfl, hok, hrun, rfl⟩
 ·rintro σ ⟨st, q, v, w, hq, hst, hrq, rfl⟩
  have : q = [] := by
   cases q with
   | nil => rfl
   | cons _ _ => cases hq
  subst this
  cases hrq
  have hso := hst.len
  by_cases hp0 : ps = []
  ·subst hp0
   ((try (left)); (try dsimp only [PR, PO, az, ay, af, bw, aA, bK, aa, ac, au, al, cP, ao, aq, bv, cz, ad, b6, cj, c9]); (try simp only [lF, aM, Int.natCast_zero, beq_self_eq_true, cQ, af, bp, ac, au, al, aW]))
   (repeat first | ((with_reducible refine And.intro ?pa ?_); (case pa => first | decide | lia | exact aE (by first | decide | lia | (simp only [c7, bY, eX, dI, aB, aM]; lia)))) | (left))
   exact bA (rest := []) (fl := .ret _) (hk1 rfl) ⟨rfl, rfl, rfl, rfl, trivial⟩ rfl (List.nil_sublist _) rfl
  ·have hpl : ((ps.length : Int) == 0) = false := by
    have : ps.length ≠ 0 := fun e => hp0 (List.length_eq_zero_iff.mp e)
    simp; exact ooK
   ((try (left)); (try dsimp only [PR, PO, az, ay, af, bw, aA, bK, aa, ac, au, al, cP, ao, aq, bv, cz, ad, b6, cj, c9]); (try simp only [lF, hpl, b0, aw]))
   (repeat first | ((with_reducible refine And.intro ?pa ?_); (case pa => first | decide | lia | exact aE (by first | decide | lia | (simp only [c7, bY, eX, dI, aB, aM]; lia)))) | (left; (try dsimp only [af, ba, bC, cD, aa, ac, au, al, aL, MS.set, cO, bK, bM, bR, MS.trunc, MS.more, cS, cR, c6, b8, ad, b6, c9, kE, aB, az, aM, ay, av]); (try simp only [lF])))
   refine ic (l := ps) (q := kP) (fun q => some (.int (q.2 : Nat))) (fun (z : Option D × Option D) => ⟨[some (.ref a), some (.int first), some (.ref pa), some (.tup (DL stand)), v, w, none, z.1, z.2], PR a dx s nm e rows named ++ [(pa, .list (PL ps))]⟩) ?_ ?_ (none, none)
   ·intro x hx v r acc hn
    ((try dsimp only [PR, PO, az, ay, Option.toList] at hn); (try dsimp only [kP, PR, PO, az, ay, bz, cH, dF, ac, gF, aB, aM, MS.setAll, MS.set, aY, aK, au, al, ci, bV]); (try simp only []))
    (repeat first | ((with_reducible refine And.intro ?pa ?_); (case pa => first | decide | lia | exact aE (by first | decide | lia | (simp only [c7, bY, eX, dI, aB, aM]; lia)))) | (left))
    exact hn (_, _)
   ·intro z b
    rw [dm]
    ((try dsimp only [PR, PO, az, ay, au, al, ci, bV, aY, aK, cj]); (try simp only []))
    (repeat first | ((with_reducible refine And.intro ?pa ?_); (case pa => first | decide | lia | exact aE (by first | decide | lia | (simp only [c7, bY, eX, dI, aB, aM]; lia)))) | (left; (try dsimp only [af, bp, bB, ac, al, bN, aW, aa, bh, bK, bM, bR, MS.trunc, MS.more, cS, cR, ad, c6, b6, c9, aG, au, aB, aM, az, ay, av, aH, aF]); (try simp only [bk, bF, lF])))
    refine ic (l := ps) (q := kP) (fun q => some (.int (q.1 : Nat))) (fun (z : Option D × Option D) => ⟨[some (.ref a), some (.int first), some (.ref pa), some (.tup (DL stand)), v, w, some (.tup (.int first :: ps.map fun q => .int (q.2 : Nat))), z.1, z.2], PR a dx s nm e rows named ++ [(pa, .list (PL ps)), (b, .list (ps.map fun q => .int (q.2 : Nat)))]⟩) ?_ ?_ (none, none)
    ·intro x hx v r acc hn
     ((try dsimp only [PR, PO, az, ay, Option.toList] at hn); (try dsimp only [kP, PR, PO, az, ay, bz, cH, dF, ac, gF, aB, aM, MS.setAll, MS.set, aY, aK, au, al, ci, bV]); (try simp only []))
     (repeat first | ((with_reducible refine And.intro ?pa ?_); (case pa => first | decide | lia | exact aE (by first | decide | lia | (simp only [c7, bY, eX, dI, aB, aM]; lia)))) | (left))
     exact hn (_, _)
    ·intro z c
     rw [dm]
     ((try dsimp only [PR, PO, az, ay, au, al, ci, bV, am, cj]); (try simp only []))
     (repeat first | ((with_reducible refine And.intro ?pa ?_); (case pa => first | decide | lia | exact aE (by first | decide | lia | (simp only [c7, bY, eX, dI, aB, aM]; lia)))) | (left))
     have hfl : first < rows.length := (List.getElem?_eq_some_iff.mp hr).1
     refine ⟨a, dx, s, nm, e, rows, named, dX first ps stand, by simp [dX, DL, Function.comp_def], rfl, hl, by simp [dX, ir], hst.1, by show stand.length ≤ 1000; exact nA, by simp [dX]; exact nA, ?_, fun e' => ?_⟩
     ·intro x hx
      rcases HL hx with rfl | hx
      ·lia
      ·obtain ⟨q, hq, rfl⟩ := List.mem_map.mp hx
       have := hrun.refs q hq
       lia
     ·(try dsimp only [aZ, al, aK, au, aY, az, ay])
      exact bA (rest := [(b, _), (c, _)]) (fl := .ret _) (hk2 hp0 e') ⟨rfl, rfl, rfl, rfl, trivial⟩ rfl (List.nil_sublist _) rfl
 ·rintro d l σ ⟨st, q, v, w, hq, hst, hrq, rfl⟩ ih
  cases hrq with
  | nil => cases hq
  | @cons _ st' _ x n r' ps' h1 h2 h3 h4 h5 =>
   cases hq
   ((try dsimp only [kP, PR, PO, az, ay, bj, af, ba, a9, aa, ac, bN, aL, MS.set, aZ, am, bB, ad, aG, gF, aB, aM, MS.setAll, aY, aK, au, al, aH, aF]); (try simp only [bk, bF]))
   (repeat first | ((with_reducible refine And.intro ?pa ?_); (case pa => first | decide | lia | exact aE (by first | decide | lia | (simp only [c7, bY, eX, dI, aB, aM]; lia)))) | (left))
   refine ⟨a, dx, s, nm, e, rows, named, n, r', rfl, rfl, hl, h1, ?_⟩
   refine ⟨st, r'.cl, x, rfl, rfl, h2, fun out ht hm => ?_⟩
   have eo : out = st' := yZ ht.2 h3.2 fun y => (hm y).trans (h4 y).symm
   subst eo
   ((try (left)); (try dsimp only [PO, aZ, al, aK, au, aY, az, ay, af, bw, aA, ac, Cl, g6, cQ, eS, b0, aw]); (repeat (left; (try dsimp only [aw, bb, au, al, ci, bV]); (try simp only []))))
   (refine ⟨by trivial, ?_⟩; refine ih _ ⟨out, ps', _, _, rfl, h2.next h3 h4, h5, rfl⟩)
inductive gU : List D → List (Addr × O) → cu → Prop
 | mk {ds : List D} {sub : List (Addr × O)} {k : cu} (a r m : _) (h0 : ds = [.ref a, .int m]) (h1 : sub = [(a, .list [.int r])]) (h2 : 0 < m) (h3 : m < 2 ^ 20) (h4 : ∀ d r', 0 ≤ d → d < m → k (.int d) [.list [.int r']] []) : gU ds sub k
theorem uj : fC mU 3 gU := by
 rintro ds sub k ⟨a, r, m, rfl, rfl, h0, h1, hk⟩
 have e : iq [D.int r] (0 : Int) = some (.int r) := rfl
 ((try dsimp only [mU, aB, aM, cS, cR, af, ba, bC, aX, ac, aL, MS.set, tE, ao, aq, al]); (try simp only [bk, bF, az, ay, al, au, aY, aK, aq, av, e, am]))
 (refine ⟨by trivial, ?_⟩; (repeat (left; (try dsimp only [af, eM, bC, aX, ac, al, ao, aq, tD, au, aK, vI, aB, aM, aF, av, cI, am, bp, aW]); (try simp only []))); refine ⟨by lia, ?_⟩; (repeat (left; (try dsimp only [af, eM, bC, aX, ac, al, ao, aq, tD, au, aK, vI, aB, aM, aF, av, cI, am, bp, aW]); (try simp only []))); refine ⟨by trivial, ?_⟩; (repeat (left; (try dsimp only [af, eM, bC, aX, ac, al, ao, aq, tD, au, aK, vI, aB, aM, aF, av, cI, am, bp, aW]); (try simp only []))); refine ⟨⟨h0, h1⟩, ?_⟩; (repeat (left; (try dsimp only [af, eM, bC, aX, ac, al, ao, aq, tD, au, aK, vI, aB, aM, aF, av, cI, am, bp, aW]); (try simp only []))); refine ⟨by trivial, ?_⟩; (repeat (left; (try dsimp only [af, eM, bC, aX, ac, al, ao, aq, tD, au, aK, vI, aB, aM, aF, av, cI, am, bp, aW]); (try simp only []))); refine ⟨by decide, ?_⟩; (repeat (left; (try dsimp only [af, eM, bC, aX, ac, al, ao, aq, tD, au, aK, vI, aB, aM, aF, av, cI, am, bp, aW]); (try simp only []))))
 exact bA (rest := []) (fl := .ret _) (hk _ (r.fdiv m) (Int.fmod_nonneg_of_pos _ h0) (Int.fmod_lt_of_pos _ h0)) ⟨rfl, trivial⟩ rfl (List.nil_sublist _) rfl
inductive gA : List D → List (Addr × O) → cu → Prop
 | mk {ds : List D} {sub : List (Addr × O)} {k : cu} (a r m : _) (h0 : ds = [.ref a, .int m]) (h1 : sub = [(a, .list [.int r])]) (h2 : 0 < m) (h3 : m ≤ 5) (h4 : ∀ l r', l ≠ 0 → (l.natAbs : Int) ≤ m → k (.int l) [.list [.int r']] []) : gA ds sub k
theorem rF : fC (km gU) 3 gA := by
 rintro ds sub k ⟨a, r, m, rfl, rfl, h0, h1, hk⟩
 ((try dsimp only [aB, aM, cS, cR, km, fy, af, ba, aL, MS.set, oV, aA, a9, aa, ac, bN, cP, ao, aq, ad, al, am]); (try simp only [bk, bF, az, ay, al]))
 refine ⟨a, r, 2, rfl, rfl, by decide, by decide, fun d r1 hd0 hd1 => ?_⟩
 (try dsimp only [cz, aZ, al, aK, az, ay])
 cases hq : (d == 1)
 all_goals
  ((try dsimp only [rC, ao, aY, aK, mZ, fJ, aq]); (repeat (left; (try dsimp only [af, bp, bC, ac, au, al, aW, CF, ao, a9, aa, bN, cO, aq, cz, ad, am]))))
  refine ⟨a, r1, m, rfl, rfl, h0, ooP, fun d2 r2 hd2 hd3 => ?_⟩
  (try dsimp only [aq, aZ, al, aK, az, ay])
  refine ⟨.of_left (by decide), ?_⟩
  exact bA (rest := []) (fl := .ret _) (hk _ r2 (by lia) (by lia)) ⟨rfl, trivial⟩ rfl (List.nil_sublist _) rfl
noncomputable def F3 : Pos := ⟨348, 35, 348, 74⟩
noncomputable def gB : O := .tab F3 AO
theorem BS {ks : List Int} (hn : ks.Nodup) (h : iV ks) : gy sb ks := by
 have key : ∀ x ∈ ks, ∀ y ∈ ks, sA x = sA y → x = y := fun x hx y hy e => by
  refine h x hx y hy ?_
  unfold sA at e
  simp only [decide_eq_true_eq] at e
  split at e <;> split at e <;> lia
 refine ⟨fun x _ => by simp [sb], fun x hx y hy hne => ?_, fun x _ y _ z _ h1 h2 => ?_, hn⟩
 ·have : sA x ≠ sA y := fun e => hne (key x hx y hy e)
  simp only [sb]
  by_cases hlt : sA x < sA y
  ·simp [hlt]; lia
  ·simp [hlt]; lia
 ·simp only [sb, decide_eq_true_eq] at *
  lia
theorem y0 {ns ks out : List Int} (h0 : ∀ x ∈ ns, x ≠ 0) (ha : iV ks) (hm : ∀ x, x ∈ ks ↔ x ∈ ns) (h : jd sb ks out) : kO out ∧ ∀ x, x ∈ out ↔ x ∈ ns := by
 refine ⟨⟨fun x hx => h0 x ((hm x).mp (h.1.mem_iff.mp hx)), ?_⟩, fun x => h.1.mem_iff.trans (hm x)⟩
 refine List.Pairwise.imp_of_mem (fun {x y} hx hy q => ?_) h.2
 have h1 := ha x (h.1.mem_iff.mp hx) y (h.1.mem_iff.mp hy)
 simp only [sb, decide_eq_true_eq] at q
 by_cases e : x.natAbs = y.natAbs
 ·have := h1 e; subst this; lia
 ·unfold sA at q
  simp only [decide_eq_true_eq] at q
  split at q <;> split at q <;> lia
inductive ie : List D → List (Addr × O) → cu → Prop
 | mk {ds : List D} {sub : List (Addr × O)} {k : cu} (a ns : _) (h0 : ds = [.ref a]) (h1 : sub = [(a, .list (DL ns)), (514, gB)]) (h2 : (∀ x ∈ ns, x ≠ 0 ∧ x.natAbs ≤ 5)) (h3 : ns.length ≤ 1000) (h4 : (¬ ib ns → k .none [.list (DL ns), gB] [])) (h5 : (ib ns → ∀ out, kO out → (∀ x, x ∈ out ↔ x ∈ ns) → k (.tup (DL out)) [.list (DL ns), gB] [])) : ie ds sub k
theorem sH : fC lC 3 ie := by
 rintro ds sub k ⟨a, ns, rfl, rfl, hns, hl, hk1, hk2⟩
 ((try dsimp only [lC, aB, aM, cS, cR, gB, af, ba, bg, ad, aL, MS.set, az, ay]); (try simp only [bk, bF, az, ay, aY, aK]))
 (refine ⟨aE (by decide), ?_⟩; (repeat (left; (try dsimp only [af, dq, bR, ac, al, MS.trunc, aB, aM, av]); (try simp only []))); refine fun b => ?_; (repeat (left; (try dsimp only [af, dq, bR, ac, al, MS.trunc, aB, aM, av]); (try simp only []))); refine ⟨by trivial, ?_⟩; (repeat (left; (try dsimp only [af, dq, bR, ac, al, MS.trunc, aB, aM, av]); (try simp only []))))
 refine bS (fun r σ => Fc fun ns1 ns2 ks => Gc (ns = ns1 ++ ns2) (r = DL ns2) (ks.Nodup) ((∀ x, x ∈ ks ↔ x ∈ ns1)) (ib ns1) (∃ v, σ = ⟨[some (.ref a), some (.ref b), v], [(a, .list (DL ns)), (514, gB), (b, .list (DL ks))]⟩)) ?_ ?_ _ _ ⟨[], ns, [], rfl, rfl, .nil, by simp, (fun x q => nomatch q), _, rfl⟩
 ·rintro σ ⟨ns1, ns2, ks, e, hr, hn, hm, hc, v, rfl⟩
  have e2 : ns2 = [] := by
   cases ns2 with
   | nil => rfl
   | cons _ _ => cases hr
  subst e2
  rw [List.append_nil] at e
  subst e
  have hap : iV ks := fun x hx y hy => hc.apart x ((hm x).mp hx) y ((hm y).mp hy)
  have h5 := hc.five hn fun x hx => (hm x).mp hx
  ((try (left)); (try dsimp only [gB, af, bp, bK, aa, tO, ac, au, al, gH, aW, c6, ad, b6, c9, az, ay, cj, tq]); (try simp only [cG, am]))
  refine ⟨rfl, by trivial, h5, by trivial, BS hn hap, fun out c hs => ?_⟩
  obtain ⟨t1, t2⟩ := y0 (fun x hx => (hc x hx).1) hap hm hs
  have hlen : out.length ≤ 5 := by rw [hs.1.length_eq]; exact h5
  (refine ⟨by trivial, ?_⟩; refine ⟨aE (by rw [dI]; exact nA), ?_⟩)
  exact bA (rest := [(b, _), (c, _)]) (fl := .ret _) (hk2 hc out t1 t2) ⟨rfl, rfl, trivial⟩ rfl (List.nil_sublist _) rfl
 ·rintro d r σ ⟨ns1, ns2, ks, e, hr, hn, hm, hc, v, rfl⟩ ih
  cases ns2 with
  | nil => cases hr
  | cons x ns2 =>
   cases hr
   have hx : x ∈ ns := by rw [e]; simp
   have hl5 : ks.length ≤ 5 := hc.five hn fun y hy => (hm y).mp hy
   by_cases hnx : -x ∈ ks
   ·((try dsimp only [bj, gB, af, bw, aA, fJ, ac, kG, aq, aL, MS.set, aY, aK, au, al, av]); (try simp only [cG, fO, am, hnx, decide_true, Bool.bne_true, Bool.not_false, cQ, af, bp, g6, aW, BL]))
    (refine ⟨by trivial, ?_⟩)
    refine bA (rest := [(b, _)]) (fl := .ret _) (hk1 fun q => ?_) ⟨rfl, rfl, trivial⟩ rfl (List.nil_sublist _) rfl
    exact (q x hx).2.1 (by rw [e]; exact List.mem_append_left _ ((hm _).mp hnx))
   ·have hc' : ib (ns1 ++ [x]) := fun y hy => by
     have hh := hns
     rcases List.mem_append.mp hy with q | q
     ·refine ⟨(hc y q).1, fun z => ?_, (hc y q).2.2⟩
      rcases List.mem_append.mp z with z | z
      ·exact (hc y q).2.1 z
      ·have : -y = x := by simpa using z
       exact hnx (by rw [← this, Int.neg_neg]; exact (hm _).mpr q)
     ·obtain rfl : y = x := by simpa using q
      refine ⟨(hns y hx).1, fun z => ?_, (hns y hx).2⟩
      rcases List.mem_append.mp z with z | z
      ·exact hnx ((hm _).mpr z)
      ·have : -y = y := by simpa using z
       have := (hns y hx).1
       lia
    by_cases hxk : x ∈ ks
    ·((try dsimp only [gB] at ih); (try dsimp only [bj, gB, af, bw, aA, fJ, ac, kG, aq, aL, MS.set, aY, aK, au, al, av]); (try simp only [cG, fO, am, hnx, decide_false, Bool.bne_false, b0, aw]))
     (refine ⟨by trivial, ?_⟩; (repeat (left; (try dsimp only [af, bw, aA, ac, au, al, kG, av, aq, aw, bb, ci, bV]); (try simp only [cG, fO, am, hxk, decide_true, Bool.bne_true, Bool.not_true, b0, aw]))); refine ⟨by trivial, ?_⟩; (repeat (left; (try dsimp only [af, bw, aA, ac, au, al, kG, av, aq, aw, bb, ci, bV]); (try simp only [cG, fO, am, hxk, decide_true, Bool.bne_true, Bool.not_true, b0, aw]))); refine ⟨by trivial, ?_⟩; (repeat (left; (try dsimp only [af, bw, aA, ac, au, al, kG, av, aq, aw, bb, ci, bV]); (try simp only [cG, fO, am, hxk, decide_true, Bool.bne_true, Bool.not_true, b0, aw]))); refine ih _ ⟨ns1 ++ [x], ns2, ks, by rw [e]; simp, rfl, hn, fun y => ?_, hc', _, rfl⟩)
     simp only [List.mem_append, List.mem_singleton, hm]
     exact ⟨.inl, fun q => q.elim id fun q => by subst q; exact (hm _).mp hxk⟩
    ·((try dsimp only [gB] at ih); (try dsimp only [bj, gB, af, bw, aA, fJ, ac, kG, aq, aL, MS.set, aY, aK, au, al, av]); (try simp only [cG, fO, am, hnx, decide_false, Bool.bne_false, b0, aw]))
     have hle : (DL ks).length ≤ 2 ^ 20 := by rw [bY]; exact nA
     (refine ⟨by trivial, ?_⟩; (repeat (left; (try dsimp only [af, bw, aA, ac, au, al, kG, av, aq, aw, bb, ci, bV]); (try simp only [cG, fO, am, hxk, decide_false, Bool.bne_false, cQ, af, br, bD, ac, au, al, aa, ad, bl, aY, aK, fV, av]))); refine ⟨by trivial, ?_⟩; (repeat (left; (try dsimp only [af, bw, aA, ac, au, al, kG, av, aq, aw, bb, ci, bV]); (try simp only [cG, fO, am, hxk, decide_false, Bool.bne_false, cQ, af, br, bD, ac, au, al, aa, ad, bl, aY, aK, fV, av]))); refine ⟨by trivial, ?_⟩; (repeat (left; (try dsimp only [af, bw, aA, ac, au, al, kG, av, aq, aw, bb, ci, bV]); (try simp only [cG, fO, am, hxk, decide_false, Bool.bne_false, cQ, af, br, bD, ac, au, al, aa, ad, bl, aY, aK, fV, av]))); refine ⟨by trivial, ?_⟩; (repeat (left; (try dsimp only [af, bw, aA, ac, au, al, kG, av, aq, aw, bb, ci, bV]); (try simp only [cG, fO, am, hxk, decide_false, Bool.bne_false, cQ, af, br, bD, ac, au, al, aa, ad, bl, aY, aK, fV, av]))); refine ⟨hle, ?_⟩; (repeat (left; (try dsimp only [af, bw, aA, ac, au, al, kG, av, aq, aw, bb, ci, bV]); (try simp only [cG, fO, am, hxk, decide_false, Bool.bne_false, cQ, af, br, bD, ac, au, al, aa, ad, bl, aY, aK, fV, av]))); refine ⟨by trivial, ?_⟩; (repeat (left; (try dsimp only [af, bw, aA, ac, au, al, kG, av, aq, aw, bb, ci, bV]); (try simp only [cG, fO, am, hxk, decide_false, Bool.bne_false, cQ, af, br, bD, ac, au, al, aa, ad, bl, aY, aK, fV, av]))); refine ih _ ⟨ns1 ++ [x], ns2, ks ++ [x], by rw [e]; simp, rfl, ?_, fun y => ?_, hc', some (.int x), ?_⟩)
     ·exact List.nodup_append.mpr ⟨hn, by simp, fun y hy z hz e => hxk (by simp at hz; rw [← hz, ← e]; exact hy)⟩
     ·simp only [List.mem_append, List.mem_singleton, hm]
     ·simp [DL]
noncomputable def jW : List Str := ir ++ (["sum", "carry", "cut-off"] : List Str)
mutual
noncomputable def jl : D → Bool
 | .none => true
 | .int i => decide (i.natAbs ≤ 20)
 | .str x => jW.contains x
 | .tup ds => dD ds
 | .bool _ => false
 | .ref _ => false
noncomputable def dD : List D → Bool
 | [] => true
 | d :: ds => jl d && dD ds
end
mutual
noncomputable def cost : D → Nat
 | .tup ds => 1 + cb ds
 | .none | .int _ | .str _ | .bool _ | .ref _ => 1
noncomputable def cb : List D → Nat
 | [] => 0
 | d :: ds => cost d + cb ds
end
theorem BU : (jW.all fun x => PyData.strOk x) = true := by decide +kernel
theorem BV : (jW.all fun x => decide ((reprText x).length ≤ 20)) = true := by decide +kernel
theorem gD {i : Int} (h : i.natAbs ≤ 20) : i.natAbs.log2 < 1920 := by
 have : i.natAbs.log2 ≤ i.natAbs := Nat.log2_le_self _
 lia
noncomputable def fz : List Int := (List.range 41).map fun (n : Nat) => (n : Int) - 20
theorem f6 {i : Int} (h : i.natAbs ≤ 20) : i ∈ fz := by
 cases i with
 | ofNat n => exact List.mem_map.mpr ⟨n + 20, List.mem_range.mpr (Nat.add_lt_add_right (Nat.lt_succ_of_le h) 20), Int.add_sub_cancel (n : Int) 20⟩
 | negSucc n => exact List.mem_map.mpr ⟨20 - (n + 1), List.mem_range.mpr (Nat.lt_of_le_of_lt (Nat.sub_le _ _) (by decide)), by rw [Int.ofNat_sub (show n + 1 ≤ 20 from h), Int.sub_sub, Int.add_comm, ← Int.sub_sub]; rfl⟩
theorem Dw : (fz.all fun i => decide ((Str.ofString (toString i)).length ≤ 3)) = true := by decide +kernel
theorem AQ {i : Int} (h : i.natAbs ≤ 20) : (Str.ofString (toString i)).length ≤ 3 := by
 simpa using List.all_eq_true.mp Dw i (f6 h)
theorem xi (ts : List Str) : (tupleText ts).length ≤ (ts.map (·.length)).sum + 2 * ts.length + 3 := by
 unfold tupleText
 have h1 := StrLaws.join_length_le ", " ts
 have e2 : ((", " : String) : Str).length = 2 := rfl
 have e3 : ((if ts.length == 1 then ",)" else ")" : String) : Str).length ≤ 2 := by split <;> decide
 have e4 : (("(" : String) : Str).length = 1 := rfl
 rw [Str.length_append, Str.length_append, e4]
 rw [e2] at h1
 lia
theorem xj {P : D → Prop} {Q : List D → Prop} (h0 : P .none) (hi : ∀ z : Int, z.natAbs ≤ 20 → P (.int z)) (hs : ∀ x, x ∈ jW → P (.str x)) (ht : ∀ es, dD es = true → Q es → P (.tup es)) (hn : Q []) (hc : ∀ d es, jl d = true → dD es = true → P d → Q es → Q (d :: es)) :
  (∀ d, jl d = true → P d) ∧ (∀ es, dD es = true → Q es) := by
 have hc' : ∀ d es, (jl d = true → P d) → (dD es = true → Q es) → dD (d :: es) = true → Q (d :: es) := fun d es a b h =>
  have q := (Bool.and_eq_true _ _).mp h
  hc d es q.1 q.2 (a q.1) (b q.2)
 have h1 : ∀ d, jl d = true → P d := fun d =>
  D.rec (motive_1 := fun d => jl d = true → P d) (motive_2 := fun es => dD es = true → Q es) (fun _ => h0) (fun _ h => nomatch h) (fun z h => hi z (of_decide_eq_true h)) (fun x h => hs x (List.contains_iff_mem.mp h)) (fun es ih h => ht es h (ih h)) (fun _ h => nomatch h) (fun _ => hn) hc' d
 refine ⟨h1, fun es => ?_⟩
 induction es with
 | nil => exact fun _ => hn
 | cons d es ih => exact hc' d es (h1 d) ih
noncomputable def GJ (d : D) : Prop := d.pure = true ∧ d.py.canLay0 = true ∧ PyData.showable d.py = true ∧ PyData.hasDict d.py = false ∧ d.py.depth ≤ cost d ∧ (PyData.shown d.py).length + 4 ≤ 30 * cost d
noncomputable def E8 (ds : List D) : Prop := eZ ds = true ∧ PyData.canLayAll0 (bZ ds) = true ∧ PyData.showableAll (bZ ds) = true ∧ PyData.hasDictAll (bZ ds) = false ∧ PyData.depthAll (bZ ds) ≤ cb ds ∧
  ((PyData.shownAll (bZ ds)).map (·.length)).sum + 2 * (PyData.shownAll (bZ ds)).length ≤ 30 * cb ds
theorem AR : (∀ d, jl d = true → GJ d) ∧ (∀ es, dD es = true → E8 es) :=
 xj ⟨rfl, rfl, rfl, rfl, by decide, by decide⟩
  (fun z h => ⟨rfl, rfl, by simpa only [PyData.showable, D.py, decide_eq_true_eq] using gD h, rfl, Nat.zero_le _, by
   have := AQ h
   show (Str.ofString (toString z)).length + 4 ≤ 30 * 1
   lia⟩)
  (fun x h => ⟨rfl, List.all_eq_true.mp BU x h, rfl, rfl, Nat.zero_le _, by
   have := of_decide_eq_true (List.all_eq_true.mp BV x h)
   show (reprText x).length + 4 ≤ 30 * 1
   lia⟩)
  (fun es _ h => ⟨h.1, h.2.1, h.2.2.1, h.2.2.2.1, by
   have := h.2.2.2.2.1
   simp only [PyData.depth, D.py, cost]
   lia, by
   have := xi (PyData.shownAll (bZ es))
   have := h.2.2.2.2.2
   show (tupleText (PyData.shownAll (bZ es))).length + 4 ≤ 30 * (1 + cb es)
   lia⟩)
  ⟨rfl, rfl, rfl, rfl, Nat.le_refl _, Nat.le_refl _⟩
  fun d es _ _ a b => ⟨(Bool.and_eq_true _ _).mpr ⟨a.1, b.1⟩, (Bool.and_eq_true _ _).mpr ⟨a.2.1, b.2.1⟩, (Bool.and_eq_true _ _).mpr ⟨a.2.2.1, b.2.2.1⟩, by
   show (PyData.hasDict d.py || PyData.hasDictAll (bZ es)) = false
   rw [a.2.2.2.1, b.2.2.2.1]; rfl, by
   have := a.2.2.2.2.1
   have := b.2.2.2.2.1
   show max d.py.depth (PyData.depthAll (bZ es)) ≤ cost d + cb es
   lia, by
   have := a.2.2.2.2.2
   have := b.2.2.2.2.2
   simp only [bZ, PyData.shownAll, cb, bk, List.sum_cons, aB]
   lia⟩
theorem Dx {d : D} : jl d = true → d.pure = true ∧ d.py.canLay0 = true ∧ PyData.showable d.py = true ∧ PyData.hasDict d.py = false ∧ d.py.depth ≤ cost d ∧ (PyData.shown d.py).length + 4 ≤ 30 * cost d := AR.1 d
theorem gO {ds : List D} : dD ds = true → E8 ds := AR.2 ds
theorem sr : ∀ (ts : List Str) (k : Nat) (acc : Str), (textFrom k acc ts).length ≤ acc.length + (ts.map (·.length)).sum + 2 * ts.length
 | [], k, acc => by simp [textFrom]
 | t :: ts, k, acc => by
  have := sr ts (k + 1) (acc ++ (if k > 0 then ", " else "" : String) ++ t)
  have e : ((if k > 0 then ", " else "" : String) : Str).length ≤ 2 := by split <;> decide
  rw [Str.length_append, Str.length_append] at this
  simp only [textFrom, bk, List.sum_cons, aB]
  lia
theorem y6 (ts : List Str) : (listText ts).length ≤ (ts.map (·.length)).sum + 2 * ts.length + 2 := by
 unfold listText
 have := sr ts 0 "["
 have e1 : (("[" : String) : Str).length = 1 := rfl
 have e2 : (("]" : String) : Str).length = 1 := rfl
 rw [Str.length_append, e2]
 rw [e1] at this
 lia
theorem uk {ds : List D} (h : dD ds = true) (hc : cb ds ≤ 1000) (hd : PyData.depthAll (bZ ds) ≤ 50) : eZ ds = true ∧ PyData.showableAll (bZ ds) = true ∧ PyData.hasDictAll (bZ ds) = false ∧ PyData.depthAll (bZ ds) ≤ 50 ∧ (PyData.shown (.list (bZ ds))).length ≤ sizeLine := by
 have q_a1 := gO h
 have a5 := q_a1.2.2.2.2.1
 have a6 := q_a1.2.2.2.2.2
 refine ⟨q_a1.1, q_a1.2.2.1, q_a1.2.2.2.1, hd, aE ?_⟩
 simp only [PyData.shown]
 have := y6 (PyData.shownAll (bZ ds))
 lia
theorem nZ {ds : List D} : (∀ d ∈ ds, jl d = true) → dD ds = true := by
 induction ds with
 | nil => intro _; rfl
 | cons d ds ih =>
  intro h
  simp only [dD, Bool.and_eq_true]
  exact ⟨h d c8, ih fun x hx => h x (dP _ hx)⟩
theorem BW {ds : List D} {m : Nat} : (∀ d ∈ ds, d.py.depth ≤ m) → PyData.depthAll (bZ ds) ≤ m := by
 induction ds with
 | nil => intro _; simp [bZ, PyData.depthAll]
 | cons d ds ih =>
  intro h
  have h1 := h d c8
  have h2 := ih fun x hx => h x (dP _ hx)
  simp only [bZ, PyData.depthAll]
  lia
theorem y7 {ds : List D} {m : Nat} : (∀ d ∈ ds, cost d ≤ m) → cb ds ≤ m * ds.length := by
 induction ds with
 | nil => intro _; simp [cb]
 | cons d ds ih =>
  intro h
  have h1 := h d c8
  have h2 := ih fun x hx => h x (dP _ hx)
  simp only [cb, aB, Nat.mul_add, Nat.mul_one]
  lia
theorem m7 {ns : List Int} (h : ∀ x ∈ ns, x.natAbs ≤ 20) : dD (DL ns) = true := nZ fun d hd => by
 obtain ⟨x, hx, rfl⟩ := List.mem_map.mp hd
 simpa [jl] using h x hx
theorem te (ns : List Int) : cb (DL ns) = ns.length := by
 induction ns with
 | nil => rfl
 | cons a r ih =>
  show cost (.int a) + cb (DL r) = _
  rw [ih]; simp [cost]; lia
structure gf (n : Nat) (r : cT) : Prop where
 rule : r.rule ∈ ir
 cl : dL r.cl
 pr : ∀ x : Int, x ∈ r.pr → 0 ≤ x ∧ x < (n : Int)
 nd : r.pr.Nodup
 len : r.pr.length ≤ 3
 note : jl r.note = true
 cost : cost r.note ≤ 20
 inp : r.rule = "input" → ∃ j : Int, r.note = .int j ∧ 0 ≤ j ∧ j < 7
noncomputable def cw (rows : List cT) : Prop := rows.length ≤ 13 ∧ ∀ i r, rows[i]? = some r → gf i r
theorem gf.d {n : Nat} {r : cT} (h : gf n r) (hn : n ≤ 20) : jl r.d = true ∧ Mine.cost r.d ≤ 40 := by
 have h1 := m7 (ns := r.cl) fun x hx => by have := h.cl.2 x hx; exact nA
 have h2 := m7 (ns := r.pr) fun x hx => by have := h.pr x hx; lia
 have h3 := h.cl.len
 have h4 := h.len
 have h5 := h.cost
 have h6 : jW.contains r.rule = true := by
  rw [List.contains_iff_mem]; exact List.mem_append_left _ h.rule
 constructor
 ·simp only [cT.d, jl, dD, h1, h2, h6, h.note, Bool.and_self]
 ·simp only [cT.d, Mine.cost, cb, te]
  lia
theorem cw.all {rows : List cT} (h : cw rows) : dD (RL rows) = true ∧ cb (RL rows) ≤ 1000 ∧ PyData.depthAll (bZ (RL rows)) ≤ 50 := by
 have key : ∀ d ∈ RL rows, jl d = true ∧ cost d ≤ 40 := fun d hd => by
  obtain ⟨r, hr, rfl⟩ := List.mem_map.mp hd
  obtain ⟨i, hi⟩ := List.getElem?_of_mem hr
  have hlt := (List.getElem?_eq_some_iff.mp hi).1
  exact (h.2 i r hi).d (by have := h.1; lia)
 refine ⟨nZ fun d hd => (key d hd).1, ?_, BW fun d hd => ?_⟩
 ·have := y7 (m := 40) fun d hd => (key d hd).2
  rw [c7] at this
  have := h.1
  lia
 ·obtain ⟨_, _, _, _, a5, _⟩ := Dx (key d hd).1
  have := (key d hd).2
  exact nL
theorem Dy {i : Int} (h : i.natAbs ≤ 20) : jl (.int i) = true := by simpa [jl] using h
inductive lG : List D → List (Addr × O) → cu → Prop
 | mk {ds : List D} {sub : List (Addr × O)} {k : cu} (a r m : _) (h0 : ds = [.ref a, .int m]) (h1 : sub = [(a, .list [.int r])]) (h2 : 0 < m) (h3 : m ≤ 5) (h4 : ∀ d r', jl d = true → cost d ≤ 20 → k d [.list [.int r']] []) : lG ds sub k
theorem vq : fC (po gU gA) 5 lG := by
 rintro ds sub k ⟨a, r, m, rfl, rfl, h0, h1, hk⟩
 ((try dsimp only [aB, aM, cS, cR, po, fy, af, ba, a9, aa, ac, bN, aL, MS.set, ao, ad, al, am]); (try simp only [bk, bF, az, ay, al, aY, aK]))
 refine ⟨a, r, 5, rfl, rfl, by decide, by decide, fun way r1 hw0 hw1 => ?_⟩
 ((try (left)); (try dsimp only [aZ, al, aK, az, ay, af, bw, aA, ac, au, cP, ao, aq, cz]))
 cases q0 : (way == 0)
 case true =>
  (try dsimp only [cQ, af, bp, g6, aW])
  exact bA (rest := []) (fl := .ret _) (hk .none r1 rfl (by simp [cost])) ⟨rfl, trivial⟩ rfl (List.nil_sublist _) rfl
 ((try dsimp only [b0, aw]); (repeat (left; (try dsimp only [af, bw, aA, ac, au, al, cP, ao, aq, cz]))))
 cases q1 : (way == 1)
 case true =>
  (try dsimp only [cQ, af, bp, bC, a9, aa, ac, al, bN, aW, jI, ao, aq, ad, am])
  refine ⟨a, r1, 9, rfl, rfl, by decide, by decide, fun d r2 hd0 hd1 => ?_⟩
  (try dsimp only [aq, aZ, al, aK, az, ay])
  exact bA (rest := []) (fl := .ret _) (hk _ r2 (Dy (by lia)) (by simp [cost])) ⟨rfl, trivial⟩ rfl (List.nil_sublist _) rfl
 ((try dsimp only [b0, aw]); (repeat (left; (try dsimp only [af, bw, aA, ac, au, al, cP, ao, aq, cz]))))
 cases q2 : (way == 2)
 case true =>
  (try dsimp only [cQ, af, bp, cD, aa, a9, ac, al, bN, aW, aB, ad, aM, ao, am])
  refine ⟨a, r1, 9, rfl, rfl, by decide, by decide, fun d r2 hd0 hd1 => ?_⟩
  (try dsimp only [aZ, al, aK, az, ay, am])
  refine ⟨a, r2, 5, rfl, rfl, by decide, by decide, fun d2 r3 hd2 hd3 => ?_⟩
  (try dsimp only [aZ, al, aK, az, ay])
  (repeat first | ((with_reducible refine And.intro ?pa ?_); (case pa => exact aE (by first | decide | lia))) | (left))
  exact bA (rest := []) (fl := .ret _) (hk _ r3 (by simp only [jl, dD, Bool.and_true, Bool.and_eq_true, decide_eq_true_eq]; lia) (by simp [cost, cb])) ⟨rfl, trivial⟩ rfl (List.nil_sublist _) rfl
 ((try dsimp only [b0, aw]); (repeat (left; (try dsimp only [af, bw, aA, ac, au, al, cP, ao, aq, cz]))))
 cases q3 : (way == 3)
 case true =>
  (try dsimp only [cQ, af, ba, bg, ad, aM, aL, MS.set, az, ay, aY, aK])
  (refine ⟨aE (by decide), ?_⟩; (repeat (left; (try dsimp only [af, dq, bE, aa, bC, ao, a9, ac, al, bN, MS.trunc, ad, gZ, cO, aq, cz, am]))); refine fun b => ?_; (repeat (left; (try dsimp only [af, dq, bE, aa, bC, ao, a9, ac, al, bN, MS.trunc, ad, gZ, cO, aq, cz, am]))))
  (skip)
  refine ⟨a, r1, 2, rfl, rfl, by decide, by decide, fun d r2 hd0 hd1 => ?_⟩
  (try dsimp only [aq, aZ, al, aK, az, ay, aB, aM])
  (refine ⟨by lia, ?_⟩)
  refine bS (fun l σ => Fc fun L v r => Ef (dD L = true) (cb L + 5 * l.length ≤ 10) (L.length + l.length ≤ 2) (σ = ⟨[some (.ref a), some (.int m), some (.int way), some (.ref b), v], [(a, .list [.int r]), (b, .list L)]⟩)) ?_ ?_ _ _ ⟨[], _, r2, rfl, ?_, ?_, rfl⟩
  ·rintro σ ⟨L, v, r, hL, hc, hn, rfl⟩
   ((try (left)); (try dsimp only [aM] at hc); (try dsimp only [aM] at hn); (try dsimp only [af, bp, bK, aa, ac, au, al, aW, c6, ad, b6, cj, c9]); (try simp only []))
   (refine ⟨by trivial, ?_⟩; refine ⟨aE nA, ?_⟩)
   exact bA (rest := [(b, _)]) (fl := .ret _) (hk _ r (by simpa only [jl] using hL) (by simp only [cost]; lia)) ⟨rfl, trivial⟩ rfl (List.nil_sublist _) rfl
  ·rintro d l σ ⟨L, v, r, hL, hc, hn, rfl⟩ ih
   ((try dsimp only [aB] at hc); (try dsimp only [aB] at hn); (try dsimp only [bj, af, br, bD, ac, bl, aa, cD, a9, bN, ad, fV, aB, bC, aM, ao, cO, cz, jI, aq, aL, MS.set, aY, aK, au, al, am, av]); (try simp only []))
   (refine ⟨by trivial, ?_⟩; refine ⟨a, r, m, rfl, rfl, h0, h1, fun l1 r3 hl0 hl1 => ?_⟩)
   (try dsimp only [aZ, al, aK, az, ay, am])
   refine ⟨a, r3, 9, rfl, rfl, by decide, by decide, fun d2 r4 hd2 hd3 => ?_⟩
   (try dsimp only [aq, aZ, al, aK, az, ay, am])
   refine ⟨a, r4, 3, rfl, rfl, by decide, by decide, fun d4 r5 hd4 hd5 => ?_⟩
   ((try dsimp only [aq, aZ, al, aK, az, ay, au, aY, av]); (try simp only []))
   (refine ⟨aE (by decide), ?_⟩; (repeat (left; (try dsimp only [aw, bb, ci, bV]))); refine ⟨aE (by decide), ?_⟩; (repeat (left; (try dsimp only [aw, bb, ci, bV]))); refine ⟨by trivial, ?_⟩; (repeat (left; (try dsimp only [aw, bb, ci, bV]))); refine ⟨by lia, ?_⟩; (repeat (left; (try dsimp only [aw, bb, ci, bV]))); refine ⟨by trivial, ?_⟩; (repeat (left; (try dsimp only [aw, bb, ci, bV]))); refine ih _ ⟨_, _, r5, ?_, ?_, ?_, rfl⟩)
   ·refine nZ fun x hx => ?_
    rcases List.mem_append.mp hx with q | q
    ·have : ∀ {L : List D}, dD L = true → ∀ x ∈ L, jl x = true := by
      intro L
      induction L with
      | nil => intro _ x q; exact nomatch q
      | cons y L ih =>
       intro h x q
       obtain ⟨h1, h2⟩ : jl y = true ∧ dD L = true := by simpa [dD] using h
       rcases HL q with rfl | q
       ·exact h1
       ·exact ih h2 x q
     exact this hL x q
    ·obtain rfl := List.mem_singleton.mp q
     simp only [jl, dD, Bool.and_true, Bool.and_eq_true, decide_eq_true_eq]
     lia
   ·have : ∀ (L : List D) (x : D), cb (L ++ [x]) = cb L + cost x := by
     intro L x
     induction L with
     | nil => simp [cb]
     | cons y L ih => simp only [az, cb, ih]; lia
    rw [this]
    simp only [cost, cb]
    lia
   ·simp only [eX, aB, aM]; lia
  ·simp only [cb, db, dI, List.length_range]; lia
  ·simp only [db, dI, List.length_range, aM]; lia
 ((try dsimp only [b0, aw]); (repeat (left; (try dsimp only [af, bp, cD, aa, a9, ac, al, bN, aW, aB, cL, bh, ad, aM, ao, b8, am]))))
 refine ⟨a, r1, 9, rfl, rfl, by decide, by decide, fun d r2 hd0 hd1 => ?_⟩
 (try dsimp only [aZ, al, aK, az, ay, am])
 (refine ⟨aE (by decide), ?_⟩)
 refine ⟨a, r2, 3, rfl, rfl, by decide, by decide, fun d2 r3 hd2 hd3 => ?_⟩
 have e : ∃ w : Str, w ∈ jW ∧ iq [D.str "sum", D.str "carry", D.str "cut-off"] d2 = some (.str w) := by
  obtain rfl | rfl | rfl : d2 = 0 ∨ d2 = 1 ∨ d2 = 2 := by lia
  ·exact ⟨"sum", by decide, rfl⟩
  ·exact ⟨"carry", by decide, rfl⟩
  ·exact ⟨"cut-off", by decide, rfl⟩
 obtain ⟨w, hw, e⟩ := e
 ((try dsimp only [aZ, al, aK, az, ay, aq]); (try simp only [e, am]))
 (refine ⟨Nat.zero_le _, ?_⟩; refine ⟨aE (by decide), ?_⟩)
 exact bA (rest := []) (fl := .ret _) (hk _ r3 (by simp only [jl, dD, Bool.and_true, Bool.and_eq_true, decide_eq_true_eq, List.contains_iff_mem]; exact ⟨ooV, hw⟩) (by simp [cost, cb])) ⟨rfl, trivial⟩ rfl (List.nil_sublist _) rfl
theorem y8 {a c : Int} {n : Nat} : ∀ d ∈ db a c n, ∃ i : Int, d = .int i := fun d hd => by
 obtain ⟨i, hi⟩ := List.getElem?_of_mem hd
 obtain ⟨_, e⟩ := tz hi
 exact ⟨_, e⟩
theorem Dz {st cl : List Int} {x : Int} (h1 : dL st) (h2 : dL cl) (h : st.filter (fun y => decide (-y ∈ cl)) = [x]) : qq st cl x := by
 have hx : x ∈ st.filter (fun y => decide (-y ∈ cl)) := by rw [h]; simp
 obtain ⟨a, b⟩ := List.mem_filter.mp hx
 refine ⟨h1, h2, a, by simpa using b, fun y hy hn => ?_⟩
 have : y ∈ st.filter (fun y => decide (-y ∈ cl)) := List.mem_filter.mpr ⟨hy, by simpa using hn⟩
 rw [h] at this
 simpa using this
inductive jX : List D → List (Addr × O) → cu → Prop
 | mk {ds : List D} {sub : List (Addr × O)} {k : cu} (ra : Addr) (rows : List cT) (first : Nat) (r : cT) (begin : Int) (h0 : ds = [.ref ra, .int (first : Nat), .int begin]) (h1 : sub = [(ra, .list (RL rows)), (514, gB)]) (h2 : rows.length ≤ 1000) (h3 : (∀ (i : Nat) (r : cT), rows[i]? = some r → dL r.cl)) (h4 : rows[first]? = some r) (h5 : ∀ pa ps stand, xh rows r.cl ps stand → ps.length ≤ 2 → k (.tup [.ref pa, .tup (DL stand)]) [.list (RL rows), gB] [(pa, .list (PL ps))]) : jX ds sub k
theorem ul : fC (mX ie) 10 jX := by
 rintro ds sub k ⟨ra, rows, first, r, begin, rfl, rfl, hl, hcl, hr, hk⟩
 have hfl : first < rows.length := (List.getElem?_eq_some_iff.mp hr).1
 ((try dsimp only [aB, aM, cS, cR, gB, mX, fy, n8, af, ba, cD, aa, cL, aX, ac, vN, bg, ad, ao, aq, al, az, ay]); (try simp only [bk, bF, az, ay, al, au, List.reverse_cons, List.reverse_nil, MS.setAll, MS.set, aY, aK, av, aq, bO _ first (by lia), fE hr, am, b8, dG]))
 (repeat first | ((with_reducible refine And.intro ?pa ?_); (case pa => first | decide | lia)) | (left))
 intro pa
 (refine ⟨aE (by decide), ?_⟩; (repeat (left; (try dsimp only [af, dq, bE, aa, ao, ad, MS.trunc, aB, aM, gZ, aq]))); refine ⟨by trivial, ?_⟩; (repeat (left; (try dsimp only [af, dq, bE, aa, ao, ad, MS.trunc, aB, aM, gZ, aq]))); refine ⟨by decide, ?_⟩; (repeat (left; (try dsimp only [af, dq, bE, aa, ao, ad, MS.trunc, aB, aM, gZ, aq]))))
 refine bS (fun l σ => GW fun (lap : Nat) ps st v5 v6 v7 v8 v9 => GX (lap ≤ 2) (l = db lap 1 (2 - lap)) (xh rows r.cl ps st) (ps.length ≤ lap) (σ = ⟨[some (.ref ra), some (.int first), some (.int begin), some (.tup (DL st)), some (.ref pa), v5, v6, v7, v8, v9], [(ra, .list (RL rows)), (514, gB), (pa, .list (PL ps))]⟩)) ?_ ?_ _ _ ⟨0, [], r.cl, _, _, _, _, _, by decide, rfl, .nil, by simp, rfl⟩
 ·rintro σ ⟨lap, ps, st, v5, v6, v7, v8, v9, h1, h2, h3, h4, rfl⟩
  ((try (left)); (try dsimp only [af, bp, cD, aa, ac, au, al, aW, aB, ad, aM]))
  (refine ⟨aE (by decide), ?_⟩)
  exact bA (rest := [(pa, _)]) (fl := .ret _) (hk pa ps st h3 nH) ⟨rfl, rfl, trivial⟩ rfl (.refl _) rfl
 ·rintro d l σ ⟨lap, ps, st, v5, v6, v7, v8, v9, h1, h2, h3, h4, rfl⟩ ih
  have hlap : lap < 2 := by
   rcases Nat.lt_or_ge lap 2 with q | q
   ·exact q
   ·rw [show 2 - lap = 0 from Nat.sub_eq_zero_of_le q] at h2; cases h2
  rw [show 2 - lap = (2 - (lap + 1)) + 1 from Fg (by assumption), bu] at h2
  cases h2
  ((try dsimp only [bj, af, dq, bE, aa, bK, ac, MS.trunc, ad, gZ, bv, aq, b6, aL, MS.set, aY, aK, al, aB, aM, cj, c9]); (try simp only [c7]))
  (refine ⟨by trivial, ?_⟩; refine ⟨nB, ?_⟩; refine ⟨by lia, ?_⟩)
  refine bS (fun l σ => (∀ d ∈ l, ∃ i : Int, d = .int i) ∧ ∃ ps st v6 v7 v8 v9, xh rows r.cl ps st ∧ ps.length ≤ lap + 1 ∧
   σ = ⟨[some (.ref ra), some (.int first), some (.int begin), some (.tup (DL st)), some (.ref pa), some (.int lap), v6, v7, v8, v9], [(ra, .list (RL rows)), (514, gB), (pa, .list (PL ps))]⟩) ?_ ?_ _ _ ⟨y8, ps, st, _, _, _, _, h3, nF, rfl⟩
  ·rintro σ ⟨-, ps, st, v6, v7, v8, v9, h3, h4, rfl⟩
   ((try (left)); (try dsimp only [aw, bb, ci, bV]))
   (refine ⟨by trivial, ?_⟩; refine ih _ ⟨lap + 1, ps, st, _, _, _, _, _, ooK, rfl, h3, h4, rfl⟩)
  ·rintro d l σ ⟨hd, ps, st, v6, v7, v8, v9, h3, h4, rfl⟩ ih2
   obtain ⟨i, rfl⟩ := hd d c8
   have hd' : ∀ d ∈ l, ∃ i : Int, d = .int i := fun x hx => hd x (dP _ hx)
   have hn0 := Int.fmod_nonneg_of_pos (begin + i) (b := (rows.length : Int)) (by lia)
   have hn1 := Int.fmod_lt_of_pos (begin + i) (b := (rows.length : Int)) (by lia)
   obtain ⟨n, hn⟩ : ∃ n : Nat, (begin + i).fmod (rows.length : Int) = n := ⟨_, (Int.toNat_of_nonneg hn0).symm⟩
   rw [hn] at hn1
   have hnl : n < rows.length := Int.ofNat_lt.mp hn1
   clear hn1 hn0
   obtain ⟨r', hr'⟩ : ∃ r', rows[n]? = some r' := ⟨_, List.getElem?_eq_getElem hnl⟩
   have hst : dL st := h3.ok (hcl _ _ hr)
   have hcn : dL r'.cl := hcl _ _ hr'
   have l1 := hst.len
   have l2 := hcn.len
   ((try dsimp only [bj, af, ba, bC, ac, aL, MS.set, tE, bK, aa, bv, aq, ad, b6, cO, aY, aK, au, al, cj, c9, cz]); (try simp only [c7, hn]))
   (refine ⟨by trivial, ?_⟩; (repeat (left; (try dsimp only [af, ba, bM, dy, ac, au, al, MS.trunc, MS.more, cS, cR, aL, MS.set, aB, aM, az, ay, b8]))); refine ⟨nB, ?_⟩; (repeat (left; (try dsimp only [af, ba, bM, dy, ac, au, al, MS.trunc, MS.more, cS, cR, aL, MS.set, aB, aM, az, ay, b8]))); refine ⟨by lia, ?_⟩; (repeat (left; (try dsimp only [af, ba, bM, dy, ac, au, al, MS.trunc, MS.more, cS, cR, aL, MS.set, aB, aM, az, ay, b8]))); refine ⟨aE (by rw [bY]; exact nA), ?_⟩; (repeat (left; (try dsimp only [af, ba, bM, dy, ac, au, al, MS.trunc, MS.more, cS, cR, aL, MS.set, aB, aM, az, ay, b8]))))
   refine jF (fun y => decide (-y ∈ r'.cl)) (fun v => ⟨[some (.ref ra), some (.int first), some (.int begin), some (.tup (DL st)), some (.ref pa), some (.int lap), some (.int i), some (.int n), v8, v9, v], [(ra, .list (RL rows)), (514, gB), (pa, .list (PL ps))]⟩) ?_ ?_ none
   ·intro y hy v l acc hnx
    ((try dsimp only [bz, aA, fJ, ac, yb, cL, aX, ao, aq, cz, aL, MS.set, aY, aK, au, al, av]); (try simp only [bO _ n (by lia), fE hr', am, b8, dG]))
    (refine ⟨by trivial, ?_⟩)
    (try simp only [cG, fO, Bool.false_bne, am])
    cases hq : decide (-y ∈ r'.cl) <;> ((try simp only [hq, Bool.false_eq_true, if_false, if_true] at hnx); (try dsimp only [jh, ci, bV, dF, ac, au, al])) <;> (refine ⟨by trivial, ?_⟩; refine hnx _)
   ·intro v b
    ((try (left)); (try dsimp only [ci, bV, aY, aK, az, ay, af, bw, dz, aA, bK, aa, ac, au, al, cP, ao, aq, bv, cz, ad, b6, cj, c9]); (try simp only [bY]))
    have hfl5 : (st.filter fun y => decide (-y ∈ r'.cl)).length ≤ 5 := Nat.le_trans (List.length_filter_le _ _) l1
    (refine ⟨by trivial, ?_⟩; refine ⟨nB, ?_⟩)
    cases q1 : (((st.filter fun y => decide (-y ∈ r'.cl)).length : Int) == 1)
    case false =>
     ((try dsimp only [gN, b0, aw]); (repeat (left; (try dsimp only [aw, bb, ci, bV]))))
     (refine ⟨by trivial, ?_⟩; refine ih2 _ ⟨hd', ps, st, _, _, _, _, h3, h4, rfl⟩)
    ((try dsimp only [gq, dz, aA, bK, aa, ac, au, al, cP, bv, cz, ad, b6, aq, cj, c9]); (try simp only [lF]))
    (refine ⟨by trivial, ?_⟩; refine ⟨by lia, ?_⟩)
    cases q2 : ((ps.length : Int) == (lap : Int))
    case false =>
     ((try dsimp only [gN, b0, aw]); (repeat (left; (try dsimp only [aw, bb, ci, bV]))))
     (refine ⟨by trivial, ?_⟩; refine ih2 _ ⟨hd', ps, st, _, _, _, _, h3, h4, rfl⟩)
    have q1' : (st.filter fun y => decide (-y ∈ r'.cl)).length = 1 := by
     have := eq_of_beq q1; lia
    have q2' : ps.length = lap := by
     have := eq_of_beq q2; lia
    obtain ⟨x, hx⟩ := List.length_eq_one_iff.mp q1'
    have hc := Dz hst hcn hx
    have ex : iq (DL [x]) 0 = some (.int x) := rfl
    ((try dsimp only [gq, cH, cQ, af, br, bD, ac, au, al, bl, aa, cD, bK, aX, ad, fV, aB, aM, qY, b6, ao, aq, aY, aK, av]); (try simp only [hx, ex, lF, am, aq]))
    (refine ⟨by trivial, ?_⟩; (repeat (left; (try dsimp only [af, ba, bM, dy, bC, ac, au, al, MS.trunc, MS.more, cS, cR, aL, MS.set, cO, b8, cL, aX, ao, aq, aB, aM, az, ay, av, kE]); (try simp only [bO _ n (by lia), fE hr', am, b8, dG]))); refine ⟨by trivial, ?_⟩; (repeat (left; (try dsimp only [af, ba, bM, dy, bC, ac, au, al, MS.trunc, MS.more, cS, cR, aL, MS.set, cO, b8, cL, aX, ao, aq, aB, aM, az, ay, av, kE]); (try simp only [bO _ n (by lia), fE hr', am, b8, dG]))); refine ⟨aE (by decide), ?_⟩; (repeat (left; (try dsimp only [af, ba, bM, dy, bC, ac, au, al, MS.trunc, MS.more, cS, cR, aL, MS.set, cO, b8, cL, aX, ao, aq, aB, aM, az, ay, av, kE]); (try simp only [bO _ n (by lia), fE hr', am, b8, dG]))); refine ⟨by trivial, ?_⟩; (repeat (left; (try dsimp only [af, ba, bM, dy, bC, ac, au, al, MS.trunc, MS.more, cS, cR, aL, MS.set, cO, b8, cL, aX, ao, aq, aB, aM, az, ay, av, kE]); (try simp only [bO _ n (by lia), fE hr', am, b8, dG]))); refine ⟨nL, ?_⟩; (repeat (left; (try dsimp only [af, ba, bM, dy, bC, ac, au, al, MS.trunc, MS.more, cS, cR, aL, MS.set, cO, b8, cL, aX, ao, aq, aB, aM, az, ay, av, kE]); (try simp only [bO _ n (by lia), fE hr', am, b8, dG]))); refine ⟨by trivial, ?_⟩; (repeat (left; (try dsimp only [af, ba, bM, dy, bC, ac, au, al, MS.trunc, MS.more, cS, cR, aL, MS.set, cO, b8, cL, aX, ao, aq, aB, aM, az, ay, av, kE]); (try simp only [bO _ n (by lia), fE hr', am, b8, dG]))))
    refine ⟨by rw [bY, bY]; exact aE (by lia), by simp only [eX, bY]; exact aE (by lia), ?_⟩
    have eA : DL st ++ DL r'.cl = DL (st ++ r'.cl) := by simp [DL]
    rw [eA]
    refine jF (fun y => ((y.natAbs : Int) != (x.natAbs : Int))) (fun v => ⟨[some (.ref ra), some (.int first), some (.int begin), some (.tup (DL st)), some (.ref pa), some (.int lap), some (.int i), some (.int n), some (.ref b), v9, v], [(ra, .list (RL rows)), (514, gB), (pa, .list (PL ps ++ [.tup [.int (x.natAbs : Nat), .int n]])), (b, .list (DL [x]))]⟩) ?_ ?_ none
    ·intro y hy v l acc hnx
     ((try dsimp only [bz, aA, bK, aa, ac, cP, aX, qY, aq, ad, b6, ao, cz, aL, MS.set, aY, aK, au, al, av]); (try simp only [ex, am, aq]))
     cases hq : ((y.natAbs : Int) != (x.natAbs : Int)) <;> ((try simp only [hq, Bool.false_eq_true, if_false, if_true] at hnx); (try dsimp only [jh, ci, bV, dF, ac, au, al])) <;> (refine ⟨by trivial, ?_⟩; refine ⟨by trivial, ?_⟩; refine hnx _)
    ·intro v c
     ((try (left)); (try dsimp only [ci, bV, aY, aK, az, ay, af, ba, a9, aa, ac, au, al, bN, aL, MS.set, ad, am]))
     have hm : ∀ y, y ∈ (st ++ r'.cl).filter (fun y => ((y.natAbs : Int) != (x.natAbs : Int))) ↔ (y ∈ st ∨ y ∈ r'.cl) ∧ y.natAbs ≠ x.natAbs := fun y => by
      rw [List.mem_filter, List.mem_append]
      simp only [bne_iff_ne, ne_eq, Int.natCast_inj]
     refine ⟨c, _, rfl, rfl, fun y hy => ?_, ?_, fun q => absurd (hc.rest hm) q, fun _ out ht hmo => ?_⟩
     ·have := hc.rest hm y hy
      exact ⟨this.1, this.2.2⟩
     ·have := List.length_filter_le (fun y => ((y.natAbs : Int) != (x.natAbs : Int))) (st ++ r'.cl)
      rw [eX] at this
      lia
     ·((try (left)); (try dsimp only [aZ, au, al, aY, aK, az, ay, aw]); (repeat (left; (try dsimp only [aw, bb, ci, bV]))))
      rw [show PL ps ++ [D.tup [D.int (x.natAbs : Nat), D.int n]] = PL (ps ++ [(x.natAbs, n)]) by simp [PL, kP]]
      (refine ⟨by trivial, ?_⟩; refine ih2 _ ⟨hd', ps ++ [(x.natAbs, n)], out, _, _, _, _, h3.snoc hr' hc ht (fun y => (hmo y).trans (hm y)), by simp; lia, rfl⟩)
theorem BX {rows : List cT} {first : Nat} {r : cT} {ps : List (Nat × Nat)} {st : List Int} (hr : rows[first]? = some r) (h : xh rows r.cl ps st) (hl : ps.length ≤ 2) : (first :: ps.map (·.2)).Nodup := by
 have self : ∀ {c : List Int} {x : Int}, ¬ qq c c x := fun {c x} q => by
  have := kO.apart q.a.1.2 x q.l (-x) q.r (pD rfl)
  have := q.a.1.1 x q.l
  lia
 cases h with
 | nil => simp
 | @cons _ st1 _ x1 n1 r1 ps1 a1 a2 a3 a4 a5 =>
  have ne1 : first ≠ n1 := fun e => by
   subst e; rw [hr] at a1; cases a1; exact self a2
  cases a5 with
  | nil => simp [ne1]
  | @cons _ st2 _ x2 n2 r2 ps2 b1 b2 b3 b4 b5 =>
   cases b5 with
   | nil =>
    have m2 := (a4 x2).mp b2.l
    have ne2 : first ≠ n2 := fun e => by
     subst e; rw [hr] at b1; cases b1
     rcases m2.1 with q | q
     ·have := kO.apart a2.a.1.2 x2 q (-x2) b2.r (pD rfl)
      have := a2.a.1.1 x2 q
      lia
     ·have := a2.u (-x2) b2.r (by rw [Int.neg_neg]; exact q)
      exact m2.2 (this ▸ pD rfl)
    have ne3 : n1 ≠ n2 := fun e => by
     subst e; rw [a1] at b1; cases b1
     rcases m2.1 with q | q
     ·have := a2.u x2 q b2.r
      exact m2.2 (by lia)
     ·have := kO.apart a2.b.1.2 x2 q (-x2) b2.r (pD rfl)
      have := a2.b.1.1 x2 q
      lia
    simp [ne1, ne2, ne3]
   | cons _ _ _ _ _ => simp at hl
noncomputable def rG (GSteps_add : dp) : SC := (aj (br (bD (fun _ => 3) (bl (fun _ => 3)) (ac 1) (aa (ac 8) ad))) (aj (bp (eh fy (bB 230 (fun _ => 0) "add" GSteps_add [0, 1, 2] (ac 0) (aa (cL (ac 8) (ao 0)) (aa (cL (ac 8) (ao 1)) (aa (cL (ac 8) (ao 2)) (aa (cL (ac 8) (ao 3)) ad))))) (bC jI (bK (bv (fun _ => 3)) (aa (ac 1) ad)) (ao 1)))) aw))
theorem xk {GSteps_add GSteps_chain Glaw_chain Glaw_clause Glaw_digit Glaw_literal Glaw_note : dp} : rx GSteps_add GSteps_chain Glaw_chain Glaw_clause Glaw_digit Glaw_literal Glaw_note = (aj (ba (bg (aa (ac 3) ad)) (aL 4)) (aj (ba (a9 Glaw_digit [5] (aa (ac 4) (aa (ao 4) ad))) (aL 5)) (aj (fu (aA fy (ac 5) (ao 1)) (aj (ba (cL (dt nW) (a9 Glaw_digit [5] (aa (ac 4) (aa (ao 9) ad)))) (aL 6)) (aj (ba (a9 Glaw_clause [6, 4] (aa (bM 1 (bE (aa (bC cO (ao 1) (a9 Glaw_digit [5] (aa (ac 4) (aa (ao 3) ad)))) ad)) (aL 15) (cH true) (a9 Glaw_literal [5] (aa (ac 4) (aa (ac 2) ad)))) ad)) (aL 7)) (aj (fu (aA Cl (ac 7) g6) (aj (bp (fF true)) aw) aw) (aj (ba (cD (aa (ac 6) (aa (ac 7) (aa (cD ad) (aa (a9 Glaw_note [5] (aa (ac 4) (aa (ac 2) ad))) ad))))) (aL 8)) aw)))) (aj (fu (qR (aA fy (ac 5) (ao 0)) (qR (aA (lg false (fun _ => 3) (fun _ => 6)) (ac 1) (bg ad)) (cH false))) (aj (ba (cD (aa (bh "input") (aa (cD (aa (a9 Glaw_literal [5] (aa (ac 4) (aa (ac 2) ad))) ad)) (aa (cD ad) (aa (a9 Glaw_digit [5] (aa (ac 4) (aa (ao 7) ad))) ad))))) (aL 8)) aw) (aj (ba (cD (aa (a9 Glaw_digit [5] (aa (ac 4) (aa (bK (bv (fun _ => 3)) (aa (ac 1) ad)) ad))) (aa (a9 Glaw_digit [5] (aa (ac 4) (aa (bK (bv (fun _ => 3)) (aa (ac 1) ad)) ad))) ad))) (vN [9, 10])) (aj (ba (a9 Glaw_chain [3, 4] (aa (ac 1) (aa (ac 9) (aa (ac 10) ad)))) (gF [11, 12])) (aj (ba (bB 230 (fun _ => 0) "chain" GSteps_chain [0, 1, 2, 7] (ac 0) (aa (ac 9) (aa (ac 11) ad))) (aL 13)) (aj (fu (aA (lg false (fun _ => 7) (fun _ => 8)) (ac 11) (bg ad)) (aj (bp (eh fy (ac 13) (ac 9))) aw) aw) (aj (ba (bC cO (cD (aa (ac 9) ad)) (bK (c6 (fun _ => 9)) (aa (bM 2 (bR (fun _ => 7) (ac 11)) (gF [15, 16]) (cH true) (ac 16)) ad))) (aL 14)) (aj (br (bD (fun _ => 3) (bl (fun _ => 3)) (ac 1) (aa (cD (aa (bh "resolve") (aa (ac 12) (aa (ac 14) (aa (bK (c6 (fun _ => 10)) (aa (bM 2 (bR (fun _ => 7) (ac 11)) (gF [15, 16]) (cH true) (ac 15)) ad)) ad))))) ad))) (aj (bp (eh fy (ac 13) (bC jI (bK (bv (fun _ => 3)) (aa (ac 1) ad)) (ao 1)))) aw)))))))) aw)) (rG GSteps_add)))) := rfl
inductive iC : List D → List (Addr × O) → cu → Prop
 | mk {ds : List D} {sub : List (Addr × O)} {k : cu} (a dx s nm : Addr) (e : Int) (rows : List cT) (named : List D) (ra : Addr) (many number : Int) (h0 : ds = [.ref a, .ref ra, .int many, .int number]) (h1 : sub = PR a dx s nm e rows named ++ [(ra, .list (RL rows)), (514, gB)]) (h2 : 0 < many) (h3 : many ≤ 5) (h4 : cw rows) (h5 : rows.length ≤ 12) (h6 : ∀ e' rows', cw rows' → rows'.length ≤ rows.length + 1 → k (.bool true) [PO dx s nm e', .list (RL rows'), .list named, .list (RL rows'), gB] []) : iC ds sub k
set_option tactic.hygienic true in
theorem su {rows : List cT} {r : cT} (h : cw rows) (hl : rows.length ≤ 12) (hr : gf rows.length r) : cw (rows ++ [r]) := by
 refine ⟨by simp; exact ooK, fun i r' hi => ?_⟩
 rw [List.getElem?_append] at hi
 split at hi
 ·exact h.2 i r' hi
 ·rename_i hge
  have : i - rows.length = 0 := by
   have := (List.getElem?_eq_some_iff.mp hi).1
   simp at this; exact ooK
  rw [this] at hi
  simp at hi
  subst hi
  have : i = rows.length := Nat.le_antisymm (Nat.sub_eq_zero_iff_le.mp this) (Nat.not_lt.mp hge)
  subst this
  exact hr
theorem xl {a dx s nm ra : Addr} {e : Int} {rows : List cT} {named : List D} {r : cT} {k : cu} {tail : List (Addr × O)} {v2 v3 v4 v5 v6 v7 v9 v10 v11 v12 v13 v14 : Option D}
  (h : cw rows) (hl : rows.length ≤ 12) (hr : gf rows.length r) (hk : ∀ e' rows', cw rows' → rows'.length ≤ rows.length + 1 → k (.bool true) [PO dx s nm e', .list (RL rows'), .list named, .list (RL rows'), gB] []) :
  rG ey ⟨[some (.ref a), some (.ref ra), v2, v3, v4, v5, v6, v7, some (.tup [.str r.rule, .tup (DL r.cl), .tup (DL r.pr), r.note]), v9, v10, v11, v12, v13, v14], (a, PO dx s nm e) :: (s, .list (RL rows)) :: (nm, .list named) :: (ra, .list (RL rows)) :: (514, gB) :: tail⟩
   (Ei (PR a dx s nm e rows named ++ [(ra, .list (RL rows)), (514, gB)]) k) := by
 have l1 := hr.cl.len
 have l2 := hr.len
 ((try dsimp only [PO, PR, az, ay, rG, fy, af, br, bD, ac, au, al, bl, aa, ad, fV, aY, aK, av]); (try simp only []))
 (repeat first | ((with_reducible refine And.intro ?pa ?_); (case pa => first | decide | lia | ((try refine aE ?_); (try simp only [c7, bY, eX, dI, aB, aM]); lia))) | (left; (try dsimp only [af, bp, eh, bB, ac, al, bN, aW, cP, bC, bK, aa, jI, aq, ao, bv, ad, b6, cL, aG, au, c9, am, b8, jV, gC, dG, cI, aH, aF]); (try simp only [bk, bF])))
 refine ⟨a, dx, s, nm, e, rows, named, r, rfl, rfl, nA, hr.rule, hr.cl.1, nA, nA, hr.pr, fun e' => ?_⟩
 ((try dsimp only [aZ, al, aK, au, aY, az, cz, cj]); (try simp only [eX, c7, aB, aM, List.append_nil]))
 have e1 : ((rows.length : Int) == ((rows.length + (0 + 1) : Nat) : Int) - 1) = true := by simp
 (repeat first | ((with_reducible refine And.intro ?pa ?_); (case pa => first | decide | lia | ((try refine aE ?_); (try simp only [c7, bY, eX, dI, aB, aM]); lia))) | (left))
 simp only [e1]
 have hk' := hk e' _ (su h hl hr) (by simp)
 rw [lE] at hk'
 refine bA (rest := tail) (fl := .ret _) hk' ⟨rfl, rfl, rfl, rfl, rfl, trivial⟩ ?_ (List.nil_sublist _) rfl
 rw [lE]
 rfl
noncomputable def Gj : List Str := ["define", "ite_term", "three", "bits", "congruence", "farkas", "branch", "divide", "cut"]
noncomputable def Hl : List D := Gj.map D.str
theorem EK : nW = .tup Hl := rfl
theorem DA {d : Int} (h0 : 0 ≤ d) (h1 : d < 9) : ∃ w : Str, w ∈ ir ∧ w ≠ "input" ∧ iq Hl d = some (.str w) := by
 obtain ⟨n, rfl⟩ : ∃ n : Nat, d = n := ⟨d.toNat, by lia⟩
 have hn : n < Gj.length := by show n < 9; exact ooZ
 have hm : Gj[n] ∈ Gj := List.getElem_mem hn
 have h2 : (Gj.all fun w => ir.contains w && w != ("input" : Str)) = true := by decide +kernel
 have h3 := List.all_eq_true.mp h2 _ hm
 simp only [Bool.and_eq_true, List.contains_iff_mem, bne_iff_ne] at h3
 refine ⟨Gj[n], h3.1, h3.2, ?_⟩
 rw [bO _ n (by lia), Hl, List.getElem?_map, List.getElem?_eq_getElem hn]
 rfl
theorem xh.vars {rows : List cT} {st out : List Int} {ps : List (Nat × Nat)} (h : xh rows st ps out) : ∀ q ∈ ps, q.1 ≤ 5 := by
 induction h with
 | nil => exact fun _ q => nomatch q
 | cons h1 h2 _ _ _ ih =>
  intro q hq
  rcases HL hq with rfl | hq
  ·exact h2.a.2 _ h2.l
  ·exact ih q hq
theorem y9 {rows : List cT} {first : Nat} {r : cT} {ps : List (Nat × Nat)} {st : List Int} (hr : rows[first]? = some r) (hc : dL r.cl) (h : xh rows r.cl ps st) (hl : ps.length ≤ 2) : gf rows.length (dX first ps st) := by
 have hfl : first < rows.length := (List.getElem?_eq_some_iff.mp hr).1
 refine ⟨by simp [dX, ir], h.ok hc, fun x hx => ?_, ?_, by simp [dX]; exact ooK, ?_, ?_, fun q => ?_⟩
 ·rcases HL hx with rfl | hx
  ·lia
  ·obtain ⟨q, hq, rfl⟩ := List.mem_map.mp hx
   have := h.refs q hq
   lia
 ·have := BX hr h hl
  have e : (dX first ps st).pr = (first :: ps.map (·.2)).map fun (n : Nat) => (n : Int) := by simp [dX, Function.comp_def]
  rw [e]
  exact List.Pairwise.map _ (fun a b q e => q (by lia)) this
 ·simp only [dX, jl]
  exact m7 fun x hx => by
   obtain ⟨q, hq, rfl⟩ := List.mem_map.mp hx
   have := h.vars q hq
   exact nA
 ·simp only [dX, cost, te, dI]
  lia
 ·exact absurd (show ("resolve" : Str) = "input" from q) (by decide)
theorem za {rows : List cT} : PyData.eqvAll (bZ (RL rows)) (bZ []) = decide (rows = []) := by
 cases rows with
 | nil => rfl
 | cons r rows => simp [RL, bZ, PyData.eqvAll]
theorem DB {ps : List (Nat × Nat)} : PyData.eqvAll (bZ (PL ps)) (bZ []) = decide (ps = []) := by
 cases ps with
 | nil => rfl
 | cons r rows => simp [PL, bZ, PyData.eqvAll]
theorem DC {ps : List (Nat × Nat)} (h : ∀ q ∈ ps, q.1 ≤ 20 ∧ q.2 ≤ 20) : dD (PL ps) = true := nZ fun d hd => by
 obtain ⟨q, hq, rfl⟩ := List.mem_map.mp hd
 have := h q hq
 simp only [kP, jl, dD, Bool.and_true, Bool.and_eq_true, decide_eq_true_eq]
 exact this
theorem xm : fC (rx ey iG jX ie gU gA lG) 15 iC := by
 rintro ds sub k ⟨a, dx, s, nm, e, rows, named, ra, many, number, rfl, rfl, hm0, hm5, hok, hl, hk⟩
 rw [xk]
 have q_ok1 := hok.all
 have q_p1 := gO q_ok1.1
 have p5 := q_p1.2.2.2.2.1
 have p6 := q_p1.2.2.2.2.2
 ((try dsimp only [fy, aB, aM, cS, cR, PR, PO, az, ay, af, ba, bg, aa, ac, aL, MS.set, ad]); (try simp only [bk, bF, az, ay, au, al, aY, aK]))
 (refine ⟨aE (by decide), ?_⟩; (repeat (left; (try dsimp only [af, ba, a9, aa, ac, au, al, bN, aL, MS.set, ao, ad, aY, aK, am]))); refine fun b => ?_; (repeat (left; (try dsimp only [af, ba, a9, aa, ac, au, al, bN, aL, MS.set, ao, ad, aY, aK, am]))))
 refine ⟨b, number, 4, rfl, rfl, by decide, by decide, fun kind r1 hk0 hk1 => ?_⟩
 ((try (left)); (try dsimp only [aZ, au, al, aY, aK, az, ay, af, bw, aA, ac, cP, ao, aq, cz]))
 cases q1 : (kind == 1)
 case true =>
  (try dsimp only [EK, cQ, af, ba, cL, dt, a9, aa, ac, au, al, bN, aL, MS.set, b8, ao, ad, aY, aK, am])
  refine ⟨b, r1, 9, rfl, rfl, by decide, by decide, fun d r2 hd0 hd1 => ?_⟩
  obtain ⟨w, hw, hwi, ew⟩ := DA hd0 hd1
  ((try dsimp only [aZ, au, al, aY, aK, az, ay, aq]); (try simp only [ew, am]); (repeat (left; (try dsimp only [af, ba, a9, aa, bM, bE, bC, ao, ac, au, al, bN, MS.trunc, MS.more, cS, cR, aL, MS.set, ad, gZ, cO, aq, cz, az, ay, aB, aM, am]))))
  refine ⟨b, r2, 3, rfl, rfl, by decide, by decide, fun d2 r3 hd2 hd3 => ?_⟩
  (try dsimp only [aq, aZ, au, al, aY, aK, az, ay, aB, aM])
  refine ⟨by lia, aE (by simp only [db, dI, List.length_range]; lia), ?_⟩
  refine gT (fun l σ acc => Fc fun (ns : List Int) (r : Int) (v : Option D) => Ef (acc = DL ns) ((∀ x ∈ ns, x ≠ 0 ∧ x.natAbs ≤ 5)) (ns.length + l.length ≤ 3) (σ = ⟨[some (.ref a), some (.ref ra), some (.int many), some (.int number), some (.ref b), some (.int kind), some (.str w), none, none, none, none, none, none, none, none, v], PR a dx s nm e rows named ++ [(ra, .list (RL rows)), (514, gB), (b, .list [.int r])]⟩)) ?_ ?_ _ _ _ ⟨[], r3, none, rfl, (fun x q => nomatch q), by simp only [db, dI, List.length_range, aM]; lia, rfl⟩
  ·rintro σ acc ⟨ns, r, v, rfl, hns, hln, rfl⟩ c
   ((try dsimp only [aM] at hln); (try dsimp only [PR, PO, az, ay, au, al, ci, bV, aY, aK, am]))
   refine ⟨c, ns, rfl, rfl, hns, nA, fun _ => ?_, fun hnc out ht hm => ?_⟩
   ·((try (left)); (try dsimp only [aZ, au, al, aY, aK, az, ay, af, bw, aA, ac, Cl, g6, cQ, bp, fF, aW, b0, aw]))
    exact bA (rest := [(b, _), (c, _)]) (fl := .ret _) (hk e rows hok (by lia)) ⟨rfl, rfl, rfl, rfl, rfl, trivial⟩ rfl (List.nil_sublist _) rfl
   ·((try (left)); (try dsimp only [aZ, au, al, aY, aK, az, ay, af, bw, aA, ac, Cl, g6, cQ, bp, fF, aW, b0, aw]); (repeat (left; (try dsimp only [af, ba, cD, aa, ac, au, al, aL, MS.set, aB, ad, aM, a9, bN, aY, aK, am]))))
    (refine ⟨Nat.zero_le _, ?_⟩; refine ⟨b, r, many, rfl, rfl, hm0, hm5, fun note r5 hn1 hn2 => ?_⟩)
    (try dsimp only [aZ, au, al, aY, aK, az, ay])
    (refine ⟨aE (by decide), ?_⟩; (repeat (left; (try dsimp only [aw]))))
    exact xl (r := ⟨w, out, [], note⟩) (tail := [(b, _), (c, _)]) hok hl ⟨hw, ⟨ht, fun x hx => (hns x ((hm x).mp hx)).2⟩, (fun x q => nomatch q), List.nodup_nil, by simp, hn1, hn2, fun q => absurd q hwi⟩ hk
  ·rintro d l σ acc ⟨ns, r, v, rfl, hns, hln, rfl⟩ ih
   ((try dsimp only [aB] at hln); (try dsimp only [PR, PO, az, ay] at ih); (try dsimp only [PR, PO, az, ay, bz, cH, dF, a9, aa, ac, bN, ad, aL, MS.set, aY, aK, au, al, am]))
   refine ⟨b, r, many, rfl, rfl, hm0, hm5, fun x r5 hx0 hx1 => ?_⟩
   (try dsimp only [aZ, au, al, aY, aK, az, ay, ci, bV])
   refine ⟨trivial, ih _ _ ⟨ns ++ [x], r5, _, by simp [DL], fun y hy => ?_, by simp only [eX, aB, aM]; lia, rfl⟩⟩
   rcases List.mem_append.mp hy with q | q
   ·exact hns y q
   ·obtain rfl := List.mem_singleton.mp q
    exact ⟨hx0, by lia⟩
 (try dsimp only [b0, af, bw, jb, aA, ac, au, al, cP, ao, aq, cz])
 cases q0 : (kind == 0)
 case true =>
  (try dsimp only [Dv, cQ, af, ba, cD, aa, bh, a9, ac, au, al, bN, aL, MS.set, aB, ad, aM, ao, aY, aK, am])
  refine ⟨b, r1, many, rfl, rfl, hm0, hm5, fun x r2 hx0 hx1 => ?_⟩
  (try dsimp only [aZ, au, al, aY, aK, az, ay, am])
  (refine ⟨aE (by decide), ?_⟩; refine ⟨Nat.zero_le _, ?_⟩; refine ⟨b, r2, 7, rfl, rfl, by decide, by decide, fun d r3 hd0 hd1 => ?_⟩)
  (try dsimp only [aZ, au, al, aY, aK, az, ay])
  (refine ⟨aE (by decide), ?_⟩; (repeat (left; (try dsimp only [aw]))))
  exact xl (r := ⟨"input", [x], [], .int d⟩) (tail := [(b, _)]) hok hl ⟨by simp [ir], ⟨⟨by simpa using hx0, by simp⟩, by simp; lia⟩, (fun x q => nomatch q), List.nodup_nil, by simp, Dy ooV, by simp [cost], fun _ => ⟨d, rfl, hd0, hd1⟩⟩ hk
 ((try dsimp only [jE, jb, aA, ac, au, al, lg, bg, ad, aM, aF, az, ay, cj]); (try simp only []))
 (refine ⟨Nat.zero_le _, ?_⟩; refine fun c => ?_)
 refine ⟨⟨trivial, trivial⟩, ⟨q_p1.1, by trivial⟩, ⟨q_p1.2.1, by trivial⟩, by lia, ?_⟩
 rw [za, Bool.false_bne]
 by_cases hr0 : rows = []
 ·(try simp only [hr0, decide_true, Dv, cQ, af, ba, cD, aa, bh, a9, ac, au, al, ad, bN, aB, aM, ao, aL, MS.set, aY, aK, am])
  refine ⟨b, r1, many, rfl, rfl, hm0, hm5, fun x r2 hx0 hx1 => ?_⟩
  (try dsimp only [aZ, au, al, aY, aK, az, ay, am])
  (refine ⟨aE (by decide), ?_⟩; refine ⟨Nat.zero_le _, ?_⟩; refine ⟨b, r2, 7, rfl, rfl, by decide, by decide, fun d r3 hd0 hd1 => ?_⟩)
  (try dsimp only [aZ, au, al, aY, aK, az, ay])
  (refine ⟨aE (by decide), ?_⟩; (repeat (left; (try dsimp only [aw]))))
  subst hr0
  exact xl (r := ⟨"input", [x], [], .int d⟩) (tail := [(b, _), (c, _)]) hok hl ⟨by simp [ir], ⟨⟨by simpa using hx0, by simp⟩, by simp; lia⟩, (fun x q => nomatch q), List.nodup_nil, by simp, Dy ooV, by simp [cost], fun _ => ⟨d, rfl, hd0, hd1⟩⟩ hk
 ·have hlen : 0 < rows.length := List.length_pos_iff.mpr hr0
  simp only [hr0, decide_false]
  ((try dsimp only [jE, cH, b0, af, ba, cD, aa, a9, ac, au, al, bN, vN, aB, aM, ad, bK, bv, b6, c9, am, cj]); (try simp only [c7, List.reverse_cons, List.reverse_nil, ay, az, MS.setAll, MS.set, aY, aK]))
  (refine ⟨by trivial, ?_⟩; refine ⟨nB, ?_⟩; refine ⟨b, r1, (rows.length : Int), rfl, rfl, ooW, by lia, fun first r2 hf0 hf1 => ?_⟩)
  ((try dsimp only [aZ, au, al, aY, aK, az, ay, am, cj]); (try simp only [c7]))
  (refine ⟨by trivial, ?_⟩; refine ⟨nB, ?_⟩; refine ⟨b, r2, (rows.length : Int), rfl, rfl, ooW, by lia, fun begin' r3 hg0 hg1 => ?_⟩)
  obtain ⟨fi, rfl⟩ : ∃ n : Nat, first = n := ⟨first.toNat, by lia⟩
  obtain ⟨r, hr⟩ : ∃ r, rows[fi]? = some r := ⟨_, List.getElem?_eq_getElem ooZ⟩
  (try dsimp only [aZ, au, al, aY, aK, az, ay])
  (refine ⟨aE (by decide), ?_⟩; (repeat (left; (try dsimp only [af, ba, a9, aa, ac, au, al, bN, gF, aB, aM, ad, am]))); refine ⟨by trivial, ?_⟩; (repeat (left; (try dsimp only [af, ba, a9, aa, ac, au, al, bN, gF, aB, aM, ad, am]))); refine ⟨ra, rows, fi, r, begin', rfl, rfl, nA, fun i r hi => (hok.2 i r hi).cl, hr, fun pa ps stand hrun hps => ?_⟩; (repeat (left; (try dsimp only [af, ba, a9, aa, ac, au, al, bN, gF, aB, aM, ad, am]))))
  ((try dsimp only [aB, aM, aZ, au, al, aY, aK, az, ay, MS.setAll, MS.set]); (try simp only []))
  (repeat first | ((with_reducible refine And.intro ?pa ?_); (case pa => first | decide | lia | ((try refine aE ?_); (try simp only [c7, bY, eX, dI, aB, aM]); lia))) | (left; (try dsimp only [af, ba, bB, ac, al, bN, aL, MS.set, aa, ad, aG, au, aY, aK, am, aH, aF]); (try simp only [bk, bF])))
  refine ⟨a, dx, s, nm, e, rows, named, pa, fi, r, ps, stand, rfl, rfl, nA, hr, (hok.2 _ _ hr).cl, hrun, nA, fun hp0 => ?_, fun hp0 e' => ?_⟩
  ·subst hp0
   ((try (left)); (try dsimp only [PO, aZ, al, aK, au, aY, az, ay, af, bw, aA, ac, lg, bg, ad, aM, aF, cj]); (try simp only []))
   (refine ⟨Nat.zero_le _, ?_⟩; refine fun d0 => ?_)
   ((try dsimp only [PL]); (try simp only [bF]))
   refine ⟨⟨trivial, trivial⟩, ⟨rfl, rfl⟩, ⟨rfl, rfl⟩, Nat.zero_le _, ?_⟩
   (try simp only [show PyData.eqvAll (bZ []) (bZ []) = true from rfl, Bool.bne_true, Bool.not_false, cQ, af, bp, eh, ac, au, al, cP, aW, aq, cz, beq_self_eq_true])
   exact bA (rest := [(b, _), (c, _), (pa, _), (d0, _)]) (fl := .ret _) (hk e rows hok (by lia)) ⟨rfl, rfl, rfl, rfl, rfl, trivial⟩ rfl (List.nil_sublist _) rfl
  ·((try (left)); (try dsimp only [PO, aZ, al, aK, au, aY, az, ay, af, bw, aA, ac, lg, bg, ad, aM, aF, cj]); (try simp only []))
   (refine ⟨Nat.zero_le _, ?_⟩; refine fun d0 => ?_)
   have hpq : ∀ q ∈ ps, q.1 ≤ 20 ∧ q.2 ≤ 20 := fun q hq => ⟨by have := hrun.vars q hq; exact nA, by have := hrun.refs q hq; lia⟩
   have okp := DC hpq
   have q_w1 := gO okp
   have w5 := q_w1.2.2.2.2.1
   have w6 := q_w1.2.2.2.2.2
   have wc : cb (PL ps) ≤ 3 * (PL ps).length := y7 fun d hd => by
    obtain ⟨q, hq, rfl⟩ := List.mem_map.mp hd
    simp [kP, cost, cb]
   rw [lF] at wc
   refine ⟨⟨trivial, trivial⟩, ⟨q_w1.1, rfl⟩, ⟨q_w1.2.1, rfl⟩, by lia, ?_⟩
   ((try simp only [DB, hp0, decide_false, Bool.bne_false, b0, aw]); (repeat (left; (try dsimp only [af, ba, bC, cD, aa, ac, au, al, aL, MS.set, cO, bK, bM, bR, MS.trunc, MS.more, cS, cR, c6, b8, ad, b6, c9, kE, aB, az, aM, ay, av]); (try simp only [lF]))))
   (refine ⟨aE nJ, ?_⟩; refine ⟨by trivial, ?_⟩; refine ⟨aE nA, ?_⟩)
   refine ic (l := ps) (q := kP) (fun q => some (.int (q.2 : Nat))) (fun (z : Option D × Option D) => ⟨[some (.ref a), some (.ref ra), some (.int many), some (.int number), some (.ref b), some (.int kind), none, none, none, some (.int fi), some (.int begin'), some (.ref pa), some (.tup (DL stand)), some (.int rows.length), none, z.1, z.2],
    PR a dx s nm e' (rows ++ [dX fi ps stand]) named ++ [(ra, .list (RL rows)), (514, gB), (b, .list [.int r3]), (c, .list []), (pa, .list (PL ps)), (d0, .list [])]⟩) ?_ ?_ (none, none)
   ·intro x hx v r acc hn
    ((try dsimp only [PR, PO, az, ay, Option.toList] at hn); (try dsimp only [kP, PR, PO, az, ay, bz, cH, dF, ac, gF, aB, aM, MS.setAll, MS.set, aY, aK, au, al, ci, bV]); (try simp only []))
    (repeat first | ((with_reducible refine And.intro ?pa ?_); (case pa => first | decide | lia | ((try refine aE ?_); (try simp only [c7, bY, eX, dI, aB, aM]); lia))) | (left))
    exact hn (_, _)
   ·intro z f1
    rw [dm]
    ((try dsimp only [PR, PO, az, ay, au, al, ci, bV, aY, aK, cj]); (try simp only []))
    (repeat first | ((with_reducible refine And.intro ?pa ?_); (case pa => first | decide | lia | ((try refine aE ?_); (try simp only [c7, bY, eX, dI, aB, aM]); lia))) | (left; (try dsimp only [af, br, bD, ac, au, al, bl, aa, cD, bh, ad, fV, aB, bK, bM, bR, MS.trunc, MS.more, cS, cR, aM, c6, b6, c9, az, ay, av]); (try simp only [lF])))
    refine ic (l := ps) (q := kP) (fun q => some (.int (q.1 : Nat))) (fun (z : Option D × Option D) => ⟨[some (.ref a), some (.ref ra), some (.int many), some (.int number), some (.ref b), some (.int kind), none, none, none, some (.int fi), some (.int begin'), some (.ref pa), some (.tup (DL stand)), some (.int rows.length), some (.tup (.int fi :: ps.map fun q => .int (q.2 : Nat))), z.1, z.2],
     PR a dx s nm e' (rows ++ [dX fi ps stand]) named ++ [(ra, .list (RL rows)), (514, gB), (b, .list [.int r3]), (c, .list []), (pa, .list (PL ps)), (d0, .list []), (f1, .list (ps.map fun q => .int (q.2 : Nat)))]⟩) ?_ ?_ (none, none)
    ·intro x hx v r acc hn
     ((try dsimp only [PR, PO, az, ay, Option.toList] at hn); (try dsimp only [kP, PR, PO, az, ay, bz, cH, dF, ac, gF, aB, aM, MS.setAll, MS.set, aY, aK, au, al, ci, bV]); (try simp only []))
     (repeat first | ((with_reducible refine And.intro ?pa ?_); (case pa => first | decide | lia | ((try refine aE ?_); (try simp only [c7, bY, eX, dI, aB, aM]); lia))) | (left))
     exact hn (_, _)
    ·intro z f2
     rw [dm]
     ((try dsimp only [PR, PO, az, ay, au, al, ci, bV, aY, aK, av, cj]); (try simp only []))
     (repeat first | ((with_reducible refine And.intro ?pa ?_); (case pa => first | decide | lia | ((try refine aE ?_); (try simp only [c7, bY, eX, dI, aB, aM]); lia))) | (left; (try dsimp only [af, bp, eh, ac, au, al, aW, cP, bC, bK, aa, jI, aq, ao, bv, ad, b6, cj, c9, cz]); (try simp only [])))
     have e1 : ∀ y : D, ((rows.length : Int) == ((RL rows ++ [y]).length : Int) - 1) = true := fun y => by simp [c7]
     simp only [e1]
     have hk' := hk e' _ (su hok hl (y9 hr (hok.2 _ _ hr).cl hrun hps)) (by simp)
     refine bA (rest := [(b, .list [.int r3]), (c, .list []), (pa, .list (PL ps)), (d0, .list []), (f1, .list (ps.map fun q => .int (q.2 : Nat))), (f2, .list (ps.map fun q => .int (q.1 : Nat)))]) (fl := .ret _) hk' ⟨rfl, rfl, rfl, rfl, rfl, trivial⟩ ?_ (List.nil_sublist _) rfl
     rw [lE]
     simp [dX, DL, Function.comp_def, PO]
noncomputable def BY (rows : List cT) (n : Nat) : List Int := (rows[n]?.map cT.pr).getD []
noncomputable def dQ (rows : List cT) (ks : List Int) (n : Nat) : List Int := if (n : Int) ∈ ks then ks ++ BY rows n else ks
noncomputable def dY (rows : List cT) : Nat → List Int → List Int
 | 0, ks => ks
 | n + 1, ks => dY rows n (dQ rows ks n)
noncomputable def wg (rows : List cT) (last : Nat) : List Int := dY rows (last + 1) [(last : Int)]
noncomputable def kq (rows : List cT) (last : Nat) (kept : List Int) : Prop := kept.Pairwise (· < ·) ∧ ∀ x, x ∈ kept ↔ x ∈ wg rows last
theorem um {rows : List cT} {n : Nat} {r : cT} (h : rows[n]? = some r) : BY rows n = r.pr := by unfold BY; rw [h]; rfl
theorem AS {rows : List cT} (h : cw rows) {n : Nat} {x : Int} (hx : x ∈ BY rows n) : 0 ≤ x ∧ x < n := by
 unfold BY at hx
 cases e : rows[n]? with
 | none => rw [e] at hx; simp at hx
 | some r => rw [e] at hx; exact (h.2 n r e).pr x hx
theorem xn {rows : List cT} {ks : List Int} {n : Nat} {x : Int} (h : x ∈ ks) : x ∈ dQ rows ks n := by
 unfold dQ; split
 ·exact List.mem_append_left _ h
 ·exact h
theorem qt {rows : List cT} : ∀ (m : Nat) {ks : List Int} {x : Int}, x ∈ ks → x ∈ dY rows m ks
 | 0, _, _, h => h
 | m + 1, _, _, h => qt m (xn h)
theorem qu {rows : List cT} (hr : cw rows) : ∀ (m : Nat) {ks : List Int} {x : Int}, x ∈ dY rows m ks → (m : Int) ≤ x + 1 → x ∈ ks
 | 0, _, _, h, _ => h
 | m + 1, ks, x, h, hx => by
  have := qu hr m h (by lia)
  unfold dQ at this
  split at this
  ·rcases List.mem_append.mp this with q | q
   ·exact q
   ·have := AS hr q; lia
  ·exact this
theorem m8 {rows : List cT} (hr : cw rows) {b : Int} : ∀ (m : Nat) {ks : List Int}, (m : Int) ≤ b → (∀ x ∈ ks, 0 ≤ x ∧ x < b) → ∀ x ∈ dY rows m ks, 0 ≤ x ∧ x < b
 | 0, _, _, h => h
 | m + 1, ks, hm, h => m8 hr m (by lia) fun x hx => by
  unfold dQ at hx
  split at hx
  ·rcases List.mem_append.mp hx with q | q
   ·exact h x q
   ·have := AS hr q; lia
  ·exact h x hx
theorem lZ {rows : List cT} (hr : cw rows) : ∀ (m : Nat) {ks : List Int} {n : Nat}, n < m → (n : Int) ∈ dY rows m ks → ∀ x ∈ BY rows n, x ∈ dY rows m ks
 | 0, _, _, h, _ => absurd h (Nat.not_lt_zero _)
 | m + 1, ks, n, h, hn => by
  by_cases e : n = m
  ·subst e
   have h1 : (n : Int) ∈ dQ rows ks n := qu hr n hn (by lia)
   have h2 : (n : Int) ∈ ks := by
    unfold dQ at h1
    split at h1
    ·assumption
    ·exact h1
   intro x hx
   refine qt n ?_
   unfold dQ
   rw [if_pos h2]
   exact List.mem_append_right _ hx
  ·exact lZ hr m (by lia) hn
theorem pq : ∀ {a b : List Int}, a.Pairwise (· < ·) → b.Pairwise (· < ·) → (∀ x, x ∈ a ↔ x ∈ b) → a = b
 | [], [], _, _, _ => rfl
 | [], y :: b, _, _, h => absurd ((h y).mpr c8) (by simp)
 | x :: a, [], _, _, h => absurd ((h x).mp c8) (by simp)
 | x :: a, y :: b, ha, hb, h => by
  obtain ⟨a1, a2⟩ := List.pairwise_cons.mp ha
  obtain ⟨b1, b2⟩ := List.pairwise_cons.mp hb
  have exy : x = y := by
   rcases HL ((h x).mp c8) with e | q
   ·exact e
   ·rcases HL ((h y).mpr c8) with e | q2
    ·exact e.symm
    ·have := b1 x q; have := a1 y q2; lia
  subst exy
  rw [pq a2 b2 fun z => ?_]
  constructor
  ·intro q
   rcases HL ((h z).mp (dP _ q)) with e | q2
   ·subst e; have := a1 _ q; lia
   ·exact q2
  ·intro q
   rcases HL ((h z).mpr (dP _ q)) with e | q2
   ·subst e; have := b1 _ q; lia
   ·exact q2
theorem kq.uniq {rows : List cT} {last : Nat} {a b : List Int} (h1 : kq rows last a) (h2 : kq rows last b) : a = b := pq h1.1 h2.1 fun x => (h1.2 x).trans (h2.2 x).symm
theorem kq.bound {rows : List cT} (hr : cw rows) {last : Nat} {a : List Int} (h : kq rows last a) : ∀ x ∈ a, 0 ≤ x ∧ x < (last : Int) + 1 := fun x hx =>
 m8 hr (last + 1) (by lia) (fun x hx => by rw [List.mem_singleton] at hx; lia) x ((h.2 x).mp hx)
theorem kq.closed {rows : List cT} (hr : cw rows) {last : Nat} {a : List Int} (h : kq rows last a) {n : Nat} (hn : (n : Int) ∈ a) {r : cT} (e : rows[n]? = some r) : ∀ x ∈ r.pr, x ∈ a := fun x hx => by
 have := h.bound hr _ hn
 exact (h.2 x).mpr (lZ hr (last + 1) (by lia) ((h.2 _).mp hn) x (by rw [um e]; exact hx))
theorem kQ {K : List Int} {n : Nat} (hn : K.Nodup) (h : ∀ x ∈ K, 0 ≤ x ∧ x < (n : Int)) : K.length ≤ n := by
 have := nY n (K.map Int.toNat) (by
  rw [List.Nodup, List.pairwise_map]
  exact List.Pairwise.imp_of_mem (fun {x y} hx hy q e => q ((Int.toNat_of_nonneg (h x hx).1).symm.trans ((congrArg Nat.cast e).trans (Int.toNat_of_nonneg (h y hy).1)))) hn) (fun x hx => by
  obtain ⟨y, hy, rfl⟩ := List.mem_map.mp hx
  exact (Int.toNat_lt (h y hy).1).mpr (h y hy).2)
 simpa using this
theorem qv {rows : List cT} {last : Nat} {K ns : List Int} (hn : K.Nodup) (hm : ∀ x, x ∈ K ↔ x ∈ wg rows last) (h : s9 K ns) : kq rows last ns := by
 obtain ⟨h1, h2⟩ := h
 exact ⟨nV (by simpa using h2) (h1.nodup_iff.mpr hn), fun x => (h1.mem_iff).trans (hm x)⟩
inductive fP : List D → List (Addr × O) → cu → Prop
 | mk {ds : List D} {sub : List (Addr × O)} {k : cu} (a dx s nm e rows named last : _) (h0 : ds = [.ref a, .int (last : Nat)]) (h1 : sub = PR a dx s nm e rows named) (h2 : cw rows) (h3 : last < rows.length) (h4 : ∀ kept a', kq rows last kept → k (.ref a') [PO dx s nm e, .list (RL rows), .list named] [(a', .list (DL kept))]) : fP ds sub k
set_option tactic.hygienic true in
theorem qw : fC jz 5 fP := by
 rintro ds sub k ⟨a, dx, s, nm, e, rows, named, last, rfl, rfl, hok, hlt, hk⟩
 have h13 := hok.1
 ((try dsimp only [jz, aB, aM, cS, cR, PR, PO, af, ba, zD, az, ay, aL, MS.set, fF, ac, au, al, aY, aK, xP, FA]); (try simp only [bk, bF, az, ay, au, al, aY, aK, aV, aq]))
 intro w
 ((try (left)); (try dsimp only [af, dq, bE, aa, ac, au, al, MS.trunc, fJ, ao, ad, Fm, aq, aB, aM]); (try simp only [aV]))
 refine ⟨⟨ooR, ooT⟩, ⟨by decide, ooR⟩, ?_⟩
 refine bS (fun l σ => Fd fun (m : Nat) (K ks : List Int) (v3 v4 : Option D) => Hv (l = db ((m : Int) - 1) (-1) m) (m ≤ last + 1) (K.Nodup) ((∀ x ∈ K, 0 ≤ x ∧ x < (rows.length : Int))) ((∀ x, x ∈ K ↔ x ∈ ks)) (dY rows m ks = wg rows last) (σ = ⟨[some (.ref a), some (.int last), some (.ref w), v3, v4], [(a, PO dx s nm e), (s, .list (RL rows)), (nm, .list named), (w, .dict (KV K))]⟩)) ?_ ?_ _ _ ⟨last + 1, [(last : Int)], [(last : Int)], none, none, ?_, Nat.le_refl _, by simp, ?_, fun x => Iff.rfl, rfl, rfl⟩
 ·rintro σ ⟨m, K, ks, v3, v4, hl, hm, hn, hb, hmem, hdown, rfl⟩
  have hm0 : m = 0 := by
   cases m with
   | zero => rfl
   | succ m => rw [bu] at hl; cases hl
  subst hm0
  have hKl := kQ hn hb
  ((try (left)); (try dsimp only [af, bp, bK, aa, ac, au, al, aW, li, gH, ad, b6, az, ay, tq, am]); (try simp only [xf, aV]))
  refine ⟨by lia, fun ns' c hs => ?_⟩
  exact bA (rest := [(w, _), (c, _)]) (fl := .ret _) (hk ns' c (qv hn (fun x => (hmem x).trans (by rw [← hdown]; rfl)) hs)) lY rfl (.cons _ (.refl _)) rfl
 ·rintro d l σ ⟨m, K, ks, v3, v4, hl, hm, hn, hb, hmem, hdown, rfl⟩ ih
  cases m with
  | zero => cases hl
  | succ m =>
   rw [bu] at hl
   cases hl
   obtain ⟨r, hr⟩ : ∃ r, rows[m]? = some r := ⟨_, List.getElem?_eq_getElem nG⟩
   have em : (((m + 1 : Nat) : Int) - 1) = (m : Int) := Int.add_sub_cancel (m : Int) 1
   ((try dsimp only [PO] at ih); (try simp only [em] at ih); (try dsimp only [PO, bj, af, bw, aA, ac, CM, aL, MS.set, aY, aK, au, al, wC, aq]); (try simp only [em, E7, aV]))
   by_cases hin : (m : Int) ∈ K
   ·have hks := (hmem _).mp hin
    have hdown' : dY rows m (ks ++ r.pr) = wg rows last := by
     rw [← hdown]
     show _ = dY rows m (dQ rows ks m)
     unfold dQ
     rw [if_pos hks, um hr]
    (try simp only [hin, decide_true, cQ, af, dq, dy, cL, aX, bU, ac, al, aG, cy, au, ao, MS.trunc, aB, aM, aq, bO _ m (by lia), aH, am, av, fE hr, b8, gC, aV, aF])
    have hpr := (hok.2 _ _ hr).pr
    refine bS (fun l σ => EZ fun (p1 p2 K' : List Int) (v4 : Option D) => Gc (r.pr = p1 ++ p2) (l = DL p2) (K'.Nodup) ((∀ x ∈ K', 0 ≤ x ∧ x < (rows.length : Int))) ((∀ x, x ∈ K' ↔ x ∈ ks ++ p1)) (σ = ⟨[some (.ref a), some (.int last), some (.ref w), some (.int m), v4], [(a, PO dx s nm e), (s, .list (RL rows)), (nm, .list named), (w, .dict (KV K'))]⟩)) ?_ ?_ _ _ ⟨[], r.pr, K, v4, rfl, rfl, hn, hb, by simpa using hmem, rfl⟩
    ·rintro σ ⟨p1, p2, K', v4, e1, e2, hn', hb', hm', rfl⟩
     have : p2 = [] := by
      cases p2 with
      | nil => rfl
      | cons _ _ => cases e2
     subst this
     rw [List.append_nil] at e1
     subst e1
     ((try (left)); (try dsimp only [PO, aw]); (repeat (left; (try dsimp only [aw, bb, ci, bV]); (try simp only [aV]))))
     refine (ih _ ⟨m, K', _, _, _, rfl, nM, hn', hb', hm', hdown', rfl⟩)
    ·rintro d l σ ⟨p1, p2, K', v4, e1, e2, hn', hb', hm', rfl⟩ ih2
     cases p2 with
     | nil => cases e2
     | cons x p2 =>
      cases e2
      have hKl := kQ hn' hb'
      ((try dsimp only [PO] at ih2); (try dsimp only [PO, bj, af, eM, fF, ac, aL, MS.set, aY, aK, au, al, xP, aq, aF]); (try simp only [z6, z5, aV]))
      have hx := hpr x (by rw [e1]; simp)
      (refine ⟨aE nL, ?_⟩; (repeat (left; (try dsimp only [aw, bb, ci, bV]); (try simp only [aV]))); refine ih2 _ ⟨p1 ++ [x], p2, _, _, by rw [e1]; simp, rfl, ?_, ?_, ?_, rfl⟩)
      ·split
       ·exact hn'
       ·rename_i hxk
        exact List.nodup_append.mpr ⟨hn', by simp, fun y hy z hz e => hxk (by simp at hz; rw [← hz, ← e]; exact hy)⟩
      ·intro y hy
       split at hy
       ·exact hb' y hy
       ·rcases List.mem_append.mp hy with q | q
        ·exact hb' y q
        ·obtain rfl := List.mem_singleton.mp q
         lia
      ·intro y
       split
       ·rename_i hxk
        rw [hm', List.mem_append, List.mem_append, List.mem_append, List.mem_singleton]
        refine ⟨fun q => q.elim .inl fun q => .inr (.inl q), fun q => ?_⟩
        rcases q with q | q | q
        ·exact .inl q
        ·exact .inr q
        ·subst q; exact List.mem_append.mp ((hm' _).mp hxk)
       ·rw [List.mem_append, hm', List.mem_append, List.mem_append, List.mem_append]
        exact or_assoc
   ·((try simp only [hin, decide_false, b0, aw]); (repeat (left; (try dsimp only [aw, bb, ci, bV]); (try simp only [aV]))))
    refine (ih _ ⟨m, K, ks, _, _, rfl, nM, hn, hb, hmem, ?_, rfl⟩)
    rw [← hdown]
    show _ = dY rows m (dQ rows ks m)
    unfold dQ
    rw [if_neg fun q => hin ((hmem _).mpr q)]
 ·have e1 : ((last : Int) - -1).toNat = last + 1 := rfl
  have e2 : (((last + 1 : Nat) : Int) - 1) = (last : Int) := Int.add_sub_cancel (last : Int) 1
  rw [e1, e2]
 ·intro x hx
  rw [List.mem_singleton] at hx
  lia
inductive iH : List D → List (Addr × O) → cu → Prop
 | mk {ds : List D} {sub : List (Addr × O)} {k : cu} (ra : Addr) (rows : List cT) (last : Nat) (h0 : ds = [.ref ra, .int (last : Nat)]) (h1 : sub = [(ra, .list (RL rows))]) (h2 : cw rows) (h3 : last < rows.length) (h4 : ∀ kept a', kq rows last kept → k (.ref a') [.list (RL rows)] [(a', .list (DL kept))]) : iH ds sub k
theorem rH : fC ko 4 iH := by
 rintro ds sub k ⟨ra, rows, last, rfl, rfl, hok, hlt, hk⟩
 have h13 := hok.1
 ((try dsimp only [ko, aB, aM, cS, cR, af, ba, bg, aa, ac, aL, MS.set, ad, az, ay]); (try simp only [bk, bF, az, ay, au, al, aY, aK]))
 (refine ⟨aE (by decide), ?_⟩; (repeat (left; (try dsimp only [af, dq, bE, aa, ac, au, al, MS.trunc, fJ, ao, ad, Fm, aq, aB, aM]); (try simp only [aV]))); refine fun w => ?_; (repeat (left; (try dsimp only [af, dq, bE, aa, ac, au, al, MS.trunc, fJ, ao, ad, Fm, aq, aB, aM]); (try simp only [aV]))))
 refine ⟨⟨ooR, ooT⟩, ⟨by decide, ooR⟩, ?_⟩
 refine bS (fun l σ => Fd fun (m : Nat) (K ks : List Int) (v3 : Option D) (rest : List (Addr × O)) => Hv (l = db ((m : Int) - 1) (-1) m) (m ≤ last + 1) (K.Nodup) ((∀ x ∈ K, 0 ≤ x ∧ x < (rows.length : Int))) ((∀ x, x ∈ K ↔ x ∈ ks)) (dY rows m ks = wg rows last) (σ = ⟨[some (.ref ra), some (.int last), some (.ref w), v3], [(ra, .list (RL rows)), (w, .list (DL K))]⟩)) ?_ ?_ _ _ ⟨last + 1, [(last : Int)], [(last : Int)], none, [], ?_, Nat.le_refl _, by simp, ?_, fun x => Iff.rfl, rfl, rfl⟩
 ·rintro σ ⟨m, K, ks, v3, rest, hl, hm, hn, hb, hmem, hdown, rfl⟩
  have hm0 : m = 0 := by
   cases m with
   | zero => rfl
   | succ m => rw [bu] at hl; cases hl
  subst hm0
  have hKl := kQ hn hb
  ((try (left)); (try dsimp only [af, bp, bK, aa, ac, au, al, aW, li, gH, ad, b6, az, ay, tq]); (try simp only [cG, am, aV]))
  refine ⟨by lia, fun ns' c hs => ?_⟩
  exact bA (rest := [(w, _), (c, _)]) (fl := .ret _) (hk ns' c (qv hn (fun x => (hmem x).trans (by rw [← hdown]; rfl)) hs)) ⟨rfl, trivial⟩ rfl (.cons _ (.refl _)) rfl
 ·rintro d l σ ⟨m, K, ks, v3, rest, hl, hm, hn, hb, hmem, hdown, rfl⟩ ih
  cases m with
  | zero => cases hl
  | succ m =>
   rw [bu] at hl
   cases hl
   obtain ⟨r, hr⟩ : ∃ r, rows[m]? = some r := ⟨_, List.getElem?_eq_getElem nG⟩
   have em : (((m + 1 : Nat) : Int) - 1) = (m : Int) := Int.add_sub_cancel (m : Int) 1
   ((try simp only [em] at ih); (try dsimp only [bj, af, bw, aA, ac, kG, aL, MS.set, aY, aK, au, al, av, aq]); (try simp only [cG, em, fO, am, aV]))
   by_cases hin : (m : Int) ∈ K
   ·have hks := (hmem _).mp hin
    have hdown' : dY rows m (ks ++ r.pr) = wg rows last := by
     rw [← hdown]
     show _ = dY rows m (dQ rows ks m)
     unfold dQ
     rw [if_pos hks, um hr]
    (try simp only [hin, decide_true, Bool.false_bne, cQ, af, br, bD, ac, au, al, aa, bM, dy, cL, aX, ao, MS.trunc, aB, aM, MS.more, cS, cR, az, ay, ad, lh, fV, aF, aq, av, aV, bO _ m (by lia), fE hr, am, b8, gC])
    have hpr := (hok.2 _ _ hr).pr
    have hnd := (hok.2 _ _ hr).nd
    have hle := (hok.2 _ _ hr).len
    have hKl := kQ hn hb
    (refine ⟨aE (by rw [bY]; exact nA), ?_⟩)
    refine jF (fun y => !decide (y ∈ K)) (fun v => ⟨[some (.ref ra), some (.int last), some (.ref w), some (.int m), v], [(ra, .list (RL rows)), (w, .list (DL K))]⟩) ?_ ?_ none
    ·intro y hy v l acc hnx
     ((try dsimp only [bz, aA, ac, kG, aL, MS.set, aY, aK, au, al, av, aq]); (try simp only [cG, fO, Bool.true_bne, am, aV]))
     cases hq : decide (y ∈ K) <;> ((try simp only [hq, Bool.not_false, if_true, Bool.not_true, Bool.false_eq_true, if_false] at hnx); (try simp only [Bool.not_false, dF, ac, au, al, ci, List.take_nil, aV, Bool.not_true, jh])) <;> exact hnx _
    ·intro v c
     have hfl : (r.pr.filter (fun y => !decide (y ∈ K))).length ≤ 3 := Nat.le_trans (List.length_filter_le _ _) hle
     ((try dsimp only [az, ay, au, al, ci, bV, aY, aK, cj]); (try simp only [and_true, aV]))
     have eA : DL K ++ DL (r.pr.filter (fun y => !decide (y ∈ K))) = DL (K ++ r.pr.filter (fun y => !decide (y ∈ K))) := by simp [DL]
     refine ⟨by rw [bY, bY]; lia, ?_⟩
     rw [eA]
     ((try (left)); (try dsimp only [aw]); (repeat (left; (try dsimp only [aw, bb, ci, bV]); (try simp only [aV]))))
     refine ih _ ⟨m, K ++ r.pr.filter (fun y => !decide (y ∈ K)), ks ++ r.pr, _, [], rfl, nM, ?_, ?_, ?_, hdown', rfl⟩
     ·refine List.nodup_append.mpr ⟨hn, hnd.filter _, fun y hy z hz e => ?_⟩
      have := (List.mem_filter.mp hz).2
      simp only [Bool.not_eq_true', decide_eq_false_iff_not] at this
      exact this (e ▸ hy)
     ·intro y hy
      rcases List.mem_append.mp hy with q | q
      ·exact hb y q
      ·have := hpr y (List.mem_filter.mp q).1
       lia
     ·intro y
      rw [List.mem_append, List.mem_append, List.mem_filter]
      simp only [Bool.not_eq_true', decide_eq_false_iff_not, hmem]
      refine ⟨fun q => q.elim .inl fun q => .inr q.1, fun q => ?_⟩
      by_cases hy : y ∈ ks
      ·exact .inl hy
      ·exact .inr ⟨q.resolve_left hy, hy⟩
   ·((try simp only [hin, decide_false, Bool.false_bne, b0, aw]); (repeat (left; (try dsimp only [aw, bb, ci, bV]); (try simp only [aV]))))
    refine (ih _ ⟨m, K, ks, _, [], rfl, nM, hn, hb, hmem, ?_, rfl⟩)
    rw [← hdown]
    show _ = dY rows m (dQ rows ks m)
    unfold dQ
    rw [if_neg fun q => hin ((hmem _).mpr q)]
 ·have e1 : ((last : Int) - -1).toNat = last + 1 := rfl
  have e2 : (((last + 1 : Nat) : Int) - 1) = (last : Int) := Int.add_sub_cancel (last : Int) 1
  rw [e1, e2]
 ·intro x hx
  rw [List.mem_singleton] at hx
  lia
structure wh (fs : List (Str × D)) (o ar so da nb : Addr) : Prop where
 o : fs[6]? = some (("term_ops" : Str), D.ref o)
 ar : fs[7]? = some (("term_args" : Str), D.ref ar)
 so : fs[8]? = some (("term_sorts" : Str), D.ref so)
 da : fs[9]? = some (("term_datas" : Str), D.ref da)
 nb : fs[10]? = some (("numbers" : Str), D.ref nb)
structure zc (fs : List (Str × D)) (f1 f2 f3 : Addr) : Prop where
 f1 : fs[2]? = some (("fun_names" : Str), D.ref f1)
 f2 : fs[3]? = some (("fun_args" : Str), D.ref f2)
 f3 : fs[4]? = some (("fun_results" : Str), D.ref f3)
inductive iX : List D → List (Addr × O) → cu → Prop
 | mk {ds : List D} {sub : List (Addr × O)} {k : cu} (a dx : Addr) (fs : List (Str × D)) (o ar so da nb : Addr) (ops args sorts datas : List D) (kvs : List ((Str × Int) × D)) (x : Str) (i : Int) (h0 : ds = [.ref a, .str x, .tup [], .int 0, .int i]) (h1 : sub = [(a, .inst 493 dx fs), (o, .list ops), (ar, .list args), (so, .list sorts), (da, .list datas), (nb, .tdict kvs)]) (h2 : wh fs o ar so da nb) (h3 : ops.length ≤ 1000) (h4 : args.length ≤ 1000) (h5 : sorts.length ≤ 1000) (h6 : datas.length ≤ 1000) (h7 : kvs.length ≤ 1000) (h8 : CY kvs (x, i) = none) (h9 : k (.int (ops.length : Nat)) [.inst 493 dx fs, .list (ops ++ [.str x]), .list (args ++ [.tup []]), .list (sorts ++ [.int 0]), .list (datas ++ [.int i]), .tdict (kvs ++ [((x, i), .int (ops.length : Nat))])] []) : iX ds sub k
theorem uo : fC mS 7 iX := by
 rintro ds sub k ⟨a, dx, fs, o, ar, so, da, nb, ops, args, sorts, datas, kvs, x, i, rfl, rfl, hT, l1, l2, l3, l4, l5, ht, hk⟩
 ((try dsimp only [mS, fy, aB, aM, cS, cR, af, ba, cD, aa, ac, aL, MS.set, ad]); (try simp only [bk, bF, az, ay, au, al, aY, aK]))
 (refine ⟨aE (by decide), ?_⟩; (repeat (left; (try dsimp only [af, ba, CZ, bU, ac, al, aL, MS.set, ao, cy, aG, au, aY, aK, aH, aF]); (try simp only [hT.nb, am, aV]))))
 refine ⟨nb, kvs, rfl, rfl, x, i, kvs, rfl, rfl, ?_⟩
 ((try (left)); (try dsimp only [Option.getD, af, bw, aA, ac, au, al, cP, ao, aq]); (try simp only [ht, cz, beq_self_eq_true, cQ, af, ba, bK, aa, bU, ac, al, aG, cy, ad, bv, aL, MS.set, aY, aK, au, cj, b6, aH, hT.o, am, c9, aV, aF]))
 (repeat first | ((with_reducible refine And.intro ?pa ?_); (case pa => first | decide | lia | (simp only [c7, bY, eX, dI, aB, aM]; lia))) | (left; (try dsimp only [af, br, bD, bU, ac, al, bl, aa, ad, fV, cy, aG, au, aY, aK, av, aH, aF, tP]); (try simp only [hT.o, am, av, aV, hT.ar, hT.so, hT.da, hT.nb])))
 refine ⟨nb, x, i, kvs, rfl, rfl, rfl, ooK, ht, ?_⟩
 (repeat (left; (try dsimp only [aw, af, bp, ac, au, al, aW]))); exact bA (rest := []) (fl := .ret _) hk ⟨rfl, rfl, rfl, rfl, rfl, rfl, trivial⟩ rfl (List.nil_sublist _) rfl
inductive fm : List D → List (Addr × O) → cu → Prop
 | mk {ds : List D} {sub : List (Addr × O)} {k : cu} (a dx : Addr) (fs : List (Str × D)) (f1 f2 f3 : Addr) (n1 n2 n3 : List D) (x : Str) (h0 : ds = [.ref a, .str x, .tup [], .int 0]) (h1 : sub = [(a, .inst 493 dx fs), (f1, .list n1), (f2, .list n2), (f3, .list n3)]) (h2 : zc fs f1 f2 f3) (h3 : n1.length ≤ 1000) (h4 : n2.length ≤ 1000) (h5 : n3.length ≤ 1000) (h6 : k (.int (n1.length : Nat)) [.inst 493 dx fs, .list (n1 ++ [.str x]), .list (n2 ++ [.tup []]), .list (n3 ++ [.int 0])] []) : fm ds sub k
theorem mi : fC gJ 4 fm := by
 rintro ds sub k ⟨a, dx, fs, f1, f2, f3, n1, n2, n3, x, rfl, rfl, hF, l1, l2, l3, hk⟩
 ((try dsimp only [gJ, aB, aM, af, br, bD, bU, ac, bl, aa, ad, fV, cy, aG, al, au, aY, aK, av, aH]); (try simp only [bk, bF, az, ay, al, hF.f1, au, am, av, aV, aF]))
 (repeat first | ((with_reducible refine And.intro ?pa ?_); (case pa => first | decide | lia | (simp only [c7, bY, eX, dI, aB, aM]; lia))) | (left; (try dsimp only [af, br, bD, bU, ac, al, bl, aa, bK, ad, fV, c6, b6, cy, aG, au, aY, aK, av, kE, aH, aF, bp, bC, aW, jI, ao, aq, bv, cj]); (try simp only [hF.f2, am, av, aV, hF.f3, hF.f1, c9])))
 refine bA (rest := []) (fl := .ret _) hk ⟨rfl, rfl, rfl, rfl, trivial⟩ rfl (List.nil_sublist _) ?_
 simp [CA]
inductive n5 : List D → List (Addr × O) → cu → Prop
 | mk {ds : List D} {sub : List (Addr × O)} {k : cu} (a dx : Addr) (fs : List (Str × D)) (o : Addr) (ops : List D) (t : Nat) (d : D) (h0 : ds = [.ref a, .int (t : Nat)]) (h1 : sub = [(a, .inst 493 dx fs), (o, .list ops)]) (h2 : fs[6]? = some (("term_ops" : Str), D.ref o)) (h3 : ops.length ≤ 1000) (h4 : ops[t]? = some d) (h5 : k d [.inst 493 dx fs, .list ops] []) : n5 ds sub k
theorem xo : fC rq 2 n5 := by
 rintro ds sub k ⟨a, dx, fs, o, ops, t, d, rfl, rfl, hF, l1, ht, hk⟩
 have hlt := (List.getElem?_eq_some_iff.mp ht).1
 ((try dsimp only [rq, aB, aM, af, bp, aX, bU, ac, aW, cy, aG, al, au, aH]); (try simp only [bk, bF, az, ay, al, hF, au, aq, bO _ t (by lia), am, av, ht, aV, aF]))
 (repeat first | ((with_reducible refine And.intro ?pa ?_); (case pa => first | decide | lia | (simp only [c7, bY, eX, dI, aB, aM]; lia))) | (left))
 exact bA (rest := []) (fl := .ret _) hk ⟨rfl, rfl, trivial⟩ rfl (List.nil_sublist _) rfl
inductive dA : List D → List (Addr × O) → cu → Prop
 | mk {ds : List D} {sub : List (Addr × O)} {k : cu} (a dx : Addr) (fs : List (Str × D)) (f1 f2 f3 o ar so da nb : Addr) (n1 n2 n3 ops args sorts datas : List D) (kvs : List ((Str × Int) × D)) (x : Str) (h0 : ds = [.ref a, .str x, .int 0]) (h1 : sub = [(a, .inst 493 dx fs), (f1, .list n1), (f2, .list n2), (f3, .list n3), (o, .list ops), (ar, .list args), (so, .list sorts), (da, .list datas), (nb, .tdict kvs)]) (h2 : wh fs o ar so da nb) (h3 : zc fs f1 f2 f3) (h4 : (fs.map (·.1)).contains ("make" : Str) = false) (h5 : (fs.map (·.1)).contains ("declare_fun" : Str) = false) (h6 : n1.length ≤ 1000) (h7 : n2.length ≤ 1000) (h8 : n3.length ≤ 1000) (h9 : ops.length ≤ 1000) (h10 : args.length ≤ 1000) (h11 : sorts.length ≤ 1000) (h12 : datas.length ≤ 1000) (h13 : kvs.length ≤ 1000) (h14 : CY kvs (("app" : Str), ((n1.length : Nat) : Int)) = none) (h15 : k (.int (ops.length : Nat)) [.inst 493 dx fs, .list (n1 ++ [.str x]), .list (n2 ++ [.tup []]), .list (n3 ++ [.int 0]), .list (ops ++ [.str "app"]), .list (args ++ [.tup []]), .list (sorts ++ [.int 0]), .list (datas ++ [.int (n1.length : Nat)]), .tdict (kvs ++ [((("app" : Str), ((n1.length : Nat) : Int)), .int (ops.length : Nat))])] []) : dA ds sub k
theorem mj : fC (gM fm iX) 3 dA := by
 rintro ds sub k ⟨a, dx, fs, f1, f2, f3, o, ar, so, da, nb, n1, n2, n3, ops, args, sorts, datas, kvs, x, rfl, rfl, hT, hF, hm, hd, l1, l2, l3, m1, m2, m3, m4, m5, ht, hk⟩
 ((try dsimp only [aB, aM, gM, af, bp, bB, ac, bN, aW, aa, bh, cD, ad, aG, al, au, am, aH]); (try simp only [bk, bF, az, ay, al, au, aV, aF]))
 refine ⟨hm, Nat.zero_le _, hd, Nat.zero_le _, a, dx, fs, f1, f2, f3, n1, n2, n3, x, rfl, rfl, hF, l1, l2, l3, ?_⟩
 (try dsimp only [aZ, al, aK, au, aY, az, ay, am])
 refine ⟨a, dx, fs, o, ar, so, da, nb, ops, args, sorts, datas, kvs, "app", _, rfl, rfl, hT, m1, m2, m3, m4, m5, ht, ?_⟩
 (try dsimp only [aZ, al, aK, au, aY, az, ay])
 exact bA (rest := []) (fl := .ret _) hk ⟨rfl, rfl, rfl, rfl, rfl, rfl, rfl, rfl, rfl, trivial⟩ rfl (List.nil_sublist _) rfl
noncomputable def BO (dx s1 s2 f1 f2 f3 o ar so da nb : Addr) : O := .inst 493 dx [("sort_names", .ref s1), ("sort_widths", .ref s2), ("fun_names", .ref f1), ("fun_args", .ref f2), ("fun_results", .ref f3), ("fresh_count", .int 0), ("term_ops", .ref o), ("term_args", .ref ar), ("term_sorts", .ref so), ("term_datas", .ref da), ("numbers", .ref nb), ("true_number", .int 1), ("false_number", .int 2)]
inductive gV : List D → List (Addr × O) → cu → Prop
 | mk {ds : List D} {sub : List (Addr × O)} {k : cu} (a dx : _) (h0 : ds = [.ref a]) (h1 : sub = [(a, .inst 493 dx [])]) (h2 : ∀ s1 s2 f1 f2 f3 o ar so da nb,
 k .none [BO dx s1 s2 f1 f2 f3 o ar so da nb] [(s1, .list [.str "Bool", .str "Int", .str "Real"]), (s2, .list [.int 0, .int 0, .int 0]), (f1, .list []), (f2, .list []), (f3, .list []), (o, .list [.str "", .str "true", .str "false"]), (ar, .list [.tup [], .tup [], .tup []]), (so, .list [.int 0, .int 0, .int 0]), (da, .list [.int 0, .int 0, .int 0]), (nb, .tdict [(("true", 0), .int 1), (("false", 0), .int 2)])]) : gV ds sub k
theorem uq : fC (mQ iX) 1 gV := by
 rintro ds sub k ⟨a, dx, rfl, rfl, hk⟩
 ((try dsimp only [aB, aM, mQ, af, aT, bg, aa, bh, ad, aG, ac, az, ay, al, aK, aH]); (try simp only [bk, bF, az, ay, al, aV, aF]))
 (refine ⟨aE (by decide), ?_⟩; (repeat (left; (try dsimp only [af, aT, bg, aa, ao, ad, aB, aM, aG, ac, az, ay, al, aK, aH, aF]); (try simp only [aV]))); refine fun s1 => ?_; (repeat (left; (try dsimp only [af, aT, bg, aa, ao, ad, aB, aM, aG, ac, az, ay, al, aK, aH, aF]); (try simp only [aV]))); refine ⟨by simp, ?_⟩; (repeat (left; (try dsimp only [af, aT, bg, aa, ao, ad, aB, aM, aG, ac, az, ay, al, aK, aH, aF]); (try simp only [aV]))); refine ⟨by decide, ?_⟩; (repeat (left; (try dsimp only [af, aT, bg, aa, ao, ad, aB, aM, aG, ac, az, ay, al, aK, aH, aF]); (try simp only [aV]))); refine ⟨aE (by decide), ?_⟩; (repeat (left; (try dsimp only [af, aT, bg, aa, ao, ad, aB, aM, aG, ac, az, ay, al, aK, aH, aF]); (try simp only [aV]))); refine fun s2 => ?_; (repeat (left; (try dsimp only [af, aT, bg, aa, ao, ad, aB, aM, aG, ac, az, ay, al, aK, aH, aF]); (try simp only [aV]))); refine ⟨by simp; decide, ?_⟩; (repeat (left; (try dsimp only [af, aT, bg, aa, ao, ad, aB, aM, aG, ac, az, ay, al, aK, aH, aF]); (try simp only [aV]))); refine ⟨by decide, ?_⟩; (repeat (left; (try dsimp only [af, aT, bg, aa, ao, ad, aB, aM, aG, ac, az, ay, al, aK, aH, aF]); (try simp only [aV]))))
 (refine ⟨Nat.zero_le _, ?_⟩; (repeat (left; (try dsimp only [af, aT, bg, ad, aM, aG, ac, az, ay, al, aK, aH, aB, aF, ao]); (try simp only [aV]))); refine fun f1 => ?_; (repeat (left; (try dsimp only [af, aT, bg, ad, aM, aG, ac, az, ay, al, aK, aH, aB, aF, ao]); (try simp only [aV]))); refine ⟨by simp; decide, ?_⟩; (repeat (left; (try dsimp only [af, aT, bg, ad, aM, aG, ac, az, ay, al, aK, aH, aB, aF, ao]); (try simp only [aV]))); refine ⟨by decide, ?_⟩; (repeat (left; (try dsimp only [af, aT, bg, ad, aM, aG, ac, az, ay, al, aK, aH, aB, aF, ao]); (try simp only [aV]))); refine ⟨Nat.zero_le _, ?_⟩; (repeat (left; (try dsimp only [af, aT, bg, ad, aM, aG, ac, az, ay, al, aK, aH, aB, aF, ao]); (try simp only [aV]))); refine fun f2 => ?_; (repeat (left; (try dsimp only [af, aT, bg, ad, aM, aG, ac, az, ay, al, aK, aH, aB, aF, ao]); (try simp only [aV]))); refine ⟨by simp; decide, ?_⟩; (repeat (left; (try dsimp only [af, aT, bg, ad, aM, aG, ac, az, ay, al, aK, aH, aB, aF, ao]); (try simp only [aV]))); refine ⟨by decide, ?_⟩; (repeat (left; (try dsimp only [af, aT, bg, ad, aM, aG, ac, az, ay, al, aK, aH, aB, aF, ao]); (try simp only [aV]))); refine ⟨Nat.zero_le _, ?_⟩; (repeat (left; (try dsimp only [af, aT, bg, ad, aM, aG, ac, az, ay, al, aK, aH, aB, aF, ao]); (try simp only [aV]))); refine fun f3 => ?_; (repeat (left; (try dsimp only [af, aT, bg, ad, aM, aG, ac, az, ay, al, aK, aH, aB, aF, ao]); (try simp only [aV]))); refine ⟨by simp; decide, ?_⟩; (repeat (left; (try dsimp only [af, aT, bg, ad, aM, aG, ac, az, ay, al, aK, aH, aB, aF, ao]); (try simp only [aV]))); refine ⟨by decide, ?_⟩; (repeat (left; (try dsimp only [af, aT, bg, ad, aM, aG, ac, az, ay, al, aK, aH, aB, aF, ao]); (try simp only [aV]))))
 (refine ⟨by simp; decide, ?_⟩; (repeat (left; (try dsimp only [af, aT, bg, aa, bh, ad, aB, aM, aG, ac, az, ay, al, aK, aH, aF, cD]); (try simp only [aV]))); refine ⟨by decide, ?_⟩; (repeat (left; (try dsimp only [af, aT, bg, aa, bh, ad, aB, aM, aG, ac, az, ay, al, aK, aH, aF, cD]); (try simp only [aV]))); refine ⟨aE (by decide), ?_⟩; (repeat (left; (try dsimp only [af, aT, bg, aa, bh, ad, aB, aM, aG, ac, az, ay, al, aK, aH, aF, cD]); (try simp only [aV]))); refine fun o => ?_; (repeat (left; (try dsimp only [af, aT, bg, aa, bh, ad, aB, aM, aG, ac, az, ay, al, aK, aH, aF, cD]); (try simp only [aV]))); refine ⟨by simp; decide, ?_⟩; (repeat (left; (try dsimp only [af, aT, bg, aa, bh, ad, aB, aM, aG, ac, az, ay, al, aK, aH, aF, cD]); (try simp only [aV]))); refine ⟨by decide, ?_⟩; (repeat (left; (try dsimp only [af, aT, bg, aa, bh, ad, aB, aM, aG, ac, az, ay, al, aK, aH, aF, cD]); (try simp only [aV]))))
 (refine ⟨Nat.zero_le _, ?_⟩; (repeat (left; (try dsimp only [af, aT, bg, aa, dt, ad, aB, aM, aG, ac, az, ay, al, aK, aH, aF]); (try simp only [aV]))); refine ⟨aE (by decide), ?_⟩; (repeat (left; (try dsimp only [af, aT, bg, aa, dt, ad, aB, aM, aG, ac, az, ay, al, aK, aH, aF]); (try simp only [aV]))); refine fun ar => ?_; (repeat (left; (try dsimp only [af, aT, bg, aa, dt, ad, aB, aM, aG, ac, az, ay, al, aK, aH, aF]); (try simp only [aV]))); refine ⟨by simp; decide, ?_⟩; (repeat (left; (try dsimp only [af, aT, bg, aa, dt, ad, aB, aM, aG, ac, az, ay, al, aK, aH, aF]); (try simp only [aV]))); refine ⟨by decide, ?_⟩; (repeat (left; (try dsimp only [af, aT, bg, aa, dt, ad, aB, aM, aG, ac, az, ay, al, aK, aH, aF]); (try simp only [aV]))))
 (refine ⟨aE (by decide), ?_⟩; (repeat (left; (try dsimp only [af, aT, bg, aa, ao, ad, aB, aM, aG, ac, az, ay, al, aK, aH, aF]); (try simp only [aV]))); refine fun so => ?_; (repeat (left; (try dsimp only [af, aT, bg, aa, ao, ad, aB, aM, aG, ac, az, ay, al, aK, aH, aF]); (try simp only [aV]))); refine ⟨by simp; decide, ?_⟩; (repeat (left; (try dsimp only [af, aT, bg, aa, ao, ad, aB, aM, aG, ac, az, ay, al, aK, aH, aF]); (try simp only [aV]))); refine ⟨by decide, ?_⟩; (repeat (left; (try dsimp only [af, aT, bg, aa, ao, ad, aB, aM, aG, ac, az, ay, al, aK, aH, aF]); (try simp only [aV]))))
 (refine ⟨aE (by decide), ?_⟩; (repeat (left; (try dsimp only [af, aT, nS, aG, ac, az, ay, al, aK, aH, aB, aM, aF]); (try simp only [aV]))); refine fun da => ?_; (repeat (left; (try dsimp only [af, aT, nS, aG, ac, az, ay, al, aK, aH, aB, aM, aF]); (try simp only [aV]))); refine ⟨by simp; decide, ?_⟩; (repeat (left; (try dsimp only [af, aT, nS, aG, ac, az, ay, al, aK, aH, aB, aM, aF]); (try simp only [aV]))); refine ⟨by decide, ?_⟩; (repeat (left; (try dsimp only [af, aT, nS, aG, ac, az, ay, al, aK, aH, aB, aM, aF]); (try simp only [aV]))))
 intro nb
 (skip)
 (refine ⟨by simp; decide, ?_⟩; (repeat (left; (try dsimp only [af, aT, bB, ac, al, bN, aG, aa, bh, cD, ad, aM, dt, ao, au, aF, am, aH]); (try simp only [bk, bF, aV]))); refine ⟨by decide, ?_⟩; (repeat (left; (try dsimp only [af, aT, bB, ac, al, bN, aG, aa, bh, cD, ad, aM, dt, ao, au, aF, am, aH]); (try simp only [bk, bF, aV]))))
 (refine ⟨rfl, ?_⟩; refine ⟨Nat.zero_le _, ?_⟩)
 refine ⟨a, dx, _, o, ar, so, da, nb, _, _, _, _, _, "true", 0, rfl, rfl, ⟨rfl, rfl, rfl, rfl, rfl⟩, by simp, by simp, by simp, by simp, by simp, rfl, ?_⟩
 ((try dsimp only [aB, aM, az, ay, aZ, al, aK, au, aY, aH]); (try simp only [aV]))
 (refine ⟨by simp; decide, ?_⟩; (repeat (left; (try dsimp only [af, aT, bB, ac, al, bN, aG, aa, bh, cD, ad, aM, dt, ao, au, aF, am, aH]); (try simp only [bk, bF, aV]))); refine ⟨by decide, ?_⟩; (repeat (left; (try dsimp only [af, aT, bB, ac, al, bN, aG, aa, bh, cD, ad, aM, dt, ao, au, aF, am, aH]); (try simp only [bk, bF, aV]))); refine ⟨rfl, ?_⟩; (repeat (left; (try dsimp only [af, aT, bB, ac, al, bN, aG, aa, bh, cD, ad, aM, dt, ao, au, aF, am, aH]); (try simp only [bk, bF, aV]))); refine ⟨Nat.zero_le _, ?_⟩; (repeat (left; (try dsimp only [af, aT, bB, ac, al, bN, aG, aa, bh, cD, ad, aM, dt, ao, au, aF, am, aH]); (try simp only [bk, bF, aV]))))
 refine ⟨a, dx, _, o, ar, so, da, nb, _, _, _, _, _, "false", 0, rfl, rfl, ⟨rfl, rfl, rfl, rfl, rfl⟩, by simp, by simp, by simp, by simp, by simp, rfl, ?_⟩
 ((try dsimp only [aB, aM, az, ay, aZ, al, aK, au, aY, aH]); (try simp only [aV]))
 (refine ⟨by simp; decide, ?_⟩; (repeat (left; (try dsimp only [aw]))); refine ⟨by decide, ?_⟩; (repeat (left; (try dsimp only [aw]))))
 exact bA (rest := [(s1, .list [.str "Bool", .str "Int", .str "Real"]), (s2, .list [.int 0, .int 0, .int 0]), (f1, .list []), (f2, .list []), (f3, .list []), (o, .list [.str "", .str "true", .str "false"]), (ar, .list [.tup [], .tup [], .tup []]), (so, .list [.int 0, .int 0, .int 0]), (da, .list [.int 0, .int 0, .int 0]), (nb, .tdict [(("true", 0), .int 1), (("false", 0), .int 2)])]) (fl := .next) (hk s1 s2 f1 f2 f3 o ar so da nb) ⟨rfl, trivial⟩ rfl (.refl _) rfl
noncomputable def jc (kept : List Int) (x : Int) : Nat := (kept.findIdx? (· == x)).getD 0
noncomputable def lH (kept : List Int) (r : cT) : cT := ⟨r.rule, r.cl, r.pr.map fun x => ((jc kept x : Nat) : Int), r.note⟩
noncomputable def cZ (rows : List cT) (kept ks : List Int) : List cT := ks.filterMap fun n => (rows[n.toNat]?).map (lH kept)
theorem ur {kept : List Int} {x : Int} (h : x ∈ kept) : kept.findIdx? (· == x) = some (jc kept x) := by
 unfold jc
 cases e : kept.findIdx? (· == x) with
 | none => rw [List.findIdx?_eq_none_iff] at e; exact absurd (e x h) (by simp)
 | some m => rfl
theorem xp {kept : List Int} {x : Int} (h : x ∈ kept) : kept[jc kept x]? = some x := by
 have e := ur h
 rw [List.findIdx?_eq_some_iff_getElem] at e
 obtain ⟨h1, h2, _⟩ := e
 rw [List.getElem?_eq_getElem h1]
 simpa using h2
theorem F4 {k1 k2 : List Int} {x : Int} (h : x ∉ k1) : jc (k1 ++ x :: k2) x = k1.length := by
 unfold jc
 rw [List.findIdx?_append]
 have : k1.findIdx? (· == x) = none := by
  rw [List.findIdx?_eq_none_iff]
  intro y hy
  simp only [beq_eq_false_iff_ne, ne_eq]
  exact fun e => h (e ▸ hy)
 rw [this]
 simp [List.findIdx?_cons]
theorem F5 {k1 k2 : List Int} {x : Int} (h : x ∈ k1) : jc (k1 ++ k2) x < k1.length := by
 have e := ur h
 have e2 : jc (k1 ++ k2) x = jc k1 x := by
  unfold jc
  rw [List.findIdx?_append, e]
  rfl
 rw [e2]
 exact (List.getElem?_eq_some_iff.mp (xp h)).1
set_option tactic.hygienic true in
theorem xq (kvs : List (Int × D)) (k : Int) (v : D) (y : Int) : lS (g9 kvs k v) y = if y = k then some v else lS kvs y := by
 unfold g9
 split
 ·rename_i hany
  induction kvs with
  | nil => simp at hany
  | cons a r ih =>
   unfold lS at ih ⊢
   rw [bk, List.find?_cons, List.find?_cons]
   by_cases e : a.1 = k
   ·subst e
    by_cases e2 : y = a.1
    ·subst e2; simp
    ·have e3 : ¬ a.1 = y := fun q => e2 q.symm
     simp only [e2, if_true, if_false, decide_true, decide_false, e3]
     by_cases hr : r.any (fun kv => decide (kv.1 = a.1)) = true
     ·have := ih hr
      rw [if_neg e2] at this
      exact this
     ·have : r.map (fun kv => if kv.1 = a.1 then (kv.1, v) else kv) = r := by
       refine (List.map_congr_left fun z hz => ?_).trans (List.map_id r)
       have : z.1 ≠ a.1 := fun q => hr (List.any_eq_true.mpr ⟨z, hz, by simpa using q⟩)
       simp [this]
      rw [this]
   ·simp only [e, if_false]
    have hr : r.any (fun kv => decide (kv.1 = k)) = true := by
     simpa [e] using hany
    have := ih hr
    by_cases e2 : a.1 = y
    ·have e3 : ¬ y = k := fun q => e (e2.trans q)
     simp [e2, e3]
    ·simp only [e2, decide_false]
     exact this
 ·rename_i hany
  unfold lS
  rw [List.find?_append]
  by_cases e : y = k
  ·subst e
   have : kvs.find? (fun kv => decide (kv.1 = y)) = none := by
    rw [List.find?_eq_none]
    intro z hz q
    exact hany (List.any_eq_true.mpr ⟨z, hz, q⟩)
   rw [this]
   simp
  ·have e3 : ¬ k = y := fun q => e q.symm
   simp [e, e3]
theorem z7 (kvs : List (Int × D)) (k : Int) (v : D) : (g9 kvs k v).length ≤ kvs.length + 1 := by
 unfold g9
 split <;> simp
theorem kq.len {rows : List cT} (hr : cw rows) {last : Nat} {a : List Int} (hl : last < rows.length) (h : kq rows last a) : a.length ≤ 13 := by
 have := kQ (n := last + 1) (h.1.imp fun q e => by subst e; lia) fun x hx => by have := h.bound hr x hx; exact ooK
 have := hr.1
 lia
theorem ut {rows : List cT} (hr : cw rows) {last : Nat} {k1 k2 : List Int} {n : Nat} {r : cT} (h : kq rows last (k1 ++ (n : Int) :: k2)) (e : rows[n]? = some r) : gf k1.length (lH (k1 ++ (n : Int) :: k2) r) := by
 obtain ⟨a1, a2, a3, a4, a5, a6, a7, a8⟩ := hr.2 n r e
 have hin : ∀ x ∈ r.pr, x ∈ k1 := fun x hx => by
  have h1 := h.closed hr (List.mem_append_right _ c8) e x hx
  have h2 := a3 x hx
  have h3 := (List.pairwise_append.mp h.1).2.1
  rcases List.mem_append.mp h1 with q | q
  ·exact q
  ·rcases HL q with q | q
   ·lia
   ·have := (List.pairwise_cons.mp h3).1 x q
    lia
 refine ⟨a1, a2, fun x hx => ?_, ?_, by simpa [lH] using a5, a6, a7, a8⟩
 ·obtain ⟨y, hy, rfl⟩ := List.mem_map.mp hx
  have := F5 (k2 := (n : Int) :: k2) (hin y hy)
  lia
 ·show (r.pr.map _).Nodup
  rw [List.Nodup, List.pairwise_map]
  refine List.Pairwise.imp_of_mem (fun {x y} hx hy q e => q ?_) a4
  have e' : jc (k1 ++ (n : Int) :: k2) x = jc (k1 ++ (n : Int) :: k2) y := by lia
  have q1 := xp (kept := k1 ++ (n : Int) :: k2) (List.mem_append_left _ (hin x hx))
  have q2 := xp (kept := k1 ++ (n : Int) :: k2) (List.mem_append_left _ (hin y hy))
  rw [e', q2] at q1
  exact (Option.some.inj q1).symm
theorem kt {rows : List cT} {kept ks : List Int} {n : Nat} {r : cT} (e : rows[n]? = some r) : cZ rows kept (ks ++ [(n : Int)]) = cZ rows kept ks ++ [lH kept r] := by
 unfold cZ
 rw [List.filterMap_append]
 simp [e]
theorem kq.nth {rows : List cT} (hr : cw rows) {last : Nat} (hl : last < rows.length) {k1 k2 : List Int} {x : Int} (h : kq rows last (k1 ++ x :: k2)) : ∃ n r, x = (n : Nat) ∧ n < rows.length ∧ rows[n]? = some r := by
 have := h.bound hr x (List.mem_append_right _ c8)
 have h2 : x.toNat < rows.length := by lia
 exact ⟨x.toNat, _, by lia, h2, List.getElem?_eq_getElem h2⟩
inductive gE : List D → List (Addr × O) → cu → Prop
 | mk {ds : List D} {sub : List (Addr × O)} {k : cu} (a dx s nm e rows tl last : _) (h0 : ds = [.ref a, .int (last : Nat)]) (h1 : sub = PR a dx s nm e rows (.int 0 :: tl)) (h2 : cw rows) (h3 : last < rows.length) (h4 : tl.length ≤ 100) (h5 : ∀ kept a' dx' s' nm' e', kq rows last kept → k (.ref a') [PO dx s nm e, .list (RL rows), .list (.int 0 :: tl)] (PR a' dx' s' nm' e' (cZ rows kept kept) (.int 0 :: tl))) : gE ds sub k
set_option tactic.hygienic true in
theorem pt : fC (i4 fP ey dR dk) 10 gE := by
 rintro ds sub k ⟨a, dx, s, nm, e, rows, tl, last, rfl, rfl, hok, hlt, htl, hk⟩
 have h13 := hok.1
 ((try dsimp only [aB, aM, cS, cR, PR, PO, i4, af, ba, cD, aa, sx, ad, gF, MS.setAll, MS.set, o8, az, ay]); (try simp only [bk, bF, az, ay, aY, aK, aV]))
 intro a2 dx2
 refine ⟨a2, dx2, rfl, rfl, fun s2 nm2 => ?_⟩
 ((try dsimp only [PO, az, ay]); (try simp only [aV]))
 intro w
 (repeat first | ((with_reducible refine And.intro ?pa ?_); (case pa => first | decide | lia | exact aE (by simp only [c7, bY, eX, dI, aB, aM]; lia))) | (left; (try dsimp only [af, dq, bE, aa, ao, bK, bU, ac, al, MS.trunc, ad, mq, aq, bv, b6, cy, aG, aB, aM, au, cj, aH, am, c9, aF]); (try simp only [aV])))
 refine bS (fun l σ => Fc fun (t1 t2 : List D) (v : Option D) => Gm (tl = t1 ++ t2) (l = db ((t1.length + 1 : Nat) : Int) 1 t2.length) (σ = ⟨[some (.ref a), some (.int last), some (.ref a2), some (.ref w), v, none, none, none, none, none], PR a dx s nm e rows (.int 0 :: tl) ++ (PR a2 dx2 s2 nm2 (-1) [] (.int 0 :: t1) ++ [(w, .dict [])])⟩)) ?_ ?_ _ _ ⟨[], tl, none, rfl, ?_, rfl⟩
 ·rintro σ ⟨t1, t2, v, e1, e2, rfl⟩
  have : t2 = [] := by
   cases t2 with
   | nil => rfl
   | cons _ _ => rw [aB, bu] at e2; cases e2
  subst this
  rw [List.append_nil] at e1
  subst e1
  ((try (left)); (try dsimp only [PR, PO, az, ay, af, dq, bR, bB, ac, al, bN, MS.trunc, aa, ad, aG, au, am, aH, aF]); (try simp only [bk, bF, aV]))
  refine ⟨rfl, ?_⟩
  refine ⟨a, dx, s, nm, e, rows, _, last, rfl, rfl, hok, hlt, fun kept c hkept => ?_⟩
  ((try dsimp only [PO, aZ, al, aK, au, aY, az, ay, aB, aM, av]); (try simp only [aV]))
  refine bS (fun l σ => HB fun (k1 k2 : List Int) (kvs : List (Int × D)) (e' : Int) (v5 v6 v7 v8 v9 : Option D) => Gc (kept = k1 ++ k2) (l = DL k2) ((∀ y ∈ k1, lS kvs y = some (.int (jc kept y : Nat)))) (kvs.length ≤ k1.length) ((cZ rows kept k1).length = k1.length) (σ = ⟨[some (.ref a), some (.int last), some (.ref a2), some (.ref w), v, v5, v6, v7, v8, v9], PR a dx s nm e rows (.int 0 :: tl) ++ (PR a2 dx2 s2 nm2 e' (cZ rows kept k1) (.int 0 :: tl) ++ [(w, .dict kvs), (c, .list (DL kept))])⟩)) ?_ ?_ _ _ ⟨[], kept, [], -1, none, none, none, none, none, rfl, rfl, (fun y q => nomatch q), Nat.le_refl _, rfl, rfl⟩
  ·rintro σ ⟨k1, k2, kvs, e', v5, v6, v7, v8, v9, e1, e2, hv, hkl, htr, rfl⟩
   have : k2 = [] := by
    cases k2 with
    | nil => rfl
    | cons _ _ => cases e2
   subst this
   rw [List.append_nil] at e1
   subst e1
   ((try (left)); (try dsimp only [PR, PO, az, ay, af, bp, ac, au, al, aW]))
   refine bA (rest := PR a2 dx2 s2 nm2 e' (cZ rows kept kept) (.int 0 :: tl) ++ [(w, .dict kvs), (c, .list (DL kept))]) (fl := .ret _) (hk kept a2 dx2 s2 nm2 e' hkept) lY rfl ?_ rfl
   exact List.sublist_append_left _ _
  ·rintro d l σ ⟨k1, k2, kvs, e', v5, v6, v7, v8, v9, e1, e2, hv, hkl, htr, rfl⟩ ih
   cases k2 with
   | nil => cases e2
   | cons x k2 =>
    cases e2
    have hkept' := e1 ▸ hkept
    obtain ⟨n, r, rfl, hn, hr⟩ := hkept'.nth hok hlt
    have hro := ut hok hkept' hr
    rw [← e1] at hro
    have hlen := hkept.len hok hlt
    have hlen1 : k1.length < 13 := by rw [e1] at hlen; simp at hlen; lia
    have hsnoc := kt (kept := kept) (ks := k1) hr
    have hnk : (n : Int) ∉ k1 := fun q => by
     have := (List.pairwise_append.mp hkept'.1).2.2 _ q _ c8
     lia
    have hidx : jc kept (n : Int) = k1.length := by rw [e1]; exact F4 hnk
    have hcl := hok.2 n r hr
    have hprk : ∀ x ∈ r.pr, x ∈ k1 := fun x hx => by
     have h1 := hkept'.closed hok (List.mem_append_right _ c8) hr x hx
     have h2 := hcl.pr x hx
     have h3 := (List.pairwise_append.mp hkept'.1).2.1
     rcases List.mem_append.mp h1 with q | q
     ·exact q
     ·rcases HL q with q | q
      ·lia
      ·have := (List.pairwise_cons.mp h3).1 x q
       lia
    ((try dsimp only [PR, PO, az, ay] at ih); (try dsimp only [PR, PO, az, ay, bj, af, ba, aX, bU, ac, gF, aB, aM, cy, aG, aL, MS.set, aY, aK, al, au, aq, aH, am, av, aF]); (try simp only [bO _ n (by lia), fE hr, am, aB, aM, MS.setAll, MS.set, aY, aK, aV]); (repeat (left; (try dsimp only [af, eM, bB, ac, au, al, bN, aa, bK, bM, dy, MS.trunc, MS.more, cS, cR, ad, c6, b6, c9, aG, aB, aM, az, ay, b8, aH, aF]); (try simp only [bk, bF, aV]))))
    refine ⟨rfl, ?_⟩
    have lpr := hcl.len
    (repeat first | ((with_reducible refine And.intro ?pa ?_); (case pa => first | decide | lia | exact aE (by simp only [c7, bY, eX, dI, aB, aM]; lia))) | (left))
    refine ic (l := r.pr) (q := D.int) (fun x => some (.int (jc kept x : Nat))) (fun (z : Option D) => ⟨[some (.ref a), some (.int last), some (.ref a2), some (.ref w), v, some (.int n), some (.str r.rule), some (.tup (DL r.cl)), some (.tup (DL r.pr)), some r.note, z], PR a dx s nm e rows (.int 0 :: tl) ++ (PR a2 dx2 s2 nm2 e' (cZ rows kept k1) (.int 0 :: tl) ++ [(w, .dict kvs), (c, .list (DL kept))])⟩) ?_ ?_ none
    ·intro x hx z rr acc hnx
     ((try dsimp only [PR, PO, az, ay, Option.toList] at hnx); (try dsimp only [PR, PO, az, ay, bz, cH, dF, CL, ac, aL, MS.set, aY, aK, au, al, ci, bV, aq, wC]); (try simp only [hv x (hprk x hx), aV, am]))
     exact hnx _
    ·intro z d0
     rw [dm]
     ((try dsimp only [PR, PO, az, ay, au, al, ci, bV, aq, aF, am, cj]); (try simp only [aV]))
     refine And.intro (aE (by simp; exact nA)) ?_
     (skip)
     refine ⟨a2, dx2, s2, nm2, e', cZ rows kept k1, .int 0 :: tl, lH kept r, by simp [lH, DL, Function.comp_def], rfl, by lia, hro.rule, hro.cl.1, ?_, ?_, ?_, fun e2 => ?_⟩
     ·have := hro.cl.len; exact nA
     ·have := hro.len; exact nA
     ·rw [htr]; exact hro.pr
     ·((try dsimp only [PO, aZ, au, al, aY, aK, az, ay, xP]); (try simp only [aV]))
      (refine ⟨aE (by lia), ?_⟩; (repeat (left; (try dsimp only [aw, bb, au, al, ci, bV]); (try simp only [aV]))); refine ih _ ⟨k1 ++ [(n : Int)], k2, g9 kvs n (.int (cZ rows kept k1).length), e2, some (.int n), some (.str r.rule), some (.tup (DL r.cl)), some (.tup (DL r.pr)), some r.note, by rw [e1]; simp, rfl, ?_, ?_, ?_, ?_⟩)
      ·intro y hy
       rw [xq]
       split
       ·rename_i q
        subst q
        rw [hidx, htr]
       ·rename_i q
        rcases List.mem_append.mp hy with q2 | q2
        ·exact hv y q2
        ·exact absurd (List.mem_singleton.mp q2) q
      ·have := z7 kvs n (.int (cZ rows kept k1).length)
       simp only [eX, aB, aM]
       lia
      ·rw [hsnoc]; simp [htr]
      ·rw [hsnoc]
 ·rintro d l σ ⟨t1, t2, v, e1, e2, rfl⟩ ih
  cases t2 with
  | nil => cases e2
  | cons x t2 =>
   rw [aB, bu] at e2
   cases e2
   have hx : iq (.int 0 :: tl) ((t1.length + 1 : Nat) : Int) = some x := by
    rw [bO _ _ (by rw [e1] at htl; simp at htl; lia), e1]
    simp
   have hl1 : t1.length ≤ 100 := by rw [e1] at htl; simp at htl; lia
   ((try dsimp only [PR, PO, az, ay] at ih); (try dsimp only [PR, PO, az, ay, bj, af, br, bB, ac, bN, aa, aX, bU, ad, cy, aG, aL, MS.set, aY, aK, au, al, am, aq, aH, av, aF]); (try simp only [bk, bF, hx, am, aV]))
   refine ⟨rfl, a2, dx2, s2, nm2, -1, [], .int 0 :: t1, x, rfl, rfl, by simp; exact nA, ?_⟩
   ((try (left)); (try dsimp only [PO, az, aZ, au, al, aY, aK, ay, aw, bb, ci, bV]); (try simp only [aV]))
   refine ih _ ⟨t1 ++ [x], t2, _, by rw [e1]; simp, by simp, rfl⟩
 ·simp
noncomputable def kR (rows : List cT) (n : Int) : Option Int := match rows[n.toNat]? with
 | some r => if (r.rule == ("input" : Str)) = true then (match r.note with | .int j => some j | _ => none) else none
 | none => none
theorem uu {rows : List cT} {n : Nat} {r : cT} (h : rows[n]? = some r) (e : (r.rule == ("input" : Str)) = false) : kR rows n = none := by
 unfold kR; rw [Int.toNat_natCast, h]; simp [e]
theorem rI {rows : List cT} {n : Nat} {r : cT} {j : Int} (h : rows[n]? = some r) (e : (r.rule == ("input" : Str)) = true) (ej : r.note = .int j) : kR rows n = some j := by
 unfold kR; rw [Int.toNat_natCast, h]; simp [e, ej]
inductive eN : List D → List (Addr × O) → cu → Prop
 | mk {ds : List D} {sub : List (Addr × O)} {k : cu} (a dx s nm e rows named last : _) (h0 : ds = [.ref a, .int (last : Nat)]) (h1 : sub = PR a dx s nm e rows named) (h2 : cw rows) (h3 : last < rows.length) (h4 : ∀ kept us a', kq rows last kept → us.Pairwise (· < ·) → (∀ x, x ∈ us ↔ x ∈ kept.filterMap (kR rows)) → k (.ref a') [PO dx s nm e, .list (RL rows), .list named] [(a', .list (DL us))]) : eN ds sub k
set_option tactic.hygienic true in
theorem lI : fC (gp fP) 4 eN := by
 rintro ds sub k ⟨a, dx, s, nm, e, rows, named, last, rfl, rfl, hok, hlt, hk⟩
 have h13 := hok.1
 ((try dsimp only [aB, aM, cS, cR, PR, PO, gp, fy, af, ba, o8, aL, MS.set, az, ay]); (try simp only [bk, bF, az, ay, aY, aK]))
 intro w
 ((try (left)); (try dsimp only [af, dq, bR, bB, ac, al, bN, MS.trunc, aa, ad, aG, au, am, aH, aF]); (try simp only [bk, bF, aV]))
 refine ⟨rfl, a, dx, s, nm, e, rows, named, last, rfl, rfl, hok, hlt, fun kept c hkept => ?_⟩
 have hlen := hkept.len hok hlt
 ((try dsimp only [PO, aZ, al, aK, au, aY, az, ay, aB, aM, av]); (try simp only [aV]))
 refine bS (fun l σ => EZ fun (k1 k2 K : List Int) (v3 : Option D) => Gc (kept = k1 ++ k2) (l = DL k2) (K.Nodup) (K.length ≤ k1.length) ((∀ x, x ∈ K ↔ x ∈ k1.filterMap (kR rows))) (σ = ⟨[some (.ref a), some (.int last), some (.ref w), v3], PR a dx s nm e rows named ++ [(w, .dict (KV K)), (c, .list (DL kept))]⟩)) ?_ ?_ _ _ ⟨[], kept, [], none, rfl, rfl, .nil, Nat.le_refl _, fun x => Iff.rfl, rfl⟩
 ·rintro σ ⟨k1, k2, K, v3, e1, e2, hn, hl, hm, rfl⟩
  have : k2 = [] := by
   cases k2 with
   | nil => rfl
   | cons _ _ => cases e2
  subst this
  rw [List.append_nil] at e1
  subst e1
  ((try (left)); (try dsimp only [PR, PO, az, ay, af, bp, bK, aa, ac, au, al, aW, li, gH, ad, b6, tq, am]); (try simp only [xf, aV]))
  refine ⟨by lia, fun ns' c' hs => ?_⟩
  obtain ⟨s1, s2⟩ := hs
  refine bA (rest := [(w, _), (c, _), (c', _)]) (fl := .ret _) (hk kept ns' c' hkept (nV (by simpa using s2) (s1.nodup_iff.mpr hn)) fun x => s1.mem_iff.trans (hm x)) lY rfl (.cons _ (.cons _ (.refl _))) rfl
 ·rintro d l σ ⟨k1, k2, K, v3, e1, e2, hn, hl, hm, rfl⟩ ih
  cases k2 with
  | nil => cases e2
  | cons x k2 =>
   cases e2
   have hkept' := e1 ▸ hkept
   obtain ⟨n, r, rfl, hnl, hr⟩ := hkept'.nth hok hlt
   have hlen1 : k1.length < 13 := by rw [e1] at hlen; simp at hlen; lia
   ((try dsimp only [PR, PO, az, ay, bj, af, bw, aA, cL, aX, bU, ac, cP, bh, be, ao, aq, cy, aG, aL, MS.set, aY, aK, al, au, aH, am, av, aF]); (try simp only [bO _ n (by lia), fE hr, am, b8, cI, eG, aV]))
   cases hq : (r.rule == ("input" : Str))
   ·((try dsimp only [b0, aw]); (repeat (left; (try dsimp only [aw, bb, au, al, ci, bV]); (try simp only [aV]))))
    exact ih _ ⟨k1 ++ [(n : Int)], k2, K, _, by rw [e1]; simp, rfl, hn, by simp; exact nF, fun x => by rw [hm, List.filterMap_append]; simp [uu hr hq], rfl⟩
   ·obtain ⟨j, hj, hj0, hj1⟩ := (hok.2 n r hr).inp (eq_of_beq hq)
    ((try dsimp only [cQ, af, eM, fF, ac, au, al, cL, aX, bU, ao, aq, cy, aG, aY, aK, xP, aH, am, av, aF]); (try simp only [bO _ n (by lia), fE hr, hj, z6, z5, aV, am, b8, jV, aq]))
    (refine ⟨aE (by lia), ?_⟩; (repeat (left; (try dsimp only [aw, bb, au, al, ci, bV]); (try simp only [aV]))))
    refine ih _ ⟨k1 ++ [(n : Int)], k2, _, _, by rw [e1]; simp, rfl, ?_, ?_, ?_, rfl⟩
    ·split
     ·exact hn
     ·rename_i hxk
      exact List.nodup_append.mpr ⟨hn, by simp, fun y hy z hz e => hxk (by simp at hz; rw [← hz, ← e]; exact hy)⟩
    ·split
     ·simp; exact nF
     ·simp; exact ooK
    ·intro x
     have e3 : (k1 ++ [(n : Int)]).filterMap (kR rows) = k1.filterMap (kR rows) ++ [j] := by rw [List.filterMap_append]; simp [rI hr hq hj]
     rw [e3]
     split
     ·rename_i hxk
      rw [hm, List.mem_append, List.mem_singleton]
      exact ⟨.inl, fun q => q.elim id fun q => by subst q; exact (hm _).mp hxk⟩
     ·rw [List.mem_append, List.mem_append, hm]
set_option tactic.hygienic true in
theorem kq.rowsOk {rows : List cT} (hr : cw rows) {last : Nat} (hl : last < rows.length) {kept : List Int} (h : kq rows last kept) : cw (cZ rows kept kept) := by
 have key : ∀ (k2 k1 : List Int), kept = k1 ++ k2 → (cZ rows kept k1).length = k1.length → (∀ i r, (cZ rows kept k1)[i]? = some r → gf i r) → cw (cZ rows kept kept) := by
  intro k2
  induction k2 with
  | nil =>
   intro k1 e hlen hall
   rw [List.append_nil] at e
   subst e
   exact ⟨by rw [hlen]; exact h.len hr hl, hall⟩
  | cons x k2 ih =>
   intro k1 e hlen hall
   have h' := e ▸ h
   obtain ⟨n, r, rfl, hn, hrr⟩ := h'.nth hr hl
   have hsn := kt (kept := kept) (ks := k1) hrr
   have hro := ut hr h' hrr
   rw [← e] at hro
   refine ih (k1 ++ [(n : Int)]) (by rw [e]; simp) (by rw [hsn]; simp [hlen]) fun i r' hi => ?_
   rw [hsn, List.getElem?_append] at hi
   split at hi
   ·exact hall i r' hi
   ·rename_i hge
    have h1 := (List.getElem?_eq_some_iff.mp hi).1
    simp at h1
    have : i - (cZ rows kept k1).length = 0 := ooK
    rw [this] at hi
    simp at hi
    subst hi
    have : i = k1.length := (Nat.le_antisymm (Nat.sub_eq_zero_iff_le.mp this) (Nat.not_lt.mp hge)).trans hlen
    subst this
    exact hro
 exact key kept [] rfl rfl (fun i r q => by simp [cZ] at q)
theorem DD : ∀ ns : List Int, PyData.eqvAll (bZ (DL ns)) (bZ (DL ns)) = true
 | [] => rfl
 | a :: r => by
  show (PyData.eqv (.int a) (.int a) && PyData.eqvAll (bZ (DL r)) (bZ (DL r))) = true
  rw [DD r]
  simp [PyData.eqv]
theorem wi : ∀ {ns : List Int}, (∀ x ∈ ns, 0 ≤ x ∧ x < 7) → iU (DL ns) = some (ns.map Int.toNat)
 | [], _ => rfl
 | a :: r, h => by
  have h1 := h a c8
  show (if 0 ≤ a ∧ a < 7 then (iU (DL r)).map (a.toNat :: ·) else none) = _
  rw [if_pos h1, wi fun x hx => h x (dP _ hx)]
  rfl
inductive dU : List D → List (Addr × O) → cu → Prop
 | mk {ds : List D} {sub : List (Addr × O)} {k : cu} (a dx s nm : Addr) (e : Int) (rows : List cT) (tl : List D) (ra : Addr) (h0 : ds = [.ref a, .ref ra]) (h1 : sub = PR a dx s nm e rows (.int 0 :: tl) ++ [(ra, .list (RL rows))]) (h2 : cw rows) (h3 : 0 < rows.length) (h4 : tl.length ≤ 100) (h5 : k (.bool true) [PO dx s nm e, .list (RL rows), .list (.int 0 :: tl), .list (RL rows)] []) : dU ds sub k
theorem oh : fC (iA gE eN iH) 11 dU := by
 rintro ds sub k ⟨a, dx, s, nm, e, rows, tl, ra, rfl, rfl, hok, h0, htl, hk⟩
 have h13 := hok.1
 obtain ⟨last, hlast⟩ : ∃ last : Nat, (rows.length : Int) - 1 = last := ⟨rows.length - 1, (Int.ofNat_sub h0).symm⟩
 have hlt : last < rows.length := by lia
 ((try dsimp only [aB, aM, cS, cR, PR, PO, az, ay, iA, fy, af, ba, bC, bK, aa, ac, aL, MS.set, jI, ao, aq, bv, ad, b6, au, al, cj]); (try simp only [bk, bF, az, ay, au, al, aY, aK, c7, hlast, c9, aV]))
 (repeat first | ((with_reducible refine And.intro ?pa ?_); (case pa => first | decide | lia | exact aE (by simp only [c7, bY, eX, dI, aB, aM]; lia))) | (left; (try dsimp only [af, ba, cD, aa, a9, ac, au, al, bN, gF, aB, aM, MS.setAll, MS.set, bg, ad, aY, aK, am]); (try simp only [aV])))
 refine ⟨ra, rows, last, rfl, rfl, hok, hlt, fun kept c hkept => ?_⟩
 have hlen := hkept.len hok hlt
 have hrok := hkept.rowsOk hok hlt
 have q_ok1 := hrok.all
 have q_r1 := uk q_ok1.1 q_ok1.2.1 q_ok1.2.2
 (try dsimp only [aZ, au, al, aY, aK, az, ay])
 (refine ⟨Nat.zero_le _, ?_⟩; (repeat (left; (try dsimp only [af, dq, bR, ac, au, al, MS.trunc, aB, aM, av]); (try simp only [aV]))); refine fun d => ?_; (repeat (left; (try dsimp only [af, dq, bR, ac, au, al, MS.trunc, aB, aM, av]); (try simp only [aV]))); refine ⟨aE (by decide), ?_⟩; (repeat (left; (try dsimp only [af, dq, bR, ac, au, al, MS.trunc, aB, aM, av]); (try simp only [aV]))))
 refine bS (fun l σ => Ht fun (k1 k2 : List Int) (v5 v6 v7 v8 v9 : Option D) => Ef (kept = k1 ++ k2) (l = DL k2) ((cZ rows kept k1).length = k1.length) (σ = ⟨[some (.ref a), some (.ref ra), some (.int last), some (.ref c), some (.ref d), v5, v6, v7, v8, v9, none], PR a dx s nm e rows (.int 0 :: tl) ++ [(ra, .list (RL rows)), (c, .list (DL kept)), (d, .list (RL (cZ rows kept k1)))]⟩)) ?_ ?_ _ _ ⟨[], kept, none, none, none, none, none, rfl, rfl, rfl, rfl⟩
 ·rintro σ ⟨k1, k2, v5, v6, v7, v8, v9, e1, e2, htr, rfl⟩
  have : k2 = [] := by
   cases k2 with
   | nil => rfl
   | cons _ _ => cases e2
  subst this
  rw [List.append_nil] at e1
  subst e1
  ((try (left)); (try dsimp only [PR, PO, az, ay, af, ba, pe, bM, bR, ac, au, al, MS.trunc, MS.more, cS, cR, aL, MS.set, aB, aM, av]); (try simp only [aV]))
  (refine ⟨aE (by rw [bY]; exact nA), ?_⟩)
  refine ic (l := kept) (q := D.int) (fun n => (kR rows n).map D.int) (fun (z : Option D) => ⟨[some (.ref a), some (.ref ra), some (.int last), some (.ref c), some (.ref d), v5, v6, v7, v8, v9, none, z], PR a dx s nm e rows (.int 0 :: tl) ++ [(ra, .list (RL rows)), (c, .list (DL kept)), (d, .list (RL (cZ rows kept kept)))]⟩) ?_ ?_ none
  ·intro x hx z rr acc hnx
   obtain ⟨k3, k4, e4⟩ := List.append_of_mem hx
   obtain ⟨n, r, rfl, hnl, hr⟩ := (e4 ▸ hkept : kq rows last (k3 ++ x :: k4)).nth hok hlt
   ((try dsimp only [PR, PO, az, ay] at hnx); (try dsimp only [PR, PO, az, ay, bz, aA, cL, aX, ac, cP, bh, be, ao, aq, aL, MS.set, aY, aK, au, al, av]); (try simp only [bO _ n (by lia), fE hr, am, b8, cI, eG, aV]))
   cases hq : (r.rule == ("input" : Str))
   ·rw [uu hr hq] at hnx
    ((try dsimp only [Option.map_none, Option.toList] at hnx); (try simp only [List.append_nil] at hnx); (try dsimp only [jh, au, al, ci, bV]); (try simp only [aV]))
    exact hnx _
   ·obtain ⟨j, hj, hj0, hj1⟩ := (hok.2 n r hr).inp (eq_of_beq hq)
    rw [rI hr hq hj] at hnx
    ((try dsimp only [Option.map_some, Option.toList] at hnx); (try dsimp only [dF, cL, aX, ac, au, al, ao, aq, ci, bV, av]); (try simp only [bO _ n (by lia), fE hr, hj, aV, am, b8, jV]))
    exact hnx _
  ·intro z f
   have hin : ∀ x ∈ kept.filterMap (kR rows), 0 ≤ x ∧ x < 7 := fun x hx => by
    obtain ⟨n, hn, e5⟩ := List.mem_filterMap.mp hx
    obtain ⟨k3, k4, e4⟩ := List.append_of_mem hn
    obtain ⟨m, r, rfl, hnl, hr⟩ := (e4 ▸ hkept : kq rows last (k3 ++ n :: k4)).nth hok hlt
    cases hq : (r.rule == ("input" : Str))
    ·rw [uu hr hq] at e5; cases e5
    ·obtain ⟨j, hj, hj0, hj1⟩ := (hok.2 m r hr).inp (eq_of_beq hq)
     rw [rI hr hq hj] at e5
     cases e5
     exact ⟨hj0, hj1⟩
   have eF : kept.filterMap (fun n => (kR rows n).map D.int) = DL (kept.filterMap (kR rows)) := by
    rw [DL, List.map_filterMap]
   ((try dsimp only [PR, PO, az, ay, au, al, ci, bV, aY, aK, av]); (try simp only [eF, wi hin, am, aV]))
   intro ns' g hs1 hs2
   have hmem : ∀ x, x ∈ ns' ↔ x ∈ kept.filterMap (kR rows) := fun x => by
    rw [hs2]
    constructor
    ·rintro ⟨m, hm, rfl⟩
     obtain ⟨y, hy, rfl⟩ := List.mem_map.mp hm
     have := hin y hy
     rw [show Int.ofNat y.toNat = y from Int.toNat_of_nonneg this.1]
     exact hy
    ·intro hx
     have := hin x hx
     exact ⟨x.toNat, List.mem_map.mpr ⟨x, hx, rfl⟩, (Int.toNat_of_nonneg this.1).symm⟩
   ((try (left)); (try dsimp only [af, bp, u7, eh, bK, aa, bU, bB, ac, al, bN, aW, lg, ad, aG, dE, cP, jM, be, b6, eG, cy, au, aF, am, aH]); (try simp only [bk, bF, aV]))
   refine ⟨rfl, a, dx, s, nm, e, rows, tl, last, rfl, rfl, hok, hlt, htl, fun kept2 a' dx' s' nm' e' hk2 => ?_⟩
   have := hk2.uniq hkept
   subst this
   ((try dsimp only [PO, aZ, al, aK, au, aY, PR, az, ay, am, aH, av, aF]); (try simp only [bk, bF, aV]))
   refine ⟨q_r1.1, q_r1.2.1, q_r1.2.2.1, q_r1.2.2.2.1, q_r1.2.2.2.2, q_r1.1, q_r1.2.1, q_r1.2.2.1, q_r1.2.2.2.1, q_r1.2.2.2.2, ?_⟩
   simp only [beq_self_eq_true]
   refine ⟨rfl, a, dx, s, nm, e, rows, _, last, rfl, rfl, hok, hlt, fun kept3 us g' hk3 hu1 hu2 => ?_⟩
   have := hk3.uniq hkept
   subst this
   have eu : us = ns' := pq hu1 hs1 fun x => (hu2 x).trans (hmem x).symm
   subst eu
   have hus : ∀ x ∈ us, x.natAbs ≤ 20 := fun x hx => by have := hin x ((hmem x).mp hx); lia
   have q_w1 := gO (m7 hus)
   have w5 := q_w1.2.2.2.2.1
   have w6 := q_w1.2.2.2.2.2
   have hul : us.length ≤ 7 := kQ (hu1.imp fun q e => by subst e; lia) fun x hx => hin x ((hmem x).mp hx)
   have wd := te us
   ((try dsimp only [PO, aZ, al, aK, au, aY, az, ay, cj, aF]); (try simp only [and_true, aV]))
   refine ⟨⟨q_w1.1, q_w1.1⟩, ⟨q_w1.2.1, q_w1.2.1⟩, by lia, ?_⟩
   rw [show List.map D.int us = DL us from rfl, DD]
   exact bA (rest := _) (fl := .ret _) hk ⟨rfl, rfl, rfl, rfl, trivial⟩ rfl (List.nil_sublist _) rfl
 ·rintro dd l σ ⟨k1, k2, v5, v6, v7, v8, v9, e1, e2, htr, rfl⟩ ih
  cases k2 with
  | nil => cases e2
  | cons x k2 =>
   cases e2
   have hkept' := e1 ▸ hkept
   obtain ⟨n, r, rfl, hnl, hr⟩ := hkept'.nth hok hlt
   have hlen1 : k1.length < 13 := by rw [e1] at hlen; simp at hlen; lia
   have hsnoc := kt (kept := kept) (ks := k1) hr
   have lpr := (hok.2 n r hr).len
   have hprk : ∀ x ∈ r.pr, x ∈ kept := fun x hx => by
    rw [e1]
    exact hkept'.closed hok (List.mem_append_right _ c8) hr x hx
   ((try dsimp only [PR, PO, az, ay] at ih); (try dsimp only [PR, PO, az, ay, bj, af, ba, aX, ac, gF, aB, aM, aL, MS.set, aY, aK, au, al, aq, av]); (try simp only [bO _ n (by lia), fE hr, am, aB, aM, MS.setAll, MS.set, aY, aK, aV]); (repeat (left; (try dsimp only [af, br, bD, ac, au, al, bl, aa, cD, ad, fV, aB, bK, bM, dy, MS.trunc, MS.more, cS, cR, aM, c6, b6, c9, az, ay, b8, av]); (try simp only [aV]))))
   (repeat first | ((with_reducible refine And.intro ?pa ?_); (case pa => first | decide | lia | exact aE (by simp only [c7, bY, eX, dI, aB, aM]; lia))) | (left))
   refine ic (l := r.pr) (q := D.int) (fun x => some (.int (jc kept x : Nat))) (fun (z : Option D) => ⟨[some (.ref a), some (.ref ra), some (.int last), some (.ref c), some (.ref d), some (.int n), some (.str r.rule), some (.tup (DL r.cl)), some (.tup (DL r.pr)), some r.note, none, z], PR a dx s nm e rows (.int 0 :: tl) ++ [(ra, .list (RL rows)), (c, .list (DL kept)), (d, .list (RL (cZ rows kept k1)))]⟩) ?_ ?_ none
   ·intro x hx z rr acc hnx
    ((try dsimp only [PR, PO, az, ay, Option.toList] at hnx); (try dsimp only [PR, PO, az, ay, bz, cH, dF, bD, ac, zF, aa, ad, fV, aL, MS.set, aY, aK, au, al, ci, bV, av, aq]); (try simp only [bY, cG, aV, am, ur (hprk x hx)]))
    exact ⟨nB, hnx _⟩
   ·intro z f
    rw [dm]
    ((try dsimp only [PR, PO, az, ay, au, al, ci, bV, aY, aK, av, cj]); (try simp only [aV]))
    (refine ⟨aE (by simp; exact nA), ?_⟩; (repeat (left; (try dsimp only [aw, bb, au, al, ci, bV]); (try simp only [aV]))); refine ⟨aE (by decide), ?_⟩; (repeat (left; (try dsimp only [aw, bb, au, al, ci, bV]); (try simp only [aV]))); refine ⟨by rw [c7]; lia, ?_⟩; (repeat (left; (try dsimp only [aw, bb, au, al, ci, bV]); (try simp only [aV]))); refine ih _ ⟨k1 ++ [(n : Int)], k2, some (.int n), some (.str r.rule), some (.tup (DL r.cl)), some (.tup (DL r.pr)), some r.note, by rw [e1]; simp, rfl, by rw [hsnoc]; simp [htr], ?_⟩)
    rw [hsnoc, lE]
    simp [lH, DL, Function.comp_def]
section
open Builtin Builtin.Str StrLaws
noncomputable abbrev cF (x : Str) : List Nat := x.cps.toList
noncomputable def S (l : List Nat) : Str := ⟨l.toArray⟩
theorem kT (x : Str) : S (cF x) = x := by unfold S cF; simp
theorem cq (a b : Str) : cF (a ++ b) = cF a ++ cF b := by
 show (a ++ b).cps.toList = _
 rw [Str.cps_append, Array.toList_append]
theorem jY (x : Str) : (cF x).length = x.length := by simp [Str.length]
noncomputable def wl : List Nat → List Nat → List (List Nat)
 | acc, [] => if acc.isEmpty then [] else [acc]
 | acc, c :: r => if Unicode.isSpace c then (if acc.isEmpty then wl [] r else acc :: wl [] r) else wl (acc ++ [c]) r
theorem uv {acc r : List Nat} {c : Nat} (h : Unicode.isSpace c = true) : wl acc (c :: r) = if acc.isEmpty then wl [] r else acc :: wl [] r := by rw [wl, h]; rfl
theorem DE {acc r : List Nat} {c : Nat} (h : Unicode.isSpace c = false) : wl acc (c :: r) = wl (acc ++ [c]) r := by rw [wl, h]; rfl
theorem DF (s : Str) (limit : Nat) (hl : s.length < limit) : ∀ (m cur : Nat) (words : Array (Nat × Nat)) (start : Option Nat), cur + m = s.length → SwOk s.length cur (none, words, start) → SwNe cur (none, words, start) →
  (swEnd s (forIn (List.range' cur m) ((none, words, start) : SwSt) (swBody s limit)).run).map (fun p => cF (strSub s p.1 p.2)) = words.toList.map (fun p => cF (strSub s p.1 p.2)) ++ wl (match start with | some b => ((cF s).drop b).take (cur - b) | none => []) ((cF s).drop cur) := by
 intro m
 induction m with
 | zero =>
  intro cur words start hm h g
  have e : (cF s).drop cur = [] := List.drop_eq_nil_of_le (by rw [jY]; lia)
  rw [e]
  cases start with
  | none => show words.toList.map _ = _; simp [wl]
  | some b =>
   have hb : b < cur := g.2
   show ((words.push (b, s.length)).toList).map _ = _
   rw [Array.toList_push, List.map_append]
   have e1 : cF (strSub s b s.length) = ((cF s).drop b).take (cur - b) := by
    show (strSub s b s.length).cps.toList = _
    rw [strSub_toList]
    congr 1
    lia
   have e2 : (((cF s).drop b).take (cur - b)).isEmpty = false := by
    rw [List.isEmpty_eq_false_iff, ne_eq, ← List.length_eq_zero_iff, List.length_take, List.length_drop, jY]
    exact E0 hb (hm ▸ Nat.le_add_right cur 0)
   simp [wl, e1, e2]
 | succ m ih =>
  intro cur words start hm h g
  rw [List.range'_succ, List.forIn_cons]
  have q_h1 := h
  obtain ⟨g1, g2⟩ := g
  have hsz : ¬ ((words.size == limit) = true) := by
   have a := len_le_wsum words.toList
   have b : words.toList.length = words.size := by simp
   have c : wsum words.toList ≤ cur := by
    cases start with
    | none => exact q_h1.2.2
    | some b => exact Nat.le_trans q_h1.2.2.2 q_h1.2.2.1
   rw [beq_iff_eq]; lia
  have hcl : cur < (cF s).length := by rw [jY]; lia
  have ed : (cF s).drop cur = s.cps.getD cur 0 :: (cF s).drop (cur + 1) := by
   rw [List.drop_eq_getElem_cons hcl]
   congr 1
   have hcs : cur < s.cps.size := by simpa using hcl
   simp [Array.getD, hcs]
  have chunk : ∀ b, b < cur → ((cF s).drop b).take (cur + 1 - b) = ((cF s).drop b).take (cur - b) ++ [s.cps.getD cur 0] := fun b hb => by
   have e3 : cur + 1 - b = (cur - b) + 1 := Ff (Nat.le_of_lt hb)
   have hlt : cur - b < ((cF s).drop b).length := by rw [List.length_drop]; exact Nat.sub_lt_sub_right (Nat.le_of_lt hb) hcl
   rw [e3, List.take_succ_eq_append_getElem hlt]
   congr 2
   rw [List.getElem_drop]
   have hcs : cur < s.cps.size := by simpa using hcl
   have e4 : b + (cur - b) = cur := Nat.add_sub_of_le (Nat.le_of_lt hb)
   simp [Array.getD, hcs, e4]
  rw [ed]
  unfold swBody
  simp only [hsz, if_false]
  cases start with
  | none =>
   cases hsp : Unicode.isSpace (s.cps.getD cur 0)
   ·have key := ih (cur + 1) words (some cur) (by lia) ⟨rfl, q_h1.2.1, Nat.le_succ cur, q_h1.2.2⟩ ⟨g1, Nat.lt_succ_self cur⟩
    refine Eq.trans key ?_
    congr 1
    show wl (((cF s).drop cur).take (cur + 1 - cur)) _ = wl [] _
    rw [ed]
    have e5 : cur + 1 - cur = 1 := by lia
    rw [e5]
    show _ = if Unicode.isSpace (s.cps.getD cur 0) = true then _ else wl ([] ++ [s.cps.getD cur 0]) ((cF s).drop (cur + 1))
    rw [hsp]
    simp
   ·have key := ih (cur + 1) words none (by lia) ⟨rfl, q_h1.2.1, Nat.le_succ_of_le q_h1.2.2⟩ ⟨g1, trivial⟩
    refine Eq.trans key ?_
    congr 1
    show wl [] _ = wl [] _
    rw [uv hsp]
    rfl
  | some b =>
   have hb : b < cur := g2
   have ne : (((cF s).drop b).take (cur - b)).isEmpty = false := by
    rw [List.isEmpty_eq_false_iff, ne_eq, ← List.length_eq_zero_iff, List.length_take, List.length_drop, jY]
    exact E0 hb (hm ▸ Nat.le_add_right cur _)
   cases hsp : Unicode.isSpace (s.cps.getD cur 0)
   ·have key := ih (cur + 1) words (some b) (by lia) ⟨rfl, q_h1.2.1, Nat.le_succ_of_le q_h1.2.2.1, q_h1.2.2.2⟩ ⟨g1, Nat.lt_succ_of_lt g2⟩
    refine Eq.trans key ?_
    congr 1
    show wl (((cF s).drop b).take (cur + 1 - b)) _ = _
    rw [chunk b hb, DE hsp]
   ·have key := ih (cur + 1) (words.push (b, cur)) none (by lia) (by
     refine ⟨rfl, ?_, ?_⟩
     ·intro p hp
      rw [Array.toList_push, List.mem_append, List.mem_singleton] at hp
      rcases hp with hp | rfl
      ·exact q_h1.2.1 p hp
      ·exact hm ▸ Nat.le_add_right cur _
     ·show wsum (words.push (b, cur)).toList ≤ cur + 1
      rw [Array.toList_push, wsum_snoc]
      have a1 : b ≤ cur := q_h1.2.2.1
      have a2 : wsum words.toList ≤ b := q_h1.2.2.2
      exact G9 a1 a2) (by
     refine ⟨?_, trivial⟩
     intro p hp
     rw [Array.toList_push, List.mem_append, List.mem_singleton] at hp
     rcases hp with hp | rfl
     ·exact g1 p hp
     ·exact g2)
    refine Eq.trans key ?_
    rw [Array.toList_push, List.map_append, List.append_assoc]
    congr 1
    have e1 : cF (strSub s b cur) = ((cF s).drop b).take (cur - b) := by
     show (strSub s b cur).cps.toList = _
     rw [strSub_toList]
    show [cF (strSub s b cur)] ++ wl [] _ = wl (((cF s).drop b).take (cur - b)) _
    rw [uv hsp, e1, ne]
    rfl
set_option tactic.hygienic true in
theorem kU (x : Str) : Txt.words x = (wl [] (cF x)).map S := by
 have e : Txt.words x = (spaceWords x (x.length + 1)).map fun (p : Nat × Nat) => strSub x p.1 p.2 := by
  unfold Txt.words
  split
  ·rename_i h
   rw [eq_of_beq h]
   simp [sub_whole]
  ·rfl
 have ok0 : SwOk x.length 0 ((none, #[], none) : SwSt) := ⟨rfl, by intro p hp; simp at hp, Nat.le_refl 0⟩
 have ne0 : SwNe 0 ((none, #[], none) : SwSt) := ⟨by intro p hp; simp at hp, trivial⟩
 have key := DF x (x.length + 1) (Nat.lt_succ_self _) x.length 0 #[] none (by lia) ok0 ne0
 rw [← sw_eq] at key
 simp only [List.drop_zero] at key
 have k2 := congrArg (List.map S) key
 rw [List.map_map] at k2
 rw [e]
 simpa [Function.comp_def, kT] using k2
noncomputable def sl (c : Nat) : List Nat → List Nat → List (List Nat)
 | acc, [] => [acc]
 | acc, k :: r => if k = c then acc :: sl c [] r else sl c (acc ++ [k]) r
noncomputable def ez (sep : List Nat) : List (List Nat) → List Nat
 | [] => []
 | [x] => x
 | x :: y :: r => x ++ sep ++ ez sep (y :: r)
theorem m9 (sep : Str) : ∀ l : List Str, cF (Str.join sep l) = ez (cF sep) (l.map cF)
 | [] => rfl
 | [x] => rfl
 | x :: y :: r => by
  show cF (x ++ sep ++ Str.join sep (y :: r)) = cF x ++ cF sep ++ ez (cF sep) ((y :: r).map cF)
  rw [cq, cq, m9 sep (y :: r)]
theorem kW (sep : Str) (l : List Str) : cF (Txt.join sep l) = ez (cF sep) (l.map cF) := by
 rw [← m9]; show cF (glued sep l) = _; rw [glued_eq_join]
theorem tg (c : Nat) : ∀ (w acc : List Nat), c ∉ w → sl c acc w = [acc ++ w]
 | [], acc, _ => by simp [sl]
 | k :: w, acc, h => by
  have h1 : ¬ k = c := fun e => h (e ▸ c8)
  rw [sl, if_neg h1, tg c w _ fun q => h (dP _ q)]
  simp
theorem DG (c : Nat) (r : List Nat) : ∀ (w acc : List Nat), c ∉ w → sl c acc (w ++ c :: r) = (acc ++ w) :: sl c [] r
 | [], acc, _ => by simp [sl]
 | k :: w, acc, h => by
  have h1 : ¬ k = c := fun e => h (e ▸ c8)
  rw [az, sl, if_neg h1, DG c r w _ fun q => h (dP _ q)]
  simp
theorem qx (c : Nat) : ∀ l : List (List Nat), l ≠ [] → (∀ p ∈ l, c ∉ p) → sl c [] (ez [c] l) = l
 | [], h, _ => absurd rfl h
 | [x], _, h => by rw [ez, tg c x [] (h x c8)]; rfl
 | x :: y :: r, _, h => by
  show sl c [] (x ++ [c] ++ ez [c] (y :: r)) = _
  rw [List.append_assoc]
  show sl c [] (x ++ c :: ez [c] (y :: r)) = _
  rw [DG c _ x [] (h x c8), qx c (y :: r) (by simp) fun p hp => h p (dP _ hp)]
  rfl
theorem DH (x y : Str) : Txt.split x y ≠ [] := by
 unfold Txt.split
 split
 ·simp
 ·split
  ·simp
  ·rw [partsBetween_eq]
   obtain ⟨p, r, e⟩ := partsFrom_ne x y.length 0 (occurrences x y 0 x.length (x.length + 1))
   rw [e]; simp
theorem nc (x : Str) (c : Nat) : Txt.split x ⟨#[c]⟩ = (sl c [] (cF x)).map S := by
 have h1 := congrArg cF (join_split x ⟨#[c]⟩)
 rw [m9] at h1
 have h2 := qx c ((Txt.split x ⟨#[c]⟩).map cF) (by simpa using DH x _) (by
  intro p hp
  obtain ⟨q, hq, rfl⟩ := List.mem_map.mp hp
  exact split_free x c q hq)
 rw [show cF (⟨#[c]⟩ : Str) = [c] from rfl] at h1
 rw [h1] at h2
 rw [h2, List.map_map]
 refine ((List.map_congr_left fun y _ => ?_).trans (List.map_id _)).symm
 exact kT y
theorem n6 (c : Nat) (z : List Nat) : ∀ w : List Nat, c ∉ w → w.flatMap (fun k => if k = c then z else [k]) = w := by
 intro w
 induction w with
 | nil => intro _; rfl
 | cons k w ih =>
  intro hw
  have h1 : ¬ k = c := fun e => hw (e ▸ c8)
  rw [List.flatMap_cons, ih fun q => hw (dP _ q), if_neg h1]
  rfl
theorem wj (c : Nat) (z : List Nat) : ∀ l : List (List Nat), (∀ p ∈ l, c ∉ p) → (ez [c] l).flatMap (fun k => if k = c then z else [k]) = ez z l
 | [], _ => rfl
 | [x], h => n6 c z x (h x c8)
 | x :: y :: r, h => by
  show (x ++ [c] ++ ez [c] (y :: r)).flatMap _ = x ++ z ++ ez z (y :: r)
  rw [List.flatMap_append, List.flatMap_append, wj c z (y :: r) fun p hp => h p (dP _ hp)]
  have h2 := n6 c z x (h x c8)
  rw [h2]
  simp
theorem pu (x z : Str) (c : Nat) : cF (Txt.replace x ⟨#[c]⟩ z) = (cF x).flatMap fun k => if k = c then cF z else [k] := by
 rw [replace_one, m9, ← wj c (cF z) _ fun p hp => by
  obtain ⟨q, hq, rfl⟩ := List.mem_map.mp hp
  exact split_free x c q hq]
 have h1 := congrArg cF (join_split x ⟨#[c]⟩)
 rw [m9] at h1
 rw [show cF (⟨#[c]⟩ : Str) = [c] from rfl] at h1
 rw [h1]
theorem eJ {x : Str} (h : x.length ≤ 900000) : x.length ≤ sizeLine ∧ (spaceWords x (x.length + 1)).length ≤ sizeLine := by
 refine ⟨aE nA, aE ?_⟩
 have h1 := (sw_weight x).1
 have h2 := len_le_wsum (spaceWords x (x.length + 1))
 lia
theorem zd {x y : Str} (hy : 1 ≤ y.length) : ∀ (cuts : List Nat) (a f : Nat), ChainTo x y x.length a cuts f → cuts.length ≤ x.length - a
 | [], _, _, _ => Nat.zero_le _
 | c :: r, a, f, h => by
  have := zd hy r _ _ h.2.2
  have h1 := h.1
  have h2 := h.2.1.1
  rw [aB]
  exact Nat.le_trans (Nat.add_le_add this hy) (Nat.le_trans (Nat.le_of_eq (by rw [Nat.sub_add_eq, Nat.sub_add_cancel (Nat.le_sub_of_add_le' h2)])) (Nat.sub_le_sub_left h1 _))
theorem wk (x : Str) (w : Nat) : ∀ (cuts : List Nat) (a : Nat), (partsFrom x w a cuts).length = cuts.length + 1
 | [], _ => rfl
 | c :: r, a => by
  show (partsFrom x w (c + w) r).length + 1 = _
  rw [wk x w r]; rfl
theorem dZ {x y : Str} (h : x.length ≤ 900000) (hy : 1 ≤ y.length) : (y.length == 0) = false ∧ x.length ≤ sizeLine ∧ (partsBetween x (occurrences x y 0 x.length (x.length + 1)) y.length).length ≤ sizeLine := by
 refine ⟨by simp; lia, aE nA, aE ?_⟩
 obtain ⟨f, hf⟩ := occ_chain x y (x.length + 1)
 have := zd hy _ _ _ hf
 rw [partsBetween_eq, wk]
 lia
end
noncomputable def c0 (i : Int) : Str := Str.ofString (toString i)
noncomputable def dH (ns : List Int) : Str := if ns.length = 0 then "-" else Txt.join " " (ns.map c0)
mutual
noncomputable def cf : D → Str
 | .none => "-"
 | .tup ds => "(" ++ Txt.join " " (cB ds) ++ ")"
 | .int i => c0 i
 | .str x => x
 | .bool _ => ""
 | .ref _ => ""
noncomputable def cB : List D → List Str
 | [] => []
 | d :: ds => cf d :: cB ds
end
theorem cM {i : Int} (h : i.natAbs ≤ 20) : (c0 i).length ≤ 3 := AQ h
theorem uw (ts : List Str) : (Txt.join " " ts).length ≤ (ts.map (·.length)).sum + ts.length := by
 have := StrLaws.join_length_le " " ts
 show (Builtin.Str.glued " " ts).length ≤ _
 rw [StrLaws.glued_eq_join]
 have e : ((" " : String) : Str).length = 1 := rfl
 rw [e] at this
 lia
theorem ze (ns : List Int) (h : ∀ x ∈ ns, x.natAbs ≤ 20) : ((ns.map c0).map (·.length)).sum ≤ 3 * ns.length := by
 induction ns with
 | nil => simp
 | cons a r ih =>
  have h1 := cM (h a c8)
  have h2 := ih fun x hx => h x (dP _ hx)
  simp only [bk, List.sum_cons, aB]
  lia
theorem sv (ns : List Int) (h : ∀ x ∈ ns, x.natAbs ≤ 20) : (dH ns).length ≤ 4 * ns.length + 1 := by
 unfold dH
 split
 ·have e : (("-" : String) : Str).length = 1 := rfl
  rw [e]; lia
 ·have h1 := uw (ns.map c0)
  have h2 := ze ns h
  rw [dI] at h1
  lia
theorem pv : (jW.all fun x => decide (x.length ≤ 20)) = true := by decide +kernel
mutual
theorem qy : ∀ {d : D}, jl d = true → (cf d).length + 1 ≤ 24 * cost d
 | .none, _ => by simp only [cf, cost]; decide
 | .int i, h => by
  have h' : i.natAbs ≤ 20 := by simpa [jl] using h
  have := cM h'
  simp only [cf, cost]; exact nB
 | .str x, h => by
  have h' : x ∈ jW := by simpa [jl] using h
  have h2 := List.all_eq_true.mp pv x h'
  simp only [decide_eq_true_eq] at h2
  simp only [cf, cost]; exact nB
 | .tup ds, h => by
  have h' : dD ds = true := by simpa [jl] using h
  have h1 := ku h'
  have h2 := uw (cB ds)
  have e1 : (("(" : String) : Str).length = 1 := rfl
  have e2 : ((")" : String) : Str).length = 1 := rfl
  simp only [cf, cost, Str.length_append, e1, e2]; lia
 | .bool _, h => by simp [jl] at h
 | .ref _, h => by simp [jl] at h
theorem ku : ∀ {ds : List D}, dD ds = true → ((cB ds).map (·.length)).sum + (cB ds).length ≤ 24 * cb ds
 | [], _ => by simp [cB, cb]
 | d :: ds, h => by
  obtain ⟨h1, h2⟩ : jl d = true ∧ dD ds = true := by simpa [dD] using h
  have a1 := qy h1
  have a2 := ku h2
  simp only [cB, cb, bk, List.sum_cons, aB]; lia
end
theorem zf : ∀ {ds : List D}, dD ds = true → ∀ d ∈ ds, jl d = true ∧ cost d ≤ cb ds
 | [], _, d, h => nomatch h
 | a :: ds, h, d, hd => by
  obtain ⟨h1, h2⟩ : jl a = true ∧ dD ds = true := by simpa [dD] using h
  simp only [cb]
  rcases HL hd with rfl | q
  ·exact ⟨h1, by lia⟩
  ·have := zf h2 d q
   exact ⟨this.1, by lia⟩
theorem qz (ds : List D) : cB ds = ds.map cf := by
 induction ds with
 | nil => rfl
 | cons d ds ih => rw [cB, ih]; rfl
theorem EL {β : Type} {g : GC} {t : BC} {f : EC} {d7 : MS → Prop} {cut : MS → MS} {k : List D → MS → Prop} {l : List D} (h : D → Option D) (St : β → MS)
  (hs : ∀ (x : D), x ∈ l → ∀ (v : β) (r acc : List D), (∀ v', du g t f d7 cut r (St v') (acc ++ (h x).toList) k) → du g t f d7 cut (x :: r) (St v) acc k)
  (hk : ∀ v, k (l.filterMap h) (St v)) (v : β) : du g t f d7 cut l (St v) [] k := by
 have := ic (l := l) (q := fun x => x) h St hs hk v
 rwa [List.map_id'] at this
inductive qA : List D → List (Addr × O) → cu → Prop
 | mk {ds : List D} {sub : List (Addr × O)} {k : cu} (ns : List Int) (h0 : ds = [.tup (DL ns)]) (h1 : sub = []) (h2 : ns.length ≤ 1000) (h3 : (∀ x ∈ ns, x.natAbs ≤ 20)) (h4 : k (.str (dH ns)) [] []) : qA ds sub k
theorem zg : fC ud 1 qA := by
 rintro ds sub k ⟨ns, rfl, rfl, hl, hb, hk⟩
 ((try dsimp only [ud, fy, aB, aM, af, bp, aW, oV, aA, bK, aa, ac, cP, ao, aq, bv, cz, ad, b6, List.getElem?_nil]); (try simp only [bk, bF, az, ay, al, kE, bY]))
 (refine ⟨nB, ?_⟩)
 cases hq : ((ns.length : Int) == 0)
 ·(try dsimp only [rC, bq, bh, mx, aa, bM, dy, ac, al, MS.trunc, MS.more, cS, cR, ad, fV, be, aM, bV, az, aB, b8])
  (refine ⟨aE (by rw [bY]; exact nA), ?_⟩)
  refine ic (l := ns) (q := D.int) (fun x => some (.str (c0 x))) (fun (z : Option D) => ⟨[some (.tup (DL ns)), z], []⟩) ?_ ?_ none
  ·intro x hx z rr acc hnx
   ((try dsimp only [Option.toList] at hnx); (try dsimp only [bz, cH, dF, bK, aa, ac, qZ, ad, b6, aL, MS.set, aY, aK, au, al, cz]); (try simp only [aV]))
   exact ⟨gD (hb x hx), hnx _⟩
  ·intro z a
   rw [dm]
   have e1 : j5 (ns.map fun x => D.str (c0 x)) = some (ns.map c0) := by
    have := jr (ns.map c0)
    rwa [List.map_map] at this
   ((try dsimp only [ay, al, ci, av]); (try simp only [e1, am, aV]))
   have e2 : dH ns = Txt.join " " (ns.map c0) := by
    unfold dH
    rw [if_neg]
    intro q
    simp [q] at hq
   rw [e2] at hk
   refine ⟨joinOk_of ?_, ?_⟩
   ·have h1 := ze ns hb
    have e3 : ((" " : String) : Str).length = 1 := rfl
    rw [e3, dI]
    lia
   ·exact bA (rest := _) (fl := .ret _) hk trivial rfl (List.nil_sublist _) rfl
 ·(try dsimp only [mZ, bh])
  have e2 : dH ns = "-" := by
   unfold dH
   rw [if_pos]
   have := eq_of_beq hq
   lia
  rw [e2] at hk
  exact bA (rest := _) (fl := .ret _) hk trivial rfl (List.nil_sublist _) rfl
inductive gW (n : Nat) : List D → List (Addr × O) → cu → Prop
 | mk {ds : List D} {sub : List (Addr × O)} {k : cu} (d : D) (h0 : ds = [d]) (h1 : sub = []) (h2 : jl d = true) (h3 : cost d ≤ n) (h4 : cost d ≤ 1000) (h5 : k (.str (cf d)) [] []) : gW n ds sub k
theorem ux (n : Nat) : fC (gS (gW n)) 1 (gW (n + 1)) := by
 rintro ds sub k ⟨d, rfl, rfl, hok, hc, hc2, hk⟩
 cases d with
 | none =>
  ((try dsimp only [aB, aM, gS, af, bw, aA, ac, Cl, g6, cQ, bp, bh, aW, b0, aw]); (try simp only [bk, bF, az, ay, al]))
  exact bA (rest := _) (fl := .ret _) hk trivial rfl (List.nil_sublist _) rfl
 | int i =>
  have h' : i.natAbs ≤ 20 := by simpa [jl] using hok
  ((try dsimp only [aB, aM, gS, af, bw, aA, ac, Cl, g6, cQ, bp, bh, aW, b0, aw]); (try simp only [bk, bF, az, ay, al]); (repeat (left; (try dsimp only [af, bw, gw, tG, ac, al, dE, b0, aw, cQ, bp, bC, bh, bq, aW, cO, be, cz, eG, kE, mx, aa, bM, dy, MS.trunc, MS.more, cS, cR, ad, fV, aM, bV, az, aB, bK, qZ, b6]))))
  refine ⟨gD h', ?_⟩
  exact bA (rest := _) (fl := .ret _) hk trivial rfl (List.nil_sublist _) rfl
 | str x =>
  ((try dsimp only [aB, aM, gS, af, bw, aA, ac, Cl, g6, cQ, bp, bh, aW, b0, aw]); (try simp only [bk, bF, az, ay, al]); (repeat (left; (try dsimp only [af, bw, gw, tG, ac, al, dE, b0, aw, cQ, bp, bC, bh, bq, aW, cO, be, cz, eG, kE, mx, aa, bM, dy, MS.trunc, MS.more, cS, cR, ad, fV, aM, bV, az, aB, bK, qZ, b6]))))
  exact bA (rest := _) (fl := .ret _) hk trivial rfl (List.nil_sublist _) rfl
 | tup es =>
  have h' : dD es = true := by simpa [jl] using hok
  simp only [cost] at hc hc2
  have hlen := ku h'
  have hj := uw (cB es)
  ((try dsimp only [aB, aM, gS, af, bw, aA, ac, Cl, g6, cQ, bp, bh, aW, b0, aw]); (try simp only [bk, bF, az, ay, al]); (repeat (left; (try dsimp only [af, bw, gw, tG, ac, al, dE, b0, aw, cQ, bp, bC, bh, bq, aW, cO, be, cz, eG, kE, mx, aa, bM, dy, MS.trunc, MS.more, cS, cR, ad, fV, aM, bV, az, aB, b8]))))
  have hnl : (cB es).length = es.length := by rw [qz, dI]
  (refine ⟨aE (by lia), ?_⟩)
  refine EL (l := es) (fun x => some (.str (cf x))) (fun (z : Option D) => ⟨[some (.tup es), z], []⟩) ?_ ?_ none
  ·intro x hx z rr acc hnx
   have := zf h' x hx
   ((try dsimp only [Option.toList] at hnx); (try dsimp only [bz, cH, dF, a9, aa, ac, bN, aZ, am, ad, aL, MS.set, aY, aK, au, al]); (try simp only [aV]))
   exact ⟨x, rfl, rfl, this.1, by lia, by lia, hnx _⟩
  ·intro z a
   rw [dm]
   have e1 : j5 (es.map fun x => D.str (cf x)) = some (cB es) := by
    have := jr (es.map cf)
    rw [List.map_map] at this
    rw [qz]
    exact this
   ((try dsimp only [ay, al, ci, av]); (try simp only [e1, am, aV]))
   have e3 : ((" " : String) : Str).length = 1 := rfl
   have e4 : (("(" : String) : Str).length = 1 := rfl
   have e5 : ((")" : String) : Str).length = 1 := rfl
   refine ⟨joinOk_of ?_, aE (by lia), aE (by rw [Str.length_append, e4, e5]; lia), ?_⟩
   ·rw [e3]
    lia
   ·exact bA (rest := _) (fl := .ret _) hk trivial rfl (List.nil_sublist _) rfl
 | bool _ => simp [jl] at hok
 | ref _ => simp [jl] at hok
noncomputable def dw (v t : Nat) (op : Str) : Str := Str.empty ++ "name " ++ c0 (v : Nat) ++ " " ++ c0 (t : Nat) ++ " ; " ++ op
noncomputable def bt (n : Nat) (r : cT) : Str := Str.empty ++ "step " ++ c0 (n : Nat) ++ " " ++ r.rule ++ " | " ++ dH r.cl ++ " | " ++ dH r.pr ++ " | " ++ cf r.note
noncomputable def cx : Nat → List Nat → List Str
 | _, [] => []
 | v, t :: r => dw v t "app" :: cx (v + 1) r
noncomputable def bJ : Nat → List cT → List Str
 | _, [] => []
 | n, r :: rs => bt n r :: bJ (n + 1) rs
noncomputable def cN (ts : List Nat) (rows : List cT) : List Str := cx 1 ts ++ bJ 0 rows
noncomputable def eU (ts : List Nat) (rows : List cT) : Str := Txt.join "\n" (cN ts rows)
theorem oW : ∀ (v : Nat) (ts : List Nat) (t : Nat), cx v (ts ++ [t]) = cx v ts ++ [dw (v + ts.length) t "app"]
 | v, [], t => rfl
 | v, a :: ts, t => by
  rw [az, cx, cx, oW (v + 1) ts t, aB, show v + 1 + ts.length = v + (ts.length + 1) by lia]; rfl
theorem oX : ∀ (v : Nat) (ts : List cT) (t : cT), bJ v (ts ++ [t]) = bJ v ts ++ [bt (v + ts.length) t]
 | v, [], t => rfl
 | v, a :: ts, t => by
  rw [az, bJ, bJ, oX (v + 1) ts t, aB, show v + 1 + ts.length = v + (ts.length + 1) by lia]; rfl
theorem cE : ∀ (v : Nat) (ts : List Nat), (cx v ts).length = ts.length
 | _, [] => rfl
 | v, a :: ts => by rw [cx, aB, cE (v + 1) ts]; rfl
theorem c5 : ∀ (v : Nat) (ts : List cT), (bJ v ts).length = ts.length
 | _, [] => rfl
 | v, a :: ts => by rw [bJ, aB, c5 (v + 1) ts]; rfl
theorem d5 : (Str.empty : Str).length = 0 := rfl
theorem iI : (("name " : String) : Str).length = 5 := rfl
theorem ig : (("step " : String) : Str).length = 5 := rfl
theorem iu : ((" " : String) : Str).length = 1 := rfl
theorem jj : ((" ; " : String) : Str).length = 3 := rfl
theorem kw : ((" | " : String) : Str).length = 3 := rfl
theorem lJ : (("app" : String) : Str).length = 3 := rfl
theorem wm : (("\n" : String) : Str).length = 1 := rfl
theorem zh {w : Str} (h : w ∈ ir) : w.length ≤ 20 := by
 have h2 := List.all_eq_true.mp pv w (List.mem_append_left _ h)
 simpa using h2
theorem gf.texts {n : Nat} {r : cT} (h : gf n r) (hn : n ≤ 20) : r.rule.length ≤ 20 ∧ (dH r.cl).length ≤ 21 ∧ (dH r.pr).length ≤ 21 ∧ (cf r.note).length ≤ 480 := by
 have h1 := sv r.cl fun x hx => by have := h.cl.2 x hx; exact nA
 have h2 := sv r.pr fun x hx => by have := h.pr x hx; lia
 have h3 := h.cl.len
 have h4 := h.len
 have h5 := qy h.note
 have h6 := h.cost
 exact ⟨zh h.rule, by lia, by lia, by lia⟩
theorem nf {v t : Nat} (hv : v ≤ 20) (ht : t ≤ 20) : (dw v t "app").length ≤ 600 := by
 have h1 := cM (i := (v : Nat)) ooK
 have h2 := cM (i := (t : Nat)) ooK
 simp only [dw, Str.length_append, d5, iI, iu, jj, lJ]
 lia
theorem gX {n : Nat} {r : cT} (h : gf n r) (hn : n ≤ 20) : (bt n r).length ≤ 600 := by
 have h1 := cM (i := (n : Nat)) ooK
 have q_a1 := h.texts hn
 simp only [bt, Str.length_append, d5, ig, iu, kw]
 lia
theorem z8 {l : List Str} {m : Nat} (h : ∀ x ∈ l, x.length ≤ m) : (l.map (·.length)).sum ≤ m * l.length := by
 induction l with
 | nil => simp
 | cons a l ih =>
  have h1 := h a c8
  have h2 := ih fun x hx => h x (dP _ hx)
  simp only [bk, List.sum_cons, aB, Nat.mul_add, Nat.mul_one]
  lia
theorem lK : ∀ (ts : List Nat) (v : Nat) (x : Str), x ∈ cx v ts → ∃ i t, ts[i]? = some t ∧ x = dw (v + i) t "app"
 | a :: ts, v, x, h => by
  rw [cx] at h
  rcases HL h with rfl | h
  ·exact ⟨0, a, rfl, rfl⟩
  ·obtain ⟨i, t, h1, h2⟩ := lK ts (v + 1) x h
   exact ⟨i + 1, t, by simpa using h1, by rw [h2, show v + 1 + i = v + (i + 1) by lia]⟩
theorem ii : ∀ (ts : List cT) (v : Nat) (x : Str), x ∈ bJ v ts → ∃ i t, ts[i]? = some t ∧ x = bt (v + i) t
 | a :: ts, v, x, h => by
  rw [bJ] at h
  rcases HL h with rfl | h
  ·exact ⟨0, a, rfl, rfl⟩
  ·obtain ⟨i, t, h1, h2⟩ := ii ts (v + 1) x h
   exact ⟨i + 1, t, by simpa using h1, by rw [h2, show v + 1 + i = v + (i + 1) by lia]⟩
structure iJ (ts : List Nat) : Prop where
 len : ts.length ≤ 10
 le : ∀ t ∈ ts, t ≤ 20
theorem th {ts : List Nat} {rows : List cT} (hn : iJ ts) (h : cw rows) : (∀ x ∈ cN ts rows, x.length ≤ 600) ∧ (cN ts rows).length ≤ 23 := by
 constructor
 ·intro x hx
  rcases List.mem_append.mp hx with q | q
  ·obtain ⟨i, t, h1, rfl⟩ := lK ts 1 x q
   have := hn.len
   have := (List.getElem?_eq_some_iff.mp h1).1
   exact nf (by lia) (hn.le t (HM h1))
  ·obtain ⟨i, r, h1, rfl⟩ := ii rows 0 x q
   have := h.1
   have := (List.getElem?_eq_some_iff.mp h1).1
   rw [Nat.zero_add]
   exact gX (h.2 i r h1) (by lia)
 ·simp only [cN, eX, cE, c5]
  have := hn.len
  have := h.1
  lia
noncomputable def NL (ts : List Nat) : List D := .int 0 :: ts.map fun (t : Nat) => .int t
inductive f7 : List D → List (Addr × O) → cu → Prop
 | mk {ds : List D} {sub : List (Addr × O)} {k : cu} (b bdx : Addr) (fs : List (Str × D)) (o : Addr) (ops : List D) (a dx s nm : Addr) (e : Int) (rows : List cT) (ts : List Nat) (h0 : ds = [.ref b, .ref a]) (h1 : sub = [(b, .inst 493 bdx fs), (o, .list ops)] ++ PR a dx s nm e rows (NL ts)) (h2 : fs[6]? = some (("term_ops" : Str), D.ref o)) (h3 : (fs.map (·.1)).contains ("op" : Str) = false) (h4 : ops.length ≤ 1000) (h5 : (∀ t ∈ ts, ops[t]? = some (.str "app"))) (h6 : iJ ts) (h7 : cw rows) (h8 : k (.str (eU ts rows)) [.inst 493 bdx fs, .list ops, PO dx s nm e, .list (RL rows), .list (NL ts)] []) : f7 ds sub k
theorem sI : fC (lw n5 eH f5 dl (gW 20) qA) 10 f7 := by
 rintro ds sub k ⟨b, bdx, fs, o, ops, a, dx, s, nm, e, rows, ts, rfl, rfl, hF, hop, hol, hops, hn, hok, hk⟩
 have h13 := hok.1
 have h10 := hn.len
 ((try dsimp only [aB, aM, cS, cR, PR, PO, az, ay, lw, s8, af, ba, bg, ad, aL, MS.set]); (try simp only [bk, bF, az, ay, aY, aK]))
 (refine ⟨Nat.zero_le _, ?_⟩; (repeat (left; (try dsimp only [af, dq, bE, aa, ao, bC, bB, ac, au, al, bN, MS.trunc, ad, mq, aq, cO, aG, am, aH, aF]); (try simp only [bk, bF, aV]))); refine fun w => ?_; (repeat (left; (try dsimp only [af, dq, bE, aa, ao, bC, bB, ac, au, al, bN, MS.trunc, ad, mq, aq, cO, aG, am, aH, aF]); (try simp only [bk, bF, aV]))); refine ⟨rfl, ?_⟩; (repeat (left; (try dsimp only [af, dq, bE, aa, ao, bC, bB, ac, au, al, bN, MS.trunc, ad, mq, aq, cO, aG, am, aH, aF]); (try simp only [bk, bF, aV]))); refine ⟨a, dx, s, nm, e, rows, NL ts, rfl, rfl, by simp [NL]; exact nA, ?_⟩)
 have eNL : ((NL ts).length : Int) - 1 + 1 = ((ts.length + 1 : Nat) : Int) := by simp [NL]
 ((try dsimp only [PO, aZ, au, al, aY, aK, az, ay, aB, aM, cz]); (try simp only [eNL]))
 refine ⟨⟨ooR, by decide⟩, ⟨ooR, by lia⟩, ?_⟩
 refine bS (fun l σ => EZ fun (t1 t2 : List Nat) (v3 v4 : Option D) => Gm (ts = t1 ++ t2) (l = db ((t1.length + 1 : Nat) : Int) 1 t2.length) (σ = ⟨[some (.ref b), some (.ref a), some (.ref w), v3, v4, none, none, none, none, none], [(b, .inst 493 bdx fs), (o, .list ops)] ++ (PR a dx s nm e rows (NL ts) ++ [(w, .list ((cx 1 t1).map .str))])⟩)) ?_ ?_ _ _ ⟨[], ts, none, none, rfl, ?_, rfl⟩
 ·rintro σ ⟨t1, t2, v3, v4, e1, e2, rfl⟩
  have : t2 = [] := by
   cases t2 with
   | nil => rfl
   | cons _ _ => rw [aB, bu] at e2; cases e2
  subst this
  rw [List.append_nil] at e1
  subst e1
  ((try (left)); (try dsimp only [PR, PO, az, ay, af, dq, bE, aa, bB, ac, au, al, bN, MS.trunc, ad, gZ, aG, am, aH, aF]); (try simp only [bk, bF, aV]))
  refine ⟨rfl, a, dx, s, nm, e, rows, NL ts, rfl, rfl, nA, ?_⟩
  (try dsimp only [PO, aq, aZ, au, al, aY, aK, az, ay, aB, aM])
  refine ⟨⟨ooR, ooS⟩, ?_⟩
  refine bS (fun l σ => Ht fun (r1 r2 : List cT) (v5 v6 v7 v8 v9 : Option D) => Gm (rows = r1 ++ r2) (l = db ((r1.length : Nat) : Int) 1 r2.length) (σ = ⟨[some (.ref b), some (.ref a), some (.ref w), v3, v4, v5, v6, v7, v8, v9], [(b, .inst 493 bdx fs), (o, .list ops)] ++ (PR a dx s nm e rows (NL ts) ++ [(w, .list ((cx 1 ts ++ bJ 0 r1).map .str))])⟩)) ?_ ?_ _ _ ⟨[], rows, none, none, none, none, none, rfl, ?_, by simp [PR, PO, bJ]⟩
  ·rintro σ ⟨r1, r2, v5, v6, v7, v8, v9, e1, e2, rfl⟩
   have : r2 = [] := by
    cases r2 with
    | nil => rfl
    | cons _ _ => rw [aB, bu] at e2; cases e2
   subst this
   rw [List.append_nil] at e1
   subst e1
   ((try (left)); (try dsimp only [PR, PO, az, ay, af, bp, bq, bh, aW, mx, aa, ac, au, al, ad, fV, be, av]); (try simp only [jr, am, aV]))
   obtain ⟨g1, g2⟩ := th hn hok
   refine ⟨joinOk_of ?_, ?_⟩
   ·have := z8 g1
    rw [wm]
    show ((cN ts rows).map (·.length)).sum + (cN ts rows).length * 1 ≤ _
    lia
   ·exact bA (rest := _) (fl := .ret _) hk ⟨rfl, rfl, rfl, rfl, rfl, trivial⟩ rfl (List.nil_sublist _) rfl
  ·rintro d l σ ⟨r1, r2, v5, v6, v7, v8, v9, e1, e2, rfl⟩ ih
   cases r2 with
   | nil => cases e2
   | cons r r2 =>
    rw [aB, bu] at e2
    cases e2
    have hr : rows[r1.length]? = some r := by rw [e1]; simp
    have hl1 : r1.length < 13 := by rw [e1] at h13; simp at h13; lia
    have hro := hok.2 _ r hr
    have q_a1 := hro.texts (by lia)
    have a0 : (Str.ofString (toString ((r1.length : Nat) : Int))).length ≤ 3 := cM (by lia)
    have l1 := hro.cl.len
    have l2 := hro.len
    ((try dsimp only [PR, PO, az, ay] at ih); (try dsimp only [PR, PO, az, ay, bj, af, ba, aX, bU, ac, gF, aB, aM, cy, aG, aL, MS.set, aY, aK, au, al, aq, aH, am, av, aF]); (try simp only [bO _ r1.length (by lia), fE hr, am, aB, aM, MS.setAll, MS.set, aY, aK, aV]); (repeat (left; (try dsimp only [af, br, bD, ac, au, al, bl, aa, hJ, bh, ad, fV, tI, a9, bN, CR, be, aZ, am, az, ay, aY, aK, av, eG, cz]); (try simp only [aV]))))
    (repeat (refine And.intro (by first | exact aE (by simp only [Str.length_append, d5, iI, ig, iu, jj, kw, lJ]; first | decide | lia) | exact aE (by lia) | exact gD (by lia)) ?_))
    refine ⟨r.cl, rfl, rfl, nA, fun x hx => by have := hro.cl.2 x hx; exact nA, ?_⟩
    (try dsimp only [eG, ay])
    (repeat (refine And.intro (by first | exact aE (by simp only [Str.length_append, d5, iI, ig, iu, jj, kw, lJ]; lia) | exact aE (by lia) | exact gD (by lia)) ?_))
    refine ⟨r.pr, rfl, rfl, nA, fun x hx => by have := hro.pr x hx; lia, ?_⟩
    (try dsimp only [eG, ay])
    (repeat (refine And.intro (by first | exact aE (by simp only [Str.length_append, d5, iI, ig, iu, jj, kw, lJ]; lia) | exact aE (by lia) | exact gD (by lia)) ?_))
    refine ⟨r.note, rfl, rfl, hro.note, hro.cost, by have := hro.cost; exact nA, ?_⟩
    (try dsimp only [eG])
    (repeat (refine And.intro (by first | exact aE (by simp only [Str.length_append, d5, iI, ig, iu, jj, kw, lJ]; lia) | exact aE (by lia) | exact gD (by lia)) ?_))
    have hln : (cx 1 ts).length = ts.length := cE _ _
    have hls : (bJ 0 r1).length = r1.length := c5 _ _
    refine ⟨by simp only [dI, eX]; lia, ?_⟩
    (repeat (left; (try dsimp only [aw, bb, ci, bV]); (try simp only [aV]))); refine ih _ ⟨r1 ++ [r], r2, some (.int r1.length), some (.str r.rule), some (.tup (DL r.cl)), some (.tup (DL r.pr)), some r.note, by rw [e1]; simp, by simp, ?_⟩
    rw [oX]
    simp [bt, c0]
  ·rw [show ((rows.length : Int)).toNat = rows.length by lia]; rfl
 ·rintro d l σ ⟨t1, t2, v3, v4, e1, e2, rfl⟩ ih
  cases t2 with
  | nil => cases e2
  | cons t t2 =>
   rw [aB, bu] at e2
   cases e2
   have hl1 : t1.length < 10 := by rw [e1] at h10; simp at h10; lia
   have ht : t ≤ 20 := hn.le t (by rw [e1]; simp)
   have hx : (NL ts)[t1.length + 1]? = some (.int (t : Nat)) := by rw [e1]; simp [NL]
   ((try dsimp only [PR, PO, az, ay] at ih); (try dsimp only [PR, PO, az, ay, bj, af, ba, bB, ac, bN, aL, MS.set, aa, ad, aG, aY, aK, au, al, am, aH, aF]); (try simp only [bk, bF, aV]))
   refine ⟨rfl, a, dx, s, nm, e, rows, NL ts, t1.length + 1, .int (t : Nat), rfl, rfl, by simp [NL]; exact nA, by lia, hx, ?_⟩
   ((try (left)); (try dsimp only [PO, aZ, au, al, aY, aK, az, ay, af, br, bD, ac, bl, aa, hJ, bh, ad, fV, tI, bB, bN, CR, be, aG, am, aH, aF, cz, av]); (try simp only [aV]))
   have a0 : (Str.ofString (toString ((t1.length + 1 : Nat) : Int))).length ≤ 3 := cM nA
   have a1 : (Str.ofString (toString ((t : Nat) : Int))).length ≤ 3 := cM ooK
   (repeat (refine And.intro (by first | exact aE (by simp only [Str.length_append, d5, iI, ig, iu, jj, kw, lJ]; first | decide | lia) | exact aE (by lia) | exact gD (by lia)) ?_))
   refine ⟨hop, b, bdx, fs, o, ops, t, .str "app", rfl, rfl, hF, hol, hops t (by rw [e1]; simp), ?_⟩
   ((try dsimp only [eG, aZ, al, aK, au, aY, az, ay, av]); (try simp only [aV]))
   (repeat (refine And.intro (by first | exact aE (by simp only [Str.length_append, d5, iI, ig, iu, jj, kw, lJ]; first | decide | lia) | exact aE (by lia) | exact gD (by lia)) ?_))
   have hln : (cx 1 t1).length = t1.length := cE _ _
   refine ⟨by simp only [dI]; lia, ?_⟩
   (repeat (left; (try dsimp only [aw, bb, ci, bV]); (try simp only [aV]))); refine ih _ ⟨t1 ++ [t], t2, some (.int (t1.length + 1 : Nat)), some (.int (t : Nat)), by rw [e1]; simp, by simp, ?_⟩
   rw [oW]
   simp [dw, c0, Nat.add_comm]
 ·simp
noncomputable def qB (x : Str) : Str := if Txt.startswith x "-" = true then Txt.slice x (some 1) none else x
noncomputable def lL (c : Nat) : Bool := true != !(Builtin.Str.occurrences pR ⟨#[c]⟩ 0 pR.length 1).isEmpty
noncomputable def rJ (x : Str) : Bool := decide ((0 : Int) < (qB x).length) && ((((qB x).cps.toList.filter lL).length : Int) == 0)
theorem DI : (fz.all fun i => rJ (c0 i)) = true := by decide +kernel
theorem BZ : (jW.all fun x => !rJ x) = true := by decide +kernel
theorem DJ : (fz.all fun i => PySem.intText? (c0 i) == some i) = true := by decide +kernel
theorem DK : (fz.all fun i => PyData.strOk (c0 i)) = true := by decide +kernel
theorem B0 : (fz.all fun i => !(c0 i == ("-" : Str))) = true := by decide +kernel
theorem kX {i : Int} (h : i.natAbs ≤ 20) : rJ (c0 i) = true := List.all_eq_true.mp DI i (f6 h)
theorem DM {x : Str} (h : x ∈ jW) : rJ x = false := by simpa using List.all_eq_true.mp BZ x h
theorem jm {i : Int} (h : i.natAbs ≤ 20) : PySem.intText? (c0 i) = some i := by simpa using List.all_eq_true.mp DJ i (f6 h)
theorem DN {i : Int} (h : i.natAbs ≤ 20) : PyData.strOk (c0 i) = true := by simpa using List.all_eq_true.mp DK i (f6 h)
theorem wn {i : Int} (h : i.natAbs ≤ 20) : (c0 i == ("-" : Str)) = false := by simpa using List.all_eq_true.mp B0 i (f6 h)
inductive bQ : List D → List (Addr × O) → cu → Prop
 | mk {ds : List D} {sub : List (Addr × O)} {k : cu} (x : Str) (h0 : ds = [.str x]) (h1 : sub = []) (h2 : x.length ≤ 1000) (h3 : k (.bool (rJ x)) [] []) : bQ ds sub k
theorem oi : fC iy 2 bQ := by
 rintro ds sub k ⟨x, rfl, rfl, hl, hk⟩
 have key : ∀ f : Str, f = qB x → f.length ≤ 1000 → (aj (bp (u7 (eh (oI fun a b => decide (b < a)) (bK (bv (fun _ => 0)) (aa (ac 1) ad)) (ao 0)) (eh fy (bK (bv (fun _ => 0)) (aa (bM 1 (rZ (ac 1)) (aL 2) (aA (yb true) (ac 2) (dt (.str pR))) (ac 2)) ad)) (ao 0)))) aw)
   ⟨[some (.str x), some (.str f)], []⟩ (Ei [] k) := by
  intro f hf hfl
  (try dsimp only [fy, af, bp, u7, eh, bK, aa, ac, au, al, aW, bM, rZ, MS.trunc, MS.more, cS, cR, cP, ao, aq, bv, cz, ad, b6, c9, dE, oI, aM, bV, az, ay, aB, be, List.getElem?_nil, eG])
  (refine ⟨nB, ?_⟩)
  unfold rJ at hk
  rw [← hf] at hk
  cases hq : decide ((0 : Int) < f.length)
  ·(try dsimp only [])
   rw [hq, Bool.false_and] at hk
   exact bA (rest := _) (fl := .ret _) hk trivial rfl (List.nil_sublist _) rfl
  ·(try dsimp only [])
   rw [hq, Bool.true_and] at hk
   have es : rc f = f.cps.toList.map fun c => .str ⟨#[c]⟩ := rfl
   rw [es]
   (refine ⟨aE (by simp [Str.length] at hfl ⊢; exact nA), ?_⟩)
   refine ic (l := f.cps.toList) (q := fun c => D.str ⟨#[c]⟩) (fun c => if lL c = true then some (.str ⟨#[c]⟩) else none) (fun (z : Option D) => ⟨[some (.str x), some (.str f), z], []⟩) ?_ ?_ none
   ·intro c hc z rr acc hnx
    (try dsimp only [bz, aA, ac, yb, dt, eG, aL, MS.set, aY, aK, au, al])
    cases hn : lL c
    ·((try dsimp only [Option.toList] at hnx); (try simp only [hn, Bool.false_eq_true, if_false, List.append_nil] at hnx))
     unfold lL at hn
     (try simp only [hn, jh, aV])
     exact hnx _
    ·((try dsimp only [Option.toList] at hnx); (try simp only [hn, if_true] at hnx))
     unfold lL at hn
     (try simp only [hn, dF, ac, au, al, aV])
     exact hnx _
   ·intro z a
    have e2 : (f.cps.toList.filterMap (fun c => if lL c = true then some (D.str ⟨#[c]⟩) else none)).length = (f.cps.toList.filter lL).length := by
     rw [← List.countP_eq_length_filter, List.length_filterMap_eq_countP]
     congr 1
     funext c
     by_cases h : lL c = true <;> simp [h]
    have e3 : (f.cps.toList.filter lL).length ≤ 1000 := Nat.le_trans (List.length_filter_le _ _) (by simp [Str.length] at hfl ⊢; exact ooK)
    ((try dsimp only [ay, al, ci, bV, cj]); (try simp only [e2, aV]))
    (refine ⟨nB, ?_⟩)
    exact bA (rest := _) (fl := .ret _) hk trivial rfl (List.nil_sublist _) rfl
 simp only [iy]
 have key1 := key (qB x) rfl
 unfold qB at key1
 cases hs : Txt.startswith x "-"
 ·have h1 : qB x = x := by unfold qB; rw [hs]; rfl
  have := key x h1.symm hl
  ((try dsimp only [fy, af, bp, u7, eh, bK, aa, ac, au, al, aW, bM, rZ, MS.trunc, MS.more, cS, cR, cP, ao, aq, bv, cz, ad, b6, c9, dE, oI, aM, bV, az, ay, aB, be, List.getElem?_nil, eG] at this); (try dsimp only [fy, aB, aM, cS, cR, af, ba, aL, MS.set, oV, gw, bq, ac, s6, dE, aa, bh, ad, fV, be]); (try simp only [bk, bF, az, ay, al, be, hs, rC, ac, aY, aK]); (repeat (left; (try dsimp only [af, bp, u7, eh, bK, aa, ac, au, al, aW, bM, rZ, MS.trunc, MS.more, cS, cR, cP, ao, aq, bv, cz, ad, b6, c9, dE, oI, aM, bV, az, ay, aB, be, List.getElem?_nil, eG]))))
  exact this
 ·have h1 : qB x = Txt.slice x (some 1) none := by unfold qB; rw [hs]; rfl
  have h2 : (Txt.slice x (some 1) none).length ≤ 1000 := by
   exact Nat.le_trans (Txt.slice_le _ _ _) hl
  have := key _ h1.symm h2
  ((try dsimp only [fy, af, bp, u7, eh, bK, aa, ac, au, al, aW, bM, rZ, MS.trunc, MS.more, cS, cR, cP, ao, aq, bv, cz, ad, b6, c9, dE, oI, aM, bV, az, ay, aB, be, List.getElem?_nil, eG] at this); (try dsimp only [fy, aB, aM, cS, cR, af, ba, aL, MS.set, oV, gw, bq, ac, s6, dE, aa, bh, ad, fV, be]); (try simp only [bk, bF, az, ay, al, be, hs, mZ, zE, ac, ao, aY, aK, aq]))
  (refine ⟨aE nA, ?_⟩; (repeat (left; (try dsimp only [af, bp, u7, eh, bK, aa, ac, au, al, aW, bM, rZ, MS.trunc, MS.more, cS, cR, cP, ao, aq, bv, cz, ad, b6, c9, dE, oI, aM, bV, az, ay, aB, be, List.getElem?_nil, eG]))); refine this)
noncomputable def ij (ns : List Int) : List Str := if ns.length = 0 then ["-"] else ns.map c0
theorem DO : ∀ {ns : List Int}, (∀ i ∈ ns, i.natAbs ≤ 20) → eZ (ns.map fun i => D.str (c0 i)) = true ∧ PyData.canLayAll0 (bZ (ns.map fun i => D.str (c0 i))) = true ∧ PyData.depthAll (bZ (ns.map fun i => D.str (c0 i))) ≤ 1
 | [], _ => ⟨rfl, rfl, Nat.zero_le _⟩
 | i :: ns, h => by
  have q_a := DO (ns := ns) fun x hx => h x (dP _ hx)
  have h1 := DN (h i c8)
  rw [bk]
  simp only [eZ, D.pure, bZ, D.py, PyData.canLayAll0, PyData.canLay0, PyData.depthAll, PyData.depth, q_a.1, q_a.2.1, h1]
  exact ⟨rfl, rfl, by lia⟩
theorem F6 {ns : List Int} (h : ∀ i ∈ ns, i.natAbs ≤ 20) (h0 : ns.length ≠ 0) : PyData.eqvAll (bZ (ns.map fun i => D.str (c0 i))) (bZ [D.str "-"]) = false := by
 cases ns with
 | nil => exact absurd rfl h0
 | cons i ns =>
  have := wn (h i c8)
  show (PyData.eqv (.str (c0 i)) (.str "-") && _) = false
  simp only [PyData.eqv, this, Bool.false_and]
theorem uy : PyData.canLayAll0 (bZ [D.str "-"]) = true := by
 simp only [bZ, D.py, PyData.canLayAll0, PyData.canLay0, Bool.and_true]
 decide +kernel
inductive ik : List D → List (Addr × O) → cu → Prop
 | mk {ds : List D} {sub : List (Addr × O)} {k : cu} (x : Str) (w : Int) (ns : List Int) (h0 : ds = [.str x, .int w]) (h1 : sub = []) (h2 : x.length ≤ 1000) (h3 : Txt.words x = ij ns) (h4 : ns.length ≤ 20) (h5 : (∀ i ∈ ns, i.natAbs ≤ 20)) (h6 : k (.tup (DL ns)) [] []) : ik ds sub k
theorem sJ : fC (ly bQ) 4 ik := by
 rintro ds sub k ⟨x, w, ns, rfl, rfl, hl, hw, hnl, hb, hk⟩
 have hws := eJ (x := x) nA
 ((try dsimp only [aB, aM, cS, cR, ly, af, ba, bq, ac, aL, MS.set, bP, ad, gZ, be, ay]); (try simp only [bk, bF, az, ay, al, aY, aK, be]))
 refine ⟨hws.1, hws.2, fun a => ?_⟩
 rw [hw]
 ((try (left)); (try dsimp only [af, bw, aA, ac, au, al, lg, bg, aa, bh, ad, aB, aM, aF, az, ay, cj]); (try simp only [and_true, aV]))
 (refine ⟨aE (by decide), ?_⟩; refine fun b => ?_)
 by_cases h0 : ns.length = 0
 ·have e0 : ij ns = [(("-" : String) : Str)] := by unfold ij; rw [if_pos h0]
  have en : ns = [] := List.length_eq_zero_iff.mp h0
  rw [e0]
  (try simp only [bk, bF])
  refine ⟨⟨rfl, rfl⟩, ⟨uy, uy⟩, by decide, ?_⟩
  subst en
  (try simp only [show PyData.eqvAll (bZ [D.str "-"]) (bZ [D.str "-"]) = true from rfl, Bool.bne_true, Bool.not_false, cQ, af, bp, cD, ad, aM, aW])
  (refine ⟨Nat.zero_le _, ?_⟩)
  exact bA (rest := _) (fl := .ret _) hk trivial rfl (List.nil_sublist _) rfl
 ·have e0 : ij ns = ns.map c0 := by unfold ij; rw [if_neg h0]
  rw [e0, List.map_map]
  have q_w1 := DO hb
  refine ⟨⟨q_w1.1, rfl⟩, ⟨q_w1.2.1, uy⟩, Nat.le_trans q_w1.2.2 (by decide), ?_⟩
  have w4 := F6 hb h0
  rw [show List.map (D.str ∘ c0) ns = ns.map fun i => D.str (c0 i) from rfl, w4]
  ((try simp only [Bool.false_bne, b0, aw]); (repeat (left; (try dsimp only [af, dq, bR, ac, au, al, MS.trunc, aB, aM, av]); (try simp only [aV]))))
  refine bS (fun l σ => Fc fun (n1 n2 : List Int) (v : Option D) => Gm (ns = n1 ++ n2) (l = n2.map (fun i => D.str (c0 i))) (σ = ⟨[some (.str x), some (.int w), some (.ref a), v], [(a, .list (ns.map fun i => D.str (c0 i))), (b, .list [.str "-"])]⟩)) ?_ ?_ _ _ ⟨[], ns, none, rfl, rfl, rfl⟩
  ·rintro σ ⟨n1, n2, v, e1, e2, rfl⟩
   ((try (left)); (try dsimp only [af, bp, bK, aa, bM, bR, ac, au, al, MS.trunc, MS.more, cS, cR, aW, c6, ad, b6, c9, aB, aM, az, ay, av]); (try simp only [aV]))
   (refine ⟨aE (by simp; exact nA), ?_⟩)
   refine ic (l := ns) (q := fun i => D.str (c0 i)) (fun i => some (.int i)) (fun (z : Option D) => ⟨[some (.str x), some (.int w), some (.ref a), v, z], [(a, .list (ns.map fun i => D.str (c0 i))), (b, .list [.str "-"])]⟩) ?_ ?_ none
   ·intro i hi z rr acc hnx
    have h3 := cM (hb i hi)
    ((try dsimp only [Option.toList] at hnx); (try dsimp only [bz, cH, dF, bK, aa, ac, mh, ad, b6, aL, MS.set, aY, aK, au, al, ci, bV, eG]); (try simp only [jm (hb i hi), aV, am]))
    exact ⟨nA, hnx _⟩
   ·intro z c
    rw [dm]
    ((try dsimp only [az, ay, au, al, ci, bV, cj]); (try simp only [aV]))
    (refine ⟨aE (by simp; exact nA), ?_⟩)
    exact bA (rest := _) (fl := .ret _) hk trivial rfl (List.nil_sublist _) rfl
  ·rintro d l σ ⟨n1, n2, v, e1, e2, rfl⟩ ih
   cases n2 with
   | nil => cases e2
   | cons i n2 =>
    cases e2
    have hi : i ∈ ns := by rw [e1]; simp
    have h3 := cM (hb i hi)
    (try dsimp only [bj, af, bw, i0, gw, a9, aa, ac, bN, aZ, am, ad, aL, MS.set, aY, aK, au, al, az, ay])
    refine ⟨c0 i, rfl, rfl, nA, ?_⟩
    ((try dsimp only [dE]); (try simp only [kX (hb i hi), Bool.not_true, b0, aw]); (repeat (left; (try dsimp only [aw, bb, al, ci, bV]); (try simp only [aV]))))
    exact ih _ ⟨n1 ++ [i], n2, _, by rw [e1]; simp, rfl, rfl⟩
noncomputable def NB : SC := (aj (fu (aA fy (ac 3) (bh "(")) (aj (br (bD (fun _ => 1) (bl (fun _ => 1)) (ac 2) (aa (bg ad) ad))) aw) (aj (fu (aA fy (ac 3) (bh ")")) (aj (fu (aA (oI fun a b => decide (a < b)) (bK (bv (fun _ => 1)) (aa (ac 2) ad)) (ao 2)) (aj eS aw) aw) (aj (ba (bK (Gh c6) (aa (bD (fun _ => 1) (En (fun _ => 1)) (ac 2) ad) ad)) (aL 4)) (aj (br (jf bl (aX (fun _ => 1) (ac 2) (fJ (ao 1))) (aa (ac 4) ad))) aw))) (aj (fu (aA fy (ac 3) (bh "-")) (aj (br (jf bl (aX (fun _ => 1) (ac 2) (fJ (ao 1))) (aa g6 ad))) aw) (aj (br (jf bl (aX (fun _ => 1) (ac 2) (fJ (ao 1))) (aa (Be (gw (a9 bQ [] (aa (ac 3) ad))) (bK mh (aa (ac 3) ad)) (ac 3)) ad))) aw)) aw)) aw)) aw)
theorem B5 {α : Type} (l : List α) (x : α) (h : l.length < 2 ^ 20) : iq (l ++ [x]) (-1) = some x := by
 unfold iq
 rw [if_neg (by decide), if_pos ⟨by decide, by simp only [eX, aB, aM]; lia⟩]
 have : (-1 + ((l ++ [x]).length : Int)).toNat = l.length := by
  simp only [eX, aB, aM]; lia
 rw [this]; simp
noncomputable abbrev wo := Nat × Addr × List D
structure NI (text w : D) (s sp : Addr) (tk : List D) (σ : MS) (fs : List wo) (N : Nat) : Prop where
 vars : ∃ v3 v4, σ.vars = [some text, some w, some (.ref s), v3, v4]
 s1 : σ.st[1]? = some (s, .list (fs.map fun f => .ref f.2.1))
 s2 : σ.st[2]? = some (sp, .list tk)
 fr : ∀ f ∈ fs, σ.st[f.1]? = some (f.2.1, .list f.2.2) ∧ f.1 ≠ 1 ∧ f.1 ≠ 2
 nd : (fs.map (·.1)).Nodup
 n : fs.length ≤ N ∧ ∀ f ∈ fs, f.2.2.length ≤ N
theorem NI.app {text w : D} {s sp : Addr} {tk : List D} {vs : List (Option D)} {st : List (Addr × O)} {fs : List wo} {i : Nat} {a : Addr} {ds : List D} {N : Nat} (h : NI text w s sp tk ⟨vs, st⟩ (fs ++ [(i, a, ds)]) N) (hN : N ≤ 1000)
  {f : EC} {d : D} {k : D → MS → Prop} (hf : ∀ k' : D → MS → Prop, k' d ⟨vs, st⟩ → f ⟨vs, st⟩ k') (hk : ∀ st', NI text w s sp tk ⟨vs, st'⟩ (fs ++ [(i, a, ds ++ [d])]) (N + 1) → k .none ⟨vs, st'⟩) :
  jf bl (aX (fun _ => 1) (ac 2) (fJ (ao 1))) (aa f ad) ⟨vs, st⟩ k := by
 obtain ⟨⟨v3, v4, hv⟩, s1, s2, fr, nd, n1, n2⟩ := h
 simp only at hv s1 s2 fr
 subst hv
 rw [List.map_append, bk, bF] at s1
 have hfl : (fs.map fun f => D.ref f.2.1).length < 2 ^ 20 := by
  rw [dI]
  simp only [eX, aB, aM] at n1
  exact nJ
 obtain ⟨f1, f2, f3⟩ := fr (i, a, ds) (by simp)
 simp only at f1 f2 f3
 ((try dsimp only [jf, aX, ac, au, al, bl, aa, ad, fV, fJ, ao, aq]); (try simp only [s1, av, B5 _ _ hfl, am, aV]))
 refine ⟨i, a, ds, rfl, f1, ?_⟩
 refine hf _ ?_
 have hdl : ds.length ≤ N := n2 (i, a, ds) (by simp)
 refine ⟨i, ?_⟩
 simp only [bl, fV, f1, av]
 refine ⟨trivial, nL, hk _ ⟨⟨v3, v4, rfl⟩, ?_, ?_, ?_, ?_, ?_, ?_⟩⟩
 ·rw [List.getElem?_set_ne f2, s1, List.map_append]; rfl
 ·rw [List.getElem?_set_ne f3, s2]
 ·intro g hg
  rcases List.mem_append.mp hg with q | q
  ·obtain ⟨g1, g2, g3⟩ := fr g (List.mem_append_left _ q)
   refine ⟨?_, g2, g3⟩
   have hne : i ≠ g.1 := by
    rw [List.map_append, bk, bF] at nd
    intro e
    exact (List.nodup_append.mp nd).2.2 g.1 (List.mem_map.mpr ⟨g, q, rfl⟩) i (by simp) e.symm
   show (st.set i _)[g.1]? = _
   rw [List.getElem?_set_ne hne]
   exact g1
  ·obtain rfl := List.mem_singleton.mp q
   refine ⟨?_, f2, f3⟩
   show (st.set i _)[i]? = _
   have hi := (List.getElem?_eq_some_iff.mp f1).1
   rw [List.getElem?_set_self hi]
 ·rw [List.map_append] at nd ⊢; exact nd
 ·simp only [eX, aB, aM] at n1 ⊢; exact nF
 ·intro g hg
  rcases List.mem_append.mp hg with q | q
  ·have := n2 g (List.mem_append_left _ q); exact nF
  ·obtain rfl := List.mem_singleton.mp q
   simp only [eX, aB, aM]; lia
theorem DP {text w : D} {s sp : Addr} {tk rest : List D} {σ : MS} {fs : List wo} {N : Nat} {k : Fl → MS → Prop} (h : NI text w s sp tk σ fs N) (hN : N ≤ 1000)
  (hk : ∀ σ' j b, NI text w s sp tk σ' (fs ++ [(j, b, [])]) (N + 1) → dg (aL 3) NB (fun σ2 => σ2.st[2]? = some (sp, .list tk)) (fun σ2 => σ2) rest σ' k) :
  dg (aL 3) NB (fun σ2 => σ2.st[2]? = some (sp, .list tk)) (fun σ2 => σ2) (.str "(" :: rest) σ k := by
 obtain ⟨vs, st⟩ := σ
 obtain ⟨⟨v3, v4, hv⟩, s1, s2, fr, nd, n1, n2⟩ := h
 simp only at hv s1 s2 fr
 subst hv
 have hlen : 2 < st.length := (List.getElem?_eq_some_iff.mp s2).1
 have e1 : ∀ x, (st ++ [x])[1]? = some (s, .list (fs.map fun f => .ref f.2.1)) := fun x => by rw [List.getElem?_append_left (by lia)]; exact s1
 have e2 : ∀ x, (st ++ [x])[2]? = some (sp, .list tk) := fun x => by rw [List.getElem?_append_left (by lia)]; exact s2
 have q1 : ((("(" : String) : Str) == (("(" : String) : Str)) = true := by decide
 ((try dsimp only [NB, fy, bj, af, bw, aA, ac, cP, bh, be, aL, MS.set, aY, aK, au, al, eG]); (try simp only [q1, cQ, af, br, bD, ac, au, al, s1, aa, bg, ad, aM, bl, e1, fV, av, aV]))
 (refine ⟨Nat.zero_le _, ?_⟩; (repeat (left; (try dsimp only [aw, bb]))); refine fun b => ?_; (repeat (left; (try dsimp only [aw, bb]))); refine ⟨by rw [dI]; exact nL, ?_⟩; (repeat (left; (try dsimp only [aw, bb]))))
 refine ⟨?_, hk _ st.length b ⟨⟨_, _, rfl⟩, ?_, ?_, ?_, ?_, ?_, ?_⟩⟩
 ·rw [List.getElem?_set_ne (by decide)]; exact e2 _
 ·show ((st ++ _).set 1 _)[1]? = _
  rw [List.getElem?_set_self (by simp; lia), List.map_append]; rfl
 ·show ((st ++ _).set 1 _)[2]? = _
  rw [List.getElem?_set_ne (by decide)]; exact e2 _
 ·intro g hg
  rcases List.mem_append.mp hg with q | q
  ·obtain ⟨g1, g2, g3⟩ := fr g q
   refine ⟨?_, g2, g3⟩
   show ((st ++ _).set 1 _)[g.1]? = _
   rw [List.getElem?_set_ne (fun e => g2 e.symm), List.getElem?_append_left (List.getElem?_eq_some_iff.mp g1).1]
   exact g1
  ·obtain rfl := List.mem_singleton.mp q
   refine ⟨?_, by show st.length ≠ 1; lia, by show st.length ≠ 2; lia⟩
   show ((st ++ _).set 1 _)[st.length]? = _
   rw [List.getElem?_set_ne (by lia)]
   simp
 ·rw [List.map_append, List.nodup_append]
  refine ⟨nd, by simp, fun x hx y hy e => ?_⟩
  obtain ⟨g, hg, rfl⟩ := List.mem_map.mp hx
  have := (List.getElem?_eq_some_iff.mp (fr g hg).1).1
  simp at hy
  lia
 ·simp only [eX, aB, aM]; lia
 ·intro g hg
  rcases List.mem_append.mp hg with q | q
  ·have := n2 g q; exact nF
  ·obtain rfl := List.mem_singleton.mp q
   show 0 ≤ _; lia
theorem DQ : (fz.all fun i => !(c0 i == ("(" : Str)) && !(c0 i == (")" : Str))) = true := by decide +kernel
theorem wp : (jW.all fun x => !(x == ("(" : Str)) && !(x == (")" : Str)) && !(x == ("-" : Str))) = true := by decide +kernel
theorem uz {text w : D} {s sp : Addr} {tk rest : List D} {σ : MS} {fs : List wo} {i : Nat} {a : Addr} {ds : List D} {N : Nat} {k : Fl → MS → Prop} {d : D} {t : Str} (h : NI text w s sp tk σ (fs ++ [(i, a, ds)]) N) (hN : N ≤ 1000)
  (hd : (d = .none ∧ t = "-") ∨ (∃ z : Int, d = .int z ∧ t = c0 z ∧ z.natAbs ≤ 20) ∨ (d = .str t ∧ t ∈ jW))
  (hk : ∀ σ', NI text w s sp tk σ' (fs ++ [(i, a, ds ++ [d])]) (N + 1) → dg (aL 3) NB (fun σ2 => σ2.st[2]? = some (sp, .list tk)) (fun σ2 => σ2) rest σ' k) :
  dg (aL 3) NB (fun σ2 => σ2.st[2]? = some (sp, .list tk)) (fun σ2 => σ2) (.str t :: rest) σ k := by
 obtain ⟨vs, st⟩ := σ
 obtain ⟨⟨v3, v4, hv⟩, s1, s2, fr, nd, n1, n2⟩ := h
 simp only at hv s1 s2 fr
 subst hv
 have q1 : (t == (("(" : String) : Str)) = false ∧ (t == ((")" : String) : Str)) = false := by
  rcases hd with ⟨rfl, rfl⟩ | ⟨z, rfl, rfl, hz⟩ | ⟨rfl, hw⟩
  ·decide
  ·simpa using List.all_eq_true.mp DQ z (f6 hz)
  ·have := List.all_eq_true.mp wp t hw
   simp only [Bool.and_eq_true, Bool.not_eq_true'] at this
   exact this.1
 have h' : NI text w s sp tk ⟨[some text, some w, some (.ref s), some (.str t), v4], st⟩ (fs ++ [(i, a, ds)]) N := ⟨⟨_, _, rfl⟩, s1, s2, fr, nd, n1, n2⟩
 rcases hd with ⟨rfl, rfl⟩ | ⟨z, rfl, rfl, hz⟩ | ⟨rfl, hw⟩
 ·have q3 : ((("-" : String) : Str) == (("-" : String) : Str)) = true := by decide
  simp only [NB, bj, aL, aj, aw, fu, br, aA, ac, bh, fy, cP, eG, be, MS.set, al, au, List.getElem?_nil, aK, aY, List.set_nil, bk, bF, az, ay, List.append_nil, aB, aM, ci, bV, List.take_nil, List.reverse_cons, List.reverse_nil, cS, cR, gH, cI, dG, gC, jV, Bool.not_false, Bool.not_true, q1.1, q1.2, q3]
  refine NI.app h' hN (d := .none) (fun k' hk' => hk') fun st' hst => ?_
  exact jU ⟨hst.s2, hk _ hst⟩
 ·have q3 : (c0 z == (("-" : String) : Str)) = false := wn hz
  have q4 := cM hz
  simp only [NB, bj, aL, aj, aw, fu, br, aA, ac, bh, fy, cP, eG, be, MS.set, al, au, List.getElem?_nil, aK, aY, List.set_nil, bk, bF, az, ay, List.append_nil, aB, aM, ci, bV, List.take_nil, List.reverse_cons, List.reverse_nil, cS, cR, gH, cI, dG, gC, jV, Bool.not_false, Bool.not_true, q1.1, q1.2, q3]
  refine NI.app h' hN (d := .int z) (fun k' hk' => ?_) fun st' hst => ?_
  ·(try dsimp only [oV, gw, a9, aa, ac, au, al, bN, aZ, am, ad])
   refine ⟨c0 z, rfl, rfl, nA, ?_⟩
   ((try dsimp only [dE]); (try simp only [kX hz, List.append_nil, mZ, bK, aa, ac, au, al, ad, mh, b6, eG, jm hz, am]))
   exact ⟨nA, hk'⟩
  ·exact jU ⟨hst.s2, hk _ hst⟩
 ·have q3 : (t == (("-" : String) : Str)) = false := by
   have := List.all_eq_true.mp wp t hw
   simp only [Bool.and_eq_true, Bool.not_eq_true'] at this
   exact this.2
  have q4 : t.length ≤ 20 := by simpa using List.all_eq_true.mp pv t hw
  simp only [NB, bj, aL, aj, aw, fu, br, aA, ac, bh, fy, cP, eG, be, MS.set, al, au, List.getElem?_nil, aK, aY, List.set_nil, bk, bF, az, ay, List.append_nil, aB, aM, ci, bV, List.take_nil, List.reverse_cons, List.reverse_nil, cS, cR, gH, cI, dG, gC, jV, Bool.not_false, Bool.not_true, q1.1, q1.2, q3]
  refine NI.app h' hN (d := .str t) (fun k' hk' => ?_) fun st' hst => ?_
  ·(try dsimp only [oV, gw, a9, aa, ac, au, al, bN, aZ, am, ad])
   refine ⟨t, rfl, rfl, nA, ?_⟩
   ((try dsimp only [dE]); (try simp only [DM hw, List.append_nil, rC, ac, au, al]))
   exact hk'
  ·exact jU ⟨hst.s2, hk _ hst⟩
theorem B6 {text w : D} {s sp : Addr} {tk rest : List D} {σ : MS} {fs : List wo} {i j : Nat} {a b : Addr} {ds es : List D} {N : Nat} {k : Fl → MS → Prop} (h : NI text w s sp tk σ (fs ++ [(i, a, ds)] ++ [(j, b, es)]) N) (hN : N ≤ 1000)
  (hk : ∀ σ', NI text w s sp tk σ' (fs ++ [(i, a, ds ++ [.tup es])]) (N + 1) → dg (aL 3) NB (fun σ2 => σ2.st[2]? = some (sp, .list tk)) (fun σ2 => σ2) rest σ' k) :
  dg (aL 3) NB (fun σ2 => σ2.st[2]? = some (sp, .list tk)) (fun σ2 => σ2) (.str ")" :: rest) σ k := by
 obtain ⟨vs, st⟩ := σ
 obtain ⟨⟨v3, v4, hv⟩, s1, s2, fr, nd, n1, n2⟩ := h
 simp only at hv s1 s2 fr
 subst hv
 rw [List.map_append, bk, bF] at s1
 have q1 : (((")" : String) : Str) == (("(" : String) : Str)) = false := by decide
 have q2 : (((")" : String) : Str) == ((")" : String) : Str)) = true := by decide
 have hlen : 2 < st.length := (List.getElem?_eq_some_iff.mp s2).1
 have n1' : fs.length + 2 ≤ N := by simpa using n1
 have hl : (((fs ++ [(i, a, ds)]).map (fun f => D.ref f.2.1) ++ [D.ref b]).length : Int) = ((fs.length + 2 : Nat) : Int) := by simp
 have hl2 : ((fs ++ [(i, a, ds)]).map (fun f => D.ref f.2.1) ++ [D.ref b]).length ≤ 2 ^ 20 := by simp; lia
 have q3 : decide ((((fs.length + 2 : Nat) : Int)) < 2) = false := by simp; lia
 obtain ⟨f1, f2, f3⟩ := fr (j, b, es) (by simp)
 simp only at f1 f2 f3
 simp only [NB, bj, aL, aj, aw, fu, br, ba, aA, ac, bh, ao, bK, oI, aa, ad, bD, En, bv, fy, cP, Gh, b6, fV, cz, eG, c9, kE, be, aq, aF, av, am, cj, MS.set, al, au, List.getElem?_nil, aK, aY, List.set_nil, bk, bF, az, ay, List.append_nil, aB, aM, ci, bV, List.take_nil, List.reverse_cons, List.reverse_nil, cS, cR, gH, cI, dG, gC, jV, Bool.not_false, Bool.not_true, q1, q2, s1, hl, q3, List.getLast?_append, List.getLast?_singleton, Option.some_or, List.dropLast_concat, aV]
 have hnd : i ≠ j ∧ (∀ g ∈ fs, g.1 ≠ j) := by
  simp only [List.map_append, bk, bF, List.append_assoc] at nd
  obtain ⟨-, h2, h3⟩ := List.nodup_append.mp nd
  refine ⟨by simp at h2; exact h2, fun g hg => h3 g.1 (List.mem_map.mpr ⟨g, hg, rfl⟩) j (by simp)⟩
 have e1 : (st.set 1 (s, .list ((fs ++ [(i, a, ds)]).map fun f => D.ref f.2.1)))[j]? = some (b, .list es) := by
  rw [List.getElem?_set_ne (fun e => f2 e.symm)]; exact f1
 have hes : es.length ≤ N := n2 (j, b, es) (by simp)
 refine ⟨nB, hl2, j, ?_⟩
 simp only [c6, b6, c9, e1, cj, aV]
 (refine ⟨aE nL, ?_⟩)
 refine NI.app (f := ac 4) (d := .tup es) (N := N) (fs := fs) (i := i) (a := a) (ds := ds) (s := s) (sp := sp) (text := text) (w := w) (tk := tk) ⟨⟨_, _, rfl⟩, ?_, ?_, ?_, ?_, ?_, ?_⟩ hN (fun k' hk' => hk') fun st' hst => ?_
 ·show (st.set 1 _)[1]? = _
  rw [List.getElem?_set_self (by lia)]
 ·show (st.set 1 _)[2]? = _
  rw [List.getElem?_set_ne (by decide)]; exact s2
 ·intro g hg
  obtain ⟨g1, g2, g3⟩ := fr g (List.mem_append_left _ hg)
  refine ⟨?_, g2, g3⟩
  show (st.set 1 _)[g.1]? = _
  rw [List.getElem?_set_ne (fun e => g2 e.symm)]; exact g1
 ·rw [List.map_append] at nd; exact (List.nodup_append.mp nd).1
 ·simp only [eX, aB, aM]; exact nM
 ·exact fun g hg => n2 g (List.mem_append_left _ hg)
 ·exact jU ⟨hst.s2, hk _ hst⟩
mutual
noncomputable def toks : D → List Str
 | .none => ["-"]
 | .int i => [c0 i]
 | .str x => [x]
 | .tup ds => "(" :: (jZ ds ++ [((")" : String) : Str)])
 | .bool _ => []
 | .ref _ => []
noncomputable def jZ : List D → List Str
 | [] => []
 | d :: ds => toks d ++ jZ ds
end
noncomputable def NR (text w : D) (s sp : Addr) (tk : List D) (k : Fl → MS → Prop) (ts : List Str) (n : Nat) (es : List D) : Prop := ∀ {rest : List D} {σ : MS} {fs : List wo} {i : Nat} {a : Addr} {ds : List D} {N : Nat}, NI text w s sp tk σ (fs ++ [(i, a, ds)]) N → N + 3 * n ≤ 1000 →
  (∀ σ' N', N' ≤ N + 3 * n → NI text w s sp tk σ' (fs ++ [(i, a, ds ++ es)]) N' → dg (aL 3) NB (fun σ2 => σ2.st[2]? = some (sp, .list tk)) (fun σ2 => σ2) rest σ' k) →
  dg (aL 3) NB (fun σ2 => σ2.st[2]? = some (sp, .list tk)) (fun σ2 => σ2) (ts.map .str ++ rest) σ k
theorem B7 (text w : D) (s sp : Addr) (tk : List D) (k : Fl → MS → Prop) : (∀ d, jl d = true → NR text w s sp tk k (toks d) (cost d) [d]) ∧ (∀ es, dD es = true → NR text w s sp tk k (jZ es) (cb es) es) :=
 xj (fun h hN hk => uz h (by simp only [cost] at hN; lia) (.inl ⟨rfl, rfl⟩) fun σ' h' => hk σ' _ (by simp only [cost]; lia) h')
  (fun z hz {_ _ _ _ _ _ _} h hN hk => uz h (by simp only [cost] at hN; lia) (.inr (.inl ⟨z, rfl, rfl, hz⟩)) fun σ' h' => hk σ' _ (by simp only [cost]; lia) h')
  (fun x hx {_ _ _ _ _ _ _} h hN hk => uz h (by simp only [cost] at hN; lia) (.inr (.inr ⟨rfl, hx⟩)) fun σ' h' => hk σ' _ (by simp only [cost]; lia) h')
  (fun es _ ih {rest σ fs i a ds N} h hN hk => by
   simp only [cost] at hN hk
   show dg (aL 3) NB _ _ (((("(" : String) : Str) :: (jZ es ++ [((")" : String) : Str)])).map .str ++ rest) σ k
   rw [bk, List.map_append, az, List.append_assoc]
   refine DP h (by lia) fun σ1 j b h1 => ?_
   refine ih h1 (by lia) fun σ2 N2 hN2 h2 => ?_
   rw [ay] at h2
   exact B6 h2 (by lia) fun σ3 h3 => hk σ3 _ (by lia) h3)
  (fun {rest σ fs i a ds N} h hN hk => hk σ N (Nat.le_add_right _ _) ((List.append_nil ds).symm ▸ h))
  fun d es _ _ a b {rest σ fs i q ds N} h hN hk => by
   simp only [cb] at hN hk
   show dg (aL 3) NB _ _ ((toks d ++ jZ es).map .str ++ rest) σ k
   rw [List.map_append, List.append_assoc]
   refine a h (by lia) fun σ1 N1 hN1 g1 => ?_
   refine b g1 (by lia) fun σ2 N2 hN2 g2 => ?_
   refine hk σ2 N2 (by lia) ?_
   rw [List.append_assoc] at g2
   exact g2
theorem DR {text w : D} {s sp : Addr} {tk : List D} {k : Fl → MS → Prop} {d : D} (h : jl d = true) : NR text w s sp tk k (toks d) (cost d) [d] := (B7 text w s sp tk k).1 d h
theorem zi : (("(" : String) : Str) = ⟨#[40]⟩ := by decide
theorem wq : ((")" : String) : Str) = ⟨#[41]⟩ := by decide
theorem zj (c : Nat) (z : List Nat) : ∀ l : List Nat, (l.flatMap (fun k => if k = c then z else [k])).length ≤ (z.length + 1) * l.length
 | [] => by simp
 | k :: l => by
  have := zj c z l
  rw [List.flatMap_cons, eX, aB, Nat.mul_add, Nat.mul_one]
  split
  ·lia
  ·simp only [aB, aM]; lia
theorem sw (x z : Str) (c : Nat) : (Txt.replace x ⟨#[c]⟩ z).length ≤ (z.length + 1) * x.length := by
 have := zj c (cF z) (cF x)
 rw [← pu, jY, jY, jY] at this
 exact this
inductive iY : List D → List (Addr × O) → cu → Prop
 | mk {ds : List D} {sub : List (Addr × O)} {k : cu} (x : Str) (w : Int) (d : D) (h0 : ds = [.str x, .int w]) (h1 : sub = []) (h2 : x.length ≤ 1000) (h3 : Txt.words (Txt.replace (Txt.replace x "(" " ( ") ")" " ) ") = toks d) (h4 : jl d = true) (h5 : cost d ≤ 20) (h6 : k d [] []) : iY ds sub k
theorem uA : fC (jS bQ) 5 iY := by
 rintro ds sub k ⟨x, w, d, rfl, rfl, hl, hw, hok, hc, hk⟩
 have r1 := sw x " ( " 40
 have r2 := sw (Txt.replace x "(" " ( ") " ) " 41
 have e3 : ((" ( " : String) : Str).length = 3 := rfl
 have e4 : ((" ) " : String) : Str).length = 3 := rfl
 rw [← zi, e3] at r1
 rw [← wq, e4] at r2
 have hws := eJ (x := Txt.replace (Txt.replace x "(" " ( ") ")" " ) ") (by lia)
 have e0 : jS bQ = _ := rfl
 unfold jS
 ((try dsimp only [fy, n8, aB, aM, cS, cR, af, ba, bg, aa, ad, aL, MS.set, ay, az]); (try simp only [bk, bF, az, ay, aY, aK]))
 (refine ⟨Nat.zero_le _, ?_⟩; (repeat (left; (try dsimp only [af, mt, bR, bq, lT, ac, al, bP, ad, gZ, be, az, ay, au, av]); (try simp only [e3, e4, aV]))); refine fun x0 => ?_; (repeat (left; (try dsimp only [af, mt, bR, bq, lT, ac, al, bP, ad, gZ, be, az, ay, au, av]); (try simp only [e3, e4, aV]))); refine ⟨aE (by decide), ?_⟩; (repeat (left; (try dsimp only [af, mt, bR, bq, lT, ac, al, bP, ad, gZ, be, az, ay, au, av]); (try simp only [e3, e4, aV]))); refine fun s => ?_; (repeat (left; (try dsimp only [af, mt, bR, bq, lT, ac, al, bP, ad, gZ, be, az, ay, au, av]); (try simp only [e3, e4, aV]))); refine ⟨by lia, ?_⟩; (repeat (left; (try dsimp only [af, mt, bR, bq, lT, ac, al, bP, ad, gZ, be, az, ay, au, av]); (try simp only [e3, e4, aV]))); refine ⟨by lia, ?_⟩; (repeat (left; (try dsimp only [af, mt, bR, bq, lT, ac, al, bP, ad, gZ, be, az, ay, au, av]); (try simp only [e3, e4, aV]))); refine ⟨hws.1, ?_⟩; (repeat (left; (try dsimp only [af, mt, bR, bq, lT, ac, al, bP, ad, gZ, be, az, ay, au, av]); (try simp only [e3, e4, aV]))); refine ⟨hws.2, ?_⟩; (repeat (left; (try dsimp only [af, mt, bR, bq, lT, ac, al, bP, ad, gZ, be, az, ay, au, av]); (try simp only [e3, e4, aV]))); refine fun sp => ?_; (repeat (left; (try dsimp only [af, mt, bR, bq, lT, ac, al, bP, ad, gZ, be, az, ay, au, av]); (try simp only [e3, e4, aV]))))
 rw [hw]
 refine (congrArg (fun L => dg (aL 3) NB (fun σ2 => σ2.st[2]? = some (sp, .list ((toks d).map .str))) (fun σ2 => σ2) L ⟨[some (.str x), some (.int w), some (.ref s), none, none], [(x0, .list []), (s, .list [.ref x0]), (sp, .list ((toks d).map .str))]⟩ _) (List.append_nil ((toks d).map D.str))).mp
  (DR (text := .str x) (w := .int w) (s := s) (sp := sp) (tk := (toks d).map .str) hok (rest := []) (fs := []) (i := 0) (a := x0) (ds := []) (N := 1) ⟨⟨none, none, rfl⟩, rfl, rfl, fun f hf => ?_, by simp, by simp⟩ (by lia) fun σ' N' hN' h' => ?_)
 ·obtain rfl := List.mem_singleton.mp hf
  exact ⟨rfl, (by decide : (0 : Nat) ≠ 1), (by decide : (0 : Nat) ≠ 2)⟩
 ·obtain ⟨vs, st⟩ := σ'
  obtain ⟨⟨v3, v4, hv⟩, s1, s2, fr, nd, n1, n2⟩ := h'
  simp only at hv s1 s2 fr
  subst hv
  have q_f1 := fr (0, x0, [d]) (by simp)
  have f1 := q_f1.1
  simp only [ay, bk, bF] at s1 f1
  have e1 : iq [D.ref x0] 0 = some (.ref x0) := rfl
  have e2 : iq [d] 0 = some d := rfl
  have q1 : ((1 : Int) != 1) = false := by decide
  ((try dsimp only [zY]); (repeat (left; (try dsimp only [af, bw, jb, aA, bK, aa, ac, au, al, cP, ao, aq, bv, cz, ad, b6, c9]); (try simp only [s1, cj, aB, aM, aV]))))
  refine And.intro (by decide) ?_
  have q0 : (((0 + 1 : Nat) : Int) != 1) = false := by decide
  (try simp only [q0, jE, jb, aA, bK, aa, aX, ac, au, al, ao, s1, ad, Gh, bv, cP, aq, cz, b6, av, aV, e1, am, c9])
  refine ⟨0, ?_⟩
  simp only [bv, b6, c9, f1, cj]
  refine ⟨trivial, by simp, ?_⟩
  have q2 : ((([d].length : Nat) : Int) != 1) = false := by simp
  ((try dsimp only [aB, aM]); (try simp only [q0, jE, cH, b0, aw]); (repeat (left; (try dsimp only [af, bp, zL, aX, ac, au, al, aW, ao, aq]); (try simp only [s1, av, e1, am, aV]))))
  refine ⟨0, x0, 0, [d], d, rfl, rfl, f1, e2, ?_⟩
  exact bA (rest := _) (fl := .ret _) hk trivial rfl (List.nil_sublist _) rfl
section
open Builtin.Str StrLaws
noncomputable def DS (c : Nat) : Bool := !Unicode.isSpace c && !(c == 40) && !(c == 41) && !(c == 10) && !(c == 59) && !(c == 124)
noncomputable def gu (w : List Nat) : Bool := !w.isEmpty && w.all DS
theorem z9 : (fz.all fun i => gu (cF (c0 i))) = true := by decide +kernel
theorem zk : (jW.all fun x => gu (cF x)) = true := by decide +kernel
theorem lM : gu (cF (("-" : String) : Str)) = true := by decide +kernel
theorem eK {i : Int} (h : i.natAbs ≤ 20) : gu (cF (c0 i)) = true := List.all_eq_true.mp z9 i (f6 h)
theorem pw {x : Str} (h : x ∈ jW) : gu (cF x) = true := List.all_eq_true.mp zk x h
noncomputable def xr (r : List Nat) : Prop := r = [] ∨ ∃ c r', r = c :: r' ∧ Unicode.isSpace c = true
theorem GK : Unicode.isSpace 32 = true := by decide +kernel
theorem f8 (r : List Nat) : xr (32 :: r) := .inr ⟨32, r, rfl, GK⟩
theorem eO (r : List Nat) : wl [] (32 :: r) = wl [] r := uv GK
theorem AT {r : List Nat} : ∀ {w acc : List Nat}, (∀ c ∈ w, Unicode.isSpace c = false) → wl acc (w ++ r) = wl (acc ++ w) r
 | [], acc, _ => by simp
 | c :: w, acc, h => by
  rw [az, DE (h c c8), AT fun x hx => h x (dP _ hx), List.append_assoc]; rfl
theorem uB {w : List Nat} (h : gu w = true) : w ≠ [] ∧ ∀ c ∈ w, Unicode.isSpace c = false ∧ c ≠ 40 ∧ c ≠ 41 ∧ c ≠ 10 ∧ c ≠ 59 ∧ c ≠ 124 := by
 unfold gu at h
 rw [Bool.and_eq_true] at h
 refine ⟨by simpa using h.1, fun c hc => ?_⟩
 have := List.all_eq_true.mp h.2 c hc
 simp only [DS, Bool.and_eq_true, Bool.not_eq_true', beq_eq_false_iff_ne, ne_eq] at this
 exact ⟨this.1.1.1.1.1, this.1.1.1.1.2, this.1.1.1.2, this.1.1.2, this.1.2, this.2⟩
theorem sK {w r : List Nat} (h : gu w = true) (hr : xr r) : wl [] (w ++ r) = w :: wl [] r := by
 obtain ⟨h1, h2⟩ := uB h
 rw [AT fun c hc => (h2 c hc).1, ay]
 have he : w.isEmpty = false := by simpa using h1
 rcases hr with rfl | ⟨c, r', rfl, hc⟩
 ·simp [wl, he]
 ·rw [uv hc, uv hc, he]; rfl
theorem E9 : ∀ {l : List (List Nat)} {r : List Nat}, l ≠ [] → (∀ w ∈ l, gu w = true) → xr r → wl [] (ez [32] l ++ r) = l ++ wl [] r
 | [], _, h, _, _ => absurd rfl h
 | [w], r, _, h, hr => sK (h w c8) hr
 | w :: x :: l, r, _, h, hr => by
  show wl [] (w ++ [32] ++ ez [32] (x :: l) ++ r) = _
  have e : w ++ [32] ++ ez [32] (x :: l) ++ r = w ++ (32 :: (ez [32] (x :: l) ++ r)) := by simp
  rw [e, sK (h w c8) (f8 _), eO, E9 (by simp) (fun y hy => h y (dP _ hy)) hr]
  rfl
theorem ng (l : List Str) : (l.map cF).map S = l := by
 rw [List.map_map]
 exact (List.map_congr_left fun x _ => kT x).trans (List.map_id _)
theorem gP : cF ((" " : String) : Str) = [32] := by decide
set_option tactic.hygienic true in
theorem Hm {ns : List Int} {r : List Nat} (h : ∀ x ∈ ns, x.natAbs ≤ 20) (hr : xr r) : wl [] (cF (dH ns) ++ r) = (ij ns).map cF ++ wl [] r := by
 unfold dH ij
 split
 ·exact sK lM hr
 ·rename_i h0
  rw [kW, gP, E9 (by simpa using fun e => h0 (by rw [e]; rfl)) ?_ hr]
  intro w hw
  obtain ⟨x, hx, rfl⟩ := List.mem_map.mp hw
  obtain ⟨i, hi, rfl⟩ := List.mem_map.mp hx
  exact eK (h i hi)
noncomputable def rp (l : List Nat) : List Nat := (l.flatMap (fun k => if k = 40 then [32, 40, 32] else [k])).flatMap (fun k => if k = 41 then [32, 41, 32] else [k])
theorem kY (a b : List Nat) : rp (a ++ b) = rp a ++ rp b := by simp [rp]
theorem DT {w : List Nat} (h : gu w = true) : rp w = w := by
 obtain ⟨_, h2⟩ := uB h
 unfold rp
 rw [n6 40 _ w fun q => (h2 _ q).2.1 rfl, n6 41 _ w fun q => (h2 _ q).2.2.1 rfl]
theorem uC : cF (("(" : String) : Str) = [40] := by decide
theorem rK : cF ((")" : String) : Str) = [41] := by decide
theorem DU {x : Str} {r : List Nat} (h : gu (cF x) = true) (hr : xr r) : wl [] (rp (cF x) ++ r) = [x].map cF ++ wl [] r := by
 rw [DT h]; exact sK h hr
theorem Fa (c : Nat) (hc : Unicode.isSpace c = false) {r : List Nat} (hr : xr r) : wl [] (c :: r) = [c] :: wl [] r := by
 rw [DE hc]
 show wl [c] r = _
 rcases hr with rfl | ⟨d, r', rfl, hd⟩
 ·rfl
 ·rw [uv hd, uv hd]; rfl
theorem Hn : Unicode.isSpace 40 = false := by decide +kernel
theorem Ho : Unicode.isSpace 41 = false := by decide +kernel
theorem GL : (∀ d, jl d = true → ∀ r : List Nat, xr r → wl [] (rp (cF (cf d)) ++ r) = (toks d).map cF ++ wl [] r) ∧ (∀ es, dD es = true → ∀ r : List Nat, xr r → wl [] (rp (ez [32] ((cB es).map cF)) ++ r) = (jZ es).map cF ++ wl [] r) :=
 xj (fun r hr => DU lM hr) (fun z hz r hr => DU (eK hz) hr) (fun x hx r hr => DU (x := x) (pw (x := x) hx) hr)
  (fun es _ ih r hr => by
   show wl [] (rp (cF ("(" ++ Txt.join " " (cB es) ++ ")")) ++ r) = ((("(" : String) : Str) :: (jZ es ++ [((")" : String) : Str)])).map cF ++ wl [] r
   rw [cq, cq, uC, rK, kW, gP, kY, kY, bk, List.map_append, uC]
   have e1 : rp [40] = [32, 40, 32] := rfl
   have e2 : rp [41] = [32, 41, 32] := rfl
   have e3 : rp [40] ++ rp (ez [32] ((cB es).map cF)) ++ rp [41] ++ r = 32 :: 40 :: 32 :: (rp (ez [32] ((cB es).map cF)) ++ (32 :: 41 :: 32 :: r)) := by rw [e1, e2]; simp
   rw [e3, eO, Fa 40 Hn (f8 _), eO, ih _ (f8 _), eO, Fa 41 Ho (f8 _), eO]
   simp [rK])
  (fun r _ => rfl)
  fun d es _ _ a b r hr => by
   cases es with
   | nil =>
    show wl [] (rp (cF (cf d)) ++ r) = (toks d ++ []).map cF ++ wl [] r
    rw [List.append_nil]
    exact a r hr
   | cons e es =>
    show wl [] (rp (cF (cf d) ++ [32] ++ ez [32] ((cB (e :: es)).map cF)) ++ r) = (toks d ++ jZ (e :: es)).map cF ++ wl [] r
    rw [kY, kY]
    have e3 : rp (cF (cf d)) ++ rp [32] ++ rp (ez [32] ((cB (e :: es)).map cF)) ++ r = rp (cF (cf d)) ++ (32 :: (rp (ez [32] ((cB (e :: es)).map cF)) ++ r)) := by
     rw [show rp [32] = [32] from rfl]; simp
    rw [e3, a _ (f8 _), eO, b _ hr, List.map_append, List.append_assoc]
theorem GN {d : D} {r : List Nat} (h : jl d = true) (hr : xr r) : wl [] (rp (cF (cf d)) ++ r) = (toks d).map cF ++ wl [] r := GL.1 d h r hr
theorem B8 : cF ((" ( " : String) : Str) = [32, 40, 32] := by decide
theorem Aa : cF ((" ) " : String) : Str) = [32, 41, 32] := by decide
theorem Ab {d : D} (h : jl d = true) : Txt.words (Txt.replace (Txt.replace (" " ++ cf d) "(" " ( ") ")" " ) ") = toks d := by
 rw [kU, zi, wq, pu, pu, B8, Aa, cq, gP]
 show (wl [] (rp ([32] ++ cF (cf d)))).map S = _
 rw [kY, show rp [32] = [32] from rfl]
 show (wl [] (32 :: rp (cF (cf d)))).map S = _
 rw [eO, ← List.append_nil (rp (cF (cf d))), GN h (.inl rfl)]
 show ((toks d).map cF ++ []).map S = _
 rw [List.append_nil, ng]
theorem wt {ns : List Int} (h : ∀ x ∈ ns, x.natAbs ≤ 20) : Txt.words (" " ++ dH ns ++ " ") = ij ns := by
 rw [kU, cq, cq, gP]
 show (wl [] (32 :: (cF (dH ns) ++ [32]))).map S = _
 rw [eO, Hm h (f8 _), eO]
 show ((ij ns).map cF ++ []).map S = _
 rw [List.append_nil, ng]
noncomputable def kz (l : List Nat) : Prop := ∀ k ∈ l, k ≠ 10 ∧ k ≠ 59 ∧ k ≠ 124
theorem cn {a b : List Nat} (ha : kz a) (hb : kz b) : kz (a ++ b) := fun k hk => (List.mem_append.mp hk).elim (ha k) (hb k)
theorem fq {w : List Nat} (h : gu w = true) : kz w := fun k hk => (uB h).2 k hk |>.2.2.2
theorem j0 : kz [32] := fun k hk => by simp at hk; lia
theorem rL : ∀ {l : List (List Nat)}, (∀ w ∈ l, kz w) → kz (ez [32] l)
 | [], _ => fun k hk => nomatch hk
 | [w], h => h w c8
 | w :: x :: l, h => cn (cn (h w c8) j0) (rL fun y hy => h y (dP _ hy))
theorem zl {ns : List Int} (h : ∀ x ∈ ns, x.natAbs ≤ 20) : kz (cF (dH ns)) := by
 unfold dH
 split
 ·exact fq lM
 ·rw [kW, gP]
  refine rL fun w hw => ?_
  obtain ⟨x, hx, rfl⟩ := List.mem_map.mp hw
  obtain ⟨i, hi, rfl⟩ := List.mem_map.mp hx
  exact fq (eK (h i hi))
theorem GO : (∀ d, jl d = true → kz (cF (cf d))) ∧ (∀ es, dD es = true → ∀ w ∈ (cB es).map cF, kz w) :=
 xj (fq lM) (fun z h => fq (eK h)) (fun x h => fq (pw (x := x) h))
  (fun es _ ih => by
   show kz (cF ("(" ++ Txt.join " " (cB es) ++ ")"))
   rw [cq, cq, uC, rK, kW, gP]
   exact cn (cn (fun k hk => by simp at hk; lia) (rL ih)) (fun k hk => by simp at hk; lia))
  (fun w hw => nomatch hw) fun d es _ _ a b w hw => (HL hw).elim (fun e => e ▸ a) (b w)
theorem B9 {d : D} (h : jl d = true) : kz (cF (cf d)) := GO.1 d h
end
section
open Builtin.Str StrLaws
noncomputable def fQ (n : Nat) (rule : Str) : Str := Str.empty ++ "step " ++ c0 (n : Nat) ++ " " ++ rule ++ " "
noncomputable def eV (v t : Nat) : Str := Str.empty ++ "name " ++ c0 (v : Nat) ++ " " ++ c0 (t : Nat) ++ " "
theorem iD : cF Str.empty = [] := rfl
theorem uD : cF (("name " : String) : Str) = [110, 97, 109, 101, 32] := by decide
theorem qC : cF (("step " : String) : Str) = [115, 116, 101, 112, 32] := by decide
theorem DV : cF ((" ; " : String) : Str) = [32, 59, 32] := by decide
theorem EM : cF ((" | " : String) : Str) = [32, 124, 32] := by decide
theorem EN : cF (("app" : String) : Str) = [97, 112, 112] := by decide
theorem Ca : cF (("name" : String) : Str) = [110, 97, 109, 101] := by decide
theorem wu : cF (("step" : String) : Str) = [115, 116, 101, 112] := by decide
theorem uE : ((";" : String) : Str) = ⟨#[59]⟩ := by decide
theorem EO : (("|" : String) : Str) = ⟨#[124]⟩ := by decide
theorem F7 : (("\n" : String) : Str) = ⟨#[10]⟩ := by decide
theorem Ac : gu [110, 97, 109, 101] = true := by decide +kernel
theorem uF : gu [115, 116, 101, 112] = true := by decide +kernel
theorem uG {w : Str} (h : w ∈ ir) : gu (cF w) = true := pw (List.mem_append_left _ h)
theorem uH {n : Nat} {rule : Str} (hn : n ≤ 20) (hr : rule ∈ ir) : Txt.words (fQ n rule) = [(("step" : String) : Str), c0 (n : Nat), rule] := by
 have e : cF (fQ n rule) = [115, 116, 101, 112] ++ 32 :: (cF (c0 (n : Nat)) ++ 32 :: (cF rule ++ [32])) := by
  simp only [fQ, cq, iD, qC, gP, ay, List.append_assoc, az]
 rw [kU, e, sK uF (f8 _), eO, sK (eK (by lia)) (f8 _), eO, sK (uG hr) (f8 _), eO]
 show [S _, S _, S _] = _
 rw [kT, kT, ← wu, kT]
theorem uI {v t : Nat} (hv : v ≤ 20) (ht : t ≤ 20) : Txt.words (eV v t) = [(("name" : String) : Str), c0 (v : Nat), c0 (t : Nat)] := by
 have e : cF (eV v t) = [110, 97, 109, 101] ++ 32 :: (cF (c0 (v : Nat)) ++ 32 :: (cF (c0 (t : Nat)) ++ [32])) := by
  simp only [eV, cq, iD, uD, gP, ay, List.append_assoc, az]
 rw [kU, e, sK Ac (f8 _), eO, sK (eK (by lia)) (f8 _), eO, sK (eK (by lia)) (f8 _), eO]
 show [S _, S _, S _] = _
 rw [kT, kT, ← Ca, kT]
theorem px (n : Nat) (r : cT) : ∃ ws, Txt.words (bt n r) = (("step" : String) : Str) :: ws := by
 have e : ∃ z, cF (bt n r) = [115, 116, 101, 112] ++ 32 :: z := by
  refine ⟨cF (c0 (n : Nat)) ++ (32 :: (cF r.rule ++ (cF ((" | " : String) : Str) ++ (cF (dH r.cl) ++ (cF ((" | " : String) : Str) ++ (cF (dH r.pr) ++ (cF ((" | " : String) : Str) ++ cF (cf r.note)))))))), ?_⟩
  simp only [bt, cq, iD, qC, gP, ay, List.append_assoc, az]
 obtain ⟨z, e⟩ := e
 refine ⟨(wl [] z).map S, ?_⟩
 rw [kU, e, sK uF (f8 _), eO, bk, ← wu, kT]
theorem xt {l : List Nat} (h : (l.all fun k => !(k == 10) && !(k == 59) && !(k == 124)) = true) : kz l := fun k hk => by
 have := List.all_eq_true.mp h k hk
 simp only [Bool.and_eq_true, Bool.not_eq_true', beq_eq_false_iff_ne, ne_eq] at this
 exact ⟨this.1.1, this.1.2, this.2⟩
theorem Cb {n : Nat} {rule : Str} (hn : n ≤ 20) (hr : rule ∈ ir) : kz (cF (fQ n rule)) := by
 simp only [fQ, cq, iD, qC, gP]
 exact cn (cn (cn (cn (cn (fun _ q => nomatch q) (xt (by decide))) (fq (eK ooK))) j0) (fq (uG hr))) j0
theorem Ad {v t : Nat} (hv : v ≤ 20) (ht : t ≤ 20) : kz (cF (eV v t)) := by
 simp only [eV, cq, iD, uD, gP]
 exact cn (cn (cn (cn (cn (fun _ q => nomatch q) (xt (by decide))) (fq (eK ooK))) j0) (fq (eK ooK))) j0
theorem zm {x : Str} (h : kz (cF x)) : kz (cF (" " ++ x ++ " ")) := by
 rw [cq, cq, gP]
 exact cn (cn j0 h) j0
theorem Cc {x : Str} (h : kz (cF x)) : kz (cF (" " ++ x)) := by
 rw [cq, gP]
 exact cn j0 h
noncomputable def gY (n : Nat) (r : cT) : List Str := [fQ n r.rule, " " ++ dH r.cl ++ " ", " " ++ dH r.pr ++ " ", " " ++ cf r.note]
theorem rM (n : Nat) (r : cT) : cF (bt n r) = ez [124] ((gY n r).map cF) := by
 simp only [gY, bt, fQ, bk, bF, ez, cq, iD, qC, gP, EM, ay, List.append_assoc, az]
theorem gf.safes {n : Nat} {r : cT} (h : gf n r) {m : Nat} (hm : m ≤ 20) (hn : n ≤ 20) : ∀ p ∈ (gY m r).map cF, kz p := by
 intro p hp
 simp only [gY, bk, bF, List.mem_cons, List.not_mem_nil, or_false] at hp
 rcases hp with rfl | rfl | rfl | rfl
 ·exact Cb hm h.rule
 ·exact zm (zl fun x hx => by have := h.cl.2 x hx; exact nA)
 ·exact zm (zl fun x hx => by have := h.pr x hx; lia)
 ·exact Cc (B9 h.note)
theorem wv {n : Nat} {r : cT} (h : gf n r) {m : Nat} (hm : m ≤ 20) (hn : n ≤ 20) : Txt.split (bt m r) "|" = gY m r := by
 rw [EO, nc, rM, qx 124 _ (by simp [gY]) fun p hp q => (h.safes hm hn p hp _ q).2.2 rfl, ng]
theorem ti {c : Nat} {sep : List Nat} (hs : c ∉ sep) : ∀ {l : List (List Nat)}, (∀ p ∈ l, c ∉ p) → c ∉ ez sep l
 | [], _ => fun q => nomatch q
 | [w], h => h w c8
 | w :: x :: l, h => fun q => by
  rcases List.mem_append.mp (show c ∈ w ++ sep ++ ez sep (x :: l) from q) with q | q
  ·rcases List.mem_append.mp q with q | q
   ·exact h w c8 q
   ·exact hs q
  ·exact ti hs (fun y hy => h y (dP _ hy)) q
theorem i6 {n : Nat} {r : cT} (h : gf n r) {m : Nat} (hm : m ≤ 20) (hn : n ≤ 20) : Txt.split (bt m r) ";" = [bt m r] := by
 rw [uE, nc, tg 59 _ _ (by rw [rM]; exact ti (by decide) fun p hp q => (h.safes hm hn p hp _ q).2.1 rfl), ay, bk, kT]; rfl
theorem xu {n : Nat} {r : cT} (h : gf n r) {m : Nat} (hm : m ≤ 20) (hn : n ≤ 20) : 10 ∉ cF (bt m r) := by
 rw [rM]; exact ti (by decide) fun p hp q => (h.safes hm hn p hp _ q).1 rfl
theorem ww (v t : Nat) : cF (dw v t "app") = ez [59] ([eV v t, " app"].map cF) := by
 have e : cF ((" app" : String) : Str) = [32, 97, 112, 112] := by decide
 simp only [dw, eV, bk, bF, ez, cq, iD, uD, gP, DV, EN, e, ay, List.append_assoc, az]
theorem uJ {v t : Nat} (hv : v ≤ 20) (ht : t ≤ 20) : ∀ p ∈ [eV v t, ((" app" : String) : Str)].map cF, kz p := by
 intro p hp
 simp only [bk, bF, List.mem_cons, List.not_mem_nil, or_false] at hp
 rcases hp with rfl | rfl
 ·exact Ad hv ht
 ·exact xt (by decide)
theorem l9 {v t : Nat} (hv : v ≤ 20) (ht : t ≤ 20) : Txt.split (dw v t "app") ";" = [eV v t, ((" app" : String) : Str)] := by
 rw [uE, nc, ww, qx 59 _ (by simp) fun p hp q => (uJ hv ht p hp _ q).2.1 rfl, ng]
theorem EP {v t : Nat} (hv : v ≤ 20) (ht : t ≤ 20) : 10 ∉ cF (dw v t "app") := by
 rw [ww]; exact ti (by decide) fun p hp q => (uJ hv ht p hp _ q).1 rfl
theorem nh {L : List Str} (h0 : L ≠ []) (h : ∀ x ∈ L, 10 ∉ cF x) : Txt.split (Txt.join "\n" L) "\n" = L := by
 rw [F7, nc, kW, show cF (⟨#[10]⟩ : Str) = [10] from rfl, qx 10 _ (by simpa using h0) (by
  intro p hp
  obtain ⟨x, hx, rfl⟩ := List.mem_map.mp hp
  exact h x hx), ng]
theorem AU {a : Str} {L : List Str} (h : 0 < a.length) : (Txt.join "\n" (a :: L) != "") = true := by
 have h1 : cF (Txt.join "\n" (a :: L)) ≠ [] := by
  rw [kW]
  have ha : cF a ≠ [] := fun e => by
   have := jY a
   rw [e] at this
   simp at this; lia
  cases L with
  | nil => exact ha
  | cons b L =>
   show cF a ++ _ ++ _ ≠ []
   simp [ha]
 rw [bne_iff_ne]
 exact fun e => h1 (by rw [e]; rfl)
theorem xv {ts : List Nat} {rows : List cT} (hn : iJ ts) (h : cw rows) : ∀ x ∈ cN ts rows, 10 ∉ cF x := by
 intro x hx
 rcases List.mem_append.mp hx with q | q
 ·obtain ⟨i, t, h1, rfl⟩ := lK ts 1 x q
  have := hn.len
  have := (List.getElem?_eq_some_iff.mp h1).1
  exact EP (by lia) (hn.le t (HM h1))
 ·obtain ⟨i, r, h1, rfl⟩ := ii rows 0 x q
  have := h.1
  have := (List.getElem?_eq_some_iff.mp h1).1
  rw [Nat.zero_add]
  exact xu (h.2 i r h1) (by lia) (by lia)
end
theorem AV : (("|" : String) : Str).length = 1 := rfl
theorem kZ : ((";" : String) : Str).length = 1 := rfl
theorem qD {n : Nat} {rule : Str} (hn : n ≤ 20) (h : rule ∈ ir) : (fQ n rule).length ≤ 600 := by
 have h1 := cM (i := (n : Nat)) ooK
 have h2 := zh h
 simp only [fQ, Str.length_append, d5, ig, iu]
 lia
theorem qE {v t : Nat} (hv : v ≤ 20) (ht : t ≤ 20) : (eV v t).length ≤ 600 := by
 have h1 := cM (i := (v : Nat)) ooK
 have h2 := cM (i := (t : Nat)) ooK
 simp only [eV, Str.length_append, d5, iI, iu]
 lia
theorem q4 : (((0 + 1 + 1 + 1 + 1 : Nat) : Int) != 4) = false := by decide
theorem q3 : (((0 + 1 + 1 + 1 : Nat) : Int) != 3) = false := by decide
theorem Hx : (((0 + 1 + 1 + 1 : Nat) : Int) == 3) = true := by decide
theorem HE : decide ((0 : Int) < ((0 + 1 : Nat) : Int)) = true := by decide
theorem HF : (((0 + 1 : Nat) : Int) == 3) = false := by decide
inductive fU : List D → List (Addr × O) → cu → Prop
 | mk {ds : List D} {sub : List (Addr × O)} {k : cu} (a dx s nm : Addr) (e : Int) (rows : List cT) (named : List D) (r : cT) (w : Int) (h0 : ds = [.ref a, .str (bt rows.length r), .int w]) (h1 : sub = PR a dx s nm e rows named) (h2 : gf rows.length r) (h3 : rows.length ≤ 12) (h4 : ∀ e', k .none [PO dx s nm e', .list (RL (rows ++ [r])), .list named] []) : fU ds sub k
theorem uK : fC (mM ey f5 iY ik) 5 fU := by
 rintro ds sub k ⟨a, dx, s, nm, e, rows, named, r, w, rfl, rfl, hro, hl, hk⟩
 have hlen := gX hro nA
 have hss := dZ (x := bt rows.length r) (y := "|") nA (by rw [AV]; decide)
 have hhl := qD (n := rows.length) nA hro.rule
 have hws := eJ (x := fQ rows.length r.rule) nA
 have q_a1 := hro.texts nA
 have l1 := hro.cl.len
 have l2 := hro.len
 have hn := Ab hro.note
 have hr1 := wt (ns := r.cl) fun x hx => by have := hro.cl.2 x hx; exact nA
 have hr2 := wt (ns := r.pr) fun x hx => by have := hro.pr x hx; lia
 ((try dsimp only [aB, aM, cS, cR, PR, PO, mM, n8, af, ba, bq, ac, aL, MS.set, bP, aa, bh, ad, mq, be, az, ay]); (try simp only [bk, bF, az, ay, au, al, aY, aK, be]))
 refine ⟨hss.1, hss.2.1, hss.2.2, fun b => ?_⟩
 rw [wv hro (by lia) (by lia)]
 ((try (left)); (try dsimp only [gY, af, ba, bq, aX, ac, au, al, aL, MS.set, bP, ad, gZ, be, ao, aq, aY, aK, az, ay, av]); (try simp only [bk, bF, cI, am, be, aV]))
 refine ⟨hws.1, hws.2, fun c => ?_⟩
 rw [uH (by lia) hro.rule]
 ((try (left)); (try dsimp only [af, bw, jb, aA, bK, aa, ac, au, al, cP, ao, aq, bv, cz, ad, b6, cj, aB, aM, c9]); (try simp only [bk, bF, aV]))
 (refine ⟨by decide, ?_⟩)
 (try simp only [q4, jE, jb, aA, bK, aa, ac, au, al, ad, bv, ao, cP, aq, cz, cj, aB, aM, b6, c9, aV])
 (refine ⟨by decide, ?_⟩)
 (try simp only [q3, jE, jb, aA, aX, ac, au, al, ao, bK, aa, bB, aG, ad, bN, qZ, cP, be, b6, am, aH, bk, bF, aV, aF, av, aq, dG, eG])
 refine ⟨rfl, a, dx, s, nm, e, rows, named, rfl, rfl, nA, gD nA, ?_⟩
 have q5 : (c0 (rows.length : Nat) != Str.ofString (toString ((rows.length : Nat) : Int))) = false := by
  show (c0 (rows.length : Nat) != c0 (rows.length : Nat)) = false
  exact bne_self_eq_false _
 ((try dsimp only [aZ, al, aK, au, aY, az, ay]); (try simp only [q5, jE, cH, b0, aw]); (repeat (left; (try dsimp only [af, br, bB, ac, al, bN, aa, aX, a9, ad, aZ, am, ao, aq, aG, au, az, ay, av, jV, gC, dG, aF]); (try simp only [aV]))))
 ((try dsimp only [PO, aH]); (try simp only [bk, bF, aV]))
 refine ⟨rfl, _, w, r.cl, rfl, rfl, by simp only [Str.length_append, iu]; lia, hr1, nA, fun x hx => by have := hro.cl.2 x hx; exact nA, ?_⟩
 (try dsimp only [ay])
 refine ⟨_, w, r.pr, rfl, rfl, by simp only [Str.length_append, iu]; lia, hr2, nA, fun x hx => by have := hro.pr x hx; lia, ?_⟩
 (try dsimp only [ay])
 refine ⟨_, w, r.note, rfl, rfl, by simp only [Str.length_append, iu]; lia, hn, hro.note, hro.cost, ?_⟩
 (skip)
 refine ⟨a, dx, s, nm, e, rows, named, r, rfl, rfl, nA, hro.rule, hro.cl.1, nA, nA, hro.pr, fun e' => ?_⟩
 ((try (left)); (try dsimp only [PO, aZ, al, aK, au, aY, az, ay, aw]))
 exact bA (rest := _) (fl := .next) (hk e') lY rfl (List.nil_sublist _) rfl
theorem DW : (fz.all fun i => fz.all fun j => (c0 i == c0 j) == (i == j)) = true := by decide +kernel
theorem EQ {i j : Int} (hi : i.natAbs ≤ 20) (hj : j.natAbs ≤ 20) (h : i ≠ j) : (c0 i != c0 j) = true := by
 have := List.all_eq_true.mp (List.all_eq_true.mp DW i (f6 hi)) j (f6 hj)
 have h2 : (i == j) = false := by simpa using h
 rw [h2] at this
 have : (c0 i == c0 j) = false := by simpa using this
 simp [bne, this]
inductive il : List D → List (Addr × O) → Prop
 | mk {ds : List D} {sub : List (Addr × O)} (a dx s nm : Addr) (e : Int) (rows : List cT) (named : List D) (n m : Nat) (r : cT) (w : Int) (h0 : ds = [.ref a, .str (bt n r), .int w]) (h1 : sub = PR a dx s nm e rows named) (h2 : gf m r) (h3 : m ≤ 20) (h4 : n ≤ 20) (h5 : rows.length ≤ 20) (h6 : n ≠ rows.length) : il ds sub
theorem sL : ∀ ds sub, il ds sub → (ki ey f5 iY ik) ⟨ds.map some ++ List.replicate (5 - ds.length) none, sub⟩ (fun fl _ => fl = .exc) := by
 rintro ds sub ⟨a, dx, s, nm, e, rows, named, n, m, r, w, rfl, rfl, hro, hm, hn, hl, hne⟩
 have hlen : (bt n r).length ≤ 600 := by
  have h1 := cM (i := (n : Nat)) ooK
  have q_a1 := hro.texts hm
  simp only [bt, Str.length_append, d5, ig, iu, kw]
  lia
 have hss := dZ (x := bt n r) (y := "|") nA (by rw [AV]; decide)
 have hhl := qD hn hro.rule
 have hws := eJ (x := fQ n r.rule) nA
 ((try dsimp only [aB, aM, cS, cR, PR, PO, ki, n8, af, ba, bq, ac, aL, MS.set, bP, aa, bh, ad, mq, be, az, ay]); (try simp only [bk, bF, az, ay, au, al, aY, aK, be]))
 refine ⟨hss.1, hss.2.1, hss.2.2, fun b => ?_⟩
 rw [wv hro hn hm]
 ((try (left)); (try dsimp only [gY, af, ba, bq, aX, ac, au, al, aL, MS.set, bP, ad, gZ, be, ao, aq, aY, aK, az, ay, av]); (try simp only [bk, bF, cI, am, be, aV]))
 refine ⟨hws.1, hws.2, fun c => ?_⟩
 rw [uH hn hro.rule]
 ((try (left)); (try dsimp only [af, bw, jb, aA, bK, aa, ac, au, al, cP, ao, aq, bv, cz, ad, b6, cj, aB, aM, c9]); (try simp only [bk, bF, aV]))
 (refine ⟨by decide, ?_⟩)
 (try simp only [q4, jE, jb, aA, bK, aa, ac, au, al, ad, bv, ao, cP, aq, cz, cj, aB, aM, b6, c9, aV])
 (refine ⟨by decide, ?_⟩)
 (try simp only [q3, jE, jb, aA, aX, ac, au, al, ao, bK, aa, bB, aG, ad, bN, qZ, cP, be, b6, am, aH, bk, bF, aV, aF, av, aq, dG, eG])
 refine ⟨rfl, a, dx, s, nm, e, rows, named, rfl, rfl, nA, gD ooK, ?_⟩
 have q5 : (c0 (n : Nat) != Str.ofString (toString ((rows.length : Nat) : Int))) = true := EQ ooK ooK (by lia)
 ((try dsimp only [aZ, al, aK, au, aY, az, ay]); (try simp only [q5, Dv, cQ, af, pc, aa, bh, ac, au, al, ad, aB, aM, kN, and_true]))
noncomputable def RB : SC := (aj (ba (aX (fun _ => 4) (bq bP (aX (fun _ => 3) (ac 2) (ac 3)) (aa (bh ";") ad)) (ao 0)) (aL 4)) (aj (ba (bq bP (ac 4) ad) (aL 5)) (aj (fu (ip (aA fy (bK (bv (fun _ => 5)) (aa (ac 5) ad)) (ao 3)) (ip (aA fy (aX (fun _ => 5) (ac 5) (ao 0)) (bh "name")) (cH true))) (aj (fu (qR (i0 (gw (a9 bQ [] (aa (aX (fun _ => 5) (ac 5) (ao 1)) ad)))) (qR (i0 (gw (a9 bQ [] (aa (aX (fun _ => 5) (ac 5) (ao 2)) ad)))) (cH false))) (aj eS aw) aw) (aj (br (bB 230 (fun _ => 0) "name" dk [0, 1, 2] (ac 1) (aa (bK mh (aa (aX (fun _ => 5) (ac 5) (ao 1)) ad)) (aa (bK mh (aa (aX (fun _ => 5) (ac 5) (ao 2)) ad)) ad)))) aw)) (aj (fu (ip (aA (oI fun a b => decide (b < a)) (bK (bv (fun _ => 5)) (aa (ac 5) ad)) (ao 0)) (ip (aA fy (aX (fun _ => 5) (ac 5) (ao 0)) (bh "step")) (cH true))) (aj (br (a9 fU [0, 1, 2] (aa (ac 1) (aa (ac 4) (aa (ac 3) ad))))) aw) (aj (fu (aA (oI fun a b => decide (b < a)) (bK (bv (fun _ => 5)) (aa (ac 5) ad)) (ao 0)) (aj eS aw) aw) aw)) aw)) aw)))
noncomputable def Fb : SC := (aj (ba (aX (fun _ => 4) (bq bP (aX (fun _ => 3) (ac 2) (ac 3)) (aa (bh ";") ad)) (ao 0)) (aL 4)) (aj (ba (bq bP (ac 4) ad) (aL 5)) (aj (fu (ip (aA fy (bK (bv (fun _ => 5)) (aa (ac 5) ad)) (ao 3)) (ip (aA fy (aX (fun _ => 5) (ac 5) (ao 0)) (bh "name")) (cH true))) (aj (fu (qR (i0 (gw (a9 bQ [] (aa (aX (fun _ => 5) (ac 5) (ao 1)) ad)))) (qR (i0 (gw (a9 bQ [] (aa (aX (fun _ => 5) (ac 5) (ao 2)) ad)))) (cH false))) (aj eS aw) aw) (aj (br (bB 230 (fun _ => 0) "name" dk [0, 1, 2] (ac 1) (aa (bK mh (aa (aX (fun _ => 5) (ac 5) (ao 1)) ad)) (aa (bK mh (aa (aX (fun _ => 5) (ac 5) (ao 2)) ad)) ad)))) aw)) (aj (fu (ip (aA (oI fun a b => decide (b < a)) (bK (bv (fun _ => 5)) (aa (ac 5) ad)) (ao 0)) (ip (aA fy (aX (fun _ => 5) (ac 5) (ao 0)) (bh "step")) (cH true))) (aj (fun σ k => br (a9 fU [0, 1, 2] (aa (ac 1) (aa (ac 4) (aa (ac 3) ad)))) σ k ∨ rh il [0, 1, 2] (aa (ac 1) (aa (ac 4) (aa (ac 3) ad))) σ k) aw) (aj (fu (aA (oI fun a b => decide (b < a)) (bK (bv (fun _ => 5)) (aa (ac 5) ad)) (ao 0)) (aj (pc (aa (bh "a row is neither a name nor a step") (aa (ac 3) ad))) aw) aw) aw)) aw)) aw)))
theorem ER {text : Str} {pa lr a dx s nm : Addr} {e : Int} {rows : List cT} {named : List D} {L : List Str} {i v t : Nat} {v4 v5 : Option D} {k : Fl → MS → Prop} (hL : L[i]? = some (dw v t "app")) (hi : i ≤ 1000) (hv : v ≤ 20) (ht : t ≤ 20) (hnm : named.length = v)
  (hk : ∀ v4 v5 tail, k .next ⟨[some (.str text), some (.ref a), some (.ref lr), some (.int (i : Nat)), v4, v5], PR a dx s nm e rows (named ++ [.int (t : Nat)]) ++ ((lr, .list (L.map .str)) :: tail)⟩) :
  RB ⟨[some (.str text), some (.ref a), some (.ref lr), some (.int (i : Nat)), v4, v5], PR a dx s nm e rows named ++ [(lr, .list (L.map .str))]⟩ k := by
 have hlen := nf hv ht
 have hss := dZ (x := dw v t "app") (y := ";") nA (by rw [kZ]; decide)
 have hhl := qE hv ht
 have hws := eJ (x := eV v t) (by lia)
 have hg : (L.map D.str)[i]? = some (.str (dw v t "app")) := by rw [List.getElem?_map, hL]; rfl
 have b1 := cM (i := (v : Nat)) (by lia)
 have b2 := cM (i := (t : Nat)) (by lia)
 have c1 := kX (i := (v : Nat)) (by lia)
 have c2 := kX (i := (t : Nat)) (by lia)
 have c3 := jm (i := (v : Nat)) (by lia)
 have c4 := jm (i := (t : Nat)) (by lia)
 have qn : ((("name" : String) : Str) == (("name" : String) : Str)) = true := by decide
 ((try dsimp only [RB, fy, PR, PO, az, ay, af, ba, aX, bq, ac, au, al, aL, MS.set, ao, aq, bP, aa, bh, ad, mq, be, aY, aK, av]); (try simp only [bO _ i (by lia), hg, aV, am, be]))
 refine ⟨hss.1, hss.2.1, hss.2.2, fun b => ?_⟩
 rw [l9 hv ht]
 ((try simp only [bk, bF, cI, am]); (repeat (left; (try dsimp only [af, ba, bq, ac, au, al, aL, MS.set, bP, ad, gZ, be, aY, aK, az, ay]))))
 refine ⟨hws.1, hws.2, fun c => ?_⟩
 rw [uI hv ht]
 ((try (left)); (try dsimp only [af, bw, dz, aA, bK, aa, ac, au, al, cP, ao, aq, bv, cz, ad, b6, cj, c9]); (try simp only [bk, bF, aB, aM, aV]))
 (refine ⟨by decide, ?_⟩)
 (try simp only [Hx, gq, dz, aA, aX, ac, au, al, ao, bh, cP, be, av, aV, aq, cI, am, eG, qn, cH, cQ, af, bw, jb, i0, gw, a9, aa, ad, bN, aZ, az, ay, dG])
 refine ⟨_, rfl, rfl, by lia, ?_⟩
 ((try dsimp only [dE]); (try simp only [c1, Bool.not_true, jE, jb, i0, gw, a9, aa, aX, ac, au, al, ao, ad, bN, aZ, az, ay, am, av, aV, aq, gC]))
 refine ⟨_, rfl, rfl, by lia, ?_⟩
 ((try dsimp only [dE]); (try simp only [c2, Bool.not_true, jE, cH, b0, aw]); (repeat (left; (try dsimp only [af, br, bB, ac, au, al, bN, aa, bK, aX, ad, mh, b6, ao, aq, aG, am, av, gC, eG, dG, aH, aF]); (try simp only [bk, bF, aV]))))
 refine ⟨rfl, by lia, ?_⟩
 (try simp only [c3, am])
 (refine ⟨by lia, ?_⟩)
 (try simp only [c4, am])
 refine ⟨a, dx, s, nm, e, rows, named, .int (t : Nat), by rw [hnm], rfl, by lia, ?_⟩
 ((try (left)); (try dsimp only [PO, aZ, al, aK, au, aY, az, ay, aw]); (repeat (left; (try dsimp only [aw]))))
 exact hk _ _ _
theorem DX {text : Str} {pa lr a dx s nm : Addr} {e : Int} {rows : List cT} {named : List D} {L : List Str} {i v t : Nat} {v4 v5 : Option D} {k : Fl → MS → Prop} (hL : L[i]? = some (dw v t "app")) (hi : i ≤ 1000) (hv : v ≤ 20) (ht : t ≤ 20) (hnm : named.length = v)
  (hk : ∀ v4 v5 tail, k .next ⟨[some (.str text), some (.ref a), some (.ref lr), some (.int (i : Nat)), v4, v5], PR a dx s nm e rows (named ++ [.int (t : Nat)]) ++ ((lr, .list (L.map .str)) :: tail)⟩) :
  Fb ⟨[some (.str text), some (.ref a), some (.ref lr), some (.int (i : Nat)), v4, v5], PR a dx s nm e rows named ++ [(lr, .list (L.map .str))]⟩ k := by
 have hlen := nf hv ht
 have hss := dZ (x := dw v t "app") (y := ";") nA (by rw [kZ]; decide)
 have hhl := qE hv ht
 have hws := eJ (x := eV v t) (by lia)
 have hg : (L.map D.str)[i]? = some (.str (dw v t "app")) := by rw [List.getElem?_map, hL]; rfl
 have b1 := cM (i := (v : Nat)) (by lia)
 have b2 := cM (i := (t : Nat)) (by lia)
 have c1 := kX (i := (v : Nat)) (by lia)
 have c2 := kX (i := (t : Nat)) (by lia)
 have c3 := jm (i := (v : Nat)) (by lia)
 have c4 := jm (i := (t : Nat)) (by lia)
 have qn : ((("name" : String) : Str) == (("name" : String) : Str)) = true := by decide
 ((try dsimp only [Fb, fy, br, a9, aa, ac, bN, ad, PR, PO, az, ay, af, ba, aX, bq, au, al, aL, MS.set, ao, aq, bP, bh, mq, be, aY, aK, av]); (try simp only [bO _ i (by lia), hg, aV, am, be]))
 refine ⟨hss.1, hss.2.1, hss.2.2, fun b => ?_⟩
 rw [l9 hv ht]
 ((try simp only [bk, bF, cI, am]); (repeat (left; (try dsimp only [af, ba, bq, ac, au, al, aL, MS.set, bP, ad, gZ, be, aY, aK, az, ay]))))
 refine ⟨hws.1, hws.2, fun c => ?_⟩
 rw [uI hv ht]
 ((try (left)); (try dsimp only [af, bw, dz, aA, bK, aa, ac, au, al, cP, ao, aq, bv, cz, ad, b6, cj, c9]); (try simp only [bk, bF, aB, aM, aV]))
 (refine ⟨by decide, ?_⟩)
 (try simp only [Hx, gq, dz, aA, aX, ac, au, al, ao, bh, cP, be, av, aV, aq, cI, am, eG, qn, cH, cQ, af, bw, jb, i0, gw, a9, aa, ad, bN, aZ, az, ay, dG])
 refine ⟨_, rfl, rfl, by lia, ?_⟩
 ((try dsimp only [dE]); (try simp only [c1, Bool.not_true, jE, jb, i0, gw, a9, aa, aX, ac, au, al, ao, ad, bN, aZ, az, ay, am, av, aV, aq, gC]))
 refine ⟨_, rfl, rfl, by lia, ?_⟩
 ((try dsimp only [dE]); (try simp only [c2, Bool.not_true, jE, cH, b0, aw]); (repeat (left; (try dsimp only [af, br, bB, ac, au, al, bN, aa, bK, aX, ad, mh, b6, ao, aq, aG, am, av, gC, eG, dG, aH, aF]); (try simp only [bk, bF, aV]))))
 refine ⟨rfl, by lia, ?_⟩
 (try simp only [c3, am])
 (refine ⟨by lia, ?_⟩)
 (try simp only [c4, am])
 refine ⟨a, dx, s, nm, e, rows, named, .int (t : Nat), by rw [hnm], rfl, by lia, ?_⟩
 ((try (left)); (try dsimp only [PO, aZ, al, aK, au, aY, az, ay, aw]); (repeat (left; (try dsimp only [aw]))))
 exact hk _ _ _
theorem ET {text : Str} {pa lr a dx s nm : Addr} {e : Int} {rows : List cT} {named : List D} {L : List Str} {i : Nat} {r : cT} {v4 v5 : Option D} {k : Fl → MS → Prop} (hL : L[i]? = some (bt rows.length r)) (hi : i ≤ 1000) (hro : gf rows.length r) (hl : rows.length ≤ 12)
  (hk : ∀ e' v4 v5 tail, k .next ⟨[some (.str text), some (.ref a), some (.ref lr), some (.int (i : Nat)), v4, v5], PR a dx s nm e' (rows ++ [r]) named ++ ((lr, .list (L.map .str)) :: tail)⟩) :
  RB ⟨[some (.str text), some (.ref a), some (.ref lr), some (.int (i : Nat)), v4, v5], PR a dx s nm e rows named ++ [(lr, .list (L.map .str))]⟩ k := by
 have hlen := gX hro nA
 have hss := dZ (x := bt rows.length r) (y := ";") nA (by rw [kZ]; decide)
 have hws := eJ (x := bt rows.length r) nA
 have hg : (L.map D.str)[i]? = some (.str (bt rows.length r)) := by rw [List.getElem?_map, hL]; rfl
 obtain ⟨ws, hw⟩ := px rows.length r
 have wl1 : ws.length ≤ 1000 := by
  have := StrLaws.words_weight (bt rows.length r)
  rw [hw] at this
  simp only [bk, List.sum_cons, aB] at this
  lia
 have qn : ((("step" : String) : Str) == (("name" : String) : Str)) = false := by decide
 have qs : ((("step" : String) : Str) == (("step" : String) : Str)) = true := by decide
 have qg : decide ((0 : Int) < ((ws.length + 1 : Nat) : Int)) = true := by simp
 have e0 : ∀ (x : D) (l : List D), iq (x :: l) 0 = some x := fun _ _ => rfl
 ((try dsimp only [RB, fy, PR, PO, az, ay, af, ba, aX, bq, ac, au, al, aL, MS.set, ao, aq, bP, aa, bh, ad, mq, be, aY, aK, av]); (try simp only [bO _ i (by lia), hg, aV, am, be]))
 refine ⟨hss.1, hss.2.1, hss.2.2, fun b => ?_⟩
 rw [i6 hro (by lia) (by lia)]
 ((try simp only [bk, bF, cI, am]); (repeat (left; (try dsimp only [af, ba, bq, ac, au, al, aL, MS.set, bP, ad, gZ, be, aY, aK, az, ay]))))
 refine ⟨hws.1, hws.2, fun c => ?_⟩
 rw [hw]
 ((try (left)); (try dsimp only [af, bw, dz, aA, bK, aa, ac, au, al, cP, ao, aq, bv, cz, ad, b6, cj, c9]); (try simp only [bk, aB, dI, aV]))
 (refine ⟨by lia, ?_⟩)
 have key : ∀ z : Prop, z → z := fun _ h => h
 cases hq : (((ws.length + 1 : Nat) : Int) == 3)
 all_goals
  ((try dsimp only [gN, b0, af, bw, dz, aA, bK, aa, ac, au, al, oI, ao, aq, bv, ad, b6, cj, aB, c9, gq, aX, cP, bh, be, av, cI, am, eG]); (try simp only [dI, qg, gq, dz, aA, aX, ac, au, al, ao, bh, cP, be, av, aV, aq, e0, am, eG, qs, cH, cQ, af, br, a9, aa, ad, bN, qn, gN, b0, bw, bK, bv, oI, cj, aB, b6, c9]))
  (refine ⟨by lia, ?_⟩)
  refine ⟨a, dx, s, nm, e, rows, named, r, (i : Nat), rfl, rfl, hro, hl, fun e' => ?_⟩
  ((try (left)); (try dsimp only [PO, aZ, al, aK, au, aY, az, ay, aw]); (repeat (left; (try dsimp only [aw]))))
  exact hk _ _ _ _
theorem DY {text : Str} {pa lr a dx s nm : Addr} {e : Int} {rows : List cT} {named : List D} {L : List Str} {i : Nat} {r : cT} {v4 v5 : Option D} {k : Fl → MS → Prop} (hL : L[i]? = some (bt rows.length r)) (hi : i ≤ 1000) (hro : gf rows.length r) (hl : rows.length ≤ 12)
  (hk : ∀ e' v4 v5 tail, k .next ⟨[some (.str text), some (.ref a), some (.ref lr), some (.int (i : Nat)), v4, v5], PR a dx s nm e' (rows ++ [r]) named ++ ((lr, .list (L.map .str)) :: tail)⟩) :
  Fb ⟨[some (.str text), some (.ref a), some (.ref lr), some (.int (i : Nat)), v4, v5], PR a dx s nm e rows named ++ [(lr, .list (L.map .str))]⟩ k := by
 have hlen := gX hro nA
 have hss := dZ (x := bt rows.length r) (y := ";") nA (by rw [kZ]; decide)
 have hws := eJ (x := bt rows.length r) nA
 have hg : (L.map D.str)[i]? = some (.str (bt rows.length r)) := by rw [List.getElem?_map, hL]; rfl
 obtain ⟨ws, hw⟩ := px rows.length r
 have wl1 : ws.length ≤ 1000 := by
  have := StrLaws.words_weight (bt rows.length r)
  rw [hw] at this
  simp only [bk, List.sum_cons, aB] at this
  lia
 have qn : ((("step" : String) : Str) == (("name" : String) : Str)) = false := by decide
 have qs : ((("step" : String) : Str) == (("step" : String) : Str)) = true := by decide
 have qg : decide ((0 : Int) < ((ws.length + 1 : Nat) : Int)) = true := by simp
 have e0 : ∀ (x : D) (l : List D), iq (x :: l) 0 = some x := fun _ _ => rfl
 ((try dsimp only [Fb, fy, br, a9, aa, ac, bN, ad, PR, PO, az, ay, af, ba, aX, bq, au, al, aL, MS.set, ao, aq, bP, bh, mq, be, aY, aK, av]); (try simp only [bO _ i (by lia), hg, aV, am, be]))
 refine ⟨hss.1, hss.2.1, hss.2.2, fun b => ?_⟩
 rw [i6 hro (by lia) (by lia)]
 ((try simp only [bk, bF, cI, am]); (repeat (left; (try dsimp only [af, ba, bq, ac, au, al, aL, MS.set, bP, ad, gZ, be, aY, aK, az, ay]))))
 refine ⟨hws.1, hws.2, fun c => ?_⟩
 rw [hw]
 ((try (left)); (try dsimp only [af, bw, dz, aA, bK, aa, ac, au, al, cP, ao, aq, bv, cz, ad, b6, cj, c9]); (try simp only [bk, aB, dI, aV]))
 (refine ⟨by lia, ?_⟩)
 have key : ∀ z : Prop, z → z := fun _ h => h
 cases hq : (((ws.length + 1 : Nat) : Int) == 3)
 all_goals
  ((try dsimp only [gN, b0, af, bw, dz, aA, bK, aa, ac, au, al, oI, ao, aq, bv, ad, b6, cj, aB, c9, gq, aX, cP, bh, be, av, cI, am, eG]); (try simp only [dI, qg, gq, dz, aA, aX, ac, au, al, ao, bh, cP, be, av, aV, aq, e0, am, eG, qs, cH, cQ, af, qn, gN, b0, bw, bK, aa, ad, bv, oI, cj, aB, b6, c9]))
  (refine ⟨by lia, ?_⟩)
  refine .inl ?_
  refine ⟨a, dx, s, nm, e, rows, named, r, (i : Nat), rfl, rfl, hro, hl, fun e' => ?_⟩
  ((try (left)); (try dsimp only [PO, aZ, al, aK, au, aY, az, ay, aw]); (repeat (left; (try dsimp only [aw]))))
  exact hk _ _ _ _
theorem zn : ∀ {ts : List Nat} {v i t : Nat}, ts[i]? = some t → (cx v ts)[i]? = some (dw (v + i) t "app")
 | [], v, i, t, h => by simp at h
 | a :: ts, v, 0, t, h => by simp at h; subst h; rfl
 | a :: ts, v, i + 1, t, h => by
  have := zn (v := v + 1) (show ts[i]? = some t by simpa using h)
  rw [cx, au, this, show v + 1 + i = v + (i + 1) by lia]
theorem zo : ∀ {ts : List cT} {v i : Nat} {t : cT}, ts[i]? = some t → (bJ v ts)[i]? = some (bt (v + i) t)
 | [], v, i, t, h => by simp at h
 | a :: ts, v, 0, t, h => by simp at h; subst h; rfl
 | a :: ts, v, i + 1, t, h => by
  have := zo (v := v + 1) (show ts[i]? = some t by simpa using h)
  rw [bJ, au, this, show v + 1 + i = v + (i + 1) by lia]
theorem wx {ts : List Nat} {i t : Nat} {rest : List Str} (h : ts[i]? = some t) : (cx 1 ts ++ rest)[i]? = some (dw (i + 1) t "app") := by
 have hl := (List.getElem?_eq_some_iff.mp h).1
 rw [List.getElem?_append_left (by rw [cE]; exact hl), zn h, Nat.add_comm]
theorem wy {ts : List Nat} {rows : List cT} {i : Nat} {r : cT} {rest : List Str} (h : rows[i]? = some r) : (cx 1 ts ++ (bJ 0 rows ++ rest))[ts.length + i]? = some (bt i r) := by
 have hl := (List.getElem?_eq_some_iff.mp h).1
 rw [List.getElem?_append_right (by rw [cE]; lia), cE, Nat.add_sub_cancel_left, List.getElem?_append_left (by rw [c5]; exact hl), zo h, Nat.zero_add]
theorem DZ {ts : List Nat} {rows : List cT} {x : Str} {rest : List Str} : (cx 1 ts ++ (bJ 0 rows ++ x :: rest))[ts.length + rows.length]? = some x := by
 rw [List.getElem?_append_right (by rw [cE]; lia), cE, Nat.add_sub_cancel_left, List.getElem?_append_right (by rw [c5]; lia), c5, Nat.sub_self]; rfl
theorem uL {L : List Str} (h : ∀ x ∈ L, x.length ≤ 600) (hl : L.length ≤ 40) : (Txt.join "\n" L).length ≤ 900000 := by
 have := StrLaws.join_length_le "\n" L
 have h2 := z8 h
 have e : Txt.join "\n" L = Str.join "\n" L := by show Builtin.Str.glued _ _ = _; rw [StrLaws.glued_eq_join]
 rw [e]
 rw [wm] at this
 lia
theorem xw (t1 : List Nat) (t : Nat) : NL t1 ++ [D.int (t : Nat)] = NL (t1 ++ [t]) := by simp [NL]
inductive f9 : List D → List (Addr × O) → cu → Prop
 | mk {ds : List D} {sub : List (Addr × O)} {k : cu} (ts : List Nat) (rows : List cT) (h0 : ds = [.str (eU ts rows)]) (h1 : sub = []) (h2 : iJ ts) (h3 : 0 < ts.length) (h4 : cw rows) (h5 : ∀ a dx s nm e, k (.ref a) [] (PR a dx s nm e rows (NL ts))) : f9 ds sub k
theorem sM : fC (lA dR dk bQ fU) 6 f9 := by
 rintro ds sub k ⟨ts, rows, rfl, rfl, hn, h0, hok, hk⟩
 obtain ⟨g1, g2⟩ := th hn hok
 have h13 := hok.1
 have h10 := hn.len
 have hL : ∃ L, L = cN ts rows := ⟨_, rfl⟩
 obtain ⟨L, hL⟩ := hL
 have hLn : L.length = ts.length + rows.length := by rw [hL]; simp [cN, cE, c5]
 have htl : (eU ts rows).length ≤ 900000 := uL g1 nA
 have hne : (eU ts rows != "") = true := by
  cases ts with
  | nil => simp at h0
  | cons t ts =>
   have : 0 < (dw 1 t "app").length := by
    simp only [dw, Str.length_append, d5, iI, iu, jj, lJ]; lia
   exact AU this
 have hss := dZ (x := eU ts rows) (y := "\n") htl (by rw [wm]; decide)
 have hsp : Txt.split (eU ts rows) "\n" = L := by
  rw [hL]
  refine nh (fun e => ?_) (xv hn hok)
  rw [← hL] at e
  rw [e] at hLn
  simp at hLn; lia
 have hLe : L = cx 1 ts ++ (bJ 0 rows ++ []) := by rw [hL, List.append_nil]; rfl
 generalize htx : eU ts rows = text at *
 ((try dsimp only [aB, aM, cS, cR, lA, n8, fy, af, ba, sx, ad, aL, MS.set, ay]); (try simp only [bk, bF, az, ay, aY, aK]))
 intro a dx
 refine ⟨a, dx, rfl, rfl, fun s nm => ?_⟩
 ((try dsimp only [PO]); (try simp only [aV]); (repeat (left; (try dsimp only [af, ba, aL, MS.set, oV, aA, ac, al, cP, bh, be, eG]); (try simp only [hne, mZ, bq, ac, al, aa, bh, ad, bP, aY, aK, az, ay, mq, be]))))
 refine ⟨hss.1, hss.2.1, hss.2.2, fun lr => ?_⟩
 rw [hsp]
 ((try (left)); (try dsimp only [af, dq, bE, aa, bK, ac, au, al, MS.trunc, ad, gZ, bv, aq, b6, aB, aM, cj, c9]); (try simp only [dI, aV]))
 refine ⟨by lia, ⟨ooR, by lia⟩, ?_⟩
 refine bS (fun l σ => GW fun (t1 t2 : List Nat) (r1 r2 : List cT) (e : Int) (v3 v4 v5 : Option D) => GX (ts = t1 ++ t2) (rows = r1 ++ r2) ((t2 = [] ∨ r1 = [])) (l = db ((t1.length + r1.length : Nat) : Int) 1 (t2.length + r2.length)) (σ = ⟨[some (.str text), some (.ref a), some (.ref lr), v3, v4, v5], PR a dx s nm e r1 (NL t1) ++ [(lr, .list (L.map .str))]⟩)) ?_ ?_ _ _ ⟨[], ts, [], rows, -1, none, none, none, rfl, rfl, .inr rfl, ?_, rfl⟩
 ·rintro σ ⟨t1, t2, r1, r2, e, v3, v4, v5, e1, e2, -, e3, rfl⟩
  have hz : t2.length + r2.length = 0 := by
   cases hh : t2.length + r2.length with
   | zero => rfl
   | succ m => rw [hh, bu] at e3; cases e3
  have z1 : t2 = [] := List.length_eq_zero_iff.mp (by lia)
  have z2 : r2 = [] := List.length_eq_zero_iff.mp (by lia)
  subst z1 z2
  rw [List.append_nil] at e1 e2
  subst e1 e2
  ((try (left)); (try dsimp only [PR, PO, az, ay, af, bp, ac, au, al, aW]))
  exact bA (rest := PR a dx s nm e rows (NL ts) ++ [(lr, .list (L.map .str))]) (fl := .ret _) (hk a dx s nm e) trivial rfl (List.sublist_append_left _ _) rfl
 ·rintro d l σ ⟨t1, t2, r1, r2, e, v3, v4, v5, e1, e2, e12, e3, rfl⟩ ih
  rw [bj]
  cases t2 with
  | cons t t2 =>
   have hr1 : r1 = [] := e12.resolve_left (by simp)
   subst hr1
   rw [show (t :: t2).length + r2.length = (t2.length + r2.length) + 1 by simp; lia, bu] at e3
   cases e3
   have hl1 : t1.length < 10 := by rw [e1] at h10; simp at h10; lia
   have hg : ts[t1.length]? = some t := by rw [e1]; simp
   refine ER (pa := a) (L := L) (i := t1.length) (v := t1.length + 1) (t := t) (named := NL t1) (rows := []) (e := e) (by rw [hLe]; exact wx hg) (by lia) nA (hn.le t (HM hg)) (by simp [NL]) fun v4 v5 tail => ?_
   rw [xw]
   refine jU ⟨trivial, ih _ ⟨t1 ++ [t], t2, [], r2, e, some (.int (t1.length : Nat)), v4, v5, by rw [e1]; simp, e2, .inr rfl, by simp, rfl⟩⟩
  | nil =>
   cases r2 with
   | nil => cases e3
   | cons r r2 =>
    rw [show ([] : List Nat).length + (r :: r2).length = (([] : List Nat).length + r2.length) + 1 by simp, bu] at e3
    cases e3
    rw [List.append_nil] at e1
    subst e1
    have hl1 : r1.length < 13 := by rw [e2] at h13; simp at h13; lia
    have hg : rows[r1.length]? = some r := by rw [e2]; simp
    refine ET (pa := a) (L := L) (i := ts.length + r1.length) (r := r) (named := NL ts) (rows := r1) (e := e) (by rw [hLe]; exact wy hg) (by lia) (hok.2 _ r hg) (by lia) fun e' v4 v5 tail => ?_
    refine jU ⟨trivial, ih _ ⟨ts, [], r1 ++ [r], r2, e', some (.int (ts.length + r1.length : Nat)), v4, v5, by simp, by rw [e2]; simp, .inl rfl, by simp [Int.add_assoc], rfl⟩⟩
 ·rw [hLn]; rfl
structure iK (ts : List Nat) (rows : List cT) (x : Str) (rest : List Str) : Prop where
 names : iJ ts
 pos : 0 < ts.length
 rok : cw rows
 bad : x = "stop" ∨ ∃ n m r, x = bt n r ∧ gf m r ∧ m ≤ 20 ∧ n ≤ 20 ∧ n ≠ rows.length
 len : rest.length ≤ 13
 short : ∀ y ∈ rest, y.length ≤ 600
 nl : ∀ y ∈ rest, 10 ∉ cF y
noncomputable def dM (ts : List Nat) (rows : List cT) (x : Str) (rest : List Str) : List Str := cx 1 ts ++ (bJ 0 rows ++ x :: rest)
theorem Ae : Txt.words "stop" = [(("stop" : String) : Str)] := by
 have e : cF (("stop" : String) : Str) = [115, 116, 111, 112] := by decide
 have p : gu [115, 116, 111, 112] = true := by decide +kernel
 rw [kU, e, ← List.append_nil [115, 116, 111, 112], sK p (.inl rfl)]
 show [S _] = _
 rw [← e, kT]
theorem Cd : Txt.split "stop" ";" = [(("stop" : String) : Str)] := by
 rw [uE, nc, tg 59 _ _ (by decide), ay, bk, kT]; rfl
theorem xx : (("stop" : String) : Str).length = 4 := rfl
theorem iK.xlen {ts : List Nat} {rows : List cT} {x : Str} {rest : List Str} (h : iK ts rows x rest) : x.length ≤ 600 ∧ 10 ∉ cF x := by
 rcases h.bad with rfl | ⟨n, m, r, rfl, hr, hm, hn, _⟩
 ·exact ⟨by rw [xx]; decide, by decide⟩
 ·refine ⟨?_, xu hr hn hm⟩
  have h1 := cM (i := (n : Nat)) ooK
  have q_a1 := hr.texts hm
  simp only [bt, Str.length_append, d5, ig, iu, kw]
  lia
theorem iK.lines {ts : List Nat} {rows : List cT} {x : Str} {rest : List Str} (h : iK ts rows x rest) : (∀ y ∈ dM ts rows x rest, y.length ≤ 600) ∧ (∀ y ∈ dM ts rows x rest, 10 ∉ cF y) := by
 obtain ⟨g1, g2⟩ := th h.names h.rok
 have g3 := xv h.names h.rok
 obtain ⟨x1, x2⟩ := h.xlen
 constructor
 ·intro y hy
  unfold dM at hy
  rcases List.mem_append.mp hy with q | q
  ·exact g1 y (List.mem_append_left _ q)
  ·rcases List.mem_append.mp q with q | q
   ·exact g1 y (List.mem_append_right _ q)
   ·rcases HL q with rfl | q
    ·exact x1
    ·exact h.short y q
 ·intro y hy
  unfold dM at hy
  rcases List.mem_append.mp hy with q | q
  ·exact g3 y (List.mem_append_left _ q)
  ·rcases List.mem_append.mp q with q | q
   ·exact g3 y (List.mem_append_right _ q)
   ·rcases HL q with rfl | q
    ·exact x2
    ·exact h.nl y q
theorem D0 {text : Str} {lr a dx s nm : Addr} {e : Int} {rows : List cT} {named : List D} {L : List Str} {i : Nat} {v4 v5 : Option D} {k : Fl → MS → Prop} (hL : L[i]? = some (("stop" : String) : Str)) (hi : i ≤ 1000) (hk : ∀ σ, k .exc σ) :
  Fb ⟨[some (.str text), some (.ref a), some (.ref lr), some (.int (i : Nat)), v4, v5], PR a dx s nm e rows named ++ [(lr, .list (L.map .str))]⟩ k := by
 have hss := dZ (x := "stop") (y := ";") (by rw [xx]; decide) (by rw [kZ]; decide)
 have hws := eJ (x := "stop") (by rw [xx]; decide)
 have hg : (L.map D.str)[i]? = some (.str ("stop" : String)) := by rw [List.getElem?_map, hL]; rfl
 have qs : ((("stop" : String) : Str) == (("step" : String) : Str)) = false := by decide
 have e0 : ∀ (x : D) (l : List D), iq (x :: l) 0 = some x := fun _ _ => rfl
 ((try dsimp only [Fb, fy, br, a9, aa, ac, bN, ad, PR, PO, az, ay, af, ba, aX, bq, au, al, aL, MS.set, ao, aq, bP, bh, mq, be, aY, aK, av]); (try simp only [bO _ i (by lia), hg, aV, am, be]))
 refine ⟨hss.1, hss.2.1, hss.2.2, fun b => ?_⟩
 rw [Cd]
 ((try simp only [bk, bF, cI, am]); (repeat (left; (try dsimp only [af, ba, bq, ac, au, al, aL, MS.set, bP, ad, gZ, be, aY, aK, az, ay]))))
 refine ⟨hws.1, hws.2, fun c => ?_⟩
 rw [Ae]
 ((try (left)); (try dsimp only [af, bw, dz, aA, bK, aa, ac, au, al, cP, ao, aq, bv, cz, ad, b6, cj, c9]); (try simp only [bk, bF, aB, aM, aV]))
 (refine ⟨by decide, ?_⟩)
 (try simp only [HF, gN, b0, af, bw, dz, aA, bK, aa, ac, au, al, ad, bv, ao, oI, aq, cj, aB, aM, b6, c9, aV])
 (refine ⟨by decide, ?_⟩)
 (try simp only [HE, gq, dz, aA, aX, ac, au, al, ao, bh, cP, be, av, aV, aq, cI, am, eG, qs, gN, b0, af, bw, bK, aa, ad, bv, oI, cj, aB, aM, cQ, b6, c9])
 (refine ⟨by decide, ?_⟩)
 ((try dsimp only [pc, aa, bh, ac, au, al, kN, aB, ad, aM]); (try simp only [aV]))
 exact hk _
theorem EU {text : Str} {lr a dx s nm : Addr} {e : Int} {rows : List cT} {named : List D} {L : List Str} {i n m : Nat} {r : cT} {v4 v5 : Option D} {k : Fl → MS → Prop} (hL : L[i]? = some (bt n r)) (hi : i ≤ 1000) (hro : gf m r) (hm : m ≤ 20) (hn : n ≤ 20) (hl : rows.length ≤ 20) (hne : n ≠ rows.length) (hk : ∀ σ, k .exc σ) :
  Fb ⟨[some (.str text), some (.ref a), some (.ref lr), some (.int (i : Nat)), v4, v5], PR a dx s nm e rows named ++ [(lr, .list (L.map .str))]⟩ k := by
 have hlen : (bt n r).length ≤ 600 := by
  have h1 := cM (i := (n : Nat)) ooK
  have q_a1 := hro.texts hm
  simp only [bt, Str.length_append, d5, ig, iu, kw]
  lia
 have hss := dZ (x := bt n r) (y := ";") nA (by rw [kZ]; decide)
 have hws := eJ (x := bt n r) nA
 have hg : (L.map D.str)[i]? = some (.str (bt n r)) := by rw [List.getElem?_map, hL]; rfl
 obtain ⟨ws, hw⟩ := px n r
 have wl1 : ws.length ≤ 1000 := by
  have := StrLaws.words_weight (bt n r)
  rw [hw] at this
  simp only [bk, List.sum_cons, aB] at this
  lia
 have qn : ((("step" : String) : Str) == (("name" : String) : Str)) = false := by decide
 have qs : ((("step" : String) : Str) == (("step" : String) : Str)) = true := by decide
 have qg : decide ((0 : Int) < ((ws.length + 1 : Nat) : Int)) = true := by simp
 have e0 : ∀ (x : D) (l : List D), iq (x :: l) 0 = some x := fun _ _ => rfl
 ((try dsimp only [Fb, fy, br, a9, aa, ac, bN, ad, rh, PR, PO, az, ay, af, ba, aX, bq, au, al, aL, MS.set, ao, aq, bP, bh, mq, be, aY, aK, av]); (try simp only [bO _ i (by lia), hg, aV, am, be]))
 refine ⟨hss.1, hss.2.1, hss.2.2, fun b => ?_⟩
 rw [i6 hro hn hm]
 ((try simp only [bk, bF, cI, am]); (repeat (left; (try dsimp only [af, ba, bq, ac, au, al, aL, MS.set, bP, ad, gZ, be, aY, aK, az, ay]))))
 refine ⟨hws.1, hws.2, fun c => ?_⟩
 rw [hw]
 ((try (left)); (try dsimp only [af, bw, dz, aA, bK, aa, ac, au, al, cP, ao, aq, bv, cz, ad, b6, cj, c9]); (try simp only [bk, aB, dI, aV]))
 (refine ⟨by lia, ?_⟩)
 cases hq : (((ws.length + 1 : Nat) : Int) == 3)
 all_goals
  ((try dsimp only [gN, b0, af, bw, dz, aA, bK, aa, ac, au, al, oI, ao, aq, bv, ad, b6, cj, aB, c9, gq, aX, cP, bh, be, av, cI, am, eG]); (try simp only [dI, qg, gq, dz, aA, aX, ac, au, al, ao, bh, cP, be, av, aV, aq, e0, am, eG, qs, cH, cQ, af, kN, qn, gN, b0, bw, bK, aa, ad, bv, oI, cj, aB, b6, c9]))
  refine ⟨by lia, .inr ⟨⟨a, dx, s, nm, e, rows, named, n, m, r, (i : Nat), rfl, rfl, hro, hm, hn, hl, hne⟩, hk _⟩⟩
inductive iL : List D → List (Addr × O) → Prop
 | mk {ds : List D} {sub : List (Addr × O)} (ts : List Nat) (rows : List cT) (x : Str) (rest : List Str) (h0 : ds = [.str (Txt.join "\n" (dM ts rows x rest))]) (h1 : sub = []) (h2 : iK ts rows x rest) : iL ds sub
theorem rN : ∀ ds sub, iL ds sub → (jB dR dk bQ fU il) ⟨ds.map some ++ List.replicate (6 - ds.length) none, sub⟩ (fun fl _ => fl = .exc) := by
 rintro ds sub ⟨ts, rows, x, rest, rfl, rfl, hB⟩
 obtain ⟨g1, g2⟩ := hB.lines
 have h13 := hB.rok.1
 have h10 := hB.names.len
 have hrl := hB.len
 have hn := hB.names
 have hok := hB.rok
 obtain ⟨L, hL⟩ : ∃ L, L = dM ts rows x rest := ⟨_, rfl⟩
 have hLn : L.length = ts.length + rows.length + rest.length + 1 := by rw [hL]; simp [dM, cE, c5]; lia
 have hLe : L = cx 1 ts ++ (bJ 0 rows ++ x :: rest) := hL
 rw [← hL] at g1 g2 ⊢
 have htl : (Txt.join "\n" L).length ≤ 900000 := uL g1 (by lia)
 have hne : (Txt.join "\n" L != "") = true := by
  have h0 := hB.pos
  rw [hLe]
  cases ts with
  | nil => simp at h0
  | cons t ts =>
   have : 0 < (dw 1 t "app").length := by
    simp only [dw, Str.length_append, d5, iI, iu, jj, lJ]; lia
   exact AU this
 have hss := dZ (x := Txt.join "\n" L) (y := "\n") htl (by rw [wm]; decide)
 have hsp : Txt.split (Txt.join "\n" L) "\n" = L := nh (fun e => by rw [e] at hLn; simp at hLn) g2
 generalize htx : Txt.join "\n" L = text at *
 ((try dsimp only [aB, aM, cS, cR, jB, n8, fy, br, a9, aa, ac, bN, ad, af, ba, sx, aL, MS.set, ay]); (try simp only [bk, bF, az, ay, aY, aK]))
 intro a dx
 refine ⟨a, dx, rfl, rfl, fun s nm => ?_⟩
 ((try dsimp only [PO]); (try simp only [aV]); (repeat (left; (try dsimp only [af, ba, aL, MS.set, oV, aA, ac, al, cP, bh, be, eG]); (try simp only [hne, mZ, bq, ac, al, aa, bh, ad, bP, aY, aK, az, ay, mq, be]))))
 refine ⟨hss.1, hss.2.1, hss.2.2, fun lr => ?_⟩
 rw [hsp]
 ((try (left)); (try dsimp only [af, dq, bE, aa, bK, ac, au, al, MS.trunc, ad, gZ, bv, aq, b6, aB, aM, cj, c9]); (try simp only [dI, aV]))
 refine ⟨by lia, ⟨ooR, by lia⟩, ?_⟩
 refine bS (fun l σ => GW fun (t1 t2 : List Nat) (r1 r2 : List cT) (e : Int) (v3 v4 v5 : Option D) => GX (ts = t1 ++ t2) (rows = r1 ++ r2) ((t2 = [] ∨ r1 = [])) (l = db ((t1.length + r1.length : Nat) : Int) 1 (t2.length + r2.length + (rest.length + 1))) (σ = ⟨[some (.str text), some (.ref a), some (.ref lr), v3, v4, v5], PR a dx s nm e r1 (NL t1) ++ [(lr, .list (L.map .str))]⟩)) ?_ ?_ _ _ ⟨[], ts, [], rows, -1, none, none, none, rfl, rfl, .inr rfl, ?_, rfl⟩
 ·rintro σ ⟨t1, t2, r1, r2, e, v3, v4, v5, e1, e2, -, e3, rfl⟩
  rw [show t2.length + r2.length + (rest.length + 1) = (t2.length + r2.length + rest.length) + 1 by lia, bu] at e3
  cases e3
 ·rintro d l σ ⟨t1, t2, r1, r2, e, v3, v4, v5, e1, e2, e12, e3, rfl⟩ ih
  rw [bj]
  cases t2 with
  | cons t t2 =>
   have hr1 : r1 = [] := e12.resolve_left (by simp)
   subst hr1
   rw [show (t :: t2).length + r2.length + (rest.length + 1) = (t2.length + r2.length + (rest.length + 1)) + 1 by simp; lia, bu] at e3
   cases e3
   have hl1 : t1.length < 10 := by rw [e1] at h10; simp at h10; lia
   have hg : ts[t1.length]? = some t := by rw [e1]; simp
   refine DX (pa := a) (L := L) (i := t1.length) (v := t1.length + 1) (t := t) (named := NL t1) (rows := []) (e := e) (by rw [hLe]; exact wx hg) (by lia) nA (hn.le t (HM hg)) (by simp [NL]) fun v4 v5 tail => ?_
   rw [xw]
   refine jU ⟨trivial, ih _ ⟨t1 ++ [t], t2, [], r2, e, some (.int (t1.length : Nat)), v4, v5, by rw [e1]; simp, e2, .inr rfl, by simp, rfl⟩⟩
  | nil =>
   rw [List.append_nil] at e1
   subst e1
   cases r2 with
   | nil =>
    rw [List.append_nil] at e2
    subst e2
    rw [show ([] : List Nat).length + ([] : List cT).length + (rest.length + 1) = rest.length + 1 by simp, bu] at e3
    cases e3
    have hg : L[ts.length + rows.length]? = some x := by rw [hLe]; exact DZ
    rcases hB.bad with hx | ⟨n, m, r, hx, hr, hm, hn', hne⟩
    ·exact D0 (L := L) (i := ts.length + rows.length) (by rw [hg, hx]) (by lia) fun σ => (by simp only [wf, kN])
    ·exact EU (L := L) (i := ts.length + rows.length) (by rw [hg, hx]) (by lia) hr hm hn' nA hne fun σ => (by simp only [wf, kN])
   | cons r r2 =>
    rw [show ([] : List Nat).length + (r :: r2).length + (rest.length + 1) = (([] : List Nat).length + r2.length + (rest.length + 1)) + 1 by simp; lia, bu] at e3
    cases e3
    have hl1 : r1.length < 13 := by rw [e2] at h13; simp at h13; lia
    have hg : rows[r1.length]? = some r := by rw [e2]; simp
    refine DY (pa := a) (L := L) (i := ts.length + r1.length) (r := r) (named := NL ts) (rows := r1) (e := e) (by rw [hLe]; exact wy hg) (by lia) (hok.2 _ r hg) (by lia) fun e' v4 v5 tail => ?_
    refine jU ⟨trivial, ih _ ⟨ts, [], r1 ++ [r], r2, e', some (.int (ts.length + r1.length : Nat)), v4, v5, by simp, by rw [e2]; simp, .inl rfl, by simp [Int.add_assoc], rfl⟩⟩
 ·rw [hLn]; rfl
inductive gQ : List D → List (Addr × O) → Prop
 | mk {ds : List D} {sub : List (Addr × O)} (a : Addr) (ts : List Nat) (rows : List cT) (x : Str) (rest : List Str) (h0 : ds = [.ref a]) (h1 : sub = [(a, .list ((dM ts rows x rest).map .str))]) (h2 : iK ts rows x rest) : gQ ds sub
theorem iK.count {ts : List Nat} {rows : List cT} {x : Str} {rest : List Str} (h : iK ts rows x rest) : (dM ts rows x rest).length ≤ 40 := by
 have h1 := h.names.len
 have h2 := h.rok.1
 have h3 := h.len
 simp only [dM, eX, aB, cE, c5]
 lia
theorem vr : ∀ ds sub, gQ ds sub → (iB iL) ⟨ds.map some ++ List.replicate (1 - ds.length) none, sub⟩ (fun fl _ => fl = .exc) := by
 rintro ds sub ⟨a, ts, rows, x, rest, rfl, rfl, hB⟩
 have h1 := z8 hB.lines.1
 have h2 := hB.count
 ((try dsimp only [aB, aM, iB, rh, aa, bq, bh, bN, am, ad, mx, ac, fV, be, al]); (try simp only [bk, bF, az, ay, al, and_true, av, jr, am, aV]))
 refine ⟨joinOk_of ?_, ⟨ts, rows, x, rest, rfl, rfl, hB⟩⟩
 rw [wm]
 lia
theorem md : ∀ (v : Nat) (a b : List cT), bJ v (a ++ b) = bJ v a ++ bJ (v + a.length) b
 | v, [], b => rfl
 | v, r :: a, b => by
  rw [az, bJ, bJ, md (v + 1) a b, aB, show v + 1 + a.length = v + (a.length + 1) by lia]; rfl
theorem D1 {ts : List Nat} {rows : List cT} (hn : iJ ts) (h0 : 0 < ts.length) (h : cw rows) : iK ts rows "stop" [] ∧ cN ts rows ++ [((("stop" : String) : Str))] = dM ts rows "stop" [] :=
 ⟨⟨hn, h0, h, .inl rfl, by simp, (fun _ q => nomatch q), (fun _ q => nomatch q)⟩, by simp [cN, dM]⟩
theorem cw.take {rows : List cT} (h : cw rows) (m : Nat) : cw (rows.take m) := by
 refine ⟨by rw [List.length_take]; have := h.1; lia, fun i r hi => ?_⟩
 rw [List.getElem?_take] at hi
 split at hi
 ·exact h.2 i r hi
 ·cases hi
theorem D2 {ts : List Nat} {rows : List cT} (hn : iJ ts) (h0 : 0 < ts.length) (h : cw rows) {q : Nat} (hq : q + 1 < rows.length) :
  ∃ r1 x rest, iK ts r1 x rest ∧ (cN ts rows).take (ts.length + q) ++ (cN ts rows).drop (ts.length + q + 1) = dM ts r1 x rest := by
 obtain ⟨r', hr'⟩ : ∃ r', rows[q + 1]? = some r' := ⟨_, List.getElem?_eq_getElem hq⟩
 have h13 := h.1
 have hlt : (rows.take q).length = q := by rw [List.length_take]; lia
 have esp : rows = rows.take q ++ (rows.drop q) := (List.take_append_drop q rows).symm
 have e1 : bJ 0 rows = bJ 0 (rows.take q) ++ bJ q (rows.drop q) := by
  conv => lhs; rw [esp]
  rw [md, hlt, Nat.zero_add]
 have e2 : rows.drop q = rows[q]'nM :: r' :: rows.drop (q + 2) := by
  have hr2 : rows[q + 1]'hq = r' := by
   rw [List.getElem?_eq_getElem hq] at hr'; exact Option.some.inj hr'
  rw [List.drop_eq_getElem_cons (by lia), List.drop_eq_getElem_cons hq, hr2]
 have hx : (bt (q + 1) r').length ≤ 600 ∧ True := ⟨gX (h.2 _ _ hr') (by lia), trivial⟩
 refine ⟨rows.take q, bt (q + 1) r', bJ (q + 2) (rows.drop (q + 2)), ⟨hn, h0, h.take q, .inr ⟨q + 1, q + 1, r', rfl, h.2 _ _ hr', by lia, by lia, by lia⟩, ?_, ?_, ?_⟩, ?_⟩
 ·rw [c5, List.length_drop]; exact Nat.le_trans (Nat.sub_le _ _) h13
 ·intro y hy
  obtain ⟨i, r, hi, rfl⟩ := ii _ _ y hy
  rw [List.getElem?_drop] at hi
  have := (List.getElem?_eq_some_iff.mp hi).1
  exact gX (h.2 _ _ hi) (by lia)
 ·intro y hy
  obtain ⟨i, r, hi, rfl⟩ := ii _ _ y hy
  rw [List.getElem?_drop] at hi
  have := (List.getElem?_eq_some_iff.mp hi).1
  exact xu (h.2 _ _ hi) (by lia) (by lia)
 ·have l1 : (cx 1 ts).length = ts.length := cE _ _
  have l2 : (bJ 0 (rows.take q)).length = q := by rw [c5, hlt]
  have e3 : cN ts rows = (cx 1 ts ++ bJ 0 (rows.take q)) ++ (bt q (rows[q]'nM) :: (bt (q + 1) r' :: bJ (q + 2) (rows.drop (q + 2)))) := by
   rw [cN, e1, e2, List.append_assoc]; rfl
  have l3 : (cx 1 ts ++ bJ 0 (rows.take q)).length = ts.length + q := by rw [eX, l1, l2]
  rw [e3, List.take_left' l3, ← l3, List.drop_append, List.drop_eq_nil_of_le (by lia), Nat.add_sub_cancel_left, dM, List.append_assoc]
  rfl
theorem AW {α : Type} {P : List α → α → Prop} {st : List α} {q : α} (hl : st.getLast? = some q) (h : P st.dropLast q) : ∃ st0 q, st = st0 ++ [q] ∧ P st0 q := by
 refine ⟨st.dropLast, q, ?_, h⟩
 cases st with
 | nil => simp at hl
 | cons a l =>
  have := List.dropLast_concat_getLast (l := a :: l) (by simp)
  rw [List.getLast?_eq_some_getLast (by simp)] at hl
  rw [← Option.some.inj hl]
  exact this.symm
noncomputable def rO : SC := (aj (bp (GY (eh (lg false (fun _ => 16) (fun σ => σ.st.length - 1)) (ac 6) (bg ad)) (a9 dU [13, 14, 15, 16] (aa (ac 5) (aa (ac 6) ad))))) aw)
theorem qF {i : Nat} : ∀ {is : List Nat} {os : List O} {st : List (Addr × O)}, i ∉ is → (aZ st is os)[i]? = st[i]?
 | [], _, _, _ => by unfold aZ; rfl
 | j :: is, [], _, _ => by unfold aZ; rfl
 | j :: is, o :: os, st, h => by
  rw [aZ]
  split
  ·rw [qF fun q => h (dP _ q), List.getElem?_set_ne (fun q => h (by subst q; exact c8))]
  ·rfl
theorem AX {vs : List (Option D)} {st : List (Addr × O)} {a dx s nm ra : Addr} {e : Int} {rows : List cT} {ts : List Nat} {K : Fl → MS → Prop} (v5 : vs[5]? = some (some (.ref a))) (v6 : vs[6]? = some (some (.ref ra)))
  (s0 : st[0]? = some (514, gB)) (s13 : st[13]? = some (a, PO dx s nm e)) (s14 : st[14]? = some (s, .list (RL rows))) (s15 : st[15]? = some (nm, .list (NL ts))) (s16 : st[16]? = some (ra, .list (RL rows))) (hn : iJ ts) (hok : cw rows)
  (hK : ∀ σ, σ.st[0]? = some (514, gB) → K (.ret (.bool true)) σ) : rO ⟨vs, st⟩ K := by
 have q_ok1 := hok.all
 have q_p1 := gO q_ok1.1
 have p5 := q_p1.2.2.2.2.1
 have p6 := q_p1.2.2.2.2.2
 have hl : 16 < st.length := (List.getElem?_eq_some_iff.mp s16).1
 have ap : ∀ (c : Addr) (i : Nat), i ≤ 16 → (st ++ [(c, O.list [])])[i]? = st[i]? := fun c i hi => List.getElem?_append_left nI
 have lastc : ∀ c : Addr, (st ++ [(c, O.list [])])[(st ++ [(c, O.list [])]).length - 1]? = some (c, .list []) := fun c => by simp
 have h10 := hn.len
 simp only [rO, aj, aw, bp, GY, eh, a9, ac, bg, aa, ad, lg, dE, aF, cj, am, v5, v6, bN]
 (refine ⟨Nat.zero_le _, ?_⟩; refine fun c => ?_)
 rw [lastc, ap c 16 (by decide), s16]
 refine ⟨⟨rfl, rfl⟩, ⟨q_p1.1, by trivial⟩, ⟨q_p1.2.1, by trivial⟩, by lia, ?_⟩
 rw [za, Bool.false_bne]
 by_cases hr : rows = []
 ·simp only [hr, decide_true]
  exact hK _ (by rw [ap c 0 (by decide)]; exact s0)
 ·simp only [hr, decide_false, v5, v6]
  rw [ap c 13 (by decide), ap c 14 (by decide), ap c 15 (by decide), s13, s14, s15]
  have hpos : 0 < rows.length := List.length_pos_iff.mpr hr
  refine ⟨a, dx, s, nm, e, rows, ts.map (fun (t : Nat) => .int t), ra, rfl, rfl, hok, hpos, by rw [dI]; exact nA, ?_⟩
  refine hK _ ?_
  show (aZ _ _ _ ++ [])[0]? = _
  rw [List.append_nil, qF (by decide), ap c 0 (by decide)]
  exact s0
noncomputable def n7 : SC := (aj (ba (a9 f7 [2, 8, 13, 14, 15] (aa (ac 4) (aa (ac 5) ad))) (aL 10)) (aj (ba (a9 f9 [] (aa (ac 10) ad)) (aL 11)) (aj (fu (qR (aA n8 (bK (jM (fun _ => 14)) (aa (bU 230 (fun _ => 13) "steps" 0 (ac 5)) ad)) (bK (jM (fun _ => 16)) (aa (ac 6) ad))) (qR (aA n8 (bK (jM (fun _ => 20)) (aa (bU 230 (fun _ => 19) "steps" 0 (ac 11)) ad)) (bK (jM (fun _ => 16)) (aa (ac 6) ad))) (qR (aA n8 (bB 230 (fun _ => 19) "var_count" dl [19, 20, 21] (ac 11) ad) (ac 3)) (cH false)))) (aj (bp (fF false)) aw) aw) (aj (fu (aA (lg true (fun _ => 22) (fun _ => 17)) (bM 1 (bE (aa (ao 1) (aa (bC cO (ac 3) (ao 1)) ad))) (aL 13) (cH true) (bB 230 (fun _ => 19) "names" eH [19, 20, 21] (ac 11) (aa (ac 13) ad))) (ac 7)) (aj (bp (fF false)) aw) aw) (aj (ba (bq bP (ac 10) (aa (bh "\n") ad)) (aL 12)) (aj (dK gQ (aa (iS (fun _ => 23) (fun _ => 24) (ac 12) (bg (aa (bh "stop") ad))) ad)) (aj (fu (aA (oI fun a b => decide (b < a)) (bK (bv (fun _ => 16)) (aa (ac 6) ad)) (ao 1)) (aj (ba (bC cO (ac 3) (bC tE (bC tD (ac 2) (ao 4)) (bC jI (bK (bv (fun _ => 16)) (aa (ac 6) ad)) (ao 1)))) (aL 8)) (aj (dK gQ (aa (iS (fun _ => 25) (fun _ => 26) (jL (fun _ => 23) (ac 12) (ac 8)) (iQ (fun _ => 23) (ac 12) (bC cO (ac 8) (ao 1)))) ad)) aw)) aw) rO)))))))
theorem EV {d0 d1 : D} {o : Int} {m : Nat} {b a ra na bdx oa dx s nm : Addr} {fs : List (Str × D)} {ops : List D} {e : Int} {rows : List cT} {ts : List Nat} {v8 v9 : Option D} {q1 q3 q4 q5 q6 q7 q9 q10 q11 q12 q18 : Addr × O} {K : Fl → MS → Prop}
  (hF : fs[6]? = some (("term_ops" : Str), D.ref oa)) (hop : (fs.map (·.1)).contains ("op" : Str) = false) (hol : ops.length ≤ 1000) (hops : ∀ t ∈ ts, ops[t]? = some (.str "app")) (hn : iJ ts) (hm : ts.length = m) (hm2 : 2 ≤ m) (hok : cw rows)
  (hK : ∀ σ, σ.st[0]? = some (514, gB) → K (.ret (.bool true)) σ) :
  n7 ⟨[some d0, some d1, some (.int o), some (.int (m : Nat)), some (.ref b), some (.ref a), some (.ref ra), some (.ref na), v8, v9, none, none, none],
   [(514, gB), q1, (b, .inst 493 bdx fs), q3, q4, q5, q6, q7, (oa, .list ops), q9, q10, q11, q12, (a, PO dx s nm e), (s, .list (RL rows)), (nm, .list (NL ts)), (ra, .list (RL rows)), (na, .list (ts.map fun (t : Nat) => .int t)), q18]⟩ K := by
 obtain ⟨g1, g2⟩ := th hn hok
 have h13 := hok.1
 have h10 := hn.len
 have q_ok1 := hok.all
 have q_r1 := uk q_ok1.1 q_ok1.2.1 q_ok1.2.2
 have q_p1 := gO q_ok1.1
 have p5 := q_p1.2.2.2.2.1
 have p6 := q_p1.2.2.2.2.2
 have htl : (eU ts rows).length ≤ 900000 := uL g1 nA
 have hss := dZ (x := eU ts rows) (y := "\n") htl (by rw [wm]; decide)
 have hLn : (cN ts rows).length = ts.length + rows.length := by simp [cN, cE, c5]
 have hsp : Txt.split (eU ts rows) "\n" = cN ts rows := by
  refine nh (fun e => ?_) (xv hn hok)
  rw [e] at hLn
  simp at hLn; lia
 (try dsimp only [n7, n8, gB, PO, af, ba, a9, aa, ac, au, al, bN, aL, MS.set, ad, aY, aK, am])
 refine ⟨b, bdx, fs, oa, ops, a, dx, s, nm, e, rows, ts, rfl, rfl, hF, hop, hol, hops, hn, hok, ?_⟩
 ((try (left)); (try dsimp only [PO, aZ, au, al, aY, aK, az, ay, af, ba, a9, aa, ac, bN, aL, MS.set, am, ad]))
 refine ⟨ts, rows, rfl, rfl, hn, by lia, hok, fun a2 dx2 s2 nm2 e2 => ?_⟩
 ((try (left)); (try dsimp only [PR, PO, af, bw, jb, aA, bK, aa, bU, ac, au, al, cP, jM, be, ad, b6, eG, cy, aG, av, aH, am, aF]); (try simp only [aV]))
 refine ⟨q_r1.1, q_r1.2.1, q_r1.2.2.1, q_r1.2.2.2.1, q_r1.2.2.2.2, q_r1.1, q_r1.2.1, q_r1.2.2.1, q_r1.2.2.2.1, q_r1.2.2.2.2, ?_⟩
 (try simp only [bne_self_eq_false, jE, jb, aA, bK, aa, bU, ac, au, al, aG, cy, ad, jM, cP, be, eG, b6, av, aV, aH, am, bB, bN, aq, bk, bF, aF])
 refine ⟨q_r1.1, q_r1.2.1, q_r1.2.2.1, q_r1.2.2.2.1, q_r1.2.2.2.2, q_r1.1, q_r1.2.1, q_r1.2.2.1, q_r1.2.2.2.1, q_r1.2.2.2.2, ?_⟩
 (skip)
 refine ⟨rfl, a2, dx2, s2, nm2, e2, rows, NL ts, rfl, rfl, by simp [NL]; exact nA, ?_⟩
 have qm : (((NL ts).length : Int) - 1 != (m : Nat)) = false := by
  have : ((NL ts).length : Int) - 1 = (m : Nat) := by simp [NL, hm]
  rw [this]; exact bne_self_eq_false _
 ((try dsimp only [PO, aZ, au, al, aY, aK, az, ay, cz]); (try simp only [qm, jE, cH, b0, aw]); (repeat (left; (try dsimp only [af, bw, aA, bM, bE, aa, ao, bC, ac, au, al, MS.trunc, MS.more, cS, cR, lg, aF, ad, mq, aq, cO, aB, aM, az, ay, cz]))))
 refine ⟨⟨ooR, by decide⟩, ⟨ooR, by lia⟩, aE (by simp [db]; lia), ?_⟩
 refine gT (fun l σ acc => Fc fun (t1 t2 : List Nat) (v : Option D) => Ef (ts = t1 ++ t2) (l = db ((t1.length + 1 : Nat) : Int) 1 t2.length) (acc = (t1.map fun (t : Nat) => D.int t)) (σ = ⟨[some d0, some d1, some (.int o), some (.int (m : Nat)), some (.ref b), some (.ref a), some (.ref ra), some (.ref na), v8, v9, some (.str (eU ts rows)), some (.ref a2), none, v],
   [(514, gB), q1, (b, .inst 493 bdx fs), q3, q4, q5, q6, q7, (oa, .list ops), q9, q10, q11, q12, (a, PO dx s nm e), (s, .list (RL rows)), (nm, .list (NL ts)), (ra, .list (RL rows)), (na, .list (ts.map fun (t : Nat) => .int t)), q18, (a2, PO dx2 s2 nm2 e2), (s2, .list (RL rows)), (nm2, .list (NL ts))]⟩)) ?_ ?_ _ _ _ ⟨[], ts, none, rfl, ?_, rfl, rfl⟩
 ·rintro σ acc ⟨t1, t2, v, e1, e2', rfl, rfl⟩
  have : t2 = [] := by
   cases t2 with
   | nil => rfl
   | cons _ _ => rw [aB, bu] at e2'; cases e2'
  subst this
  rw [List.append_nil] at e1
  subst e1
  intro c
  ((try dsimp only [gB, PO, ci, bV, au, al, az, ay, cj, aF]); (try simp only [and_true, aV]))
  have eW : (ts.map fun (t : Nat) => D.int t) = DL (ts.map fun (t : Nat) => (t : Int)) := by simp [DL, Function.comp_def]
  have hW : ∀ x ∈ (ts.map fun (t : Nat) => (t : Int)), x.natAbs ≤ 20 := fun x hx => by
   obtain ⟨t, ht, rfl⟩ := List.mem_map.mp hx
   have := hn.le t ht
   exact ooK
  have q_w1 := gO (m7 hW)
  have w5 := q_w1.2.2.2.2.1
  have w6 := q_w1.2.2.2.2.2
  have wd := te (ts.map fun (t : Nat) => (t : Int))
  rw [dI] at wd
  rw [eW]
  refine ⟨⟨q_w1.1, q_w1.1⟩, ⟨q_w1.2.1, q_w1.2.1⟩, by lia, ?_⟩
  rw [DD]
  ((try simp only [Bool.bne_true, Bool.not_true, b0, aw]); (repeat (left; (try dsimp only [af, ba, bq, ac, au, al, aL, MS.set, bP, aa, bh, ad, mq, be, aY, aK, az, ay]))))
  refine ⟨hss.1, hss.2.1, hss.2.2, fun lr => ?_⟩
  rw [hsp]
  obtain ⟨hB, eB⟩ := D1 hn (by lia) hok
  ((try (left)); (try dsimp only [af, dK, aa, iS, ac, au, al, ad, bg, bh, aB, aM, aF, az, ay, cj]); (try simp only [and_true, dI, hLn, aV]))
  (refine ⟨aE (by decide), ?_⟩; refine fun l2 => ?_; refine ⟨aE (by lia), ?_⟩; refine fun l3 => ?_)
  refine AW (q := (l3, .list ((dM ts rows "stop" []).map .str))) ?_ ⟨⟨l3, ts, rows, _, _, rfl, rfl, hB⟩, ?_⟩
  ·rw [← eB, List.map_append]; rfl
  ((try (left)); (try dsimp only [af, bw, aA, bK, aa, ac, au, al, oI, ao, aq, bv, ad, b6, c9]); (try simp only [List.dropLast_cons_cons, List.dropLast_singleton, au, al, cj, c7, aV]))
  refine And.intro nB ?_
  cases hq : decide ((1 : Int) < (rows.length : Int))
  ·simp only [b0, aw]
   (repeat (left; (try simp only [aw])))
   exact AX (ts := ts) rfl rfl rfl rfl rfl rfl rfl hn hok hK
  have h1 : 1 < rows.length := by have := of_decide_eq_true hq; exact ooZ
  have z0 := Int.fmod_nonneg_of_pos (o.fdiv 4) (b := (rows.length : Int) - 1) (by lia)
  have z1 := Int.fmod_lt_of_pos (o.fdiv 4) (b := (rows.length : Int) - 1) (by lia)
  obtain ⟨q, hqq⟩ : ∃ q : Nat, (o.fdiv 4).fmod ((rows.length : Int) - 1) = q := ⟨_, (Int.toNat_of_nonneg z0).symm⟩
  rw [hqq] at z1
  obtain ⟨r1', x, rest, hB2, eB2⟩ := D2 hn (hm ▸ Nat.lt_of_lt_of_le (by decide) hm2) hok (q := q) (HC z1)
  have t1 : ((m : Int) + (q : Int)).toNat = ts.length + q := by rw [hm]; rfl
  have t2 : ((m : Int) + (q : Int) + 1).toNat = ts.length + q + 1 := by rw [hm]; rfl
  have hcut : (((cN ts rows).map D.str).take (ts.length + q)).length + (((cN ts rows).map D.str).drop (ts.length + q + 1)).length ≤ 1000000 := Gn (by rw [dI]; exact Nat.le_trans g2 (by decide))
  ((try dsimp only [cQ, af, ba, bC, ac, au, al, aL, MS.set, cO, tE, aq, bK, aa, jI, ao, bv, ad, b6, tD, aY, aK, cj, c9, cz]); (try simp only [c7, hqq, aV]))
  clear z0 hqq
  (refine ⟨⟨by decide, by decide⟩, ?_⟩; (repeat (left; (try dsimp only [af, dK, aa, iS, jL, ac, au, al, ad, iQ, aF, bC, cO, aq, ao, az, ay, cj, cz, av]); (try simp only [and_true, t1, t2, aV]))); refine ⟨nB, ?_⟩; (repeat (left; (try dsimp only [af, dK, aa, iS, jL, ac, au, al, ad, iQ, aF, bC, cO, aq, ao, az, ay, cj, cz, av]); (try simp only [and_true, t1, t2, aV]))); refine ⟨by lia, ?_⟩; (repeat (left; (try dsimp only [af, dK, aa, iS, jL, ac, au, al, ad, iQ, aF, bC, cO, aq, ao, az, ay, cj, cz, av]); (try simp only [and_true, t1, t2, aV]))); refine ⟨ooR, ?_⟩; (repeat (left; (try dsimp only [af, dK, aa, iS, jL, ac, au, al, ad, iQ, aF, bC, cO, aq, ao, az, ay, cj, cz, av]); (try simp only [and_true, t1, t2, aV]))); refine ⟨aE (by rw [dI]; exact nA), ?_⟩; (repeat (left; (try dsimp only [af, dK, aa, iS, jL, ac, au, al, ad, iQ, aF, bC, cO, aq, ao, az, ay, cj, cz, av]); (try simp only [and_true, t1, t2, aV]))); refine fun l4 => ?_; (repeat (left; (try dsimp only [af, dK, aa, iS, jL, ac, au, al, ad, iQ, aF, bC, cO, aq, ao, az, ay, cj, cz, av]); (try simp only [and_true, t1, t2, aV]))); refine ⟨ooR, ?_⟩; (repeat (left; (try dsimp only [af, dK, aa, iS, jL, ac, au, al, ad, iQ, aF, bC, cO, aq, ao, az, ay, cj, cz, av]); (try simp only [and_true, t1, t2, aV]))); refine ⟨aE (by rw [dI]; exact nA), ?_⟩; (repeat (left; (try dsimp only [af, dK, aa, iS, jL, ac, au, al, ad, iQ, aF, bC, cO, aq, ao, az, ay, cj, cz, av]); (try simp only [and_true, t1, t2, aV]))); refine fun l5 => ?_; (repeat (left; (try dsimp only [af, dK, aa, iS, jL, ac, au, al, ad, iQ, aF, bC, cO, aq, ao, az, ay, cj, cz, av]); (try simp only [and_true, t1, t2, aV]))); refine ⟨aE hcut, ?_⟩; (repeat (left; (try dsimp only [af, dK, aa, iS, jL, ac, au, al, ad, iQ, aF, bC, cO, aq, ao, az, ay, cj, cz, av]); (try simp only [and_true, t1, t2, aV]))); refine fun l6 => ?_; (repeat (left; (try dsimp only [af, dK, aa, iS, jL, ac, au, al, ad, iQ, aF, bC, cO, aq, ao, az, ay, cj, cz, av]); (try simp only [and_true, t1, t2, aV]))))
  have eL : ((cN ts rows).map D.str).take (ts.length + q) ++ ((cN ts rows).map D.str).drop (ts.length + q + 1) = (dM ts r1' x rest).map D.str := by
   rw [← eB2, List.map_append, List.map_take, List.map_drop]
  rw [eL]
  refine AW (q := (l6, .list ((dM ts r1' x rest).map .str))) rfl ⟨⟨l6, ts, r1', x, rest, rfl, rfl, hB2⟩, ?_⟩
  (repeat (left; (try simp only [aw])))
  exact AX (ts := ts) rfl rfl rfl rfl rfl rfl rfl hn hok hK
 ·rintro d l σ acc ⟨t1, t2, v, e1, e2', rfl, rfl⟩ ih
  cases t2 with
  | nil => cases e2'
  | cons t t2 =>
   rw [aB, bu] at e2'
   cases e2'
   have hx : (NL ts)[t1.length + 1]? = some (.int (t : Nat)) := by rw [e1]; simp [NL]
   ((try dsimp only [gB, PO, bz, cH, dF, bB, ac, bN, aa, ad, aG, aL, MS.set, aY, aK, au, al, am, aH, aF]); (try simp only [bk, bF, aV]))
   refine ⟨rfl, a2, dx2, s2, nm2, e2, rows, NL ts, t1.length + 1, .int (t : Nat), rfl, rfl, by simp [NL]; exact nA, by lia, hx, ?_⟩
   (try dsimp only [PO, aZ, au, al, aY, aK, az, ay, ci, bV])
   exact ih _ _ ⟨t1 ++ [t], t2, _, by rw [e1]; simp, by simp, by simp, rfl⟩
 ·rw [hm]; simp
noncomputable def Af : SC := (aj (dq (bR (fun _ => 18) (Be (aA (oI fun a b => decide (b < a)) (bK (bv (fun _ => 1)) (aa (ac 1) ad)) (ao 1)) (iQ (fun _ => 1) (ac 1) (ao 1)) (bg (aa (ao 0) (aa (ao 3241) (aa (ao 4) (aa (ao 2) (aa (ao 6) (aa (ao 97) ad))))))))) (aL 9) (aj (fu (i0 (gw (a9 iC [13, 14, 15, 16, 0] (aa (ac 5) (aa (ac 6) (aa (ac 3) (aa (ac 9) ad))))))) (aj (bp (fF false)) aw) aw) aw)) n7)
noncomputable def Ag : SC := (aj (dq (bE (aa (ac 3) ad)) (aL 8) (aj (br (bB 230 (fun _ => 13) "name" dk [13, 14, 15] (ac 5) (aa (bC cO (ac 8) (ao 1)) (aa (aX (fun _ => 17) (ac 7) (ac 8)) ad)))) aw)) Af)
noncomputable def Ah : SC := (aj (ba (bM 1 (bE (aa (ao 1) (aa (bC cO (ac 3) (ao 1)) ad))) (aL 13) (cH true) (bB 493 (fun _ => 2) "fresh_const" dA [2, 5, 6, 7, 8, 9, 10, 11, 12] (ac 4) (aa (bC cO (bh "p") (bK qZ (aa (ac 13) ad))) (aa (dt (.int 0)) ad)))) (aL 7)) Ag)
noncomputable def Ai : SC := (aj (ba (cD (aa (bC cO (ao 2) (bC tE (ac 2) (ao 4))) (aa (sx 493 gV ad) (aa (sx 230 dR ad) (aa (bg ad) ad))))) (gF [3, 4, 5, 6])) Ah)
noncomputable def D3 (a0 : Addr) (ns0 : List Int) : SC := (aj (ba (td a0 ns0 (ac 0) (ao 14)) (aL 1)) (aj (ba (Be (aA (oI fun a b => decide (b < a)) (bK (bv (fun _ => 1)) (aa (ac 1) ad)) (ao 0)) (aX (fun _ => 1) (ac 1) (ao 0)) (ao 3)) (aL 2)) Ai))
theorem D4 (a0 : Addr) (ns0 : List Int) : Ds a0 ns0 dA gV dR dk eH dl dU iC f7 f9 gQ = D3 a0 ns0 := rfl
noncomputable def TS (m : Nat) : List Nat := (List.range m).map (3 + ·)
theorem GP {m : Nat} (h : m ≤ 5) : iJ (TS m) := ⟨by simp [TS]; exact nA, fun t ht => by
 obtain ⟨i, hi, rfl⟩ := List.mem_map.mp ht
 have := List.mem_range.mp hi
 lia⟩
theorem D5 (m : Nat) : (TS m).length = m := by simp [TS]
theorem F8 {m i : Nat} (h : i < m) : (TS m)[i]? = some (3 + i) := by simp [TS, h]
theorem AY (m : Nat) : TS (m + 1) = TS m ++ [3 + m] := by simp [TS, List.range_succ]
theorem Hp {d0 : D} {o : Int} {m : Nat} {b a ra na bdx oa dx s nm dr : Addr} {fs : List (Str × D)} {ops : List D} {e : Int} {W : List Int} {v8 : Option D} {q3 q4 q5 q6 q7 q9 q10 q11 q12 : Addr × O} {K : Fl → MS → Prop}
  (hF : fs[6]? = some (("term_ops" : Str), D.ref oa)) (hop : (fs.map (·.1)).contains ("op" : Str) = false) (hol : ops.length ≤ 1000) (hops : ∀ t ∈ TS m, ops[t]? = some (.str "app")) (hm5 : m ≤ 5) (hm2 : 2 ≤ m) (hW : W.length ≤ 14)
  (hK : ∀ σ, σ.st[0]? = some (514, gB) → K (.ret (.bool true)) σ) :
  Af ⟨[some d0, some (.ref dr), some (.int o), some (.int (m : Nat)), some (.ref b), some (.ref a), some (.ref ra), some (.ref na), v8, none, none, none, none],
   [(514, gB), (dr, .list (DL W)), (b, .inst 493 bdx fs), q3, q4, q5, q6, q7, (oa, .list ops), q9, q10, q11, q12, (a, PO dx s nm e), (s, .list (RL [])), (nm, .list (NL (TS m))), (ra, .list (RL [])), (na, .list ((TS m).map fun (t : Nat) => .int t))]⟩ K := by
 have main : ∀ (N : List Int) (nu : Addr), N.length ≤ 13 → dg (aL 9) (aj (fu (i0 (gw (a9 iC [13, 14, 15, 16, 0] (aa (ac 5) (aa (ac 6) (aa (ac 3) (aa (ac 9) ad))))))) (aj (bp (fF false)) aw) aw) aw)
   (fun σ2 => σ2.st[18]? = some (nu, .list (DL N))) (fun σ2 => σ2.trunc 19) (DL N) ⟨[some d0, some (.ref dr), some (.int o), some (.int (m : Nat)), some (.ref b), some (.ref a), some (.ref ra), some (.ref na), v8, none, none, none, none],
   [(514, gB), (dr, .list (DL W)), (b, .inst 493 bdx fs), q3, q4, q5, q6, q7, (oa, .list ops), q9, q10, q11, q12, (a, PO dx s nm e), (s, .list (RL [])), (nm, .list (NL (TS m))), (ra, .list (RL [])), (na, .list ((TS m).map fun (t : Nat) => .int t)), (nu, .list (DL N))]⟩
   (yV n7 K) := by
  intro N nu hN
  refine bS (fun l σ => EZ fun (rows : List cT) (n2 : List Int) (e : Int) (v9 : Option D) => Ef (l = DL n2) (cw rows) (rows.length + n2.length ≤ 13) (σ = ⟨[some d0, some (.ref dr), some (.int o), some (.int (m : Nat)), some (.ref b), some (.ref a), some (.ref ra), some (.ref na), v8, v9, none, none, none],
   [(514, gB), (dr, .list (DL W)), (b, .inst 493 bdx fs), q3, q4, q5, q6, q7, (oa, .list ops), q9, q10, q11, q12, (a, PO dx s nm e), (s, .list (RL rows)), (nm, .list (NL (TS m))), (ra, .list (RL rows)), (na, .list ((TS m).map fun (t : Nat) => .int t)), (nu, .list (DL N))]⟩)) ?_ ?_ _ _ ⟨[], N, e, none, rfl, ⟨by simp, fun i r h => by simp at h⟩, by simp; exact ooK, rfl⟩
  ·rintro σ ⟨rows, n2, e, v9, -, hok, -, rfl⟩
   exact cp <| EV hF hop hol hops (GP hm5) (D5 m) hm2 hok hK
  ·rintro d l σ ⟨rows, n2, e, v9, hl, hok, hlen, rfl⟩ ih
   cases n2 with
   | nil => cases hl
   | cons x n2 =>
    cases hl
    simp only [aB] at hlen
    ((try dsimp only [gB, PO, MS.trunc] at ih); (try dsimp only [MS.trunc, gB, PO, bj, af, bw, i0, gw, a9, aa, ac, bN, ad, aL, MS.set, aY, aK, au, al, am]))
    refine ⟨a, dx, s, nm, e, rows, NL (TS m), ra, (m : Nat), x, rfl, rfl, by lia, ooX, hok, by lia, fun e' rows' hok' hl' => ?_⟩
    ((try dsimp only [PO, gB, dE, aZ, au, al, aY, aK, az, ay]); (try simp only [Bool.not_true, b0, aw]); (repeat (left; (try dsimp only [aw, bb, au, al, ci, bV]); (try simp only [aV]))))
    exact ih _ ⟨rows', n2, e', _, rfl, hok', by lia, rfl⟩
 ((try dsimp only [Af, gB, PO, af, dq, bR, MS.trunc, oV, aA, bK, aa, ac, au, al, oI, ao, aq, bv, ad, b6, cj, c9]); (try simp only [bY, aV]))
 (refine ⟨nB, ?_⟩)
 cases hq : decide ((1 : Int) < (W.length : Int))
 ·((try dsimp only [rC, bg, aa, ao, ad, aB, aM, az, ay, au, al, av]); (try simp only [aV]))
  (refine ⟨aE (by decide), ?_⟩; refine fun nu => ?_)
  have e1 : [D.int 0, D.int 3241, D.int 4, D.int 2, D.int 6, D.int 97] = DL [0, 3241, 4, 2, 6, 97] := rfl
  rw [e1]
  exact main [0, 3241, 4, 2, 6, 97] nu (by simp)
 ·((try dsimp only [mZ, iQ, ac, au, al, ao, aq, az, ay, aB, aM, av]); (try simp only [bY, aV]))
  refine ⟨ooR, aE nA, fun nu => ?_⟩
  have e1 : (DL W).drop (1 : Int).toNat = DL (W.drop 1) := by simp [DL, List.map_drop]
  rw [e1]
  exact main (W.drop 1) nu (by rw [List.length_drop]; lia)
theorem Hq {d0 : D} {o : Int} {m : Nat} {b a ra na bdx oa dx s nm dr : Addr} {fs : List (Str × D)} {ops : List D} {e : Int} {W : List Int} {q3 q4 q5 q6 q7 q9 q10 q11 q12 : Addr × O} {K : Fl → MS → Prop}
  (hF : fs[6]? = some (("term_ops" : Str), D.ref oa)) (hop : (fs.map (·.1)).contains ("op" : Str) = false) (hol : ops.length ≤ 1000) (hops : ∀ t ∈ TS m, ops[t]? = some (.str "app")) (hm5 : m ≤ 5) (hm2 : 2 ≤ m) (hW : W.length ≤ 14)
  (hK : ∀ σ, σ.st[0]? = some (514, gB) → K (.ret (.bool true)) σ) :
  Ag ⟨[some d0, some (.ref dr), some (.int o), some (.int (m : Nat)), some (.ref b), some (.ref a), some (.ref ra), some (.ref na), none, none, none, none, none],
   [(514, gB), (dr, .list (DL W)), (b, .inst 493 bdx fs), q3, q4, q5, q6, q7, (oa, .list ops), q9, q10, q11, q12, (a, PO dx s nm e), (s, .list (RL [])), (nm, .list [.int 0]), (ra, .list (RL [])), (na, .list ((TS m).map fun (t : Nat) => .int t))]⟩ K := by
 (try dsimp only [Ag, gB, PO, af, dq, bE, aa, ac, au, al, MS.trunc, ad, gZ, aB, aM, aq])
 refine ⟨⟨ooR, ooS⟩, ?_⟩
 refine bS (fun l σ => G2 fun (j : Nat) (v8 : Option D) => Gm (j ≤ m) (l = db ((j : Nat) : Int) 1 (m - j)) (σ = ⟨[some d0, some (.ref dr), some (.int o), some (.int (m : Nat)), some (.ref b), some (.ref a), some (.ref ra), some (.ref na), v8, none, none, none, none],
   [(514, gB), (dr, .list (DL W)), (b, .inst 493 bdx fs), q3, q4, q5, q6, q7, (oa, .list ops), q9, q10, q11, q12, (a, PO dx s nm e), (s, .list (RL [])), (nm, .list (NL (TS j))), (ra, .list (RL [])), (na, .list ((TS m).map fun (t : Nat) => .int t))]⟩)) ?_ ?_ _ _ ⟨0, none, ooE, by simp, rfl⟩
 ·rintro σ ⟨j, v8, hj, hl, rfl⟩
  have : j = m := by
   cases hh : m - j with
   | zero => exact Gp hj hh
   | succ z => rw [hh, bu] at hl; cases hl
  subst this
  exact cp <| Hp hF hop hol hops hm5 hm2 hW hK
 ·rintro d l σ ⟨j, v8, hj, hl, rfl⟩ ih
  obtain ⟨z, hz⟩ : ∃ z, m - j = z + 1 := by
   cases hh : m - j with
   | zero => rw [hh] at hl; cases hl
   | succ z => exact ⟨z, rfl⟩
  rw [hz, bu] at hl
  cases hl
  have hx : ((TS m).map fun (t : Nat) => D.int t)[j]? = some (.int (3 + j : Nat)) := by rw [List.getElem?_map, F8 (Fe hz)]; rfl
  have hnl : (NL (TS j)).length = j + 1 := by simp [NL, D5]
  ((try dsimp only [gB, PO] at ih); (try dsimp only [gB, PO, bj, af, br, bB, ac, bN, aa, bC, aX, ad, cO, ao, aq, aG, aL, MS.set, aY, aK, au, al, am, av, cz, aH, aF]); (try simp only [bk, bF, bO _ j (by lia), hx, am, aV]))
  refine ⟨rfl, a, dx, s, nm, e, [], NL (TS j), .int (3 + j : Nat), ?_, rfl, by lia, ?_⟩
  ·rw [hnl]; simp
  ·((try (left)); (try dsimp only [PO, aZ, au, al, aY, aK, az, ay, aw, bb, ci, bV]); (try simp only [xw, ← AY, aV]))
   exact ih _ ⟨j + 1, _, by lia, by rw [wz hz]; simp, rfl⟩
theorem D6 {kvs : List ((Str × Int) × D)} {k kk : Str × Int} {d : D} (h : CY kvs k = none) (hne : kk ≠ k) : CY (kvs ++ [(kk, d)]) k = none := by
 unfold CY at *
 rw [Option.map_eq_none_iff] at *
 rw [List.find?_append, h]
 simp [hne]
theorem Hr {d0 : D} {o : Int} {m : Nat} {b a ra bdx s1 s2 f1 f2 f3 oa ar so da nb dx s nm dr : Addr} {e : Int} {W : List Int} {K : Fl → MS → Prop} (hm5 : m ≤ 5) (hm2 : 2 ≤ m) (hW : W.length ≤ 14)
  (hK : ∀ σ, σ.st[0]? = some (514, gB) → K (.ret (.bool true)) σ) :
  Ah ⟨[some d0, some (.ref dr), some (.int o), some (.int (m : Nat)), some (.ref b), some (.ref a), some (.ref ra), none, none, none, none, none, none],
   [(514, gB), (dr, .list (DL W)), (b, BO bdx s1 s2 f1 f2 f3 oa ar so da nb), (s1, .list [.str "Bool", .str "Int", .str "Real"]), (s2, .list [.int 0, .int 0, .int 0]), (f1, .list []), (f2, .list []), (f3, .list []), (oa, .list [.str "", .str "true", .str "false"]), (ar, .list [.tup [], .tup [], .tup []]), (so, .list [.int 0, .int 0, .int 0]), (da, .list [.int 0, .int 0, .int 0]), (nb, .tdict [(("true", 0), .int 1), (("false", 0), .int 2)]), (a, PO dx s nm e), (s, .list (RL [])), (nm, .list [.int 0]), (ra, .list (RL []))]⟩ K := by
 (try dsimp only [Ah, gB, BO, PO, af, ba, bM, bE, aa, ao, bC, ac, au, al, MS.trunc, MS.more, cS, cR, aL, MS.set, ad, mq, aq, cO, aB, aM, az, ay, cz])
 refine ⟨⟨ooR, ooT⟩, ⟨ooR, by lia⟩, aE (by simp [db]; exact nA), ?_⟩
 refine gT (fun l σ acc => Gk fun (j : Nat) (v : Option D) (n1 n2 n3 ops args sorts datas : List D) (kvs : List ((Str × Int) × D)) => G8 (j ≤ m) (l = db ((j + 1 : Nat) : Int) 1 (m - j)) (acc = ((TS j).map fun (t : Nat) => D.int t)) (n1.length = j) (n2.length = j) (n3.length = j) (ops.length = 3 + j) (args.length = 3 + j) (sorts.length = 3 + j) (datas.length = 3 + j) (kvs.length = 2 + j) ((∀ i, i < j → ops[3 + i]? = some (.str "app"))) ((∀ i : Nat, j ≤ i → CY kvs ((("app" : String) : Str), (i : Int)) = none)) (σ = ⟨[some d0, some (.ref dr), some (.int o), some (.int (m : Nat)), some (.ref b), some (.ref a), some (.ref ra), none, none, none, none, none, none, v],
   [(514, gB), (dr, .list (DL W)), (b, BO bdx s1 s2 f1 f2 f3 oa ar so da nb), (s1, .list [.str "Bool", .str "Int", .str "Real"]), (s2, .list [.int 0, .int 0, .int 0]), (f1, .list n1), (f2, .list n2), (f3, .list n3), (oa, .list ops), (ar, .list args), (so, .list sorts), (da, .list datas), (nb, .tdict kvs), (a, PO dx s nm e), (s, .list (RL [])), (nm, .list [.int 0]), (ra, .list (RL []))]⟩)) ?_ ?_ _ _ _
   ⟨0, none, [], [], [], _, _, _, _, _, ooE, ?_, rfl, rfl, rfl, rfl, rfl, rfl, rfl, rfl, rfl, (fun i h => absurd h (Nat.not_lt_zero i)), fun i _ => ?_, rfl⟩
 ·rintro σ acc ⟨j, v, n1, n2, n3, ops, args, sorts, datas, kvs, hj, hl, rfl, l1, l2, l3, l4, l5, l6, l7, l8, hops, hk, rfl⟩
  have : j = m := by
   cases hh : m - j with
   | zero => exact Gp hj hh
   | succ z => rw [hh, bu] at hl; cases hl
  subst this
  intro na
  ((try (left)); (try dsimp only [gB, BO, PO, ci, bV, aY, aK, az, ay]))
  refine Hq rfl rfl (by lia) (fun t ht => ?_) hm5 hm2 hW hK
  obtain ⟨i, hi, rfl⟩ := List.mem_map.mp ht
  exact hops i (List.mem_range.mp hi)
 ·rintro d l σ acc ⟨j, v, n1, n2, n3, ops, args, sorts, datas, kvs, hj, hl, rfl, l1, l2, l3, l4, l5, l6, l7, l8, hops, hk, rfl⟩ ih
  obtain ⟨z, hz⟩ : ∃ z, m - j = z + 1 := by
   cases hh : m - j with
   | zero => rw [hh] at hl; cases hl
   | succ z => exact ⟨z, rfl⟩
  rw [hz, bu] at hl
  cases hl
  have a0 : (Str.ofString (toString ((j + 1 : Nat) : Int))).length ≤ 3 := cM (by lia)
  have llp : ((("p" : String) : Str)).length = 1 := rfl
  ((try dsimp only [gB, BO, PO] at ih); (try dsimp only [gB, BO, PO, bz, cH, dF, bB, ac, bN, aa, bC, bh, bK, dt, ad, cO, eG, qZ, be, b6, aG, aL, MS.set, aY, aK, au, al, am, cz, aH, aF]); (try simp only [bk, bF, aV]))
  refine ⟨rfl, gD (by lia), aE (by rw [llp]; lia), ?_⟩
  refine ⟨b, bdx, _, f1, f2, f3, oa, ar, so, da, nb, n1, n2, n3, ops, args, sorts, datas, kvs, _, rfl, rfl, ⟨rfl, rfl, rfl, rfl, rfl⟩, ⟨rfl, rfl, rfl⟩, rfl, rfl, by lia, by lia, by lia, by lia, by lia, by lia, by lia, by lia, by rw [l1]; exact hk j (Nat.le_refl _), ?_⟩
  (try dsimp only [aZ, au, al, aY, aK, az, ay, ci, bV])
  refine ih _ _ ⟨j + 1, _, _, _, _, _, _, _, _, _, by lia, by rw [wz hz]; simp, by rw [AY, l4]; simp, by simp [l1], by simp [l2], by simp [l3], by simp [l4]; lia, by simp [l5]; lia, by simp [l6]; lia, by simp [l7]; lia, by simp [l8]; lia, fun i hi => ?_, fun i hi => ?_, rfl⟩
  ·by_cases hij : i = j
   ·subst hij
    rw [← l4]; simp
   ·rw [List.getElem?_append_left (by lia)]
    exact hops i (by lia)
  ·refine D6 (hk i nM) ?_
   intro q
   have := congrArg Prod.snd q
   simp only at this
   lia
 ·simp
 ·rfl
theorem GQ {d0 : D} {o : Int} {dr : Addr} {W : List Int} {K : Fl → MS → Prop} (hW : W.length ≤ 14) (hK : ∀ σ, σ.st[0]? = some (514, gB) → K (.ret (.bool true)) σ) :
  Ai ⟨[some d0, some (.ref dr), some (.int o), none, none, none, none, none, none, none, none, none, none], [(514, gB), (dr, .list (DL W))]⟩ K := by
 have z0 := Int.fmod_nonneg_of_pos o (b := 4) (by decide)
 have z1 := Int.fmod_lt_of_pos o (b := 4) (by decide)
 obtain ⟨m, hm⟩ : ∃ m : Nat, 2 + o.fmod 4 = m := ⟨(2 + o.fmod 4).toNat, by lia⟩
 ((try dsimp only [Ai, gB, af, ba, cD, aa, bC, ao, ac, au, al, gF, aB, aM, MS.setAll, MS.set, sx, ad, bg, cO, cz, tE, aq, aY, aK, az, ay]); (try simp only [hm, aV]))
 refine ⟨by decide, fun b bdx => ⟨b, bdx, rfl, rfl, fun s1 s2 f1 f2 f3 oa ar so da nb => ?_⟩⟩
 ((try dsimp only [BO, az, ay]); (try simp only [aV]))
 intro a dx
 refine ⟨a, dx, rfl, rfl, fun s nm => ?_⟩
 ((try dsimp only [PO, az, ay]); (try simp only [aV]))
 (refine ⟨Nat.zero_le _, ?_⟩; (repeat (left)); refine fun ra => ?_; (repeat (left)); refine ⟨aE (by decide), ?_⟩; (repeat (left)))
 exact Hr (m := m) (by lia) (by lia) hW hK
theorem D7 {a0 : Addr} {ns0 : List Int} (hl : ns0.length ≤ 1000000) {K : Fl → MS → Prop} (hK : ∀ σ, σ.st[0]? = some (514, gB) → K (.ret (.bool true)) σ) :
  Ds a0 ns0 dA gV dR dk eH dl dU iC f7 f9 gQ ⟨[some (.ref a0), none, none, none, none, none, none, none, none, none, none, none, none], [(514, gB)]⟩ K := by
 rw [D4]
 ((try dsimp only [gB, D3, af, ba, td, ac, al, aL, MS.set, ao, aY, aK, az, ay]); (try simp only [aV]))
 refine ⟨14, rfl, ooR, aE hl, fun dr => ?_⟩
 have e1 : (ns0.map D.int).take (14 : Int).toNat = DL (ns0.take 14) := by
  rw [DL, List.map_take]; rfl
 simp only [e1, bY]
 have hW : (ns0.take 14).length ≤ 14 := by rw [List.length_take]; lia
 generalize ns0.take 14 = W at *
 ((try (left)); (try dsimp only [af, ba, aL, MS.set, oV, aA, bK, aa, ac, au, al, oI, ao, aq, bv, ad, b6, cj, c9]); (try simp only [bY, aV]))
 (refine ⟨nB, ?_⟩)
 cases W with
 | nil =>
  ((try dsimp only [aM]); (try simp only [show decide ((0 : Int) < ((0 : Nat) : Int)) = false from rfl, rC, ao, aY, aK]); (repeat (left)))
  exact GQ (W := []) hW hK
 | cons x W =>
  have q : decide ((0 : Int) < ((x :: W).length : Int)) = true := by simp
  have e2 : iq (DL (x :: W)) 0 = some (.int x) := rfl
  rw [q]
  ((try dsimp only [mZ, aX, ac, au, al, ao, aq, aY, aK, av]); (try simp only [e2, am, aV]); (repeat (left)))
  exact GQ hW hK
noncomputable def EW (ps : List (Str × Option Nat)) (L : Addr) : List eE := ps.map fun q => match q.2 with
 | none => .ns L q.1
 | some i => .cell (L + 1 + i)
noncomputable def D8 (q : Str × Option Nat) : Option Str × Nat := match q.2 with
 | none => (some q.1, 0)
 | some i => (none, i)
noncomputable def tj (names : List (Str × NameKind)) (x : Str) : Option Nat → Bool
 | none => decide (names.lookup x = some .local)
 | some j => decide (names.lookup x = some .cell)
noncomputable def AZ (names : List (Str × NameKind)) : List Str → List (Str × Option Nat) → Bool
 | [], _ => true
 | x :: xs, q :: ps => decide (q.1 = x) && tj names x q.2 && AZ names xs ps
 | _ :: _, [] => false
noncomputable def Ba (scope : Scope) (xs : List Str) (ps : List (Str × Option Nat)) : Bool :=
 decide (ps.map D8).Nodup && AZ scope.names xs ps && ps.all (fun q => match q.2 with | none => true | some j => decide ((cellsFrom 0 scope.names []).lookup q.1 = some j)) &&
  decide xs.Nodup && decide ((cellsFrom 0 scope.names []).map (·.1)).Nodup
theorem sN (b : Nat) : ∀ (names : List (Str × NameKind)) (i : Nat) (acc : List (Str × Nat)), cellsFrom (b + i) names (acc.map fun q => (q.1, b + q.2)) = (cellsFrom i names acc).map fun q => (q.1, b + q.2) := by
 intro names
 induction names with
 | nil => intro i acc; rfl
 | cons q r ih =>
  intro i acc
  obtain ⟨n, k⟩ := q
  simp only [cellsFrom]
  split
  ·exact ih (i + 1) ((n, i) :: acc)
  ·exact ih i acc
theorem xy (b : Nat) (x : Str) (l : List (Str × Nat)) : (l.map fun q => (q.1, b + q.2)).lookup x = (l.lookup x).map (b + ·) := by
 induction l with
 | nil => rfl
 | cons q l ih =>
  obtain ⟨y, j⟩ := q
  simp only [bk, List.lookup_cons]
  cases x == y
  ·exact ih
  ·rfl
theorem D9 {names : List (Str × NameKind)} {ps0 : List (Str × Option Nat)} : ∀ {xs : List Str} {ps : List (Str × Option Nat)} {i : Nat} {x : Str}, AZ names xs ps = true → xs[i]? = some x → ∃ o, ps[i]? = some (x, o) ∧ tj names x o = true := by
 intro xs
 induction xs with
 | nil => intro ps i x h e; simp at e
 | cons y xs ih =>
  intro ps i x h e
  cases ps with
  | nil => cases h
  | cons q ps =>
   simp only [AZ, Bool.and_eq_true, decide_eq_true_eq] at h
   cases i with
   | zero =>
    obtain rfl : y = x := by simpa using e
    exact ⟨q.2, by rw [← h.1.1]; rfl, h.1.2⟩
   | succ i => exact ih (ps := ps) h.2 e
theorem bH {scope : Scope} {xs : List Str} {lc : Addr → List eE} (ps : List (Str × Option Nat)) (e : ∀ L, lc L = EW ps L) (h : Ba scope xs ps = true) : d9 scope xs lc := by
 simp only [Ba, Bool.and_eq_true, decide_eq_true_eq, List.all_eq_true] at h
 obtain ⟨⟨⟨⟨h1, h2⟩, h3⟩, h4⟩, h5⟩ := h
 have cl : ∀ L, cellsFrom (L + 1) scope.names [] = (cellsFrom 0 scope.names []).map fun q => (q.1, (L + 1) + q.2) := fun L => sN (L + 1) scope.names 0 []
 have ce : ∀ L (x : Str) (j : Nat), (x, some j) ∈ ps → (cellsFrom (L + 1) scope.names []).lookup x = some (L + 1 + j) := fun L x j hq => by
  rw [cl, xy]
  have := h3 _ hq
  simp only [decide_eq_true_eq] at this
  rw [this]; rfl
 refine ⟨fun L => ?_, fun L i x hx => ?_, fun L l hl => ?_, h4, fun L => ?_⟩
 ·rw [e, EW]
  refine (List.pairwise_map.mpr ?_)
  refine (List.pairwise_map.mp h1).imp fun {q r} hne he => hne ?_
  obtain ⟨a, oa⟩ := q
  obtain ⟨b, ob⟩ := r
  cases oa with
  | none => cases ob with
   | none => simp at he; simp [D8, he]
   | some j => simp at he
  | some i => cases ob with
   | none => simp at he
   | some j => simp at he; simp [D8]; exact ooK
 ·obtain ⟨o, ho, hk⟩ := D9 (ps0 := ps) h2 hx
  have hm : (lc L)[i]? = (ps[i]?).map fun q => match q.2 with
    | none => .ns L q.1
    | some i => .cell (L + 1 + i) := by rw [e, EW, List.getElem?_map]
  rw [ho] at hm
  cases o with
  | none => exact .inl ⟨by simpa [tj] using hk, hm⟩
  | some j => exact .inr ⟨by simpa [tj] using hk, _, ce L x j (HM ho), hm⟩
 ·rw [e, EW] at hl
  obtain ⟨⟨x, o⟩, hq, rfl⟩ := List.mem_map.mp hl
  cases o with
  | none => exact .inl ⟨x, rfl⟩
  | some j => exact .inr ⟨x, _, ce L x j hq, rfl⟩
 ·rw [cl, List.map_map]
  exact h5
section
noncomputable def KK (w : World) : Frag := K0.heap_1 w.params
noncomputable def pp (w : World) (mg mb : Str → Option Value) : P := ⟨PySem.Challenge.rw_no0010_01.row.prog, w, KK w, mg, mb⟩
variable {w : World} {mg mb : Str → Option Value}
theorem zp : d8 (pp w mg mb) 86 "order_of" ["literal"] tY pf (.ref 85) := ⟨⟨_, _, _, _, _, _, _, _, _, _, _, rfl, fun vs hv => (by obtain ⟨a, rfl⟩ := o0 hv; rfl)⟩, rfl⟩
theorem vt : d9 pf ["literal"] sd := bH [("literal", none)] (fun _ => rfl) (by decide +kernel)
theorem EX : d8 (pp w mg mb) 93 "tidy" ["literals"] Dn zU (.ref 92) := ⟨⟨_, _, _, _, _, _, _, _, _, _, _, rfl, fun vs hv => (by obtain ⟨a, rfl⟩ := o0 hv; rfl)⟩, rfl⟩
theorem Ch : d9 zU ["literals"] AP := bH [("literals", none), ("kept", none), ("literal", none)] (fun _ => rfl) (by decide +kernel)
theorem Ak : d8 (pp w mg mb) 100 "is_tidy" ["clause"] vZ rj (.ref 99) := ⟨⟨_, _, _, _, _, _, _, _, _, _, _, rfl, fun vs hv => (by obtain ⟨a, rfl⟩ := o0 hv; rfl)⟩, rfl⟩
theorem xz : d9 rj ["clause"] tZ := bH [("clause", none), ("place", none)] (fun _ => rfl) (by decide +kernel)
theorem vu : d8 (pp w mg mb) 105 "resolve_on" ["one", "other", "variable"] pS lj (.ref 104) := ⟨⟨_, _, _, _, _, _, _, _, _, _, _, rfl, fun vs hv => (by obtain ⟨a, b, c, rfl⟩ := wA hv; rfl)⟩, rfl⟩
theorem sO : d9 lj ["one", "other", "variable"] oE := bH [("one", none), ("other", none), ("variable", some 0), ("rest", none)] (fun _ => rfl) (by decide +kernel)
theorem vv : d8 (pp w mg mb) 119 "Steps.__init__" ["self"] pT lk (.ref 118) := ⟨⟨_, _, _, _, _, _, _, _, _, _, _, rfl, fun vs hv => (by obtain ⟨a, rfl⟩ := o0 hv; rfl)⟩, rfl⟩
theorem sP : d9 lk ["self"] oF := bH [("self", none)] (fun _ => rfl) (by decide +kernel)
theorem vx : d8 (pp w mg mb) 126 "Steps.name" ["self", "var", "term"] pU lm (.ref 125) := ⟨⟨_, _, _, _, _, _, _, _, _, _, _, rfl, fun vs hv => (by obtain ⟨a, b, c, rfl⟩ := wA hv; rfl)⟩, rfl⟩
theorem sQ : d9 lm ["self", "var", "term"] oG := bH [("self", none), ("var", none), ("term", none)] (fun _ => rfl) (by decide +kernel)
theorem uM : d8 (pp w mg mb) 133 "Steps.names" ["self", "var"] oH j8 (.ref 132) := ⟨⟨_, _, _, _, _, _, _, _, _, _, _, rfl, fun vs hv => (by obtain ⟨a, b, rfl⟩ := mn hv; rfl)⟩, rfl⟩
theorem rQ : d9 j8 ["self", "var"] mD := bH [("self", none), ("var", none)] (fun _ => rfl) (by decide +kernel)
theorem pA : d8 (pp w mg mb) 140 "Steps.var_count" ["self"] jQ hU (.ref 139) := ⟨⟨_, _, _, _, _, _, _, _, _, _, _, rfl, fun vs hv => (by obtain ⟨a, rfl⟩ := o0 hv; rfl)⟩, rfl⟩
theorem nj : d9 hU ["self"] jv := bH [("self", none)] (fun _ => rfl) (by decide +kernel)
theorem vy : d8 (pp w mg mb) 147 "Steps.size" ["self"] pX lq (.ref 146) := ⟨⟨_, _, _, _, _, _, _, _, _, _, _, rfl, fun vs hv => (by obtain ⟨a, rfl⟩ := o0 hv; rfl)⟩, rfl⟩
theorem sR : d9 lq ["self"] oJ := bH [("self", none)] (fun _ => rfl) (by decide +kernel)
theorem sS : d8 (pp w mg mb) 154 "Steps.clause" ["self", "step"] mE jw (.ref 153) := ⟨⟨_, _, _, _, _, _, _, _, _, _, _, rfl, fun vs hv => (by obtain ⟨a, b, rfl⟩ := mn hv; rfl)⟩, rfl⟩
theorem qH : d9 jw ["self", "step"] lV := bH [("self", none), ("step", none)] (fun _ => rfl) (by decide +kernel)
theorem xA : d8 (pp w mg mb) 168 "Steps.add" ["self", "rule", "clause", "premises", "note"] se mF (.ref 167) := ⟨⟨_, _, _, _, _, _, _, _, _, _, _, rfl, fun vs hv => (by obtain ⟨a, b, c, d, e, rfl⟩ := Fk hv; rfl)⟩, rfl⟩
theorem uN : d9 mF ["self", "rule", "clause", "premises", "note"] pY := bH [("self", none), ("rule", none), ("clause", none), ("premises", none), ("note", none), ("number", none), ("one", none)] (fun _ => rfl) (by decide +kernel)
theorem uO : d8 (pp w mg mb) 173 "Steps.chain" ["self", "first", "pairs"] oK ka (.ref 172) := ⟨⟨_, _, _, _, _, _, _, _, _, _, _, rfl, fun vs hv => (by obtain ⟨a, b, c, rfl⟩ := wA hv; rfl)⟩, rfl⟩
theorem rR : d9 ka ["self", "first", "pairs"] mH := bH [("self", none), ("first", none), ("pairs", none), ("stand", none), ("variable", none), ("other", none), ("premises", none)] (fun _ => rfl) (by decide +kernel)
theorem sT : d8 (pp w mg mb) 194 "Proof.needed" ["self", "last"] mI jy (.ref 193) := ⟨⟨_, _, _, _, _, _, _, _, _, _, _, rfl, fun vs hv => (by obtain ⟨a, b, rfl⟩ := mn hv; rfl)⟩, rfl⟩
theorem qI : d9 jy ["self", "last"] lW := bH [("self", none), ("last", none), ("wanted", none), ("number", none), ("one", none)] (fun _ => rfl) (by decide +kernel)
theorem rS : d8 (pp w mg mb) 199 "Proof.trimmed" ["self", "last"] lX i3 (.ref 198) := ⟨⟨_, _, _, _, _, _, _, _, _, _, _, rfl, fun vs hv => (by obtain ⟨a, b, rfl⟩ := mn hv; rfl)⟩, rfl⟩
theorem pB : d9 i3 ["self", "last"] kI := bH [("self", none), ("last", none), ("found", none), ("places", some 0), ("var", none), ("number", none), ("rule", none), ("clause", none), ("premises", none), ("note", none)] (fun _ => rfl) (by decide +kernel)
theorem nk : d8 (pp w mg mb) 213 "Proof.used_inputs" ["self", "last"] i8 gn (.ref 212) := ⟨⟨_, _, _, _, _, _, _, _, _, _, _, rfl, fun vs hv => (by obtain ⟨a, b, rfl⟩ := mn hv; rfl)⟩, rfl⟩
theorem lN : d9 gn ["self", "last"] iW := bH [("self", none), ("last", none), ("found", none), ("number", none)] (fun _ => rfl) (by decide +kernel)
theorem xB : d8 (pp w mg mb) 237 "note_text" ["note"] sf mJ (.ref 236) := ⟨⟨_, _, _, _, _, _, _, _, _, _, _, rfl, fun vs hv => (by obtain ⟨a, rfl⟩ := o0 hv; rfl)⟩, rfl⟩
theorem uP : d9 mJ ["note"] pZ := bH [("note", none)] (fun _ => rfl) (by decide +kernel)
theorem Ci : d8 (pp w mg mb) 242 "row_of" ["numbers"] yG uc (.ref 241) := ⟨⟨_, _, _, _, _, _, _, _, _, _, _, rfl, fun vs hv => (by obtain ⟨a, rfl⟩ := o0 hv; rfl)⟩, rfl⟩
theorem zq : d9 uc ["numbers"] v0 := bH [("numbers", none)] (fun _ => rfl) (by decide +kernel)
theorem vz : d8 (pp w mg mb) 249 "proof_text" ["bank", "proof"] qa lu (.ref 248) := ⟨⟨_, _, _, _, _, _, _, _, _, _, _, rfl, fun vs hv => (by obtain ⟨a, b, rfl⟩ := mn hv; rfl)⟩, rfl⟩
theorem sU : d9 lu ["bank", "proof"] oM := bH [("bank", none), ("proof", none), ("rows", none), ("var", none), ("term", none), ("number", none), ("rule", none), ("clause", none), ("premises", none), ("note", none)] (fun _ => rfl) (by decide +kernel)
theorem qJ : d8 (pp w mg mb) 254 "is_number_word" ["word"] kJ ix (.ref 253) := ⟨⟨_, _, _, _, _, _, _, _, _, _, _, rfl, fun vs hv => (by obtain ⟨a, rfl⟩ := o0 hv; rfl)⟩, rfl⟩
theorem oj : d9 ix ["word"] jR := bH [("word", none), ("figures", none)] (fun _ => rfl) (by decide +kernel)
theorem vA : d8 (pp w mg mb) 259 "numbers_in" ["part", "where"] qb lx (.ref 258) := ⟨⟨_, _, _, _, _, _, _, _, _, _, _, rfl, fun vs hv => (by obtain ⟨a, b, rfl⟩ := mn hv; rfl)⟩, rfl⟩
theorem sV : d9 lx ["part", "where"] oN := bH [("part", none), ("where", none), ("words", none), ("word", none)] (fun _ => rfl) (by decide +kernel)
theorem xC : d8 (pp w mg mb) 266 "note_from" ["text", "where"] sg mK (.ref 265) := ⟨⟨_, _, _, _, _, _, _, _, _, _, _, rfl, fun vs hv => (by obtain ⟨a, b, rfl⟩ := mn hv; rfl)⟩, rfl⟩
theorem uQ : d9 mK ["text", "where"] qc := bH [("text", none), ("where", none), ("stack", none), ("word", none), ("done", none)] (fun _ => rfl) (by decide +kernel)
theorem xD : d8 (pp w mg mb) 273 "read_step" ["proof", "row", "where"] sh mL (.ref 272) := ⟨⟨_, _, _, _, _, _, _, _, _, _, _, rfl, fun vs hv => (by obtain ⟨a, b, c, rfl⟩ := wA hv; rfl)⟩, rfl⟩
theorem uR : d9 mL ["proof", "row", "where"] qd := bH [("proof", none), ("row", none), ("where", none), ("parts", none), ("head", none)] (fun _ => rfl) (by decide +kernel)
theorem uS : d8 (pp w mg mb) 273 "read_step" ["proof", "row", "where"] oO iF (.ref 272) := ⟨⟨_, _, _, _, _, _, _, _, _, _, _, rfl, fun vs hv => (by obtain ⟨a, b, c, rfl⟩ := wA hv; rfl)⟩, rfl⟩
theorem rT : d9 iF ["proof", "row", "where"] jA := bH [("proof", none), ("row", none), ("where", none), ("parts", none), ("head", none)] (fun _ => rfl) (by decide +kernel)
theorem vB : d8 (pp w mg mb) 280 "read_proof" ["text"] qf lz (.ref 279) := ⟨⟨_, _, _, _, _, _, _, _, _, _, _, rfl, fun vs hv => (by obtain ⟨a, rfl⟩ := o0 hv; rfl)⟩, rfl⟩
theorem sW : d9 lz ["text"] oQ := bH [("text", none), ("proof", none), ("rows", none), ("where", none), ("row", none), ("words", none)] (fun _ => rfl) (by decide +kernel)
theorem sX : d8 (pp w mg mb) 280 "read_proof" ["text"] mN hY (.ref 279) := ⟨⟨_, _, _, _, _, _, _, _, _, _, _, rfl, fun vs hv => (by obtain ⟨a, rfl⟩ := o0 hv; rfl)⟩, rfl⟩
theorem qK : d9 hY ["text"] i5 := bH [("text", none), ("proof", none), ("rows", none), ("where", none), ("row", none), ("words", none)] (fun _ => rfl) (by decide +kernel)
theorem xE : d8 (pp w mg mb) 294 "Bank.__init__" ["self"] si mP (.ref 293) := ⟨⟨_, _, _, _, _, _, _, _, _, _, _, rfl, fun vs hv => (by obtain ⟨a, rfl⟩ := o0 hv; rfl)⟩, rfl⟩
theorem uT : d9 mP ["self"] qh := bH [("self", none)] (fun _ => rfl) (by decide +kernel)
theorem om : d8 (pp w mg mb) 336 "Bank.declare_fun" ["self", "name", "arg_sorts", "result"] jC gI (.ref 335) := ⟨⟨_, _, _, _, _, _, _, _, _, _, _, rfl, fun vs hv => (by obtain ⟨a, b, c, d, rfl⟩ := Fj hv; rfl)⟩, rfl⟩
theorem ml : d9 gI ["self", "name", "arg_sorts", "result"] i9 := bH [("self", none), ("name", none), ("arg_sorts", none), ("result", none)] (fun _ => rfl) (by decide +kernel)
theorem on : d8 (pp w mg mb) 350 "Bank.fresh_const" ["self", "name", "s"] jD gK (.ref 349) := ⟨⟨_, _, _, _, _, _, _, _, _, _, _, rfl, fun vs hv => (by obtain ⟨a, b, c, rfl⟩ := wA hv; rfl)⟩, rfl⟩
theorem mm : d9 gK ["self", "name", "s"] ja := bH [("self", none), ("name", none), ("s", none)] (fun _ => rfl) (by decide +kernel)
theorem Al : d8 (pp w mg mb) 385 "Bank.op" ["self", "t"] wa ro (.ref 384) := ⟨⟨_, _, _, _, _, _, _, _, _, _, _, rfl, fun vs hv => (by obtain ⟨a, b, rfl⟩ := mn hv; rfl)⟩, rfl⟩
theorem xF : d9 ro ["self", "t"] uf := bH [("self", none), ("t", none)] (fun _ => rfl) (by decide +kernel)
theorem xG : d8 (pp w mg mb) 427 "Bank.make" ["self", "op", "args", "sort", "data"] sj mR (.ref 426) := ⟨⟨_, _, _, _, _, _, _, _, _, _, _, rfl, fun vs hv => (by obtain ⟨a, b, c, d, e, rfl⟩ := Fk hv; rfl)⟩, rfl⟩
theorem uU : d9 mR ["self", "op", "args", "sort", "data"] qi := bH [("self", none), ("op", none), ("args", none), ("sort", none), ("data", none), ("key", none), ("found", none)] (fun _ => rfl) (by decide +kernel)
theorem xH : d8 (pp w mg mb) 505 "_law_digit" ["rest", "many"] sk mT (.ref 504) := ⟨⟨_, _, _, _, _, _, _, _, _, _, _, rfl, fun vs hv => (by obtain ⟨a, b, rfl⟩ := mn hv; rfl)⟩, rfl⟩
theorem uV : d9 mT ["rest", "many"] qj := bH [("rest", none), ("many", none), ("found", none)] (fun _ => rfl) (by decide +kernel)
theorem uW : d8 (pp w mg mb) 512 "_law_literal" ["rest", "many"] oR kj (.ref 511) := ⟨⟨_, _, _, _, _, _, _, _, _, _, _, rfl, fun vs hv => (by obtain ⟨a, b, rfl⟩ := mn hv; rfl)⟩, rfl⟩
theorem rU : d9 kj ["rest", "many"] mV := bH [("rest", none), ("many", none), ("side", none)] (fun _ => rfl) (by decide +kernel)
theorem vC : d8 (pp w mg mb) 519 "_law_clause" ["literals"] qk lB (.ref 518) := ⟨⟨_, _, _, _, _, _, _, _, _, _, _, rfl, fun vs hv => (by obtain ⟨a, rfl⟩ := o0 hv; rfl)⟩, rfl⟩
theorem sY : d9 lB ["literals"] oS := bH [("literals", none), ("found", none), ("one", none)] (fun _ => rfl) (by decide +kernel)
theorem zr : d8 (pp w mg mb) 526 "_law_note" ["rest", "many"] ug pn (.ref 525) := ⟨⟨_, _, _, _, _, _, _, _, _, _, _, rfl, fun vs hv => (by obtain ⟨a, b, rfl⟩ := mn hv; rfl)⟩, rfl⟩
theorem vD : d9 pn ["rest", "many"] sm := bH [("rest", none), ("many", none), ("way", none), ("pairs", none), ("lap", none)] (fun _ => rfl) (by decide +kernel)
theorem xI : d8 (pp w mg mb) 531 "_law_chain" ["rows", "first", "begin"] sq mW (.ref 530) := ⟨⟨_, _, _, _, _, _, _, _, _, _, _, rfl, fun vs hv => (by obtain ⟨a, b, c, rfl⟩ := wA hv; rfl)⟩, rfl⟩
theorem uX : d9 mW ["rows", "first", "begin"] ql := bH [("rows", some 0), ("first", none), ("begin", none), ("stand", none), ("pairs", none), ("lap", none), ("place", none), ("number", some 1), ("clash", some 2), ("rest", none)] (fun _ => rfl) (by decide +kernel)
theorem Am : d8 (pp w mg mb) 536 "_law_put" ["proof", "rows", "many", "number"] wb rt (.ref 535) := ⟨⟨_, _, _, _, _, _, _, _, _, _, _, rfl, fun vs hv => (by obtain ⟨a, b, c, d, rfl⟩ := Fj hv; rfl)⟩, rfl⟩
theorem xJ : d9 rt ["proof", "rows", "many", "number"] uh := bH [("proof", none), ("rows", none), ("many", some 0), ("number", none), ("rest", some 1), ("kind", none), ("rule", none), ("clause", none), ("row", none), ("first", none), ("begin", none), ("pairs", none), ("stand", none), ("told", none), ("premises", none)] (fun _ => rfl) (by decide +kernel)
theorem uY : d8 (pp w mg mb) 541 "_law_rest_on" ["rows", "last"] oU kn (.ref 540) := ⟨⟨_, _, _, _, _, _, _, _, _, _, _, rfl, fun vs hv => (by obtain ⟨a, b, rfl⟩ := mn hv; rfl)⟩, rfl⟩
theorem rV : d9 kn ["rows", "last"] mY := bH [("rows", none), ("last", none), ("found", some 0), ("number", none)] (fun _ => rfl) (by decide +kernel)
theorem qL : d8 (pp w mg mb) 546 "_law_is_trimmed" ["proof", "rows"] kK iz (.ref 545) := ⟨⟨_, _, _, _, _, _, _, _, _, _, _, rfl, fun vs hv => (by obtain ⟨a, b, rfl⟩ := mn hv; rfl)⟩, rfl⟩
theorem oo : d9 iz ["proof", "rows"] jT := bH [("proof", none), ("rows", some 0), ("last", none), ("kept", some 1), ("due", none), ("number", none), ("rule", none), ("clause", none), ("premises", none), ("note", none), ("inputs", none)] (fun _ => rfl) (by decide +kernel)
theorem qM : d8 (pp w mg mb) 553 "_law_is_refused" ["lines"] kL fZ (.ref 552) := ⟨⟨_, _, _, _, _, _, _, _, _, _, _, rfl, fun vs hv => (by obtain ⟨a, rfl⟩ := o0 hv; rfl)⟩, rfl⟩
theorem oq : d9 fZ ["lines"] hZ := bH [("lines", none)] (fun _ => rfl) (by decide +kernel)
theorem Ea : d9 yT ["script"] rB := bH [("script", none), ("drawn", none), ("opening", none), ("many", none), ("bank", some 0), ("proof", none), ("rows", none), ("named", none), ("place", none), ("number", none), ("text", none), ("back", some 1), ("lines", none)] (fun _ => rfl) (by decide +kernel)
end
section
variable {w : World} {mg mb : Str → Option Value}
noncomputable def ES (w : World) : Array DictEntry := match (KK w).lookup mainGlobals with
 | some ⟨_, _, .dict es _, _⟩ => es
 | _ => #[]
theorem Cj : ∀ h, (pp w mg mb).Ok h → CodeHd h 518 514 := fun h ok =>
 ⟨_, _, _, _, _, _, _, _, _, ok.X 518 _ rfl, rfl, rfl, rfl, rfl, rfl, rfl, rfl, rfl, by decide⟩
theorem Eb (hmg : ∀ x, mg x = nsFind (ES w) x) : Fd fun qual cda cc scope body => rf (pp w mg mb) 66 qual ["self", "what", "step"] "step" cda cc 76 scope body := by
 refine ⟨"ProofFault.__init__", 65, 54, _, _, ⟨⟨_, _, _, _, _, _, _, _, _, _, _, _, rfl, rfl, rfl, fun vs hv => ?_⟩, ⟨_, _, _, _, _, _, _, _, _, _, rfl, fun L => ⟨_, rfl⟩⟩, rfl, ⟨_, _, _, rfl⟩, ⟨_, rfl⟩, ⟨_, _, _, _, _, _, rfl, rfl, rfl⟩, rfl, rfl, (hmg _).trans rfl, rfl, rfl, rfl, rfl, rfl, rfl, rfl, rfl, by decide, ?_, ?_, rfl, rfl, rfl, rfl, by decide⟩⟩
 ·obtain ⟨a, b, c, rfl⟩ := wA hv
  rfl
 ·decide
 ·intro x hx
  simp only [List.mem_cons, List.not_mem_nil, or_false] at hx
  rcases hx with rfl | rfl | rfl <;> rfl
theorem Ec (hmg : ∀ x, mg x = nsFind (ES w) x) : Fd fun qual cda cc scope body => rf (pp w mg mb) 37 qual ["self", "what"] "what" cda cc 47 scope body := by
 refine ⟨"SmtError.__init__", 36, 25, _, _, ⟨⟨_, _, _, _, _, _, _, _, _, _, _, _, rfl, rfl, rfl, fun vs hv => ?_⟩, ⟨_, _, _, _, _, _, _, _, _, _, rfl, fun L => ⟨_, rfl⟩⟩, rfl, ⟨_, _, _, rfl⟩, ⟨_, rfl⟩, ⟨_, _, _, _, _, _, rfl, rfl, rfl⟩, rfl, rfl, (hmg _).trans rfl, rfl, rfl, rfl, rfl, rfl, rfl, rfl, rfl, by decide, ?_, ?_, rfl, rfl, rfl, rfl, by decide⟩⟩
 ·obtain ⟨a, b, rfl⟩ := mn hv
  rfl
 ·decide
 ·intro x hx
  simp only [List.mem_cons, List.not_mem_nil, or_false] at hx
  rcases hx with rfl | rfl <;> rfl
theorem Ed (hmg : ∀ x, mg x = nsFind (ES w) x) : hO (pp w mg mb) 76 47 66 37 :=
 ⟨⟨_, _, _, _, _, _, _, _, _, _, _, _, _, _, rfl⟩, rfl, rfl, rfl, rfl, rfl, rfl, by decide, Eb hmg, Ec hmg⟩
theorem de (hmg : ∀ x, mg x = nsFind (ES w) x) : Gl (pp w mg mb) where
 nabs := (hmg _).trans rfl
 nint := (hmg _).trans rfl
 nisinstance := (hmg _).trans rfl
 nlen := (hmg _).trans rfl
 nrange := (hmg _).trans rfl
 nrepr := (hmg _).trans rfl
 nset := (hmg _).trans rfl
 nsorted := (hmg _).trans rfl
 nstr := (hmg _).trans rfl
 ntuple := (hmg _).trans rfl
 gFIGURES := ⟨_, (hmg _).trans rfl⟩
 gBOOL := ⟨_, (hmg _).trans rfl⟩
 gRULES := (hmg _).trans rfl
 rRULES := fun h ok => .tup (vs := [_, _, _, _, _, _, _, _, _, _, _]) ⟨_, ok.X 79 _ rfl, rfl, _, rfl⟩ (.cons (.str _ _) (.cons (.str _ _) (.cons (.str _ _) (.cons (.str _ _) (.cons (.str _ _) (.cons (.str _ _) (.cons (.str _ _) (.cons (.str _ _) (.cons (.str _ _) (.cons (.str _ _) (.cons (.str _ _) .nil)))))))))))
 glaw_rules := (hmg _).trans rfl
 rlaw_rules := fun h ok => .tup (vs := [_, _, _, _, _, _, _, _, _]) ⟨_, ok.X 498 _ rfl, rfl, _, rfl⟩ (.cons (.str _ _) (.cons (.str _ _) (.cons (.str _ _) (.cons (.str _ _) (.cons (.str _ _) (.cons (.str _ _) (.cons (.str _ _) (.cons (.str _ _) (.cons (.str _ _) .nil)))))))))
 gorder_of := (hmg _).trans rfl
 korder_of := rfl
 gtidy := (hmg _).trans rfl
 ktidy := rfl
 gis_tidy := (hmg _).trans rfl
 kis_tidy := rfl
 gresolve_on := (hmg _).trans rfl
 kresolve_on := rfl
 gnote_text := (hmg _).trans rfl
 knote_text := rfl
 grow_of := (hmg _).trans rfl
 krow_of := rfl
 gproof_text := (hmg _).trans rfl
 kproof_text := rfl
 gis_number_word := (hmg _).trans rfl
 kis_number_word := rfl
 gnumbers_in := (hmg _).trans rfl
 knumbers_in := rfl
 gnote_from := (hmg _).trans rfl
 knote_from := rfl
 gread_step := (hmg _).trans rfl
 kread_step := rfl
 gread_proof := (hmg _).trans rfl
 kread_proof := rfl
 glaw_digit := (hmg _).trans rfl
 klaw_digit := rfl
 glaw_literal := (hmg _).trans rfl
 klaw_literal := rfl
 glaw_clause := (hmg _).trans rfl
 klaw_clause := rfl
 glaw_note := (hmg _).trans rfl
 klaw_note := rfl
 glaw_chain := (hmg _).trans rfl
 klaw_chain := rfl
 glaw_put := (hmg _).trans rfl
 klaw_put := rfl
 glaw_rest_on := (hmg _).trans rfl
 klaw_rest_on := rfl
 glaw_is_trimmed := (hmg _).trans rfl
 klaw_is_trimmed := rfl
 glaw_is_refused := (hmg _).trans rfl
 klaw_is_refused := rfl
 glaw := (hmg _).trans rfl
 klaw := rfl
 gProof := (hmg _).trans rfl
 kProof := rfl
 mkProof := rfl
 inProof := rfl
 tyProof := rfl
 cls230 := ⟨rfl, rfl, rfl, rfl, ⟨_, rfl, rfl⟩⟩
 n230_steps := rfl
 n230_named := rfl
 n230_empty := rfl
 gBank := (hmg _).trans rfl
 kBank := rfl
 mkBank := rfl
 inBank := rfl
 tyBank := rfl
 cls493 := ⟨rfl, rfl, rfl, rfl, ⟨_, rfl, rfl⟩⟩
 n493_sort_names := rfl
 n493_sort_widths := rfl
 n493_fun_names := rfl
 n493_fun_args := rfl
 n493_fun_results := rfl
 n493_fresh_count := rfl
 n493_term_ops := rfl
 n493_term_args := rfl
 n493_term_sorts := rfl
 n493_term_datas := rfl
 n493_numbers := rfl
 n493_true_number := rfl
 n493_false_number := rfl
 mSteps_name := ⟨rfl, rfl, rfl⟩
 mSteps_names := ⟨rfl, rfl, rfl⟩
 mSteps_var_count := ⟨rfl, rfl, rfl⟩
 mSteps_size := ⟨rfl, rfl, rfl⟩
 mSteps_clause := ⟨rfl, rfl, rfl⟩
 mSteps_add := ⟨rfl, rfl, rfl⟩
 mSteps_chain := ⟨rfl, rfl, rfl⟩
 mProof_needed := ⟨rfl, rfl, rfl⟩
 mProof_trimmed := ⟨rfl, rfl, rfl⟩
 mProof_used_inputs := ⟨rfl, rfl, rfl⟩
 mBank_declare_fun := ⟨rfl, rfl, rfl⟩
 mBank_fresh_const := ⟨rfl, rfl, rfl⟩
 mBank_op := ⟨rfl, rfl, rfl⟩
 mBank_make := ⟨rfl, rfl, rfl⟩
 codehd := Cj
 fault := Ed hmg
 gProofFault := (hmg _).trans rfl
 kProofFault := rfl
 exm := rfl
end
section
variable {w : World} {mg mb : Str → Option Value}
theorem zt (hmg : ∀ x, mg x = nsFind (ES w) x) : ax (pp w mg mb) 1 86 lD :=
 bd zp vt (fun _ => rfl) (fun ent L => zT (de hmg) ) vo (fun ds sub k h => by cases h; subst_vars; rfl) (by decide)
theorem EY (hmg : ∀ x, mg x = nsFind (ES w) x) : ax (pp w mg mb) 3 93 xg :=
 bd EX Ch (fun _ => rfl) (fun ent L => FY (de hmg) (zt hmg) (fun i => ⟨i, rfl, rfl, rfl⟩)) BQ (fun ds sub k h => by cases h; subst_vars; rfl) (by decide)
theorem An (hmg : ∀ x, mg x = nsFind (ES w) x) : ax (pp w mg mb) 1 100 nX :=
 bd Ak xz (fun _ => rfl) (fun ent L => BG (de hmg) ) xe (fun ds sub k h => by cases h; subst_vars; rfl) (by decide)
theorem vE (hmg : ∀ x, mg x = nsFind (ES w) x) : ax (pp w mg mb) 4 105 ji :=
 bd vu sO (fun _ => rfl) (fun ent L => wU (de hmg) (EY hmg)) sG (fun ds sub k h => by cases h; subst_vars; rfl) (by decide)
theorem iM (hmg : ∀ x, mg x = nsFind (ES w) x) : ax (pp w mg mb) 1 119 dR :=
 bd vv sP (fun _ => rfl) (fun ent L => wW (de hmg) ) sD (fun ds sub k h => by cases h; subst_vars; rfl) (by decide)
theorem iN (hmg : ∀ x, mg x = nsFind (ES w) x) : ax (pp w mg mb) 1 126 dk :=
 bd vx sQ (fun _ => rfl) (fun ent L => wY (de hmg) ) sE (fun ds sub k h => by cases h; subst_vars; rfl) (by decide)
theorem nq (hmg : ∀ x, mg x = nsFind (ES w) x) : ax (pp w mg mb) 1 133 eH :=
 bd uM rQ (fun _ => rfl) (fun ent L => vg (de hmg) ) rD (fun ds sub k h => by cases h; subst_vars; rfl) (by decide)
theorem jG (hmg : ∀ x, mg x = nsFind (ES w) x) : ax (pp w mg mb) 1 140 dl :=
 bd pA nj (fun _ => rfl) (fun ent L => pW (de hmg) ) m6 (fun ds sub k h => by cases h; subst_vars; rfl) (by decide)
theorem kA (hmg : ∀ x, mg x = nsFind (ES w) x) : ax (pp w mg mb) 1 147 f5 :=
 bd vy sR (fun _ => rfl) (fun ent L => w0 (de hmg) ) sF (fun ds sub k h => by cases h; subst_vars; rfl) (by decide)
theorem sZ (hmg : ∀ x, mg x = nsFind (ES w) x) : ax (pp w mg mb) 1 154 ia :=
 bd sS qH (fun _ => rfl) (fun ent L => t7 (de hmg) ) qp (fun ds sub k h => by cases h; subst_vars; rfl) (by decide)
theorem io (hmg : ∀ x, mg x = nsFind (ES w) x) : ax (pp w mg mb) 2 168 ey :=
 bd xA uN (fun _ => rfl) (fun ent L => yD (de hmg) (An hmg)) ui (fun ds sub k h => by cases h; subst_vars; rfl) (by decide)
theorem uZ (hmg : ∀ x, mg x = nsFind (ES w) x) : ax (pp w mg mb) 5 173 iG :=
 bd uO rR (fun _ => rfl) (fun ent L => vi (de hmg) (io hmg) (sZ hmg) (vE hmg)) rE (fun ds sub k h => by cases h; subst_vars; rfl) (by decide)
theorem mf (hmg : ∀ x, mg x = nsFind (ES w) x) : ax (pp w mg mb) 1 194 fP :=
 bd sT qI (fun _ => rfl) (fun ent L => t9 (de hmg) ) qw (fun ds sub k h => by cases h; subst_vars; rfl) (by decide)
theorem rW (hmg : ∀ x, mg x = nsFind (ES w) x) : ax (pp w mg mb) 4 199 gE :=
 bd rS pB (fun _ => rfl) (fun ent L => sC (de hmg) (mf hmg) (io hmg) (iM hmg) (iN hmg)) pt (fun ds sub k h => by cases h; subst_vars; rfl) (by decide)
theorem nw (hmg : ∀ x, mg x = nsFind (ES w) x) : ax (pp w mg mb) 2 213 eN :=
 bd nk lN (fun _ => rfl) (fun ent L => og (de hmg) (mf hmg)) lI (fun ds sub k h => by cases h; subst_vars; rfl) (by decide)
theorem ny (hmg : ∀ x, mg x = nsFind (ES w) x) : ∀ n : Nat, ax (pp w mg mb) n 237 (gW n)
 | 0 => fun A s sub vs ds k R Rm C0 rs hg hR => by
  obtain ⟨d, -, -, h1, h2, -⟩ := hg
  cases d <;> simp [cost, jl] at h1 h2
 | n + 1 => bd xB uP (fun _ => rfl) (fun ent L => yF (de hmg) (ny hmg n)) (ux n) (fun ds sub k h => by cases h; subst_vars; rfl) (by decide)
theorem xK (hmg : ∀ x, mg x = nsFind (ES w) x) : ax (pp w mg mb) 20 237 (gW 20) := ny hmg 20
theorem Ck (hmg : ∀ x, mg x = nsFind (ES w) x) : ax (pp w mg mb) 1 242 qA :=
 bd Ci zq (fun _ => rfl) (fun ent L => Dp (de hmg) ) zg (fun ds sub k h => by cases h; subst_vars; rfl) (by decide)
theorem Ao (hmg : ∀ x, mg x = nsFind (ES w) x) : ax (pp w mg mb) 1 385 n5 :=
 bd Al xF (fun _ => rfl) (fun ent L => BI (de hmg) ) xo (fun ds sub k h => by cases h; subst_vars; rfl) (by decide)
theorem vF (hmg : ∀ x, mg x = nsFind (ES w) x) : ax (pp w mg mb) 21 249 f7 :=
 bd vz sU (fun _ => rfl) (fun ent L => w7 (de hmg) (Ao hmg) (nq hmg) (kA hmg) (jG hmg) (xK hmg) (Ck hmg)) sI (fun ds sub k h => by cases h; subst_vars; rfl) (by decide)
theorem fH (hmg : ∀ x, mg x = nsFind (ES w) x) : ax (pp w mg mb) 1 254 bQ :=
 bd qJ oj (fun _ => rfl) (fun ent L => rn (de hmg) ) oi (fun ds sub k h => by cases h; subst_vars; rfl) (by decide)
theorem oY (hmg : ∀ x, mg x = nsFind (ES w) x) : ax (pp w mg mb) 2 259 ik :=
 bd vA sV (fun _ => rfl) (fun ent L => w9 (de hmg) (fH hmg)) sJ (fun ds sub k h => by cases h; subst_vars; rfl) (by decide)
theorem qN (hmg : ∀ x, mg x = nsFind (ES w) x) : ax (pp w mg mb) 2 266 iY :=
 bd xC uQ (fun _ => rfl) (fun ent L => yI (de hmg) (fH hmg)) uA (fun ds sub k h => by cases h; subst_vars; rfl) (by decide)
theorem qO (hmg : ∀ x, mg x = nsFind (ES w) x) : ax (pp w mg mb) 3 273 fU :=
 bd xD uR (fun _ => rfl) (fun ent L => yK (de hmg) (io hmg) (kA hmg) (qN hmg) (oY hmg)) uK (fun ds sub k h => by cases h; subst_vars; rfl) (by decide)
theorem xL (hmg : ∀ x, mg x = nsFind (ES w) x) : vW (pp w mg mb) 10 273 76 il :=
 yt uS rT (fun _ => rfl) (fun l ent L hst => vj (de hmg) hst (io hmg) (kA hmg) (qN hmg) (oY hmg) ) sL (fun ds sub h => by cases h; subst_vars; rfl) (by decide)
theorem vG (hmg : ∀ x, mg x = nsFind (ES w) x) : ax (pp w mg mb) 4 280 f9 :=
 bd vB sW (fun _ => rfl) (fun ent L => xb (de hmg) (iM hmg) (iN hmg) (fH hmg) (qO hmg)) sM (fun ds sub k h => by cases h; subst_vars; rfl) (by decide)
theorem vH (hmg : ∀ x, mg x = nsFind (ES w) x) : vW (pp w mg mb) 11 280 76 iL :=
 yt sX qK (fun _ => rfl) (fun l ent L hst => ue (de hmg) hst (iM hmg) (iN hmg) (fH hmg) (qO hmg) (xL hmg)) rN (fun ds sub h => by cases h; subst_vars; rfl) (by decide)
theorem qP (hmg : ∀ x, mg x = nsFind (ES w) x) : ax (pp w mg mb) 1 427 iX :=
 bd xG uU (fun _ => rfl) (fun ent L => yO (de hmg) ) uo (fun ds sub k h => by cases h; subst_vars; rfl) (by decide)
theorem xM (hmg : ∀ x, mg x = nsFind (ES w) x) : ax (pp w mg mb) 2 294 gV :=
 bd xE uT (fun _ => rfl) (fun ent L => yM (de hmg) (qP hmg)) uq (fun ds sub k h => by cases h; subst_vars; rfl) (by decide)
theorem ou (hmg : ∀ x, mg x = nsFind (ES w) x) : ax (pp w mg mb) 1 336 fm :=
 bd om ml (fun _ => rfl) (fun ent L => pi (de hmg) ) mi (fun ds sub k h => by cases h; subst_vars; rfl) (by decide)
theorem ow (hmg : ∀ x, mg x = nsFind (ES w) x) : ax (pp w mg mb) 2 350 dA :=
 bd on mm (fun _ => rfl) (fun ent L => pk (de hmg) (ou hmg) (qP hmg)) mj (fun ds sub k h => by cases h; subst_vars; rfl) (by decide)
theorem lO (hmg : ∀ x, mg x = nsFind (ES w) x) : ax (pp w mg mb) 1 505 gU :=
 bd xH uV (fun _ => rfl) (fun ent L => yQ (de hmg) ) uj (fun ds sub k h => by cases h; subst_vars; rfl) (by decide)
theorem nz (hmg : ∀ x, mg x = nsFind (ES w) x) : ax (pp w mg mb) 2 512 gA :=
 bd uW rU (fun _ => rfl) (fun ent L => vl (de hmg) (lO hmg)) rF (fun ds sub k h => by cases h; subst_vars; rfl) (by decide)
theorem oZ (hmg : ∀ x, mg x = nsFind (ES w) x) : ax (pp w mg mb) 3 519 ie :=
 bd vC sY (fun _ => rfl) (fun ent L => xd (de hmg) ) sH (fun ds sub k h => by cases h; subst_vars; rfl) (by decide)
theorem zu (hmg : ∀ x, mg x = nsFind (ES w) x) : ax (pp w mg mb) 3 526 lG :=
 bd zr vD (fun _ => rfl) (fun ent L => zX (de hmg) (lO hmg) (nz hmg)) vq (fun ds sub k h => by cases h; subst_vars; rfl) (by decide)
theorem xN (hmg : ∀ x, mg x = nsFind (ES w) x) : ax (pp w mg mb) 4 531 jX :=
 bd xI uX (fun _ => rfl) (fun ent L => yS (de hmg) (oZ hmg)) ul (fun ds sub k h => by cases h; subst_vars; rfl) (by decide)
theorem Ap (hmg : ∀ x, mg x = nsFind (ES w) x) : ax (pp w mg mb) 6 536 iC :=
 bd Am xJ (fun _ => rfl) (fun ent L => BK (de hmg) (io hmg) (uZ hmg) (xN hmg) (oZ hmg) (lO hmg) (nz hmg) (zu hmg)) xm (fun ds sub k h => by cases h; subst_vars; rfl) (by decide)
theorem u6 (hmg : ∀ x, mg x = nsFind (ES w) x) : ax (pp w mg mb) 1 541 iH :=
 bd uY rV (fun _ => rfl) (fun ent L => vn (de hmg) ) rH (fun ds sub k h => by cases h; subst_vars; rfl) (by decide)
theorem qQ (hmg : ∀ x, mg x = nsFind (ES w) x) : ax (pp w mg mb) 9 546 dU :=
 bd qL oo (fun _ => rfl) (fun ent L => rz (de hmg) (rW hmg) (nw hmg) (u6 hmg)) oh (fun ds sub k h => by cases h; subst_vars; rfl) (by decide)
theorem Aq (hmg : ∀ x, mg x = nsFind (ES w) x) : EB (pp w mg mb) 12 553 gQ :=
 ED (C := 76) qM oq (fun _ => rfl) rfl (fun l ent L hst => rA (de hmg) hst (vH hmg)) vr (fun ds sub h => by cases h; subst_vars; rfl) (by decide) rfl ((hmg _).trans rfl) rfl
end
theorem GV {w : World} {mg mb : Str → Option Value} {topP : Program} {loose : List Str} {mean : ExcName → Option Value} {h : Heap} (X : (K0.heap_1 w.params).In h) (T : Top topP loose mean mg mb h) : ∀ x, mg x = nsFind (ES w) x := fun x => by
 obtain ⟨o, es, ep, e1, e2, _, e3⟩ := T.g
 have e4 := X mainGlobals _ rfl
 rw [e4] at e1
 cases e1
 have e5 : es = ES w := by
  have := e2
  unfold ES
  injection e2 with q1 q2
  exact q1.symm
 rw [← e3, e5]
theorem Ee {w : World} {mg mb : Str → Option Value} {h₁ : Heap} {fa a0 : Addr} {cd : Value} {ns0 : List Int} {ws : List Value} {m : Str → Option Value} {oc1 oc2 : Obj} {loose : List Str} {mean : ExcName → Option Value} {topP : Program} {v1 v2 : Option Value} {g : Heap} {L : Addr} {Q : Flow → Shared → Prop} {E : Value → Shared → Prop} {s : Shared}
  (X : (K0.heap_1 w.params).In g) (T : Top topP loose mean mg mb g) (F : Fr g L h₁ m) (N : News g L h₁ [(L + 1 + 1, oc1), (L + 1, oc2), (514, tabObj #[])]) (d1 : oc1.data = .cell v1) (d2 : oc2.data = .cell v2)
  (hL : g.IsList a0 ws.toArray) (hI : IntsAre ws ns0) (hlen : ¬ (63 : Int) < ns0.length) (l0 : 514 < L) (hm : m "script" = some (.ref a0)) (hs : s.heap = h₁)
  (hQ : ∀ h' tk', (∀ b o, g.get? b = some o → h'.get? b = some o) → GrownAt 514 h' → (∃ m', Fr g L h' m') → Q (.ret (.bool true)) { s with heap := h', toks := tk' }) :
  wpAny (model PySem.Challenge.rw_no0010_01.row.prog w) (callerA.deeper (envOfC "law" yT L fa cd)) (execs E6 (envOfC "law" yT L fa cd)) Q E s := by
 have hmg := GV X T
 have hW := GI (p := pp w mg mb) (f := fa) (cdv := cd) (ent := g) (L := L) (de hmg) hL hI (ow hmg) (xM hmg) (iM hmg) (iN hmg) (nq hmg) (jG hmg) (qQ hmg) (Ap hmg) (vF hmg) (vG hmg) (Aq hmg)
 have ok : (pp w mg mb).Ok g := ⟨X, T.g, T.b, T.nolimit, T.nodigits, T.builtins, T.bmain⟩
 have n1 := N.get (a := L + 1 + 1) (o := oc1) (by simp)
 have n2 := N.get (a := L + 1) (o := oc2) (by simp)
 have n3 := N.get (a := 514) (o := tabObj #[]) (by simp)
 have gL : g.get? L = none := Heap.get?_none_of_le F.above
 have nt : ∀ {oc : Obj} {v : Option Value}, oc.data = .cell v → ¬ o3 oc := fun {oc v} e => dJ (fun _ _ z => by rw [e] at z; cases z) fun _ z => by rw [e] at z; cases z
 obtain ⟨oL, es, ep, hoL, hdd, hrest⟩ := F.ns
 have hnL : ¬ o3 oL := dJ (fun _ _ z => by rw [hdd] at z; cases z) fun _ z => by rw [hdd] at z; cases z
 have efa : (yU fa cd g L).fa = [L, L + 1 + 1, L + 1] := rfl
 have S : cJ (pp w mg mb) (yU fa cd g L) g ⟨[some (.ref a0), none, none, none, none, none, none, none, none, none, none, none, none], [(514, gB)]⟩ s.heap := by
  rw [hs]
  refine ⟨ok, rfl, fun a o e => e, F.keep, Ea.nodup L, rfl, fun i l d hl hd => ?_, fun l hl => ?_, fun q hq => ?_, by simp [MS.feet, feet, gB], fun a ha => ?_, fun a ha => ?_⟩
  ·match i, hl, hd with
   | 0, hl, hd =>
    cases hl
    cases hd
    exact ⟨_, ⟨m, F.ns, hm⟩, .ref a0⟩
   | j + 1, hl, hd =>
    exfalso
    have : ([none, none, none, none, none, none, none, none, none, none, none, none] : List (Option D))[j]? = some (some d) := by simpa using hd
    have h2 := HM this
    simp at h2
  ·rw [efa]
   have hl' : l ∈ rB L := hl
   simp only [rB, List.mem_cons, List.not_mem_nil, or_false] at hl'
   rcases hl' with rfl | rfl | rfl | rfl | rfl | rfl | rfl | rfl | rfl | rfl | rfl | rfl | rfl
   all_goals first
    | exact ⟨⟨m, F.ns⟩, by simp [eE.addr]⟩
    | exact ⟨⟨_, _, n2, d2⟩, by simp [eE.addr]⟩
    | exact ⟨⟨_, _, n1, d1⟩, by simp [eE.addr]⟩
  ·obtain rfl := List.mem_singleton.mp hq
   exact ⟨.inl n3, by decide⟩
  ·have : a = 514 := by simpa [MS.feet, feet, gB] using ha
   subst this
   refine ⟨?_, N.fresh (a := 514) (o := tabObj #[]) (by simp)⟩
   rw [efa]
   simp only [List.mem_cons, List.not_mem_nil, or_false, not_or]
   exact ⟨Nat.ne_of_lt l0, Nat.ne_of_lt (Nat.lt_succ_of_lt (Nat.lt_succ_of_lt l0)), Nat.ne_of_lt (Nat.lt_succ_of_lt l0)⟩
  ·rw [efa] at ha
   simp only [List.mem_cons, List.not_mem_nil, or_false] at ha
   rcases ha with rfl | rfl | rfl
   ·exact ⟨gL, oL, hoL, hnL⟩
   ·exact ⟨N.fresh (a := L + 1 + 1) (o := oc1) (by simp), oc1, n1, nt d1⟩
   ·exact ⟨N.fresh (a := L + 1) (o := oc2) (by simp), oc2, n2, nt d2⟩
 have R : tv (yU fa cd g L) (callerA.deeper (envOfC "law" yT L fa cd)) 22 := ⟨⟨rfl, rfl, by show callerA.depth + 1 + 22 < recursionLimit; decide, by show callerA.units + 3 + 20 * 22 + 200 < cLine; decide⟩, rfl⟩
 refine hW _ g _ s (fun fl σ' => fl = .ret (.bool true) ∧ σ'.st[0]? = some (514, gB)) Q E R S (D7 (by lia) fun σ h0 => ⟨rfl, h0⟩) (fun fl σ' v h' tk' hk S' r gr => ?_) (fun σ' x h' tk' hk hX => ?_)
 ·obtain ⟨rfl, h0⟩ := hk
  have hv : v = .ret (.bool true) := by
   cases r with
   | ret r => cases r; rfl
  subst hv
  refine hQ h' tk' S'.keep ?_ ?_
  ·have := (S'.objs _ (HM h0)).1
   rcases this with e | ⟨c', e, _⟩
   ·exact ⟨_, e⟩
   ·exact ⟨_, e⟩
  ·obtain ⟨⟨m', hm'⟩, _⟩ := S'.frm (.ns L "script") (by simp [Cx.ofF, rB])
   exact ⟨m', hm', S'.keep, F.above⟩
 ·obtain ⟨q, _⟩ := hk
  cases q
end Mine
end
theorem PySem.Challenge.cw_no0010_01_holds : PySem.Challenge.rw_no0010_01.Holds := by
 refine Mine.hd ?_
 k_go0
 all_goals try k_fold
 refine Mine.Ee (by assumption) (by assumption) (by assumption) (by assumption) (by assumption) (by assumption) (by assumption) (by assumption) (by assumption) (by assumption) (by exact rfl) (by exact rfl) ?hQ
 case hQ =>
  intro h' tk' h1 h2 h3
  obtain ⟨m', F'⟩ := h3
  refine ⟨?_, h2, True.intro⟩
  refine goodW_bool F' ?_ ?_ ?_
  ·assumption
  ·intro cls; rfl
  ·first | wrow_post | kc_post
