import PyProof.Rows.All
import PyProof.ExcBaseAll.Exception
import PyProof.ExcAttrAll.Exception
import PyProof.InstStoreFacts
import Wide.FinOn
import OpenK.AllK
import Wide.All
import PySem.Challenge.RW_pq0346_01
open PySem PySem.W PyProof.Rows
set_option Elab.async false
set_option linter.unusedVariables false
set_option linter.unusedSimpArgs false
namespace Mine
theorem mid {P : Prop} {p q : Program} {loose : List Str} {Xt : Shared → Bool} {α : Type} {Yf : Shared → α} {Ya : World → α} {N : Nat} (hl : LeftO p q loose Xt Yf Ya N true) (k : LeftO p q loose Xt Yf Ya N true → P) : P := k hl
structure Box where
  L : Prop
  T : Prop
  ok : L → T → PySem.Challenge.rw_pq0346_01.Holds
set_option maxRecDepth 100000 in
set_option maxHeartbeats 1000000 in
noncomputable def hd1 : Box := by
  apply Box.mk
  case ok =>
    intro left walk
    w_on; o_law
    apply mid (p := PySem.Challenge.pw_pq0346_01)
    case' k =>
      intro _
      refine (let_mvar% ?hc := walk; ?k2)
      k_head
      (case hw => w_witness2)
    case hl => exact left
def keep : List Nat := [0, 2, 4, 5, 6, 7, 8, 9, 10, 11, 12, 13, 14, 15, 16, 17, 18, 20, 21, 22, 23, 24, 25, 26, 27]
theorem view_eq : hd1.view_39 = view PySem.Challenge.pw_pq0346_01 keep := by kernel_rfl
def topRunG (thr ok : Thread → Bool) (stp : SharedT → Thread → Option (SharedT × Thread)) : Nat → SharedT → Thread → Option SharedT
  | 0, _, _ => none
  | n + 1, s, t => match thr t with
    | true => some s
    | false => match ok t with
      | false => none
      | true => match stp s t with
        | some (s', t') => topRunG thr ok stp n s' t'
        | none => none
theorem topRunG_of {tb : String → Option Builtin} {p : Program} {w : World} {n₀ : Nat} {ann : Option Value} : ∀ {N : Nat} {s s' : SharedT} {t : Thread},
    topRunG through (stepOk n₀ ann) (stepT (denote tb) p w) N s t = some s' → topRun tb p w n₀ ann N s.abs t = some s'.abs
  | 0, _, _, _, h => by cases h
  | N + 1, s, s', t, h => by
    unfold topRunG at h
    unfold topRun
    cases ht : through t with
    | true => rw [ht] at h; cases h; rfl
    | false =>
      rw [ht] at h
      cases hk : stepOk n₀ ann t with
      | false => rw [hk] at h; cases h
      | true =>
        rw [hk] at h
        cases hs : stepT (denote tb) p w s t with
        | none => rw [hs] at h; cases h
        | some r => obtain ⟨s₂, t₂⟩ := r; rw [hs] at h; rw [stepT_spec hs]; exact topRunG_of h
noncomputable def bootT (w : World) (os : OsState) : SharedT :=
  ⟨((boot_heap w.params).objs.toList.foldl (fun (x : Nat × BT) o => (x.1 + 1, x.2.ins x.1 o)) (0, BT.nil)).2, (boot_heap w.params).objs.toList.length, (boot_heap w.params).life, Array.mk [], boot_drawn, boot_toks, os⟩
theorem bootT_abs (w : World) (os : OsState) : (bootT w os).abs = ⟨boot_heap w.params, Array.mk [], boot_drawn, boot_toks, os⟩ := by kernel_rfl
noncomputable abbrev topOf (p : Program) (w : World) (os : OsState) (N : Nat) : Option SharedT :=
  topRunG through (stepOk (boot_heap w.params).objs.size ((boot_heap w.params).nsMap mainGlobals "__annotations__")) (stepT (denote treeTable) p w) N (bootT w os) (topStub p)
def PA (p q : Program) (loose : List Str) (Xt : Shared → Bool) (N : Nat) : Prop := ∀ w os, (topOf p w os N).map (fun s => (staticsOk (importedModules p.main.body) (boot_heap w.params) s.abs.heap && namesBound p s.abs.heap && gensDone s.abs && laidKept (boot_heap w.params) s.abs.heap, (openSeen q loose (importedModules p.main.body) Xt true s.abs).1, (openSeen q loose (importedModules p.main.body) Xt true s.abs).2.1)) = some (true, (openGood q loose).1, (openGood q loose).2.1)
def PB (p q : Program) (loose : List Str) (Xt : Shared → Bool) (N : Nat) : Prop := ∀ w os, (topOf p w os N).map (fun s => ((openSeen q loose (importedModules p.main.body) Xt true s.abs).2.2.1, (openSeen q loose (importedModules p.main.body) Xt true s.abs).2.2.2.1, (openSeen q loose (importedModules p.main.body) Xt true s.abs).2.2.2.2.1, (openSeen q loose (importedModules p.main.body) Xt true s.abs).2.2.2.2.2.1)) = some ((openGood q loose).2.2.1, (openGood q loose).2.2.2.1, (openGood q loose).2.2.2.2.1, (openGood q loose).2.2.2.2.2.1)
theorem of_parts {p q : Program} {loose : List Str} {Xt : Shared → Bool} {α : Type} {Yf : Shared → α} {Ya : World → α} {N : Nat}
    (e : opening p = plainProg p.main.scope.names) (hN : Nat.ble 600 N = true) (f : ∀ s, fenceModules? p s = some s)
    (h0 : ∀ w : World, ((boot_heap w.params).isNs mainGlobals && (Array.mk [] : Array GenState).size == 0) = true)
    (hA : PA p q loose Xt N) (hB : PB p q loose Xt N) (hC : ∀ w os, (topOf p w os N).map (fun s => ((openSeen q loose (importedModules p.main.body) Xt true s.abs).2.2.2.2.2.2.1, (openSeen q loose (importedModules p.main.body) Xt true s.abs).2.2.2.2.2.2.2.1, (openSeen q loose (importedModules p.main.body) Xt true s.abs).2.2.2.2.2.2.2.2, Yf s.abs)) = some ((openGood q loose).2.2.2.2.2.2.1, (openGood q loose).2.2.2.2.2.2.2.1, (openGood q loose).2.2.2.2.2.2.2.2, Ya w)) : LeftO p q loose Xt Yf Ya N true := by
  intro w
  obtain ⟨⟨h', gs, d, k, os⟩, hs, hv⟩ := Option.map_eq_some_iff.mp (boot_open e hN f w)
  obtain ⟨rfl, rfl, rfl, rfl⟩ : h' = boot_heap w.params ∧ gs = Array.mk [] ∧ d = boot_drawn ∧ k = boot_toks := by simpa using hv
  unfold openEnds
  rw [hs]
  obtain ⟨s, r, a⟩ := Option.map_eq_some_iff.mp (hA w os)
  have b := hB w os
  have c := hC w os
  rw [r] at b c
  simp only [Option.map_some, Option.some.injEq, Prod.mk.injEq] at a b c
  have r' := topRunG_of r
  rw [bootT_abs] at r'
  have t : topFrom treeTable p w N ⟨boot_heap w.params, Array.mk [], boot_drawn, boot_toks, os⟩ = some s.abs := by
    unfold topFrom
    dsimp only
    rw [h0 w]
    dsimp only
    rw [r']
    dsimp only [Option.bind_some]
    rw [a.1]
  show (topFrom treeTable p w N ⟨boot_heap w.params, Array.mk [], boot_drawn, boot_toks, os⟩).map _ = _
  rw [t]
  exact congrArg some (Prod.ext (Prod.ext a.2.1 (Prod.ext a.2.2 (Prod.ext b.1 (Prod.ext b.2.1 (Prod.ext b.2.2.1 (Prod.ext b.2.2.2 (Prod.ext c.1 (Prod.ext c.2.1 c.2.2.1)))))))) c.2.2.2)
set_option maxRecDepth 100000 in
theorem leftA : PA PySem.Challenge.pw_pq0346_01 (view PySem.Challenge.pw_pq0346_01 keep) [] (fun s => xlAt (view PySem.Challenge.pw_pq0346_01 keep) [] s && recOk PySem.Challenge.rw_pq0346_01.row.toRowW.records s) 3462 := by
  intro w os
  generalize hp : PySem.Challenge.pw_pq0346_01 = p
  rw [PySem.W.Fast.te10120539595659002974] at hp
  subst hp
  delta topOf openGood
  rw [PySem.W.Fast.te10156331382660048174, PySem.W.Fast.te11892475500146522536, PySem.W.Fast.te6613529449190102663, PySem.W.Fast.te14364793385576792824, PySem.W.Fast.te5923862056798008813, PySem.W.Fast.te8920871248978507458, PySem.W.Fast.te4187177175401517315]
  delta PySem.W.Fast.tw4187177175401517315
  dsimp only
  kernel_rfl
set_option maxRecDepth 100000 in
theorem leftB : PB PySem.Challenge.pw_pq0346_01 (view PySem.Challenge.pw_pq0346_01 keep) [] (fun s => xlAt (view PySem.Challenge.pw_pq0346_01 keep) [] s && recOk PySem.Challenge.rw_pq0346_01.row.toRowW.records s) 3462 := by
  intro w os
  generalize hp : PySem.Challenge.pw_pq0346_01 = p
  rw [PySem.W.Fast.te10120539595659002974] at hp
  subst hp
  delta topOf openGood
  rw [PySem.W.Fast.te10156331382660048174, PySem.W.Fast.te11892475500146522536, PySem.W.Fast.te6613529449190102663, PySem.W.Fast.te14364793385576792824, PySem.W.Fast.te5923862056798008813, PySem.W.Fast.te8920871248978507458, PySem.W.Fast.te4187177175401517315]
  delta PySem.W.Fast.tw4187177175401517315
  dsimp only
  kernel_rfl
set_option maxRecDepth 100000 in
theorem left : hd1.L := by
  unfold hd1
  dsimp only
  rw [view_eq]
  refine of_parts (by kernel_rfl) (by kernel_rfl) (fun s => by kernel_rfl) (fun w => by kernel_rfl) leftA leftB ?_
  intro w os
  generalize hp : PySem.Challenge.pw_pq0346_01 = p
  rw [PySem.W.Fast.te10120539595659002974] at hp
  subst hp
  delta topOf openGood
  rw [PySem.W.Fast.te10156331382660048174, PySem.W.Fast.te11892475500146522536, PySem.W.Fast.te6613529449190102663, PySem.W.Fast.te14364793385576792824, PySem.W.Fast.te5923862056798008813, PySem.W.Fast.te8920871248978507458, PySem.W.Fast.te4187177175401517315]
  delta PySem.W.Fast.tw4187177175401517315
  dsimp only
  kernel_rfl
open PySem.Calls
set_option maxRecDepth 100000
inductive MV where
  | none
  | bool (b : Bool)
  | int (i : Int)
  | str (x : Str)
  | ref (a : Addr)
  | val (v : Value)
  | any

def Rep : MV → Value → Prop
  | .none, v => v = Value.none
  | .bool b, v => v = Value.bool b
  | .int i, v => ∃ t, v = Value.int i t
  | .str x, v => ∃ t, v = Value.str x t
  | .ref a, v => v = Value.ref a
  | .val u, v => v = u
  | .any, _ => True

def RepL : List MV → List Value → Prop
  | [], [] => True
  | m :: ms, v :: vs => Rep m v ∧ RepL ms vs
  | _, _ => False

def RepO : Option MV → Option Value → Prop
  | none, none => True
  | some m, some v => Rep m v
  | _, _ => False

/-- an object's dict: written names in order -/
def RepF : List (Str × MV) → List DictEntry → Prop
  | [], [] => True
  | p :: ms, e :: es => (∃ t, e.key = .str p.1 t) ∧ Rep p.2 e.val ∧ RepF ms es
  | _, _ => False

def RepD : List (Int × MV) → List (Int × Value) → Prop
  | [], [] => True
  | p :: ms, q :: qs => p.1 = q.1 ∧ Rep p.2 q.2 ∧ RepD ms qs
  | _, _ => False

inductive MObj where
  | list (xs : List MV)
  | tuple (xs : List MV)
  | inst (C : Addr) (fs : List (Str × MV))
  | dict (es : List (Int × MV))
  | cell (v : Option MV)
  | slice (lo hi st : Option Int)
  | listIter (l : Addr) (i : Nat)
  | tupIter (l : Addr) (i : Nat)
  | range (k : Int)
  | rangeIter (x left : Int)
  | raw (o : Obj)

abbrev Loc := Str → Option MV
abbrev Hp := Addr → Option MObj
def lset (ρ : Loc) (x : Str) (v : MV) : Loc := fun y => if y = x then some v else ρ y
def hset (H : Hp) (a : Addr) (o : MObj) : Hp := fun b => if b = a then some o else H b

theorem lset_eq (ρ : Loc) (x : Str) (v : MV) : lset ρ x v x = some v := by simp [lset]
theorem lset_ne {ρ : Loc} {x y : Str} {v : MV} (h : y ≠ x) : lset ρ x v y = ρ y := by simp [lset, h]
theorem hset_eq (H : Hp) (a : Addr) (o : MObj) : hset H a o a = some o := by simp [hset]
theorem hset_ne {H : Hp} {a b : Addr} {o : MObj} (h : b ≠ a) : hset H a o b = H b := by simp [hset, h]

/-- what the whole proof stands on -/
structure Cx where
  prog : Program
  w : World
  K : Frag
  h₀ : Heap
  p : Program
  loose : List Str
  mean : ExcName → Option Value
  mg : Str → Option Value
  mb : Str → Option Value
  gens : Array GenState
  os : OsState

structure Cx.Ok (c : Cx) : Prop where
  X : c.K.In c.h₀
  T : Top c.p c.loose c.mean c.mg c.mb c.h₀

def FrAt (h : Heap) (L : Addr) (ρ : Loc) : Prop := ∃ m, h.Ns L m ∧ ∀ x v, ρ x = some v → ∃ u, m x = some u ∧ Rep v u

theorem FrAt.frame {h : Heap} {L F : Addr} {ρ : Loc} (x : FrAt h L ρ) (k : F ≠ L → ∃ o, h.get? F = some o ∧ ∀ vs, o.data ≠ .fields vs) : ∃ o', h.get? F = some o' ∧ ∀ vs, o'.data ≠ .fields vs := by
  by_cases q : F = L
  · obtain ⟨m, ⟨o', es, ep, h1, h2, _⟩, _⟩ := x
    exact ⟨o', q ▸ h1, fun vs e => by rw [h2] at e; cases e⟩
  · exact k q

def ObjAt (c : Cx) (h : Heap) (a : Addr) : MObj → Prop
  | .list xs => ∃ vs n, IsL h a vs n ∧ RepL xs vs.toList
  | .tuple xs => ∃ vs n, h.get? a = some { cls := .type "tuple", data := .seq vs n } ∧ RepL xs vs.toList
  | .inst C fs => ∃ d es n, a = d + 1 ∧ h.get? a = some (instObj C d) ∧ h.get? d = some (dictOf es n) ∧ RepF fs es
  | .dict es => (a == sysModules) = false ∧ ∃ kvs, h.DictOf (intKind c.prog c.w) a kvs ∧ RepD es kvs
  | .cell v => ∃ o u, h.get? a = some o ∧ o.data = .cell u ∧ RepO v u
  | .slice lo hi st => ∃ vl vu vs, h.get? a = some { cls := .type "slice", data := .fields #[vl, vu, vs] } ∧ IsPart vl lo ∧ IsPart vu hi ∧ IsPart vs st
  | .listIter l i => h.IsListIter a l i
  | .tupIter l i => h.IsTupleIter a l i
  | .range k => ∃ t u v, IsRange h a 0 k 1 t u v
  | .rangeIter x left => IsRangeIter h a x left 1
  | .raw o => h.get? a = some o

/-- the addresses that an object of the table takes -/
def InFp (a : Addr) (o : MObj) (b : Addr) : Prop := b = a ∨ match o with
  | .inst _ _ => b + 1 = a
  | _ => False

def Tr (H : Hp) (b : Addr) : Prop := ∃ a o, H a = some o ∧ InFp a o b

/-- the frames that stand on the stack -/
def frs (A : Around) : List Addr := (A.frames.getD []).filterMap (·.frame)
def Blw (c : Cx) (A : Around) (H : Hp) (h : Heap) : Prop :=
  ∃ l, A.frames = some l ∧ ∀ env ∈ l, env.scope.kind ≠ .module ∧ ∃ F o, env.frame = some F ∧ c.h₀.get? F = none ∧ ¬ Tr H F ∧ h.get? F = some o ∧ ∀ vs, o.data ≠ .fields vs
theorem Blw.step {c : Cx} {A : Around} {H H' : Hp} {h h' : Heap} (x : Blw c A H h) (k : ∀ F o, h.get? F = some o → ¬ Tr H F → (∀ vs, o.data ≠ .fields vs) → ∃ o', h'.get? F = some o' ∧ ∀ vs, o'.data ≠ .fields vs)
    (g : ∀ F, Tr H' F → Tr H F ∨ h.get? F = none) : Blw c A H' h' := by
  obtain ⟨l, hl, hp⟩ := x
  refine ⟨l, hl, fun env he => ?_⟩
  obtain ⟨hk, F, o, h1, h2, h3, h4, h5⟩ := hp env he
  obtain ⟨o', h6, h7⟩ := k F o h4 h3 h5
  refine ⟨hk, F, o', h1, h2, fun ht => ?_, h6, h7⟩
  rcases g F ht with q | q
  · exact h3 q
  · rw [h4] at q; cases q
theorem Blw.keeps {c : Cx} {A : Around} {H : Hp} {h h' : Heap} (x : Blw c A H h) (k : ∀ b o, h.get? b = some o → h'.get? b = some o) : Blw c A H h' := x.step (fun F o e _ hd => ⟨o, k F o e, hd⟩) fun _ => .inl
theorem Blw.mem {c : Cx} {A : Around} {H : Hp} {h : Heap} (x : Blw c A H h) {F : Addr} (hF : F ∈ frs A) : c.h₀.get? F = none ∧ ¬ Tr H F ∧ ∃ o, h.get? F = some o ∧ ∀ vs, o.data ≠ .fields vs := by
  obtain ⟨l, hl, hp⟩ := x
  unfold frs at hF
  rw [hl] at hF
  obtain ⟨env, he, hf⟩ := List.mem_filterMap.mp hF
  obtain ⟨_, F', o, h1, h2, h3, h4, h5⟩ := hp env he
  rw [hf] at h1; cases h1
  exact ⟨h2, h3, o, h4, h5⟩

structure Sat (c : Cx) (A : Around) (L : Addr) (ρ : Loc) (H : Hp) (s : Shared) : Prop where
  base : ∀ b o, c.h₀.get? b = some o → s.heap.get? b = some o
  above : c.h₀.objs.size ≤ L
  fr : FrAt s.heap L ρ
  frL : ¬ Tr H L
  objs : ∀ a o, H a = some o → ObjAt c s.heap a o
  new : ∀ a, Tr H a → c.h₀.get? a = none
  sep : ∀ a o, H a = some o → ∀ b, InFp a o b → b ≠ a → H b = none
  gens : s.gens = c.gens
  os : s.os = c.os
  blw : Blw c A H s.heap

/-- it stays, up to the slots of a frame on the stack -/
def Kept (A : Around) (a : Addr) (o : Obj) (h' : Heap) : Prop := (a ∉ frs A → h'.get? a = some o) ∧ ∃ sl, h'.get? a = some { o with slots := sl }
theorem Kept.of {A : Around} {a : Addr} {o : Obj} {h' : Heap} (e : h'.get? a = some o) : Kept A a o h' := ⟨fun _ => e, o.slots, e⟩
theorem Kept.trans {A : Around} {a : Addr} {o : Obj} {h' h'' : Heap} (x : Kept A a o h') (y : ∀ o', h'.get? a = some o' → Kept A a o' h'') : Kept A a o h'' := by
  obtain ⟨x1, sl, x2⟩ := x
  exact ⟨fun hn => (y o (x1 hn)).1 hn, let ⟨sl', e⟩ := (y _ x2).2; ⟨sl', e⟩⟩

/-- a step: what is not of the table stays -/
structure Stp (A : Around) (L : Addr) (H : Hp) (s : Shared) (H' : Hp) (s' : Shared) : Prop where
  kp : ∀ a o, s.heap.get? a = some o → ¬ Tr H a → a ≠ L → Kept A a o s'.heap
  gr : ∀ a, Tr H' a → Tr H a ∨ s.heap.get? a = none
  lv : ¬ Tr H L → s.heap.get? L ≠ none → s'.heap.get? L ≠ none

theorem Stp.refl (A : Around) (L : Addr) (H : Hp) (s : Shared) : Stp A L H s H s := ⟨fun _ _ e _ _ => .of e, fun _ h => .inl h, fun _ e => e⟩
theorem Stp.trans {A : Around} {L : Addr} {H H1 H2 : Hp} {s s1 s2 : Shared} (x : Stp A L H s H1 s1) (y : Stp A L H1 s1 H2 s2) : Stp A L H s H2 s2 := by
  refine ⟨fun a o e hn hL => ?_, fun a ht => ?_, fun hn e => y.lv (fun ht => ?_) (x.lv hn e)⟩
  · refine (x.kp a o e hn hL).trans fun o' e' => y.kp a o' e' (fun ht => ?_) hL
    rcases x.gr a ht with h | h
    · exact hn h
    · rw [h] at e; cases e
  · rcases y.gr a ht with h | h
    · exact x.gr a h
    · cases e : s.heap.get? a with
      | none => exact .inr rfl
      | some o =>
        refine .inl (Classical.byContradiction fun hn => ?_)
        by_cases hL : a = L
        · subst hL; exact x.lv hn (by rw [e]; exact Option.some_ne_none _) h
        · obtain ⟨_, this⟩ := (x.kp a o e hn hL).2; rw [h] at this; cases this
  · rcases x.gr L ht with h | h
    · exact hn h
    · exact e h

theorem ObjAt.mono {c : Cx} {h h' : Heap} {a : Addr} {o : MObj} (x : ObjAt c h a o) (k : ∀ b ob, InFp a o b → h.get? b = some ob → h'.get? b = some ob) : ObjAt c h' a o := by
  cases o with
  | list xs => obtain ⟨vs, n, h1, h2⟩ := x; exact ⟨vs, n, k _ _ (.inl rfl) h1, h2⟩
  | tuple xs => obtain ⟨vs, n, h1, h2⟩ := x; exact ⟨vs, n, k _ _ (.inl rfl) h1, h2⟩
  | inst C fs => obtain ⟨d, es, n, rfl, h1, h2, h3⟩ := x; exact ⟨d, es, n, rfl, k _ _ (.inl rfl) h1, k _ _ (.inr rfl) h2, h3⟩
  | dict es => obtain ⟨h0, kvs, h1, h2⟩ := x; exact ⟨h0, kvs, h1.at fun o e => k _ _ (.inl rfl) e, h2⟩
  | cell v => obtain ⟨o, u, h1, h2⟩ := x; exact ⟨o, u, k _ _ (.inl rfl) h1, h2⟩
  | slice lo hi st => obtain ⟨vl, vu, vs, h1, h2⟩ := x; exact ⟨vl, vu, vs, k _ _ (.inl rfl) h1, h2⟩
  | listIter l i => obtain ⟨o, h1, h2⟩ := x; exact ⟨o, k _ _ (.inl rfl) h1, h2⟩
  | tupIter l i => obtain ⟨o, h1, h2⟩ := x; exact ⟨o, k _ _ (.inl rfl) h1, h2⟩
  | range q => obtain ⟨t, u, v, h1⟩ := x; exact ⟨t, u, v, k _ _ (.inl rfl) h1⟩
  | rangeIter y left => exact k _ _ (.inl rfl) x
  | raw o => exact k _ _ (.inl rfl) x

theorem ObjAt.live {c : Cx} {h : Heap} {a b : Addr} {o : MObj} (x : ObjAt c h a o) (hb : InFp a o b) : ∃ ob, h.get? b = some ob := by
  cases o with
  | inst C fs =>
    obtain ⟨d, es, n, rfl, h1, h2, h3⟩ := x
    rcases hb with rfl | hb
    · exact ⟨_, h1⟩
    · have : b = d := Nat.succ.inj hb
      subst this; exact ⟨_, h2⟩
  | list xs => obtain ⟨vs, n, h1, h2⟩ := x; exact hb.elim (fun e => ⟨_, e ▸ h1⟩) fun e => e.elim
  | tuple xs => obtain ⟨vs, n, h1, h2⟩ := x; exact hb.elim (fun e => ⟨_, e ▸ h1⟩) fun e => e.elim
  | dict es => obtain ⟨_, kvs, h1, h2⟩ := x; obtain ⟨o, h1, _⟩ := Heap.dictOf_iff.mp h1; exact hb.elim (fun e => ⟨_, e ▸ h1⟩) fun e => e.elim
  | cell v => obtain ⟨o, u, h1, h2⟩ := x; exact hb.elim (fun e => ⟨_, e ▸ h1⟩) fun e => e.elim
  | slice lo hi st => obtain ⟨vl, vu, vs, h1, h2⟩ := x; exact hb.elim (fun e => ⟨_, e ▸ h1⟩) fun e => e.elim
  | listIter l i => obtain ⟨o, h1, h2⟩ := x; exact hb.elim (fun e => ⟨_, e ▸ h1⟩) fun e => e.elim
  | tupIter l i => obtain ⟨o, h1, h2⟩ := x; exact hb.elim (fun e => ⟨_, e ▸ h1⟩) fun e => e.elim
  | range q => obtain ⟨t, u, v, h1⟩ := x; exact hb.elim (fun e => ⟨_, e ▸ h1⟩) fun e => e.elim
  | rangeIter y left => exact hb.elim (fun e => ⟨_, e ▸ x⟩) fun e => e.elim
  | raw o => exact hb.elim (fun e => ⟨_, e ▸ x⟩) fun e => e.elim
theorem ObjAt.lt {c : Cx} {h : Heap} {a : Addr} {o : MObj} (x : ObjAt c h a o) : a < h.objs.size := by
  obtain ⟨ob, e⟩ := x.live (.inl rfl)
  exact Heap.lt_size e

theorem InFp.le {a b : Addr} {o : MObj} (h : InFp a o b) : b ≤ a := by
  rcases h with h | h
  · exact Nat.le_of_eq h
  · cases o <;> first | exact h.elim | (rw [← h]; exact Nat.le_succ _)

section
variable {c : Cx} {A : Around} {L : Addr} {ρ ρ' : Loc} {H H' : Hp} {s : Shared}

theorem Sat.lt (S : Sat c A L ρ H s) {a : Addr} (h : Tr H a) : a < s.heap.objs.size := by
  obtain ⟨x, o, ho, hf⟩ := h
  exact Nat.lt_of_le_of_lt hf.le (S.objs x o ho).lt
theorem Sat.ltA (S : Sat c A L ρ H s) {a : Addr} {o : MObj} (h : H a = some o) : a < s.heap.objs.size := (S.objs a o h).lt
theorem Sat.ltL (S : Sat c A L ρ H s) : L < s.heap.objs.size := by obtain ⟨m, hn, _⟩ := S.fr; exact hn.lt
theorem Sat.fresh (S : Sat c A L ρ H s) {a : Addr} (h : s.heap.objs.size ≤ a) : H a = none := by
  cases e : H a with
  | none => rfl
  | some o => exact absurd (S.ltA e) (Nat.not_lt.mpr h)
theorem Tr.self {a : Addr} {o : MObj} (h : H a = some o) : Tr H a := ⟨a, o, h, .inl rfl⟩
theorem Sat.neL (S : Sat c A L ρ H s) {a : Addr} {o : MObj} (h : H a = some o) : a ≠ L := fun e => S.frL (e ▸ Tr.self h)
theorem Sat.baseNone (S : Sat c A L ρ H s) {a : Addr} (h : s.heap.objs.size ≤ a) : c.h₀.get? a = none := by
  cases e : c.h₀.get? a with
  | none => rfl
  | some o => exact absurd (Heap.lt_size (S.base a o e)) (Nat.not_lt.mpr h)
theorem Sat.baseL (S : Sat c A L ρ H s) : c.h₀.get? L = none := by
  cases e : c.h₀.get? L with
  | none => rfl
  | some o => exact absurd (Heap.lt_size e) (Nat.not_lt.mpr S.above)

/-- forget -/
theorem Sat.weak (S : Sat c A L ρ H s) (hρ : ∀ x v, ρ' x = some v → ρ x = some v) (hH : ∀ a o, H' a = some o → H a = some o) : Sat c A L ρ' H' s := by
  have ht : ∀ a, Tr H' a → Tr H a := fun a ⟨x, o, ho, hf⟩ => ⟨x, o, hH _ _ ho, hf⟩
  refine ⟨S.base, S.above, ?_, fun h => S.frL (ht _ h), fun a o h => S.objs a o (hH a o h), fun a h => S.new a (ht a h), fun a o h b hb hne => ?_, S.gens, S.os, S.blw.step (fun F o e _ hd => ⟨o, e, hd⟩) fun F h => .inl (ht F h)⟩
  · obtain ⟨m, hn, hm⟩ := S.fr
    exact ⟨m, hn, fun x v h => hm x v (hρ x v h)⟩
  · cases e : H' b with
    | none => rfl
    | some o' => have := S.sep a o (hH a o h) b hb hne; rw [hH b o' e] at this; cases this

theorem alive {h h' : Heap} {a : Addr} (k : ∀ o, h.get? a = some o → h'.get? a = some o) (e : h.get? a ≠ none) : h'.get? a ≠ none := by
  cases q : h.get? a with
  | none => exact absurd q e
  | some o => rw [k o q]; exact Option.some_ne_none _
theorem Stp.weak {H' : Hp} {s' : Shared} (x : Stp A L H s H s') (hH : ∀ a o, H' a = some o → H a = some o) : Stp A L H s H' s' :=
  ⟨x.kp, fun a ⟨y, o, ho, hf⟩ => x.gr a ⟨y, o, hH _ _ ho, hf⟩, x.lv⟩
theorem Stp.weak' {H1 H2 : Hp} {s' : Shared} (x : Stp A L H s H1 s') (hH : ∀ a o, H2 a = some o → H1 a = some o) : Stp A L H s H2 s' :=
  ⟨x.kp, fun a ⟨y, o, ho, hf⟩ => x.gr a ⟨y, o, hH _ _ ho, hf⟩, x.lv⟩

theorem tr_hset {a b : Addr} {o : MObj} (h : Tr (hset H a o) b) : InFp a o b ∨ Tr H b := by
  obtain ⟨x, ox, hx, hf⟩ := h
  by_cases e : x = a
  · subst e; rw [hset_eq] at hx; cases hx; exact .inl hf
  · rw [hset_ne e] at hx; exact .inr ⟨x, ox, hx, hf⟩

/-- only toks turn -/
theorem Sat.toks (S : Sat c A L ρ H s) (tk : Nat) : Sat c A L ρ H { s with toks := tk } := ⟨S.base, S.above, S.fr, S.frL, S.objs, S.new, S.sep, S.gens, S.os, S.blw⟩
theorem Stp.toks (A : Around) (L : Addr) (H : Hp) (s : Shared) (tk : Nat) : Stp A L H s H { s with toks := tk } := ⟨fun _ _ e _ _ => .of e, fun _ h => .inl h, fun _ e => e⟩

/-- the heap grows (whatever is new is dropped) -/
theorem Sat.keeps (S : Sat c A L ρ H s) {h' : Heap} {tk : Nat} (k : ∀ b o, s.heap.get? b = some o → h'.get? b = some o) : Sat c A L ρ H { s with heap := h', toks := tk } := by
  obtain ⟨m, hn, hm⟩ := S.fr
  exact ⟨fun b o e => k b o (S.base b o e), S.above, ⟨m, hn.keeps k, hm⟩, S.frL, fun a o h => (S.objs a o h).mono fun b ob _ e => k b ob e, S.new, S.sep, S.gens, S.os, S.blw.keeps k⟩
theorem Stp.keeps (A : Around) (L : Addr) (H : Hp) (s : Shared) {h' : Heap} {tk : Nat} (k : ∀ b o, s.heap.get? b = some o → h'.get? b = some o) : Stp A L H s H { s with heap := h', toks := tk } :=
  ⟨fun a o e _ _ => .of (k a o e), fun _ h => .inl h, fun _ e => alive (k _) e⟩

/-- a new object -/
theorem Sat.alloc (S : Sat c A L ρ H s) {a : Addr} {o : MObj} {h' : Heap} {tk : Nat} (k : ∀ b o, s.heap.get? b = some o → h'.get? b = some o) (ha : ∀ b, InFp a o b → s.heap.objs.size ≤ b)
    (ho : ObjAt c h' a o) : Sat c A L ρ (hset H a o) { s with heap := h', toks := tk } := by
  have S' := S.keeps (tk := tk) k
  have hn : ∀ b, InFp a o b → H b = none := fun b hb => S.fresh (ha b hb)
  refine ⟨S'.base, S.above, S'.fr, fun h => ?_, fun b ob h => ?_, fun b h => ?_, fun b ob h x hx hne => ?_, S.gens, S.os, S.blw.step (fun F o e _ hd => ⟨o, k F o e, hd⟩) fun F h => (tr_hset h).elim (fun h => .inr (Heap.get?_none_of_le (ha F h))) .inl⟩
  · rcases tr_hset h with h | h
    · exact absurd S.ltL (Nat.not_lt.mpr (ha _ h))
    · exact S.frL h
  · by_cases e : b = a
    · subst e; rw [hset_eq] at h; cases h; exact ho
    · rw [hset_ne e] at h; exact S'.objs b ob h
  · rcases tr_hset h with h | h
    · exact S.baseNone (ha _ h)
    · exact S.new b h
  · by_cases e : b = a
    · subst e; rw [hset_eq] at h; cases h
      rw [hset_ne hne]; exact hn x hx
    · rw [hset_ne e] at h
      have hxs := S.sep b ob h x hx hne
      by_cases ex : x = a
      · subst ex
        have : b < s.heap.objs.size := S.ltA h
        have h2 := ha x (.inl rfl)
        exact absurd (Nat.lt_of_le_of_lt hx.le this) (Nat.not_lt.mpr h2)
      · rw [hset_ne ex]; exact hxs
theorem Stp.alloc {a : Addr} {o : MObj} {h' : Heap} {tk : Nat} (k : ∀ b o, s.heap.get? b = some o → h'.get? b = some o) (ha : ∀ b, InFp a o b → s.heap.objs.size ≤ b)
    (hz : s.heap.objs.size ≤ h'.objs.size) : Stp A L H s (hset H a o) { s with heap := h', toks := tk } :=
  ⟨fun b ob e _ _ => .of (k b ob e), fun b h => (tr_hset h).elim (fun h => .inr (Heap.get?_none_of_le (ha b h))) .inl, fun _ e => alive (k _) e⟩

/-- an object of the table turned at the address x -/
theorem Sat.turn (S : Sat c A L ρ H s) {a x : Addr} {o o' : MObj} {h' : Heap} {tk : Nat} (hH : H a = some o) (hx : InFp a o x) (k : Heap.ExtBut x s.heap h') (hfp : ∀ b, InFp a o' b ↔ InFp a o b)
    (ho : ObjAt c h' a o') : Sat c A L ρ (hset H a o') { s with heap := h', toks := tk } := by
  have htr : ∀ b, Tr (hset H a o') b → Tr H b := fun b h => (tr_hset h).elim (fun h => ⟨a, o, hH, (hfp b).mp h⟩) id
  have hxt : Tr H x := ⟨a, o, hH, hx⟩
  have hxL : L ≠ x := fun e => S.frL (e ▸ hxt)
  obtain ⟨m, hn, hm⟩ := S.fr
  refine ⟨fun b ob e => k b ob (fun q => ?_) (S.base b ob e), S.above, ⟨m, hn.extBut k hxL, hm⟩, fun h => S.frL (htr _ h), fun b ob h => ?_, fun b h => S.new b (htr b h), fun b ob h y hy hne => ?_, S.gens, S.os, S.blw.step (fun F o e hn hd => ⟨o, k F o (fun q => hn (q ▸ hxt)) e, hd⟩) fun F h => .inl (htr F h)⟩
  · have := S.new x hxt; rw [← q, e] at this; cases this
  · by_cases e : b = a
    · subst e; rw [hset_eq] at h; cases h; exact ho
    · rw [hset_ne e] at h
      refine (S.objs b ob h).mono fun y oy hy ey => k y oy (fun q => ?_) ey
      subst q
      rcases Nat.lt_trichotomy b a with hlt | heq | hgt
      · have hya : y ≠ a := Nat.ne_of_lt (Nat.lt_of_le_of_lt hy.le hlt)
        have h1 := S.sep a o hH y hx hya
        by_cases hyb : y = b
        · rw [hyb, h] at h1; cases h1
        · rcases hx with hx | hx
          · exact hya hx
          · rcases hy with hy | hy
            · exact hyb hy
            · cases o <;> first | exact hx.elim | skip
              cases ob <;> first | exact hy.elim | skip
              exact e (by rw [← hx, ← hy])
      · exact e heq
      · have hyb : y ≠ b := Nat.ne_of_lt (Nat.lt_of_le_of_lt hx.le hgt)
        have h1 := S.sep b ob h y hy hyb
        by_cases hya : y = a
        · rw [hya, hH] at h1; cases h1
        · rcases hx with hx | hx
          · exact hya hx
          · rcases hy with hy | hy
            · exact hyb hy
            · cases o <;> first | exact hx.elim | skip
              cases ob <;> first | exact hy.elim | skip
              exact e (by rw [← hx, ← hy])
  · by_cases e : b = a
    · subst e; rw [hset_eq] at h; cases h
      rw [hset_ne hne]; exact S.sep b o hH y ((hfp y).mp hy) hne
    · rw [hset_ne e] at h
      have h1 := S.sep b ob h y hy hne
      by_cases ey : y = a
      · subst ey; rw [hH] at h1; cases h1
      · rw [hset_ne ey]; exact h1
theorem Stp.turn {a x : Addr} {o o' : MObj} {h' : Heap} {tk : Nat} (hH : H a = some o) (hx : InFp a o x) (k : Heap.ExtBut x s.heap h') (hfp : ∀ b, InFp a o' b ↔ InFp a o b) (hz : s.heap.objs.size ≤ h'.objs.size) :
    Stp A L H s (hset H a o') { s with heap := h', toks := tk } :=
  ⟨fun b ob e hn _ => .of (k b ob (fun q => hn (q ▸ ⟨a, o, hH, hx⟩)) e), fun b h => (tr_hset h).elim (fun h => .inl ⟨a, o, hH, (hfp b).mp h⟩) .inl, fun hn e => alive (fun oy ey => k _ oy (fun q => hn (q ▸ ⟨a, o, hH, hx⟩)) ey) e⟩

/-- a local stored -/
theorem Sat.local (S : Sat c A L ρ H s) {x : Str} {mv : MV} {h' : Heap} {tk : Nat} (hs : Heap.SameBut L s.heap h') (hf : FrAt h' L (lset ρ x mv)) :
    Sat c A L (lset ρ x mv) H { s with heap := h', toks := tk } := by
  refine ⟨fun b o e => (hs.2 b (fun q => ?_)).trans (S.base b o e), S.above, hf, S.frL, fun a o h => (S.objs a o h).mono fun b ob hb e => (hs.2 b fun q => ?_).trans e, S.new, S.sep, S.gens, S.os, S.blw.step (fun F o e _ hd => hf.frame fun q => ⟨o, (hs.2 F q).trans e, hd⟩) fun F h => .inl h⟩
  · rw [q, S.baseL] at e; cases e
  · exact S.frL (q ▸ ⟨a, o, h, hb⟩)
theorem Stp.local {h' : Heap} {tk : Nat} (hs : Heap.SameBut L s.heap h') (hf : h'.get? L ≠ none) : Stp A L H s H { s with heap := h', toks := tk } :=
  ⟨fun b o e _ hne => .of ((hs.2 b hne).trans e), fun _ h => .inl h, fun _ _ => hf⟩
end

def Bud (A : Around) (n : Nat) : Prop := A.handled = none ∧ A.depth + 2 * n < recursionLimit ∧ A.units + 20 * n + 200 < cLine
theorem Bud.mono {A : Around} {n m : Nat} (h : Bud A n) (hm : m ≤ n) : Bud A m := ⟨h.1, by have := h.2.1; omega, by have := h.2.2; omega⟩
theorem Bud.units {A : Around} {n : Nat} (h : Bud A n) : A.units < cLine := by have := h.2.2; omega
theorem Bud.depth {A : Around} {n : Nat} (h : Bud A n) : A.depth < recursionLimit := by have := h.2.1; omega
theorem Bud.deeper {A : Around} {n : Nat} {env : Env} (h : Bud A (n + 1)) : Bud (A.deeper env) n := by
  refine ⟨h.1, ?_, ?_⟩
  · rw [depth_deeper]; have := h.2.1; omega
  · rw [units_deeper]; have := h.2.2; omega

/-- what holds of the frame at hand -/
structure EnvOk (env : Env) : Prop where
  kind : env.scope.kind = .function
  globals : env.globals = mainGlobals
  builtins : env.builtins = builtinsNs

/-- a triple: t, from locals ρ and table H, gives what Q says; it never raises -/
def TE {α β : Type} (c : Cx) (n : Nat) (L : Addr) (rep : β → α → Prop) (t : Sem α) (ρ : Loc) (H : Hp) (Q : β → Loc → Hp → Prop) : Prop :=
  ∀ A s, Bud A n → Sat c A L ρ H s → wpAny (model c.prog c.w) A t (fun v s' => ∃ b ρ' H', rep b v ∧ Sat c A L ρ' H' s' ∧ Stp A L H s H' s' ∧ Q b ρ' H') (fun _ _ => False) s

theorem TE.mono {α β : Type} {c : Cx} {n : Nat} {L : Addr} {rep : β → α → Prop} {t : Sem α} {ρ : Loc} {H : Hp} {Q Q' : β → Loc → Hp → Prop} (h : TE c n L rep t ρ H Q) (k : ∀ b ρ' H', Q b ρ' H' → Q' b ρ' H') : TE c n L rep t ρ H Q' :=
  fun A s hb S => wpAny_mono (h A s hb S) (fun v s' ⟨b, ρ', H', r, S', st, q⟩ => ⟨b, ρ', H', r, S', st, k _ _ _ q⟩) fun _ _ e => e

/-- the second step behind the first: what every join below uses -/
theorem TE.then {α β : Type} {c : Cx} {n : Nat} {L : Addr} {rep : β → α → Prop} {t : Sem α} {ρ : Loc} {H : Hp} {Q : β → Loc → Hp → Prop} {A : Around} {s : Shared} {R : α → Shared → Prop} {E : Value → Shared → Prop}
    (h : TE c n L rep t ρ H Q) (hb : Bud A n) (S : Sat c A L ρ H s) (k : ∀ v b ρ' H' s', rep b v → Sat c A L ρ' H' s' → Stp A L H s H' s' → Q b ρ' H' → R v s') : wpAny (model c.prog c.w) A t R E s :=
  wpAny_mono (h A s hb S) (fun v s' ⟨b, ρ', H', r, S', st, q⟩ => k v b ρ' H' s' r S' st q) fun _ _ e => e.elim

/-- the end of a step that was begun at s₀ -/
theorem TE.done {α β : Type} {c : Cx} {n : Nat} {L : Addr} {rep : β → α → Prop} {t : Sem α} {ρ : Loc} {H H₀ : Hp} {Q : β → Loc → Hp → Prop} {A : Around} {s s₀ : Shared} 
    (h : TE c n L rep t ρ H Q) (hb : Bud A n) (S : Sat c A L ρ H s) (st : Stp A L H₀ s₀ H s) :
    wpAny (model c.prog c.w) A t (fun v s' => ∃ b ρ' H', rep b v ∧ Sat c A L ρ' H' s' ∧ Stp A L H₀ s₀ H' s' ∧ Q b ρ' H') (fun _ _ => False) s :=
  wpAny_mono (h A s hb S) (fun v s' ⟨b, ρ', H', r, S', st', q⟩ => ⟨b, ρ', H', r, S', st.trans st', q⟩) fun _ _ e => e

def FlowP (N : Loc → Hp → Prop) (R : MV → Loc → Hp → Prop) (f : Flow) (ρ : Loc) (H : Hp) : Prop := match f with
  | .next => N ρ H
  | .ret v => ∃ mv, Rep mv v ∧ R mv ρ H
  | _ => False

/-- a triple of statements -/
abbrev TS (c : Cx) (n : Nat) (L : Addr) (t : Sem Flow) (ρ : Loc) (H : Hp) (N : Loc → Hp → Prop) (R : MV → Loc → Hp → Prop) : Prop :=
  TE c n L (fun (f : Flow) v => f = v) t ρ H (FlowP N R)
abbrev TV (c : Cx) (n : Nat) (L : Addr) (t : Sem Value) (ρ : Loc) (H : Hp) (Q : MV → Loc → Hp → Prop) : Prop := TE c n L Rep t ρ H Q
abbrev TB (c : Cx) (n : Nat) (L : Addr) (t : Sem Bool) (ρ : Loc) (H : Hp) (Q : Bool → Loc → Hp → Prop) : Prop := TE c n L (fun (b : Bool) v => b = v) t ρ H Q
abbrev TU (c : Cx) (n : Nat) (L : Addr) (t : Sem Unit) (ρ : Loc) (H : Hp) (N : Loc → Hp → Prop) : Prop := TE c n L (fun (_ : Unit) _ => True) t ρ H (fun _ => N)
abbrev TL (c : Cx) (n : Nat) (L : Addr) (t : Sem (List Value)) (ρ : Loc) (H : Hp) (Q : List MV → Loc → Hp → Prop) : Prop := TE c n L RepL t ρ H Q
/-- an operation on one value, two, a list of values -/
abbrev Op1 (c : Cx) (n : Nat) (L : Addr) (t : Value → Sem Value) (a : MV) (ρ : Loc) (H : Hp) (Q : MV → Loc → Hp → Prop) : Prop := ∀ va, Rep a va → TV c n L (t va) ρ H Q
abbrev Op2 (c : Cx) (n : Nat) (L : Addr) (t : Value → Value → Sem Value) (a b : MV) (ρ : Loc) (H : Hp) (Q : MV → Loc → Hp → Prop) : Prop := ∀ va vb, Rep a va → Rep b vb → TV c n L (t va vb) ρ H Q
abbrev OpL (c : Cx) (n : Nat) (L : Addr) (t : List Value → Sem Value) (as : List MV) (ρ : Loc) (H : Hp) (Q : MV → Loc → Hp → Prop) : Prop := ∀ vs, RepL as vs → TV c n L (t vs) ρ H Q
abbrev OpU1 (c : Cx) (n : Nat) (L : Addr) (t : Value → Sem Unit) (a : MV) (ρ : Loc) (H : Hp) (N : Loc → Hp → Prop) : Prop := ∀ va, Rep a va → TU c n L (t va) ρ H N
abbrev OpU2 (c : Cx) (n : Nat) (L : Addr) (t : Value → Value → Sem Unit) (a b : MV) (ρ : Loc) (H : Hp) (N : Loc → Hp → Prop) : Prop := ∀ va vb, Rep a va → Rep b vb → TU c n L (t va vb) ρ H N
abbrev OpB1 (c : Cx) (n : Nat) (L : Addr) (t : Value → Sem Bool) (a : MV) (ρ : Loc) (H : Hp) (Q : Bool → Loc → Hp → Prop) : Prop := ∀ va, Rep a va → TB c n L (t va) ρ H Q

def mvOf : Value → MV
  | .none => .none
  | .bool b => .bool b
  | .int i _ => .int i
  | .str x _ => .str x
  | .ref a => .ref a
  | v => .val v
theorem rep_mvOf (v : Value) : Rep (mvOf v) v := by
  cases v <;> first | exact rfl | exact ⟨_, rfl⟩

section
variable {c : Cx} {n : Nat} {env : Env} {L : Addr} {ρ : Loc} {H : Hp} {Q : MV → Loc → Hp → Prop} {N : Loc → Hp → Prop} {R : MV → Loc → Hp → Prop} {B : Bool → Loc → Hp → Prop}

theorem te_pure {α β : Type} {rep : β → α → Prop} {a : α} {b : β} {P : β → Loc → Hp → Prop} (r : rep b a) (h : P b ρ H) : TE c n L rep (pure a) ρ H P :=
  fun A s hb S => wpAny_pure ⟨b, ρ, H, r, S, Stp.refl .., h⟩

-- NAMES
theorem t_local {x : Str} {pos : Pos} {v : MV} (hL : env.locals = L) (hk : env.scope.kind = .function) (hx : env.kindOf x = some .local) (hv : ρ x = some v) (h : Q v ρ H) (hd : (x == ("__debug__" : Str)) = false := by decide +kernel) :
    TV c n L (eval (.Name x pos) env) ρ H Q := by
  subst hL
  intro A s hb S
  obtain ⟨m, hn, hm⟩ := S.fr
  obtain ⟨u, hu, hr⟩ := hm x v hv
  exact wpAny_Name (wpAny_loadName_local hk hx hn hu ⟨v, ρ, H, hr, S, Stp.refl .., h⟩) hd
theorem t_cell {x : Str} {pos : Pos} {a : Addr} {v : MV} (hk : env.scope.kind = .function) (hx : env.kindOf x = some .cell) (hc : env.cells.lookup x = some a) (hv : H a = some (.cell (some v))) (h : Q v ρ H) (hd : (x == ("__debug__" : Str)) = false := by decide +kernel) :
    TV c n L (eval (.Name x pos) env) ρ H Q := by
  intro A s hb S
  obtain ⟨o, u, ho, hd', hr⟩ := S.objs a _ hv
  cases u with
  | none => exact hr.elim
  | some u => exact wpAny_Name (wpAny_loadName_cell hk hx hc ⟨o, ho, hd'⟩ ⟨v, ρ, H, hr, S, Stp.refl .., h⟩) hd
theorem t_free {x : Str} {pos : Pos} {a : Addr} {v : MV} (hk : env.scope.kind = .function) (hx : env.kindOf x = some .free) (hc : env.cells.lookup x = some a) (hv : H a = some (.cell (some v))) (h : Q v ρ H) (hd : (x == ("__debug__" : Str)) = false := by decide +kernel) (hn : (x == ("__classdict__" : Str)) = false := by decide +kernel) :
    TV c n L (eval (.Name x pos) env) ρ H Q := by
  intro A s hb S
  obtain ⟨o, u, ho, hd', hr⟩ := S.objs a _ hv
  cases u with
  | none => exact hr.elim
  | some u => exact wpAny_Name (wpAny_loadName_free hk hx hc ⟨o, ho, hd'⟩ ⟨v, ρ, H, hr, S, Stp.refl .., h⟩ hn) hd
theorem t_global (hc : c.Ok) {x : Str} {pos : Pos} {v : Value} (hk : env.scope.kind = .function) (hx : env.kindOf x = some .globalImplicit) (hg : env.globals = mainGlobals) (e : nsIn c.K mainGlobals x = some (some v)) (h : Q (mvOf v) ρ H) (hd : (x == ("__debug__" : Str)) = false := by decide +kernel) :
    TV c n L (eval (.Name x pos) env) ρ H Q := by
  intro A s hb S
  refine Name_function_global hk hx (loadGlobal_global (env := env) (mg := c.mg) (hg ▸ hc.T.g.keeps S.base) (mg_of hc.X hc.T.g e) ⟨mvOf v, ρ, H, rep_mvOf v, S, Stp.refl .., h⟩) hd
theorem t_builtin (hc : c.Ok) {x : Str} {pos : Pos} {v : Value} (hk : env.scope.kind = .function) (hx : env.kindOf x = some .globalImplicit) (hg : env.globals = mainGlobals) (hbt : env.builtins = builtinsNs) (e : nsIn c.K mainGlobals x = some none) (hv : bootBuiltins x = some v) (hn : x ≠ "__name__")
    (h : Q (mvOf v) ρ H) (hd : (x == ("__debug__" : Str)) = false := by decide +kernel) : TV c n L (eval (.Name x pos) env) ρ H Q := by
  intro A s hb S
  exact Name_function_global hk hx (loadGlobal_builtin (env := env) (hg ▸ hc.T.g.keeps S.base) (mg_none_of hc.X hc.T.g e) (hbt ▸ hc.T.b.keeps S.base) ((hc.T.builtins x hn).trans hv) ⟨mvOf v, ρ, H, rep_mvOf v, S, Stp.refl .., h⟩) hd

-- CONSTANTS
theorem t_int {i : Int} {k : Nat} {pos : Pos} (h : Q (.int i) ρ H) : TV c n L (eval (.Constant (.int i) k pos) env) ρ H Q :=
  fun A s hb S => wpAny_Constant_int ⟨.int i, ρ, H, ⟨_, rfl⟩, S.toks _, Stp.toks .., h⟩
theorem t_str {x : Str} {k : Nat} {pos : Pos} (h : Q (.str x) ρ H) : TV c n L (eval (.Constant (.str x) k pos) env) ρ H Q :=
  fun A s hb S => wpAny_Constant_str ⟨.str x, ρ, H, ⟨_, rfl⟩, S.toks _, Stp.toks .., h⟩
theorem t_none {k : Nat} {pos : Pos} (h : Q .none ρ H) : TV c n L (eval (.Constant .none k pos) env) ρ H Q :=
  fun A s hb S => wpAny_Constant_none ⟨.none, ρ, H, rfl, S, Stp.refl .., h⟩
theorem t_bool {b : Bool} {k : Nat} {pos : Pos} (h : Q (.bool b) ρ H) : TV c n L (eval (.Constant (.bool b) k pos) env) ρ H Q :=
  fun A s hb S => wpAny_Constant_bool ⟨.bool b, ρ, H, rfl, S, Stp.refl .., h⟩

-- OPERATORS
theorem t_bin {l r : Expr} {op : Operator} {pos : Pos} (h : TV c n L (eval l env) ρ H fun a ρ1 H1 => TV c n L (eval r env) ρ1 H1 fun b ρ2 H2 => Op2 c n L (binaryOp op) a b ρ2 H2 Q) :
    TV c n L (eval (.BinOp l op r pos) env) ρ H Q := fun A s hb S =>
  wpAny_BinOp (h.then hb S fun va a ρ1 H1 s1 ra S1 st1 h1 => h1.then hb S1 fun vb b ρ2 H2 s2 rb S2 st2 h2 => (h2 va vb ra rb).done hb S2 (st1.trans st2))
theorem t_cmp {l r : Expr} {op : CmpOp} {pos : Pos} (h : TV c n L (eval l env) ρ H fun a ρ1 H1 => TV c n L (eval r env) ρ1 H1 fun b ρ2 H2 => Op2 c n L (compareOp op) a b ρ2 H2 Q)
    (hm : behindInMarks op r = false := by with_unfolding_all rfl) : TV c n L (eval (.Compare l [op] [r] pos) env) ρ H Q := fun A s hb S =>
  wpAny_Compare1 (h.then hb S fun va a ρ1 H1 s1 ra S1 st1 h1 => h1.then hb S1 fun vb b ρ2 H2 s2 rb S2 st2 h2 => (h2 va vb ra rb).done hb S2 (st1.trans st2)) hm
theorem t_ifexp {t b o : Expr} {pos : Pos} (h : TB c n L (isTrue t env (eval t env)) ρ H fun r ρ1 H1 => if r = true then TV c n L (eval b env) ρ1 H1 Q else TV c n L (eval o env) ρ1 H1 Q) :
    TV c n L (eval (.IfExp t b o pos) env) ρ H Q := fun A s hb S =>
  wpAny_IfExp (h.then hb S fun v r ρ1 H1 s1 e S1 st1 h1 => by
    subst e
    cases r with
    | true => exact TE.done (by simpa using h1) hb S1 st1
    | false => exact TE.done (by simpa using h1) hb S1 st1)
theorem t_and2 {x y : Expr} {pos : Pos} (h : TV c n L (eval x env) ρ H fun a ρ1 H1 => OpB1 c n L truthy a ρ1 H1 fun r ρ2 H2 => if r = true then TV c n L (eval y env) ρ2 H2 Q else Q a ρ2 H2) :
    TV c n L (eval (.BoolOp .And [x, y] pos) env) ρ H Q := fun A s hb S =>
  wpAny_And2 (h.then hb S fun va a ρ1 H1 s1 ra S1 st1 h1 => (h1 va ra).then hb S1 fun v r ρ2 H2 s2 e S2 st2 h2 => by
    subst e
    cases r with
    | true => exact TE.done (by simpa using h2) hb S2 (st1.trans st2)
    | false => exact ⟨a, ρ2, H2, ra, S2, st1.trans st2, by simpa using h2⟩)

-- TESTS
theorem tt_cmp {l r : Expr} {op : CmpOp} {pos : Pos} {whole : Sem Value} (h : TV c n L (eval l env) ρ H fun a ρ1 H1 => TV c n L (eval r env) ρ1 H1 fun b ρ2 H2 => Op2 c n L (compareOp op) a b ρ2 H2 fun m ρ3 H3 => OpB1 c n L truthy m ρ3 H3 B)
    (hm : behindInMarks op r = false := by with_unfolding_all rfl) : TB c n L (isTrue (.Compare l [op] [r] pos) env whole) ρ H B := fun A s hb S =>
  wpAny_isTrue_Compare1 (h.then hb S fun va a ρ1 H1 s1 ra S1 st1 h1 => h1.then hb S1 fun vb b ρ2 H2 s2 rb S2 st2 h2 => (h2 va vb ra rb).then hb S2 fun v m ρ3 H3 s3 rm S3 st3 h3 =>
    TE.done (h3 v rm) hb S3 ((st1.trans st2).trans st3)) hm
theorem tt_not {x : Expr} {pos : Pos} {whole : Sem Value} (h : TB c n L (isTrue x env (eval x env)) ρ H fun b => B (!b)) : TB c n L (isTrue (.UnaryOp .Not x pos) env whole) ρ H B := fun A s hb S =>
  wpAny_isTrue_Not (h.then hb S fun v b ρ1 H1 s1 e S1 st1 h1 => ⟨!b, ρ1, H1, by rw [e], S1, st1, h1⟩)
theorem tt_val {e : Expr} {whole : Sem Value} (h : TV c n L whole ρ H fun a ρ1 H1 => OpB1 c n L truthy a ρ1 H1 B) (he : isTrue e env whole = (do let v ← whole; standAt e.pos; holding [v] (truthy v)) := by rfl) :
    TB c n L (isTrue e env whole) ρ H B := fun A s hb S =>
  wpAny_isTrue_value (h.then hb S fun va a ρ1 H1 s1 ra S1 st1 h1 => TE.done (h1 va ra) hb S1 st1) he
theorem tt_bool {op : BoolOp} {vs : List Expr} {pos : Pos} {whole : Sem Value} (h : TB c n L (allTrue op vs env) ρ H B) : TB c n L (isTrue (.BoolOp op vs pos) env whole) ρ H B :=
  fun A s hb S => wpAny_isTrue_BoolOp (h A s hb S)
theorem ta_and_nil (h : B true ρ H) : TB c n L (allTrue .And [] env) ρ H B := fun A s hb S => wpAny_allTrue_And_nil ⟨true, ρ, H, rfl, S, Stp.refl .., h⟩
theorem ta_or_nil (h : B false ρ H) : TB c n L (allTrue .Or [] env) ρ H B := fun A s hb S => wpAny_allTrue_Or_nil ⟨false, ρ, H, rfl, S, Stp.refl .., h⟩
theorem ta_and {x : Expr} {r : List Expr} (h : TB c n L (isTrue x env (eval x env)) ρ H fun b ρ1 H1 => if b = true then TB c n L (allTrue .And r env) ρ1 H1 B else B false ρ1 H1) : TB c n L (allTrue .And (x :: r) env) ρ H B := fun A s hb S =>
  wpAny_allTrue_And_cons (h.then hb S fun v b ρ1 H1 s1 e S1 st1 h1 => by
    subst e
    cases b with
    | true => exact TE.done (by simpa using h1) hb S1 st1
    | false => exact ⟨false, ρ1, H1, rfl, S1, st1, by simpa using h1⟩)
theorem ta_or {x : Expr} {r : List Expr} (h : TB c n L (isTrue x env (eval x env)) ρ H fun b ρ1 H1 => if b = true then B true ρ1 H1 else TB c n L (allTrue .Or r env) ρ1 H1 B) : TB c n L (allTrue .Or (x :: r) env) ρ H B := fun A s hb S =>
  wpAny_allTrue_Or_cons (h.then hb S fun v b ρ1 H1 s1 e S1 st1 h1 => by
    subst e
    cases b with
    | false => exact TE.done (by simpa using h1) hb S1 st1
    | true => exact ⟨true, ρ1, H1, rfl, S1, st1, by simpa using h1⟩)
theorem tr_bool {b : Bool} (h : B b ρ H) : OpB1 c n L truthy (.bool b) ρ H B := fun va e A s hb S => by
  cases e
  exact wpAny_truthy_bool ⟨b, ρ, H, rfl, S, Stp.refl .., h⟩

-- LISTS OF EXPRESSIONS
theorem ta_nil {P : List MV → Loc → Hp → Prop} {pos : Pos} (h : P [] ρ H) : TL c n L (spliced (backTo pos (starEach [] env))) ρ H P := fun A s hb S => wpAny_items_nil ⟨[], ρ, H, trivial, S, Stp.refl .., h⟩
theorem ta_cons {P : List MV → Loc → Hp → Prop} {e : Expr} {r : List Expr} {pos : Pos} (h : TV c n L (eval e env) ρ H fun a ρ1 H1 => TL c n L (spliced (backTo pos (starEach r env))) ρ1 H1 fun as => P (a :: as))
    (he : starEach (e :: r) env = (false, eval e env) :: starEach r env := by rfl) : TL c n L (spliced (backTo pos (starEach (e :: r) env))) ρ H P := fun A s hb S =>
  wpAny_items_cons (h.then hb S fun va a ρ1 H1 s1 ra S1 st1 h1 => h1.then hb S1 fun vs as ρ2 H2 s2 rs S2 st2 h2 => ⟨a :: as, ρ2, H2, ⟨ra, rs⟩, S2, st1.trans st2, h2⟩) he

theorem RepL.length : ∀ {ms : List MV} {vs : List Value}, RepL ms vs → vs.length = ms.length
  | [], [], _ => rfl
  | _ :: _, _ :: _, h => congrArg (· + 1) h.2.length
  | [], _ :: _, h => h.elim
  | _ :: _, [], h => h.elim

/-- a new list -/
theorem new_list {vs : List Value} {xs : List MV} {s : Shared} (S : Sat c A L ρ H s) (r : RepL xs vs) :
    Sat c A L ρ (hset H s.heap.objs.size (.list xs)) { s with heap := s.heap.push { cls := .type "list", data := .seq vs.toArray } } ∧ Stp A L H s (hset H s.heap.objs.size (.list xs)) { s with heap := s.heap.push { cls := .type "list", data := .seq vs.toArray } } ∧ H s.heap.objs.size = none :=
  have k : ∀ b o, s.heap.get? b = some o → (s.heap.push { cls := .type "list", data := .seq vs.toArray }).get? b = some o := fun b o e => Heap.get?_push_of_some _ e
  have ha : ∀ b, InFp s.heap.objs.size (.list xs) b → s.heap.objs.size ≤ b := fun b hb => hb.elim (fun e => Nat.le_of_eq e.symm) fun e => e.elim
  ⟨S.alloc (tk := s.toks) k ha ⟨vs.toArray, 0, IsL.new .., by simpa using r⟩, Stp.alloc (tk := s.toks) k ha (by rw [Heap.size_push]; exact Nat.le_succ _), S.fresh (Nat.le_refl _)⟩
theorem new_tuple {vs : List Value} {xs : List MV} {s : Shared} (S : Sat c A L ρ H s) (r : RepL xs vs) :
    Sat c A L ρ (hset H s.heap.objs.size (.tuple xs)) { s with heap := s.heap.push { cls := .type "tuple", data := .seq vs.toArray } } ∧ Stp A L H s (hset H s.heap.objs.size (.tuple xs)) { s with heap := s.heap.push { cls := .type "tuple", data := .seq vs.toArray } } ∧ H s.heap.objs.size = none :=
  have k : ∀ b o, s.heap.get? b = some o → (s.heap.push { cls := .type "tuple", data := .seq vs.toArray }).get? b = some o := fun b o e => Heap.get?_push_of_some _ e
  have ha : ∀ b, InFp s.heap.objs.size (.tuple xs) b → s.heap.objs.size ≤ b := fun b hb => hb.elim (fun e => Nat.le_of_eq e.symm) fun e => e.elim
  ⟨S.alloc (tk := s.toks) k ha ⟨vs.toArray, 0, Heap.get?_push_size _ rfl, by simpa using r⟩, Stp.alloc (tk := s.toks) k ha (by rw [Heap.size_push]; exact Nat.le_succ _), S.fresh (Nat.le_refl _)⟩

theorem t_list {es : List Expr} {pos : Pos} (h : TL c n L (spliced (backTo pos (starEach es env))) ρ H fun as ρ1 H1 => as.length ≤ 1000 ∧ ∀ a, H1 a = none → Q (.ref a) ρ1 (hset H1 a (.list as))) :
    TV c n L (eval (.List es pos) env) ρ H Q := fun A s hb S =>
  PySem.wpAny_List (h.then hb S fun vs as ρ1 H1 s1 rs S1 st1 h1 => by
    obtain ⟨S2, st2, hf⟩ := new_list S1 rs
    refine ⟨?_, .ref s1.heap.objs.size, ρ1, _, rfl, S2, st1.trans st2, h1.2 _ hf⟩
    have e := rs.length
    have := h1.1
    rw [sizeLine_eq]; omega)
theorem t_tuple {es : List Expr} {k : Nat} {pos : Pos} (h : TL c n L (spliced (backTo pos (starEach es env))) ρ H fun as ρ1 H1 => as.length ≤ 1000 ∧ ∀ a, H1 a = none → Q (.ref a) ρ1 (hset H1 a (.tuple as))) :
    TV c n L (eval (.Tuple es k pos) env) ρ H Q := fun A s hb S =>
  PySem.wpAny_Tuple (h.then hb S fun vs as ρ1 H1 s1 rs S1 st1 h1 => by
    obtain ⟨S2, st2, hf⟩ := new_tuple S1 rs
    refine ⟨?_, .ref s1.heap.objs.size, ρ1, _, rfl, S2, st1.trans st2, h1.2 _ hf⟩
    have e := rs.length
    have := h1.1
    rw [sizeLine_eq]; omega)

-- ATTRIBUTES, SUBSCRIPTS
theorem t_attr {value : Expr} {attr : Str} {pos : Pos} (h : TV c n L (eval value env) ρ H fun a ρ1 H1 => Op1 c n L (fun o => getAttr o attr true) a ρ1 H1 Q)
    (he : eval (.Attribute value attr pos) env = (do
      let o ← eval value env
      standAt pos.atName
      let r ← holding [o] (getAttr o attr true)
      letTemporaryGo value o r
      pure r) := by with_unfolding_all rfl) : TV c n L (eval (.Attribute value attr pos) env) ρ H Q := fun A s hb S =>
  Attribute_any_ (h.then hb S fun va a ρ1 H1 s1 ra S1 st1 h1 => (h1 va ra).done hb S1 st1) he
theorem t_sub {value slice : Expr} {pos : Pos} (h : TV c n L (eval value env) ρ H fun a ρ1 H1 => TV c n L (eval slice env) ρ1 H1 fun b ρ2 H2 => Op2 c n L (subscriptTail value slice) a b ρ2 H2 Q) :
    TV c n L (eval (.Subscript value slice pos) env) ρ H Q := fun A s hb S =>
  Subscript_ (h.then hb S fun va a ρ1 H1 s1 ra S1 st1 h1 => h1.then hb S1 fun vb b ρ2 H2 s2 rb S2 st2 h2 => (h2 va vb ra rb).done hb S2 (st1.trans st2))

-- CALLS
/-- a call of a value with written arguments -/
abbrev TW (c : Cx) (n : Nat) (L : Addr) (env : Env) (pos : Pos) (f : Value) (first : List Value) (args : List Expr) (ρ : Loc) (H : Hp) (Q : MV → Loc → Hp → Prop) : Prop :=
  TV c n L (callWith pos f first (backTo pos (starEach args env)) []) ρ H Q
theorem t_call {func : Expr} {args : List Expr} {pos : Pos} (h : TV c n L (eval func env) ρ H fun f ρ1 H1 => ∀ vf, Rep f vf → TW c n L env pos vf [] args ρ1 H1 Q)
    (he : eval (.Call func args [] pos) env = (do callWith pos (← eval func env) [] (backTo pos (starEach args env)) (backToKw pos (keywordEach [] env))) := by rfl) :
    TV c n L (eval (.Call func args [] pos) env) ρ H Q := fun A s hb S =>
  Call_ (h.then hb S fun vf f ρ1 H1 s1 rf S1 st1 h1 => (h1 vf rf).done hb S1 st1) he
theorem t_meth {o : Expr} {name : Str} {apos pos : Pos} {args : List Expr} {pl : Sem Bool}
    (h : TV c n L (eval o env) ρ H fun a ρ1 H1 => ∀ va, Rep a va → TE c n L (fun (b : Value × List Value) v => b = v) (getMethod va name pl) ρ1 H1 fun fx ρ2 H2 => TW c n L env pos fx.1 fx.2 args ρ2 H2 Q)
    (he : eval (.Call (.Attribute o name apos) args [] pos) env = (do
      let ov ← eval o env
      standAt apos.atName
      let (f, first) ← holding [ov] (getMethod ov name pl)
      callWith pos f first (backTo pos (starEach args env)) (backToKw pos (keywordEach [] env))) := by rfl) :
    TV c n L (eval (.Call (.Attribute o name apos) args [] pos) env) ρ H Q := fun A s hb S =>
  methodCall_KW (kws := []) (h.then hb S fun va a ρ1 H1 s1 ra S1 st1 h1 => (h1 va ra).then hb S1 fun fx b ρ2 H2 s2 e S2 st2 h2 => by
    subst e
    exact TE.done h2 hb S2 (st1.trans st2)) he

theorem Sat.inK (hc : c.Ok) {s : Shared} (S : Sat c A L ρ H s) : c.K.In s.heap := hc.X.keeps S.base
/-- a def or a class of the text's -/
theorem tw_K (hc : c.Ok) {pos : Pos} {f : Value} {first : List Value} {e : Expr} {r : List Expr} (hk : keepIn c.K f = true)
    (h : TL c n L (spliced (backTo pos (starEach (e :: r) env))) ρ H fun as ρ1 H1 => OpL c n L (fun vs => call f (first ++ vs)) as ρ1 H1 Q)
    (he : starEach (e :: r) env = (false, eval e env) :: starEach r env := by rfl) (hplain : (backTo pos (starEach r env)).any (·.1) = false := by rfl) :
    TW c n L env pos f first (e :: r) ρ H Q := fun A s hb S =>
  callWith_K hc.X hk (h.then hb S fun vs as ρ1 H1 s1 rs S1 st1 h1 => ⟨S1.inK hc, (h1 vs rs).done hb S1 st1⟩) he hplain
theorem tw_K0 (hc : c.Ok) {pos : Pos} {f : Value} {first : List Value} (hk : keepIn c.K f = true) (h : TV c n L (call f (first ++ [])) ρ H Q) : TW c n L env pos f first [] ρ H Q := fun A s hb S =>
  callWith_K0 (S.inK hc) hk (h A s hb S)
theorem tw_builtin {pos : Pos} {id : String} {first : List Value} {e : Expr} {r : List Expr}
    (h : TL c n L (spliced (backTo pos (starEach (e :: r) env))) ρ H fun as ρ1 H1 => OpL c n L (fun vs => call (.builtin id) (first ++ vs)) as ρ1 H1 Q)
    (he : starEach (e :: r) env = (false, eval e env) :: starEach r env := by rfl) (hplain : (backTo pos (starEach (e :: r) env)).any (·.1) = false := by rfl) :
    TW c n L env pos (.builtin id) first (e :: r) ρ H Q := fun A s hb S => by
  refine Calls.callWith_builtin hplain ?_
  rw [he] at h ⊢
  exact evalArgs_plain (h.then hb S fun vs as ρ1 H1 s1 rs S1 st1 h1 => (h1 vs rs).done hb S1 st1)
theorem tw_builtin0 {pos : Pos} {id : String} {first : List Value} (h : TV c n L (call (.builtin id) (first ++ [])) ρ H Q) : TW c n L env pos (.builtin id) first [] ρ H Q := fun A s hb S =>
  Calls.callWith_builtin rfl (evalArgs_nil3 (h A s hb S))
theorem tw_type {pos : Pos} {T : String} {e : Expr} {r : List Expr}
    (h : TL c n L (spliced (backTo pos (starEach (e :: r) env))) ρ H fun as ρ1 H1 => OpL c n L (fun vs => call (.type T) vs) as ρ1 H1 Q)
    (he : starEach (e :: r) env = (false, eval e env) :: starEach r env := by rfl) (hplain : (backTo pos (starEach r env)).any (·.1) = false := by rfl) :
    TW c n L env pos (.type T) [] (e :: r) ρ H Q := fun A s hb S =>
  callWith_type1 (h.then hb S fun vs as ρ1 H1 s1 rs S1 st1 h1 => (h1 vs rs).done hb S1 st1) he hplain

-- STATEMENTS
theorem ts_nil (h : N ρ H) : TS c n L (execs [] env) ρ H N R := fun A s hb S => wpAny_execs_nil ⟨.next, ρ, H, rfl, S, Stp.refl .., h⟩
theorem ts_cons {st : Stmt} {rest : List Stmt} (h : TS c n L (exec st env) ρ H (fun ρ1 H1 => TS c n L (execs rest env) ρ1 H1 N R) R) : TS c n L (execs (st :: rest) env) ρ H N R := fun A s hb S =>
  wpAny_execs_cons (h.then hb S fun v f ρ1 H1 s1 e S1 st1 q => by
    subst e
    cases f with
    | next => exact TE.done q hb S1 st1
    | ret v => exact ⟨.ret v, ρ1, H1, rfl, S1, st1, q⟩
    | brk => exact q.elim
    | cont => exact q.elim)
theorem ts_return {e : Expr} {pos : Pos} (h : TV c n L (eval e env) ρ H R) : TS c n L (exec (.Return (some e) pos) env) ρ H N R := fun A s hb S =>
  wpAny_Return_some (h.then hb S fun v m ρ1 H1 s1 r S1 st1 q => ⟨.ret v, ρ1, H1, rfl, S1, st1, m, r, q⟩)
theorem ts_if {t : Expr} {b o : List Stmt} {pos : Pos} (h : TB c n L (isTrue t env (eval t env)) ρ H fun r ρ1 H1 => if r = true then TS c n L (execs b env) ρ1 H1 N R else TS c n L (execs o env) ρ1 H1 N R) :
    TS c n L (exec (.If t b o pos) env) ρ H N R := fun A s hb S =>
  wpAny_If (h.then hb S fun v r ρ1 H1 s1 e S1 st1 h1 => by
    subst e
    cases r with
    | true => exact TE.done (by simpa using h1) hb S1 st1
    | false => exact TE.done (by simpa using h1) hb S1 st1)

/-- a local stored -/
theorem tu_store {x : Str} {v : MV} (hL : env.locals = L) (hx : env.kindOf x = some .local) (hk : env.scope.kind = .function) (h : N (lset ρ x v) H) : OpU1 c n L (storeName env x) v ρ H N := fun va rv A s hb S => by
  subst hL
  obtain ⟨m, hn, hm⟩ := S.fr
  refine wpAny_storeName_local hx hn (fun h' hn' hs => ⟨(), _, H, trivial, S.local hs ⟨_, hn', fun y u hy => ?_⟩, Stp.local hs (fun q => by obtain ⟨o, _, _, ho, _⟩ := hn'; rw [q] at ho; cases ho), h⟩) (by rw [hk]; rfl)
  by_cases e : y = x
  · subst e; rw [lset_eq] at hy; cases hy; exact ⟨va, by simp, rv⟩
  · rw [lset_ne e] at hy; obtain ⟨w, hw, r⟩ := hm y u hy; exact ⟨w, by simp [e, hw], r⟩
theorem tu_cell {x : Str} {a : Addr} {v : MV} {v₀ : Option MV} (hx : env.kindOf x = some .cell) (hk : env.scope.kind = .function) (hc : env.cells.lookup x = some a) (hv : H a = some (.cell v₀)) (h : N ρ (hset H a (.cell (some v)))) : OpU1 c n L (storeName env x) v ρ H N := fun va rv A s hb S => by
  obtain ⟨o, u, ho, hd, r⟩ := S.objs a _ hv
  refine wpAny_storeName_cell hk hx hc ⟨o, ho, hd⟩ fun h' hv' hs => ?_
  obtain ⟨o', ho', hd'⟩ := hv'
  have hfp : ∀ b, InFp a (.cell (some v)) b ↔ InFp a (.cell v₀) b := fun b => Iff.rfl
  exact ⟨(), ρ, _, trivial, S.turn (tk := s.toks) hv (.inl rfl) hs.extBut hfp ⟨o', some va, ho', hd', rv⟩, Stp.turn (tk := s.toks) hv (.inl rfl) hs.extBut hfp (Nat.le_of_eq hs.1.symm), h⟩
theorem ts_assign {x : Str} {pos' pos : Pos} {value : Expr} (h : TV c n L (eval value env) ρ H fun v ρ1 H1 => OpU1 c n L (storeName env x) v ρ1 H1 N)
    (hs : swapsWith value (some (.Name x pos')) pos.line env = pure false := by rfl) : TS c n L (exec (.Assign [.Name x pos'] value pos) env) ρ H N R := fun A s hb S =>
  PySem.wpAny_Assign_Name (h.then hb S fun va v ρ1 H1 s1 r S1 st1 h1 => (h1 va r).then hb S1 fun _ _ ρ2 H2 s2 _ S2 st2 q => ⟨.next, ρ2, H2, rfl, S2, st1.trans st2, q⟩) hs
theorem ts_while {t : Expr} {b : List Stmt} {pos : Pos} (I : Nat → Loc → Hp → Prop) (k : Nat) (h0 : I k ρ H)
    (turn : ∀ k ρ H, I k ρ H → TB c n L (isTrue t env (eval t env)) ρ H fun r ρ1 H1 => if r = true then TS c n L (execs b env) ρ1 H1 (fun ρ2 H2 => ∃ j, j < k ∧ I j ρ2 H2) R else N ρ1 H1) :
    TS c n L (exec (.While t b [] pos) env) ρ H N R := fun A s hb S => by
  refine wpAny_While (codeAny_whileLoop (fun k s' => ∃ ρ' H', Sat c A L ρ' H' s' ∧ Stp A L H s H' s' ∧ I k ρ' H') ?_ k ⟨ρ, H, S, Stp.refl .., h0⟩)
  rintro k s' ⟨ρ', H', S', st', hI⟩
  refine (turn k ρ' H' hI).then hb S' fun v r ρ1 H1 s1 e S1 st1 h1 => ?_
  subst e
  cases r with
  | true =>
    refine TE.then (by simpa using h1) hb S1 fun v f ρ2 H2 s2 e S2 st2 q => ?_
    subst e
    cases f with
    | next => obtain ⟨j, hj, hI'⟩ := q; exact ⟨j, hj, ρ2, H2, S2, (st'.trans st1).trans st2, hI'⟩
    | ret v => exact ⟨.ret v, ρ2, H2, rfl, S2, (st'.trans st1).trans st2, q⟩
    | brk => exact q.elim
    | cont => exact q.elim
  | false => exact wpAny_execs_nil ⟨.next, ρ1, H1, rfl, S1, st'.trans st1, show N ρ1 H1 by simpa using h1⟩
end
-- lists of values
theorem RepL.iff {ms : List MV} {vs : List Value} : RepL ms vs ↔ vs.length = ms.length ∧ ∀ (i : Nat) (m : MV) (v : Value), ms[i]? = some m → vs[i]? = some v → Rep m v := by
  induction ms generalizing vs with
  | nil => cases vs with
    | nil => simp [RepL]
    | cons v vs => simp [RepL]
  | cons m ms ih => cases vs with
    | nil => simp [RepL]
    | cons v vs =>
      simp only [RepL, ih, List.length_cons, Nat.add_right_cancel_iff]
      constructor
      · rintro ⟨h0, h1, h2⟩
        refine ⟨h1, fun i m' v' e1 e2 => ?_⟩
        cases i with
        | zero => cases e1; cases e2; exact h0
        | succ i => exact h2 i m' v' (by simpa using e1) (by simpa using e2)
      · rintro ⟨h1, h2⟩
        exact ⟨h2 0 m v rfl rfl, h1, fun i m' v' e1 e2 => h2 (i + 1) m' v' (by simpa using e1) (by simpa using e2)⟩
theorem RepL.get {ms : List MV} {vs : List Value} (h : RepL ms vs) {i : Nat} {m : MV} (e : ms[i]? = some m) : ∃ v, vs[i]? = some v ∧ Rep m v := by
  obtain ⟨hl, hp⟩ := RepL.iff.mp h
  obtain ⟨hi, _⟩ := List.getElem?_eq_some_iff.mp e
  exact ⟨vs[i], List.getElem?_eq_getElem (by omega), hp i m _ e (List.getElem?_eq_getElem (by omega))⟩
theorem RepL.append : ∀ {ms ns : List MV} {vs us : List Value}, RepL ms vs → RepL ns us → RepL (ms ++ ns) (vs ++ us)
  | [], _, [], _, _, h => h
  | _ :: _, _, _ :: _, _, h, k => ⟨h.1, h.2.append k⟩
  | [], _, _ :: _, _, h, _ => h.elim
  | _ :: _, _, [], _, h, _ => h.elim
theorem RepL.snoc {ms : List MV} {vs : List Value} {m : MV} {v : Value} (h : RepL ms vs) (r : Rep m v) : RepL (ms ++ [m]) (vs ++ [v]) := h.append ⟨r, trivial⟩
theorem RepL.reverse : ∀ {ms : List MV} {vs : List Value}, RepL ms vs → RepL ms.reverse vs.reverse
  | [], [], h => h
  | _ :: _, _ :: _, h => by rw [List.reverse_cons, List.reverse_cons]; exact h.2.reverse.snoc h.1
  | [], _ :: _, h => h.elim
  | _ :: _, [], h => h.elim
theorem RepL.take : ∀ {ms : List MV} {vs : List Value} (k : Nat), RepL ms vs → RepL (ms.take k) (vs.take k)
  | [], [], _, h => by simpa using h
  | _ :: _, _ :: _, 0, h => trivial
  | _ :: _, _ :: _, k + 1, h => ⟨h.1, h.2.take k⟩
  | [], _ :: _, _, h => h.elim
  | _ :: _, [], _, h => h.elim
theorem RepL.drop : ∀ {ms : List MV} {vs : List Value} (k : Nat), RepL ms vs → RepL (ms.drop k) (vs.drop k)
  | [], [], _, h => by simpa using h
  | _ :: _, _ :: _, 0, h => h
  | _ :: _, _ :: _, k + 1, h => by simpa using h.2.drop k
  | [], _ :: _, _, h => h.elim
  | _ :: _, [], _, h => h.elim
theorem RepL.set : ∀ {ms : List MV} {vs : List Value} (k : Nat) {m : MV} {v : Value}, RepL ms vs → Rep m v → RepL (ms.set k m) (vs.set k v)
  | [], [], _, _, _, h, _ => by simpa using h
  | _ :: _, _ :: _, 0, _, _, h, r => ⟨r, h.2⟩
  | _ :: _, _ :: _, k + 1, _, _, h, r => ⟨h.1, h.2.set k r⟩
  | [], _ :: _, _, _, _, h, _ => h.elim
  | _ :: _, [], _, _, _, h, _ => h.elim
theorem RepL.eraseIdx : ∀ {ms : List MV} {vs : List Value} (k : Nat), RepL ms vs → RepL (ms.eraseIdx k) (vs.eraseIdx k)
  | [], [], _, h => by simpa using h
  | _ :: _, _ :: _, 0, h => h.2
  | _ :: _, _ :: _, k + 1, h => ⟨h.1, h.2.eraseIdx k⟩
  | [], _ :: _, _, h => h.elim
  | _ :: _, [], _, h => h.elim
theorem RepL.ints : ∀ {ns : List Int} {vs : List Value}, RepL (ns.map MV.int) vs → IntsAre vs ns
  | [], [], _ => .nil
  | n :: r, v :: vs, h => by obtain ⟨t, e⟩ := h.1; rw [e]; exact .cons n t h.2.ints
  | [], _ :: _, h => h.elim
  | _ :: _, [], h => h.elim
theorem RepL.ofInts : ∀ {ns : List Int} {vs : List Value}, IntsAre vs ns → RepL (ns.map MV.int) vs
  | _, _, .nil => trivial
  | _, _, .cons n t h => ⟨⟨t, rfl⟩, RepL.ofInts h⟩

theorem toList_erase (vs : Array Value) (k : Nat) : (vs.eraseIdxIfInBounds k).toList = vs.toList.eraseIdx k := by
  cases vs with
  | mk l =>
    by_cases h : k < l.length
    · simp [Array.eraseIdxIfInBounds, h]
    · simp [Array.eraseIdxIfInBounds, h, List.eraseIdx_of_length_le (Nat.not_lt.mp h)]

section
variable {c : Cx} {n : Nat} {env : Env} {L : Addr} {ρ : Loc} {H : Hp} {Q : MV → Loc → Hp → Prop} {N : Loc → Hp → Prop} {R : MV → Loc → Hp → Prop} {B : Bool → Loc → Hp → Prop}

-- INTS
theorem o_add {i j : Int} (h : Q (.int (i + j)) ρ H) : Op2 c n L (binaryOp .Add) (.int i) (.int j) ρ H Q := by
  rintro _ _ ⟨t, rfl⟩ ⟨u, rfl⟩ A s hb S
  exact PyProof.Rows.add_int ⟨.int _, ρ, H, ⟨_, rfl⟩, S.toks _, Stp.toks .., h⟩
theorem o_sub {i j : Int} (h : Q (.int (i - j)) ρ H) : Op2 c n L (binaryOp .Sub) (.int i) (.int j) ρ H Q := by
  rintro _ _ ⟨t, rfl⟩ ⟨u, rfl⟩ A s hb S
  exact PyProof.Rows.sub_int ⟨.int _, ρ, H, ⟨_, rfl⟩, S.toks _, Stp.toks .., h⟩
theorem o_mul {i j : Int} (hm : IntMulOk i j) (h : Q (.int (i * j)) ρ H) : Op2 c n L (binaryOp .Mult) (.int i) (.int j) ρ H Q := by
  rintro _ _ ⟨t, rfl⟩ ⟨u, rfl⟩ A s hb S
  exact PyProof.Rows.mul_int ⟨.int _, ρ, H, ⟨_, rfl⟩, S.toks _, Stp.toks .., h⟩ hm
theorem o_mod {i j : Int} (hj : j ≠ 0) (h : Q (.int (i.fmod j)) ρ H) : Op2 c n L (binaryOp .Mod) (.int i) (.int j) ρ H Q := by
  rintro _ _ ⟨t, rfl⟩ ⟨u, rfl⟩ A s hb S
  exact PyProof.Rows.mod_int' hj ⟨.int _, ρ, H, ⟨_, rfl⟩, S.toks _, Stp.toks .., h⟩
theorem o_div {i j : Int} (hj : j ≠ 0) (hs : j.natAbs < 1073741824) (h : Q (.int (i.fdiv j)) ρ H) : Op2 c n L (binaryOp .FloorDiv) (.int i) (.int j) ρ H Q := by
  rintro _ _ ⟨t, rfl⟩ ⟨u, rfl⟩ A s hb S
  exact PyProof.Rows.floordiv_int hj ⟨.int _, ρ, H, ⟨_, rfl⟩, S.toks _, Stp.toks .., h⟩ (.inl (PyProof.noPylong_small hs))
theorem c_eq {i j : Int} (h : Q (.bool (i == j)) ρ H) : Op2 c n L (compareOp .Eq) (.int i) (.int j) ρ H Q := by
  rintro _ _ ⟨t, rfl⟩ ⟨u, rfl⟩ A s hb S
  exact PyProof.Rows.eq_int ⟨.bool _, ρ, H, rfl, S, Stp.refl .., h⟩
theorem c_ne {i j : Int} (h : Q (.bool (i != j)) ρ H) : Op2 c n L (compareOp .NotEq) (.int i) (.int j) ρ H Q := by
  rintro _ _ ⟨t, rfl⟩ ⟨u, rfl⟩ A s hb S
  exact PyProof.Rows.ne_int ⟨.bool _, ρ, H, rfl, S, Stp.refl .., h⟩
theorem c_le {i j : Int} (h : Q (.bool (decide (i ≤ j))) ρ H) : Op2 c n L (compareOp .LtE) (.int i) (.int j) ρ H Q := by
  rintro _ _ ⟨t, rfl⟩ ⟨u, rfl⟩ A s hb S
  exact PyProof.Rows.le_int ⟨.bool _, ρ, H, rfl, S, Stp.refl .., h⟩
theorem c_ge {i j : Int} (h : Q (.bool (decide (j ≤ i))) ρ H) : Op2 c n L (compareOp .GtE) (.int i) (.int j) ρ H Q := by
  rintro _ _ ⟨t, rfl⟩ ⟨u, rfl⟩ A s hb S
  exact PyProof.Rows.ge_int ⟨.bool _, ρ, H, rfl, S, Stp.refl .., h⟩
theorem c_str {x y : Str} (h : Q (.bool (x == y)) ρ H) : Op2 c n L (compareOp .Eq) (.str x) (.str y) ρ H Q := by
  rintro _ _ ⟨t, rfl⟩ ⟨u, rfl⟩ A s hb S
  exact PyProof.Rows.eq_str ⟨.bool _, ρ, H, rfl, S, Stp.refl .., h⟩
theorem c_isNone_ref {a : Addr} (h : Q (.bool false) ρ H) : Op2 c n L (compareOp .Is) (.ref a) .none ρ H Q := by
  rintro _ _ rfl rfl A s hb S
  exact PySem.is_none ⟨.bool _, ρ, H, rfl, S, Stp.refl .., h⟩
theorem c_isNone_none (h : Q (.bool true) ρ H) : Op2 c n L (compareOp .Is) .none .none ρ H Q := by
  rintro _ _ rfl rfl A s hb S
  exact PySem.is_none ⟨.bool _, ρ, H, rfl, S, Stp.refl .., h⟩
theorem u_neg {i : Int} (h : Q (.int (-i)) ρ H) : Op1 c n L (unaryOp .USub) (.int i) ρ H Q := by
  rintro _ ⟨t, rfl⟩ A s hb S
  exact PySem.P.neg_int ⟨.int _, ρ, H, ⟨_, rfl⟩, S.toks _, Stp.toks .., h⟩
theorem t_unary {op : UnaryOp} {x : Expr} {pos : Pos} (h : TV c n L (eval x env) ρ H fun a ρ1 H1 => Op1 c n L (unaryOp op) a ρ1 H1 Q) : TV c n L (eval (.UnaryOp op x pos) env) ρ H Q := fun A s hb S =>
  wpAny_UnaryOp (h.then hb S fun va a ρ1 H1 s1 ra S1 st1 h1 => (h1 va ra).done hb S1 st1)
theorem f_abs {i : Int} (h : Q (.int (if i < 0 then -i else i)) ρ H) : OpL c n L (fun vs => call (.builtin "abs") vs) [.int i] ρ H Q := by
  intro vs r A s hb S
  match vs, r with
  | [_], ⟨⟨t, rfl⟩, _⟩ => exact PyProof.Rows.call_abs_int fun u tk => ⟨.int _, ρ, H, ⟨_, rfl⟩, S.toks _, Stp.toks .., h⟩

-- LISTS
theorem Sat.list {xs : List MV} {l : Addr} {s : Shared} (S : Sat c A L ρ H s) (hl : H l = some (.list xs)) : ∃ vs m, IsL s.heap l vs m ∧ RepL xs vs.toList ∧ vs.size = xs.length := by
  obtain ⟨vs, m, h1, h2⟩ := S.objs l _ hl
  exact ⟨vs, m, h1, h2, by have := h2.length; simpa using this⟩
theorem fp_list {l : Addr} {xs ys : List MV} : ∀ b, InFp l (.list ys) b ↔ InFp l (.list xs) b := fun _ => Iff.rfl
theorem Sat.turnL {xs ys : List MV} {l : Addr} {s : Shared} {vs : Array Value} {m : Nat} (S : Sat c A L ρ H s) (hl : H l = some (.list xs)) (hv : IsL s.heap l vs m) (f : Array Value → Array Value) (r : RepL ys (f vs).toList) (tk : Nat) :
    Sat c A L ρ (hset H l (.list ys)) { s with heap := s.heap.update l (Obj.mapSeq f), toks := tk } ∧ Stp A L H s (hset H l (.list ys)) { s with heap := s.heap.update l (Obj.mapSeq f), toks := tk } :=
  ⟨S.turn hl (.inl rfl) (Heap.SameBut.update ..).extBut fp_list ⟨_, _, hv.update f, r⟩, Stp.turn hl (.inl rfl) (Heap.SameBut.update ..).extBut fp_list (Nat.le_of_eq (Heap.size_after_update ..).symm)⟩

theorem f_len {l : Addr} {xs : List MV} (hl : H l = some (.list xs)) (hz : xs.length ≤ 100000) (h : Q (.int xs.length) ρ H) : OpL c n L (fun vs => call (.builtin "len") vs) [.ref l] ρ H Q := by
  intro vs r A s hb S
  match vs, r with
  | [_], ⟨rfl, _⟩ =>
    obtain ⟨us, m, h1, h2, h3⟩ := S.list hl
    exact Calls.call_len_list h1.isList (by omega) ⟨.int xs.length, ρ, H, ⟨_, by rw [h3]⟩, S.toks _, Stp.toks .., h⟩
theorem o_item {l : Addr} {xs : List MV} {k : Int} {m : MV} {value slice : Expr} (hl : H l = some (.list xs)) (h0 : 0 ≤ k) (hz : xs.length ≤ 100000) (e : xs[k.toNat]? = some m) (h : Q m ρ H)
    (hs : ∀ l k u, subscripted slice false (.ref l) (.int k u) = operate [.ref l, .int k u] (getItem (.ref l) (.int k u)) := by intro _ _ _; with_unfolding_all rfl) : Op2 c n L (subscriptTail value slice) (.ref l) (.int k) ρ H Q := by
  rintro _ _ rfl ⟨u, rfl⟩ A s hb S
  obtain ⟨us, q, h1, h2, h3⟩ := S.list hl
  obtain ⟨v, hv, r⟩ := h2.get e
  obtain ⟨hk, _⟩ := List.getElem?_eq_some_iff.mp e
  refine PyProof.Rows.tail_any h1.isList.typeIs slot_list_getitem.lookup (wpAny_getItem_list h1.isList h0 (by omega) (x := v) (by rw [← Array.getElem?_toList]; exact hv) ?_) (hs _ _ _)
  exact ⟨m, ρ, H, r, S, Stp.refl .., h⟩
theorem u_setItem {l : Addr} {xs : List MV} {k : Int} {m : MV} (hl : H l = some (.list xs)) (h0 : 0 ≤ k) (hz : xs.length ≤ 100000) (hk : k < xs.length) (h : N ρ (hset H l (.list (xs.set k.toNat m)))) :
    ∀ vl vk v, Rep (.ref l) vl → Rep (.int k) vk → Rep m v → TU c n L (setItem vl vk v) ρ H N := by
  rintro _ _ v rfl ⟨u, rfl⟩ r A s hb S
  obtain ⟨us, q, h1, h2, h3⟩ := S.list hl
  obtain ⟨z1, z2⟩ := S.turnL (ys := xs.set k.toNat m) hl h1 (·.setIfInBounds k.toNat v) (by simpa using h2.set k.toNat r) s.toks
  exact ki_setAt h1 h0 (by omega) (by omega) ⟨(), ρ, _, trivial, z1, z2, h⟩
end
def fget (fs : List (Str × MV)) (x : Str) : Option MV := match fs with
  | [] => none
  | p :: r => if p.1 == x then some p.2 else fget r x
def fput (fs : List (Str × MV)) (x : Str) (v : MV) : List (Str × MV) := match fs with
  | [] => [(x, v)]
  | p :: r => if p.1 == x then (p.1, v) :: r else p :: fput r x v
theorem RepF.length : ∀ {fs : List (Str × MV)} {es : List DictEntry}, RepF fs es → es.length = fs.length
  | [], [], _ => rfl
  | _ :: _, _ :: _, h => congrArg (· + 1) (RepF.length h.2.2)
  | [], _ :: _, h => h.elim
  | _ :: _, [], h => h.elim
theorem RepF.noRef : ∀ {fs : List (Str × MV)} {es : List DictEntry}, RepF fs es → es.any (·.refKey) = false
  | [], [], _ => rfl
  | _ :: _, e :: es, h => by
    obtain ⟨⟨t, hk⟩, _, h2⟩ := h
    rw [List.any_cons, h2.noRef, Bool.or_false]
    simp [DictEntry.refKey, hk]
  | [], _ :: _, h => h.elim
  | _ :: _, [], h => h.elim
theorem RepF.getSome : ∀ {fs : List (Str × MV)} {es : List DictEntry} {x : Str} {m : MV}, RepF fs es → fget fs x = some m → ∃ v, getL x es = some (some v) ∧ Rep m v
  | [], [], _, _, _, e => by cases e
  | p :: fs, e :: es, x, m, h, q => by
    obtain ⟨⟨t, hk⟩, hr, h2⟩ := h
    unfold fget at q
    by_cases c : (p.1 == x) = true
    · rw [if_pos c] at q
      cases q
      exact ⟨e.val, by simp [getL, hk, Value.isStr, c], hr⟩
    · rw [if_neg c] at q
      obtain ⟨v, hv, r⟩ := RepF.getSome h2 q
      refine ⟨v, ?_, r⟩
      have c' : (p.1 == x) = false := by simpa using c
      unfold getL at hv ⊢
      have : e.key.isStr x = false := by rw [hk]; exact c'
      rw [List.find?_cons, this]
      have nr : e.refKey = false := by simp [DictEntry.refKey, hk]
      rw [List.any_cons, nr, Bool.false_or]
      exact hv
  | [], _ :: _, _, _, h, _ => h.elim
  | _ :: _, [], _, _, h, _ => h.elim
theorem RepF.getNone : ∀ {fs : List (Str × MV)} {es : List DictEntry} {x : Str}, RepF fs es → fget fs x = none → getL x es = some none
  | [], [], _, _, _ => rfl
  | p :: fs, e :: es, x, h, q => by
    have hn := h.noRef
    obtain ⟨⟨t, hk⟩, hr, h2⟩ := h
    unfold fget at q
    by_cases c : (p.1 == x) = true
    · rw [if_pos c] at q; cases q
    · rw [if_neg c] at q
      have hv := RepF.getNone h2 q
      have c' : (p.1 == x) = false := by simpa using c
      unfold getL at hv ⊢
      have : e.key.isStr x = false := by rw [hk]; exact c'
      rw [List.find?_cons, this]
      have nr : e.refKey = false := by simp [DictEntry.refKey, hk]
      rw [List.any_cons, nr, Bool.false_or]
      exact hv
  | [], _ :: _, _, h, _ => h.elim
  | _ :: _, [], _, h, _ => h.elim
theorem RepF.put {hsh : Int} {t : Tok} {x : Str} {m : MV} {v : Value} (r : Rep m v) : ∀ {fs : List (Str × MV)} {es : List DictEntry}, RepF fs es → RepF (fput fs x m) (putL x hsh (.str x t) v es)
  | [], [], _ => ⟨⟨t, rfl⟩, r, trivial⟩
  | p :: fs, e :: es, h => by
    obtain ⟨⟨u, hk⟩, hr, h2⟩ := h
    unfold fput putL
    have : e.key.isStr x = (p.1 == x) := by rw [hk]; rfl
    rw [this]
    by_cases c : (p.1 == x) = true
    · rw [if_pos c, if_pos c]; exact ⟨⟨u, hk⟩, r, h2⟩
    · rw [if_neg c, if_neg c]; exact ⟨⟨u, hk⟩, hr, h2.put r⟩
  | [], _ :: _, h => h.elim
  | _ :: _, [], h => h.elim

def MV.plain : MV → Bool
  | .val _ => false
  | .any => false
  | _ => true
theorem handed_of {m : MV} {v : Value} (h : Rep m v) (hp : m.plain = true) : handedIn v = true := by
  cases m with
  | none => cases h; rfl
  | bool b => cases h; rfl
  | int i => obtain ⟨t, rfl⟩ := h; rfl
  | str x => obtain ⟨t, rfl⟩ := h; rfl
  | ref a => cases h; rfl
  | val v => cases hp
  | any => cases hp

section
variable {c : Cx} {n : Nat} {env : Env} {L : Addr} {ρ : Loc} {H : Hp} {Q : MV → Loc → Hp → Prop} {N : Loc → Hp → Prop} {R : MV → Loc → Hp → Prop} {B : Bool → Loc → Hp → Prop}

-- INSTANCES
theorem Sat.inst {C x : Addr} {fs : List (Str × MV)} {s : Shared} (S : Sat c A L ρ H s) (hx : H x = some (.inst C fs)) : ∃ d es m, x = d + 1 ∧ InstAt s.heap x (instObj C d) C (some (dictOf es m)) ∧ s.heap.get? d = some (dictOf es m) ∧ RepF fs es := by
  obtain ⟨d, es, m, rfl, h1, h2, h3⟩ := S.objs x _ hx
  exact ⟨d, es, m, rfl, ⟨h1, rfl, rfl, h2⟩, h2, h3⟩
/-- a field read -/
theorem o_field (hc : c.Ok) {x C : Addr} {fs : List (Str × MV)} {name : Str} {m : MV} {attr : Option Value} {expr : Bool} (hx : H x = some (.inst C fs)) (hg : plainGet c.K C name = true) (hh : hasDictIn c.K C = true) (ha : findIn c.K (.ref C) name = some attr) (hn : noGet c.K attr = true)
    (e : fget fs name = some m) (hp : m.plain = true) (h : Q m ρ H) : Op1 c n L (fun o => getAttr o name expr) (.ref x) ρ H Q := by
  rintro _ rfl A s hb S
  obtain ⟨d, es, k, rfl, I, hd, hr⟩ := S.inst hx
  obtain ⟨v, hv, r⟩ := hr.getSome e
  exact get_value (S.inK hc) I (plainGet_of hg).1 (findObj_own hh ha hn (show lookIn name (dictOf es k) = some (some v) from hv)) (handed_of r hp) ⟨m, ρ, H, r, S.toks _, Stp.toks .., h⟩
/-- a method of its class -/
theorem m_inst (hc : c.Ok) {x C f : Addr} {fs : List (Str × MV)} {name : Str} {pl : Sem Bool} {P : Value × List Value → Loc → Hp → Prop} (hx : H x = some (.inst C fs)) (hg : plainGet c.K C name = true)
    (hf : findIn c.K (.ref C) name = some (some (.ref f))) (ht : isFn c.K (.ref f) = true) (e : fget fs name = none) (h : P (.ref f, [.ref x]) ρ H) :
    ∀ va, Rep (.ref x) va → TE c n L (fun (b : Value × List Value) v => b = v) (getMethod va name pl) ρ H P := by
  rintro _ rfl A s hb S
  obtain ⟨d, es, k, rfl, I, hd, hr⟩ := S.inst hx
  exact method_fn (S.inK hc) I (plainGet_of hg).1 (plainGet_of hg).2 hf (beq_iff_eq.mp ht) (by show (lookIn name (dictOf es k)).map _ = _; rw [lookIn_dict, hr.getNone e]; rfl) ⟨_, ρ, H, rfl, S, Stp.refl .., h⟩
theorem fp_inst {x C : Addr} {fs gs : List (Str × MV)} : ∀ b, InFp x (.inst C gs) b ↔ InFp x (.inst C fs) b := fun _ => Iff.rfl
/-- a field stored -/
theorem u_setAttr (hc : c.Ok) {x C : Addr} {fs : List (Str × MV)} {name : Str} {m : MV} (hx : H x = some (.inst C fs)) (hs : findIn c.K (.ref C) "__setattr__" = some (some (.builtin "object.__setattr__"))) (hp : plainOver c.K C = true) (ht : takerIn c.K C name = some none)
    (hh : (clsIn c.K C).any (·.hasDict) = true) (hz : fs.length ≤ 900) (h : N ρ (hset H x (.inst C (fput fs name m)))) : OpU2 c n L (fun o v => setAttr o name v) (.ref x) m ρ H N := by
  rintro _ v rfl rv A s hb S
  obtain ⟨d, es, k, rfl, I, hd, hr⟩ := S.inst hx
  have X := S.inK hc
  obtain ⟨cd, hcd, hhd⟩ := any_some hh
  refine set_plain X I hs (osa_open (s := { s with toks := s.toks + 1 }) X I hp ht fun b => ?_)
  dsimp only
  unfold Builtin.ObjectAttr.storeInOwnDict
  refine wpAny_bind (wpAny_pure (wpAny_bind (wpAny_bind (wpAny_loadPart I.at_ (wpAny_bind (looks_clsIn X hcd _ _ _ _ (fun _ _ e => e) ?_))))))
  rw [hhd]
  refine wpAny_pure (a := some d) (wpAny_bind (wpAny_pure (wpAny_bind ?_)))
  unfold nsSet
  refine wpAny_bind (wpAny_bind (wpAny_askSetting (wpAny_pure (wpAny_bind (wpAny_mkText (wpAny_bind (wpAny_loadPart hd ?_)))))))
  dsimp only
  have hno : (!es.toArray.any (·.key.isStr name) && es.toArray.any (·.refKey)) = false := by
    have e : es.toArray.any (fun x => x.refKey) = es.any (fun x => x.refKey) := by simp
    rw [e, hr.noRef, Bool.and_false]
  rw [aRefKeyMayBeTheName_at, hno]
  refine wpAny_updatePart hd ?_
  have hput := putName_dict name (PyData.keyHash c.w.params name) (.str name (s.toks + 1)) v es k
  have hget : ∀ hsh : Int, (s.heap.update d (Obj.putName name hsh (.str name (s.toks + 1)) v)).get? d = some (dictOf (putL name hsh (.str name (s.toks + 1)) v es) (putN name es k)) := fun hsh => by
    rw [Heap.get?_update_self _ hd (by rw [putName_dict]; rfl), putName_dict]
  have hlen : ∀ hsh : Int, (putL name hsh (.str name (s.toks + 1)) v es).length ≤ 901 := fun hsh => by
    have e1 := (hr.put (hsh := hsh) (t := s.toks + 1) (x := name) rv).length
    have e2 : ∀ fs : List (Str × MV), (fput fs name m).length ≤ fs.length + 1 := by
      intro fs
      induction fs with
      | nil => exact Nat.le_refl _
      | cons p r ih =>
        unfold fput
        split
        · exact Nat.le_succ _
        · simp only [List.length_cons]; omega
    have := e2 fs
    omega
  refine wpAny_bind (wpAny_lookBehind (hget _) (pastItsLine_dict (by rw [List.size_toArray, sizeLine_eq]; exact Nat.le_trans (hlen _) (by decide))) ?_)
  refine wpAny_pure ⟨(), ρ, _, trivial, S.turn (tk := s.toks + 1 + 1) (x := d) hx (.inr rfl) (Heap.SameBut.update ..).extBut fp_inst ⟨d, _, _, rfl, ?_, hget _, hr.put rv⟩, Stp.turn (tk := s.toks + 1 + 1) hx (.inr rfl) (Heap.SameBut.update ..).extBut fp_inst (Nat.le_of_eq (Heap.size_after_update ..).symm), h⟩
  exact (Heap.get?_update_other _ _ (Nat.ne_of_lt (Nat.lt_succ_self d))).trans I.at_
end
section
variable {c : Cx} {n : Nat} {env : Env} {L : Addr} {ρ : Loc} {H : Hp} {Q : MV → Loc → Hp → Prop} {N : Loc → Hp → Prop} {R : MV → Loc → Hp → Prop} {B : Bool → Loc → Hp → Prop}

/-- a list's method -/
theorem m_list {l : Addr} {xs : List MV} {name : Str} {id : String} {pl : Sem Bool} {P : Value × List Value → Loc → Hp → Prop} (hl : H l = some (.list xs)) (slot : Slot "list" name id) (hty : typeOf (.builtin id) = pure (.type "method_descriptor")) (h : P (.builtin id, [.ref l]) ρ H) :
    ∀ va, Rep (.ref l) va → TE c n L (fun (b : Value × List Value) v => b = v) (getMethod va name pl) ρ H P := by
  rintro _ rfl A s hb S
  obtain ⟨us, m, h1, h2, h3⟩ := S.list hl
  exact getMethod_builtin ⟨_, h1, rfl⟩ PySem.F.plainAttrs_list slot hty (fun a e => by cases e; exact ⟨_, h1, rfl⟩) ⟨_, ρ, H, rfl, S, Stp.refl .., h⟩

theorem f_append {l : Addr} {xs : List MV} {m : MV} (hl : H l = some (.list xs)) (hz : xs.length ≤ 100000) (h : Q .none ρ (hset H l (.list (xs ++ [m])))) : OpL c n L (fun vs => call (.builtin "list.append") ([.ref l] ++ vs)) [m] ρ H Q := by
  intro vs r A s hb S
  match vs, r with
  | [v], ⟨r, _⟩ =>
    obtain ⟨us, k, h1, h2, h3⟩ := S.list hl
    obtain ⟨z1, z2⟩ := S.turnL (ys := xs ++ [m]) hl h1 (·.push v) (by simpa using h2.snoc r) s.toks
    exact call_meets PySem.F.slot_list_append ⟨_, h1, rfl⟩ PySem.F.entry_list_append (PySem.F.args_list_append_2 _ _) (list_append l us k v (by rw [sizeLine_eq]; omega)) ⟨h1, .none, ρ, _, rfl, z1, z2, h⟩
theorem f_pop {l : Addr} {xs : List MV} {m : MV} (hl : H l = some (.list (xs ++ [m]))) (hz : xs.length ≤ 100000) (h : Q m ρ (hset H l (.list xs))) : TV c n L (call (.builtin "list.pop") ([.ref l] ++ [])) ρ H Q := by
  intro A s hb S
  obtain ⟨us, k, h1, h2, h3⟩ := S.list hl
  have hs : us.size = xs.length + 1 := by rw [h3]; simp
  obtain ⟨v, hv, r⟩ := h2.get (i := xs.length) (m := m) (by simp)
  have hv' : us[us.size - 1]? = some v := by rw [hs]; simpa using hv
  obtain ⟨z1, z2⟩ := S.turnL (ys := xs) hl h1 (·.eraseIdxIfInBounds (us.size - 1)) (by
    rw [toList_erase, hs]
    have := h2.eraseIdx xs.length
    have e : (xs ++ [m]).eraseIdx xs.length = xs := by rw [List.eraseIdx_append_of_length_le (Nat.le_refl _)]; simp
    rw [e] at this
    simpa using this) s.toks
  exact call_meets PySem.F.slot_list_pop ⟨_, h1, rfl⟩ PySem.F.entry_list_pop (PySem.F.args_list_pop_1 _) (MeetsSeq.list_pop_last l us k v hv' (by rw [sizeLine_eq]; omega)) ⟨h1, m, ρ, _, r, z1, z2, h⟩
theorem f_popAt {l : Addr} {xs : List MV} {m : MV} {i : Int} (hl : H l = some (.list xs)) (hz : xs.length ≤ 100000) (h0 : 0 ≤ i) (e : xs[i.toNat]? = some m) (h : Q m ρ (hset H l (.list (xs.eraseIdx i.toNat)))) :
    OpL c n L (fun vs => call (.builtin "list.pop") ([.ref l] ++ vs)) [.int i] ρ H Q := by
  intro vs r A s hb S
  match vs, r with
  | [_], ⟨⟨t, rfl⟩, _⟩ =>
    obtain ⟨us, k, h1, h2, h3⟩ := S.list hl
    obtain ⟨v, hv, r⟩ := h2.get e
    obtain ⟨hi, _⟩ := List.getElem?_eq_some_iff.mp e
    obtain ⟨z1, z2⟩ := S.turnL (ys := xs.eraseIdx i.toNat) hl h1 (·.eraseIdxIfInBounds i.toNat) (by rw [toList_erase]; exact h2.eraseIdx _) s.toks
    exact call_meets PySem.F.slot_list_pop ⟨_, h1, rfl⟩ PySem.F.entry_list_pop (PySem.F.args_list_pop_2 _ _) (MeetsSeq.list_pop_at l us k i t i.toNat v (fitsIndex_of h0 (by omega)) (seqIndex_of h0 (by omega)) (by rw [← Array.getElem?_toList]; exact hv) (by rw [sizeLine_eq]; omega)) ⟨h1, m, ρ, _, r, z1, z2, h⟩
theorem f_extend {l b : Addr} {xs ys : List MV} (hl : H l = some (.list xs)) (hb' : H b = some (.list ys)) (hz : xs.length + ys.length ≤ 100000) (h : Q .none ρ (hset H l (.list (xs ++ ys)))) : OpL c n L (fun vs => call (.builtin "list.extend") ([.ref l] ++ vs)) [.ref b] ρ H Q := by
  intro vs r A s hb S
  match vs, r with
  | [_], ⟨rfl, _⟩ =>
    obtain ⟨us, k, h1, h2, h3⟩ := S.list hl
    obtain ⟨ws, k', g1, g2, g3⟩ := S.list hb'
    obtain ⟨z1, z2⟩ := S.turnL (ys := xs ++ ys) hl h1 (· ++ ws) (by simpa using h2.append g2) s.toks
    refine call_meets PySem.F.slot_list_extend ⟨_, h1, rfl⟩ PySem.F.entry_list_extend (PySem.F.args_list_extend_2 _ _) (AutoSeq1.list_extend_list_list_0 l us k b ws k' ?_ (by rw [sizeLine_eq]; omega) (by rw [sizeLine_eq]; omega)) ⟨h1, g1, .none, ρ, _, rfl, z1, z2, h⟩
    have : Builtin.List.listTooLong (us.size + ws.size) = false := by
      have hs : us.size + ws.size ≤ 100000 := by omega
      simp only [Builtin.List.listTooLong, sizeLine]
      simp; omega
    simp [this]

theorem map_erase (f : Int → MV) : ∀ (ns : List Int) (k : Nat), (ns.eraseIdx k).map f = (ns.map f).eraseIdx k
  | [], _ => rfl
  | _ :: _, 0 => rfl
  | a :: r, k + 1 => by simp [map_erase f r k]
theorem mem_toArray {us : Array Value} {ns : List Int} (hi : IntsAre us.toList ns) (k : Int) (t : Tok) : ∀ y, y ∈ us → MeetsSeq.EqGives y (.int k t) (isInt k y) := fun y hy => eq_isInt k t hi y (by simpa using hy)
theorem f_index {l : Addr} {ns : List Int} {k : Int} (hl : H l = some (.list (ns.map .int))) (hz : ns.length ≤ 100000) (hk : k ∈ ns) (h : Q (.int (ns.idxOf k : Nat)) ρ H) : OpL c n L (fun vs => call (.builtin "list.index") ([.ref l] ++ vs)) [.int k] ρ H Q := by
  intro vs r A s hb S
  match vs, r with
  | [_], ⟨⟨t, rfl⟩, _⟩ =>
    obtain ⟨us, q, h1, h2, h3⟩ := S.list hl
    have hi := h2.ints
    have hj : ns.idxOf k < ns.length := List.idxOf_lt_length_iff.mpr hk
    have hsz : us.size = ns.length := by rw [h3]; simp
    refine call_meets PySem.F.slot_list_index ⟨_, h1, rfl⟩ PySem.F.entry_list_index (PySem.F.args_list_index_2 _ _) (MeetsSeq.list_index l us q (.int k t) (isInt k) (mem_toArray hi k t) (ns.idxOf k) (by omega) (by omega) ?_ ?_) ⟨h1, .int _, ρ, H, ⟨_, rfl⟩, S.toks _, Stp.toks .., h⟩
    · have := isInt_at k hi (ns.idxOf k) (by simpa using (by omega : ns.idxOf k < us.size)) hj
      rw [Array.getElem_toList] at this
      rw [this]
      simp
    · intro j hjs hlt
      have := isInt_at k hi j (by simpa using hjs) (by omega)
      rw [Array.getElem_toList] at this
      rw [this]
      exact ne_of_lt_idxOf hlt _
theorem f_remove {l : Addr} {ns : List Int} {k : Int} (hl : H l = some (.list (ns.map .int))) (hz : ns.length ≤ 100000) (hk : k ∈ ns) (h : Q .none ρ (hset H l (.list ((ns.eraseIdx (ns.idxOf k)).map .int)))) : OpL c n L (fun vs => call (.builtin "list.remove") ([.ref l] ++ vs)) [.int k] ρ H Q := by
  intro vs r A s hb S
  match vs, r with
  | [_], ⟨⟨t, rfl⟩, _⟩ =>
    obtain ⟨us, q, h1, h2, h3⟩ := S.list hl
    have hi := h2.ints
    have hj : ns.idxOf k < ns.length := List.idxOf_lt_length_iff.mpr hk
    have hsz : us.size = ns.length := by rw [h3]; simp
    obtain ⟨z1, z2⟩ := S.turnL (ys := (ns.eraseIdx (ns.idxOf k)).map .int) hl h1 (·.eraseIdxIfInBounds (ns.idxOf k)) (by
      rw [toList_erase, map_erase]; exact h2.eraseIdx _) s.toks
    refine call_meets PySem.F.slot_list_remove ⟨_, h1, rfl⟩ PySem.F.entry_list_remove (PySem.F.args_list_remove_2 _ _) (MeetsSeq.list_remove l us q (.int k t) (isInt k) (mem_toArray hi k t) (ns.idxOf k) (by omega) ?_ ?_ (by rw [sizeLine_eq]; omega)) ⟨h1, .none, ρ, _, rfl, z1, z2, h⟩
    · have := isInt_at k hi (ns.idxOf k) (by simpa using (by omega : ns.idxOf k < us.size)) hj
      rw [Array.getElem_toList] at this
      rw [this]
      simp
    · intro j hjs hlt
      have := isInt_at k hi j (by simpa using hjs) (by omega)
      rw [Array.getElem_toList] at this
      rw [this]
      exact ne_of_lt_idxOf hlt _

-- COMPARISONS OF LISTS
theorem c_eqL {a b : Addr} {ns ms : List Int} (ha : H a = some (.list (ns.map .int))) (hb' : H b = some (.list (ms.map .int))) (h : Q (.bool (decide (ns = ms))) ρ H) : Op2 c n L (compareOp .Eq) (.ref a) (.ref b) ρ H Q := by
  rintro _ _ rfl rfl A s hb S
  obtain ⟨us, q, h1, h2, h3⟩ := S.list ha
  obtain ⟨ws, q', g1, g2, g3⟩ := S.list hb'
  exact eq_intsK (by simpa using h1.isList) h2.ints (by simpa using g1.isList) g2.ints (by have := hb.2.2; omega) ⟨.bool _, ρ, H, rfl, S, Stp.refl .., h⟩
theorem c_neL {a b : Addr} {ns ms : List Int} (ha : H a = some (.list (ns.map .int))) (hb' : H b = some (.list (ms.map .int))) (h : Q (.bool (!decide (ns = ms))) ρ H) : Op2 c n L (compareOp .NotEq) (.ref a) (.ref b) ρ H Q := by
  rintro _ _ rfl rfl A s hb S
  obtain ⟨us, q, h1, h2, h3⟩ := S.list ha
  obtain ⟨ws, q', g1, g2, g3⟩ := S.list hb'
  exact ne_intsK (by simpa using h1.isList) h2.ints (by simpa using g1.isList) g2.ints (by have := hb.2.2; omega) ⟨.bool _, ρ, H, rfl, S, Stp.refl .., h⟩
theorem c_eqNil {a b : Addr} {xs : List MV} (ha : H a = some (.list xs)) (hb' : H b = some (.list [])) (h : Q (.bool xs.isEmpty) ρ H) : Op2 c n L (compareOp .Eq) (.ref a) (.ref b) ρ H Q := by
  rintro _ _ rfl rfl A s hb S
  obtain ⟨us, q, h1, h2, h3⟩ := S.list ha
  obtain ⟨ws, q', g1, g2, g3⟩ := S.list hb'
  have hw : ws.size = 0 := by rw [g3]; rfl
  by_cases e : xs = []
  · subst e
    have hu0 : us.size = 0 := by rw [h3]; rfl
    refine SeqAt.eq_listAt (e := fun _ => true) h1.isList g1.isList (by omega) hb.units (fun j h1 h2 => absurd h1 (by omega)) ?_
    rw [hu0]
    exact ⟨.bool true, ρ, H, rfl, S, Stp.refl .., h⟩
  · have hne : (us.size != ws.size) = true := by
      have : xs.length ≠ 0 := fun z => e (List.length_eq_zero_iff.mp z)
      simp; omega
    refine SeqAt.eq_list_lengthsAt h1.isList g1.isList hne hb.units ⟨.bool false, ρ, H, rfl, S, Stp.refl .., ?_⟩
    have : xs.isEmpty = false := by cases xs with | nil => exact absurd rfl e | cons _ _ => rfl
    rw [this] at h; exact h
theorem c_neNil {a b : Addr} {xs : List MV} (ha : H a = some (.list xs)) (hb' : H b = some (.list [])) (h : Q (.bool (!xs.isEmpty)) ρ H) : Op2 c n L (compareOp .NotEq) (.ref a) (.ref b) ρ H Q := by
  rintro _ _ rfl rfl A s hb S
  obtain ⟨us, q, h1, h2, h3⟩ := S.list ha
  obtain ⟨ws, q', g1, g2, g3⟩ := S.list hb'
  have hw : ws.size = 0 := by rw [g3]; rfl
  show wpAny _ _ (richCompare .NotEq _ _) _ _ _
  by_cases e : xs = []
  · subst e
    have hu0 : us.size = 0 := by rw [h3]; rfl
    refine SeqAt.RcNeAt.lists (e := fun _ => true) h1.isList g1.isList (by omega) hb.units (fun j h1 h2 => absurd h1 (by omega)) _ _ _ _ ?_
    rw [hu0]
    exact ⟨.bool false, ρ, H, rfl, S, Stp.refl .., h⟩
  · have hne : (us.size != ws.size) = true := by
      have : xs.length ≠ 0 := fun z => e (List.length_eq_zero_iff.mp z)
      simp; omega
    refine SeqAt.RcNeAt.lists_lengths h1.isList g1.isList hne hb.units _ _ _ _ ⟨.bool true, ρ, H, rfl, S, Stp.refl .., ?_⟩
    have : xs.isEmpty = false := by cases xs with | nil => exact absurd rfl e | cons _ _ => rfl
    rw [this] at h; exact h

-- +, SLICES
theorem o_addL {a b : Addr} {xs ys : List MV} (ha : H a = some (.list xs)) (hb' : H b = some (.list ys)) (hz : xs.length + ys.length ≤ 100000) (h : ∀ d, H d = none → Q (.ref d) ρ (hset H d (.list (xs ++ ys)))) : Op2 c n L (binaryOp .Add) (.ref a) (.ref b) ρ H Q := by
  rintro _ _ rfl rfl A s hb S
  obtain ⟨us, q, h1, h2, h3⟩ := S.list ha
  obtain ⟨ws, q', g1, g2, g3⟩ := S.list hb'
  obtain ⟨z1, z2, z3⟩ := new_list S (h2.append g2)
  refine PySem.P.add_list h1 g1 ?_ (by rw [sizeLine_eq]; omega)
  have e : us ++ ws = (us.toList ++ ws.toList).toArray := by simp
  rw [e]
  exact ⟨.ref _, ρ, _, rfl, z1, z2, h _ z3⟩

abbrev TP (c : Cx) (n : Nat) (L : Addr) (t : Sem Value) (ρ : Loc) (H : Hp) (Q : Option Int → Loc → Hp → Prop) : Prop := TE c n L (fun (o : Option Int) v => IsPart v o) t ρ H Q
theorem tp_none {P : Option Int → Loc → Hp → Prop} (h : P none ρ H) : TP c n L (evalPart none env) ρ H P := fun A s hb S => wpAny_pure ⟨none, ρ, H, .none, S, Stp.refl .., h⟩
theorem tp_some {P : Option Int → Loc → Hp → Prop} {e : Expr} (h : TV c n L (eval e env) ρ H fun m ρ1 H1 => ∃ i, m = .int i ∧ P (some i) ρ1 H1) : TP c n L (evalPart (some e) env) ρ H P := fun A s hb S =>
  h.then hb S fun v m ρ1 H1 s1 r S1 st1 q => by
    obtain ⟨i, rfl, hp⟩ := q
    obtain ⟨t, rfl⟩ := r
    exact ⟨some i, ρ1, H1, .int i t, S1, st1, hp⟩
theorem t_slice {lo hi st : Option Expr} {p : Pos} (h : TP c n L (evalPart lo env) ρ H fun a ρ1 H1 => TP c n L (evalPart hi env) ρ1 H1 fun b ρ2 H2 => TP c n L (evalPart st env) ρ2 H2 fun k ρ3 H3 => ∀ d, H3 d = none → Q (.ref d) ρ3 (hset H3 d (.slice a b k))) :
    TV c n L (eval (.Slice lo hi st p) env) ρ H Q := fun A s hb S =>
  wpAny_Slice (h.then hb S fun va a ρ1 H1 s1 ra S1 st1 h1 => h1.then hb S1 fun vb b ρ2 H2 s2 rb S2 st2 h2 => h2.then hb S2 fun vk k ρ3 H3 s3 rk S3 st3 h3 => by
    have kk : ∀ b o, s3.heap.get? b = some o → (s3.heap.push { cls := .type "slice", data := .fields #[va, vb, vk] }).get? b = some o := fun b o e => Heap.get?_push_of_some _ e
    have ha : ∀ x, InFp s3.heap.objs.size (.slice a b k) x → s3.heap.objs.size ≤ x := fun b hb => hb.elim (fun e => Nat.le_of_eq e.symm) fun e => e.elim
    exact ⟨.ref s3.heap.objs.size, ρ3, _, rfl, S3.alloc (tk := s3.toks) kk ha ⟨va, vb, vk, Heap.get?_push_size _ rfl, ra, rb, rk⟩, ((st1.trans st2).trans st3).trans (Stp.alloc (tk := s3.toks) kk ha (by rw [Heap.size_push]; exact Nat.le_succ _)), h3 _ (S3.fresh (Nat.le_refl _))⟩)
theorem o_slice {l d : Addr} {xs ys : List MV} {lo hi st : Option Int} {value slice : Expr} (hl : H l = some (.list xs)) (hd : H d = some (.slice lo hi st)) (h0 : st ≠ some 0) (hz : xs.length ≤ 100000)
    (hp : ∀ us : Array Value, RepL xs us.toList → RepL ys (slicePick us lo hi st).toList) (h : ∀ a, H a = none → Q (.ref a) ρ (hset H a (.list ys)))
    (hs : ∀ l k, ∃ vs, subscripted slice false (.ref l) (.ref k) = operate vs (getItem (.ref l) (.ref k)) := by intro _ _; exact ⟨_, by with_unfolding_all rfl⟩) : Op2 c n L (subscriptTail value slice) (.ref l) (.ref d) ρ H Q := by
  rintro _ _ rfl rfl A s hb S
  obtain ⟨us, q, h1, h2, h3⟩ := S.list hl
  obtain ⟨vl, vu, vs, g1, g2, g3, g4⟩ := S.objs d _ hd
  obtain ⟨ops, hops⟩ := hs l d
  refine PyProof.Rows.tail_any h1.isList.typeIs slot_list_getitem.lookup (wpAny_getItem_list_slice h1.isList ⟨_, g1, rfl, rfl⟩ g2 g3 g4 h0 ?_ (by rw [sizeLine_eq]; omega)) hops
  obtain ⟨z1, z2, z3⟩ := new_list S (hp us h2)
  rw [Array.toArray_toList] at z1 z2
  exact ⟨.ref _, ρ, _, rfl, z1, z2, h _ z3⟩
theorem pick_rev {xs : List MV} (us : Array Value) (h : RepL xs us.toList) : RepL xs.reverse (slicePick us none none (some (-1))).toList := by
  rw [krv_pick]; exact h.reverse
theorem pick_upto {xs : List MV} (b : Nat) (us : Array Value) (h : RepL xs us.toList) : RepL (xs.take b) (slicePick us none (some (b : Int)) none).toList := by
  rw [slicePick_upto']; exact h.take b
theorem pick_from {xs : List MV} (b : Nat) (us : Array Value) (h : RepL xs us.toList) : RepL (xs.drop b) (slicePick us (some (b : Int)) none none).toList := by
  rw [slicePick_from']; exact h.drop b
end
def dget (es : List (Int × MV)) (k : Int) : Option MV := match es with
  | [] => none
  | p :: r => if p.1 = k then some p.2 else dget r k
def dput (es : List (Int × MV)) (k : Int) (m : MV) : List (Int × MV) := if es.any (fun p => p.1 = k) then es.map (fun p => if p.1 = k then (p.1, m) else p) else es ++ [(k, m)]
def ddel (es : List (Int × MV)) (k : Int) : List (Int × MV) := es.filter fun p => decide (p.1 ≠ k)

theorem RepD.getSome : ∀ {es : List (Int × MV)} {kvs : List (Int × Value)} {k : Int} {m : MV}, RepD es kvs → dget es k = some m → ∃ v, valueAt kvs k = some v ∧ Rep m v
  | [], [], _, _, _, e => by cases e
  | p :: es, q :: kvs, k, m, h, e => by
    obtain ⟨h1, h2, h3⟩ := h
    unfold dget at e
    by_cases c : p.1 = k
    · rw [if_pos c] at e; cases e
      exact ⟨q.2, by simp [valueAt, ← h1, c], h2⟩
    · rw [if_neg c] at e
      obtain ⟨v, hv, r⟩ := RepD.getSome h3 e
      exact ⟨v, by simpa [valueAt, ← h1, c] using hv, r⟩
  | [], _ :: _, _, _, h, _ => h.elim
  | _ :: _, [], _, _, h, _ => h.elim
theorem RepD.getNone : ∀ {es : List (Int × MV)} {kvs : List (Int × Value)} {k : Int}, RepD es kvs → dget es k = none → valueAt kvs k = none
  | [], [], _, _, _ => rfl
  | p :: es, q :: kvs, k, h, e => by
    obtain ⟨h1, h2, h3⟩ := h
    unfold dget at e
    by_cases c : p.1 = k
    · rw [if_pos c] at e; cases e
    · rw [if_neg c] at e
      have hv := RepD.getNone h3 e
      simpa [valueAt, ← h1, c] using hv
  | [], _ :: _, _, h, _ => h.elim
  | _ :: _, [], _, h, _ => h.elim
theorem RepD.any : ∀ {es : List (Int × MV)} {kvs : List (Int × Value)} {k : Int}, RepD es kvs → es.any (fun p => p.1 = k) = kvs.any (fun p => p.1 = k)
  | [], [], _, _ => rfl
  | p :: es, q :: kvs, k, ⟨h1, h2, h3⟩ => by rw [List.any_cons, List.any_cons, h1, h3.any]
  | [], _ :: _, _, h => h.elim
  | _ :: _, [], _, h => h.elim
theorem RepD.snoc : ∀ {es : List (Int × MV)} {kvs : List (Int × Value)} {k : Int} {m : MV} {v : Value}, RepD es kvs → Rep m v → RepD (es ++ [(k, m)]) (kvs ++ [(k, v)])
  | [], [], _, _, _, _, r => ⟨rfl, r, trivial⟩
  | p :: es, q :: kvs, _, _, _, ⟨h1, h2, h3⟩, r => ⟨h1, h2, h3.snoc r⟩
  | [], _ :: _, _, _, _, h, _ => h.elim
  | _ :: _, [], _, _, _, h, _ => h.elim
theorem RepD.over : ∀ {es : List (Int × MV)} {kvs : List (Int × Value)} {k : Int} {m : MV} {v : Value}, RepD es kvs → Rep m v → RepD (es.map fun p => if p.1 = k then (p.1, m) else p) (kvs.map fun p => if p.1 = k then (p.1, v) else p)
  | [], [], _, _, _, _, r => trivial
  | p :: es, q :: kvs, k, m, v, ⟨h1, h2, h3⟩, r => by
    refine ⟨?_, ?_, h3.over r⟩ <;> by_cases c : p.1 = k
    · simp [c, ← h1]
    · simp [c, ← h1]
    · simpa [c, ← h1] using r
    · simpa [c, ← h1] using h2
  | [], _ :: _, _, _, _, h, _ => h.elim
  | _ :: _, [], _, _, _, h, _ => h.elim
theorem RepD.put {es : List (Int × MV)} {kvs : List (Int × Value)} {k : Int} {m : MV} {v : Value} (h : RepD es kvs) (r : Rep m v) : RepD (dput es k m) (stored kvs k v) := by
  unfold dput stored
  rw [h.any]
  split
  · exact h.over r
  · exact h.snoc r
theorem RepD.del : ∀ {es : List (Int × MV)} {kvs : List (Int × Value)} (k : Int), RepD es kvs → RepD (ddel es k) (without kvs k)
  | [], [], _, _ => trivial
  | p :: es, q :: kvs, k, ⟨h1, h2, h3⟩ => by
    have ih := h3.del k
    unfold ddel without at ih ⊢
    by_cases c : p.1 = k
    · simpa [c, ← h1] using ih
    · simp only [List.filter_cons, ← h1, ne_eq, c, not_false_eq_true, decide_true, if_true]
      exact ⟨h1, h2, by simpa using ih⟩
  | [], _ :: _, _, h => h.elim
  | _ :: _, [], _, h => h.elim
theorem RepD.length : ∀ {es : List (Int × MV)} {kvs : List (Int × Value)}, RepD es kvs → kvs.length = es.length
  | [], [], _ => rfl
  | _ :: _, _ :: _, h => congrArg (· + 1) h.2.2.length
  | [], _ :: _, h => h.elim
  | _ :: _, [], h => h.elim
theorem RepD.at : ∀ {es : List (Int × MV)} {kvs : List (Int × Value)} {i : Nat} {k : Int} {x : Value}, RepD es kvs → kvs[i]? = some (k, x) → (es.map (·.1))[i]? = some k
  | p :: es, q :: kvs, 0, k, x, h, e => by cases e; simp [h.1]
  | p :: es, q :: kvs, i + 1, k, x, h, e => by simpa using h.2.2.at (i := i) (x := x) (by simpa using e)
  | _, [], _, _, _, _, e => by cases e
  | [], _ :: _, _, _, _, h, _ => h.elim

section
variable {c : Cx} {n : Nat} {env : Env} {L : Addr} {ρ : Loc} {H : Hp} {Q : MV → Loc → Hp → Prop} {N : Loc → Hp → Prop} {R : MV → Loc → Hp → Prop} {B : Bool → Loc → Hp → Prop}

theorem Sat.dict {es : List (Int × MV)} {d : Addr} {s : Shared} (S : Sat c A L ρ H s) (hd : H d = some (.dict es)) : (d == sysModules) = false ∧ ∃ kvs, s.heap.DictOf (intKind c.prog c.w) d kvs ∧ RepD es kvs := S.objs d _ hd
theorem fp_dict {d : Addr} {es gs : List (Int × MV)} : ∀ b, InFp d (.dict gs) b ↔ InFp d (.dict es) b := fun _ => Iff.rfl

theorem t_dict (hc : c.Ok) {pos : Pos} (h : ∀ d, H d = none → Q (.ref d) ρ (hset H d (.dict []))) : TV c n L (eval (.Dict [] [] pos) env) ρ H Q := fun A s hb S => by
  refine PySem.wpAny_Dict_empty ?_
  have kk : ∀ b o, s.heap.get? b = some o → (s.heap.push { cls := .type "dict", data := .dict #[] }).get? b = some o := fun b o e => Heap.get?_push_of_some _ e
  have ha : ∀ x, InFp s.heap.objs.size (.dict []) x → s.heap.objs.size ≤ x := fun b hb => hb.elim (fun e => Nat.le_of_eq e.symm) fun e => e.elim
  have lo : (s.heap.objs.size == sysModules) = false := by
    have h1 := modules_low hc.T.nolimit
    have h2 := S.above
    have h3 := S.ltL
    exact beq_false_of_ne (Nat.ne_of_gt (Nat.lt_of_lt_of_le h1 (Nat.le_of_lt (Nat.lt_of_le_of_lt h2 h3))))
  exact ⟨.ref s.heap.objs.size, ρ, _, rfl, S.alloc (tk := s.toks) kk ha ⟨lo, [], Heap.DictOf.new _, trivial⟩, Stp.alloc (tk := s.toks) kk ha (by rw [Heap.size_push]; exact Nat.le_succ _), h _ (S.fresh (Nat.le_refl _))⟩
theorem o_ditem {d : Addr} {es : List (Int × MV)} {k : Int} {m : MV} {value slice : Expr} (hd : H d = some (.dict es)) (e : dget es k = some m) (h : Q m ρ H)
    (hs : ∀ l k u, subscripted slice false (.ref l) (.int k u) = operate [.ref l, .int k u] (getItem (.ref l) (.int k u)) := by intro _ _ _; with_unfolding_all rfl) : Op2 c n L (subscriptTail value slice) (.ref d) (.int k) ρ H Q := by
  rintro _ _ rfl ⟨u, rfl⟩ A s hb S
  obtain ⟨lo, kvs, hD, hr⟩ := S.dict hd
  obtain ⟨v, hv, r⟩ := hr.getSome e
  exact PyProof.Rows.tail_any hD.typeIs slot_dict_getitem.lookup (wpAny_getItem_of (intKind_is _ _ k u) hD.mapOf hv ⟨m, ρ, H, r, S.toks _, Stp.toks .., h⟩) (hs _ _ _)
theorem u_setDict {d : Addr} {es : List (Int × MV)} {k : Int} {m : MV} (hd : H d = some (.dict es)) (hz : es.length ≤ 100000) (h : N ρ (hset H d (.dict (dput es k m)))) :
    ∀ vd vk v, Rep (.ref d) vd → Rep (.int k) vk → Rep m v → TU c n L (setItem vd vk v) ρ H N := by
  rintro _ _ v rfl ⟨u, rfl⟩ rv A s hb S
  obtain ⟨lo, kvs, hD, hr⟩ := S.dict hd
  refine wpAny_setItem_pairs (intKind_is _ _ k u) hD (fun h' hD' hs => ?_) (by have := hr.length; rw [sizeLine_eq]; omega)
  exact ⟨(), ρ, _, trivial, S.turn hd (.inl rfl) hs.extBut fp_dict ⟨lo, _, hD', hr.put rv⟩, Stp.turn hd (.inl rfl) hs.extBut fp_dict (Nat.le_of_eq hs.1.symm), h⟩
theorem m_dict {d : Addr} {es : List (Int × MV)} {name : Str} {id : String} {pl : Sem Bool} {P : Value × List Value → Loc → Hp → Prop} (hd : H d = some (.dict es)) (slot : Slot "dict" name id) (hty : typeOf (.builtin id) = pure (.type "method_descriptor")) (h : P (.builtin id, [.ref d]) ρ H) :
    ∀ va, Rep (.ref d) va → TE c n L (fun (b : Value × List Value) v => b = v) (getMethod va name pl) ρ H P := by
  rintro _ rfl A s hb S
  obtain ⟨lo, kvs, hD, hr⟩ := S.dict hd
  obtain ⟨o, es', ep, ho, hx, _⟩ := _root_.id hD
  exact getMethod_builtin hD.typeIs PySem.F.plainAttrs_dict slot hty (fun a e => by cases e; exact ⟨o, ho, hx.2.1⟩) ⟨_, ρ, H, rfl, S, Stp.refl .., h⟩
theorem f_dget {d : Addr} {es : List (Int × MV)} {k : Int} {m : MV} (hd : H d = some (.dict es)) (h : Q ((dget es k).getD m) ρ H) : OpL c n L (fun vs => call (.builtin "dict.get") ([.ref d] ++ vs)) [.int k, m] ρ H Q := by
  intro vs r A s hb S
  match vs, r with
  | [_, v], ⟨⟨t, rfl⟩, r, _⟩ =>
    obtain ⟨lo, kvs, hD, hr⟩ := S.dict hd
    refine call_meetsIn PySem.F.slot_dict_get hD.typeIs PySem.F.entry_dict_get (PySem.F.args_dict_get_3 _ _ _) (meets_dict_get_default (intKind c.prog c.w) d (intKind_is _ _ k t) lo v) ⟨_, hD.mapOf, (dget es k).getD m, ρ, H, ?_, S.toks _, Stp.toks .., h⟩
    cases e : dget es k with
    | none => rw [hr.getNone e]; exact r
    | some m' => obtain ⟨v', hv, r'⟩ := hr.getSome e; rw [hv]; exact r'
theorem f_dpop {d : Addr} {es : List (Int × MV)} {k : Int} {m : MV} (hd : H d = some (.dict es)) (hz : es.length ≤ 100000) (e : dget es k = some m) (h : Q m ρ (hset H d (.dict (ddel es k)))) : OpL c n L (fun vs => call (.builtin "dict.pop") ([.ref d] ++ vs)) [.int k] ρ H Q := by
  intro vs r A s hb S
  match vs, r with
  | [_], ⟨⟨t, rfl⟩, _⟩ =>
    obtain ⟨lo, kvs, hD, hr⟩ := S.dict hd
    obtain ⟨v, hv, r⟩ := hr.getSome e
    refine call_meetsIn PySem.F.slot_dict_pop hD.typeIs PySem.F.entry_dict_pop (PySem.F.args_dict_pop_2 _ _) (meets_dict_pop_there (intKind c.prog c.w) d (intKind_is _ _ k t) [] (.inl rfl) rfl) ⟨kvs, v, hD, by have := hr.length; rw [sizeLine_eq]; omega, hv, fun h' hD' hs => ?_⟩
    exact ⟨m, ρ, _, r, S.turn hd (.inl rfl) hs.extBut fp_dict ⟨lo, _, hD', hr.del k⟩, Stp.turn hd (.inl rfl) hs.extBut fp_dict (Nat.le_of_eq hs.1.symm), h⟩

-- SORTED
theorem f_sorted {l : Addr} {ns : List Int} (hl : H l = some (.list (ns.map .int))) (hz : ns.length < 64) (h : ∀ (d : Addr) (ms : List Int), H d = none → ms.Perm ns → ms.Pairwise (· ≤ ·) → Q (.ref d) ρ (hset H d (.list (ms.map .int)))) : OpL c n L (fun vs => call (.builtin "sorted") vs) [.ref l] ρ H Q := by
  intro vs r A s hb S
  match vs, r with
  | [_], ⟨rfl, _⟩ =>
    obtain ⟨us, q, h1, h2, h3⟩ := S.list hl
    refine sorted_ints (vs := us.toList) (by simpa using h1.isList) h2.ints (by simpa [h3] using hz) fun out ms a1 a2 a3 => ?_
    obtain ⟨e, he⟩ := sortedAll_at s.heap us.toList out
    have kk : ∀ b o, s.heap.get? b = some o → (sortedAll s.heap us.toList out).get? b = some o := fun b o e => sortedAll_old e
    have ha : ∀ x, InFp (s.heap.objs.size + 1) (.list (ms.map .int)) x → s.heap.objs.size ≤ x := fun b hb => hb.elim (fun e => by rw [e]; exact Nat.le_succ _) fun e => e.elim
    exact ⟨.ref (s.heap.objs.size + 1), ρ, _, rfl, S.alloc (tk := s.toks) kk ha ⟨out, e, he, RepL.ofInts a1⟩, Stp.alloc (tk := s.toks) kk ha (Nat.le_of_lt (Nat.lt_of_succ_lt (Heap.lt_size he))), h _ _ (S.fresh (Nat.le_succ _)) a2 a3⟩
theorem int_of_kind {prog : Program} {w : World} {k : Int} {v : Value} (h : (intKind prog w).is k v = true) : ∃ t, v = .int k t := by
  cases v <;> simp [intKind, Value.isInt] at h
  subst h; exact ⟨_, rfl⟩
theorem intsAre_of : ∀ {ns : List Int} {vs : List Value}, vs.length = ns.length → (∀ (j : Nat) (v : Value), vs[j]? = some v → ∃ k t, ns[j]? = some k ∧ v = .int k t) → IntsAre vs ns
  | [], [], _, _ => .nil
  | n :: ns, v :: vs, hl, h => by
    obtain ⟨k, t, e, rfl⟩ := h 0 v rfl
    cases e
    exact .cons n t (intsAre_of (by simpa using hl) fun j v e => by simpa using h (j + 1) v (by simpa using e))
  | [], _ :: _, hl, _ => by simp at hl
  | _ :: _, [], hl, _ => by simp at hl
theorem f_sortedD {d : Addr} {es : List (Int × MV)} (hd : H d = some (.dict es)) (hz : es.length < 64) (h : ∀ (b : Addr) (ms : List Int), H b = none → ms.Perm (es.map (·.1)) → ms.Pairwise (· ≤ ·) → Q (.ref b) ρ (hset H b (.list (ms.map .int)))) : OpL c n L (fun vs => call (.builtin "sorted") vs) [.ref d] ρ H Q := by
  intro vs r A s hb S
  match vs, r with
  | [_], ⟨rfl, _⟩ =>
    obtain ⟨lo, kvs, hD, hr⟩ := S.dict hd
    obtain ⟨ep, hat⟩ := hD.dictAt
    have hn : kvs.length = es.length := hr.length
    refine call_function_entry kind_sorted plain_sorted entry_sorted (args_sorted1 _) ?_
    unfold Builtin.«sorted»
    refine wpAny_bind (m := checkCount "sorted" 1 1 _) (wpAny_pure ?_)
    refine wpAny_bind (kdu_collect (A := A.in1) (kdl_dict (knd := intKind c.prog c.w) (kvs := kvs) (ep := ep) lo) hb.1 hat (kdl_size (by omega)) fun h' tk acc hk hacc => ?_)
    have hl : acc.toList.length = kvs.length := by rw [Array.length_toList]; exact hacc.1
    have hI : IntsAre acc.toList (es.map (·.1)) := intsAre_of (by rw [hl, hn, List.length_map]) fun j v e => by
      obtain ⟨k, x, hx, hkk⟩ := hacc.2 j v (by rw [← Array.getElem?_toList]; exact e)
      obtain ⟨t, ev⟩ := int_of_kind hkk
      exact ⟨k, t, hr.at hx, ev⟩
    refine wpAny_bind (wpAny_newList ?_ (by rw [hl, sizeLine_eq]; omega))
    have S1 : Sat c A L ρ H { s with heap := h', toks := tk } := S.keeps hk
    have hoL : (h'.push (seqObj "list" acc.toList.toArray 0)).get? h'.objs.size = some (seqObj "list" acc.toList.toArray 0) := Heap.get?_push_size _ rfl
    show wpAny _ _ _ _ _ { s with heap := h'.push (seqObj "list" acc.toList.toArray 0), toks := tk }
    refine wpAny_bind (wpAny_holding (wpAny_call_entry slot_list_sort ⟨_, hoL, rfl⟩ entry_list_sort (list_sort_tree hoL hI (by omega) fun out ns' a1 a2 a3 => ⟨_, rfl, ?_⟩) (args_list_sort _)))
    obtain ⟨e, he⟩ := sortedHeap_at (out := out) hoL
    have kk : ∀ b o, h'.get? b = some o → (sortedHeap (h'.push (seqObj "list" acc.toList.toArray 0)) h'.objs.size acc.toList out).get? b = some o := fun b o e => by
      have hlt : b < h'.objs.size := Heap.lt_size e
      rw [sortedHeap_old (Nat.ne_of_lt hlt) (by rw [size_push']; exact Nat.lt_succ_of_lt hlt), Heap.get?_push_ne _ _ _ (Nat.ne_of_lt hlt)]
      exact e
    have ha : ∀ x, InFp h'.objs.size (.list (ns'.map .int)) x → h'.objs.size ≤ x := fun b hb => hb.elim (fun e => by rw [e]; exact Nat.le_refl _) fun e => e.elim
    have S2 := S1.alloc (tk := tk) kk ha ⟨out, e, he, RepL.ofInts a1⟩
    have st : Stp A L H { s with heap := h', toks := tk } (hset H h'.objs.size (.list (ns'.map .int))) { s with heap := sortedHeap (h'.push (seqObj "list" acc.toList.toArray 0)) h'.objs.size acc.toList out, toks := tk } := Stp.alloc (tk := tk) kk ha (Nat.le_of_lt (Heap.lt_size he))
    exact wpAny_pure ⟨_, rfl, .ref h'.objs.size, ρ, _, rfl, S2, (Stp.keeps A L H s hk).trans st, h _ _ (S1.fresh (Nat.le_refl _)) a2 a3⟩
end
def hdel (H : Hp) (a : Addr) : Hp := fun b => if b = a then none else H b
def hadd (H D : Hp) : Hp := fun a => match H a with
  | some o => some o
  | none => D a
def hone (a : Addr) (o : MObj) : Hp := fun b => if b = a then some o else none
theorem hadd_one {H : Hp} {a : Addr} {o : MObj} (h : H a = none) : hadd H (hone a o) = hset H a o := by
  funext b
  unfold hadd hone hset
  by_cases e : b = a
  · subst e; simp [h]
  · simp only [e, if_false]; cases H b <;> rfl
theorem hdel_set {H : Hp} {a : Addr} {o : MObj} (h : H a = none) : hdel (hset H a o) a = H := by
  funext b
  unfold hdel hset
  by_cases e : b = a
  · subst e; simp [h]
  · simp [e]
theorem hset_set {H : Hp} {a : Addr} {o o' : MObj} : hset (hset H a o) a o' = hset H a o' := by
  funext b
  unfold hset
  by_cases e : b = a <;> simp [e]
theorem hset_comm {H : Hp} {a b : Addr} {o o' : MObj} (h : a ≠ b) : hset (hset H a o) b o' = hset (hset H b o') a o := by
  funext x
  unfold hset
  by_cases e : x = a
  · subst e; simp [h]
  · simp [e]

section
variable {c : Cx} {L : Addr} {ρ ρ' : Loc} {H H' D : Hp} {s s' : Shared}

theorem Sat.drop (S : Sat c A L ρ H s) {a : Addr} {o : MObj} {h' : Heap} {tk : Nat} (hH : H a = some o) (k : Heap.ExtBut a s.heap h') :
    Sat c A L ρ (hdel H a) { s with heap := h', toks := tk } := by
  have sub : ∀ b ob, hdel H a b = some ob → b ≠ a ∧ H b = some ob := fun b ob e => by
    unfold hdel at e
    by_cases q : b = a
    · rw [if_pos q] at e; cases e
    · rw [if_neg q] at e; exact ⟨q, e⟩
  have htr : ∀ b, Tr (hdel H a) b → Tr H b := fun b ⟨x, ox, hx, hf⟩ => ⟨x, ox, (sub _ _ hx).2, hf⟩
  have haL : a ≠ L := S.neL hH
  obtain ⟨m, hn, hm⟩ := S.fr
  refine ⟨fun b ob e => k b ob (fun q => ?_) (S.base b ob e), S.above, ⟨m, hn.extBut k (Ne.symm haL), hm⟩, fun h => S.frL (htr _ h), fun b ob h => ?_, fun b h => S.new b (htr b h), fun b ob h y hy hne => ?_, S.gens, S.os, S.blw.step (fun F o e hn hd => ⟨o, k F o (fun q => hn (q ▸ Tr.self hH)) e, hd⟩) fun F h => .inl (htr F h)⟩
  · have := S.new a (Tr.self hH); rw [← q, e] at this; cases this
  · obtain ⟨q, hb2⟩ := sub _ _ h
    refine (S.objs b ob hb2).mono fun y oy hy ey => k y oy (fun z => ?_) ey
    have := S.sep b ob hb2 a (z ▸ hy) (fun z => q z.symm)
    rw [hH] at this; cases this
  · obtain ⟨q, hb2⟩ := sub _ _ h
    have := S.sep b ob hb2 y hy hne
    unfold hdel
    split
    · rfl
    · exact this
theorem Stp.drop {a : Addr} {o : MObj} {h' : Heap} {tk : Nat} (hH : H a = some o) (k : Heap.ExtBut a s.heap h') : Stp A L H s (hdel H a) { s with heap := h', toks := tk } := by
  refine ⟨fun b ob e hn _ => .of (k b ob (fun q => hn (q ▸ Tr.self hH)) e), fun b ⟨x, ox, hx, hf⟩ => .inl ⟨x, ox, ?_, hf⟩, fun hn e => alive (fun oy ey => k _ oy (fun q => hn (q ▸ Tr.self hH)) ey) e⟩
  unfold hdel at hx
  by_cases q : x = a
  · rw [if_pos q] at hx; cases hx
  · rw [if_neg q] at hx; exact hx

theorem hadd_l {a : Addr} {o : MObj} (h : H a = some o) : hadd H D a = some o := by simp [hadd, h]
theorem hadd_r {a : Addr} (h : H a = none) : hadd H D a = D a := by simp [hadd, h]
theorem hadd_cases {a : Addr} {o : MObj} (h : hadd H D a = some o) : H a = some o ∨ (H a = none ∧ D a = some o) := by
  unfold hadd at h
  cases e : H a with
  | some x => rw [e] at h; exact .inl h
  | none => rw [e] at h; exact .inr ⟨rfl, h⟩

/-- what is not named stays -/
theorem Sat.frame (Sx : Sat c A L ρ (hadd H D) s) (hd : ∀ a o, D a = some o → H a = none) (S' : Sat c A L ρ' H' s') (st : Stp A L H s H' s') :
    Sat c A L ρ' (hadd H' D) s' ∧ Stp A L (hadd H D) s (hadd H' D) s' ∧ ∀ a o, D a = some o → H' a = none := by
  have inl : ∀ b, Tr H b → Tr (hadd H D) b := fun b ⟨x, o, hx, hf⟩ => ⟨x, o, hadd_l hx, hf⟩
  have inr : ∀ a o, D a = some o → hadd H D a = some o := fun a o e => (hadd_r (hd a o e)).trans e
  have apart : ∀ a o b, D a = some o → InFp a o b → ¬ Tr H b := fun a o b e hb ⟨x, ox, hx, hf⟩ => by
    have hax : a ≠ x := fun q => by rw [← q, hd a o e] at hx; cases hx
    have e1 := inr a o e
    have e2 : hadd H D x = some ox := hadd_l hx
    by_cases q1 : b = a
    · subst q1
      have := Sx.sep x ox e2 b hf (fun z => hax z)
      rw [e1] at this; cases this
    · by_cases q2 : b = x
      · subst q2
        have := Sx.sep a o e1 b hb (fun z => hax z.symm)
        rw [e2] at this; cases this
      · rcases hb with hb | hb
        · exact q1 hb
        · rcases hf with hf | hf
          · exact q2 hf
          · cases o <;> first | exact hb.elim | skip
            cases ox <;> first | exact hf.elim | skip
            exact hax (hb.symm.trans hf)
  have live : ∀ a o b, D a = some o → InFp a o b → ∃ ob, s.heap.get? b = some ob := fun a o b e hb => (Sx.objs a o (inr a o e)).live hb
  have neL : ∀ a o b, D a = some o → InFp a o b → b ≠ L := fun a o b e hb q => Sx.frL (q ▸ ⟨a, o, inr a o e, hb⟩)
  have kept : ∀ a o b ob, D a = some o → InFp a o b → s.heap.get? b = some ob → s'.heap.get? b = some ob := fun a o b ob e hb q => (st.kp b ob q (apart a o b e hb) (neL a o b e hb)).1 fun hm => (Sx.blw.mem hm).2.1 ⟨a, o, inr a o e, hb⟩
  have apart' : ∀ a o b, D a = some o → InFp a o b → ¬ Tr H' b := fun a o b e hb ht => by
    rcases st.gr b ht with h | h
    · exact apart a o b e hb h
    · obtain ⟨ob, q⟩ := live a o b e hb
      rw [h] at q; cases q
  have dis : ∀ a o, D a = some o → H' a = none := fun a o e => by
    cases q : H' a with
    | none => rfl
    | some o' => exact absurd (Tr.self q) (apart' a o a e (.inl rfl))
  have trs : ∀ b, Tr (hadd H' D) b → Tr H' b ∨ ∃ a o, D a = some o ∧ InFp a o b := fun b ⟨x, o, hx, hf⟩ => by
    rcases hadd_cases hx with h | ⟨_, h⟩
    · exact .inl ⟨x, o, h, hf⟩
    · exact .inr ⟨x, o, h, hf⟩
  have gr : ∀ b, Tr (hadd H' D) b → Tr (hadd H D) b ∨ s.heap.get? b = none := fun b h => by
    rcases trs _ h with h | ⟨a, o, e, hf⟩
    · exact (st.gr b h).imp (inl b) id
    · exact .inl ⟨a, o, inr a o e, hf⟩
  refine ⟨⟨S'.base, S'.above, S'.fr, fun h => ?_, fun a o h => ?_, fun b h => ?_, fun a o h b hb hne => ?_, S'.gens, S'.os, Sx.blw.step (fun F o e hn hd => S'.fr.frame fun q => let ⟨sl, e'⟩ := (st.kp F o e (fun h => hn (inl F h)) q).2; ⟨_, e', hd⟩) gr⟩, ⟨fun a o e hn hL => st.kp a o e (fun h => hn (inl a h)) hL, gr, fun hn e => st.lv (fun h => hn (inl L h)) e⟩, dis⟩
  · rcases trs _ h with h | ⟨a, o, e, hf⟩
    · exact S'.frL h
    · exact neL a o L e hf rfl
  · rcases hadd_cases h with h | ⟨_, h⟩
    · exact S'.objs a o h
    · exact (Sx.objs a o (inr a o h)).mono fun b ob hb e => kept a o b ob h hb e
  · rcases trs _ h with h | ⟨a, o, e, hf⟩
    · exact S'.new b h
    · exact Sx.new b ⟨a, o, inr a o e, hf⟩
  · rcases hadd_cases h with h | ⟨_, h⟩
    · rw [hadd_r (S'.sep a o h b hb hne)]
      cases q : D b with
      | none => rfl
      | some ob => exact absurd ⟨a, o, h, hb⟩ (apart' b ob b q (.inl rfl))
    · have h1 : H' b = none := by
        cases q : H' b with
        | none => rfl
        | some ob => exact absurd (Tr.self q) (apart' a o b h hb)
      rw [hadd_r h1]
      have := Sx.sep a o (inr a o h) b hb hne
      cases q : D b with
      | none => rfl
      | some ob => rw [inr b ob q] at this; cases this
end

section
variable {c : Cx} {n : Nat} {env : Env} {L : Addr} {ρ : Loc} {H : Hp} {Q : MV → Loc → Hp → Prop} {N : Loc → Hp → Prop} {R : MV → Loc → Hp → Prop} {B : Bool → Loc → Hp → Prop}

theorem TE.frame {α β : Type} {rep : β → α → Prop} {t : Sem α} {P : β → Loc → Hp → Prop} (h : TE c n L rep t ρ H P) (D : Hp) (hd : ∀ a o, D a = some o → H a = none) :
    TE c n L rep t ρ (hadd H D) (fun b ρ' H'' => ∃ H', H'' = hadd H' D ∧ (∀ a o, D a = some o → H' a = none) ∧ P b ρ' H') := fun A s hb Sx => by
  have S : Sat c A L ρ H s := Sx.weak (fun _ _ e => e) fun a o e => hadd_l e
  refine wpAny_mono (h A s hb S) (fun v s' ⟨b, ρ', H', r, S', st, q⟩ => ?_) fun _ _ e => e
  obtain ⟨z1, z2, z3⟩ := Sx.frame hd S' st
  exact ⟨b, ρ', _, r, z1, z2, H', rfl, z3, q⟩
theorem TE.frame1 {α β : Type} {rep : β → α → Prop} {t : Sem α} {P : β → Loc → Hp → Prop} (h : TE c n L rep t ρ H P) {a : Addr} (o : MObj) (ha : H a = none) :
    TE c n L rep t ρ (hset H a o) (fun b ρ' H'' => ∃ H', H'' = hset H' a o ∧ H' a = none ∧ P b ρ' H') := by
  have := h.frame (hone a o) (fun x ox e => by unfold hone at e; split at e <;> rename_i q; exact q ▸ ha; cases e)
  rw [hadd_one ha] at this
  refine this.mono fun b ρ' H'' ⟨H', e, h1, h2⟩ => ?_
  have hn : H' a = none := h1 a o (by simp [hone])
  exact ⟨H', by rw [e, hadd_one hn], hn, h2⟩
/-- forget what was made on the way -/
theorem TE.forget {α β : Type} {rep : β → α → Prop} {t : Sem α} {P P' : β → Loc → Hp → Prop} (h : TE c n L rep t ρ H P)
    (k : ∀ b ρ' H', P b ρ' H' → ∃ ρ'' H'', (∀ x v, ρ'' x = some v → ρ' x = some v) ∧ (∀ a o, H'' a = some o → H' a = some o) ∧ P' b ρ'' H'') : TE c n L rep t ρ H P' := fun A s hb S =>
  wpAny_mono (h A s hb S) (fun v s' ⟨b, ρ', H', r, S', st, q⟩ => by
    obtain ⟨ρ'', H'', h1, h2, h3⟩ := k b ρ' H' q
    exact ⟨b, ρ'', H'', r, S'.weak h1 h2, st.weak' h2, h3⟩) fun _ _ e => e
theorem TE.from {α β : Type} {rep : β → α → Prop} {t : Sem α} {P : β → Loc → Hp → Prop} {ρ0 : Loc} {H0 : Hp} (h : TE c n L rep t ρ H P) (hρ : ∀ x v, ρ x = some v → ρ0 x = some v) (hH : ∀ a o, H a = some o → H0 a = some o) : TE c n L rep t ρ0 H0 P := fun A s hb S =>
  wpAny_mono (h A s hb (S.weak hρ hH)) (fun v s' ⟨b, ρ', H', r, S', st, q⟩ => ⟨b, ρ', H', r, S', ⟨fun a o e hn hL => st.kp a o e (fun ⟨x, ox, hx, hf⟩ => hn ⟨x, ox, hH _ _ hx, hf⟩) hL,
    fun a ht => (st.gr a ht).imp (fun ⟨x, ox, hx, hf⟩ => ⟨x, ox, hH _ _ hx, hf⟩) id, fun hn e => st.lv (fun ⟨x, ox, hx, hf⟩ => hn ⟨x, ox, hH _ _ hx, hf⟩) e⟩, q⟩) fun _ _ e => e
theorem TE.lift {α β : Type} {rep : β → α → Prop} {t : Sem α} {P : β → Loc → Hp → Prop} {n' : Nat} (h : TE c n L rep t ρ H P) (hn : n ≤ n') : TE c n' L rep t ρ H P := fun A s hb S => h A s (hb.mono hn) S

-- ANOTHER FRAME
theorem Blw.push {A A' : Around} {h : Heap} {l : List Env} {env : Env} {L' : Addr} (x : Blw c A H h) (hl : A.frames = some l) (hl' : A'.frames = some (env :: l)) (hk : env.scope.kind ≠ .module) (hf : env.frame = some L') (hb : c.h₀.get? L' = none) (hn : ¬ Tr H L')
    {o : Obj} (ho : h.get? L' = some o) (hd : ∀ vs, o.data ≠ .fields vs) : Blw c A' H h := by
  obtain ⟨l', e, hp⟩ := x
  rw [hl] at e; cases e
  refine ⟨_, hl', fun e he => ?_⟩
  rcases List.mem_cons.mp he with rfl | he
  · exact ⟨hk, L', o, hf, hb, hn, ho, hd⟩
  · exact hp e he
theorem frs_push {A A' : Around} {l : List Env} {env : Env} {L' : Addr} (hl : A.frames = some l) (hl' : A'.frames = some (env :: l)) (hf : env.frame = some L') : ∀ a ∈ frs A', a ∈ frs A ∨ a = L' := fun a ha => by
  unfold frs at ha ⊢
  rw [hl', Option.getD_some, List.filterMap_cons, hf] at ha
  rw [hl]
  rcases List.mem_cons.mp ha with h | h
  · exact .inr h
  · exact .inl h
theorem Sat.enter {A A' : Around} (S : Sat c A L ρ H s) {L' : Addr} {ρ' : Loc} {h1 : Heap} {tk : Nat} (k : ∀ b o, s.heap.get? b = some o → h1.get? b = some o) (hL : s.heap.objs.size ≤ L') (hf : FrAt h1 L' ρ') (hB : Blw c A' H h1) : Sat c A' L' ρ' H { s with heap := h1, toks := tk } :=
  have S1 := S.keeps (tk := tk) k
  ⟨S1.base, Nat.le_trans S.above (Nat.le_trans (Nat.le_of_lt S.ltL) hL), hf, fun h => absurd (S.lt h) (Nat.not_lt.mpr hL), S1.objs, S.new, S.sep, S.gens, S.os, hB⟩
theorem Sat.leave {A A' : Around} (S : Sat c A L ρ H s) {L' : Addr} {ρ'' : Loc} {H1 H' : Hp} {s1 s' : Shared} (k : ∀ b o, s.heap.get? b = some o → s1.heap.get? b = some o) (hL : s.heap.objs.size ≤ L') (S' : Sat c A' L' ρ'' H' s') (st : Stp A' L' H1 s1 H' s')
    (h1 : ∀ a, Tr H1 a → Tr H a ∨ s.heap.get? a = none) (hA : ∀ a ∈ frs A', a ∈ frs A ∨ a = L') : Sat c A L ρ H' s' ∧ Stp A L H s H' s' := by
  have hne : L ≠ L' := Nat.ne_of_lt (Nat.lt_of_lt_of_le S.ltL hL)
  have none_of : ∀ a, s1.heap.get? a = none → s.heap.get? a = none := fun a e => by
    cases q : s.heap.get? a with
    | none => rfl
    | some o => rw [k a o q] at e; cases e
  have gr : ∀ a, Tr H' a → Tr H a ∨ s.heap.get? a = none := fun a h => (st.gr a h).elim (h1 a) fun e => .inr (none_of a e)
  have kp : ∀ a o, s.heap.get? a = some o → ¬ Tr H a → Kept A a o s'.heap := fun a o e hn => by
    have haL : a ≠ L' := fun q => absurd (Heap.lt_size e) (by rw [q]; exact Nat.not_lt.mpr hL)
    obtain ⟨y1, y2⟩ := st.kp a o (k a o e) (fun ht => (h1 a ht).elim hn fun q => by rw [q] at e; cases e) haL
    exact ⟨fun hm => y1 fun hm' => (hA a hm').elim hm haL, y2⟩
  obtain ⟨m, hn, hm⟩ := S.fr
  obtain ⟨oL, es, ep, hoL, r⟩ := id hn
  obtain ⟨sl, eL⟩ := (kp L oL hoL S.frL).2
  refine ⟨⟨S'.base, S.above, ⟨m, ⟨_, es, ep, eL, r⟩, hm⟩, fun h => ?_, S'.objs, S'.new, S'.sep, S'.gens, S'.os, S.blw.step (fun F o e hn hd => let ⟨sl, e'⟩ := (kp F o e hn).2; ⟨_, e', hd⟩) gr⟩, ⟨fun a o e hn _ => kp a o e hn, gr, fun hn e => ?_⟩⟩
  · rcases gr L h with h | h
    · exact S.frL h
    · rw [h] at hoL; cases hoL
  · rw [eL]; exact Option.some_ne_none _
/-- an object that stands already is named -/
theorem Sat.add {A : Around} (S : Sat c A L ρ H s) {a : Addr} {o : MObj} (ho : ObjAt c s.heap a o) (hfp : ∀ b, InFp a o b → b = a) (hn : ¬ Tr H a) (hL : a ≠ L) (hb : c.h₀.get? a = none) (hfa : a ∉ frs A) : Sat c A L ρ (hset H a o) s := by
  refine ⟨S.base, S.above, S.fr, fun h => ?_, fun b ob h => ?_, fun b h => ?_, fun b ob h x hx hne => ?_, S.gens, S.os, ?_⟩
  · rcases tr_hset h with h | h
    · exact hL (hfp _ h).symm
    · exact S.frL h
  · by_cases e : b = a
    · subst e; rw [hset_eq] at h; cases h; exact ho
    · rw [hset_ne e] at h; exact S.objs b ob h
  · rcases tr_hset h with h | h
    · rw [hfp _ h]; exact hb
    · exact S.new b h
  · by_cases e : b = a
    · subst e; rw [hset_eq] at h; cases h
      exact absurd (hfp x hx) hne
    · rw [hset_ne e] at h
      have hxs := S.sep b ob h x hx hne
      by_cases ex : x = a
      · subst ex; exact absurd ⟨b, ob, h, hx⟩ hn
      · rw [hset_ne ex]; exact hxs
  · obtain ⟨l, hl, hp⟩ := S.blw
    refine ⟨l, hl, fun env he => ?_⟩
    obtain ⟨hk, F, o', h1, h2, h3, h4, h5⟩ := hp env he
    refine ⟨hk, F, o', h1, h2, fun ht => ?_, h4, h5⟩
    rcases tr_hset ht with q | q
    · refine hfa ?_
      rw [← hfp _ q]
      unfold frs; rw [hl]; exact List.mem_filterMap.mpr ⟨env, he, h1⟩
    · exact h3 q
/-- what is not named may turn -/
theorem Sat.but {A : Around} (S : Sat c A L ρ H s) {C : Addr} {h' : Heap} (hC : ¬ Tr H C) (hL : L ≠ C) (hb : c.h₀.get? C = none) (k : Heap.ExtBut C s.heap h') (hfC : C ∉ frs A) : Sat c A L ρ H { s with heap := h' } := by
  obtain ⟨m, hn, hm⟩ := S.fr
  refine ⟨fun b o e => k b o (fun q => by rw [q, hb] at e; cases e) (S.base b o e), S.above, ⟨m, hn.extBut k hL, hm⟩, S.frL, fun a o h => (S.objs a o h).mono fun b ob hb e => k b ob (fun q => hC (q ▸ ⟨a, o, h, hb⟩)) e, S.new, S.sep, S.gens, S.os, ?_⟩
  obtain ⟨l, hl, hp⟩ := S.blw
  refine ⟨l, hl, fun env he => ?_⟩
  obtain ⟨hk, F, o', h1, h2, h3, h4, h5⟩ := hp env he
  refine ⟨hk, F, o', h1, h2, h3, k F o' (fun q => hfC ?_) h4, h5⟩
  rw [← q]; unfold frs; rw [hl]; exact List.mem_filterMap.mpr ⟨env, he, h1⟩
end
theorem hset_ne' {H : Hp} {a l : Addr} {o x : MObj} (hn : H a = none) (hl : H l = some x) : hset H a o l = some x := by
  rw [hset_ne (fun e => by rw [e, hn] at hl; cases hl)]; exact hl

/-- what an iterator does -/
structure Iter (c : Cx) (it : Addr) (J : Nat → MObj) (xs : List MV) (ok : Hp → Prop) : Prop where
  mono : ∀ H a o, ok H → H a = none → ok (hset H a o)
  item : ∀ {A : Around} {L : Addr} {ρ : Loc} {H : Hp} {s : Shared} {E : Value → Shared → Prop} (i : Nat) (m : MV), A.handled = none → Sat c A L ρ (hset H it (J i)) s → H it = none → ok H → xs[i]? = some m →
    wpAny (model c.prog c.w) A (pyNext (.ref it)) (fun r s' => ∃ v, r = some v ∧ Rep m v ∧ Sat c A L ρ (hset H it (J (i + 1))) s' ∧ Stp A L (hset H it (J i)) s (hset H it (J (i + 1))) s') E s
  done : ∀ {A : Around} {L : Addr} {ρ : Loc} {H : Hp} {s : Shared} {E : Value → Shared → Prop}, A.handled = none → Sat c A L ρ (hset H it (J xs.length)) s → H it = none → ok H →
    wpAny (model c.prog c.w) A (pyNext (.ref it)) (fun r s' => r = none ∧ Sat c A L ρ H s' ∧ Stp A L (hset H it (J xs.length)) s H s') E s
  self : ∀ {A : Around} {L : Addr} {ρ : Loc} {H : Hp} {s : Shared} {E : Value → Shared → Prop} {Q : Value → Shared → Prop} (i : Nat), Sat c A L ρ (hset H it (J i)) s → Q (.ref it) s → wpAny (model c.prog c.w) A (pyIter (.ref it)) Q E s

/-- it begins -/
def Begins (c : Cx) (l : Addr) (J : Nat → MObj) (ρ : Loc) (H : Hp) : Prop := ∀ n L, TE c n L (fun (it : Addr) v => v = Value.ref it) (pyIter (.ref l)) ρ H fun it ρ' H' => ρ' = ρ ∧ H it = none ∧ H' = hset H it (J 0)

section
variable {c : Cx} {n : Nat} {env : Env} {L : Addr} {ρ : Loc} {H : Hp} {Q : MV → Loc → Hp → Prop} {N : Loc → Hp → Prop} {R : MV → Loc → Hp → Prop} {B : Bool → Loc → Hp → Prop}

theorem sameFp {a : Addr} {o o' : MObj} (h : ∀ b, InFp a o b ↔ b = a) (h' : ∀ b, InFp a o' b ↔ b = a) : ∀ b, InFp a o' b ↔ InFp a o b := fun b => (h' b).trans (h b).symm
theorem fp_li (a l : Addr) (i : Nat) : ∀ b, InFp a (.listIter l i) b ↔ b = a := fun b => ⟨fun h => h.elim id False.elim, .inl⟩
theorem fp_ti (a l : Addr) (i : Nat) : ∀ b, InFp a (.tupIter l i) b ↔ b = a := fun b => ⟨fun h => h.elim id False.elim, .inl⟩
theorem fp_ri (a : Addr) (x y : Int) : ∀ b, InFp a (.rangeIter x y) b ↔ b = a := fun b => ⟨fun h => h.elim id False.elim, .inl⟩

theorem begins_list {l : Addr} {xs : List MV} (hl : H l = some (.list xs)) : Begins c l (fun i => .listIter l i) ρ H := fun n L A s hb S => by
  obtain ⟨us, m, h1, h2, h3⟩ := S.list hl
  refine wpAny_pyIter_list h1.isList ?_
  have kk : ∀ b o, s.heap.get? b = some o → (s.heap.push { cls := .type "list_iterator", data := .fields #[.ref l, .int 0 0] }).get? b = some o := fun b o e => Heap.get?_push_of_some _ e
  have ha : ∀ x, InFp s.heap.objs.size (.listIter l 0) x → s.heap.objs.size ≤ x := fun b hb => Nat.le_of_eq ((fp_li _ _ _ b).mp hb).symm
  exact ⟨s.heap.objs.size, ρ, _, rfl, S.alloc (tk := s.toks) kk ha ⟨_, Heap.get?_push_size _ rfl, rfl, rfl⟩, Stp.alloc (tk := s.toks) kk ha (by rw [Heap.size_push]; exact Nat.le_succ _), rfl, S.fresh (Nat.le_refl _), rfl⟩
theorem iter_list {it l : Addr} {xs : List MV} : Iter c it (fun i => .listIter l i) xs (fun H => H l = some (.list xs)) where
  mono := fun H a o h hn => hset_ne' hn h
  item := fun {A L ρ H s E} i m hh S hn hl e => by
    have hl' := hset_ne' (o := .listIter l i) hn hl
    obtain ⟨us, q, h1, h2, h3⟩ := S.list hl'
    obtain ⟨v, hv, r⟩ := h2.get e
    refine wpAny_pyNext_list_item (S.objs it _ (hset_eq ..)) h1.isList (x := v) (by rw [← Array.getElem?_toList]; exact hv) fun h' hit hs => ?_
    have z1 := S.turn (tk := s.toks) (hset_eq H it (.listIter l i)) (.inl rfl) hs.extBut (sameFp (fp_li it l i) (fp_li it l (i + 1))) hit
    have z2 := Stp.turn (A := A) (L := L) (tk := s.toks) (hset_eq H it (.listIter l i)) (.inl rfl) hs.extBut (sameFp (fp_li it l i) (fp_li it l (i + 1))) (Nat.le_of_eq hs.1.symm)
    rw [hset_set] at z1 z2
    exact ⟨v, rfl, r, z1, z2⟩
  done := fun {A L ρ H s E} hh S hn hl => by
    have hl' := hset_ne' (o := .listIter l xs.length) hn hl
    obtain ⟨us, q, h1, h2, h3⟩ := S.list hl'
    refine wpAny_pyNext_list_end hh (S.objs it _ (hset_eq ..)) h1.isList (by rw [Array.getElem?_eq_none]; omega) fun h' hs => ?_
    have z1 := S.drop (tk := s.toks) (hset_eq H it (.listIter l xs.length)) hs
    have z2 := Stp.drop (A := A) (L := L) (tk := s.toks) (hset_eq H it (.listIter l xs.length)) hs
    rw [hdel_set hn] at z1 z2
    exact ⟨rfl, z1, z2⟩
  self := fun {A L ρ H s E Q} i S q => wpAny_pyIter_listiter (S.objs it _ (hset_eq ..)) q

theorem Sat.tuple {xs : List MV} {l : Addr} {s : Shared} (S : Sat c A L ρ H s) (hl : H l = some (.tuple xs)) : ∃ vs, s.heap.IsTuple l vs ∧ IsTup s.heap l vs ∧ RepL xs vs.toList ∧ vs.size = xs.length := by
  obtain ⟨vs, m, h1, h2⟩ := S.objs l _ hl
  exact ⟨vs, ⟨_, h1, rfl, m, rfl⟩, ⟨_, h1, rfl, m, rfl⟩, h2, by have := h2.length; simpa using this⟩
theorem begins_tuple {l : Addr} {xs : List MV} (hl : H l = some (.tuple xs)) : Begins c l (fun i => .tupIter l i) ρ H := fun n L A s hb S => by
  obtain ⟨us, h1, _, h2, h3⟩ := S.tuple hl
  refine wpAny_pyIter_tuple h1 ?_
  have kk : ∀ b o, s.heap.get? b = some o → (s.heap.push { cls := .type "tuple_iterator", data := .fields #[.ref l, .int 0 0] }).get? b = some o := fun b o e => Heap.get?_push_of_some _ e
  have ha : ∀ x, InFp s.heap.objs.size (.tupIter l 0) x → s.heap.objs.size ≤ x := fun b hb => Nat.le_of_eq ((fp_ti _ _ _ b).mp hb).symm
  exact ⟨s.heap.objs.size, ρ, _, rfl, S.alloc (tk := s.toks) kk ha ⟨_, Heap.get?_push_size _ rfl, rfl, rfl⟩, Stp.alloc (tk := s.toks) kk ha (by rw [Heap.size_push]; exact Nat.le_succ _), rfl, S.fresh (Nat.le_refl _), rfl⟩
theorem iter_tuple' {it l : Addr} {xs : List MV} : Iter c it (fun i => .tupIter l i) xs (fun H => H l = some (.tuple xs)) where
  mono := fun H a o h hn => hset_ne' hn h
  item := fun {A L ρ H s E} i m hh S hn hl e => by
    have hl' := hset_ne' (o := .tupIter l i) hn hl
    obtain ⟨us, h1, _, h2, h3⟩ := S.tuple hl'
    obtain ⟨v, hv, r⟩ := h2.get e
    refine wpAny_pyNext_tuple_item (S.objs it _ (hset_eq ..)) h1 (x := v) (by rw [← Array.getElem?_toList]; exact hv) fun h' hit hs => ?_
    have z1 := S.turn (tk := s.toks) (hset_eq H it (.tupIter l i)) (.inl rfl) hs.extBut (sameFp (fp_ti it l i) (fp_ti it l (i + 1))) hit
    have z2 := Stp.turn (A := A) (L := L) (tk := s.toks) (hset_eq H it (.tupIter l i)) (.inl rfl) hs.extBut (sameFp (fp_ti it l i) (fp_ti it l (i + 1))) (Nat.le_of_eq hs.1.symm)
    rw [hset_set] at z1 z2
    exact ⟨v, rfl, r, z1, z2⟩
  done := fun {A L ρ H s E} hh S hn hl => by
    have hl' := hset_ne' (o := .tupIter l xs.length) hn hl
    obtain ⟨us, h1, _, h2, h3⟩ := S.tuple hl'
    refine wpAny_pyNext_tuple_end hh (S.objs it _ (hset_eq ..)) h1 (by rw [Array.getElem?_eq_none]; omega) fun h' hs => ?_
    have z1 := S.drop (tk := s.toks) (hset_eq H it (.tupIter l xs.length)) hs
    have z2 := Stp.drop (A := A) (L := L) (tk := s.toks) (hset_eq H it (.tupIter l xs.length)) hs
    rw [hdel_set hn] at z1 z2
    exact ⟨rfl, z1, z2⟩
  self := fun {A L ρ H s E Q} i S q => wpAny_pyIter_tupleiter (S.objs it _ (hset_eq ..)) q

/-- 0, 1 .. k - 1 -/
def upTo (k : Nat) : List MV := (List.range k).map fun i => .int (i : Nat)
theorem upTo_get {k i : Nat} {m : MV} (h : (upTo k)[i]? = some m) : m = .int (i : Nat) ∧ i < k := by
  unfold upTo at h
  rw [List.getElem?_map] at h
  by_cases q : i < k
  · rw [List.getElem?_range q] at h; cases h; exact ⟨rfl, q⟩
  · rw [List.getElem?_eq_none (by simpa using q)] at h; cases h
theorem upTo_len (k : Nat) : (upTo k).length = k := by simp [upTo]
theorem range_size (k : Nat) : Builtin.Range.rangeSize 0 k 1 = k := by
  rw [rangeSize_one]; split <;> omega
theorem range_small {k : Nat} (h : k ≤ 100000) : Builtin.Range.small 0 (k : Int) 1 = true := small_one (by decide) (by decide) (by omega) (by omega)
theorem begins_range {l : Addr} {k : Nat} (hl : H l = some (.range k)) (hk : k ≤ 100000) : Begins c l (fun i => .rangeIter (i : Nat) ((k : Int) - (i : Nat))) ρ H := fun n L A s hb S => by
  obtain ⟨t, u, v, h1⟩ := S.objs l _ hl
  refine wpAny_pyIter_range h1 (range_small hk) ?_
  rw [range_size]
  have kk : ∀ b o, s.heap.get? b = some o → (s.heap.push { cls := .type "range_iterator", data := .fields #[rawInt 0, rawInt k, rawInt 1] }).get? b = some o := fun b o e => Heap.get?_push_of_some _ e
  have ha : ∀ x, InFp s.heap.objs.size (.rangeIter 0 k) x → s.heap.objs.size ≤ x := fun b hb => Nat.le_of_eq ((fp_ri _ _ _ b).mp hb).symm
  have e : (MObj.rangeIter ((0 : Nat) : Int) ((k : Int) - ((0 : Nat) : Int))) = .rangeIter 0 k := by simp
  refine ⟨s.heap.objs.size, ρ, _, rfl, S.alloc (tk := s.toks) (o := .rangeIter 0 k) kk ha (Heap.get?_push_size _ rfl), Stp.alloc (tk := s.toks) kk ha (by rw [Heap.size_push]; exact Nat.le_succ _), rfl, S.fresh (Nat.le_refl _), ?_⟩
  dsimp only
  rw [e]
theorem iter_range {it : Addr} {k : Nat} : Iter c it (fun i => .rangeIter (i : Nat) ((k : Int) - (i : Nat))) (upTo k) (fun H => True) where
  mono := fun H a o h hn => trivial
  item := fun {A L ρ H s E} i m hh S hn hl e => by
    obtain ⟨rfl, hi⟩ := upTo_get e
    refine wpAny_pyNext_range_item (S.objs it _ (hset_eq ..)) (by omega) fun h' hit hs => ?_
    have e1 : ((i : Nat) : Int) + 1 = ((i + 1 : Nat) : Int) := by push_cast; rfl
    have e2 : (k : Int) - (i : Nat) - 1 = (k : Int) - ((i + 1 : Nat) : Int) := by push_cast; omega
    rw [e1, e2] at hit
    have z1 := S.turn (tk := s.toks + 1) (hset_eq H it (.rangeIter (i : Nat) ((k : Int) - (i : Nat)))) (.inl rfl) hs.extBut (sameFp (fp_ri it _ _) (fp_ri it ((i + 1 : Nat) : Int) ((k : Int) - ((i + 1 : Nat) : Int)))) hit
    have z2 := Stp.turn (A := A) (L := L) (tk := s.toks + 1) (hset_eq H it (.rangeIter (i : Nat) ((k : Int) - (i : Nat)))) (.inl rfl) hs.extBut (sameFp (fp_ri it _ _) (fp_ri it ((i + 1 : Nat) : Int) ((k : Int) - ((i + 1 : Nat) : Int)))) (Nat.le_of_eq hs.1.symm)
    rw [hset_set] at z1 z2
    exact ⟨_, rfl, ⟨_, rfl⟩, z1, z2⟩
  done := fun {A L ρ H s E} hh S hn hl => by
    rw [upTo_len] at S ⊢
    refine wpAny_pyNext_range_end hh (S.objs it _ (hset_eq ..)) (by omega) fun h' hs => ?_
    have z1 := S.drop (tk := s.toks) (hset_eq H it (.rangeIter (k : Nat) ((k : Int) - (k : Nat)))) hs
    have z2 := Stp.drop (A := A) (L := L) (tk := s.toks) (hset_eq H it (.rangeIter (k : Nat) ((k : Int) - (k : Nat)))) hs
    rw [hdel_set hn] at z1 z2
    exact ⟨rfl, z1, z2⟩
  self := fun {A L ρ H s E Q} i S q => wpAny_pyIter_rangeiter (S.objs it _ (hset_eq ..)) q
theorem f_range {k : Nat} (h : ∀ d, H d = none → Q (.ref d) ρ (hset H d (.range k))) : OpL c n L (fun vs => call (.type "range") vs) [.int k] ρ H Q := by
  intro vs r A s hb S
  match vs, r with
  | [_], ⟨⟨t, rfl⟩, _⟩ =>
    refine call_range_1 ?_
    have kk : ∀ b o, s.heap.get? b = some o → (s.heap.push { cls := .type "range", data := .fields #[.int 0 s.toks, .int k t, .int 1 (s.toks + 1)] }).get? b = some o := fun b o e => Heap.get?_push_of_some _ e
    have ha : ∀ x, InFp s.heap.objs.size (.range k) x → s.heap.objs.size ≤ x := fun b hb => hb.elim (fun e => Nat.le_of_eq e.symm) fun e => e.elim
    exact ⟨.ref s.heap.objs.size, ρ, _, rfl, S.alloc kk ha ⟨_, _, _, Heap.get?_push_size _ rfl⟩, Stp.alloc kk ha (by rw [Heap.size_push]; exact Nat.le_succ _), h _ (S.fresh (Nat.le_refl _))⟩
theorem f_listRange {l : Addr} {k : Nat} (hl : H l = some (.range k)) (hk : k ≤ 100000) (h : ∀ d, H d = none → Q (.ref d) ρ (hset H d (.list (upTo k)))) : OpL c n L (fun vs => call (.type "list") vs) [.ref l] ρ H Q := by
  intro vs r A s hb S
  match vs, r with
  | [_], ⟨rfl, _⟩ =>
    obtain ⟨t, u, v, h1⟩ := S.objs l _ hl
    refine call_list_range (n := k) hb.1 h1 (range_small hk) (range_size k) (by omega) fun h' tk acc q kk hd hI => ?_
    have ha : ∀ x, InFp s.heap.objs.size (.list (upTo k)) x → s.heap.objs.size ≤ x := fun b hb => hb.elim (fun e => Nat.le_of_eq e.symm) fun e => e.elim
    refine ⟨.ref s.heap.objs.size, ρ, _, rfl, S.alloc kk ha ⟨acc, q, hd, RepL.iff.mpr ⟨by rw [Array.length_toList, hI.1, upTo_len], fun i m v e1 e2 => ?_⟩⟩, Stp.alloc kk ha (Nat.le_of_lt (Heap.lt_size hd)), h _ (S.fresh (Nat.le_refl _))⟩
    obtain ⟨rfl, hi⟩ := upTo_get e1
    obtain ⟨t, e⟩ := hI.2 i v (by rw [← Array.getElem?_toList]; exact e2)
    exact ⟨t, by rw [e]; simp⟩

-- TARGETS, STATEMENTS
theorem u_name {x : Str} {pos : Pos} {m : MV} (h : OpU1 c n L (storeName env x) m ρ H N) : OpU1 c n L (assign (.Name x pos) env) m ρ H N := fun va r A s hb S => PySem.wpAny_assign_Name (h va r A s hb S)
theorem u_sub {o i : Expr} {pos : Pos} {m : MV} (h : TV c n L (eval o env) ρ H fun a ρ1 H1 => TV c n L (eval i env) ρ1 H1 fun b ρ2 H2 => ∀ va vb v, Rep a va → Rep b vb → Rep m v → TU c n L (setItem va vb v) ρ2 H2 N) : OpU1 c n L (assign (.Subscript o i pos) env) m ρ H N := fun v r A s hb S => by
  rw [assign_Subscript]
  refine wpAny_bind (wpAny_holding (h.then hb S fun va a ρ1 H1 s1 ra S1 st1 h1 => wpAny_bind (wpAny_holding (h1.then hb S1 fun vb b ρ2 H2 s2 rb S2 st2 h2 => ?_))))
  refine wpAny_bind (wpAny_standAt (wpAny_bind (wpAny_holding ((h2 va vb v ra rb r).then hb S2 fun _ _ ρ3 H3 s3 _ S3 st3 q => ?_))))
  exact wpAny_release ⟨(), ρ3, H3, trivial, S3, (st1.trans st2).trans st3, q⟩
theorem u_attr {o : Expr} {attr : Str} {pos : Pos} {m : MV} (h : TV c n L (eval o env) ρ H fun a ρ1 H1 => OpU2 c n L (fun o v => setAttr o attr v) a m ρ1 H1 N) : OpU1 c n L (assign (.Attribute o attr pos) env) m ρ H N := fun v r A s hb S => by
  rw [PySem.assign_Attribute]
  refine wpAny_bind (wpAny_holding (h.then hb S fun va a ρ1 H1 s1 ra S1 st1 h1 => ?_))
  refine wpAny_bind (wpAny_standAt (wpAny_bind (wpAny_holding ((h1 va v ra r).then hb S1 fun _ _ ρ3 H3 s3 _ S3 st3 q => ?_))))
  exact wpAny_release ⟨(), ρ3, H3, trivial, S3, st1.trans st3, q⟩
theorem ts_expr {e : Expr} {pos : Pos} (h : TV c n L (eval e env) ρ H fun _ => N) (hi : interactive env = false := by rfl) (hs : swapsWith e none pos.line env = pure false := by rfl) : TS c n L (exec (.Expr e pos) env) ρ H N R := fun A s hb S =>
  wpAny_Expr_any (h.then hb S fun v m ρ1 H1 s1 r S1 st1 q => ⟨.next, ρ1, H1, rfl, S1, st1, q⟩) hi hs
theorem ts_attr {o value : Expr} {attr : Str} {pos' pos : Pos} (h : TV c n L (eval value env) ρ H fun m ρ1 H1 => TV c n L (eval o env) ρ1 H1 fun a ρ2 H2 => OpU2 c n L (fun o v => setAttr o attr v) a m ρ2 H2 N)
    (hs : swapsWith value (some (.Attribute o attr pos')) pos.line env = pure false := by rfl) : TS c n L (exec (.Assign [.Attribute o attr pos'] value pos) env) ρ H N R := fun A s hb S =>
  plainObj_wpAny_Assign_Attribute (h.then hb S fun v m ρ1 H1 s1 r S1 st1 h1 => h1.then hb S1 fun va a ρ2 H2 s2 ra S2 st2 h2 => (h2 va v ra r).then hb S2 fun _ _ ρ3 H3 s3 _ S3 st3 q => ⟨.next, ρ3, H3, rfl, S3, (st1.trans st2).trans st3, q⟩) hs
theorem ts_sub {o i value : Expr} {pos' pos : Pos} (h : TV c n L (eval value env) ρ H fun m ρ0 H0 => TV c n L (eval o env) ρ0 H0 fun a ρ1 H1 => TV c n L (eval i env) ρ1 H1 fun b ρ2 H2 => ∀ va vb v, Rep a va → Rep b vb → Rep m v → TU c n L (setItem va vb v) ρ2 H2 N)
    (hs : swapsWith value (some (.Subscript o i pos')) pos.line env = pure false := by rfl) : TS c n L (exec (.Assign [.Subscript o i pos'] value pos) env) ρ H N R := fun A s hb S =>
  PySem.wpAny_Assign_Subscript (h.then hb S fun v m ρ0 H0 s0 r S0 st0 h0 => h0.then hb S0 fun va a ρ1 H1 s1 ra S1 st1 h1 => h1.then hb S1 fun vb b ρ2 H2 s2 rb S2 st2 h2 => (h2 va vb v ra rb r).then hb S2 fun _ _ ρ3 H3 s3 _ S3 st3 q => ⟨.next, ρ3, H3, rfl, S3, ((st0.trans st1).trans st2).trans st3, q⟩) hs

/-- a, b = .. in whatever order -/
theorem ts_pair {e1 e2 value : Expr} {k : Nat} {tpos pos : Pos} (h : TV c n L (eval value env) ρ H fun m ρ1 H1 => ∃ t a b, m = .ref t ∧ H1 t = some (.tuple [a, b]) ∧ OpU1 c n L (assign e1 env) a ρ1 H1 fun ρ2 H2 => OpU1 c n L (assign e2 env) b ρ2 H2 N)
    (he : assignEach [e1, e2] env = [(false, assign e1 env), (false, assign e2 env)] := by rfl)
    (hs : swapsWithSole [.Tuple [e1, e2] k tpos] value pos.line env = pure false := by rfl) (hw : swappedStores [.Tuple [e1, e2] k tpos] value env = pure none := by rfl) :
    TS c n L (exec (.Assign [.Tuple [e1, e2] k tpos] value pos) env) ρ H N R := fun A s hb S => by
  refine Assign_Tuple (h.then hb S fun v m ρ1 H1 s1 r S1 st1 h1 => ?_) hs hw
  obtain ⟨t, a, b, rfl, ht, hq⟩ := h1
  cases r
  obtain ⟨us, g1, _, g2, g3⟩ := S1.tuple ht
  refine wpAny_assign_Tuple hb.1 g1 (by rw [he, g3]; rfl) (by rw [he]; rfl) fun h' hk => ?_
  have kk : ∀ b o, s1.heap.get? b = some o → h'.get? b = some o := fun b o e => hk b o (Nat.ne_of_lt (Heap.lt_size e)) e
  have S2 := S1.keeps (tk := s1.toks) kk
  have st2 := st1.trans (Stp.keeps A L H1 s1 (tk := s1.toks) kk)
  rw [he]
  match hus : us.toList, g2 with
  | [va, vb], ⟨ra, rb, _⟩ =>
    show wpAny _ _ (assignInOrder [assign e1 env, assign e2 env] [va, vb]) _ _ _
    unfold assignInOrder
    refine wpAny_bind (wpAny_holding ((hq va ra).then hb S2 fun _ _ ρ3 H3 s3 _ S3 st3 q => ?_))
    unfold assignInOrder
    refine wpAny_bind (wpAny_holding ((q vb rb).then hb S3 fun _ _ ρ4 H4 s4 _ S4 st4 q => ?_))
    exact wpAny_pure ⟨.next, ρ4, H4, rfl, S4, (st2.trans st3).trans st4, q⟩
theorem ts_pairS {e1 e2 value : Expr} {x y : Str} {k : Nat} {tpos pos : Pos} (h : TV c n L (eval value env) ρ H fun m ρ1 H1 => ∃ t a b, m = .ref t ∧ H1 t = some (.tuple [a, b]) ∧ OpU1 c n L (storeName env y) b ρ1 H1 fun ρ2 H2 => OpU1 c n L (storeName env x) a ρ2 H2 N)
    (hs : swapsWithSole [.Tuple [e1, e2] k tpos] value pos.line env = pure false := by rfl) (hw : swappedStores [.Tuple [e1, e2] k tpos] value env = pure (some [x, y]) := by rfl) :
    TS c n L (exec (.Assign [.Tuple [e1, e2] k tpos] value pos) env) ρ H N R := fun A s hb S => by
  refine Assign_Tuple_swapped (names := [x, y]) (h.then hb S fun v m ρ1 H1 s1 r S1 st1 h1 => ?_) hs hw
  obtain ⟨t, a, b, rfl, ht, hq⟩ := h1
  cases r
  obtain ⟨us, _, g1, g2, g3⟩ := S1.tuple ht
  have e2 : ([x, y] : List Str).length = us.size := by rw [g3]; rfl
  rw [e2]
  refine unpackItems_tuple hb.1 g1 fun h' hk => ?_
  have kk : ∀ b o, s1.heap.get? b = some o → h'.get? b = some o := fun b o e => hk b o (Nat.ne_of_lt (Heap.lt_size e)) e
  have S2 := S1.keeps (tk := s1.toks) kk
  have st2 := st1.trans (Stp.keeps A L H1 s1 (tk := s1.toks) kk)
  match hus : us.toList, g2 with
  | [va, vb], ⟨ra, rb, _⟩ =>
    show wpAny _ _ (assignInOrder [fun v => bindName env y v, fun v => bindName env x v] [vb, va]) _ _ _
    unfold assignInOrder
    refine wpAny_bind (wpAny_holding (bindName_ ((hq vb rb).then hb S2 fun _ _ ρ3 H3 s3 _ S3 st3 q => ?_)))
    unfold assignInOrder
    refine wpAny_bind (wpAny_holding (bindName_ ((q va ra).then hb S3 fun _ _ ρ4 H4 s4 _ S4 st4 q => ?_)))
    exact wpAny_pure ⟨.next, ρ4, H4, rfl, S4, (st2.trans st3).trans st4, q⟩

/-- for x in .. -/
theorem ts_for {x : Str} {px pos : Pos} {iter : Expr} {body : List Stmt}
    (h : TV c n L (eval iter env) ρ H fun v ρ1 H1 => ∃ (l : Addr) (J : Nat → MObj) (xs : List MV) (ok : Hp → Prop) (I : Nat → Loc → Hp → Prop), v = .ref l ∧ Begins c l J ρ1 H1 ∧ (∀ it, Iter c it J xs ok) ∧ I 0 ρ1 H1 ∧ (∀ i ρ2 H2, I i ρ2 H2 → ok H2) ∧
      (∀ i m ρ2 H2, xs[i]? = some m → I i ρ2 H2 → OpU1 c n L (storeName env x) m ρ2 H2 fun ρ3 H3 => TS c n L (execs body env) ρ3 H3 (I (i + 1)) R) ∧ (∀ ρ2 H2, I xs.length ρ2 H2 → N ρ2 H2))
    (hs : ∀ x, foldedSetIterable iter env x = pure x := by intro _; rfl) : TS c n L (exec (.For (.Name x px) iter body [] pos) env) ρ H N R := fun A s hb S => by
  refine wpAny_For (h.then hb S fun v m ρ1 H1 s1 r S1 st1 h1 => ?_) hs
  obtain ⟨l, J, xs, ok, I, rfl, hbeg, hit, h0, hok, turn, hend⟩ := h1
  cases r
  refine (hbeg n L).then hb S1 fun _ it ρ2 H2 s2 e S2 st2 hq => ?_
  obtain ⟨rfl, hn, rfl⟩ := hq
  subst e
  refine codeAny_forLoop (fun k s' => ∃ i ρ' H', k = xs.length - i ∧ i ≤ xs.length ∧ H' it = none ∧ Sat c A L ρ' (hset H' it (J i)) s' ∧ Stp A L H s (hset H' it (J i)) s' ∧ I i ρ' H') ?_ xs.length ⟨0, ρ2, H1, rfl, Nat.zero_le _, hn, S2, st1.trans st2, h0⟩
  rintro k s' ⟨i, ρ', H', rfl, hi, hn', S', st', hI⟩
  by_cases hlt : i < xs.length
  · obtain ⟨m, hm⟩ : ∃ m, xs[i]? = some m := ⟨xs[i], List.getElem?_eq_getElem hlt⟩
    refine wpAny_mono ((hit it).item i m hb.1 S' hn' (hok _ _ _ hI) hm) (fun r s3 hr => ?_) fun _ _ e => e
    obtain ⟨v, rfl, rv, S3, st3⟩ := hr
    refine PySem.wpAny_assign_Name (((turn i m ρ' H' hm hI v rv).frame1 (J (i + 1)) hn').then hb S3 fun _ _ ρ4 H4 s4 _ S4 st4 hq => ?_)
    obtain ⟨H5, rfl, hn5, hq⟩ := hq
    refine (hq.frame1 (J (i + 1)) hn5).then hb S4 fun _ f ρ6 H6 s6 e S6 st6 hq => ?_
    subst e
    obtain ⟨H7, rfl, hn7, hq⟩ := hq
    have stz := ((st'.trans st3).trans st4).trans st6
    cases f with
    | next => exact ⟨xs.length - (i + 1), by omega, i + 1, ρ6, H7, rfl, hlt, hn7, S6, stz, hq⟩
    | ret v =>
      have sub : ∀ a o, H7 a = some o → hset H7 it (J (i + 1)) a = some o := fun a o e => hset_ne' hn7 e
      exact ⟨.ret v, ρ6, H7, rfl, S6.weak (fun _ _ e => e) sub, stz.weak' sub, hq⟩
    | brk => exact hq.elim
    | cont => exact hq.elim
  · have hi' : i = xs.length := by omega
    subst hi'
    refine wpAny_mono ((hit it).done hb.1 S' hn' (hok _ _ _ hI)) (fun r s3 hr => ?_) fun _ _ e => e
    obtain ⟨rfl, S3, st3⟩ := hr
    exact wpAny_execs_nil ⟨.next, ρ', H', rfl, S3, st'.trans st3, hend _ _ hI⟩
end
def Sub (H H' : Hp) : Prop := ∀ a o, H a = some o → H' a = some o
theorem Sub.refl (H : Hp) : Sub H H := fun _ _ e => e

abbrev tests (ifs : List Expr) (env : Env) : Sem Bool := forIn ifs true fun c r => if r = true then do let ok ← isTrue c env (eval c env); pure (ForInStep.yield ok) else pure (ForInStep.yield r)

section
variable {c : Cx} {n : Nat} {env : Env} {L : Addr} {ρ : Loc} {H : Hp} {Q : MV → Loc → Hp → Prop} {N : Loc → Hp → Prop} {R : MV → Loc → Hp → Prop} {B : Bool → Loc → Hp → Prop}

theorem tb_none (h : B true ρ H) : TB c n L (tests [] env) ρ H B := fun A s hb S => wpAny_tests_nil ⟨true, ρ, H, rfl, S, Stp.refl .., h⟩
theorem tb_one {t : Expr} (h : TB c n L (isTrue t env (eval t env)) ρ H B) : TB c n L (tests [t] env) ρ H B := fun A s hb S => wpAny_tests_one (h A s hb S)

theorem t_comp {elt iter : Expr} {x : Str} {px : Pos} {ifs : List Expr} {scope : Scope} {pos : Pos} {cl : List (Str × Addr)}
    (h : TV c n L (eval iter env) ρ H fun v ρ1 H1 => ∃ (l : Addr) (J : Nat → MObj) (xs : List MV) (ok : Hp → Prop) (I : Nat → List MV → Hp → Prop), v = .ref l ∧ Begins c l J ρ1 H1 ∧ (∀ it, Iter c it J xs ok) ∧ xs.length ≤ 1000 ∧ I 0 [] H1 ∧ (∀ i acc H2, I i acc H2 → ok H2) ∧
      (∀ C i m acc H2, xs[i]? = some m → I i acc H2 → TB c n C (tests ifs (compEnvC scope cl C env)) (lset (fun _ => none) x m) H2 fun b ρ4 H4 => if b = true then TV c n C (eval elt (compEnvC scope cl C env)) ρ4 H4 (fun m' _ H5 => I (i + 1) (acc ++ [m']) H5) else I (i + 1) acc H4) ∧
      (∀ acc H2, I xs.length acc H2 → ∀ D, H2 D = none → Q (.ref D) ρ1 (hset H2 D (.list acc))))
    (hclos : closureFor scope env = pure cl) (hcell : ∀ y ∈ scope.names, y.2 ≠ .cell) (hkind : scope.kind = .function) (hnames : ∀ y ∈ scope.names, y.2 = .local → scope.names.lookup y.1 = some .local) (hx : scope.names.lookup x = some .local)
    (hs : ∀ x, foldedSetIterable iter env x = pure x := by intro _; rfl) : TV c n L (eval (.ListComp elt [⟨.Name x px, iter, ifs, 0⟩] scope pos) env) ρ H Q := fun A s hb S => by
  rw [eval_ListComp]
  refine wpAny_comprehension_free (use := none) rfl hs hclos hkind hnames (h.then hb S fun v m ρ1 H1 s1 r S1 st1 h1 => ?_)
  obtain ⟨l, J, xs, ok, I, rfl, hbeg, hit, hlen, h0, hok, turn, hend⟩ := h1
  cases r
  refine (hbeg n L).then hb S1 fun _ it ρ2 H2 s2 e S2 st2 hq => ?_
  obtain ⟨rfl, hn, rfl⟩ := hq
  subst e
  obtain ⟨S3, st3, hfD⟩ := new_list S2 (xs := []) (vs := []) trivial
  refine wpAny_newObj_type ?_
  generalize hD : s2.heap.objs.size = D at S3 st3 hfD ⊢
  generalize hs3 : ({ s2 with heap := s2.heap.push { cls := .type "list", data := .seq ([] : List Value).toArray } } : Shared) = s3 at S3 st3
  have hgo : wpAny (model c.prog c.w) A (newFunctionEnv scope env.globals cl [] env.qual none .none (some env)) (fun cenv s₄ =>
        codeAny (model c.prog c.w) A (.compStart (.ListComp elt [⟨.Name x px, iter, ifs, 0⟩] scope pos) 0 (.ref it) (.ref D) { cenv with scope := relabel scope env }) (compPost (model c.prog c.w) A (fun _ _ => False) none (fun v s' => ∃ b ρ' H', Rep b v ∧ Sat c A L ρ' H' s' ∧ Stp A L H s H' s' ∧ Q b ρ' H') (.ref D) cenv.locals) s₄) (fun _ _ => False) s3 := by
    refine wpAny_newFunctionEnv hcell (by intro y hy; simp at hy) (fun h₁ hns₁ hsb₁ => ?_) hkind
    generalize hC : s3.heap.objs.size = C at hns₁ hsb₁ ⊢
    have kk : ∀ b o, s3.heap.get? b = some o → h₁.get? b = some o := fun b o e => hsb₁.extBut b o (by rw [← hC]; exact Nat.ne_of_lt (Heap.lt_size e)) (Heap.get?_push_of_some _ e)
    have S4 := S3.enter (tk := s3.toks + ([] : List (Str × Value)).length) (ρ' := fun _ => none) kk (Nat.le_of_eq hC) ⟨_, hns₁, fun _ _ e => by cases e⟩ (S3.blw.keeps kk)
    generalize hs4 : ({ s3 with heap := h₁, toks := s3.toks + ([] : List (Str × Value)).length } : Shared) = s4 at S4
    have kk4 : ∀ b o, s3.heap.get? b = some o → s4.heap.get? b = some o := fun b o e => by rw [← hs4]; exact kk b o e
    have hb4 : c.h₀.get? C = none := S4.baseL
    have loop : codeAny (model c.prog c.w) A (.compLoop (.ListComp elt [⟨.Name x px, iter, ifs, 0⟩] scope pos) 0 (.ref it) (.ref D) (compEnvC scope cl C env)) (compPost (model c.prog c.w) A (fun _ _ => False) none (fun v s' => ∃ b ρ' H', Rep b v ∧ Sat c A L ρ' H' s' ∧ Stp A L H s H' s' ∧ Q b ρ' H') (.ref D) C) s4 := by
      refine codeAny_compLoop_tests (fun k s' => ∃ i acc H', k = xs.length - i ∧ i ≤ xs.length ∧ acc.length ≤ i ∧ H' it = none ∧ H' D = none ∧ it ≠ D ∧ Sat c A C (fun _ => none) (hset (hset H' it (J i)) D (.list acc)) s' ∧ Stp A C (hset (hset H1 it (J 0)) D (.list [])) s4 (hset (hset H' it (J i)) D (.list acc)) s' ∧ I i acc H') ?_ xs.length
        ⟨0, [], H1, rfl, Nat.zero_le _, Nat.le_refl _, hn, ?_, ?_, S4, Stp.refl .., h0⟩
      · rintro k s' ⟨i, acc, H', rfl, hi, hacc, hn1, hn2, hne, S', st', hI⟩
        have swap : ∀ (H : Hp) (o o' : MObj), hset (hset H it o) D o' = hset (hset H D o') it o := fun H o o' => hset_comm hne
        have hn3 : ∀ o', (hset H' D o') it = none := fun o' => by rw [hset_ne hne]; exact hn1
        have ok' : ok (hset H' D (.list acc)) := (hit it).mono _ _ _ (hok _ _ _ hI) hn2
        have S'' := S'
        rw [swap] at S''
        by_cases hlt : i < xs.length
        · obtain ⟨m, hm⟩ : ∃ m, xs[i]? = some m := ⟨xs[i], List.getElem?_eq_getElem hlt⟩
          refine wpAny_mono ((hit it).item i m hb.1 S'' (hn3 _) ok' hm) (fun r s5 hr => ?_) fun _ _ e => e
          obtain ⟨v, rfl, rv, S5, st5⟩ := hr
          rw [← swap, ← swap] at st5
          rw [← swap] at S5
          have hst : TU c n C (storeName (compEnvC scope cl C env) x v) (fun _ => none) (hset (hset H' it (J (i + 1))) D (.list acc)) fun ρ' H'' => ρ' = lset (fun _ => none) x m ∧ H'' = hset (hset H' it (J (i + 1))) D (.list acc) :=
            tu_store (env := compEnvC scope cl C env) rfl (lookup_relabel_local hx) (by simp [compEnvC, relabel, hkind]) ⟨rfl, rfl⟩ v rv
          refine PySem.wpAny_assign_Name (hst.then hb S5 fun _ _ ρ6 H6 s6 _ S6 st6 hq => ?_)
          obtain ⟨rfl, rfl⟩ := hq
          have ht := turn C i m acc H' hm hI
          have hn2' : (hset H' it (J (i + 1))) D = none := by rw [hset_ne (Ne.symm hne)]; exact hn2
          refine ((ht.frame1 (J (i + 1)) hn1).frame1 (.list acc) hn2').then hb S6 fun v7 b ρ7 H7 s7 e S7 st7 hq => ?_
          subst e
          obtain ⟨H8, rfl, hn8, H9, rfl, hn9, hq⟩ := hq
          have hn8' : H9 D = none := by rw [hset_ne (Ne.symm hne)] at hn8; exact hn8
          have stz := ((st'.trans st5).trans st6).trans st7
          cases b with
          | false =>
            simp only [Bool.false_eq_true, if_false] at hq ⊢
            exact ⟨xs.length - (i + 1), by omega, i + 1, acc, H9, rfl, hlt, by omega, hn9, hn8', hne, S7.weak (fun _ _ e => by cases e) fun _ _ e => e, stz, hq⟩
          | true =>
            simp only [if_true] at hq ⊢
            refine ((hq.frame1 (J (i + 1)) hn9).frame1 (.list acc) hn8).then hb S7 fun vx m' ρx Hx sx rx Sx stx hq => ?_
            obtain ⟨Hy, rfl, hny, Hw, rfl, hnw, hq⟩ := hq
            have hny' : Hw D = none := by rw [hset_ne (Ne.symm hne)] at hny; exact hny
            have happ := f_append (c := c) (n := n) (L := C) (ρ := ρx) (H := hset (hset Hw it (J (i + 1))) D (.list acc)) (l := D) (xs := acc) (m := m') (Q := fun _ ρ' H' => ρ' = ρx ∧ H' = hset (hset Hw it (J (i + 1))) D (.list (acc ++ [m']))) (hset_eq ..) (by omega) ⟨rfl, hset_set⟩ [vx] ⟨rx, trivial⟩
            refine happ.then hb Sx fun _ _ ρz Hz sz _ Sz stz2 hq2 => ?_
            obtain ⟨rfl, rfl⟩ := hq2
            exact ⟨xs.length - (i + 1), by omega, i + 1, acc ++ [m'], Hw, rfl, hlt, by simp; omega, hnw, hny', hne, Sz.weak (fun _ _ e => by cases e) fun _ _ e => e, (stz.trans stx).trans stz2, hq⟩
        · have hi' : i = xs.length := by omega
          subst hi'
          refine wpAny_mono ((hit it).done hb.1 S'' (hn3 _) ok') (fun r s5 hr => ?_) fun _ _ e => e
          obtain ⟨rfl, S5, st5⟩ := hr
          rw [← swap] at st5
          have st6 := st'.trans st5
          obtain ⟨m5, hn5, _⟩ := S5.fr
          refine ⟨m5, hn5, fun h' hsb => ?_⟩
          obtain ⟨S7, st7⟩ := S3.leave kk4 (Nat.le_of_eq hC) S5 st6 (fun a h => .inl h) fun a h => .inl h
          have hCn : s3.heap.get? C = none := Heap.get?_none_of_le (Nat.le_of_eq hC)
          have hLC : L ≠ C := by rw [← hC]; exact Nat.ne_of_lt S3.ltL
          have hCt : ¬ Tr (hset H' D (.list acc)) C := S5.frL
          have S8 := S7.but hCt hLC hb4 hsb.extBut fun hm => by obtain ⟨_, _, o, e, _⟩ := S3.blw.mem hm; rw [hCn] at e; cases e
          have st8 : Stp A L (hset (hset H1 it (J 0)) D (.list [])) s3 (hset H' D (.list acc)) { s5 with heap := h' } :=
            ⟨fun a o e hn hL => (st7.kp a o e hn hL).trans fun o' e' => .of (hsb.extBut a o' (fun q => by rw [q, hCn] at e; cases e) e'), st7.gr, fun hn e => alive (fun o e' => hsb.extBut L o hLC e') (st7.lv hn e)⟩
          exact ⟨.ref D, ρ2, _, rfl, S8, ((st1.trans st2).trans st3).trans st8, hend _ _ hI D hn2⟩
      · by_cases q : D = it
        · rw [q] at hfD; rw [hset_eq] at hfD; cases hfD
        · rw [hset_ne q] at hfD; exact hfD
      · intro q; rw [q, hset_eq] at hfD; cases hfD
    refine codeAny_compStart_list loop ?_
    refine (hit it).self 0 (S4.weak (H' := hset H1 it (J 0)) (fun _ _ e => e) fun a o e => ?_) loop
    rw [hset_ne (fun q => by rw [q, hfD] at e; cases e)]; exact e
  exact hgo
end
/-- parameters bound to what is handed in -/
def locOf : List (Str × MV) → Loc
  | [], _ => none
  | p :: r, y => if p.1 = y then some p.2 else locOf r y

def Binds (binds : List (Str × Value)) (ps : List (Str × MV)) : Prop := match binds, ps with
  | [], [] => True
  | b :: bs, p :: r => b.1 = p.1 ∧ Rep p.2 b.2 ∧ Binds bs r
  | _, _ => False
theorem Binds.lookup : ∀ {binds : List (Str × Value)} {ps : List (Str × MV)} {x : Str} {m : MV}, Binds binds ps → locOf ps x = some m → ∃ u, binds.lookup x = some u ∧ Rep m u
  | [], [], _, _, _, e => by cases e
  | b :: bs, p :: r, x, m, ⟨h1, h2, h3⟩, e => by
    unfold locOf at e
    by_cases q : p.1 = x
    · rw [if_pos q] at e; cases e
      exact ⟨b.2, by rw [List.lookup_cons, h1, q, beq_self_eq_true], h2⟩
    · rw [if_neg q] at e
      obtain ⟨u, hu, r⟩ := h3.lookup e
      exact ⟨u, by rw [List.lookup_cons, h1, beq_false_of_ne (Ne.symm q)]; exact hu, r⟩
  | [], _ :: _, _, _, h, _ => h.elim
  | _ :: _, [], _, _, h, _ => h.elim
theorem Binds.snoc : ∀ {binds : List (Str × Value)} {ps : List (Str × MV)} {b : Str × Value} {p : Str × MV}, Binds binds ps → b.1 = p.1 → Rep p.2 b.2 → Binds (binds ++ [b]) (ps ++ [p])
  | [], [], _, _, _, h1, h2 => ⟨h1, h2, trivial⟩
  | _ :: _, _ :: _, _, _, h, h1, h2 => ⟨h.1, h.2.1, h.2.2.snoc h1 h2⟩
  | [], _ :: _, _, _, h, _, _ => h.elim
  | _ :: _, [], _, _, h, _, _ => h.elim
theorem Binds.reverse : ∀ {binds : List (Str × Value)} {ps : List (Str × MV)}, Binds binds ps → Binds binds.reverse ps.reverse
  | [], [], _ => trivial
  | _ :: _, _ :: _, h => by rw [List.reverse_cons, List.reverse_cons]; exact h.2.2.reverse.snoc h.1 h.2.1
  | [], _ :: _, h => h.elim
  | _ :: _, [], h => h.elim
theorem Binds.zip : ∀ {xs : List Str} {as : List MV} {vs : List Value}, RepL as vs → Binds (xs.zip vs) (xs.zip as)
  | [], _, _, _ => by simp [Binds]
  | _ :: _, [], [], _ => by simp [Binds]
  | _ :: _, _ :: _, _ :: _, h => ⟨rfl, h.1, Binds.zip h.2⟩
  | _, [], _ :: _, h => h.elim
  | _, _ :: _, [], h => h.elim
/-- the first of two alike names does not matter where names are apart -/
theorem Binds.names : ∀ {binds : List (Str × Value)} {ps : List (Str × MV)}, Binds binds ps → binds.map (·.1) = ps.map (·.1)
  | [], [], _ => rfl
  | _ :: _, _ :: _, h => by rw [List.map_cons, List.map_cons, h.1, h.2.2.names]
  | [], _ :: _, h => h.elim
  | _ :: _, [], h => h.elim

/-- what a call of a def binds: the parameters' names with what stands there -/
theorem nl_add (n k : Nat) : ¬ n + k < n := Nat.not_lt.mpr (Nat.le_add_right n k)
theorem ne_add (n k : Nat) (h : 0 < k) : n + k ≠ n := by omega
theorem ne_add' (n : Nat) : n + 1 + 1 ≠ n + 1 := by omega
def flv : Flow → Value
  | .ret v => v
  | _ => .none
def BindsOk (c : Cx) (fd : FuncData) (as : List MV) (ps : List (Str × MV)) : Prop := ∀ vs, RepL as vs → ∃ binds, (∀ s : Shared, c.K.In s.heap → BindsTo s fd ⟨vs, []⟩ binds) ∧ Binds binds ps

section
variable {c : Cx} {n : Nat} {env : Env} {L : Addr} {ρ : Loc} {H : Hp} {Q : MV → Loc → Hp → Prop}

theorem binds1 {fd : FuncData} {x : Str} {a : MV} (h : ∀ v, bindArgs fd ⟨[v], []⟩ = pure [(x, v)]) : BindsOk c fd [a] [(x, a)]
  | [v], ⟨r, _⟩ => ⟨[(x, v)], fun _ _ => .of_eq (h v), rfl, r, trivial⟩
theorem binds2 {fd : FuncData} {x y : Str} {a b : MV} (h : ∀ v w, bindArgs fd ⟨[v, w], []⟩ = pure [(x, v), (y, w)]) : BindsOk c fd [a, b] [(x, a), (y, b)]
  | [v, w], ⟨r, r2, _⟩ => ⟨[(x, v), (y, w)], fun _ _ => .of_eq (h v w), rfl, r, rfl, r2, trivial⟩
theorem binds3 {fd : FuncData} {x y z : Str} {a b d : MV} (h : ∀ v w u, bindArgs fd ⟨[v, w, u], []⟩ = pure [(x, v), (y, w), (z, u)]) : BindsOk c fd [a, b, d] [(x, a), (y, b), (z, d)]
  | [v, w, u], ⟨r, r2, r3, _⟩ => ⟨[(x, v), (y, w), (z, u)], fun _ _ => .of_eq (h v w u), rfl, r, rfl, r2, rfl, r3, trivial⟩
theorem binds4 {fd : FuncData} {x y z t : Str} {a b d e : MV} (h : ∀ v w u q, bindArgs fd ⟨[v, w, u, q], []⟩ = pure [(x, v), (y, w), (z, u), (t, q)]) : BindsOk c fd [a, b, d, e] [(x, a), (y, b), (z, d), (t, e)]
  | [v, w, u, q], ⟨r, r2, r3, r4, _⟩ => ⟨[(x, v), (y, w), (z, u), (t, q)], fun _ _ => .of_eq (h v w u q), rfl, r, rfl, r2, rfl, r3, rfl, r4, trivial⟩

variable {name qual : Str} {params : Arguments} {body : List Stmt} {scope : Scope} {dV kV doc pm cdv ct oc : Value} {an od : Option Addr} {osl : Array (Option Value)} {f : Addr} {as : List MV} {ps : List (Str × MV)}

theorem Sat.around {A A' : Around} {s : Shared} (S : Sat c A L ρ H s) (e : A'.frames = A.frames) : Sat c A' L ρ H s :=
  ⟨S.base, S.above, S.fr, S.frL, S.objs, S.new, S.sep, S.gens, S.os, by unfold Blw; rw [e]; exact S.blw⟩
theorem Stp.around {A A' : Around} {s s' : Shared} {H' : Hp} (x : Stp A L H s H' s') (e : A'.frames = A.frames) : Stp A' L H s H' s' :=
  ⟨fun a o h1 h2 h3 => by have := x.kp a o h1 h2 h3; unfold Kept frs at this ⊢; rw [e]; exact this, x.gr, x.lv⟩
theorem enter_raw (hc : c.Ok) (ho : c.K.lookup f = some ⟨oc, od, .func (fnOf name qual params body scope dV kV doc pm an cdv ct), osl⟩) (hcd : codeIn c.K cdv qual = true)
    (hb : BindsOk c (fnOf name qual params body scope dV kV doc pm an cdv ct) as ps) (hloc : ∀ y ∈ ps, scope.names.lookup y.1 = some .local)
    (hco : scope.isCoroutine = false) (hgen : scope.isGenerator = false) (hk : scope.kind = .function) (hcell : ∀ x ∈ scope.names, x.2 ≠ .cell)
    {A : Around} {s : Shared} {vs : List Value} {R : Result → Shared → Prop} (hA : A.depth < recursionLimit) (S : Sat c A L ρ H s) (r : RepL as vs)
    (h : ∀ L' h₁ tk, s.heap.objs.size ≤ L' → (∀ b o, s.heap.get? b = some o → h₁.get? b = some o) → Sat c (A.deeper (envOf qual scope L' f cdv)) L' (locOf ps.reverse) H { s with heap := h₁, toks := tk } →
      (∀ a ∈ frs (A.deeper (envOf qual scope L' f cdv)), a ∈ frs A ∨ a = L') →
      wpAny (model c.prog c.w) (A.deeper (envOf qual scope L' f cdv)) (execs body (envOf qual scope L' f cdv)) (fun fl s' => R (.ok (.ret (match fl with | .ret v => v | _ => .none))) s')
        (fun e s' => wpAny (model c.prog c.w) (A.deeper (envOf qual scope L' f cdv)) (leaving (envOf qual scope L' f cdv) e) (fun _ s'' => R (.error e) s'') (fun e' s'' => R (.error e') s'') s')
        { s with heap := h₁, toks := tk }) :
    codeAny (model c.prog c.w) A (.call (.ref f) ⟨vs, []⟩) R s := by
  obtain ⟨binds, hbt, hbs⟩ := hb vs r
  have X := S.inK hc
  have hloc' : ∀ y ∈ binds, scope.names.lookup y.1 = some .local := fun y hy => by
    have : y.1 ∈ binds.map (·.1) := List.mem_map_of_mem hy
    rw [hbs.names] at this
    obtain ⟨p, hp, e⟩ := List.mem_map.mp this
    rw [← e]; exact hloc p hp
  refine codeAny_call_def (fd := fnOf name qual params body scope dV kV doc pm an cdv ct) (body := body) (binds := binds) hA (X _ _ ho) rfl (hc.T.nolimit.keeps S.base) (codeRec_of X hcd) rfl (hbt s X) hcell hloc' (fun h₁ hns hkp => ?_) hco hgen hk
  obtain ⟨l, hl, _⟩ := id S.blw
  have hl' := Around.frames_deeper (env := envOf qual scope s.heap.objs.size f cdv) hl
  have hfr : FrAt h₁ s.heap.objs.size (locOf ps.reverse) := ⟨_, hns, fun x m e => hbs.reverse.lookup e⟩
  obtain ⟨o, es, ep, e1, e2, _⟩ := id hns
  have hB : Blw c (A.deeper (envOf qual scope s.heap.objs.size f cdv)) H h₁ := (S.blw.keeps hkp).push hl hl' (by show scope.kind ≠ .module; rw [hk]; decide) rfl (S.baseNone (Nat.le_refl _)) (fun ht => absurd (S.lt ht) (Nat.lt_irrefl _)) e1 fun vs e => by rw [e2] at e; cases e
  exact h s.heap.objs.size h₁ _ (Nat.le_refl _) hkp (S.enter hkp (Nat.le_refl _) hfr hB) (frs_push hl hl' rfl)

/-- one cell among the names -/
theorem enter_rawC (hc : c.Ok) (ho : c.K.lookup f = some ⟨oc, od, .func (fnOf name qual params body scope dV kV doc pm an cdv ct), osl⟩) (hcd : codeIn c.K cdv qual = true) {x : Str} {v : Option MV} {ρ₁ : Loc}
    (hb : ∀ vs, RepL as vs → ∃ binds, bindArgs (fnOf name qual params body scope dV kV doc pm an cdv ct) ⟨vs, []⟩ = pure binds ∧ (∀ y ∈ binds, scope.names.lookup y.1 = some .local ∨ (scope.names.lookup y.1 = some .cell ∧ y.1 = x)) ∧
      (∀ y m, ρ₁ y = some m → ∃ u, bindL (fun y => scope.names.lookup y) binds (fun _ => none) y = some u ∧ Rep m u) ∧ RepO v (bindC (fun y => scope.names.lookup y) binds (fun _ => none) x))
    (hcs : ∀ n, cellsFrom n scope.names [] = [(x, n)])
    (hco : scope.isCoroutine = false) (hgen : scope.isGenerator = false) (hk : scope.kind = .function)
    {A : Around} {s : Shared} {vs : List Value} {R : Result → Shared → Prop} (hA : A.depth < recursionLimit) (S : Sat c A L ρ H s) (r : RepL as vs)
    (h : ∀ L' h₁ tk, s.heap.objs.size ≤ L' → (∀ b o, s.heap.get? b = some o → h₁.get? b = some o) → H (L' + 1) = none →
      Sat c (A.deeper (envX qual scope L' f cdv [(x, L' + 1)])) L' ρ₁ (hset H (L' + 1) (.cell v)) { s with heap := h₁, toks := tk } →
      (∀ a ∈ frs (A.deeper (envX qual scope L' f cdv [(x, L' + 1)])), a ∈ frs A ∨ a = L') →
      wpAny (model c.prog c.w) (A.deeper (envX qual scope L' f cdv [(x, L' + 1)])) (execs body (envX qual scope L' f cdv [(x, L' + 1)])) (fun fl s' => R (.ok (.ret (match fl with | .ret v => v | _ => .none))) s')
        (fun e s' => wpAny (model c.prog c.w) (A.deeper (envX qual scope L' f cdv [(x, L' + 1)])) (leaving (envX qual scope L' f cdv [(x, L' + 1)]) e) (fun _ s'' => R (.error e) s'') (fun e' s'' => R (.error e') s'') s')
        { s with heap := h₁, toks := tk }) :
    codeAny (model c.prog c.w) A (.call (.ref f) ⟨vs, []⟩) R s := by
  obtain ⟨binds, hbt, hkd, hlo, hce⟩ := hb vs r
  have X := S.inK hc
  have hlk : ∀ n, (([(x, n)] : List (Str × Addr)).lookup x) = some n := fun n => by rw [List.lookup_cons, beq_self_eq_true]
  refine codeAny_call_cells (fd := fnOf name qual params body scope dV kV doc pm an cdv ct) (body := body) (binds := binds) hA (X _ _ ho) rfl (hc.T.nolimit.keeps S.base) (codeRec_of X hcd) rfl hbt rfl
    (fun y hy => (hkd y hy).imp id fun q => ⟨q.1, by rw [q.2, hcs, hlk]; rfl⟩) (fun s₁ I => ?_) hco hgen hk
  have he : callEnvC (fnOf name qual params body scope dV kV doc pm an cdv ct) s.heap.objs.size f = envX qual scope s.heap.objs.size f cdv [(x, s.heap.objs.size + 1)] := by
    show envX qual scope s.heap.objs.size f cdv (cellsFrom (s.heap.objs.size + 1) scope.names []) = _
    rw [hcs]
  rw [he] at I ⊢
  obtain ⟨h₁, tk, rfl, hkp⟩ := I.done
  obtain ⟨l, hl, _⟩ := id S.blw
  have hl' := Around.frames_deeper (env := envX qual scope s.heap.objs.size f cdv [(x, s.heap.objs.size + 1)]) hl
  have hns := I.toInCall.ns
  have hfr : FrAt h₁ s.heap.objs.size ρ₁ := ⟨_, hns, fun y m e => hlo y m e⟩
  obtain ⟨o, es, ep, e1, e2, _⟩ := id hns
  have hB : Blw c (A.deeper (envX qual scope s.heap.objs.size f cdv [(x, s.heap.objs.size + 1)])) H h₁ := (S.blw.keeps hkp).push hl hl' (by show scope.kind ≠ .module; rw [hk]; decide) rfl (S.baseNone (Nat.le_refl _)) (fun ht => absurd (S.lt ht) (Nat.lt_irrefl _)) e1 fun vs e => by rw [e2] at e; cases e
  have S1 := S.enter (tk := tk) hkp (Nat.le_refl _) hfr hB
  have hsub := frs_push hl hl' rfl
  have hH : H (s.heap.objs.size + 1) = none := S.fresh (Nat.le_succ _)
  obtain ⟨oc', ho', hd'⟩ := I.cell x _ (hlk _)
  refine h s.heap.objs.size h₁ tk (Nat.le_refl _) hkp hH ?_ hsub
  refine S1.add ⟨oc', _, ho', hd', hce⟩ (fun b hb => hb.elim id False.elim) (fun ht => absurd (S.lt ht) (nl_add _ 1)) (ne_add _ 1 (by decide)) (S.baseNone (Nat.le_succ _)) fun hm => ?_
  rcases hsub _ hm with q | q
  · obtain ⟨_, _, o, e, _⟩ := S.blw.mem q
    exact absurd (Heap.lt_size e) (nl_add _ 1)
  · exact ne_add _ 1 (by decide) q

/-- two cells among the names -/
theorem enter_rawC2 (hc : c.Ok) (ho : c.K.lookup f = some ⟨oc, od, .func (fnOf name qual params body scope dV kV doc pm an cdv ct), osl⟩) (hcd : codeIn c.K cdv qual = true) {x x' : Str} {v v' : Option MV} {ρ₁ : Loc}
    (hb : ∀ vs, RepL as vs → ∃ binds, bindArgs (fnOf name qual params body scope dV kV doc pm an cdv ct) ⟨vs, []⟩ = pure binds ∧ (∀ y ∈ binds, scope.names.lookup y.1 = some .local ∨ (scope.names.lookup y.1 = some .cell ∧ (y.1 = x ∨ y.1 = x'))) ∧
      (∀ y m, ρ₁ y = some m → ∃ u, bindL (fun y => scope.names.lookup y) binds (fun _ => none) y = some u ∧ Rep m u) ∧ RepO v (bindC (fun y => scope.names.lookup y) binds (fun _ => none) x) ∧ RepO v' (bindC (fun y => scope.names.lookup y) binds (fun _ => none) x'))
    (hcs : ∀ n, cellsFrom n scope.names [] = [(x', n + 1), (x, n)]) (hne : x ≠ x')
    (hco : scope.isCoroutine = false) (hgen : scope.isGenerator = false) (hk : scope.kind = .function)
    {A : Around} {s : Shared} {vs : List Value} {R : Result → Shared → Prop} (hA : A.depth < recursionLimit) (S : Sat c A L ρ H s) (r : RepL as vs)
    (h : ∀ L' h₁ tk, s.heap.objs.size ≤ L' → (∀ b o, s.heap.get? b = some o → h₁.get? b = some o) → H (L' + 1) = none → H (L' + 1 + 1) = none →
      Sat c (A.deeper (envX qual scope L' f cdv [(x', L' + 1 + 1), (x, L' + 1)])) L' ρ₁ (hset (hset H (L' + 1) (.cell v)) (L' + 1 + 1) (.cell v')) { s with heap := h₁, toks := tk } →
      (∀ a ∈ frs (A.deeper (envX qual scope L' f cdv [(x', L' + 1 + 1), (x, L' + 1)])), a ∈ frs A ∨ a = L') →
      wpAny (model c.prog c.w) (A.deeper (envX qual scope L' f cdv [(x', L' + 1 + 1), (x, L' + 1)])) (execs body (envX qual scope L' f cdv [(x', L' + 1 + 1), (x, L' + 1)])) (fun fl s' => R (.ok (.ret (match fl with | .ret v => v | _ => .none))) s')
        (fun e s' => wpAny (model c.prog c.w) (A.deeper (envX qual scope L' f cdv [(x', L' + 1 + 1), (x, L' + 1)])) (leaving (envX qual scope L' f cdv [(x', L' + 1 + 1), (x, L' + 1)]) e) (fun _ s'' => R (.error e) s'') (fun e' s'' => R (.error e') s'') s')
        { s with heap := h₁, toks := tk }) :
    codeAny (model c.prog c.w) A (.call (.ref f) ⟨vs, []⟩) R s := by
  obtain ⟨binds, hbt, hkd, hlo, hce, hce'⟩ := hb vs r
  have X := S.inK hc
  have hlk : ∀ n, (([(x', n + 1), (x, n)] : List (Str × Addr)).lookup x) = some n := fun n => by rw [List.lookup_cons, beq_false_of_ne hne, List.lookup_cons, beq_self_eq_true]
  have hlk' : ∀ n, (([(x', n + 1), (x, n)] : List (Str × Addr)).lookup x') = some (n + 1) := fun n => by rw [List.lookup_cons, beq_self_eq_true]
  refine codeAny_call_cells (fd := fnOf name qual params body scope dV kV doc pm an cdv ct) (body := body) (binds := binds) hA (X _ _ ho) rfl (hc.T.nolimit.keeps S.base) (codeRec_of X hcd) rfl hbt rfl
    (fun y hy => (hkd y hy).imp id fun q => ⟨q.1, by
      rcases q.2 with e | e
      · rw [e, hcs, hlk]; rfl
      · rw [e, hcs, hlk']; rfl⟩) (fun s₁ I => ?_) hco hgen hk
  have he : callEnvC (fnOf name qual params body scope dV kV doc pm an cdv ct) s.heap.objs.size f = envX qual scope s.heap.objs.size f cdv [(x', s.heap.objs.size + 1 + 1), (x, s.heap.objs.size + 1)] := by
    show envX qual scope s.heap.objs.size f cdv (cellsFrom (s.heap.objs.size + 1) scope.names []) = _
    rw [hcs]
  rw [he] at I ⊢
  obtain ⟨h₁, tk, rfl, hkp⟩ := I.done
  obtain ⟨l, hl, _⟩ := id S.blw
  have hl' := Around.frames_deeper (env := envX qual scope s.heap.objs.size f cdv [(x', s.heap.objs.size + 1 + 1), (x, s.heap.objs.size + 1)]) hl
  have hns := I.toInCall.ns
  have hfr : FrAt h₁ s.heap.objs.size ρ₁ := ⟨_, hns, fun y m e => hlo y m e⟩
  obtain ⟨o, es, ep, e1, e2, _⟩ := id hns
  have hB : Blw c (A.deeper (envX qual scope s.heap.objs.size f cdv [(x', s.heap.objs.size + 1 + 1), (x, s.heap.objs.size + 1)])) H h₁ := (S.blw.keeps hkp).push hl hl' (by show scope.kind ≠ .module; rw [hk]; decide) rfl (S.baseNone (Nat.le_refl _)) (fun ht => absurd (S.lt ht) (Nat.lt_irrefl _)) e1 fun vs e => by rw [e2] at e; cases e
  have S1 := S.enter (tk := tk) hkp (Nat.le_refl _) hfr hB
  have hsub := frs_push hl hl' rfl
  have hH : ∀ n, H (s.heap.objs.size + n) = none := fun n => S.fresh (Nat.le_add_right _ _)
  have hnf : ∀ n, 0 < n → s.heap.objs.size + n ∉ frs (A.deeper (envX qual scope s.heap.objs.size f cdv [(x', s.heap.objs.size + 1 + 1), (x, s.heap.objs.size + 1)])) := fun n hn hm => by
    rcases hsub _ hm with q | q
    · obtain ⟨_, _, o, e, _⟩ := S.blw.mem q
      exact absurd (Heap.lt_size e) (nl_add _ n)
    · exact ne_add _ n hn q
  obtain ⟨oc1, ho1, hd1⟩ := I.cell x _ (hlk _)
  obtain ⟨oc2, ho2, hd2⟩ := I.cell x' _ (hlk' _)
  refine h s.heap.objs.size h₁ tk (Nat.le_refl _) hkp (hH 1) (hH 2) ?_ hsub
  have S2 := S1.add (a := s.heap.objs.size + 1) (o := .cell v) ⟨oc1, _, ho1, hd1, hce⟩ (fun b hb => hb.elim id False.elim) (fun ht => absurd (S.lt ht) (nl_add _ 1)) (ne_add _ 1 (by decide)) (S.baseNone (Nat.le_succ _)) (hnf 1 (by decide))
  refine S2.add ⟨oc2, _, ho2, hd2, hce'⟩ (fun b hb => hb.elim id False.elim) (fun ht => ?_) (ne_add _ 2 (by decide)) (S.baseNone (Nat.le_add_right _ 2)) (hnf 2 (by decide))
  rcases tr_hset ht with q | q
  · rcases q with q | q
    · exact ne_add' _ q
    · exact q
  · exact absurd (S.lt q) (nl_add _ 2)

/-- the end of a callee that came back -/
theorem back_ok {A A' : Around} {s s1 s' : Shared} {L' : Addr} {H1 : Hp} (S : Sat c A L ρ H s) (kk : ∀ b o, s.heap.get? b = some o → s1.heap.get? b = some o) (hL : s.heap.objs.size ≤ L') (h1 : ∀ a, Tr H1 a → Tr H a ∨ s.heap.get? a = none) (hsub : ∀ a ∈ frs A', a ∈ frs A ∨ a = L')
    {R : Result → Shared → Prop} (hR : ∀ v s', (∃ b ρ' H', Rep b v ∧ Sat c A L ρ' H' s' ∧ Stp A L H s H' s' ∧ Q b ρ' H') → R (.ok (.ret v)) s') {fl fl' : Flow} {ρ' : Loc} {H' : Hp} (e : fl' = fl) (S' : Sat c A' L' ρ' H' s') (st : Stp A' L' H1 s1 H' s')
    (q : FlowP (fun _ H' => ∃ H'', Sub H'' H' ∧ Q .none ρ H'') (fun m _ H' => ∃ H'', Sub H'' H' ∧ Q m ρ H'') fl' ρ' H') : R (.ok (.ret (flv fl))) s' := by
  subst e
  have fin : ∀ v m H'', Rep m v → Sub H'' H' → Q m ρ H'' → R (.ok (.ret v)) s' := fun v m H'' rv sub q => by
    obtain ⟨z1, z2⟩ := S.leave kk hL S' st h1 hsub
    exact hR v s' ⟨m, ρ, H'', rv, z1.weak (fun _ _ e => e) sub, z2.weak' sub, q⟩
  cases fl' with
  | next => obtain ⟨H'', sub, q⟩ := q; exact fin _ .none H'' rfl sub q
  | ret v => obtain ⟨m, rv, H'', sub, q⟩ := q; exact fin _ m H'' rv sub q
  | brk => exact q.elim
  | cont => exact q.elim

theorem enter_def (hc : c.Ok) (ho : c.K.lookup f = some ⟨oc, od, .func (fnOf name qual params body scope dV kV doc pm an cdv ct), osl⟩) (hcd : codeIn c.K cdv qual = true)
    (hb : BindsOk c (fnOf name qual params body scope dV kV doc pm an cdv ct) as ps) (hloc : ∀ y ∈ ps, scope.names.lookup y.1 = some .local)
    (h : ∀ L', TS c n L' (execs body (envOf qual scope L' f cdv)) (locOf ps.reverse) H (fun _ H' => ∃ H'', Sub H'' H' ∧ Q .none ρ H'') (fun m _ H' => ∃ H'', Sub H'' H' ∧ Q m ρ H''))
    (hco : scope.isCoroutine = false := by rfl) (hgen : scope.isGenerator = false := by rfl) (hk : scope.kind = .function := by rfl) (hcell : ∀ x ∈ scope.names, x.2 ≠ .cell := by decide)
    {A : Around} {s : Shared} {vs : List Value} {R : Result → Shared → Prop} (hA : A.depth < recursionLimit) (hbud : ∀ env, Bud (A.deeper env) n) (S : Sat c A L ρ H s) (r : RepL as vs)
    (hR : ∀ v s', (∃ b ρ' H', Rep b v ∧ Sat c A L ρ' H' s' ∧ Stp A L H s H' s' ∧ Q b ρ' H') → R (.ok (.ret v)) s') :
    codeAny (model c.prog c.w) A (.call (.ref f) ⟨vs, []⟩) R s := by
  refine enter_raw hc ho hcd hb hloc hco hgen hk hcell hA S r fun L' h₁ tk hL kk S1 hsub => ?_
  refine wpAny_mono (h L' _ _ (hbud _) S1) (fun fl s' hfl => ?_) fun _ _ e => e.elim
  obtain ⟨fl', ρ', H', e, S', st, q⟩ := hfl
  exact back_ok S kk hL (fun _ h => .inl h) hsub hR e S' st q
theorem enter_defC (hc : c.Ok) (ho : c.K.lookup f = some ⟨oc, od, .func (fnOf name qual params body scope dV kV doc pm an cdv ct), osl⟩) (hcd : codeIn c.K cdv qual = true) {x : Str} {v : Option MV} {ρ₁ : Loc}
    (hb : ∀ vs, RepL as vs → ∃ binds, bindArgs (fnOf name qual params body scope dV kV doc pm an cdv ct) ⟨vs, []⟩ = pure binds ∧ (∀ y ∈ binds, scope.names.lookup y.1 = some .local ∨ (scope.names.lookup y.1 = some .cell ∧ y.1 = x)) ∧
      (∀ y m, ρ₁ y = some m → ∃ u, bindL (fun y => scope.names.lookup y) binds (fun _ => none) y = some u ∧ Rep m u) ∧ RepO v (bindC (fun y => scope.names.lookup y) binds (fun _ => none) x))
    (hcs : ∀ n, cellsFrom n scope.names [] = [(x, n)])
    (h : ∀ L' C, H C = none → TS c n L' (execs body (envX qual scope L' f cdv [(x, C)])) ρ₁ (hset H C (.cell v)) (fun _ H' => ∃ H'', Sub H'' H' ∧ Q .none ρ H'') (fun m _ H' => ∃ H'', Sub H'' H' ∧ Q m ρ H''))
    (hco : scope.isCoroutine = false := by rfl) (hgen : scope.isGenerator = false := by rfl) (hk : scope.kind = .function := by rfl)
    {A : Around} {s : Shared} {vs : List Value} {R : Result → Shared → Prop} (hbd : Bud A (n + 1)) (S : Sat c A L ρ H s) (r : RepL as vs)
    (hR : ∀ v s', (∃ b ρ' H', Rep b v ∧ Sat c A L ρ' H' s' ∧ Stp A L H s H' s' ∧ Q b ρ' H') → R (.ok (.ret v)) s') :
    codeAny (model c.prog c.w) A (.call (.ref f) ⟨vs, []⟩) R s := by
  refine enter_rawC hc ho hcd hb hcs hco hgen hk hbd.depth S r fun L' h₁ tk hL kk hH S1 hsub => ?_
  refine wpAny_mono (h L' _ hH _ _ hbd.deeper S1) (fun fl s' hfl => ?_) fun _ _ e => e.elim
  obtain ⟨fl', ρ', H', e, S', st, q⟩ := hfl
  refine back_ok S kk hL (fun a ha => ?_) hsub hR e S' st q
  rcases tr_hset ha with q | q
  · rcases q with q | q
    · exact .inr (Heap.get?_none_of_le (by rw [q]; first | exact Nat.le_succ_of_le hL | exact Nat.le_succ_of_le (Nat.le_succ_of_le hL)))
    · exact q.elim
  · exact .inl q
theorem f_callC (hc : c.Ok) (ho : c.K.lookup f = some ⟨oc, od, .func (fnOf name qual params body scope dV kV doc pm an cdv ct), osl⟩) (hcd : codeIn c.K cdv qual = true) {x : Str} {v : Option MV} {ρ₁ : Loc}
    (hb : ∀ vs, RepL as vs → ∃ binds, bindArgs (fnOf name qual params body scope dV kV doc pm an cdv ct) ⟨vs, []⟩ = pure binds ∧ (∀ y ∈ binds, scope.names.lookup y.1 = some .local ∨ (scope.names.lookup y.1 = some .cell ∧ y.1 = x)) ∧
      (∀ y m, ρ₁ y = some m → ∃ u, bindL (fun y => scope.names.lookup y) binds (fun _ => none) y = some u ∧ Rep m u) ∧ RepO v (bindC (fun y => scope.names.lookup y) binds (fun _ => none) x))
    (hcs : ∀ n, cellsFrom n scope.names [] = [(x, n)])
    (h : ∀ L' C, H C = none → TS c n L' (execs body (envX qual scope L' f cdv [(x, C)])) ρ₁ (hset H C (.cell v)) (fun _ H' => ∃ H'', Sub H'' H' ∧ Q .none ρ H'') (fun m _ H' => ∃ H'', Sub H'' H' ∧ Q m ρ H''))
    (hco : scope.isCoroutine = false := by rfl) (hgen : scope.isGenerator = false := by rfl) (hk : scope.kind = .function := by rfl) : OpL c (n + 1) L (fun vs => call (.ref f) vs) as ρ H Q := fun vs r A s hbd S =>
  wpAny_call (enter_defC hc ho hcd hb hcs h hco hgen hk hbd S r fun v s' q => q)

theorem enter_defC2 (hc : c.Ok) (ho : c.K.lookup f = some ⟨oc, od, .func (fnOf name qual params body scope dV kV doc pm an cdv ct), osl⟩) (hcd : codeIn c.K cdv qual = true) {x x' : Str} {v v' : Option MV} {ρ₁ : Loc}
    (hb : ∀ vs, RepL as vs → ∃ binds, bindArgs (fnOf name qual params body scope dV kV doc pm an cdv ct) ⟨vs, []⟩ = pure binds ∧ (∀ y ∈ binds, scope.names.lookup y.1 = some .local ∨ (scope.names.lookup y.1 = some .cell ∧ (y.1 = x ∨ y.1 = x'))) ∧
      (∀ y m, ρ₁ y = some m → ∃ u, bindL (fun y => scope.names.lookup y) binds (fun _ => none) y = some u ∧ Rep m u) ∧ RepO v (bindC (fun y => scope.names.lookup y) binds (fun _ => none) x) ∧ RepO v' (bindC (fun y => scope.names.lookup y) binds (fun _ => none) x'))
    (hcs : ∀ n, cellsFrom n scope.names [] = [(x', n + 1), (x, n)]) (hne : x ≠ x')
    (h : ∀ L' C C', H C = none → H C' = none → C ≠ C' → TS c n L' (execs body (envX qual scope L' f cdv [(x', C'), (x, C)])) ρ₁ (hset (hset H C (.cell v)) C' (.cell v')) (fun _ H' => ∃ H'', Sub H'' H' ∧ Q .none ρ H'') (fun m _ H' => ∃ H'', Sub H'' H' ∧ Q m ρ H''))
    (hco : scope.isCoroutine = false := by rfl) (hgen : scope.isGenerator = false := by rfl) (hk : scope.kind = .function := by rfl)
    {A : Around} {s : Shared} {vs : List Value} {R : Result → Shared → Prop} (hbd : Bud A (n + 1)) (S : Sat c A L ρ H s) (r : RepL as vs)
    (hR : ∀ v s', (∃ b ρ' H', Rep b v ∧ Sat c A L ρ' H' s' ∧ Stp A L H s H' s' ∧ Q b ρ' H') → R (.ok (.ret v)) s') :
    codeAny (model c.prog c.w) A (.call (.ref f) ⟨vs, []⟩) R s := by
  refine enter_rawC2 hc ho hcd hb hcs hne hco hgen hk hbd.depth S r fun L' h₁ tk hL kk hH hH' S1 hsub => ?_
  refine wpAny_mono (h L' _ _ hH hH' (Nat.ne_of_lt (Nat.lt_succ_self _)) _ _ hbd.deeper S1) (fun fl s' hfl => ?_) fun _ _ e => e.elim
  obtain ⟨fl', ρ', H', e, S', st, q⟩ := hfl
  refine back_ok S kk hL (fun a ha => ?_) hsub hR e S' st q
  rcases tr_hset ha with q | q
  · rcases q with q | q
    · exact .inr (Heap.get?_none_of_le (by rw [q]; first | exact Nat.le_succ_of_le hL | exact Nat.le_succ_of_le (Nat.le_succ_of_le hL)))
    · exact q.elim
  · rcases tr_hset q with q | q
    · rcases q with q | q
      · exact .inr (Heap.get?_none_of_le (by rw [q]; first | exact Nat.le_succ_of_le hL | exact Nat.le_succ_of_le (Nat.le_succ_of_le hL)))
      · exact q.elim
    · exact .inl q

theorem f_callC2 (hc : c.Ok) (ho : c.K.lookup f = some ⟨oc, od, .func (fnOf name qual params body scope dV kV doc pm an cdv ct), osl⟩) (hcd : codeIn c.K cdv qual = true) {x x' : Str} {v v' : Option MV} {ρ₁ : Loc}
    (hb : ∀ vs, RepL as vs → ∃ binds, bindArgs (fnOf name qual params body scope dV kV doc pm an cdv ct) ⟨vs, []⟩ = pure binds ∧ (∀ y ∈ binds, scope.names.lookup y.1 = some .local ∨ (scope.names.lookup y.1 = some .cell ∧ (y.1 = x ∨ y.1 = x'))) ∧
      (∀ y m, ρ₁ y = some m → ∃ u, bindL (fun y => scope.names.lookup y) binds (fun _ => none) y = some u ∧ Rep m u) ∧ RepO v (bindC (fun y => scope.names.lookup y) binds (fun _ => none) x) ∧ RepO v' (bindC (fun y => scope.names.lookup y) binds (fun _ => none) x'))
    (hcs : ∀ n, cellsFrom n scope.names [] = [(x', n + 1), (x, n)]) (hne : x ≠ x')
    (h : ∀ L' C C', H C = none → H C' = none → C ≠ C' → TS c n L' (execs body (envX qual scope L' f cdv [(x', C'), (x, C)])) ρ₁ (hset (hset H C (.cell v)) C' (.cell v')) (fun _ H' => ∃ H'', Sub H'' H' ∧ Q .none ρ H'') (fun m _ H' => ∃ H'', Sub H'' H' ∧ Q m ρ H''))
    (hco : scope.isCoroutine = false := by rfl) (hgen : scope.isGenerator = false := by rfl) (hk : scope.kind = .function := by rfl) : OpL c (n + 1) L (fun vs => call (.ref f) vs) as ρ H Q := fun vs r A s hbd S =>
  wpAny_call (enter_defC2 hc ho hcd hb hcs hne h hco hgen hk hbd S r fun v s' q => q)

theorem f_call (hc : c.Ok) (ho : c.K.lookup f = some ⟨oc, od, .func (fnOf name qual params body scope dV kV doc pm an cdv ct), osl⟩) (hcd : codeIn c.K cdv qual = true)
    (hb : BindsOk c (fnOf name qual params body scope dV kV doc pm an cdv ct) as ps) (hloc : ∀ y ∈ ps, scope.names.lookup y.1 = some .local)
    (h : ∀ L', TS c n L' (execs body (envOf qual scope L' f cdv)) (locOf ps.reverse) H (fun _ H' => ∃ H'', Sub H'' H' ∧ Q .none ρ H'') (fun m _ H' => ∃ H'', Sub H'' H' ∧ Q m ρ H''))
    (hco : scope.isCoroutine = false := by rfl) (hgen : scope.isGenerator = false := by rfl) (hk : scope.kind = .function := by rfl) (hcell : ∀ x ∈ scope.names, x.2 ≠ .cell := by decide) :
    OpL c (n + 1) L (fun vs => call (.ref f) vs) as ρ H Q := fun vs r A s hbd S =>
  wpAny_call (enter_def hc ho hcd hb hloc h hco hgen hk hcell (hbd.depth) (fun _ => hbd.deeper) S r fun v s' q => q)

/-- an object of a class is made -/
theorem f_new (hc : c.Ok) {C : Addr} {pst : Addr → List (Str × MV)} (hm : makesIn c.K C = true) (hi : findIn c.K (.ref C) "__init__" = some (some (.ref f))) (hf : typeIn c.K (.ref f) = some (.type "function"))
    (ho : c.K.lookup f = some ⟨oc, od, .func (fnOf name qual params body scope dV kV doc pm an cdv ct), osl⟩) (hcd : codeIn c.K cdv qual = true)
    (hb : ∀ x, BindsOk c (fnOf name qual params body scope dV kV doc pm an cdv ct) (.ref x :: as) (pst x)) (hloc : ∀ x, ∀ y ∈ pst x, scope.names.lookup y.1 = some .local)
    (h : ∀ x L', H x = none → TS c n L' (execs body (envOf qual scope L' f cdv)) (locOf (pst x).reverse) (hset H x (.inst C [])) (fun _ H' => ∃ H'', Sub H'' H' ∧ Q (.ref x) ρ H'') (fun _ _ _ => False))
    (hco : scope.isCoroutine = false := by rfl) (hgen : scope.isGenerator = false := by rfl) (hk : scope.kind = .function := by rfl) (hcell : ∀ x ∈ scope.names, x.2 ≠ .cell := by decide) :
    OpL c (n + 1) L (fun vs => call (.ref C) vs) as ρ H Q := fun vs r A s hbd S => by
  have X := S.inK hc
  refine wpAny_call (make_core (h := s.heap) (g := s.gens) (d := s.drawn) (t := s.toks) (os := s.os) (makes_of X hm) (looks_findIn X hi) (fun self => bind_fn X self hf) (.inl rfl) ?_)
  generalize hd : s.heap.objs.size = d
  have kk : ∀ b o, s.heap.get? b = some o → ((s.heap.push emptyDict).push (instObj C d)).get? b = some o := fun b o e => Heap.get?_push_of_some _ (Heap.get?_push_of_some _ e)
  have hx : ((s.heap.push emptyDict).push (instObj C d)).get? (d + 1) = some (instObj C d) := by rw [← hd]; heap_get
  have hdd : ((s.heap.push emptyDict).push (instObj C d)).get? d = some (dictOf [] 0) := by rw [← hd]; exact Heap.get?_push_of_some _ (Heap.get?_push_size _ rfl)
  have ha : ∀ b, InFp (d + 1) (.inst C []) b → s.heap.objs.size ≤ b := fun b hb => by
    rcases hb with rfl | hb
    · rw [hd]; exact Nat.le_succ _
    · rw [hd, Nat.succ.inj hb]; exact Nat.le_refl _
  have S1 : Sat c A L ρ (hset H (d + 1) (.inst C [])) { s with heap := (s.heap.push emptyDict).push (instObj C d) } := S.alloc (tk := s.toks) kk ha ⟨d, [], 0, rfl, hx, hdd, trivial⟩
  have st1 : Stp A L H s (hset H (d + 1) (.inst C [])) { s with heap := (s.heap.push emptyDict).push (instObj C d) } := Stp.alloc (tk := s.toks) kk ha (by rw [Heap.size_push, Heap.size_push]; exact Nat.le_succ_of_le (Nat.le_succ _))
  have hxn : H (d + 1) = none := S.fresh (by rw [hd]; exact Nat.le_succ _)
  refine enter_def (as := .ref (d + 1) :: as) (Q := fun m ρ' H' => m = .none ∧ Q (.ref (d + 1)) ρ' H') hc ho hcd (hb (d + 1)) (hloc (d + 1)) (fun L' => (h (d + 1) L' hxn).mono fun fl ρ' H' q => ?_) hco hgen hk hcell ?_ (fun env => ?_) (S1.around rfl) (⟨rfl, r⟩ : RepL (.ref (d + 1) :: as) (.ref (d + 1) :: vs)) ?_
  · cases fl with
    | next => obtain ⟨H'', sub, q⟩ := q; exact ⟨H'', sub, rfl, q⟩
    | ret v => obtain ⟨m, _, q⟩ := q; exact q.elim
    | brk => exact q.elim
    | cont => exact q.elim
  · rw [depth_under_make]; have := hbd.2.1; omega
  · refine ⟨hbd.1, ?_, ?_⟩
    · rw [depth_deeper, depth_under_make]; have := hbd.2.1; omega
    · have : ((A.under (.builtin "type.__call__" ⟨.ref C :: vs, []⟩)).deeper env).units = A.units + 1 + 3 := by first | rfl | simp [Around.under, Code.cUnits, Code.frames, Code.isFrame, Around.deeper]
      rw [this]; have := hbd.2.2; omega
  · rintro v s' ⟨b, ρ', H', rb, S', st', rfl, q⟩
    cases rb
    exact ⟨rfl, .ref (d + 1), ρ', H', rfl, S'.around rfl, st1.trans (st'.around rfl), q⟩
end
section
variable {c : Cx} {n : Nat} {env : Env} {L : Addr} {ρ : Loc} {H : Hp} {Q : MV → Loc → Hp → Prop} {N : Loc → Hp → Prop} {R : MV → Loc → Hp → Prop} {B : Bool → Loc → Hp → Prop}

theorem t_gref (hc : c.Ok) {x : Str} {pos : Pos} {a : Addr} (hk : env.scope.kind = .function) (hx : env.kindOf x = some .globalImplicit) (hg : env.globals = mainGlobals) (e : nsIn c.K mainGlobals x = some (some (.ref a))) (h : Q (.ref a) ρ H) (hd : (x == ("__debug__" : Str)) = false := by decide +kernel) :
    TV c n L (eval (.Name x pos) env) ρ H Q := t_global hc hk hx hg e h hd
theorem t_gint (hc : c.Ok) {x : Str} {pos : Pos} {i : Int} {t : Tok} (hk : env.scope.kind = .function) (hx : env.kindOf x = some .globalImplicit) (hg : env.globals = mainGlobals) (e : nsIn c.K mainGlobals x = some (some (.int i t))) (h : Q (.int i) ρ H) (hd : (x == ("__debug__" : Str)) = false := by decide +kernel) :
    TV c n L (eval (.Name x pos) env) ρ H Q := t_global hc hk hx hg e h hd
/-- a def or a class of the text's, by its name -/
theorem t_callG (hc : c.Ok) {x : Str} {p pos : Pos} {a : Addr} {e : Expr} {r : List Expr} (hk : env.scope.kind = .function) (hx : env.kindOf x = some .globalImplicit) (hg : env.globals = mainGlobals) (e' : nsIn c.K mainGlobals x = some (some (.ref a))) (hkp : keepIn c.K (.ref a) = true)
    (h : TL c n L (spliced (backTo pos (starEach (e :: r) env))) ρ H fun as ρ1 H1 => OpL c n L (fun vs => call (.ref a) vs) as ρ1 H1 Q)
    (hd : (x == ("__debug__" : Str)) = false := by decide +kernel) (he0 : eval (.Call (.Name x p) (e :: r) [] pos) env = (do callWith pos (← eval (.Name x p) env) [] (backTo pos (starEach (e :: r) env)) (backToKw pos (keywordEach [] env))) := by rfl)
    (he : starEach (e :: r) env = (false, eval e env) :: starEach r env := by rfl) (hplain : (backTo pos (starEach r env)).any (·.1) = false := by rfl) : TV c n L (eval (.Call (.Name x p) (e :: r) [] pos) env) ρ H Q :=
  t_call (t_gref hc hk hx hg e' (fun vf hv => by cases hv; exact tw_K hc hkp h he hplain) hd) he0
theorem t_callB (hc : c.Ok) {x : Str} {p pos : Pos} {id : String} {e : Expr} {r : List Expr} (hk : env.scope.kind = .function) (hx : env.kindOf x = some .globalImplicit) (hg : env.globals = mainGlobals) (hbt : env.builtins = builtinsNs) (e' : nsIn c.K mainGlobals x = some none) (hv : bootBuiltins x = some (.builtin id)) (hn : x ≠ "__name__")
    (h : TL c n L (spliced (backTo pos (starEach (e :: r) env))) ρ H fun as ρ1 H1 => OpL c n L (fun vs => call (.builtin id) vs) as ρ1 H1 Q)
    (hd : (x == ("__debug__" : Str)) = false := by decide +kernel) (he0 : eval (.Call (.Name x p) (e :: r) [] pos) env = (do callWith pos (← eval (.Name x p) env) [] (backTo pos (starEach (e :: r) env)) (backToKw pos (keywordEach [] env))) := by rfl)
    (he : starEach (e :: r) env = (false, eval e env) :: starEach r env := by rfl) (hplain : (backTo pos (starEach (e :: r) env)).any (·.1) = false := by rfl) : TV c n L (eval (.Call (.Name x p) (e :: r) [] pos) env) ρ H Q :=
  t_call (t_builtin hc hk hx hg hbt e' hv hn (fun vf hv => by cases hv; exact tw_builtin h he hplain) hd) he0
theorem t_callT (hc : c.Ok) {x : Str} {p pos : Pos} {T : String} {e : Expr} {r : List Expr} (hk : env.scope.kind = .function) (hx : env.kindOf x = some .globalImplicit) (hg : env.globals = mainGlobals) (hbt : env.builtins = builtinsNs) (e' : nsIn c.K mainGlobals x = some none) (hv : bootBuiltins x = some (.type T)) (hn : x ≠ "__name__")
    (h : TL c n L (spliced (backTo pos (starEach (e :: r) env))) ρ H fun as ρ1 H1 => OpL c n L (fun vs => call (.type T) vs) as ρ1 H1 Q)
    (hd : (x == ("__debug__" : Str)) = false := by decide +kernel) (he0 : eval (.Call (.Name x p) (e :: r) [] pos) env = (do callWith pos (← eval (.Name x p) env) [] (backTo pos (starEach (e :: r) env)) (backToKw pos (keywordEach [] env))) := by rfl)
    (he : starEach (e :: r) env = (false, eval e env) :: starEach r env := by rfl) (hplain : (backTo pos (starEach r env)).any (·.1) = false := by rfl) : TV c n L (eval (.Call (.Name x p) (e :: r) [] pos) env) ρ H Q :=
  t_call (t_builtin hc hk hx hg hbt e' hv hn (fun vf hv => by cases hv; exact tw_type h he hplain) hd) he0

/-- a method of an object's class -/
theorem t_callM (hc : c.Ok) {o : Expr} {name : Str} {apos pos : Pos} {e : Expr} {r : List Expr} {pl : Sem Bool} {f C : Addr}
    (h : TV c n L (eval o env) ρ H fun a ρ1 H1 => ∃ x fs, a = .ref x ∧ H1 x = some (.inst C fs) ∧ fget fs name = none ∧ TL c n L (spliced (backTo pos (starEach (e :: r) env))) ρ1 H1 fun as ρ2 H2 => OpL c n L (fun vs => call (.ref f) vs) (.ref x :: as) ρ2 H2 Q)
    (hg : plainGet c.K C name = true) (hf : findIn c.K (.ref C) name = some (some (.ref f))) (ht : isFn c.K (.ref f) = true) (hkp : keepIn c.K (.ref f) = true)
    (he0 : eval (.Call (.Attribute o name apos) (e :: r) [] pos) env = (do
      let ov ← eval o env
      standAt apos.atName
      let (f, first) ← holding [ov] (getMethod ov name pl)
      callWith pos f first (backTo pos (starEach (e :: r) env)) (backToKw pos (keywordEach [] env))) := by rfl)
    (he : starEach (e :: r) env = (false, eval e env) :: starEach r env := by rfl) (hplain : (backTo pos (starEach r env)).any (·.1) = false := by rfl) :
    TV c n L (eval (.Call (.Attribute o name apos) (e :: r) [] pos) env) ρ H Q :=
  t_meth (h.mono fun a ρ1 H1 ⟨x, fs, ea, hx, hn, hh⟩ => by
    subst ea
    exact m_inst hc hx hg hf ht hn (tw_K hc hkp (hh.mono fun as ρ2 H2 hq vs r => hq (.ref x :: vs) ⟨rfl, r⟩) he hplain)) he0
/-- a list's method -/
theorem t_callL {o : Expr} {name : Str} {apos pos : Pos} {e : Expr} {r : List Expr} {pl : Sem Bool} {id : String}
    (h : TV c n L (eval o env) ρ H fun a ρ1 H1 => ∃ l xs, a = .ref l ∧ H1 l = some (.list xs) ∧ TL c n L (spliced (backTo pos (starEach (e :: r) env))) ρ1 H1 fun as ρ2 H2 => OpL c n L (fun vs => call (.builtin id) ([.ref l] ++ vs)) as ρ2 H2 Q)
    (slot : Slot "list" name id) (hty : typeOf (.builtin id) = pure (.type "method_descriptor"))
    (he0 : eval (.Call (.Attribute o name apos) (e :: r) [] pos) env = (do
      let ov ← eval o env
      standAt apos.atName
      let (f, first) ← holding [ov] (getMethod ov name pl)
      callWith pos f first (backTo pos (starEach (e :: r) env)) (backToKw pos (keywordEach [] env))) := by rfl)
    (he : starEach (e :: r) env = (false, eval e env) :: starEach r env := by rfl) (hplain : (backTo pos (starEach (e :: r) env)).any (·.1) = false := by rfl) :
    TV c n L (eval (.Call (.Attribute o name apos) (e :: r) [] pos) env) ρ H Q :=
  t_meth (h.mono fun a ρ1 H1 ⟨l, xs, ea, hl, hh⟩ => by subst ea; exact m_list hl slot hty (tw_builtin hh he hplain)) he0
theorem t_callL0 {o : Expr} {name : Str} {apos pos : Pos} {pl : Sem Bool} {id : String}
    (h : TV c n L (eval o env) ρ H fun a ρ1 H1 => ∃ l xs, a = .ref l ∧ H1 l = some (.list xs) ∧ TV c n L (call (.builtin id) ([.ref l] ++ [])) ρ1 H1 Q)
    (slot : Slot "list" name id) (hty : typeOf (.builtin id) = pure (.type "method_descriptor"))
    (he0 : eval (.Call (.Attribute o name apos) [] [] pos) env = (do
      let ov ← eval o env
      standAt apos.atName
      let (f, first) ← holding [ov] (getMethod ov name pl)
      callWith pos f first (backTo pos (starEach [] env)) (backToKw pos (keywordEach [] env))) := by rfl) :
    TV c n L (eval (.Call (.Attribute o name apos) [] [] pos) env) ρ H Q :=
  t_meth (h.mono fun a ρ1 H1 ⟨l, xs, ea, hl, hh⟩ => by subst ea; exact m_list hl slot hty (tw_builtin0 hh)) he0
theorem t_callD {o : Expr} {name : Str} {apos pos : Pos} {e : Expr} {r : List Expr} {pl : Sem Bool} {id : String}
    (h : TV c n L (eval o env) ρ H fun a ρ1 H1 => ∃ l es, a = .ref l ∧ H1 l = some (.dict es) ∧ TL c n L (spliced (backTo pos (starEach (e :: r) env))) ρ1 H1 fun as ρ2 H2 => OpL c n L (fun vs => call (.builtin id) ([.ref l] ++ vs)) as ρ2 H2 Q)
    (slot : Slot "dict" name id) (hty : typeOf (.builtin id) = pure (.type "method_descriptor"))
    (he0 : eval (.Call (.Attribute o name apos) (e :: r) [] pos) env = (do
      let ov ← eval o env
      standAt apos.atName
      let (f, first) ← holding [ov] (getMethod ov name pl)
      callWith pos f first (backTo pos (starEach (e :: r) env)) (backToKw pos (keywordEach [] env))) := by rfl)
    (he : starEach (e :: r) env = (false, eval e env) :: starEach r env := by rfl) (hplain : (backTo pos (starEach (e :: r) env)).any (·.1) = false := by rfl) :
    TV c n L (eval (.Call (.Attribute o name apos) (e :: r) [] pos) env) ρ H Q :=
  t_meth (h.mono fun a ρ1 H1 ⟨l, xs, ea, hl, hh⟩ => by subst ea; exact m_dict hl slot hty (tw_builtin hh he hplain)) he0

/-- forms whose operand is met along the way -/
theorem t_fieldOf (hc : c.Ok) {value : Expr} {name : Str} {pos : Pos} {C : Addr} (hg : plainGet c.K C name = true) (hh : hasDictIn c.K C = true) {attr : Option Value} (ha : findIn c.K (.ref C) name = some attr) (hn : noGet c.K attr = true)
    (h : TV c n L (eval value env) ρ H fun a ρ1 H1 => ∃ x fs m, a = .ref x ∧ H1 x = some (.inst C fs) ∧ fget fs name = some m ∧ m.plain = true ∧ Q m ρ1 H1)
    (he : eval (.Attribute value name pos) env = (do
      let o ← eval value env
      standAt pos.atName
      let r ← holding [o] (getAttr o name true)
      letTemporaryGo value o r
      pure r) := by with_unfolding_all rfl) : TV c n L (eval (.Attribute value name pos) env) ρ H Q :=
  t_attr (h.mono fun a ρ1 H1 ⟨x, fs, m, ea, hx, e, hp, q⟩ => by subst ea; exact o_field hc hx hg hh ha hn e hp q) he

theorem forL_intro {env : Env} {body : List Stmt} {x : Str} {l : Addr} {xs : List MV} (I : Nat → Loc → Hp → Prop) (hl : H l = some (.list xs)) (h0 : I 0 ρ H) (hok : ∀ i ρ2 H2, I i ρ2 H2 → H2 l = some (.list xs))
    (turn : ∀ i m ρ2 H2, xs[i]? = some m → I i ρ2 H2 → OpU1 c n L (storeName env x) m ρ2 H2 fun ρ3 H3 => TS c n L (execs body env) ρ3 H3 (I (i + 1)) R) (hend : ∀ ρ2 H2, I xs.length ρ2 H2 → N ρ2 H2) :
    ∃ (l' : Addr) (J : Nat → MObj) (xs : List MV) (ok : Hp → Prop) (I : Nat → Loc → Hp → Prop), MV.ref l = .ref l' ∧ Begins c l' J ρ H ∧ (∀ it, Iter c it J xs ok) ∧ I 0 ρ H ∧ (∀ i ρ2 H2, I i ρ2 H2 → ok H2) ∧
      (∀ i m ρ2 H2, xs[i]? = some m → I i ρ2 H2 → OpU1 c n L (storeName env x) m ρ2 H2 fun ρ3 H3 => TS c n L (execs body env) ρ3 H3 (I (i + 1)) R) ∧ (∀ ρ2 H2, I xs.length ρ2 H2 → N ρ2 H2) :=
  ⟨l, _, xs, _, I, rfl, begins_list hl, fun it => iter_list, h0, hok, turn, hend⟩
theorem forR_intro {env : Env} {body : List Stmt} {x : Str} {l : Addr} {k : Nat} (I : Nat → Loc → Hp → Prop) (hl : H l = some (.range k)) (hk : k ≤ 100000) (h0 : I 0 ρ H)
    (turn : ∀ i ρ2 H2, i < k → I i ρ2 H2 → OpU1 c n L (storeName env x) (.int (i : Nat)) ρ2 H2 fun ρ3 H3 => TS c n L (execs body env) ρ3 H3 (I (i + 1)) R) (hend : ∀ ρ2 H2, I k ρ2 H2 → N ρ2 H2) :
    ∃ (l' : Addr) (J : Nat → MObj) (xs : List MV) (ok : Hp → Prop) (I : Nat → Loc → Hp → Prop), MV.ref l = .ref l' ∧ Begins c l' J ρ H ∧ (∀ it, Iter c it J xs ok) ∧ I 0 ρ H ∧ (∀ i ρ2 H2, I i ρ2 H2 → ok H2) ∧
      (∀ i m ρ2 H2, xs[i]? = some m → I i ρ2 H2 → OpU1 c n L (storeName env x) m ρ2 H2 fun ρ3 H3 => TS c n L (execs body env) ρ3 H3 (I (i + 1)) R) ∧ (∀ ρ2 H2, I xs.length ρ2 H2 → N ρ2 H2) :=
  ⟨l, _, upTo k, _, I, rfl, begins_range hl hk, fun it => iter_range, h0, fun _ _ _ _ => trivial, fun i m ρ2 H2 e hI => by obtain ⟨rfl, hi⟩ := upTo_get e; exact turn i ρ2 H2 hi hI, fun ρ2 H2 hI => hend ρ2 H2 (by rwa [upTo_len] at hI)⟩
theorem compL_intro {elt : Expr} {ifs : List Expr} {scope : Scope} {cl : List (Str × Addr)} {x : Str} {l : Addr} {xs : List MV} {P : List MV → Hp → Addr → Prop} (I : Nat → List MV → Hp → Prop) (hl : H l = some (.list xs)) (hz : xs.length ≤ 1000) (h0 : I 0 [] H) (hok : ∀ i acc H2, I i acc H2 → H2 l = some (.list xs))
    (turn : ∀ C i m acc H2, xs[i]? = some m → I i acc H2 → TB c n C (tests ifs (compEnvC scope cl C env)) (lset (fun _ => none) x m) H2 fun b ρ4 H4 => if b = true then TV c n C (eval elt (compEnvC scope cl C env)) ρ4 H4 (fun m' _ H5 => I (i + 1) (acc ++ [m']) H5) else I (i + 1) acc H4)
    (hend : ∀ acc H2, I xs.length acc H2 → ∀ D, H2 D = none → P acc H2 D) :
    ∃ (l' : Addr) (J : Nat → MObj) (xs : List MV) (ok : Hp → Prop) (I : Nat → List MV → Hp → Prop), MV.ref l = .ref l' ∧ Begins c l' J ρ H ∧ (∀ it, Iter c it J xs ok) ∧ xs.length ≤ 1000 ∧ I 0 [] H ∧ (∀ i acc H2, I i acc H2 → ok H2) ∧
      (∀ C i m acc H2, xs[i]? = some m → I i acc H2 → TB c n C (tests ifs (compEnvC scope cl C env)) (lset (fun _ => none) x m) H2 fun b ρ4 H4 => if b = true then TV c n C (eval elt (compEnvC scope cl C env)) ρ4 H4 (fun m' _ H5 => I (i + 1) (acc ++ [m']) H5) else I (i + 1) acc H4) ∧
      (∀ acc H2, I xs.length acc H2 → ∀ D, H2 D = none → P acc H2 D) :=
  ⟨l, _, xs, _, I, rfl, begins_list hl, fun it => iter_list, hz, h0, hok, turn, hend⟩
theorem compT_intro {elt : Expr} {ifs : List Expr} {scope : Scope} {cl : List (Str × Addr)} {x : Str} {l : Addr} {xs : List MV} {P : List MV → Hp → Addr → Prop} (I : Nat → List MV → Hp → Prop) (hl : H l = some (.tuple xs)) (hz : xs.length ≤ 1000) (h0 : I 0 [] H) (hok : ∀ i acc H2, I i acc H2 → H2 l = some (.tuple xs))
    (turn : ∀ C i m acc H2, xs[i]? = some m → I i acc H2 → TB c n C (tests ifs (compEnvC scope cl C env)) (lset (fun _ => none) x m) H2 fun b ρ4 H4 => if b = true then TV c n C (eval elt (compEnvC scope cl C env)) ρ4 H4 (fun m' _ H5 => I (i + 1) (acc ++ [m']) H5) else I (i + 1) acc H4)
    (hend : ∀ acc H2, I xs.length acc H2 → ∀ D, H2 D = none → P acc H2 D) :
    ∃ (l' : Addr) (J : Nat → MObj) (xs : List MV) (ok : Hp → Prop) (I : Nat → List MV → Hp → Prop), MV.ref l = .ref l' ∧ Begins c l' J ρ H ∧ (∀ it, Iter c it J xs ok) ∧ xs.length ≤ 1000 ∧ I 0 [] H ∧ (∀ i acc H2, I i acc H2 → ok H2) ∧
      (∀ C i m acc H2, xs[i]? = some m → I i acc H2 → TB c n C (tests ifs (compEnvC scope cl C env)) (lset (fun _ => none) x m) H2 fun b ρ4 H4 => if b = true then TV c n C (eval elt (compEnvC scope cl C env)) ρ4 H4 (fun m' _ H5 => I (i + 1) (acc ++ [m']) H5) else I (i + 1) acc H4) ∧
      (∀ acc H2, I xs.length acc H2 → ∀ D, H2 D = none → P acc H2 D) :=
  ⟨l, _, xs, _, I, rfl, begins_tuple hl, fun it => iter_tuple', hz, h0, hok, turn, hend⟩
end
structure Dt where
  w : World
  h₀ : Heap
  loose : List Str
  mean : ExcName → Option Value
  mg : Str → Option Value
  mb : Str → Option Value
  gens : Array GenState
  os : OsState
noncomputable abbrev cx (d : Dt) : Cx := ⟨PySem.Challenge.rw_pq0346_01.row.prog, d.w, hd1.heap_39 d.w.params, d.h₀, topProg, d.loose, d.mean, d.mg, d.mb, d.gens, d.os⟩

theorem bt_len : bootBuiltins "len" = some (.builtin "len") := by with_unfolding_all rfl
theorem bt_abs : bootBuiltins "abs" = some (.builtin "abs") := by with_unfolding_all rfl
theorem bt_sorted : bootBuiltins "sorted" = some (.builtin "sorted") := by with_unfolding_all rfl
theorem bt_range : bootBuiltins "range" = some (.type "range") := by with_unfolding_all rfl
theorem bt_list : bootBuiltins "list" = some (.type "list") := by with_unfolding_all rfl
theorem bt_zip : bootBuiltins "zip" = some (.type "zip") := by with_unfolding_all rfl
theorem Sub.hset {H H' : Hp} {a : Addr} {o : MObj} (h : Sub H H') (hn : H a = none) : Sub H (hset H' a o) := fun b ob e => by
  rw [hset_ne (fun q => by rw [q, hn] at e; cases e)]; exact h b ob e
theorem Sub.none {H H' : Hp} {a : Addr} (h : Sub H H') (hn : H' a = none) : H a = none := by
  cases e : H a with
  | none => rfl
  | some o => have := h a o e; rw [hn] at this; cases this
theorem Sub.trans {H H' H'' : Hp} (x : Sub H H') (y : Sub H' H'') : Sub H H'' := fun a o e => y a o (x a o e)
theorem Sub.ins {H H' : Hp} {a : Addr} {o : MObj} (h : Sub H H') (e : H' a = some o) : Sub (Mine.hset H a o) H' := fun b ob q => by
  by_cases z : b = a
  · subst z; rw [hset_eq] at q; cases q; exact e
  · rw [hset_ne z] at q; exact h b ob q
theorem hloc_of {names : List (Str × NameKind)} {ps : List (Str × MV)} (h : ps.all (fun y => names.lookup y.1 == some .local) = true) : ∀ y ∈ ps, names.lookup y.1 = some .local := fun y hy => by
  have := List.all_eq_true.mp h y hy
  exact beq_iff_eq.mp this
theorem ty_append : typeOf (.builtin "list.append") = pure (.type "method_descriptor") := by with_unfolding_all rfl
theorem ty_pop : typeOf (.builtin "list.pop") = pure (.type "method_descriptor") := by with_unfolding_all rfl
theorem ty_extend : typeOf (.builtin "list.extend") = pure (.type "method_descriptor") := by with_unfolding_all rfl
theorem ty_index : typeOf (.builtin "list.index") = pure (.type "method_descriptor") := by with_unfolding_all rfl
theorem ty_remove : typeOf (.builtin "list.remove") = pure (.type "method_descriptor") := by with_unfolding_all rfl
theorem ty_dget : typeOf (.builtin "dict.get") = pure (.type "method_descriptor") := by with_unfolding_all rfl
theorem ty_dpop : typeOf (.builtin "dict.pop") = pure (.type "method_descriptor") := by with_unfolding_all rfl
theorem op_self {c : Cx} {n : Nat} {L : Addr} {ρ : Loc} {H : Hp} {Q : MV → Loc → Hp → Prop} {f x : Addr} {as : List MV} (h : OpL c n L (fun vs => call (.ref f) vs) (.ref x :: as) ρ H Q) :
    OpL c n L (fun vs => call (.ref f) ([.ref x] ++ vs)) as ρ H Q := fun vs r => h (.ref x :: vs) ⟨rfl, r⟩
theorem op_self0 {c : Cx} {n : Nat} {L : Addr} {ρ : Loc} {H : Hp} {Q : MV → Loc → Hp → Prop} {f x : Addr} (h : OpL c n L (fun vs => call (.ref f) vs) [.ref x] ρ H Q) :
    TV c n L (call (.ref f) ([.ref x] ++ [])) ρ H Q := h [.ref x] ⟨rfl, trivial⟩
theorem hset_none {H : Hp} {a b : Addr} {o : MObj} : hset H a o b = none ↔ b ≠ a ∧ H b = none := by
  unfold Mine.hset
  by_cases e : b = a <;> simp [e]
theorem len_step {xs : List MV} {P : Prop} (hz : xs.length ≤ 1000) (h : P) : xs.length ≤ 1000 ∧ P := ⟨hz, h⟩
theorem sub_get {H H' : Hp} {l : Addr} {x : MObj} (s : Sub H H') (h : H l = some x) : H' l = some x := s l x h
theorem dget_order {order : List Int} {wd : Int → Addr} {v : Int} (h : v ∈ order) : dget (order.map fun v => (v, MV.ref (wd v))) v = some (.ref (wd v)) := by
  induction order with
  | nil => cases h
  | cons a r ih =>
    unfold dget
    by_cases e : a = v
    · subst e; simp
    · simp only [List.map_cons, e, if_false]
      exact ih ((List.mem_cons.mp h).resolve_left (Ne.symm e))
theorem dget_order_none {order : List Int} {wd : Int → Addr} {v : Int} (h : v ∉ order) : dget (order.map fun v => (v, MV.ref (wd v))) v = none := by
  induction order with
  | nil => rfl
  | cons a r ih =>
    unfold dget
    have h1 : a ≠ v := fun e => h (e ▸ List.mem_cons_self)
    simp only [List.map_cons, h1, if_false]
    exact ih fun e => h (List.mem_cons_of_mem _ e)
theorem intro_none {H : Hp} {P : Addr → Prop} (h : ∀ a, H a = none → P a) : ∀ a, H a = none → P a := h
theorem snoc_cases {α : Type} (l : List α) : l = [] ∨ ∃ r x, l = r ++ [x] := by
  rcases List.eq_nil_or_concat l with h | ⟨r, x, h⟩
  · exact .inl h
  · exact .inr ⟨r, x, by rw [h, List.concat_eq_append]⟩
theorem isE_snoc {xs : List MV} {m : MV} : (xs ++ [m]).isEmpty = false := by cases xs <;> rfl
theorem ex_int {i : Int} {P : Int → Prop} (h : P i) : ∃ j, MV.int i = MV.int j ∧ P j := ⟨i, rfl, h⟩
theorem OpL.up {c : Cx} {n n' : Nat} {L : Addr} {ρ : Loc} {H : Hp} {Q : MV → Loc → Hp → Prop} {t : List Value → Sem Value} {as : List MV} (h : OpL c n L t as ρ H Q) (hn : n ≤ n') : OpL c n' L t as ρ H Q := fun vs r => TE.lift (h vs r) hn
theorem ne_of {H : Hp} {a b : Addr} {o : MObj} (h : H a = some o) (hn : H b = none) : a ≠ b := fun e => by rw [e, hn] at h; cases h
theorem ne_obj {H : Hp} {a b : Addr} {o o' : MObj} (h : H a = some o) (h' : H b = some o') (k : o ≠ o') : a ≠ b := fun e => by rw [e, h'] at h; exact k (Option.some.inj h).symm
set_option compiler.extract_closed false
local macro_rules | `(tactic| walk_at "loc") => `(tactic| first | with_reducible assumption | with_reducible exact lset_eq _ _ _ | (with_reducible refine (lset_ne (by decide +kernel)).trans ?_; walk_at "loc") | with_unfolding_all rfl)
local macro_rules | `(tactic| walk_at "get") => `(tactic| first
  | with_reducible exact hset_eq _ _ _
  | with_reducible assumption
  | (with_reducible refine sub_get (by assumption) ?_; walk_at "get")
  | (with_reducible refine hset_ne' (by assumption) ?_; walk_at "get")
  | (with_reducible refine (hset_ne (by first | assumption | exact Ne.symm (by assumption))).trans ?_; walk_at "get"))
local macro_rules | `(tactic| walk_at "dg") => `(tactic| first | with_reducible assumption | with_reducible exact dget_order (by assumption))
local macro_rules | `(tactic| walk_at "sub") => `(tactic| first
  | with_reducible exact Sub.refl _
  | with_reducible assumption
  | (with_reducible refine Sub.hset ?_ (by walk_at "non"); walk_at "sub"))
local macro_rules | `(tactic| walk_at "non") => `(tactic| first | assumption | (refine Sub.none ?_ (by assumption); walk_at "sub"))
local macro_rules | `(tactic| walk_at "num") => `(tactic| first | decide | omega | assumption | (simp only [List.length_cons, List.length_nil, List.length_map, List.length_append, List.length_set, List.length_reverse]; omega) | (simp; done) | (simp; omega))
local macro_rules | `(tactic| walk_at "m") => `(tactic| ((try dsimp only []); first
  | ((with_reducible refine' ts_cons ?_))
  | ((with_reducible refine' ts_nil ?_))
  | ((with_reducible refine' ts_return ?_))
  | ((with_reducible refine' ts_if ?_))
  | ((with_reducible refine' ts_assign ?_ ?k1); (case k1 => with_unfolding_all rfl))
  | ((with_reducible refine' ts_expr ?_ ?k1 ?k2); (case k1 => with_unfolding_all rfl); (case k2 => with_unfolding_all rfl))
  | ((with_reducible refine' ts_attr ?_ ?k1); (case k1 => with_unfolding_all rfl))
  | ((with_reducible refine' ts_sub ?_ ?k1); (case k1 => with_unfolding_all rfl))
  | ((with_reducible refine' t_int ?_))
  | ((with_reducible refine' t_str ?_))
  | ((with_reducible refine' t_none ?_))
  | ((with_reducible refine' t_bool ?_))
  | ((with_reducible refine' t_local ?k1 ?k2 ?k3 ?k4 ?_ ?k5); (case k1 => with_unfolding_all rfl); (case k2 => with_unfolding_all rfl); (case k3 => with_unfolding_all rfl); (case k4 => walk_at "loc"); (case k5 => decide +kernel))
  | ((with_reducible refine' t_gint ?k1 ?k2 ?k3 ?k4 ?k5 ?_ ?k6); (case k1 => with_reducible assumption); (case k2 => with_unfolding_all rfl); (case k3 => with_unfolding_all rfl); (case k4 => with_unfolding_all rfl); (case k5 => with_unfolding_all rfl); (case k6 => decide +kernel))
  | ((with_reducible refine' t_gref ?k1 ?k2 ?k3 ?k4 ?k5 ?_ ?k6); (case k1 => with_reducible assumption); (case k2 => with_unfolding_all rfl); (case k3 => with_unfolding_all rfl); (case k4 => with_unfolding_all rfl); (case k5 => with_unfolding_all rfl); (case k6 => decide +kernel))
  | ((with_reducible refine' t_cell ?k1 ?k2 ?k3 ?k4 ?_ ?k5); (case k1 => with_unfolding_all rfl); (case k2 => with_unfolding_all rfl); (case k3 => with_unfolding_all rfl); (case k4 => walk_at "get"); (case k5 => decide +kernel))
  | ((with_reducible refine' t_free ?k1 ?k2 ?k3 ?k4 ?_ ?k5 ?k6); (case k1 => with_unfolding_all rfl); (case k2 => with_unfolding_all rfl); (case k3 => with_unfolding_all rfl); (case k4 => walk_at "get"); (case k5 => decide +kernel); (case k6 => decide +kernel))
  | ((with_reducible refine' t_bin ?_))
  | ((with_reducible refine' t_cmp ?_ ?k1); (case k1 => with_unfolding_all rfl))
  | ((with_reducible refine' t_ifexp ?_))
  | ((with_reducible refine' t_and2 ?_))
  | ((with_reducible refine' t_unary ?_))
  | ((with_reducible refine' tt_cmp ?_ ?k1); (case k1 => with_unfolding_all rfl))
  | ((with_reducible refine' tt_not ?_))
  | ((with_reducible refine' tt_bool ?_))
  | ((with_reducible refine' ta_and ?_))
  | ((with_reducible refine' ta_or ?_))
  | ((with_reducible refine' ta_and_nil ?_))
  | ((with_reducible refine' ta_or_nil ?_))
  | ((with_reducible refine' tt_val ?_ ?k1); (case k1 => with_unfolding_all rfl))
  | ((with_reducible refine' tr_bool ?_))
  | ((with_reducible refine' ta_nil ?_))
  | ((with_reducible refine' ta_cons ?_ ?k1); (case k1 => with_unfolding_all rfl))
  | ((with_reducible refine' t_list ?_))
  | ((with_reducible refine' t_tuple ?_))
  | ((with_reducible refine' t_sub ?_))
  | ((with_reducible refine' t_slice ?_))
  | ((with_reducible refine' tp_none ?_))
  | ((with_reducible refine' tp_some ?_))
  | ((with_reducible refine' tu_store ?k1 ?k2 ?k3 ?_); (case k1 => with_unfolding_all rfl); (case k2 => with_unfolding_all rfl); (case k3 => with_unfolding_all rfl))
  | ((with_reducible refine' tu_cell ?k1 ?k2 ?k3 ?k4 ?_); (case k1 => with_unfolding_all rfl); (case k2 => with_unfolding_all rfl); (case k3 => with_unfolding_all rfl); (case k4 => walk_at "get"))
  | ((with_reducible refine' t_callG ?k1 ?k2 ?k3 ?k4 ?k5 ?k6 ?_ ?k7 ?k8 ?k9 ?k10); (case k1 => with_reducible assumption); (case k2 => with_unfolding_all rfl); (case k3 => with_unfolding_all rfl); (case k4 => with_unfolding_all rfl); (case k5 => with_unfolding_all rfl); (case k6 => kernel_rfl); (case k7 => decide +kernel); (case k8 => with_unfolding_all rfl); (case k9 => with_unfolding_all rfl); (case k10 => with_unfolding_all rfl))
  | ((with_reducible refine' t_callB ?k1 ?k2 ?k3 ?k4 ?k5 ?k6 ?k7 ?k8 ?_ ?k9 ?k10 ?k11 ?k12); (case k1 => with_reducible assumption); (case k2 => with_unfolding_all rfl); (case k3 => with_unfolding_all rfl); (case k4 => with_unfolding_all rfl); (case k5 => with_unfolding_all rfl); (case k6 => with_unfolding_all rfl); (case k7 => first | with_reducible exact bt_len | with_reducible exact bt_abs | with_reducible exact bt_sorted); (case k8 => decide +kernel); (case k9 => decide +kernel); (case k10 => with_unfolding_all rfl); (case k11 => with_unfolding_all rfl); (case k12 => with_unfolding_all rfl))
  | ((with_reducible refine' t_callT ?k1 ?k2 ?k3 ?k4 ?k5 ?k6 ?k7 ?k8 ?_ ?k9 ?k10 ?k11 ?k12); (case k1 => with_reducible assumption); (case k2 => with_unfolding_all rfl); (case k3 => with_unfolding_all rfl); (case k4 => with_unfolding_all rfl); (case k5 => with_unfolding_all rfl); (case k6 => with_unfolding_all rfl); (case k7 => first | with_reducible exact bt_range | with_reducible exact bt_list | with_reducible exact bt_zip); (case k8 => decide +kernel); (case k9 => decide +kernel); (case k10 => with_unfolding_all rfl); (case k11 => with_unfolding_all rfl); (case k12 => with_unfolding_all rfl))
  | ((with_reducible refine' t_attr ?_ ?k1); (case k1 => with_unfolding_all rfl))
  | ((with_reducible refine' o_field ?k1 ?k2 ?k3 ?k4 ?k5 ?k6 ?k7 ?k8 ?_); (case k1 => with_reducible assumption); (case k2 => walk_at "get"); (case k3 => kernel_rfl); (case k4 => kernel_rfl); (case k5 => with_unfolding_all rfl); (case k6 => kernel_rfl); (case k7 => with_unfolding_all rfl); (case k8 => with_unfolding_all rfl))
  | ((with_reducible refine' u_setAttr ?k1 ?k2 ?k3 ?k4 ?k5 ?k6 ?k7 ?_); (case k1 => with_reducible assumption); (case k2 => walk_at "get"); (case k3 => kernel_rfl); (case k4 => kernel_rfl); (case k5 => kernel_rfl); (case k6 => kernel_rfl); (case k7 => exact Nat.le_of_ble_eq_true (by kernel_rfl)))
  | ((with_reducible refine' t_meth ?_ ?k1); (case k1 => with_unfolding_all rfl))
  | ((with_reducible refine' m_inst ?k1 ?k2 ?k3 ?k4 ?k5 ?k6 ?_); (case k1 => with_reducible assumption); (case k2 => walk_at "get"); (case k3 => kernel_rfl); (case k4 => with_unfolding_all rfl); (case k5 => kernel_rfl); (case k6 => kernel_rfl))
  | ((with_reducible refine' m_list ?k1 ?k2 ?k3 ?_); (case k1 => walk_at "get"); (case k2 => first | with_reducible exact PySem.F.slot_list_append | with_reducible exact PySem.F.slot_list_pop | with_reducible exact PySem.F.slot_list_extend | with_reducible exact PySem.F.slot_list_index | with_reducible exact PySem.F.slot_list_remove); (case k3 => first | with_reducible exact ty_append | with_reducible exact ty_pop | with_reducible exact ty_extend | with_reducible exact ty_index | with_reducible exact ty_remove))
  | ((with_reducible refine' m_dict ?k1 ?k2 ?k3 ?_); (case k1 => walk_at "get"); (case k2 => first | with_reducible exact PySem.F.slot_dict_get | with_reducible exact PySem.F.slot_dict_pop); (case k3 => first | with_reducible exact ty_dget | with_reducible exact ty_dpop))
  | ((with_reducible refine' tw_builtin ?_ ?k1 ?k2); (case k1 => with_unfolding_all rfl); (case k2 => with_unfolding_all rfl))
  | ((with_reducible refine' tw_builtin0 ?_))
  | ((with_reducible refine' tw_K ?k1 ?k2 ?_ ?k3 ?k4); (case k1 => with_reducible assumption); (case k2 => kernel_rfl); (case k3 => with_unfolding_all rfl); (case k4 => with_unfolding_all rfl))
  | ((with_reducible refine' tw_K0 ?k1 ?k2 ?_); (case k1 => with_reducible assumption); (case k2 => kernel_rfl))
  | ((with_reducible refine' f_pop ?k1 ?k2 ?_); (case k1 => walk_at "get"); (case k2 => walk_at "num"))
  | ((with_reducible refine' o_slice ?k1 ?k2 ?k3 ?k4 ?k5 ?_ ?k6); (case k1 => walk_at "get"); (case k2 => walk_at "get"); (case k3 => decide); (case k4 => walk_at "num"); (case k5 => first | with_reducible exact pick_rev | with_reducible exact pick_upto _ | with_reducible exact pick_from _); (case k6 => intro _ _; exact ⟨_, by with_unfolding_all rfl⟩))
  | ((with_reducible refine' op_self ?_))
  | ((with_reducible refine' u_sub ?_))
  | ((with_reducible refine' u_name ?_))
  | ((with_reducible refine' u_attr ?_))
  | ((with_reducible refine' t_dict ?k1 ?_); (case k1 => with_reducible assumption))
  | ((with_reducible refine' f_dget ?k1 ?_); (case k1 => walk_at "get"))
  | ((with_reducible refine' tb_none ?_))
  | ((with_reducible refine' tb_one ?_))
  | ((with_reducible refine' ex_int ?_))
  | ((with_reducible refine' op_self0 ?_))
  | ((with_reducible refine' c_neNil ?k1 ?k2 ?_); (case k1 => walk_at "get"); (case k2 => walk_at "get"))
  | ((with_reducible refine' c_eqNil ?k1 ?k2 ?_); (case k1 => walk_at "get"); (case k2 => walk_at "get"))
  | ((with_reducible refine' c_neL ?k1 ?k2 ?_); (case k1 => walk_at "get"); (case k2 => walk_at "get"))
  | ((with_reducible refine' c_eqL ?k1 ?k2 ?_); (case k1 => walk_at "get"); (case k2 => walk_at "get"))
  | ((with_reducible refine' o_ditem ?k1 ?k2 ?_ ?k3); (case k1 => walk_at "get"); (case k2 => walk_at "dg"); (case k3 => intro _ _ _; with_unfolding_all rfl))
  | ((with_reducible refine' u_setDict ?k1 ?k2 ?_); (case k1 => walk_at "get"); (case k2 => walk_at "num"))
  | ((with_reducible refine' f_append ?k1 ?k2 ?_); (case k1 => walk_at "get"); (case k2 => walk_at "num"))
  | ((with_reducible refine' f_extend ?k1 ?k2 ?k3 ?_); (case k1 => walk_at "get"); (case k2 => walk_at "get"); (case k3 => walk_at "num"))
  | ((with_reducible refine' u_setItem ?k1 ?k2 ?k3 ?k4 ?_); (case k1 => walk_at "get"); (case k2 => walk_at "num"); (case k3 => walk_at "num"); (case k4 => walk_at "num"))
  | ((with_reducible refine' c_eq ?_))
  | ((with_reducible refine' c_ne ?_))
  | ((with_reducible refine' c_le ?_))
  | ((with_reducible refine' c_ge ?_))
  | ((with_reducible refine' c_str ?_))
  | ((with_reducible refine' c_isNone_ref ?_))
  | ((with_reducible refine' c_isNone_none ?_))
  | ((with_reducible refine' o_add ?_))
  | ((with_reducible refine' o_sub ?_))
  | ((with_reducible refine' o_mod ?k1 ?_); (case k1 => walk_at "num"))
  | ((with_reducible refine' u_neg ?_))
  | ((with_reducible refine' f_abs ?_))
  | ((with_reducible refine' f_len ?k1 ?k2 ?_); (case k1 => walk_at "get"); (case k2 => walk_at "num"))
  | ((with_reducible refine' o_item ?k1 ?k2 ?k3 ?k4 ?_ ?k5); (case k1 => walk_at "get"); (case k2 => walk_at "num"); (case k3 => walk_at "num"); (case k4 => with_unfolding_all rfl); (case k5 => intro _ _ _; with_unfolding_all rfl))
  | ((with_reducible refine' len_step ?k1 ?_); (case k1 => exact Nat.le_of_ble_eq_true (by kernel_rfl)); intro _ _)
  | (with_reducible refine' intro_none ?_; intro _ _)
  ))
section
variable {d : Dt} {n : Nat} {L : Addr} {ρ : Loc} {H : Hp} {Q : MV → Loc → Hp → Prop}
set_option pp.deepTerms false
set_option pp.deepTerms.threshold 6
theorem c_along (hc : (cx d).Ok) {srt : Int} (h : Q (.int (if (srt == 2) = true then 0 else 1)) ρ H) : OpL (cx d) (n+1) L (fun vs => call (.ref 175) vs) [.int srt] ρ H Q := by
  refine f_call hc (ho := by with_unfolding_all rfl) (hcd := by with_unfolding_all rfl) (hb := binds1 (x := "sort") fun v => by with_unfolding_all rfl) (hloc := hloc_of (by with_unfolding_all rfl)) ?_
  intro L'
  repeat walk_at "m"
  split <;> rename_i q <;> repeat walk_at "m"
  · rw [if_pos q] at h; exact ⟨H, Sub.refl _, h⟩
  · rw [if_neg q] at h; exact ⟨H, Sub.refl _, h⟩
theorem c_sortAlong (hc : (cx d).Ok) {ax : Int} (h : Q (.int (if (ax == 0) = true then 2 else 1)) ρ H) : OpL (cx d) (n+1) L (fun vs => call (.ref 182) vs) [.int ax] ρ H Q := by
  refine f_call hc (ho := by with_unfolding_all rfl) (hcd := by with_unfolding_all rfl) (hb := binds1 (x := "axis") fun v => by with_unfolding_all rfl) (hloc := hloc_of (by with_unfolding_all rfl)) ?_
  intro L'
  repeat walk_at "m"
  split <;> rename_i q <;> repeat walk_at "m"
  · rw [if_pos q] at h; exact ⟨H, Sub.refl _, h⟩
  · rw [if_neg q] at h; exact ⟨H, Sub.refl _, h⟩
theorem c_draw (hc : (cx d).Ok) {dk cs : Addr} {cells : List Int} {k many : Int} (hd : H dk = some (.list [.ref cs, .int k])) (hcs : H cs = some (.list (cells.map .int))) (hk : 0 ≤ k ∧ k ≤ 1000) (hz : cells.length ≤ 1000) (hm : 0 < many)
    (h : ∀ r, 0 ≤ r → r < many → Q (.int r) ρ (hset H dk (.list [.ref cs, .int (k + 1)]))) : OpL (cx d) (n+1) L (fun vs => call (.ref 231) vs) [.ref dk, .int many] ρ H Q := by
  refine f_call hc (ho := by with_unfolding_all rfl) (hcd := by with_unfolding_all rfl) (hb := binds2 (x := "deck") (y := "many") fun v w => by with_unfolding_all rfl) (hloc := hloc_of (by with_unfolding_all rfl)) ?_
  intro L'
  have hne : cs ≠ dk := ne_obj hcs hd (by intro e; cases cells <;> simp at e)
  repeat walk_at "m"
  split <;> rename_i q <;> repeat walk_at "m"
  · have q' : k + 1 ≤ (cells.length : Int) := by simpa using q
    have hi : k.toNat < cells.length := by omega
    have ek : (k + 1 - 1).toNat = k.toNat := by omega
    refine o_item (m := .int (cells[k.toNat])) (by walk_at "get") (by omega) (by simp; omega) (by rw [ek]; simp [hi]) ?_ (by intro _ _ _; with_unfolding_all rfl)
    repeat walk_at "m"
    exact ⟨_, Sub.refl _, h _ (Int.fmod_nonneg_of_pos _ hm) (Int.fmod_lt_of_pos _ hm)⟩
  · refine o_mul (.of_left (intBits_le_64 (by omega) (by omega))) ?_
    repeat walk_at "m"
    refine o_mul (.of_right (intBits_le_64 (by decide) (by decide))) ?_
    repeat walk_at "m"
    refine o_mul (.of_left (intBits_le_64 (by decide) (by decide))) ?_
    repeat walk_at "m"
    refine o_mul (.of_left (intBits_le_64 (by decide) (by decide))) ?_
    repeat walk_at "m"
    refine o_div (by decide) (by decide) ?_
    repeat walk_at "m"
    exact ⟨_, Sub.refl _, h _ (Int.fmod_nonneg_of_pos _ hm) (Int.fmod_lt_of_pos _ hm)⟩

/-- what a window holds -/
structure WR where
  sort : Int
  par : Int
  left : Int
  top : Int
  width : Int
  height : Int
  buffer : Int
  time : Int
  cl : Addr
  el : Addr
  ll : Addr
abbrev winFs (v : Int) (r : WR) : List (Str × MV) := [("number", .int v), ("sort", .int r.sort), ("parent", .int r.par), ("children", .ref r.cl), ("left", .int r.left), ("top", .int r.top), ("width", .int r.width), ("height", .int r.height),
  ("buffer", .int r.buffer), ("start", .int 1), ("point", .int 1), ("hscroll", .int 0), ("is_dedicated", .bool false), ("use_time", .int r.time), ("earlier", .ref r.el), ("later", .ref r.ll)]
abbrev win (v : Int) (r : WR) : MObj := .inst 93 (winFs v r)
structure TR where
  dw : Addr
  last : Int
  clock : Int
  root : Int
  sel : Int
abbrev treeFs (t : TR) : List (Str × MV) := [("windows", .ref t.dw), ("last", .int t.last), ("clock", .int t.clock), ("least_width", .int 10), ("least_height", .int 4), ("root", .int t.root), ("selected", .int t.sel)]
abbrev tre (t : TR) : MObj := .inst 164 (treeFs t)

theorem c_size (hc : (cx d).Ok) {x : Addr} {v ax : Int} {r : WR} (hx : H x = some (win v r)) (h : Q (.int (if (ax == 0) = true then r.width else r.height)) ρ H) : OpL (cx d) (n+1) L (fun vs => call (.ref 62) vs) [.ref x, .int ax] ρ H Q := by
  refine f_call hc (ho := by with_unfolding_all rfl) (hcd := by with_unfolding_all rfl) (hb := binds2 (x := "self") (y := "axis") fun v w => by with_unfolding_all rfl) (hloc := hloc_of (by with_unfolding_all rfl)) ?_
  intro L'
  repeat walk_at "m"
  split <;> rename_i q <;> repeat walk_at "m"
  · rw [if_pos q] at h; exact ⟨H, Sub.refl _, h⟩
  · rw [if_neg q] at h; exact ⟨H, Sub.refl _, h⟩
theorem c_place (hc : (cx d).Ok) {x : Addr} {v ax : Int} {r : WR} (hx : H x = some (win v r)) (h : Q (.int (if (ax == 0) = true then r.left else r.top)) ρ H) : OpL (cx d) (n+1) L (fun vs => call (.ref 76) vs) [.ref x, .int ax] ρ H Q := by
  refine f_call hc (ho := by with_unfolding_all rfl) (hcd := by with_unfolding_all rfl) (hb := binds2 (x := "self") (y := "axis") fun v w => by with_unfolding_all rfl) (hloc := hloc_of (by with_unfolding_all rfl)) ?_
  intro L'
  repeat walk_at "m"
  split <;> rename_i q <;> repeat walk_at "m"
  · rw [if_pos q] at h; exact ⟨H, Sub.refl _, h⟩
  · rw [if_neg q] at h; exact ⟨H, Sub.refl _, h⟩
theorem c_setSize (hc : (cx d).Ok) {x : Addr} {v ax k : Int} {r : WR} (hx : H x = some (win v r)) (h : Q .none ρ (hset H x (win v (if (ax == 0) = true then { r with width := k } else { r with height := k })))) :
    OpL (cx d) (n+1) L (fun vs => call (.ref 69) vs) [.ref x, .int ax, .int k] ρ H Q := by
  refine f_call hc (ho := by with_unfolding_all rfl) (hcd := by with_unfolding_all rfl) (hb := binds3 (x := "self") (y := "axis") (z := "size") fun v w u => by with_unfolding_all rfl) (hloc := hloc_of (by with_unfolding_all rfl)) ?_
  intro L'
  repeat walk_at "m"
  split <;> rename_i q <;> repeat walk_at "m"
  · rw [if_pos q] at h; exact ⟨_, Sub.refl _, h⟩
  · rw [if_neg q] at h; exact ⟨_, Sub.refl _, h⟩
theorem c_leastLeaf (hc : (cx d).Ok) {x : Addr} {ax : Int} {r : TR} (hx : H x = some (tre r)) (h : Q (.int (if (ax == 0) = true then 10 else 4)) ρ H) : OpL (cx d) (n+1) L (fun vs => call (.ref 154) vs) [.ref x, .int ax] ρ H Q := by
  refine f_call hc (ho := by with_unfolding_all rfl) (hcd := by with_unfolding_all rfl) (hb := binds2 (x := "self") (y := "axis") fun v w => by with_unfolding_all rfl) (hloc := hloc_of (by with_unfolding_all rfl)) ?_
  intro L'
  repeat walk_at "m"
  split <;> rename_i q <;> repeat walk_at "m"
  · rw [if_pos q] at h; exact ⟨H, Sub.refl _, h⟩
  · rw [if_neg q] at h; exact ⟨H, Sub.refl _, h⟩


set_option maxHeartbeats 2000000 in
/-- a window is made -/
theorem c_winInit (hc : (cx d).Ok) {num srt par : Int} (h : ∀ x cl el ll, H cl = none → H el = none → H ll = none → H x = none → cl ≠ el → cl ≠ ll → el ≠ ll → x ≠ cl → x ≠ el → x ≠ ll →
      Q (.ref x) ρ (hset (hset (hset (hset H cl (.list [])) el (.list [])) ll (.list [])) x (win num ⟨srt, par, 0, 0, 0, 0, 0, 0, cl, el, ll⟩))) :
    OpL (cx d) (n+1) L (fun vs => call (.ref 93) vs) [.int num, .int srt, .int par] ρ H Q := by
  refine f_new hc (hm := by with_unfolding_all rfl) (hi := by with_unfolding_all rfl) (hf := by with_unfolding_all rfl) (ho := by with_unfolding_all rfl) (hcd := by with_unfolding_all rfl)
    (pst := fun x => [("self", .ref x), ("number", .int num), ("sort", .int srt), ("parent", .int par)]) (hb := fun x => binds4 fun v w u q => by with_unfolding_all rfl) (hloc := fun x => hloc_of (by with_unfolding_all rfl)) ?_
  intro x L' hx
  repeat walk_at "m"
  rename_i cl hcl el hel ll hll
  simp only [hset_none] at hcl hel hll
  have n1 : H cl = none := by simp_all
  have n2 : H el = none := by simp_all
  have n3 : H ll = none := by simp_all
  have e1 : cl ≠ el := by rintro rfl; simp_all
  have e2 : cl ≠ ll := by rintro rfl; simp_all
  have e3 : el ≠ ll := by rintro rfl; simp_all
  have e4 : x ≠ cl := by rintro rfl; simp_all
  have e5 : x ≠ el := by rintro rfl; simp_all
  have e6 : x ≠ ll := by rintro rfl; simp_all
  refine ⟨_, ?_, h x cl el ll n1 n2 n3 hx e1 e2 e3 e4 e5 e6⟩
  refine Sub.ins (Sub.ins (Sub.ins (Sub.ins ?_ ?_) ?_) ?_) ?_
  · walk_at "sub"
  · walk_at "get"
  · walk_at "get"
  · walk_at "get"
  · exact hset_eq _ _ _
end
structure Shp where
  kids : Int → List Int
  all : Int → List Int
def Shp.Ok (S : Shp) (D : List Int) : Prop := ∀ x ∈ D, S.all x = x :: (S.kids x).flatMap S.all ∧ ∀ y ∈ S.kids x, y ∈ D
structure TreeAt (S : Shp) (t : TR) (tr : Addr) (order : List Int) (wd : Int → Addr) (wr : Int → WR) (H : Hp) : Prop where
  tr : H tr = some (tre t)
  dw : H t.dw = some (.dict (order.map fun v => (v, .ref (wd v))))
  wn : ∀ v ∈ order, H (wd v) = some (win v (wr v))
  ch : ∀ v ∈ order, H (wr v).cl = some (.list ((S.kids v).map .int))
  ci : ∀ v ∈ order, ∀ u ∈ order, (wr v).cl = (wr u).cl → v = u
theorem TreeAt.sub {S : Shp} {t : TR} {tr : Addr} {order : List Int} {wd : Int → Addr} {wr : Int → WR} {H H' : Hp} (x : TreeAt S t tr order wd wr H) (s : Sub H H') : TreeAt S t tr order wd wr H' :=
  ⟨s _ _ x.tr, s _ _ x.dw, fun v hv => s _ _ (x.wn v hv), fun v hv => s _ _ (x.ch v hv), x.ci⟩
theorem TreeAt.setTree {S : Shp} {t t' : TR} {tr : Addr} {order : List Int} {wd : Int → Addr} {wr : Int → WR} {H : Hp} (x : TreeAt S t tr order wd wr H) (e : t'.dw = t.dw) : TreeAt S t' tr order wd wr (hset H tr (tre t')) :=
  ⟨hset_eq _ _ _, by rw [e]; exact (hset_ne (ne_obj x.dw x.tr (by simp))).trans x.dw, fun v hv => (hset_ne (ne_obj (x.wn v hv) x.tr (by simp))).trans (x.wn v hv), fun v hv => (hset_ne (ne_obj (x.ch v hv) x.tr (by simp))).trans (x.ch v hv), x.ci⟩
def upd {α : Type} (f : Int → α) (k : Int) (a : α) : Int → α := fun x => if x = k then a else f x
theorem upd_eq {α : Type} (f : Int → α) (k : Int) (a : α) : upd f k a k = a := by simp [upd]
theorem upd_ne {α : Type} {f : Int → α} {k x : Int} {a : α} (h : x ≠ k) : upd f k a x = f x := by simp [upd, h]
theorem TreeAt.wne {S : Shp} {t : TR} {tr : Addr} {order : List Int} {wd : Int → Addr} {wr : Int → WR} {H : Hp} (x : TreeAt S t tr order wd wr H) {u v : Int} (hu : u ∈ order) (hv : v ∈ order) (h : u ≠ v) : wd u ≠ wd v :=
  ne_obj (x.wn u hu) (x.wn v hv) (by simp [h])
theorem TreeAt.setWin {S : Shp} {t : TR} {tr : Addr} {order : List Int} {wd : Int → Addr} {wr : Int → WR} {H : Hp} (x : TreeAt S t tr order wd wr H) {v : Int} {r : WR} (hv : v ∈ order) (e : r.cl = (wr v).cl) : TreeAt S t tr order wd (upd wr v r) (hset H (wd v) (win v r)) := by
  have hcl : ∀ u, (upd wr v r u).cl = (wr u).cl := fun u => by
    by_cases q : u = v
    · subst q; rw [upd_eq, e]
    · rw [upd_ne q]
  refine ⟨(hset_ne (ne_obj x.tr (x.wn v hv) (by simp))).trans x.tr, (hset_ne (ne_obj x.dw (x.wn v hv) (by simp))).trans x.dw, fun u hu => ?_, fun u hu => ?_, fun u hu w hw q => x.ci u hu w hw (by rwa [hcl, hcl] at q)⟩
  · by_cases q : u = v
    · subst q; rw [upd_eq]; exact hset_eq _ _ _
    · rw [upd_ne q]; exact (hset_ne (x.wne hu hv q)).trans (x.wn u hu)
  · rw [hcl]; exact (hset_ne (ne_obj (x.ch u hu) (x.wn v hv) (by simp))).trans (x.ch u hu)
/-- a children's list turned -/
theorem TreeAt.setKids {S : Shp} {t : TR} {tr : Addr} {order : List Int} {wd : Int → Addr} {wr : Int → WR} {H : Hp} (x : TreeAt S t tr order wd wr H) {v : Int} {l : List Int} (hv : v ∈ order) : TreeAt ⟨upd S.kids v l, S.all⟩ t tr order wd wr (hset H (wr v).cl (.list (l.map .int))) := by
  refine ⟨(hset_ne (ne_obj x.tr (x.ch v hv) (by simp))).trans x.tr, (hset_ne (ne_obj x.dw (x.ch v hv) (by simp))).trans x.dw, fun u hu => (hset_ne (ne_obj (x.wn u hu) (x.ch v hv) (by simp))).trans (x.wn u hu), fun u hu => ?_, x.ci⟩
  by_cases q : u = v
  · subst q; dsimp only; rw [upd_eq]; exact hset_eq _ _ _
  · dsimp only; rw [upd_ne q]; exact (hset_ne fun e => q (x.ci u hu v hv e)).trans (x.ch u hu)
/-- a new children's list -/
theorem TreeAt.newKids {S : Shp} {t : TR} {tr : Addr} {order : List Int} {wd : Int → Addr} {wr : Int → WR} {H : Hp} (x : TreeAt S t tr order wd wr H) {v : Int} {l : List Int} {a : Addr} (hv : v ∈ order) (ha : H a = none) :
    TreeAt ⟨upd S.kids v l, S.all⟩ t tr order wd (upd wr v { wr v with cl := a }) (hset (hset H a (.list (l.map .int))) (wd v) (win v { wr v with cl := a })) := by
  have y := x.sub ((Sub.refl H).hset (o := .list (l.map .int)) ha)
  refine ⟨(hset_ne (ne_obj y.tr (y.wn v hv) (by simp))).trans y.tr, (hset_ne (ne_obj y.dw (y.wn v hv) (by simp))).trans y.dw, fun u hu => ?_, fun u hu => ?_, fun u hu w hw q => ?_⟩
  · by_cases q : u = v
    · subst q; rw [upd_eq]; exact hset_eq _ _ _
    · rw [upd_ne q]; exact (hset_ne (x.wne hu hv q)).trans (y.wn u hu)
  · by_cases q : u = v
    · subst q; rw [upd_eq]; dsimp only; rw [upd_eq]
      exact (hset_ne (Ne.symm (ne_of (x.wn u hu) ha))).trans (hset_eq _ _ _)
    · dsimp only; rw [upd_ne q, upd_ne q]; exact (hset_ne (ne_obj (y.ch u hu) (y.wn v hv) (by simp))).trans (y.ch u hu)
  · have ne1 : ∀ z ∈ order, (wr z).cl ≠ a := fun z hz => ne_of (x.ch z hz) ha
    by_cases q1 : u = v <;> by_cases q2 : w = v
    · rw [q1, q2]
    · rw [q1, upd_eq, upd_ne q2] at q; exact absurd q.symm (ne1 w hw)
    · rw [q2, upd_eq, upd_ne q1] at q; exact absurd q (ne1 u hu)
    · rw [upd_ne q1, upd_ne q2] at q; exact x.ci u hu w hw q
/-- a window more -/
theorem TreeAt.fresh {S : Shp} {t : TR} {tr : Addr} {order : List Int} {wd : Int → Addr} {wr : Int → WR} {H : Hp} (T : TreeAt S t tr order wd wr H) {r : WR} (hn : t.last + 1 ∉ order) (hk : S.kids (t.last + 1) = []) {x el ll : Addr}
    (n1 : H r.cl = none) (n2 : H el = none) (n3 : H ll = none) (n4 : H x = none) (d1 : r.cl ≠ el) (d2 : r.cl ≠ ll) (d3 : el ≠ ll) (d4 : x ≠ r.cl) (d5 : x ≠ el) (d6 : x ≠ ll) :
    TreeAt S { t with last := t.last + 1 } tr (order ++ [t.last + 1]) (upd wd (t.last + 1) x) (upd wr (t.last + 1) r)
      (hset (hset (hset (hset (hset (hset H tr (tre { t with last := t.last + 1 })) r.cl (.list [])) el (.list [])) ll (.list [])) x (win (t.last + 1) r)) t.dw (.dict (order.map (fun v => (v, MV.ref (wd v))) ++ [(t.last + 1, .ref x)]))) := by
  have nk : ∀ u ∈ order, u ≠ t.last + 1 := fun u hu e => hn (e ▸ hu)
  have e0 : order.map (fun v => (v, MV.ref (upd wd (t.last + 1) x v))) = order.map (fun v => (v, MV.ref (wd v))) := List.map_congr_left fun u hu => by rw [upd_ne (nk u hu)]
  have old : ∀ b o, H b = some o → b ≠ tr → b ≠ t.dw → (hset (hset (hset (hset (hset (hset H tr (tre { t with last := t.last + 1 })) r.cl (.list [])) el (.list [])) ll (.list [])) x (win (t.last + 1) r)) t.dw (.dict (order.map (fun v => (v, MV.ref (wd v))) ++ [(t.last + 1, .ref x)]))) b = some o := fun b o e h1 h2 => by
    rw [hset_ne h2, hset_ne (ne_of e n4), hset_ne (ne_of e n3), hset_ne (ne_of e n2), hset_ne (ne_of e n1), hset_ne h1]; exact e
  refine ⟨?_, ?_, fun u hu => ?_, fun u hu => ?_, fun u hu w hw q => ?_⟩
  · rw [hset_ne (ne_obj T.tr T.dw (by simp)), hset_ne (ne_of T.tr n4), hset_ne (ne_of T.tr n3), hset_ne (ne_of T.tr n2), hset_ne (ne_of T.tr n1), hset_eq]
  · rw [List.map_append, List.map_cons, List.map_nil, upd_eq, e0]; exact hset_eq _ _ _
  · rcases List.mem_append.mp hu with hu | hu
    · rw [upd_ne (nk u hu), upd_ne (nk u hu)]; exact old _ _ (T.wn u hu) (ne_obj (T.wn u hu) T.tr (by simp)) (ne_obj (T.wn u hu) T.dw (by simp))
    · rw [List.mem_singleton.mp hu, upd_eq, upd_eq, hset_ne (Ne.symm (ne_of T.dw n4))]; exact hset_eq _ _ _
  · rcases List.mem_append.mp hu with hu | hu
    · rw [upd_ne (nk u hu)]; exact old _ _ (T.ch u hu) (ne_obj (T.ch u hu) T.tr (by simp)) (ne_obj (T.ch u hu) T.dw (by simp))
    · rw [List.mem_singleton.mp hu, upd_eq, hk, hset_ne (Ne.symm (ne_of T.dw n1)), hset_ne (Ne.symm d4), hset_ne d2, hset_ne d1]; exact hset_eq _ _ _
  · have ne1 : ∀ z ∈ order, (wr z).cl ≠ r.cl := fun z hz => ne_of (T.ch z hz) n1
    rcases List.mem_append.mp hu with hu | hu <;> rcases List.mem_append.mp hw with hw | hw
    · rw [upd_ne (nk u hu), upd_ne (nk w hw)] at q; exact T.ci u hu w hw q
    · rw [List.mem_singleton.mp hw, upd_eq, upd_ne (nk u hu)] at q; exact absurd q (ne1 u hu)
    · rw [List.mem_singleton.mp hu, upd_eq, upd_ne (nk w hw)] at q; exact absurd q.symm (ne1 w hw)
    · rw [List.mem_singleton.mp hu, List.mem_singleton.mp hw]
theorem len_flat {f : Int → List Int} : ∀ {l : List Int}, (∀ y ∈ l, 1 ≤ (f y).length) → l.length ≤ (l.flatMap f).length
  | [], _ => Nat.le_refl _
  | a :: r, h => by
    rw [List.flatMap_cons, List.length_append, List.length_cons]
    have h1 := h a List.mem_cons_self
    have h2 := len_flat fun y hy => h y (List.mem_cons_of_mem _ hy)
    omega

section
variable {d : Dt} {n : Nat} {L : Addr} {ρ : Loc} {H : Hp} {Q : MV → Loc → Hp → Prop}
variable {S : Shp} {t : TR} {tr : Addr} {order : List Int} {wd : Int → Addr} {wr : Int → WR}
set_option pp.deepTerms false
set_option pp.deepTerms.threshold 6

set_option maxHeartbeats 4000000 in
theorem c_windowsUnder (hc : (cx d).Ok) (hT : TreeAt S t tr order wd wr H) (hS : S.Ok order) {r : Int} (hr : r ∈ order) (hz : (S.all r).length ≤ 1000) (h : ∀ a, H a = none → Q (.ref a) ρ (hset H a (.list ((S.all r).map .int)))) :
    OpL (cx d) (n+1) L (fun vs => call (.ref 203) vs) [.ref tr, .int r] ρ H Q := by
  refine f_call hc (ho := by with_unfolding_all rfl) (hcd := by with_unfolding_all rfl) (hb := binds2 (x := "tree") (y := "number") fun v w => by with_unfolding_all rfl) (hloc := hloc_of (by with_unfolding_all rfl)) ?_
  intro L'
  repeat walk_at "m"
  rename_i fl hfl wl hwl
  have hne : fl ≠ wl := ((hset_none.mp hwl).1).symm
  have hwl' : H wl = none := (hset_none.mp hwl).2
  refine ts_while (fun k ρ' H' => ∃ (st fd : List Int), k = (st.reverse.flatMap S.all).length ∧ (∀ x ∈ st, x ∈ order) ∧ fd ++ st.reverse.flatMap S.all = S.all r ∧ ρ' "tree" = some (.ref tr) ∧ ρ' "found" = some (.ref fl) ∧ ρ' "waiting" = some (.ref wl) ∧
    Sub H H' ∧ H' fl = some (.list (fd.map .int)) ∧ H' wl = some (.list (st.map .int))) (S.all r).length ⟨[r], [], ?_⟩ ?_
  · refine ⟨by simp, by simpa using hr, by simp, by walk_at "loc", by walk_at "loc", by walk_at "loc", ?_, ?_, ?_⟩
    · exact ((Sub.refl H).hset hfl).hset hwl'
    · show _ = some (MObj.list []); walk_at "get"
    · exact hset_eq _ _ _
  · rintro k ρ' H' ⟨st, fd, hk, hst, hfd, r1, r2, r3, sb, g1, g2⟩
    have gtr := sb _ _ hT.tr
    have gdw := sb _ _ hT.dw
    have hn1 : tr ≠ fl := ne_of hT.tr hfl
    have hn2 : tr ≠ wl := ne_of hT.tr hwl'
    have hn3 : t.dw ≠ fl := ne_of hT.dw hfl
    have hn4 : t.dw ≠ wl := ne_of hT.dw hwl'
    rcases snoc_cases st with rfl | ⟨st, x, rfl⟩
    · repeat walk_at "m"
      simp only [List.map_nil, List.isEmpty_nil, Bool.not_true, Bool.false_eq_true, if_false]
      repeat walk_at "m"
      have e : fd = S.all r := by simpa using hfd
      subst e
      rename_i a ha
      refine ⟨_, Sub.ins (by walk_at "sub") (by walk_at "get"), h fl hfl⟩
    · have hx : x ∈ order := hst x (by simp)
      have hxe := (hS x hx).1
      have gw := sb _ _ (hT.wn x hx)
      have gc := sb _ _ (hT.ch x hx)
      have hn5 := ne_of (hT.wn x hx) hfl
      have hn6 := ne_of (hT.wn x hx) hwl'
      have hn7 := ne_of (hT.ch x hx) hfl
      have hn8 := ne_of (hT.ch x hx) hwl'
      rw [List.map_append, List.map_cons, List.map_nil] at g2
      rw [List.reverse_append, List.reverse_cons, List.reverse_nil, List.nil_append, List.singleton_append, List.flatMap_cons] at hk hfd
      have hlen := congrArg List.length hfd
      simp only [List.length_append] at hlen
      have hall : ∀ l : List Int, (∀ y ∈ l, y ∈ order) → l.length ≤ (l.flatMap S.all).length := fun l hl => len_flat fun y hy => by rw [(hS y (hl y hy)).1]; simp
      have b1 : st.length ≤ 1000 := by have := hall st.reverse (fun y hy => hst y (by simp_all)); simp only [List.length_reverse] at this; omega
      have b2 : (S.kids x).length ≤ 1000 := by
        have := hall (S.kids x) (hS x hx).2
        have e := congrArg List.length hxe
        simp only [List.length_cons] at e
        omega
      have b3 : fd.length ≤ 1000 := by omega
      repeat walk_at "m"
      simp only [isE_snoc, Bool.not_false, if_true]
      repeat walk_at "m"
      rw [hxe] at hk hfd
      refine ⟨_, ?_, st ++ (S.kids x).reverse, fd ++ [x], rfl, ?_, ?_, by walk_at "loc", by walk_at "loc", by walk_at "loc", by walk_at "sub", ?_, ?_⟩
      · rw [hk]; simp
      · intro y hy
        rcases List.mem_append.mp hy with hy | hy
        · exact hst y (by simp [hy])
        · exact (hS x hx).2 y (by simpa using hy)
      · rw [← hfd]; simp
      · rw [List.map_append, List.map_cons, List.map_nil]; walk_at "get"
      · rw [List.map_append, List.map_reverse]; walk_at "get"
end
abbrev Shp.ends (S : Shp) (r : Int) : List Int := (S.all r).filter fun x => (S.kids x).isEmpty
section
variable {d : Dt} {n : Nat} {L : Addr} {ρ : Loc} {H : Hp} {Q : MV → Loc → Hp → Prop}
variable {S : Shp} {t : TR} {tr : Addr} {order : List Int} {wd : Int → Addr} {wr : Int → WR}
set_option pp.deepTerms false
set_option pp.deepTerms.threshold 6

set_option maxHeartbeats 4000000 in
theorem c_leavesUnder (hc : (cx d).Ok) (hT : TreeAt S t tr order wd wr H) (hS : S.Ok order) (hs0 : ∀ v ∈ order, ((wr v).sort == 0) = (S.kids v).isEmpty) {r : Int} (hr : r ∈ order) (hz : (S.all r).length ≤ 1000) (h : ∀ a, H a = none → Q (.ref a) ρ (hset H a (.list ((S.ends r).map .int)))) :
    OpL (cx d) (n+1) L (fun vs => call (.ref 189) vs) [.ref tr, .int r] ρ H Q := by
  refine f_call hc (ho := by with_unfolding_all rfl) (hcd := by with_unfolding_all rfl) (hb := binds2 (x := "tree") (y := "number") fun v w => by with_unfolding_all rfl) (hloc := hloc_of (by with_unfolding_all rfl)) ?_
  intro L'
  repeat walk_at "m"
  rename_i fl hfl wl hwl
  have hne : fl ≠ wl := ((hset_none.mp hwl).1).symm
  have hwl' : H wl = none := (hset_none.mp hwl).2
  refine ts_while (fun k ρ' H' => ∃ (st fd : List Int), k = (st.reverse.flatMap S.all).length ∧ (∀ x ∈ st, x ∈ order) ∧ fd ++ (st.reverse.flatMap S.all).filter (fun x => (S.kids x).isEmpty) = S.ends r ∧ k ≤ 1000 ∧ ρ' "tree" = some (.ref tr) ∧ ρ' "found" = some (.ref fl) ∧ ρ' "waiting" = some (.ref wl) ∧
    Sub H H' ∧ H' fl = some (.list (fd.map .int)) ∧ H' wl = some (.list (st.map .int))) (S.all r).length ⟨[r], [], ?_⟩ ?_
  · refine ⟨by simp, by simpa using hr, by simp, hz, by walk_at "loc", by walk_at "loc", by walk_at "loc", ?_, ?_, ?_⟩
    · exact ((Sub.refl H).hset hfl).hset hwl'
    · show _ = some (MObj.list []); walk_at "get"
    · exact hset_eq _ _ _
  · rintro k ρ' H' ⟨st, fd, hk, hst, hfd, hk1, r1, r2, r3, sb, g1, g2⟩
    have gtr := sb _ _ hT.tr
    have gdw := sb _ _ hT.dw
    have hn1 : tr ≠ fl := ne_of hT.tr hfl
    have hn2 : tr ≠ wl := ne_of hT.tr hwl'
    have hn3 : t.dw ≠ fl := ne_of hT.dw hfl
    have hn4 : t.dw ≠ wl := ne_of hT.dw hwl'
    rcases snoc_cases st with rfl | ⟨st, x, rfl⟩
    · repeat walk_at "m"
      simp only [List.map_nil, List.isEmpty_nil, Bool.not_true, Bool.false_eq_true, if_false]
      repeat walk_at "m"
      have e : fd = S.ends r := by simpa using hfd
      subst e
      rename_i a ha
      refine ⟨_, Sub.ins (by walk_at "sub") (by walk_at "get"), h fl hfl⟩
    · have hx : x ∈ order := hst x (by simp)
      have hxe := (hS x hx).1
      have gw := sb _ _ (hT.wn x hx)
      have gc := sb _ _ (hT.ch x hx)
      have hn5 := ne_of (hT.wn x hx) hfl
      have hn6 := ne_of (hT.wn x hx) hwl'
      have hn7 := ne_of (hT.ch x hx) hfl
      have hn8 := ne_of (hT.ch x hx) hwl'
      rw [List.map_append, List.map_cons, List.map_nil] at g2
      rw [List.reverse_append, List.reverse_cons, List.reverse_nil, List.nil_append, List.singleton_append, List.flatMap_cons] at hk hfd
      have hlen := congrArg List.length hfd
      have hle : (S.ends r).length ≤ 1000 := Nat.le_trans (List.length_filter_le _ _) hz
      simp only [List.length_append] at hlen hk
      have hall : ∀ l : List Int, (∀ y ∈ l, y ∈ order) → l.length ≤ (l.flatMap S.all).length := fun l hl => len_flat fun y hy => by rw [(hS y (hl y hy)).1]; simp
      have b1 : st.length ≤ 1000 := by have := hall st.reverse (fun y hy => hst y (by simp_all)); simp only [List.length_reverse] at this; omega
      have b2 : (S.kids x).length ≤ 1000 := by
        have := hall (S.kids x) (hS x hx).2
        have e := congrArg List.length hxe
        simp only [List.length_cons] at e
        omega
      have b3 : fd.length ≤ 1000 := by omega
      repeat walk_at "m"
      simp only [isE_snoc, Bool.not_false, if_true]
      repeat walk_at "m"
      rw [hs0 x hx]
      cases hk0 : (S.kids x).isEmpty with
      | true =>
        simp only [if_true]
        repeat walk_at "m"
        have ek : S.kids x = [] := List.isEmpty_iff.mp hk0
        rw [hxe, ek] at hk hfd
        refine ⟨_, ?_, st, fd ++ [x], rfl, fun y hy => hst y (by simp [hy]), ?_, ?_, by walk_at "loc", by walk_at "loc", by walk_at "loc", by walk_at "sub", ?_, ?_⟩
        · rw [hk]; simp
        · rw [← hfd]; simp [hk0]
        · simp only [List.length_cons] at hk; omega
        · rw [List.map_append, List.map_cons, List.map_nil]; walk_at "get"
        · walk_at "get"
      | false =>
        simp only [Bool.false_eq_true, if_false]
        repeat walk_at "m"
        rw [hxe] at hk hfd
        refine ⟨_, ?_, st ++ (S.kids x).reverse, fd, rfl, ?_, ?_, ?_, by walk_at "loc", by walk_at "loc", by walk_at "loc", by walk_at "sub", ?_, ?_⟩
        · rw [hk]; simp
        · intro y hy
          rcases List.mem_append.mp hy with hy | hy
          · exact hst y (by simp [hy])
          · exact (hS x hx).2 y (by simpa using hy)
        · rw [← hfd]; simp [hk0]
        · rw [hk] at hk1; simp at hk1 ⊢; omega
        · walk_at "get"
        · rw [List.map_append, List.map_reverse]; walk_at "get"

theorem c_leaves (hc : (cx d).Ok) (hT : TreeAt S t tr order wd wr H) (hS : S.Ok order) (hs0 : ∀ v ∈ order, ((wr v).sort == 0) = (S.kids v).isEmpty) (hr : t.root ∈ order) (hz : (S.all t.root).length ≤ 1000) (h : ∀ a, H a = none → Q (.ref a) ρ (hset H a (.list ((S.ends t.root).map .int)))) :
    OpL (cx d) (n+1+1) L (fun vs => call (.ref 196) vs) [.ref tr] ρ H Q := by
  refine f_call hc (ho := by with_unfolding_all rfl) (hcd := by with_unfolding_all rfl) (hb := binds1 (x := "tree") fun v => by with_unfolding_all rfl) (hloc := hloc_of (by with_unfolding_all rfl)) ?_
  intro L'
  have gtr := hT.tr
  repeat walk_at "m"
  exact c_leavesUnder hc hT hS hs0 hr hz fun a ha => ⟨_, Sub.refl _, h a ha⟩
end
def NestAt (S : Shp) (na nb : Int → Addr) (D : List Int) (H : Hp) : Prop := ∀ v ∈ D, H (na v) = some (.list [.int v, .ref (nb v)]) ∧ H (nb v) = some (.list ((S.kids v).map fun y => .ref (na y)))
theorem NestAt.sub {S : Shp} {na nb : Int → Addr} {D : List Int} {H H' : Hp} (x : NestAt S na nb D H) (s : Sub H H') : NestAt S na nb D H' := fun v hv => ⟨s _ _ (x v hv).1, s _ _ (x v hv).2⟩
theorem len_mem {f : Int → List Int} {y : Int} : ∀ {l : List Int}, y ∈ l → (f y).length ≤ (l.flatMap f).length
  | a :: r, h => by
    rw [List.flatMap_cons, List.length_append]
    rcases List.mem_cons.mp h with rfl | h
    · omega
    · have := len_mem (f := f) h; omega
theorem len_take {f : Int → List Int} : ∀ (l : List Int) (i : Nat), ((l.take i).flatMap f).length ≤ (l.flatMap f).length
  | [], i => by simp
  | a :: r, 0 => by simp
  | a :: r, i + 1 => by
    rw [List.take_succ_cons, List.flatMap_cons, List.flatMap_cons, List.length_append, List.length_append]
    have := len_take (f := f) r i
    omega
section
variable {d : Dt} {n : Nat} {L : Addr} {ρ : Loc} {H : Hp} {Q : MV → Loc → Hp → Prop}
variable {S : Shp} {na nb : Int → Addr} {D : List Int}
set_option pp.deepTerms false
set_option pp.deepTerms.threshold 6

set_option maxHeartbeats 4000000 in
theorem c_find (hc : (cx d).Ok) (hN : NestAt S na nb D H) (hS : S.Ok D) {r v : Int} (hr : r ∈ D) (hv : v ∈ S.all r) (hz : (S.all r).length ≤ 1000) (h : v ∈ D → Q (.ref (na v)) ρ H) :
    OpL (cx d) (n+1) L (fun vs => call (.ref 238) vs) [.ref (na r), .int v] ρ H Q := by
  refine f_call hc (ho := by with_unfolding_all rfl) (hcd := by with_unfolding_all rfl) (hb := binds2 (x := "nest") (y := "number") fun v w => by with_unfolding_all rfl) (hloc := hloc_of (by with_unfolding_all rfl)) ?_
  intro L'
  repeat walk_at "m"
  rename_i wl hwl
  refine ts_while (fun k ρ' H' => ∃ (st : List Int), k = (st.flatMap S.all).length ∧ (∀ x ∈ st, x ∈ D) ∧ v ∈ st.flatMap S.all ∧ k ≤ 1000 ∧ ρ' "number" = some (.int v) ∧ ρ' "waiting" = some (.ref wl) ∧
    Sub H H' ∧ H' wl = some (.list (st.map fun y => .ref (na y)))) (S.all r).length ⟨[r], ?_⟩ ?_
  · refine ⟨by simp, by simpa using hr, by simpa using hv, hz, by walk_at "loc", by walk_at "loc", (Sub.refl H).hset hwl, hset_eq _ _ _⟩
  · rintro k ρ' H' ⟨st, hk, hst, hvs, hk1, r1, r2, sb, g2⟩
    rcases snoc_cases st with rfl | ⟨st, x, rfl⟩
    · simp at hvs
    · have hx : x ∈ D := hst x (by simp)
      have hxe := (hS x hx).1
      have g3 := sb _ _ (hN x hx).1
      have g4 := sb _ _ (hN x hx).2
      have hn1 := ne_of (hN x hx).1 hwl
      have hn2 := ne_of (hN x hx).2 hwl
      rw [List.map_append, List.map_cons, List.map_nil] at g2
      have hall : ∀ l : List Int, (∀ y ∈ l, y ∈ D) → l.length ≤ (l.flatMap S.all).length := fun l hl => len_flat fun y hy => by rw [(hS y (hl y hy)).1]; simp
      have b0 := hall _ hst
      have b1 : st.length ≤ 1000 := by simp only [List.length_append] at b0; omega
      have b2 : (S.kids x).length ≤ 1000 := by
        have := hall (S.kids x) (hS x hx).2
        have e := congrArg List.length hxe
        rw [List.flatMap_append, List.length_append] at hk
        simp only [List.flatMap_cons, List.flatMap_nil, List.append_nil, List.length_cons] at e hk
        omega
      repeat walk_at "m"
      simp only [isE_snoc, Bool.not_false, if_true]
      repeat walk_at "m"
      by_cases e : x = v
      · subst e
        simp only [beq_self_eq_true, if_true]
        repeat walk_at "m"
        exact ⟨H, by walk_at "sub", h hx⟩
      · rw [beq_false_of_ne e]
        simp only [Bool.false_eq_true, if_false]
        repeat walk_at "m"
        rw [List.flatMap_append, List.flatMap_cons, List.flatMap_nil, List.append_nil, hxe] at hk hvs
        refine ⟨_, ?_, st ++ S.kids x, rfl, ?_, ?_, ?_, by walk_at "loc", by walk_at "loc", by walk_at "sub", ?_⟩
        · rw [hk]; simp
        · intro y hy
          rcases List.mem_append.mp hy with hy | hy
          · exact hst y (by simp [hy])
          · exact (hS x hx).2 y hy
        · rw [List.flatMap_append]
          rcases List.mem_append.mp hvs with q | q
          · exact List.mem_append_left _ q
          · exact List.mem_append_right _ ((List.mem_cons.mp q).resolve_left (Ne.symm e))
        · rw [List.flatMap_append, List.length_append]; rw [List.length_append, List.length_cons] at hk; omega
        · rw [List.map_append]; walk_at "get"

set_option maxHeartbeats 4000000 in
theorem c_all (hc : (cx d).Ok) (hS : S.Ok D) : ∀ (m : Nat) (r : Int) {n : Nat} {L : Addr} {ρ : Loc} {H : Hp} {Q : MV → Loc → Hp → Prop}, NestAt S na nb D H → r ∈ D → (S.all r).length ≤ m → m ≤ 1000 → (∀ a, H a = none → Q (.ref a) ρ (hset H a (.list ((S.all r).map .int)))) →
    OpL (cx d) (n+m) L (fun vs => call (.ref 245) vs) [.ref (na r)] ρ H Q := by
  intro m
  induction m with
  | zero => intro r n L ρ H Q hN hr hz _ _; rw [(hS r hr).1] at hz; simp at hz
  | succ m ih =>
  intro r n L ρ H Q hN hr hz hm h
  have hre := (hS r hr).1
  refine f_call hc (ho := by with_unfolding_all rfl) (hcd := by with_unfolding_all rfl) (hb := binds1 (x := "nest") fun v => by with_unfolding_all rfl) (hloc := hloc_of (by with_unfolding_all rfl)) ?_
  intro L'
  have g3 := (hN r hr).1
  have g4 := (hN r hr).2
  repeat walk_at "m"
  rename_i fa hfa
  refine ts_for ?_
  repeat walk_at "m"
  refine forL_intro (fun i ρ' H' => ∃ fa, ρ' "found" = some (.ref fa) ∧ H fa = none ∧ Sub H H' ∧ H' fa = some (.list ((r :: ((S.kids r).take i).flatMap S.all).map .int))) (by walk_at "get") ⟨fa, by walk_at "loc", hfa, (Sub.refl H).hset hfa, hset_eq _ _ _⟩ ?_ ?_ ?_
  · rintro i ρ2 H2 ⟨fa, _, _, sb, _⟩; exact sb _ _ g4
  · rintro i mv ρ2 H2 hi ⟨fa, r1, hfa, sb, gf⟩
    rw [List.getElem?_map] at hi
    obtain ⟨y, hy, rfl⟩ := Option.map_eq_some_iff.mp hi
    have hym : y ∈ S.kids r := List.mem_of_getElem? hy
    have hyD := (hS r hr).2 y hym
    have hlt : (S.all y).length ≤ m := by
      rw [hre, List.length_cons] at hz
      have := len_mem (f := S.all) hym
      omega
    have htk : ((S.kids r).take i).flatMap S.all ++ S.all y = ((S.kids r).take (i+1)).flatMap S.all := by
      rw [List.take_add_one, hy]; simp
    have hle : (((S.kids r).take (i+1)).flatMap S.all).length ≤ m := by
      have := len_take (f := S.all) (S.kids r) (i+1)
      rw [hre, List.length_cons] at hz
      omega
    rw [← htk, List.length_append] at hle
    repeat walk_at "m"
    refine ih y (hN.sub sb) hyD hlt (by omega) fun b hb => ?_
    have hne : fa ≠ b := ne_of gf hb
    refine o_addL (by walk_at "get") (by walk_at "get") (by simp only [List.length_map, List.length_cons]; omega) fun e he => ?_
    repeat walk_at "m"
    refine ⟨e, by walk_at "loc", by walk_at "non", by walk_at "sub", ?_⟩
    rw [← htk, ← List.map_append, List.cons_append]
    exact hset_eq _ _ _
  · rintro ρ2 H2 ⟨fa, r1, hfa, sb, gf⟩
    repeat walk_at "m"
    rw [List.length_map, List.take_length, ← hre] at gf
    exact ⟨_, Sub.ins sb gf, h fa hfa⟩
end
section
variable {d : Dt} {n : Nat} {L : Addr} {ρ : Loc} {H : Hp} {Q : MV → Loc → Hp → Prop}
variable {S : Shp} {na nb : Int → Addr} {D : List Int}
variable {t : TR} {tr : Addr} {order : List Int} {wd : Int → Addr} {wr : Int → WR}
set_option pp.deepTerms false
set_option pp.deepTerms.threshold 6

set_option maxHeartbeats 4000000 in
theorem c_ends (hc : (cx d).Ok) (hN : NestAt S na nb D H) (hS : S.Ok D) {r : Int} (hr : r ∈ D) (hD : ∀ v ∈ S.all r, v ∈ D) {m : Nat} (hz : (S.all r).length ≤ m) (hm : m ≤ 900) (h : ∀ a, H a = none → Q (.ref a) ρ (hset H a (.list ((S.ends r).map .int)))) :
    OpL (cx d) (n+1+m+1) L (fun vs => call (.ref 250) vs) [.ref (na r)] ρ H Q := by
  refine f_callC hc (ho := by with_unfolding_all rfl) (hcd := by with_unfolding_all rfl) (x := "nest") (v := some (.ref (na r))) (ρ₁ := fun _ => none) (hb := ?_) (hcs := fun n => by with_unfolding_all rfl) ?_
  · intro vs hv
    match vs, hv with
    | [u], ⟨hu, _⟩ => exact ⟨[("nest", u)], by with_unfolding_all rfl, by intro y hy; cases List.mem_singleton.mp hy; exact .inr ⟨by with_unfolding_all rfl, rfl⟩, fun y m e => (by cases e), hu⟩
  · intro L' C hC
    have sC : Sub H (hset H C (.cell (some (.ref (na r))))) := (Sub.refl H).hset hC
    repeat walk_at "m"
    refine t_comp (cl := [("nest", C)]) ?_ (by with_unfolding_all rfl) (by decide +kernel) (by rfl) (by decide +kernel) (by with_unfolding_all rfl) (by intro _; with_unfolding_all rfl)
    repeat walk_at "m"
    refine (c_all hc hS m r (hN.sub sC) hr hz (by omega) fun a ha => ?_)
    have sA : Sub (hset H C (.cell (some (.ref (na r))))) (hset (hset H C (.cell (some (.ref (na r))))) a (.list ((S.all r).map .int))) := (Sub.refl _).hset ha
    refine compL_intro (fun i acc H2 => Sub (hset (hset H C (.cell (some (.ref (na r))))) a (.list ((S.all r).map .int))) H2 ∧ acc = (((S.all r).take i).filter fun x => (S.kids x).isEmpty).map .int) (by walk_at "get") (by rw [List.length_map]; omega) ⟨Sub.refl _, by simp⟩ ?_ ?_ ?_
    · rintro i acc H2 ⟨sb, _⟩; exact sb _ _ (hset_eq _ _ _)
    · rintro C' i mv acc H2 hi ⟨sb, hacc⟩
      rw [List.getElem?_map] at hi
      obtain ⟨y, hy, rfl⟩ := Option.map_eq_some_iff.mp hi
      have hym : y ∈ S.all r := List.mem_of_getElem? hy
      have hyD := hD y hym
      have sbH : Sub H H2 := sC.trans (sA.trans sb)
      have gC : H2 C = some (.cell (some (.ref (na r)))) := (sA.trans sb) _ _ (hset_eq _ _ _)
      have g3 := sbH _ _ (hN y hyD).1
      have g4 := sbH _ _ (hN y hyD).2
      repeat walk_at "m"
      refine OpL.up (n := 0 + 1) (c_find hc (hN.sub sbH) hS hr hym (by omega) fun _ => ?_) (by omega)
      repeat walk_at "m"
      have etk : (S.all r).take (i + 1) = (S.all r).take i ++ [y] := by rw [List.take_add_one, hy]; rfl
      cases hk0 : (S.kids y).isEmpty with
      | true =>
        simp only [List.isEmpty_map, hk0, if_true]
        repeat walk_at "m"
        exact ⟨by walk_at "sub", by rw [hacc, etk]; simp [hk0]⟩
      | false =>
        simp only [List.isEmpty_map, hk0, Bool.false_eq_true, if_false]
        exact ⟨by walk_at "sub", by rw [hacc, etk]; simp [hk0]⟩
    · rintro acc H2 ⟨sb, hacc⟩ D' hD'
      rw [List.length_map, List.take_length] at hacc
      rw [hacc]
      have sbH : Sub H H2 := sC.trans (sA.trans sb)
      refine ⟨_, Sub.ins (sbH.hset (Sub.none sbH hD')) (hset_eq _ _ _), h D' (Sub.none sbH hD')⟩

theorem c_indexInParent (hc : (cx d).Ok) (hT : TreeAt S t tr order wd wr H) {v p : Int} (hv : v ∈ order) (hp : p ∈ order) (ep : (wr v).par = p) (hk : v ∈ S.kids p) (hz : (S.kids p).length ≤ 1000) (h : Q (.int ((S.kids p).idxOf v : Nat)) ρ H) :
    OpL (cx d) (n+1) L (fun vs => call (.ref 210) vs) [.ref tr, .int v] ρ H Q := by
  refine f_call hc (ho := by with_unfolding_all rfl) (hcd := by with_unfolding_all rfl) (hb := binds2 (x := "tree") (y := "number") fun v w => by with_unfolding_all rfl) (hloc := hloc_of (by with_unfolding_all rfl)) ?_
  intro L'
  have g1 := hT.tr
  have g2 := hT.dw
  have g3 := hT.wn v hv
  have g4 := hT.wn p hp
  have g5 := hT.ch p hp
  subst ep
  repeat walk_at "m"
  refine f_index g5 (by omega) hk ?_
  repeat walk_at "m"
  exact ⟨H, Sub.refl _, h⟩
end
section
variable {d : Dt} {n : Nat} {L : Addr} {ρ : Loc} {H : Hp} {Q : MV → Loc → Hp → Prop}
variable {S : Shp} {na nb : Int → Addr} {D : List Int}
variable {t : TR} {tr : Addr} {order : List Int} {wd : Int → Addr} {wr : Int → WR}
set_option pp.deepTerms false
set_option pp.deepTerms.threshold 6

theorem c_window (hc : (cx d).Ok) (hT : TreeAt S t tr order wd wr H) {v : Int} (hv : v ∈ order) (h : Q (.ref (wd v)) ρ H) : OpL (cx d) (n+1) L (fun vs => call (.ref 126) vs) [.ref tr, .int v] ρ H Q := by
  refine f_call hc (ho := by with_unfolding_all rfl) (hcd := by with_unfolding_all rfl) (hb := binds2 (x := "self") (y := "number") fun v w => by with_unfolding_all rfl) (hloc := hloc_of (by with_unfolding_all rfl)) ?_
  intro L'
  have g1 := hT.tr
  have g2 := hT.dw
  repeat walk_at "m"
  rw [dget_order hv, Option.getD_some]
  repeat walk_at "m"
  simp only [Bool.false_eq_true, if_false]
  repeat walk_at "m"
  exact ⟨H, Sub.refl _, h⟩
theorem c_leaf (hc : (cx d).Ok) (hT : TreeAt S t tr order wd wr H) {v : Int} (hv : v ∈ order) (hs : (wr v).sort = 0) (h : Q (.ref (wd v)) ρ H) : OpL (cx d) (n+1+1) L (fun vs => call (.ref 133) vs) [.ref tr, .int v] ρ H Q := by
  refine f_call hc (ho := by with_unfolding_all rfl) (hcd := by with_unfolding_all rfl) (hb := binds2 (x := "self") (y := "number") fun v w => by with_unfolding_all rfl) (hloc := hloc_of (by with_unfolding_all rfl)) ?_
  intro L'
  have g1 := hT.tr
  have g3 := hT.wn v hv
  repeat walk_at "m"
  refine c_window hc hT hv ?_
  repeat walk_at "m"
  rw [hs]
  simp only [bne_self_eq_false, Bool.false_eq_true, if_false]
  repeat walk_at "m"
  exact ⟨H, Sub.refl _, h⟩
theorem c_touch (hc : (cx d).Ok) (hT : TreeAt S t tr order wd wr H) {v : Int} (hv : v ∈ order) (h : Q .none ρ (hset (hset H tr (tre { t with clock := t.clock + 1 })) (wd v) (win v { wr v with time := t.clock + 1 }))) :
    OpL (cx d) (n+1) L (fun vs => call (.ref 140) vs) [.ref tr, .int v] ρ H Q := by
  refine f_call hc (ho := by with_unfolding_all rfl) (hcd := by with_unfolding_all rfl) (hb := binds2 (x := "self") (y := "number") fun v w => by with_unfolding_all rfl) (hloc := hloc_of (by with_unfolding_all rfl)) ?_
  intro L'
  have g1 := hT.tr
  have g2 := hT.dw
  have g3 := hT.wn v hv
  have e1 : t.dw ≠ tr := ne_obj g2 g1 (by simp)
  have e2 : wd v ≠ tr := ne_obj g3 g1 (by simp)
  repeat walk_at "m"
  exact ⟨_, Sub.refl _, h⟩
theorem c_touch2 (hc : (cx d).Ok) (hT : TreeAt S t tr order wd wr H) {v : Int} (hv : v ∈ order)
    (h : TreeAt S { t with clock := t.clock + 1 } tr order wd (upd wr v { wr v with time := t.clock + 1 }) (hset (hset H tr (tre { t with clock := t.clock + 1 })) (wd v) (win v { wr v with time := t.clock + 1 })) →
      Q .none ρ (hset (hset H tr (tre { t with clock := t.clock + 1 })) (wd v) (win v { wr v with time := t.clock + 1 }))) :
    OpL (cx d) (n+1) L (fun vs => call (.ref 140) vs) [.ref tr, .int v] ρ H Q :=
  c_touch hc hT hv (h ((hT.setTree (t' := { t with clock := t.clock + 1 }) rfl).setWin hv rfl))
theorem c_frameSize (hc : (cx d).Ok) (hT : TreeAt S t tr order wd wr H) (hr : t.root ∈ order) {ax : Int} (h : Q (.int (if (ax == 0) = true then (wr t.root).width else (wr t.root).height)) ρ H) :
    OpL (cx d) (n+1+1) L (fun vs => call (.ref 161) vs) [.ref tr, .int ax] ρ H Q := by
  refine f_call hc (ho := by with_unfolding_all rfl) (hcd := by with_unfolding_all rfl) (hb := binds2 (x := "self") (y := "axis") fun v w => by with_unfolding_all rfl) (hloc := hloc_of (by with_unfolding_all rfl)) ?_
  intro L'
  have g1 := hT.tr
  have g2 := hT.dw
  have g3 := hT.wn _ hr
  repeat walk_at "m"
  exact c_size hc g3 ⟨_, Sub.refl _, h⟩
theorem c_fresh (hc : (cx d).Ok) (hT : TreeAt S t tr order wd wr H) (hn : t.last + 1 ∉ order) (hz : order.length ≤ 1000) {srt par : Int}
    (h : ∀ x cl el ll, H cl = none → H el = none → H ll = none → H x = none → cl ≠ el → cl ≠ ll → el ≠ ll → x ≠ cl → x ≠ el → x ≠ ll →
      Q (.ref x) ρ (hset (hset (hset (hset (hset (hset H tr (tre { t with last := t.last + 1 })) cl (.list [])) el (.list [])) ll (.list [])) x (win (t.last + 1) ⟨srt, par, 0, 0, 0, 0, 0, 0, cl, el, ll⟩)) t.dw
        (.dict (order.map (fun v => (v, MV.ref (wd v))) ++ [(t.last + 1, .ref x)])))) :
    OpL (cx d) (n+1+1) L (fun vs => call (.ref 119) vs) [.ref tr, .int srt, .int par] ρ H Q := by
  refine f_call hc (ho := by with_unfolding_all rfl) (hcd := by with_unfolding_all rfl) (hb := binds3 (x := "self") (y := "sort") (z := "parent") fun v w u => by with_unfolding_all rfl) (hloc := hloc_of (by with_unfolding_all rfl)) ?_
  intro L'
  have g1 := hT.tr
  have g2 := hT.dw
  have e1 : t.dw ≠ tr := ne_obj g2 g1 (by simp)
  repeat walk_at "m"
  refine c_winInit hc fun x cl el ll n1 n2 n3 n4 d1 d2 d3 d4 d5 d6 => ?_
  rw [hset_none] at n1 n2 n3 n4
  have f1 := Ne.symm n1.1
  have f2 := Ne.symm n2.1
  have f3 := Ne.symm n3.1
  have f4 := Ne.symm n4.1
  have f5 : t.dw ≠ cl := ne_of g2 n1.2
  have f6 : t.dw ≠ el := ne_of g2 n2.2
  have f7 : t.dw ≠ ll := ne_of g2 n3.2
  have f8 : t.dw ≠ x := ne_of g2 n4.2
  repeat walk_at "m"
  have ed : dput (order.map fun v => (v, MV.ref (wd v))) (t.last + 1) (.ref x) = order.map (fun v => (v, MV.ref (wd v))) ++ [(t.last + 1, .ref x)] := by
    unfold dput
    rw [if_neg]
    intro q
    obtain ⟨p, hp, e⟩ := List.any_eq_true.mp q
    obtain ⟨v, hv, rfl⟩ := List.mem_map.mp hp
    exact hn (by have := of_decide_eq_true e; exact this ▸ hv)
  refine ⟨_, Sub.refl _, ?_⟩
  rw [ed]
  exact h x cl el ll n1.2 n2.2 n3.2 n4.2 d1 d2 d3 d4 d5 d6
theorem c_fresh' (hc : (cx d).Ok) (hT : TreeAt S t tr order wd wr H) (hn : t.last + 1 ∉ order) (hk : S.kids (t.last + 1) = []) (hz : order.length ≤ 1000) {srt par : Int}
    (h : ∀ x r H2, H r.cl = none → H x = none → r.sort = srt → r.par = par → TreeAt S { t with last := t.last + 1 } tr (order ++ [t.last + 1]) (upd wd (t.last + 1) x) (upd wr (t.last + 1) r) H2 → (∀ b o, H b = some o → b ≠ tr → b ≠ t.dw → H2 b = some o) → Q (.ref x) ρ H2) :
    OpL (cx d) (n+1+1) L (fun vs => call (.ref 119) vs) [.ref tr, .int srt, .int par] ρ H Q :=
  c_fresh hc hT hn hz fun x cl el ll n1 n2 n3 n4 d1 d2 d3 d4 d5 d6 =>
    h x ⟨srt, par, 0, 0, 0, 0, 0, 0, cl, el, ll⟩ _ n1 n4 rfl rfl (hT.fresh (r := ⟨srt, par, 0, 0, 0, 0, 0, 0, cl, el, ll⟩) hn hk n1 n2 n3 n4 d1 d2 d3 d4 d5 d6) fun b o e h1 h2 => by
      rw [hset_ne h2, hset_ne (ne_of e n4), hset_ne (ne_of e n3), hset_ne (ne_of e n2), hset_ne (ne_of e n1), hset_ne h1]; exact e
theorem c_select (hc : (cx d).Ok) (hT : TreeAt S t tr order wd wr H) {v : Int} (hv : v ∈ order) (hs : (wr v).sort = 0) (h : Q .none ρ (hset (hset H tr (tre { t with sel := v, clock := t.clock + 1 })) (wd v) (win v { wr v with time := t.clock + 1 }))) :
    OpL (cx d) (n+1+1+1) L (fun vs => call (.ref 147) vs) [.ref tr, .int v] ρ H Q := by
  refine f_call hc (ho := by with_unfolding_all rfl) (hcd := by with_unfolding_all rfl) (hb := binds2 (x := "self") (y := "number") fun v w => by with_unfolding_all rfl) (hloc := hloc_of (by with_unfolding_all rfl)) ?_
  intro L'
  have g1 := hT.tr
  have g3 := hT.wn v hv
  repeat walk_at "m"
  refine c_leaf hc hT hv hs ?_
  repeat walk_at "m"
  refine c_touch hc (hT.setTree (t' := { t with sel := v }) rfl) hv ?_
  repeat walk_at "m"
  rw [hset_set]
  exact ⟨_, Sub.refl _, h⟩
theorem c_replace (hc : (cx d).Ok) (hT : TreeAt S t tr order wd wr H) {v c : Int} (hv : v ∈ order) (hcn : c ∈ order) (hvc : v ≠ c) (h0 : ∀ p ∈ order, p ≠ 0) (hp : (wr v).par = 0 ∨ (wr v).par ∈ order ∧ (wr v).par ≠ c ∧ v ∈ S.kids (wr v).par ∧ (S.kids (wr v).par).length ≤ 1000)
    (h : ∀ H2, TreeAt (if (wr v).par = 0 then S else ⟨upd S.kids (wr v).par ((S.kids (wr v).par).set ((S.kids (wr v).par).idxOf v) c), S.all⟩) (if (wr v).par = 0 then { t with root := c } else t) tr order wd (upd wr c { wr c with par := (wr v).par }) H2 →
      (∀ b o, H b = some o → b ≠ tr → b ≠ wd c → b ≠ (wr (wr v).par).cl ∨ (wr v).par = 0 → H2 b = some o) → Q .none ρ H2) :
    OpL (cx d) (n+1) L (fun vs => call (.ref 217) vs) [.ref tr, .int v, .int c] ρ H Q := by
  refine f_call hc (ho := by with_unfolding_all rfl) (hcd := by with_unfolding_all rfl) (hb := binds3 (x := "tree") (y := "old") (z := "new") fun v w u => by with_unfolding_all rfl) (hloc := hloc_of (by with_unfolding_all rfl)) ?_
  intro L'
  have g1 := hT.tr
  have g2 := hT.dw
  have g3 := hT.wn v hv
  have g4 := hT.wn c hcn
  have e1 : tr ≠ wd c := ne_obj g1 g4 (by simp)
  have e2 : t.dw ≠ wd c := ne_obj g2 g4 (by simp)
  have T1 := hT.setWin (r := { wr c with par := (wr v).par }) hcn rfl
  repeat walk_at "m"
  rcases hp with hp | ⟨hp, hpc, hvp, hlen⟩
  · rw [hp] at T1 h ⊢
    simp only [beq_self_eq_true, if_true] at h ⊢
    repeat walk_at "m"
    refine ⟨_, Sub.refl _, h _ (T1.setTree (t' := { t with root := c }) rfl) fun b o e h1 h2 _ => ?_⟩
    exact (hset_ne h1).trans ((hset_ne h2).trans e)
  · have hp0 := h0 _ hp
    rw [if_neg hp0, if_neg hp0] at h
    rw [beq_false_of_ne hp0]
    simp only [Bool.false_eq_true, if_false]
    have g5 := hT.wn _ hp
    have g6 := hT.ch _ hp
    have e3 : wd (wr v).par ≠ wd c := hT.wne hp hcn hpc
    have e4 : (wr (wr v).par).cl ≠ wd c := ne_obj g6 g4 (by simp)
    have hi := List.idxOf_lt_length_of_mem hvp
    repeat walk_at "m"
    refine f_index (ns := S.kids (wr v).par) (by walk_at "get") (by omega) hvp ?_
    refine u_setItem (by walk_at "get") (by omega) (by rw [List.length_map]; omega) (by rw [List.length_map]; omega) ?_
    repeat walk_at "m"
    refine ⟨_, Sub.refl _, ?_⟩
    have T2 := T1.setKids (l := (S.kids (wr v).par).set ((S.kids (wr v).par).idxOf v) c) hp
    rw [upd_ne hpc] at T2
    have em : ((S.kids (wr v).par).map MV.int).set ((((S.kids (wr v).par).idxOf v : Nat) : Int)).toNat (.int c) = ((S.kids (wr v).par).set ((S.kids (wr v).par).idxOf v) c).map MV.int := by rw [Int.toNat_natCast, List.map_set]
    rw [em]
    refine h _ T2 fun b o e h1 h2 h3 => ?_
    rcases h3 with h3 | h3
    · exact (hset_ne h3).trans ((hset_ne h2).trans e)
    · exact absurd h3 hp0
end
theorem ddel_order {wd : Int → Addr} (k : Int) : ∀ (order : List Int), ddel (order.map fun v => (v, MV.ref (wd v))) k = (order.filter fun x => decide (x ≠ k)).map fun v => (v, MV.ref (wd v))
  | [] => rfl
  | a :: r => by
    have ih := ddel_order (wd := wd) k r
    unfold ddel at ih ⊢
    by_cases e : a = k
    · simpa [e] using ih
    · simp only [List.map_cons, List.filter_cons, ne_eq, e, not_false_eq_true, decide_true, if_true]
      rw [← ih]
theorem hset_same {H : Hp} {a : Addr} {o : MObj} (h : H a = some o) : hset H a o = H := by
  funext b
  unfold hset
  by_cases e : b = a
  · subst e; simp [h]
  · simp [e]
section
variable {d : Dt} {n : Nat} {L : Addr} {ρ : Loc} {H : Hp} {Q : MV → Loc → Hp → Prop}
variable {S : Shp} {na nb : Int → Addr} {D : List Int}
variable {t : TR} {tr : Addr} {order : List Int} {wd : Int → Addr} {wr : Int → WR}
set_option pp.deepTerms false
set_option pp.deepTerms.threshold 6

theorem c_forget (hc : (cx d).Ok) (hT : TreeAt S t tr order wd wr H) (hS : S.Ok order) {v : Int} (hv : v ∈ order) (hD : ∀ x ∈ S.all v, x ∈ order) (hnd : (S.all v).Nodup) (hz : (S.all v).length ≤ 1000) (hzo : order.length ≤ 1000)
    (h : Q .none ρ (hset H t.dw (.dict ((order.filter fun x => decide (x ∉ S.all v)).map fun v => (v, .ref (wd v)))))) :
    OpL (cx d) (n+1+1) L (fun vs => call (.ref 224) vs) [.ref tr, .int v] ρ H Q := by
  refine f_call hc (ho := by with_unfolding_all rfl) (hcd := by with_unfolding_all rfl) (hb := binds2 (x := "tree") (y := "number") fun v w => by with_unfolding_all rfl) (hloc := hloc_of (by with_unfolding_all rfl)) ?_
  intro L'
  have g1 := hT.tr
  have g2 := hT.dw
  have e1 : tr ≠ t.dw := ne_obj g1 g2 (by simp)
  repeat walk_at "m"
  refine ts_for ?_
  repeat walk_at "m"
  refine c_windowsUnder hc hT hS hv hz fun al hal => ?_
  have e2 : t.dw ≠ al := ne_of g2 hal
  have e3 : tr ≠ al := ne_of g1 hal
  refine forL_intro (fun i ρ' H' => ρ' "tree" = some (.ref tr) ∧ H' = hset (hset H al (.list ((S.all v).map .int))) t.dw (.dict ((order.filter fun x => decide (x ∉ (S.all v).take i)).map fun v => (v, .ref (wd v))))) (by walk_at "get") ⟨by walk_at "loc", ?_⟩ ?_ ?_ ?_
  · refine (hset_same ?_).symm
    rw [hset_ne e2]
    have e0 : order.filter (fun x => decide (x ∉ (S.all v).take 0)) = order := List.filter_eq_self.mpr fun x _ => by simp
    rw [e0]; exact g2
  · rintro i ρ2 H2 ⟨_, rfl⟩; rw [hset_ne (Ne.symm e2)]; exact hset_eq _ _ _
  · rintro i mv ρ2 H2 hi ⟨r1, rfl⟩
    rw [List.getElem?_map] at hi
    obtain ⟨y, hy, rfl⟩ := Option.map_eq_some_iff.mp hi
    have hym : y ∈ S.all v := List.mem_of_getElem? hy
    have etk : (S.all v).take (i + 1) = (S.all v).take i ++ [y] := by rw [List.take_add_one, hy]; rfl
    have hnt : y ∉ (S.all v).take i := fun q => by
      have h1 : ((S.all v).take (i+1)).Nodup := hnd.sublist (List.take_sublist _ _)
      rw [etk, List.nodup_append] at h1
      exact h1.2.2 y q y (by simp) rfl
    have hyo : y ∈ order.filter (fun x => decide (x ∉ (S.all v).take i)) := List.mem_filter.mpr ⟨hD y hym, by simpa using hnt⟩
    repeat walk_at "m"
    refine f_dpop (m := .ref (wd y)) (by walk_at "get") ?_ (dget_order hyo) ?_
    · rw [List.length_map]; exact Nat.le_trans (List.length_filter_le _ _) (by omega)
    repeat walk_at "m"
    refine ⟨by walk_at "loc", ?_⟩
    rw [hset_set, ddel_order, List.filter_filter, etk]
    congr 3
    refine List.filter_congr fun x _ => ?_
    simp [and_comm]
  · rintro ρ2 H2 ⟨r1, rfl⟩
    repeat walk_at "m"
    rw [List.length_map, List.take_length]
    refine ⟨_, fun b o e => ?_, h⟩
    by_cases q : b = t.dw
    · rw [q] at e ⊢; rw [hset_eq] at e ⊢; exact e
    · rw [hset_ne q] at e ⊢
      rw [hset_ne (ne_of e hal)]; exact e

abbrev treeFs0 (t : TR) : List (Str × MV) := [("windows", .ref t.dw), ("last", .int t.last), ("clock", .int t.clock), ("least_width", .int 10), ("least_height", .int 4)]
theorem c_fresh0 (hc : (cx d).Ok) (g1 : H tr = some (.inst 164 (treeFs0 t))) (g2 : H t.dw = some (.dict [])) {srt par : Int}
    (h : ∀ x cl el ll, H cl = none → H el = none → H ll = none → H x = none → cl ≠ el → cl ≠ ll → el ≠ ll → x ≠ cl → x ≠ el → x ≠ ll →
      Q (.ref x) ρ (hset (hset (hset (hset (hset (hset H tr (.inst 164 (treeFs0 { t with last := t.last + 1 }))) cl (.list [])) el (.list [])) ll (.list [])) x (win (t.last + 1) ⟨srt, par, 0, 0, 0, 0, 0, 0, cl, el, ll⟩)) t.dw
        (.dict [(t.last + 1, .ref x)]))) :
    OpL (cx d) (n+1+1) L (fun vs => call (.ref 119) vs) [.ref tr, .int srt, .int par] ρ H Q := by
  refine f_call hc (ho := by with_unfolding_all rfl) (hcd := by with_unfolding_all rfl) (hb := binds3 (x := "self") (y := "sort") (z := "parent") fun v w u => by with_unfolding_all rfl) (hloc := hloc_of (by with_unfolding_all rfl)) ?_
  intro L'
  have e1 : t.dw ≠ tr := ne_obj g2 g1 (by simp)
  repeat walk_at "m"
  refine c_winInit hc fun x cl el ll n1 n2 n3 n4 d1 d2 d3 d4 d5 d6 => ?_
  rw [hset_none] at n1 n2 n3 n4
  have f1 := Ne.symm n1.1
  have f2 := Ne.symm n2.1
  have f3 := Ne.symm n3.1
  have f4 := Ne.symm n4.1
  have f5 : t.dw ≠ cl := ne_of g2 n1.2
  have f6 : t.dw ≠ el := ne_of g2 n2.2
  have f7 : t.dw ≠ ll := ne_of g2 n3.2
  have f8 : t.dw ≠ x := ne_of g2 n4.2
  repeat walk_at "m"
  exact ⟨_, Sub.refl _, h x cl el ll n1.2 n2.2 n3.2 n4.2 d1 d2 d3 d4 d5 d6⟩

set_option maxHeartbeats 4000000 in
theorem c_treeInit (hc : (cx d).Ok) (hk : S.kids 1 = [])
    (h : ∀ tr dw x r Hn, r.sort = 0 → r.par = 0 → r.width = 30 → r.time = 1 → H tr = none → H r.cl = none → Sub H Hn → TreeAt S ⟨dw, 1, 1, 1, 1⟩ tr [1] (fun _ => x) (fun _ => r) Hn → Q (.ref tr) ρ Hn) :
    OpL (cx d) (n+1+1+1) L (fun vs => call (.ref 164) vs) [.int 30, .int 9, .int 4] ρ H Q := by
  refine f_new hc (hm := by with_unfolding_all rfl) (hi := by with_unfolding_all rfl) (hf := by with_unfolding_all rfl) (ho := by with_unfolding_all rfl) (hcd := by with_unfolding_all rfl)
    (pst := fun x => [("self", .ref x), ("width", .int 30), ("height", .int 9), ("buffer", .int 4), ("least_width", .int 10), ("least_height", .int 4)]) (hb := fun x => ?_) (hloc := fun x => hloc_of (by with_unfolding_all rfl)) ?_
  · intro vs hvs
    match vs, hvs with
    | [a, b, c, e], ⟨h1, h2, h3, h4, _⟩ =>
      refine ⟨[("self", a), ("width", b), ("height", c), ("buffer", e), ("least_width", .int 10 _), ("least_height", .int 4 _)], fun s X => BindsTo.of_defaults (T := _) (o := _) (items := _) (n := _) (k := _) (by with_unfolding_all rfl) (X _ _ (by with_unfolding_all rfl)) (by with_unfolding_all rfl) (by with_unfolding_all rfl) (by with_unfolding_all rfl), ?_⟩
      exact ⟨rfl, h1, rfl, h2, rfl, h3, rfl, h4, rfl, ⟨_, rfl⟩, rfl, ⟨_, rfl⟩, trivial⟩
  intro x L' hx
  repeat walk_at "m"
  rename_i dw hdw
  rw [hset_none] at hdw
  have e1 : x ≠ dw := Ne.symm hdw.1
  have hdw2 : H dw = none := hdw.2
  refine c_fresh0 (t := ⟨dw, 0, 0, 0, 0⟩) hc (by exact hset_eq _ _ _) (by walk_at "get") fun w cl el ll n1 n2 n3 n4 d1 d2 d3 d4 d5 d6 => ?_
  simp only [hset_none] at n1 n2 n3 n4
  have m1 : cl ≠ x ∧ cl ≠ dw ∧ H cl = none := by simp_all
  have m2 : el ≠ x ∧ el ≠ dw ∧ H el = none := by simp_all
  have m3 : ll ≠ x ∧ ll ≠ dw ∧ H ll = none := by simp_all
  have m4 : w ≠ x ∧ w ≠ dw ∧ H w = none := by simp_all
  clear n1 n2 n3 n4
  obtain ⟨m1, m5, m6⟩ := m1
  obtain ⟨m2, m7, m8⟩ := m2
  obtain ⟨m3, m9, m10⟩ := m3
  obtain ⟨m4, m11, m12⟩ := m4
  repeat walk_at "m"
  refine c_touch2 (S := S) (t := ⟨dw, 1, 0, 1, 1⟩) (order := [1]) (wd := fun _ => w) (wr := fun _ => ⟨0, 0, 0, 0, 30, 9, 4, 0, cl, el, ll⟩) hc ⟨?_, ?_, ?_, ?_, ?_⟩ (v := 1) (by simp) ?_
  · exact hset_eq _ _ _
  · change _ = some (MObj.dict [((0 : Int) + 1, MV.ref w)])
    walk_at "get"
  · intro v hv
    cases List.mem_singleton.mp hv
    exact (hset_ne m4).trans ((hset_ne m4).trans (hset_eq _ _ _))
  · intro v hv
    cases List.mem_singleton.mp hv
    rw [hk]
    change _ = some (MObj.list [])
    walk_at "get"
  · intro v hv u hu _
    rw [List.mem_singleton.mp hv, List.mem_singleton.mp hu]
  intro T
  repeat walk_at "m"
  refine ⟨_, Sub.refl _, ?_⟩
  refine h x dw w ⟨0, 0, 0, 0, 30, 9, 4, 1, cl, el, ll⟩ _ rfl rfl rfl rfl hx m6 (by walk_at "sub") ?_
  refine ⟨T.tr, T.dw, fun v hv => ?_, fun v hv => ?_, fun v hv u hu _ => ?_⟩
  · have := T.wn v hv
    cases List.mem_singleton.mp hv
    rwa [upd_eq] at this
  · have := T.ch v hv
    cases List.mem_singleton.mp hv
    rwa [upd_eq] at this
  · rw [List.mem_singleton.mp hv, List.mem_singleton.mp hu]
end
-- THE PLAIN LAW
theorem Shp.Ok.mem {S : Shp} {D : List Int} (h : S.Ok D) : ∀ (m : Nat) {x : Int}, x ∈ D → (S.all x).length ≤ m → ∀ y ∈ S.all x, y ∈ D ∧ (S.all y).Sublist (S.all x)
  | 0, x, hx, hm, y, hy => by rw [(h x hx).1] at hm; simp at hm
  | m + 1, x, hx, hm, y, hy => by
    have e := (h x hx).1
    rw [e] at hy
    rcases List.mem_cons.mp hy with rfl | hy
    · exact ⟨hx, List.Sublist.refl _⟩
    · obtain ⟨z, hz, hyz⟩ := List.mem_flatMap.mp hy
      have hzD := (h x hx).2 z hz
      have hl : (S.all z).length ≤ m := by
        rw [e, List.length_cons] at hm
        have := len_mem (f := S.all) hz
        omega
      obtain ⟨h1, h2⟩ := h.mem m hzD hl y hyz
      refine ⟨h1, h2.trans ?_⟩
      rw [e]
      exact (List.sublist_flatten_of_mem (List.mem_map_of_mem hz)).trans (List.sublist_cons_self _ _)
theorem Shp.Ok.self {S : Shp} {D : List Int} (h : S.Ok D) {x : Int} (hx : x ∈ D) : x ∈ S.all x := by rw [(h x hx).1]; exact List.mem_cons_self
theorem Shp.Ok.kid {S : Shp} {D : List Int} (h : S.Ok D) {x y : Int} (hx : x ∈ D) (hy : y ∈ S.kids x) : y ∈ S.all x := by
  rw [(h x hx).1]
  exact List.mem_cons_of_mem _ (List.mem_flatMap.mpr ⟨y, hy, h.self ((h x hx).2 y hy)⟩)

/-- whose child a window is -/
theorem Shp.Ok.parent {S : Shp} {D : List Int} (h : S.Ok D) : ∀ (m : Nat) {r : Int}, r ∈ D → (S.all r).length ≤ m → ∀ y ∈ S.all r, y ≠ r → ∃ p ∈ S.all r, y ∈ S.kids p
  | 0, r, hr, hm, y, hy, hne => by rw [(h r hr).1] at hm; simp at hm
  | m + 1, r, hr, hm, y, hy, hne => by
    have e := (h r hr).1
    have hy' := hy
    rw [e] at hy'
    obtain ⟨z, hz, hyz⟩ := List.mem_flatMap.mp ((List.mem_cons.mp hy').resolve_left hne)
    have hzD := (h r hr).2 z hz
    by_cases q : y = z
    · exact ⟨r, h.self hr, q ▸ hz⟩
    · have hl : (S.all z).length ≤ m := by
        rw [e, List.length_cons] at hm
        have := len_mem (f := S.all) hz
        omega
      obtain ⟨p, hp, hyp⟩ := h.parent m hzD hl y hyz q
      refine ⟨p, ?_, hyp⟩
      rw [e]
      exact List.mem_cons_of_mem _ (List.mem_flatMap.mpr ⟨z, hz, hp⟩)

/-- the kids of a window are apart -/
theorem nodup_flat {f : Int → List Int} : ∀ {l : List Int}, (l.flatMap f).Nodup → (∀ y ∈ l, y ∈ f y) → l.Nodup
  | [], _, _ => List.nodup_nil
  | a :: r, h, k => by
    rw [List.flatMap_cons, List.nodup_append] at h
    refine List.nodup_cons.mpr ⟨fun ha => ?_, nodup_flat h.2.1 fun y hy => k y (List.mem_cons_of_mem _ hy)⟩
    exact h.2.2 a (k a List.mem_cons_self) a (List.mem_flatMap.mpr ⟨a, ha, k a (List.mem_cons_of_mem _ ha)⟩) rfl
theorem Shp.Ok.kidsNodup {S : Shp} {D : List Int} (h : S.Ok D) {r x : Int} (hr : r ∈ D) (hnd : (S.all r).Nodup) (hx : x ∈ S.all r) : (S.kids x).Nodup ∧ x ∉ S.kids x := by
  obtain ⟨hxD, hs⟩ := h.mem _ hr (Nat.le_refl _) x hx
  have h1 := hnd.sublist hs
  have e := (h x hxD).1
  rw [e] at h1
  obtain ⟨h2, h3⟩ := List.nodup_cons.mp h1
  have hk : ∀ y ∈ S.kids x, y ∈ S.all y := fun y hy => h.self ((h x hxD).2 y hy)
  exact ⟨nodup_flat h3 hk, fun hm => h2 (List.mem_flatMap.mpr ⟨x, hm, hk x hm⟩)⟩

/-- a leaf v is replaced by c over v and ls -/
def growF (v c : Int) (ls : List Int) (y : Int) : List Int := if y = v then c :: v :: ls else [y]
def Shp.grow (S : Shp) (v c : Int) (ls : List Int) : Shp where
  kids := fun x => if x = c then v :: ls else (S.kids x).map fun y => if y = v then c else y
  all := fun x => if x = c then c :: v :: ls else if x = v ∨ x ∈ ls then [x] else (S.all x).flatMap (growF v c ls)
theorem growF_perm {v c : Int} {ls : List Int} : ∀ {l : List Int}, v ∈ l → l.Nodup → (l.flatMap (growF v c ls)).Perm (l ++ c :: ls)
  | a :: r, hv, hnd => by
    obtain ⟨h1, h2⟩ := List.nodup_cons.mp hnd
    rw [List.flatMap_cons]
    by_cases e : a = v
    · subst e
      have er : r.flatMap (growF a c ls) = r := by
        clear hv hnd h2
        induction r with
        | nil => rfl
        | cons b s ih =>
          rw [List.flatMap_cons, ih fun q => h1 (List.mem_cons_of_mem _ q)]
          unfold growF
          rw [if_neg fun q => h1 (by rw [q]; exact List.mem_cons_self)]; rfl
      rw [er]
      unfold growF
      rw [if_pos rfl]
      -- c :: a :: ls ++ r ~ a :: r ++ c :: ls
      have : (c :: a :: ls ++ r).Perm (a :: (c :: ls ++ r)) := List.Perm.swap _ _ _
      refine this.trans ?_
      exact List.Perm.cons _ List.perm_append_comm
    · have hv' := (List.mem_cons.mp hv).resolve_left (Ne.symm e)
      have : growF v c ls a = [a] := by unfold growF; rw [if_neg e]
      rw [this]
      exact List.Perm.cons _ (growF_perm hv' h2)
theorem Shp.grow_ok {S : Shp} {D : List Int} (h : S.Ok D) {v c : Int} {ls : List Int} (hv : v ∈ D) (hk : S.kids v = []) (hc : c ∉ D) (hcl : c ∉ ls) (hl : ∀ y ∈ ls, y ∉ D) (hlk : ∀ y ∈ ls, S.kids y = []) : (S.grow v c ls).Ok (D ++ c :: ls) := by
  have hvc : v ≠ c := fun e => hc (e ▸ hv)
  have av : S.all v = [v] := by rw [(h v hv).1, hk]; rfl
  have single : ∀ y, (y = v ∨ y ∈ ls) → (S.grow v c ls).all y = [y] := fun y hy => by
    have : y ≠ c := by rcases hy with rfl | hy; exact hvc; exact fun e => hcl (e ▸ hy)
    unfold Shp.grow; dsimp only; rw [if_neg this, if_pos hy]
  intro x hx
  by_cases e1 : x = c
  · subst e1
    refine ⟨?_, fun y hy => ?_⟩
    · have : (S.grow v x ls).kids x = v :: ls := by unfold Shp.grow; dsimp only; rw [if_pos rfl]
      rw [this]
      have e2 : (v :: ls).flatMap (S.grow v x ls).all = v :: ls := by
        have : ∀ l : List Int, (∀ y ∈ l, y = v ∨ y ∈ ls) → l.flatMap (S.grow v x ls).all = l := by
          intro l hl'
          induction l with
          | nil => rfl
          | cons a r ih => rw [List.flatMap_cons, single a (hl' a List.mem_cons_self), ih fun y hy => hl' y (List.mem_cons_of_mem _ hy)]; rfl
        exact this _ fun y hy => (List.mem_cons.mp hy)
      rw [e2]
      unfold Shp.grow; dsimp only; rw [if_pos rfl]
    · have : (S.grow v x ls).kids x = v :: ls := by unfold Shp.grow; dsimp only; rw [if_pos rfl]
      rw [this] at hy
      rcases List.mem_cons.mp hy with rfl | hy
      · exact List.mem_append_left _ hv
      · exact List.mem_append_right _ (List.mem_cons_of_mem _ hy)
  · have ek : (S.grow v c ls).kids x = (S.kids x).map fun y => if y = v then c else y := by unfold Shp.grow; dsimp only; rw [if_neg e1]
    rw [ek]
    by_cases e2 : x = v ∨ x ∈ ls
    · have : S.kids x = [] := by rcases e2 with rfl | e2; exact hk; exact hlk x e2
      rw [this, single x e2]
      exact ⟨rfl, fun y hy => by cases hy⟩
    · have hxD : x ∈ D := by
        rcases List.mem_append.mp hx with hx | hx
        · exact hx
        · rcases List.mem_cons.mp hx with q | q
          · exact absurd q e1
          · exact absurd (.inr q) e2
      obtain ⟨q1, q2⟩ := h x hxD
      refine ⟨?_, fun y hy => ?_⟩
      · have ea : (S.grow v c ls).all x = (S.all x).flatMap (growF v c ls) := by unfold Shp.grow; dsimp only; rw [if_neg e1, if_neg e2]
        rw [ea, q1, List.flatMap_cons]
        have g1 : growF v c ls x = [x] := by unfold growF; rw [if_neg fun q => e2 (.inl q)]
        rw [g1, List.singleton_append]
        congr 1
        rw [List.flatMap_assoc, List.flatMap_map]
        have : ∀ l : List Int, (∀ y ∈ l, y ∈ D) → l.flatMap (fun y => (S.all y).flatMap (growF v c ls)) = l.flatMap (fun y => (S.grow v c ls).all (if y = v then c else y)) := by
          intro l hl'
          induction l with
          | nil => rfl
          | cons a r ih =>
            rw [List.flatMap_cons, List.flatMap_cons, ih fun y hy => hl' y (List.mem_cons_of_mem _ hy)]
            congr 1
            have haD := hl' a List.mem_cons_self
            by_cases e3 : a = v
            · subst e3
              rw [if_pos rfl, av]
              unfold Shp.grow growF; simp
            · rw [if_neg e3]
              have n1 : a ≠ c := fun q => hc (q ▸ haD)
              have n2 : ¬ (a = v ∨ a ∈ ls) := fun q => q.elim e3 fun q => hl a q haD
              unfold Shp.grow; dsimp only
              rw [if_neg n1, if_neg n2]
        exact this _ q2
      · obtain ⟨z, hz, rfl⟩ := List.mem_map.mp hy
        by_cases e3 : z = v
        · rw [if_pos e3]; exact List.mem_append_right _ List.mem_cons_self
        · rw [if_neg e3]; exact List.mem_append_left _ (q2 z hz)
/-- the tree, the nest, and that they tell the same -/
structure Good0 (S : Shp) (t : TR) (tr : Addr) (order : List Int) (wd : Int → Addr) (wr : Int → WR) (na nb : Int → Addr) (H : Hp) : Prop where
  tree : TreeAt S t tr order wd wr H
  nest : NestAt S na nb order H
  ok : S.Ok order
  root : t.root ∈ order
  perm : (S.all t.root).Perm order
  nd : order.Nodup
  sort : ∀ v ∈ order, ((wr v).sort == 0) = (S.kids v).isEmpty
  par : ∀ p ∈ order, ∀ v ∈ S.kids p, (wr v).par = p
  small : order.length ≤ 100
structure Deck (dk cs : Addr) (cells : List Int) (k : Int) (order : List Int) (wr : Int → WR) (H : Hp) : Prop where
  at1 : H dk = some (.list [.ref cs, .int k])
  at2 : H cs = some (.list (cells.map .int))
  sep : ∀ v ∈ order, (wr v).cl ≠ cs
structure Good1 (S : Shp) (t : TR) (order : List Int) (wr : Int → WR) : Prop where
  proot : (wr t.root).par = 0
  rng : ∀ v ∈ order, 1 ≤ v ∧ v ≤ t.last
  out : ∀ v, v ∉ order → S.kids v = []
  two : ∀ v, (S.kids v).length ≠ 1
section
variable {S : Shp} {t : TR} {tr : Addr} {order : List Int} {wd : Int → Addr} {wr : Int → WR} {na nb : Int → Addr} {H : Hp}
theorem Good0.all {r : Int} (g : Good0 S t tr order wd wr na nb H) (hr : r ∈ order) : (∀ x ∈ S.all r, x ∈ order) ∧ (S.all r).length ≤ order.length ∧ (S.all r).Nodup := by
  have hl : (S.all t.root).length = order.length := g.perm.length_eq
  have hrr : r ∈ S.all t.root := g.perm.symm.subset hr
  obtain ⟨h1, h2⟩ := g.ok.mem _ g.root (Nat.le_refl _) r hrr
  refine ⟨fun x hx => g.perm.subset (h2.subset hx), by rw [← hl]; exact h2.length_le, (g.perm.nodup_iff.mpr g.nd).sublist h2⟩
theorem Good0.kidsLen (g : Good0 S t tr order wd wr na nb H) {r : Int} (hr : r ∈ order) : (S.kids r).length ≤ order.length := by
  have h1 := (g.all hr).2.1
  have e := congrArg List.length (g.ok r hr).1
  have h2 : (S.kids r).length ≤ ((S.kids r).flatMap S.all).length := len_flat fun y hy => by rw [(g.ok y ((g.ok r hr).2 y hy)).1]; simp
  rw [List.length_cons] at e
  omega
theorem ends_ne {S : Shp} {D : List Int} (h : S.Ok D) : ∀ (m : Nat) {r : Int}, r ∈ D → (S.all r).length ≤ m → S.ends r ≠ []
  | 0, r, hr, hm => by rw [(h r hr).1] at hm; simp at hm
  | m + 1, r, hr, hm => by
    have e := (h r hr).1
    intro q
    unfold Shp.ends at q
    rw [e] at q
    cases hk : S.kids r with
    | nil => rw [hk] at q; simp [hk] at q
    | cons y ys =>
      have hy : y ∈ S.kids r := by rw [hk]; exact List.mem_cons_self
      have hl : (S.all y).length ≤ m := by
        rw [e, List.length_cons] at hm
        have := len_mem (f := S.all) hy
        omega
      have ih := ends_ne h m ((h r hr).2 y hy) hl
      obtain ⟨z, hz⟩ := List.exists_mem_of_ne_nil _ ih
      obtain ⟨hz1, hz2⟩ := List.mem_filter.mp hz
      have : z ∈ (r :: (S.kids r).flatMap S.all).filter (fun x => (S.kids x).isEmpty) := List.mem_filter.mpr ⟨List.mem_cons_of_mem _ (List.mem_flatMap.mpr ⟨y, hy, hz1⟩), hz2⟩
      rw [q] at this
      cases this
end
theorem TreeAt.congr {S S' : Shp} {t : TR} {tr : Addr} {order : List Int} {wd : Int → Addr} {wr : Int → WR} {H : Hp} (x : TreeAt S t tr order wd wr H) (e : ∀ v ∈ order, S.kids v = S'.kids v) : TreeAt S' t tr order wd wr H :=
  ⟨x.tr, x.dw, x.wn, fun v hv => by rw [← e v hv]; exact x.ch v hv, x.ci⟩
theorem TreeAt.turn {S : Shp} {t : TR} {tr : Addr} {order : List Int} {wd : Int → Addr} {wr : Int → WR} {H : Hp} (x : TreeAt S t tr order wd wr H) {a : Addr} {o o' : MObj} (ha : H a = some o) (h1 : ∀ C fs, MObj.inst C fs ≠ o) (h2 : ∀ es, MObj.dict es ≠ o) (h3 : ∀ l : List Int, MObj.list (l.map .int) ≠ o) :
    TreeAt S t tr order wd wr (hset H a o') :=
  ⟨(hset_ne (ne_obj x.tr ha (h1 _ _))).trans x.tr, (hset_ne (ne_obj x.dw ha (h2 _))).trans x.dw, fun v hv => (hset_ne (ne_obj (x.wn v hv) ha (h1 _ _))).trans (x.wn v hv), fun v hv => (hset_ne (ne_obj (x.ch v hv) ha (h3 _))).trans (x.ch v hv), x.ci⟩
theorem NestAt.turn {S : Shp} {na nb : Int → Addr} {D : List Int} {H : Hp} (x : NestAt S na nb D H) {a : Addr} {o o' : MObj} (ha : H a = some o) (h1 : ∀ v b, MObj.list [.int v, .ref b] ≠ o) (h2 : ∀ l : List Addr, MObj.list (l.map .ref) ≠ o) : NestAt S na nb D (hset H a o') :=
  fun v hv => ⟨(hset_ne (ne_obj (x v hv).1 ha (h1 _ _))).trans (x v hv).1, (hset_ne (ne_obj (x v hv).2 ha (by have := h2 ((S.kids v).map na); rwa [List.map_map] at this))).trans (x v hv).2⟩
theorem deck_ne1 {cs : Addr} {k : Int} (l : List Int) : MObj.list (l.map .int) ≠ .list [.ref cs, .int k] := by intro e; cases l <;> simp at e
theorem deck_ne2 {cs : Addr} {k : Int} (l : List Addr) : MObj.list (l.map .ref) ≠ .list [.ref cs, .int k] := by
  intro e
  cases l with
  | nil => simp at e
  | cons a r => cases r <;> simp at e
theorem deck_ne3 {cs : Addr} {k : Int} (v : Int) (b : Addr) : MObj.list [.int v, .ref b] ≠ .list [.ref cs, .int k] := by simp
theorem set_idx {l : List Int} {v c : Int} (hnd : l.Nodup) (hv : v ∈ l) : l.set (l.idxOf v) c = l.map fun y => if y = v then c else y := by
  induction l with
  | nil => cases hv
  | cons a r ih =>
    obtain ⟨h1, h2⟩ := List.nodup_cons.mp hnd
    by_cases e : a = v
    · subst e
      rw [List.idxOf_cons_self, List.set_cons_zero, List.map_cons, if_pos rfl]
      congr 1
      refine (List.map_id' _).symm.trans (List.map_congr_left fun y hy => ?_)
      rw [if_neg fun q => h1 (by rw [← q]; exact hy)]
    · have hv' := (List.mem_cons.mp hv).resolve_left (Ne.symm e)
      rw [show (a :: r).idxOf v = r.idxOf v + 1 from by rw [List.idxOf_cons, beq_false_of_ne e]; rfl, List.set_cons_succ, List.map_cons, if_neg e, ih h2 hv']
theorem map_no {l : List Int} {v c : Int} (hv : v ∉ l) : (l.map fun y => if y = v then c else y) = l :=
  (List.map_congr_left fun y hy => by rw [if_neg (fun q => hv (by rw [← q]; exact hy))]).trans (List.map_id' _)
theorem NestAt.old {S : Shp} {na nb : Int → Addr} {D : List Int} {H H' : Hp} (x : NestAt S na nb D H) {P : Addr → Prop} (k : ∀ b o, H b = some o → P b → H' b = some o) (p : ∀ b xs, H b = some (.list xs) → P b) : NestAt S na nb D H' :=
  fun v hv => ⟨k _ _ (x v hv).1 (p _ _ (x v hv).1), k _ _ (x v hv).2 (p _ _ (x v hv).2)⟩
theorem NestAt.other {S : Shp} {na nb : Int → Addr} {D : List Int} {H H' : Hp} (x : NestAt S na nb D H) (k : ∀ b xs, H b = some (.list xs) → (∃ v a, xs = [.int v, .ref a]) ∨ (∃ l : List Addr, xs = l.map .ref) → H' b = some (.list xs)) : NestAt S na nb D H' :=
  fun v hv => ⟨k _ _ (x v hv).1 (.inl ⟨_, _, rfl⟩), k _ _ (x v hv).2 (.inr ⟨(S.kids v).map na, by rw [List.map_map]; rfl⟩)⟩

theorem ints_ne1 {a : Int} {l : List Int} (v : Int) (b : Addr) : MObj.list [.int v, .ref b] ≠ .list ((a :: l).map .int) := by intro e; cases l <;> simp at e
theorem ints_ne2 {a : Int} {l : List Int} (q : List Addr) : MObj.list (q.map .ref) ≠ .list ((a :: l).map .int) := by intro e; cases q <;> simp at e
def news (c : Int) (i : Nat) : List Int := (List.range i).map fun j => c + 1 + (j : Nat)
theorem news_succ (c : Int) (i : Nat) : news c (i + 1) = news c i ++ [c + 1 + (i : Nat)] := by unfold news; rw [List.range_succ, List.map_append]; rfl
theorem news_mem {c u : Int} {i : Nat} (h : u ∈ news c i) : c < u ∧ u ≤ c + (i : Nat) := by
  obtain ⟨j, hj, rfl⟩ := List.mem_map.mp h
  have := List.mem_range.mp hj
  omega
theorem news_len (c : Int) (i : Nat) : (news c i).length = i := by unfold news; simp
def repl (S : Shp) (v c : Int) : Shp := ⟨fun x => (S.kids x).map fun y => if y = v then c else y, S.all⟩
theorem upd_upd {α : Type} (f : Int → α) (k : Int) (a b : α) : upd (upd f k a) k b = upd f k b := by
  funext x
  unfold upd
  by_cases e : x = k <;> simp [e]
theorem stage4 {S : Shp} {t : TR} {tr : Addr} {order : List Int} {wd : Int → Addr} {wr : Int → WR} {na nb : Int → Addr} {H H3 H4 : Hp} {dk cs : Addr} {cells : List Int} {k k' : Int} {v c : Int} {xa : Addr} {ra : WR} (g : Good0 S t tr order wd wr na nb H) (g1 : Good1 S t order wr) (dck : Deck dk cs cells k order wr H)
    (hvo : v ∈ order) (hv1 : v ∈ S.all t.root) (hcn : c ∉ order) (hvc : v ≠ c) (T3 : TreeAt S { t with last := c } tr (order ++ [c]) (upd wd c xa) (upd wr c ra) H3) (N3 : NestAt S na nb order H3) (K3 : H3 dk = some (.list [.ref cs, .int k'])) (C3 : H3 cs = some (.list (cells.map .int)))
    (T4 : TreeAt (if (upd wr c ra v).par = 0 then S else ⟨upd S.kids (upd wr c ra v).par ((S.kids (upd wr c ra v).par).set ((S.kids (upd wr c ra v).par).idxOf v) c), S.all⟩) (if (upd wr c ra v).par = 0 then { t with last := c, root := c } else { t with last := c }) tr (order ++ [c]) (upd wd c xa) (upd (upd wr c ra) c { (upd wr c ra) c with par := (upd wr c ra v).par }) H4)
    (old4 : ∀ b o, H3 b = some o → b ≠ tr → b ≠ upd wd c xa c → b ≠ (upd wr c ra (upd wr c ra v).par).cl ∨ (upd wr c ra v).par = 0 → H4 b = some o) :
    TreeAt (repl S v c) { t with last := c, root := if v = t.root then c else t.root } tr (order ++ [c]) (upd wd c xa) (upd wr c { ra with par := (wr v).par }) H4 ∧ NestAt S na nb order H4 ∧ H4 dk = some (.list [.ref cs, .int k']) ∧ H4 cs = some (.list (cells.map .int)) := by
  rw [upd_upd, upd_eq, upd_ne hvc] at T4
  rw [upd_ne hvc, upd_eq] at old4
  have kc : S.kids c = [] := g1.out c hcn
  have hxa : H3 xa = some (win c ra) := by have := T3.wn c (by simp); rwa [upd_eq, upd_eq] at this
  by_cases e : v = t.root
  · have e0 : (wr v).par = 0 := by rw [e]; exact g1.proot
    rw [if_pos e0, if_pos e0] at T4
    have no : ∀ u ∈ order ++ [c], v ∉ S.kids u := fun u hu hm => by
      rcases List.mem_append.mp hu with hu | hu
      · have h1 := g.par u hu v hm
        rw [e0] at h1
        have := (g1.rng u hu).1
        omega
      · rw [List.mem_singleton.mp hu, kc] at hm; cases hm
    rw [if_pos e]
    have o4 : ∀ b xs, H3 b = some (.list xs) → H4 b = some (.list xs) := fun b xs h => old4 b _ h (ne_obj h T3.tr (by simp)) (ne_obj h hxa (by simp)) (.inr e0)
    exact ⟨T4.congr fun u hu => (map_no (no u hu)).symm, fun u hu => ⟨o4 _ _ (N3 u hu).1, o4 _ _ (N3 u hu).2⟩, o4 _ _ K3, o4 _ _ C3⟩
  · obtain ⟨p, hp1, hp2⟩ := g.ok.parent _ g.root (Nat.le_refl _) v hv1 e
    have hp3 : p ∈ order := g.perm.subset hp1
    have ep : (wr v).par = p := g.par p hp3 v hp2
    have p0 : p ≠ 0 := by have := (g1.rng p hp3).1; omega
    have hpc : p ≠ c := fun q => hcn (q ▸ hp3)
    rw [ep, if_neg p0, if_neg p0] at T4
    rw [ep, upd_ne hpc] at old4
    rw [if_neg e, ep]
    have hcl : H3 (wr p).cl = some (.list ((S.kids p).map .int)) := by have := T3.ch p (List.mem_append_left _ hp3); rwa [upd_ne hpc] at this
    have o4 : ∀ b xs, H3 b = some (.list xs) → b ≠ (wr p).cl → H4 b = some (.list xs) := fun b xs h q => old4 b _ h (ne_obj h T3.tr (by simp)) (ne_obj h hxa (by simp)) (.inl q)
    have hnd := (g.ok.kidsNodup g.root (g.all g.root).2.2 hp1).1
    refine ⟨T4.congr fun u hu => ?_, fun u hu => ⟨o4 _ _ (N3 u hu).1 (ne_obj (N3 u hu).1 hcl fun q => ?_), o4 _ _ (N3 u hu).2 (ne_obj (N3 u hu).2 hcl fun q => ?_)⟩, o4 _ _ K3 (ne_obj K3 hcl (Ne.symm (deck_ne1 _))), o4 _ _ C3 (Ne.symm (dck.sep p hp3))⟩
    · by_cases q : u = p
      · subst q; dsimp only; rw [upd_eq]; exact set_idx hnd hp2
      · dsimp only; rw [upd_ne q]
        refine (map_no fun hm => ?_).symm
        rcases List.mem_append.mp hu with hu | hu
        · exact q ((g.par u hu v hm).symm.trans ep)
        · rw [List.mem_singleton.mp hu, kc] at hm; cases hm
    · cases hk : S.kids p with
      | nil => rw [hk] at hp2; cases hp2
      | cons a r => rw [hk] at q; cases r <;> simp at q
    · cases hk : S.kids p with
      | nil => rw [hk] at hp2; cases hp2
      | cons a r => rw [hk] at q; cases hu2 : S.kids u <;> rw [hu2] at q <;> simp at q
theorem grown_good {S : Shp} {t : TR} {tr : Addr} {order : List Int} {wd wd' : Int → Addr} {wr wr' : Int → WR} {na nb A B : Int → Addr} {H Hf : Hp} {D cs : Addr} {v c : Int} {m : Nat} {ra : WR} (g : Good0 S t tr order wd wr na nb H) (g1 : Good1 S t order wr)
    (hvo : v ∈ order) (hvk : S.kids v = []) (hc' : t.last + 1 = c) (hm0 : m ≤ 2) (hm1 : 1 ≤ m) (hsz : order.length ≤ 90)
    (T : TreeAt ⟨upd (repl S v c).kids c (v :: news c m), S.all⟩ { t with last := c + (m : Nat), root := if v = t.root then c else t.root } tr (order ++ [c] ++ news c m) wd' (upd wr' v { wr' v with par := c }) Hf)
    (w2 : ∀ u ∈ order, wr' u = wr u) (w3 : wr' c = ra) (w3s : (ra.sort == 0) = false) (w3p : ra.par = (wr v).par) (w4 : ∀ u ∈ news c m, (wr' u).sort = 0 ∧ (wr' u).par = c ∧ (wr' u).cl ≠ cs)
    (n1 : ∀ u ∈ order, u ≠ v → Hf (na u) = some (.list [.int u, .ref (nb u)])) (n2 : ∀ u ∈ order, Hf (nb u) = some (.list ((S.kids u).map fun y => .ref (na y)))) (n3 : Hf (na v) = some (.list [.int c, .ref D]))
    (n4 : Hf D = some (.list ((v :: news c m).map fun y => .ref (A y)))) (n5 : ∀ y ∈ v :: news c m, Hf (A y) = some (.list [.int y, .ref (B y)]) ∧ Hf (B y) = some (.list [])) :
    ∃ na' nb', Good0 (S.grow v c (news c m)) { t with last := c + (m : Nat), root := if v = t.root then c else t.root } tr (order ++ [c] ++ news c m) wd' (upd wr' v { wr' v with par := c }) na' nb' Hf ∧
      Good1 (S.grow v c (news c m)) { t with last := c + (m : Nat), root := if v = t.root then c else t.root } (order ++ [c] ++ news c m) (upd wr' v { wr' v with par := c }) ∧ na' (if v = t.root then c else t.root) = na t.root := by
  have hco : ∀ u ∈ order, u < c := fun u hu => by have := (g1.rng u hu).2; omega
  have hcn : c ∉ order := fun q => by have := hco c q; omega
  have hvc : v ≠ c := fun q => by have := hco v hvo; omega
  have hlc : ∀ y ∈ news c m, c < y := fun y hy => (news_mem hy).1
  have hcl : c ∉ news c m := fun q => by have := hlc c q; omega
  have hln : ∀ y ∈ news c m, y ∉ order := fun y hy q => by have := hlc y hy; have := hco y q; omega
  have hlk : ∀ y ∈ news c m, S.kids y = [] := fun y hy => g1.out y (hln y hy)
  have hall := g.all g.root
  have hv1 : v ∈ S.all t.root := g.perm.symm.subset hvo
  have eo : order ++ [c] ++ news c m = order ++ c :: news c m := by simp
  have hnn : (news c m).Nodup := by
    unfold news
    exact List.pairwise_map.mpr (List.Pairwise.imp (fun e q => e (by omega)) List.nodup_range)
  have hmem : ∀ x, x ∈ order ++ [c] ++ news c m ↔ x ∈ order ∨ x = c ∨ x ∈ news c m := fun x => by simp [or_assoc]
  have ekc : (S.grow v c (news c m)).kids c = v :: news c m := by unfold Shp.grow; dsimp only; rw [if_pos rfl]
  have ekn : ∀ x, x ≠ c → (S.grow v c (news c m)).kids x = (S.kids x).map fun y => if y = v then c else y := fun x hx => by unfold Shp.grow; dsimp only; rw [if_neg hx]
  have hok : (S.grow v c (news c m)).Ok (order ++ [c] ++ news c m) := by rw [eo]; exact Shp.grow_ok g.ok hvo hvk hcn hcl hln hlk
  refine ⟨fun x => if x = c then na v else if x = v ∨ x ∈ news c m then A x else na x, fun x => if x = c then D else if x = v ∨ x ∈ news c m then B x else nb x, ⟨T.congr fun u hu => ?_, fun u hu => ?_, hok, ?_, ?_, ?_, fun u hu => ?_, fun p hp u hu => ?_, ?_⟩, ⟨?_, fun u hu => ?_, fun u hu => ?_, fun u => ?_⟩, ?_⟩
  · show upd (repl S v c).kids c (v :: news c m) u = _
    by_cases e : u = c
    · rw [e, upd_eq, ekc]
    · rw [upd_ne e, ekn u e]; rfl
  · show Hf (if u = c then na v else if u = v ∨ u ∈ news c m then A u else na u) = some (.list [.int u, .ref (if u = c then D else if u = v ∨ u ∈ news c m then B u else nb u)]) ∧ Hf (if u = c then D else if u = v ∨ u ∈ news c m then B u else nb u) = some (.list (((S.grow v c (news c m)).kids u).map fun x => MV.ref (if x = c then na v else if x = v ∨ x ∈ news c m then A x else na x)))
    by_cases e1 : u = c
    · rw [if_pos e1, if_pos e1, e1, ekc]
      refine ⟨n3, n4.trans ?_⟩
      congr 2
      refine List.map_congr_left fun y hy => ?_
      have h1 : y ≠ c := by
        rcases List.mem_cons.mp hy with rfl | hy
        · exact hvc
        · exact fun q => hcl (q ▸ hy)
      rw [if_neg h1, if_pos (List.mem_cons.mp hy)]
    · rw [if_neg e1, if_neg e1, ekn u e1]
      by_cases e2 : u = v ∨ u ∈ news c m
      · rw [if_pos e2, if_pos e2]
        have ek : S.kids u = [] := by rcases e2 with rfl | e2; exact hvk; exact hlk u e2
        rw [ek]
        exact n5 u (List.mem_cons.mpr e2)
      · rw [if_neg e2, if_neg e2]
        have huo : u ∈ order := by
          rcases (hmem u).mp hu with q | q | q
          · exact q
          · exact absurd q e1
          · exact absurd (.inr q) e2
        refine ⟨n1 u huo fun q => e2 (.inl q), (n2 u huo).trans ?_⟩
        rw [List.map_map]
        congr 2
        refine List.map_congr_left fun y hy => ?_
        have hyo := (g.ok u huo).2 y hy
        dsimp only [Function.comp]
        by_cases e3 : y = v
        · simp only [e3, if_true]
        · have h4 : y ≠ c := fun q => hcn (q ▸ hyo)
          have h5 : ¬ (y = v ∨ y ∈ news c m) := fun q => q.elim e3 fun q => hln y q hyo
          simp only [if_neg e3, if_neg h4, if_neg h5]
  · rw [hmem]
    dsimp only
    by_cases e : v = t.root
    · rw [if_pos e]; exact .inr (.inl rfl)
    · rw [if_neg e]; exact .inl g.root
  · dsimp only
    rw [eo]
    by_cases e : v = t.root
    · rw [if_pos e]
      have ea : (S.grow v c (news c m)).all c = c :: v :: news c m := by unfold Shp.grow; dsimp only; rw [if_pos rfl]
      rw [ea]
      have eo1 : [v].Perm order := by have := g.perm; rw [← e, (g.ok v hvo).1, hvk] at this; exact this
      exact ((List.Perm.swap v c (news c m))).trans (eo1.append (List.Perm.refl (c :: news c m)))
    · rw [if_neg e]
      have h1 : t.root ≠ c := fun q => hcn (q ▸ g.root)
      have h2 : ¬ (t.root = v ∨ t.root ∈ news c m) := fun q => q.elim (fun q => e q.symm) fun q => hln _ q g.root
      have ea : (S.grow v c (news c m)).all t.root = (S.all t.root).flatMap (growF v c (news c m)) := by unfold Shp.grow; dsimp only; rw [if_neg h1, if_neg h2]
      rw [ea]
      exact (growF_perm hv1 hall.2.2).trans (g.perm.append (List.Perm.refl _))
  · rw [eo]
    refine List.nodup_append.mpr ⟨g.nd, List.nodup_cons.mpr ⟨hcl, hnn⟩, fun a ha b hb e => ?_⟩
    subst e
    rcases List.mem_cons.mp hb with rfl | hb
    · exact hcn ha
    · exact hln a hb ha
  · by_cases e1 : u = c
    · rw [e1, upd_ne (Ne.symm hvc), w3, ekc, w3s]; rfl
    · rw [ekn u e1]
      have : ((S.kids u).map fun y => if y = v then c else y).isEmpty = (S.kids u).isEmpty := by cases S.kids u <;> rfl
      rw [this]
      rcases (hmem u).mp hu with q | q | q
      · by_cases e2 : u = v
        · rw [e2, upd_eq]; dsimp only; rw [w2 v hvo]; exact g.sort v hvo
        · rw [upd_ne e2, w2 u q]; exact g.sort u q
      · exact absurd q e1
      · have e2 : u ≠ v := fun z => hln u q (z ▸ hvo)
        rw [upd_ne e2, (w4 u q).1, hlk u q]; rfl
  · by_cases e1 : p = c
    · rw [e1, ekc] at hu
      rcases List.mem_cons.mp hu with e | hu
      · rw [e, upd_eq, e1]
      · have e2 : u ≠ v := fun z => hln u hu (z ▸ hvo)
        rw [upd_ne e2, (w4 u hu).2.1, e1]
    · rw [ekn p e1] at hu
      obtain ⟨z, hz, rfl⟩ := List.mem_map.mp hu
      have hpo : p ∈ order := by
        rcases (hmem p).mp hp with q | q | q
        · exact q
        · exact absurd q e1
        · rw [hlk p q] at hz; cases hz
      have hzo := (g.ok p hpo).2 z hz
      by_cases e3 : z = v
      · rw [if_pos e3, upd_ne (Ne.symm hvc), w3, w3p, ← e3]; exact g.par p hpo z hz
      · rw [if_neg e3, upd_ne e3, w2 z hzo]; exact g.par p hpo z hz
  · rw [eo, List.length_append, List.length_cons, news_len]; omega
  · dsimp only
    by_cases e : v = t.root
    · rw [if_pos e, upd_ne (Ne.symm hvc), w3, w3p, e]; exact g1.proot
    · rw [if_neg e, upd_ne fun q => e q.symm, w2 _ g.root]; exact g1.proot
  · dsimp only
    rcases (hmem u).mp hu with q | q | q
    · have := g1.rng u q; omega
    · have := (g1.rng v hvo).1; have := hco v hvo; omega
    · have := news_mem q; have := (g1.rng v hvo).1; have := hco v hvo; omega
  · have h1 : ¬ (u ∈ order ∨ u = c ∨ u ∈ news c m) := fun q => hu ((hmem u).mpr q)
    have h2 : u ≠ c := fun q => h1 (.inr (.inl q))
    rw [ekn u h2, g1.out u fun q => h1 (.inl q)]; rfl
  · by_cases h2 : u = c
    · rw [h2, ekc, List.length_cons, news_len]; omega
    · rw [ekn u h2, List.length_map]; exact g1.two u
  · dsimp only
    by_cases e : v = t.root
    · rw [if_pos e, if_pos rfl, e]
    · rw [if_neg e]
      have h1 : t.root ≠ c := fun q => hcn (q ▸ g.root)
      have h2 : ¬ (t.root = v ∨ t.root ∈ news c m) := fun q => q.elim (fun q => e q.symm) fun q => hln _ q g.root
      rw [if_neg h1, if_neg h2]
section
variable {d : Dt} {n : Nat} {L : Addr} {ρ : Loc} {H : Hp} {Q : MV → Loc → Hp → Prop}
variable {S : Shp} {na nb : Int → Addr} {D : List Int}
variable {t : TR} {tr : Addr} {order : List Int} {wd : Int → Addr} {wr : Int → WR}
set_option pp.deepTerms false
set_option pp.deepTerms.threshold 6
set_option maxHeartbeats 4000000 in
theorem c_grown (hc : (cx d).Ok) {dk cs : Addr} {cells : List Int} {k : Int} (hk : 0 ≤ k ∧ k ≤ 900) (hz : cells.length ≤ 1000) (g : Good0 S t tr order wd wr na nb H) (g1 : Good1 S t order wr) (dck : Deck dk cs cells k order wr H) (hsz : order.length ≤ 90)
    (h : ∀ H' S' t' order' wd' wr' na' nb', Good0 S' t' tr order' wd' wr' na' nb' H' → Good1 S' t' order' wr' → Deck dk cs cells (k + 1 + 1 + 1) order' wr' H' → na' t'.root = na t.root → order'.length ≤ order.length + 3 → t'.clock = t.clock → Q (.ref (na t.root)) ρ H') :
    OpL (cx d) (n+120) L (fun vs => call (.ref 255) vs) [.ref dk, .ref tr, .ref (na t.root)] ρ H Q := by
  refine f_call (n := n + 119) hc (ho := by with_unfolding_all rfl) (hcd := by with_unfolding_all rfl) (hb := binds3 (x := "deck") (y := "tree") (z := "nest") fun v w u => by with_unfolding_all rfl) (hloc := hloc_of (by with_unfolding_all rfl)) ?_
  intro L'
  have hall := g.all g.root
  have k1 := dck.at1
  have k2 := dck.at2
  have hcn : cs ≠ dk := ne_obj dck.at2 dck.at1 (by intro e; cases cells <;> simp at e)
  repeat walk_at "m"
  refine c_ends hc g.nest g.ok g.root hall.1 (m := 100) (by have := g.small; omega) (by omega) fun el hel => ?_
  have hne := ends_ne g.ok _ g.root (Nat.le_refl _)
  repeat walk_at "m"
  have hle : (S.ends t.root).length ≤ 100 := Nat.le_trans (List.length_filter_le _ _) (Nat.le_trans hall.2.1 g.small)
  have hpos : 0 < (S.ends t.root).length := List.length_pos_iff.mpr hne
  have d1 : dk ≠ el := ne_of dck.at1 hel
  have d2 : cs ≠ el := ne_of dck.at2 hel
  refine ts_pairS (x := "number") (y := "many") ?_ (by with_unfolding_all rfl) (by with_unfolding_all rfl)
  repeat walk_at "m"
  refine c_draw hc (by walk_at "get") (by walk_at "get") (by omega) hz (by rw [List.length_map]; omega) fun r1 p1 p2 => ?_
  rw [List.length_map] at p2
  have hi : r1.toNat < (S.ends t.root).length := by omega
  refine o_item (m := .int ((S.ends t.root)[r1.toNat])) (by walk_at "get") p1 (by rw [List.length_map]; omega) (by rw [List.getElem?_map, List.getElem?_eq_getElem hi]; rfl) ?_ (by intro _ _ _; with_unfolding_all rfl)
  have hvm : (S.ends t.root)[r1.toNat] ∈ S.ends t.root := List.getElem_mem hi
  generalize (S.ends t.root)[r1.toNat] = v at hvm ⊢
  obtain ⟨hv1, hv2⟩ := List.mem_filter.mp hvm
  have hvk : S.kids v = [] := List.isEmpty_iff.mp hv2
  have hvo : v ∈ order := hall.1 v hv1
  repeat walk_at "m"
  refine c_draw hc (by walk_at "get") (by walk_at "get") (by omega) hz (by omega) fun r2 q1 q2 => ?_
  rw [hset_set]
  obtain ⟨m, hm⟩ : ∃ m : Nat, 1 + r2 = (m : Nat) := ⟨(1 + r2).toNat, by omega⟩
  have hm2 : m ≤ 2 := by omega
  have hm1 : 1 ≤ m := by omega
  repeat walk_at "m"
  rename_i tp htp
  have T1 := ((g.tree.sub ((Sub.refl H).hset hel)).turn (o' := .list [.ref cs, .int (k + 1 + 1)]) ((hset_ne (o := .list ((S.ends t.root).map .int)) d1).trans k1) (by simp) (by simp) deck_ne1).sub ((Sub.refl _).hset (o := .tuple [.int v, .int (1 + r2)]) htp)
  have N1 := ((g.nest.sub ((Sub.refl H).hset hel)).turn (o' := .list [.ref cs, .int (k + 1 + 1)]) ((hset_ne (o := .list ((S.ends t.root).map .int)) d1).trans k1) deck_ne3 deck_ne2).sub ((Sub.refl _).hset (o := .tuple [.int v, .int (1 + r2)]) htp)
  have K1 : hset (hset (hset H el (.list ((S.ends t.root).map .int))) dk (.list [.ref cs, .int (k + 1 + 1)])) tp (.tuple [.int v, .int (1 + r2)]) dk = some (.list [.ref cs, .int (k + 1 + 1)]) := by walk_at "get"
  have C1 : hset (hset (hset H el (.list ((S.ends t.root).map .int))) dk (.list [.ref cs, .int (k + 1 + 1)])) tp (.tuple [.int v, .int (1 + r2)]) cs = some (.list (cells.map .int)) := by walk_at "get"
  refine ⟨_, _, _, rfl, hset_eq _ _ _, ?_⟩
  generalize hset (hset (hset H el (.list ((S.ends t.root).map .int))) dk (.list [.ref cs, .int (k + 1 + 1)])) tp (.tuple [.int v, .int (1 + r2)]) = H1 at T1 N1 K1 C1 ⊢
  have G1 := T1.tr
  repeat walk_at "m"
  refine c_draw hc (by walk_at "get") (by walk_at "get") (by omega) hz (by decide) fun r3 s1 s2 => ?_
  rename_i cr hcr
  have T2 := (T1.sub ((Sub.refl _).hset (o := .list [.int 1, .int 2]) hcr)).turn (o' := .list [.ref cs, .int (k + 1 + 1 + 1)]) ((hset_ne (ne_of K1 hcr)).trans K1) (by simp) (by simp) deck_ne1
  have N2 := (N1.sub ((Sub.refl _).hset (o := .list [.int 1, .int 2]) hcr)).turn (o' := .list [.ref cs, .int (k + 1 + 1 + 1)]) ((hset_ne (ne_of K1 hcr)).trans K1) deck_ne3 deck_ne2
  have d3 : cs ≠ cr := ne_of C1 hcr
  have d4 : cr ≠ dk := Ne.symm (ne_of K1 hcr)
  have K2 : hset (hset H1 cr (.list [.int 1, .int 2])) dk (.list [.ref cs, .int (k + 1 + 1 + 1)]) dk = some (.list [.ref cs, .int (k + 1 + 1 + 1)]) := hset_eq _ _ _
  have C2 : hset (hset H1 cr (.list [.int 1, .int 2])) dk (.list [.ref cs, .int (k + 1 + 1 + 1)]) cs = some (.list (cells.map .int)) := by walk_at "get"
  refine o_item (m := .int (1 + r3)) (by walk_at "get") s1 (by decide) (by
    have : r3 = 0 ∨ r3 = 1 := by omega
    rcases this with rfl | rfl <;> rfl) ?_ (by intro _ _ _; with_unfolding_all rfl)
  generalize hset (hset H1 cr (.list [.int 1, .int 2])) dk (.list [.ref cs, .int (k + 1 + 1 + 1)]) = H2 at T2 N2 K2 C2 ⊢
  repeat walk_at "m"
  have hcn' : t.last + 1 ∉ order := fun q => by have := (g1.rng _ q).2; omega
  refine c_fresh' hc T2 hcn' (g1.out _ hcn') (by have := g.small; omega) fun xa ra H3 f1 f2 f3 f4 T3 old3 => ?_
  have N3 := N2.old (P := fun b => b ≠ tr ∧ b ≠ t.dw) (fun b o e p => old3 b o e p.1 p.2) fun b xs e => ⟨ne_obj e T2.tr (by simp), ne_obj e T2.dw (by simp)⟩
  have K3 := old3 _ _ K2 (ne_obj K2 T2.tr (by simp)) (ne_obj K2 T2.dw (by simp))
  have C3 := old3 _ _ C2 (ne_obj C2 T2.tr (by simp)) (ne_obj C2 T2.dw (by simp))
  have hrc : ra.cl ≠ cs := Ne.symm (ne_of C2 f1)
  generalize hc' : t.last + 1 = c at hcn' T3
  have hvc : v ≠ c := fun e => hcn' (e ▸ hvo)
  have hvo' : v ∈ order ++ [c] := List.mem_append_left _ hvo
  have hco : c ∈ order ++ [c] := by simp
  have G3 := T3.wn c hco
  rw [upd_eq, upd_eq] at G3
  repeat walk_at "m"
  have hpar : (upd wr c ra v).par = 0 ∨ (upd wr c ra v).par ∈ order ++ [c] ∧ (upd wr c ra v).par ≠ c ∧ v ∈ S.kids (upd wr c ra v).par ∧ (S.kids (upd wr c ra v).par).length ≤ 1000 := by
    rw [upd_ne hvc]
    by_cases e : v = t.root
    · rw [e]; exact .inl g1.proot
    · obtain ⟨p, hp1, hp2⟩ := g.ok.parent _ g.root (Nat.le_refl _) v hv1 e
      have hp3 := hall.1 p hp1
      rw [g.par p hp3 v hp2]
      exact .inr ⟨List.mem_append_left _ hp3, fun q => hcn' (q ▸ hp3), hp2, by have := g.kidsLen hp3; have := g.small; omega⟩
  refine c_replace hc T3 hvo' hco hvc (fun p hp => ?_) hpar fun H4 T4 old4 => ?_
  · rcases List.mem_append.mp hp with hp | hp
    · have := (g1.rng p hp).1; omega
    · have := (g1.rng v hvo); have := List.mem_singleton.mp hp; omega
  obtain ⟨T5, N5, K5, C5⟩ := stage4 g g1 dck hvo hv1 hcn' hvc T3 N3 K3 C3 T4 old4
  clear T4 old4 hpar
  generalize ha5 : ({ ra with par := (wr v).par } : WR) = r5 at T5
  have fr5 : r5.cl = ra.cl ∧ r5.sort = ra.sort ∧ r5.par = (wr v).par := by rw [← ha5]; exact ⟨rfl, rfl, rfl⟩
  clear ha5
  have G5 := T5.wn c hco
  rw [upd_eq, upd_eq] at G5
  repeat walk_at "m"
  rename_i nl hnl
  have e6 : hset (hset H4 nl (.list [.int v])) xa (.inst 93 (fput (winFs c r5) "children" (.ref nl))) = hset (hset H4 nl (.list ([v].map .int))) (upd wd c xa c) (win c { upd wr c r5 c with cl := nl }) := by rw [upd_eq, upd_eq]; rfl
  have T6 := T5.newKids (l := [v]) hco hnl
  rw [← e6] at T6
  have N6 := (N5.sub ((Sub.refl _).hset (o := .list [.int v]) hnl)).turn (a := xa) (o' := .inst 93 (fput (winFs c r5) "children" (.ref nl))) ((hset_ne (ne_of G5 hnl)).trans G5) (by simp) (by simp)
  have K6 : hset (hset H4 nl (.list [.int v])) xa (.inst 93 (fput (winFs c r5) "children" (.ref nl))) dk = some (.list [.ref cs, .int (k + 1 + 1 + 1)]) := (hset_ne (ne_obj K5 G5 (by simp))).trans ((hset_ne (ne_of K5 hnl)).trans K5)
  have C6 : hset (hset H4 nl (.list [.int v])) xa (.inst 93 (fput (winFs c r5) "children" (.ref nl))) cs = some (.list (cells.map .int)) := (hset_ne (ne_obj C5 G5 (by simp))).trans ((hset_ne (ne_of C5 hnl)).trans C5)
  have hnc : nl ≠ cs := Ne.symm (ne_of C5 hnl)
  generalize hset (hset H4 nl (.list [.int v])) xa (.inst 93 (fput (winFs c r5) "children" (.ref nl))) = H6 at T6 N6 K6 C6 ⊢
  clear e6
  rw [upd_upd, upd_eq] at T6
  refine ts_for ?_
  repeat walk_at "m"
  rw [hm]
  refine f_range fun rg hrg => ?_
  refine forR_intro (fun i ρ' H' => ∃ wd' wr', ρ' "tree" = some (.ref tr) ∧ ρ' "combo" = some (.ref xa) ∧ ρ' "number" = some (.int v) ∧ ρ' "nest" = some (.ref (na t.root)) ∧
    TreeAt ⟨upd (repl S v c).kids c (v :: news c i), S.all⟩ { t with last := c + (i : Nat), root := if v = t.root then c else t.root } tr (order ++ [c] ++ news c i) wd' wr' H' ∧ wd' c = xa ∧ (∀ u ∈ order, wr' u = wr u) ∧ wr' c = { r5 with cl := nl } ∧
    (∀ u ∈ news c i, (wr' u).sort = 0 ∧ (wr' u).par = c ∧ (wr' u).cl ≠ cs) ∧ NestAt S na nb order H' ∧ H' dk = some (.list [.ref cs, .int (k + 1 + 1 + 1)]) ∧ H' cs = some (.list (cells.map .int))) (by walk_at "get") (by omega) ?_ ?_ ?_
  · have sb := (Sub.refl H6).hset (o := .range m) hrg
    refine ⟨upd wd c xa, upd wr c { r5 with cl := nl }, by walk_at "loc", by walk_at "loc", by walk_at "loc", by walk_at "loc", ?_, upd_eq _ _ _, fun u hu => upd_ne fun e => hcn' (e ▸ hu), upd_eq _ _ _, (fun u hu => by cases hu), N6.sub sb, sb _ _ K6, sb _ _ C6⟩
    have := T6.sub sb
    have e0 : order ++ [c] ++ news c 0 = order ++ [c] := by simp [news]
    rw [e0]
    have e1 : (c : Int) + (0 : Nat) = c := by simp
    rw [e1]
    exact this
  · rintro i ρ2 H7 hi ⟨wd', wr', l1, l2, l3, l4, T7, w1, w2, w3, w4, N7, K7, C7⟩
    have hco7 : c ∈ order ++ [c] ++ news c i := by simp
    have G7 := T7.wn c hco7
    have Ch7 := T7.ch c hco7
    have Gt7 := T7.tr
    rw [w1, w3] at G7
    rw [w3] at Ch7
    dsimp only at Ch7
    rw [upd_eq] at Ch7
    have hlast : ¬ (c + (i : Nat) + 1) ∈ order ++ [c] ++ news c i := fun q => by
      rcases List.mem_append.mp q with q | q
      · rcases List.mem_append.mp q with q | q
        · have := (g1.rng _ q).2; omega
        · have := List.mem_singleton.mp q; omega
      · have := (news_mem q).2; omega
    have hlk : (⟨upd (repl S v c).kids c (v :: news c i), S.all⟩ : Shp).kids (c + (i : Nat) + 1) = [] := by
      dsimp only
      rw [upd_ne (by omega)]
      unfold repl
      dsimp only
      rw [g1.out _ fun q => by have := (g1.rng _ q).2; omega]
      rfl
    have hlen7 : (order ++ [c] ++ news c i).length ≤ 1000 := by
      have := g.small
      simp only [List.length_append, List.length_cons, List.length_nil, news_len]
      omega
    repeat walk_at "m"
    refine c_fresh' hc T7 hlast hlk hlen7 fun xb rb H8 f1 f2 f3 f4 T8 old8 => ?_
    have ez : c + (i : Nat) + 1 = c + 1 + (i : Nat) := by omega
    dsimp only at T8
    rw [ez] at T8 hlast
    have hzc : c ≠ c + 1 + (i : Nat) := by omega
    have hco8 : c ∈ order ++ [c] ++ news c i ++ [c + 1 + (i : Nat)] := by simp
    have G8 := T8.wn (c + 1 + (i : Nat)) (by simp)
    rw [upd_eq, upd_eq] at G8
    have Ch8 := T8.ch c hco8
    rw [upd_ne hzc, w3] at Ch8
    dsimp only at Ch8
    rw [upd_eq] at Ch8
    have N8 := N7.old (P := fun b => b ≠ tr ∧ b ≠ t.dw) (fun b o e p => old8 b o e p.1 p.2) fun b xs e => ⟨ne_obj e T7.tr (by simp), ne_obj e T7.dw (by simp)⟩
    have K8 := old8 _ _ K7 (ne_obj K7 T7.tr (by simp)) (ne_obj K7 T7.dw (by simp))
    have C8 := old8 _ _ C7 (ne_obj C7 T7.tr (by simp)) (ne_obj C7 T7.dw (by simp))
    have hn8 : rb.cl ≠ cs := Ne.symm (ne_of C7 f1)
    have ll : (news c i).length ≤ 1000 := by rw [news_len]; omega
    repeat walk_at "m"
    have T9 := T8.setKids (v := c) (l := v :: news c (i + 1)) hco8
    dsimp only at T9
    rw [upd_upd, upd_ne hzc, w3] at T9
    dsimp only at T9
    have el9 : (v :: news c i).map MV.int ++ [.int (c + 1 + (i : Nat))] = (v :: news c (i + 1)).map .int := by rw [news_succ]; simp
    have eo9 : order ++ [c] ++ news c i ++ [c + 1 + (i : Nat)] = order ++ [c] ++ news c (i + 1) := by rw [news_succ, ← List.append_assoc]
    have et9 : c + 1 + (i : Nat) = c + ((i + 1 : Nat) : Int) := by push_cast; omega
    rw [eo9] at T9
    rw [el9]
    refine ⟨upd wd' (c + 1 + (i : Nat)) xb, upd wr' (c + 1 + (i : Nat)) rb, by walk_at "loc", by walk_at "loc", by walk_at "loc", by walk_at "loc", ?_, ?_, ?_, ?_, ?_, N8.turn Ch8 ints_ne1 ints_ne2, (hset_ne (ne_obj K8 Ch8 (Ne.symm (deck_ne1 _)))).trans K8, (hset_ne (Ne.symm hnc)).trans C8⟩
    · rw [← et9]; exact T9
    · rw [upd_ne hzc]; exact w1
    · intro u hu
      rw [upd_ne fun e => hlast (by rw [← e]; simp [hu])]; exact w2 u hu
    · rw [upd_ne hzc]; exact w3
    · intro u hu
      rw [news_succ] at hu
      rcases List.mem_append.mp hu with hu | hu
      · rw [upd_ne fun e => hlast (by rw [← e]; simp [hu])]; exact w4 u hu
      · rw [List.mem_singleton.mp hu, upd_eq]; exact ⟨f3, f4, hn8⟩
  · rintro ρ2 H7 ⟨wd', wr', l1, l2, l3, l4, T7, w1, w2, w3, w4, N7, K7, C7⟩
    have hco7 : c ∈ order ++ [c] ++ news c m := by simp
    have hvo7 : v ∈ order ++ [c] ++ news c m := by simp [hvo]
    have G7 := T7.wn c hco7
    have Gv7 := T7.wn v hvo7
    have Ch7 := T7.ch c hco7
    have Gt7 := T7.tr
    have Gd7 := T7.dw
    rw [w1, w3] at G7
    rw [w3] at Ch7
    dsimp only at Ch7 Gt7 Gd7
    rw [upd_eq] at Ch7
    repeat walk_at "m"
    have T10 := T7.setWin (r := { wr' v with par := c }) hvo7 rfl
    have N10 := N7.turn (o' := win v { wr' v with par := c }) Gv7 (by simp) (by simp)
    have K10 : hset H7 (wd' v) (win v { wr' v with par := c }) dk = some (.list [.ref cs, .int (k + 1 + 1 + 1)]) := (hset_ne (ne_obj K7 Gv7 (by simp))).trans K7
    have C10 : hset H7 (wd' v) (win v { wr' v with par := c }) cs = some (.list (cells.map .int)) := (hset_ne (ne_obj C7 Gv7 (by simp))).trans C7
    have G10 : hset H7 (wd' v) (win v { wr' v with par := c }) xa = some (win c { r5 with cl := nl }) := (hset_ne (by rw [← w1]; exact T7.wne hco7 hvo7 (Ne.symm hvc))).trans G7
    have Ch10 : hset H7 (wd' v) (win v { wr' v with par := c }) nl = some (.list ((v :: news c m).map .int)) := (hset_ne (ne_obj Ch7 Gv7 (by simp))).trans Ch7
    change OpL _ _ _ _ _ _ (hset H7 (wd' v) (win v { wr' v with par := c })) _
    generalize hset H7 (wd' v) (win v { wr' v with par := c }) = H10 at T10 N10 K10 C10 G10 Ch10 ⊢
    refine c_find hc N10 g.ok g.root hv1 (by have := g.small; omega) fun _ => ?_
    repeat walk_at "m"
    refine ts_pair ?_ (by with_unfolding_all rfl) (by with_unfolding_all rfl) (by with_unfolding_all rfl)
    repeat walk_at "m"
    refine t_comp (cl := []) ?_ (by with_unfolding_all rfl) (by decide +kernel) (by rfl) (by decide +kernel) (by with_unfolding_all rfl) (by intro _; with_unfolding_all rfl)
    repeat walk_at "m"
    have hnd : (v :: news c m).Nodup := by
      refine List.nodup_cons.mpr ⟨fun q => ?_, ?_⟩
      · have := (news_mem q).1; have := (g1.rng v hvo).2; omega
      · unfold news; exact List.pairwise_map.mpr (List.Pairwise.imp (fun e q => e (by omega)) List.nodup_range)
    refine compL_intro (fun i acc H11 => ∃ A B : Int → Addr, Sub H10 H11 ∧ acc = ((v :: news c m).take i).map (fun y => MV.ref (A y)) ∧ ∀ y ∈ (v :: news c m).take i, H10 (A y) = none ∧ H11 (A y) = some (.list [.int y, .ref (B y)]) ∧ H11 (B y) = some (.list [])) (by walk_at "get") (by rw [List.length_map, List.length_cons, news_len]; omega) ⟨fun _ => 0, fun _ => 0, Sub.refl _, by simp, fun y hy => by simp at hy⟩ ?_ ?_ ?_
    · rintro i acc H11 ⟨A, B, sb, _⟩; exact sb _ _ Ch10
    · rintro C i mv acc H11 hi ⟨A, B, sb, hacc, hA⟩
      rw [List.getElem?_map] at hi
      obtain ⟨y, hy, rfl⟩ := Option.map_eq_some_iff.mp hi
      have etk : (v :: news c m).take (i + 1) = (v :: news c m).take i ++ [y] := by rw [List.take_add_one, hy]; rfl
      have hnt : y ∉ (v :: news c m).take i := fun q => by
        have h1 : ((v :: news c m).take (i+1)).Nodup := hnd.sublist (List.take_sublist _ _)
        rw [etk, List.nodup_append] at h1
        exact h1.2.2 y q y (by simp) rfl
      repeat walk_at "m"
      simp only [if_true]
      repeat walk_at "m"
      rename_i b hb a ha
      have hba : b ≠ a := ne_of (hset_eq _ _ _) ha
      have na1 := (hset_none.mp ha).2
      refine ⟨upd A y a, upd B y b, by walk_at "sub", ?_, fun z hz => ?_⟩
      · rw [hacc, etk, List.map_append, List.map_cons, List.map_nil, upd_eq]
        congr 1
        exact List.map_congr_left fun z hz => by
          have hne : z ≠ y := fun e => hnt (e ▸ hz)
          rw [upd_ne hne]
      · rw [etk] at hz
        rcases List.mem_append.mp hz with hz | hz
        · have hne : z ≠ y := fun e => hnt (e ▸ hz)
          rw [upd_ne hne, upd_ne hne]
          obtain ⟨q1, q2, q3⟩ := hA z hz
          exact ⟨q1, (hset_ne (ne_of q2 na1)).trans ((hset_ne (ne_of q2 hb)).trans q2), (hset_ne (ne_of q3 na1)).trans ((hset_ne (ne_of q3 hb)).trans q3)⟩
        · rw [List.mem_singleton.mp hz, upd_eq, upd_eq]
          exact ⟨Sub.none sb na1, hset_eq _ _ _, (hset_ne hba).trans (hset_eq _ _ _)⟩
    · rintro acc H11 ⟨A, B, sb, hacc, hA⟩ D hD
      rw [List.length_map, List.take_length] at hacc hA
      subst hacc
      repeat walk_at "m"
      rename_i tp2 htp2
      have Gn := sb _ _ (N10 v hvo).1
      have dn1 : na v ≠ D := ne_of Gn hD
      have dn2 : D ≠ tp2 := ne_of (hset_eq _ _ _) htp2
      refine ⟨_, _, _, rfl, hset_eq _ _ _, ?_⟩
      repeat walk_at "m"
      refine ⟨_, Sub.refl _, ?_⟩
      rw [hset_set]
      have sb' : Sub H10 (hset (hset H11 D (.list ((v :: news c m).map fun y => MV.ref (A y)))) tp2 (.tuple [.int c, .ref D])) := by walk_at "sub"
      have hAD : ∀ y ∈ v :: news c m, (hset (hset H11 D (.list ((v :: news c m).map fun y => MV.ref (A y)))) tp2 (.tuple [.int c, .ref D])) (A y) = some (.list [.int y, .ref (B y)]) ∧ (hset (hset H11 D (.list ((v :: news c m).map fun y => MV.ref (A y)))) tp2 (.tuple [.int c, .ref D])) (B y) = some (.list []) := fun y hy => by
        obtain ⟨q1, q2, q3⟩ := hA y hy
        have z1 := (hset_none.mp htp2).2
        exact ⟨(hset_ne (ne_of q2 z1)).trans ((hset_ne (ne_of q2 hD)).trans q2), (hset_ne (ne_of q3 z1)).trans ((hset_ne (ne_of q3 hD)).trans q3)⟩
      have hDD : (hset (hset H11 D (.list ((v :: news c m).map fun y => MV.ref (A y)))) tp2 (.tuple [.int c, .ref D])) D = some (.list ((v :: news c m).map fun y => MV.ref (A y))) := (hset_ne dn2).trans (hset_eq _ _ _)
      change Q (.ref (na t.root)) ρ (hset _ (na v) (.list [.int c, .ref D]))
      generalize hset (hset H11 D (.list ((v :: news c m).map fun y => MV.ref (A y)))) tp2 (.tuple [.int c, .ref D]) = H12 at sb' hAD hDD ⊢
      have Gv := sb' _ _ (N10 v hvo).1
      have T11 := (T10.sub sb').turn (o' := .list [.int c, .ref D]) Gv (by simp) (by simp) fun l e => by cases l with
        | nil => simp at e
        | cons a r => cases r <;> simp at e
      obtain ⟨na', nb', g0', g1', er⟩ := grown_good (A := A) (B := B) (cs := cs) (D := D) g g1 hvo hvk hc' hm2 hm1 hsz T11 w2 w3 (by rw [fr5.2.1, f3]; exact beq_false_of_ne (by omega)) fr5.2.2 w4
        (fun u hu hne => (hset_ne (ne_obj (sb' _ _ (N10 u hu).1) Gv (by simp [hne]))).trans (sb' _ _ (N10 u hu).1))
        (fun u hu => (hset_ne (ne_obj (sb' _ _ (N10 u hu).2) Gv fun e => by cases hu2 : S.kids u <;> rw [hu2] at e <;> simp at e)).trans (sb' _ _ (N10 u hu).2))
        (hset_eq _ _ _) ((hset_ne (Ne.symm dn1)).trans hDD)
        (fun y hy => ⟨(hset_ne (Ne.symm (ne_of (N10 v hvo).1 (hA y hy).1))).trans (hAD y hy).1, (hset_ne (ne_obj (hAD y hy).2 Gv (by simp))).trans (hAD y hy).2⟩)
      refine h _ _ _ _ _ _ na' nb' g0' g1' ⟨(hset_ne (ne_obj (sb' _ _ K10) Gv (by simp))).trans (sb' _ _ K10), (hset_ne (ne_obj (sb' _ _ C10) Gv fun e => ?_)).trans (sb' _ _ C10), fun u hu => ?_⟩ er ?_ rfl
      · cases cells with
        | nil => simp at e
        | cons a r => cases r <;> simp at e
      · rcases List.mem_append.mp hu with hu | hu
        · rcases List.mem_append.mp hu with hu | hu
          · by_cases e : u = v
            · rw [e, upd_eq]; dsimp only; rw [w2 v hvo]; exact dck.sep v hvo
            · rw [upd_ne e, w2 u hu]; exact dck.sep u hu
          · rw [List.mem_singleton.mp hu, upd_ne (Ne.symm hvc), w3]; exact hnc
        · have e : u ≠ v := fun q => by have := (news_mem hu).1; have := (g1.rng v hvo).2; omega
          rw [upd_ne e]; exact (w4 u hu).2.2
      · simp only [List.length_append, List.length_cons, List.length_nil, news_len]; omega
end
/-- all stays, up to the slots of frames on the stack -/
def GrowS (A : Around) (h h' : Heap) : Prop := ∀ a o, h.get? a = some o → Kept A a o h'
theorem GrowS.of {A : Around} {h h' : Heap} (k : ∀ a o, h.get? a = some o → h'.get? a = some o) : GrowS A h h' := fun a o e => .of (k a o e)
theorem GrowS.trans {A : Around} {h h1 h2 : Heap} (x : GrowS A h h1) (y : GrowS A h1 h2) : GrowS A h h2 := fun a o e => (x a o e).trans (y a)
section
variable {c : Cx} {A : Around} {L : Addr} {ρ : Loc} {H : Hp} {s : Shared}
theorem Sat.growS (S : Sat c A L ρ H s) {h' : Heap} {tk : Nat} (g : GrowS A s.heap h') : Sat c A L ρ H { s with heap := h', toks := tk } := by
  obtain ⟨m, hn, hm⟩ := S.fr
  obtain ⟨oL, es, ep, hoL, r⟩ := id hn
  obtain ⟨sl, eL⟩ := (g L oL hoL).2
  refine ⟨fun b o e => (g b o (S.base b o e)).1 fun q => ?_, S.above, ⟨m, ⟨_, es, ep, eL, r⟩, hm⟩, S.frL, fun a o h => (S.objs a o h).mono fun b ob hb e => (g b ob e).1 fun q => (S.blw.mem q).2.1 ⟨a, o, h, hb⟩, S.new, S.sep, S.gens, S.os,
    S.blw.step (fun F o e hn hd => let ⟨sl, e'⟩ := (g F o e).2; ⟨_, e', hd⟩) fun _ => .inl⟩
  have := (S.blw.mem q).1
  rw [e] at this; cases this
/-- whatever is not the layer's business may turn -/
theorem Sat.butP (S : Sat c A L ρ H s) {P : Addr → Prop} {h' : Heap} {tk : Nat} (hP : ∀ b, P b → ¬ Tr H b ∧ b ≠ L ∧ c.h₀.get? b = none ∧ b ∉ frs A) (k : ∀ b o, ¬ P b → s.heap.get? b = some o → h'.get? b = some o) : Sat c A L ρ H { s with heap := h', toks := tk } := by
  obtain ⟨m, hn, hm⟩ := S.fr
  obtain ⟨oL, es, ep, hoL, r⟩ := id hn
  refine ⟨fun b o e => k b o (fun q => by have := (hP b q).2.2.1; rw [e] at this; cases this) (S.base b o e), S.above, ⟨m, ⟨_, es, ep, k L oL (fun q => (hP L q).2.1 rfl) hoL, r⟩, hm⟩, S.frL, fun a o h => (S.objs a o h).mono fun b ob hb e => k b ob (fun q => (hP b q).1 ⟨a, o, h, hb⟩) e, S.new, S.sep, S.gens, S.os, ?_⟩
  obtain ⟨l, hl, hp⟩ := S.blw
  refine ⟨l, hl, fun env he => ?_⟩
  obtain ⟨hk, F, o', h1, h2, h3, h4, h5⟩ := hp env he
  refine ⟨hk, F, o', h1, h2, h3, k F o' (fun q => (hP F q).2.2.2 ?_) h4, h5⟩
  unfold frs; rw [hl]; exact List.mem_filterMap.mpr ⟨env, he, h1⟩
end

/-- the dict of an exception -/
def DAt (h : Heap) (d : Addr) (fs : List (Str × MV)) : Prop := ∃ od es ep, h.get? d = some od ∧ od.data = .dict (es : List DictEntry).toArray ep ∧ RepF fs es
/-- an exception in hand: its dict; whether it has a traceback -/
structure ExcO (h : Heap) (C x d : Addr) (fs : List (Str × MV)) (T : Option Addr) : Prop where
  obj : ∃ o vs, h.get? x = some o ∧ o.cls = .ref C ∧ o.dict = some d ∧ o.data = .fields vs ∧ 1 < vs.size ∧ vs[0]? ≠ none ∧ match T with
    | none => vs[1]? = some .none
    | some T => vs[1]? = some (.ref T) ∧ T ≠ x ∧ T ≠ d ∧ ∃ oT ts, h.get? T = some oT ∧ oT.data = .fields ts ∧ ts[3]? = some .none
  ne : d ≠ x
  ns : DAt h d fs
theorem ExcO.keeps {h h' : Heap} {C x d : Addr} {fs : List (Str × MV)} {T : Option Addr} (X : ExcO h C x d fs T) (kx : ∀ o, h.get? x = some o → h'.get? x = some o) (kd : ∀ o, h.get? d = some o → h'.get? d = some o) (kT : ∀ t o, T = some t → h.get? t = some o → h'.get? t = some o) : ExcO h' C x d fs T := by
  obtain ⟨⟨o, vs, e1, e2, e3, e4, e5, e6, e7⟩, hne, ⟨od, es, ep, f1, f2⟩⟩ := X
  refine ⟨⟨o, vs, kx o e1, e2, e3, e4, e5, e6, ?_⟩, hne, ⟨od, es, ep, kd od f1, f2⟩⟩
  cases T with
  | none => exact e7
  | some t => obtain ⟨a1, a2, a3, oT, ts, a4, a5⟩ := e7; exact ⟨a1, a2, a3, oT, ts, kT t oT rfl a4, a5⟩
theorem ns_noFields {h : Heap} {a : Addr} {fs : List (Str × MV)} (x : DAt h a fs) : ∃ o, h.get? a = some o ∧ ∀ vs, o.data ≠ .fields vs := by
  obtain ⟨o, es, ep, e, d, _⟩ := x
  exact ⟨o, e, fun vs q => by rw [d] at q; cases q⟩

/-- what stands on the stack -/
def FrOk (A : Around) (h : Heap) : Prop := ∃ l, A.frames = some l ∧ ∀ env ∈ l, env.scope.kind ≠ .module ∧ ∃ F o, env.frame = some F ∧ h.get? F = some o ∧ ∀ vs, o.data ≠ .fields vs
theorem Blw.frOk {c : Cx} {A : Around} {H : Hp} {h : Heap} (x : Blw c A H h) : FrOk A h := by
  obtain ⟨l, hl, hp⟩ := x
  exact ⟨l, hl, fun env he => by obtain ⟨hk, F, o, h1, _, _, h4, h5⟩ := hp env he; exact ⟨hk, F, o, h1, h4, h5⟩⟩
theorem FrOk.grow {A : Around} {h h' : Heap} (x : FrOk A h) (k : ∀ F o, h.get? F = some o → (∀ vs, o.data ≠ .fields vs) → ∃ o', h'.get? F = some o' ∧ ∀ vs, o'.data ≠ .fields vs) : FrOk A h' := by
  obtain ⟨l, hl, hp⟩ := x
  refine ⟨l, hl, fun env he => ?_⟩
  obtain ⟨hk, F, o, h1, h2, h3⟩ := hp env he
  obtain ⟨o', h4, h5⟩ := k F o h2 h3
  exact ⟨hk, F, o', h1, h4, h5⟩
theorem funFrames_of {h base : Heap} : ∀ {l : List Env}, (∀ env ∈ l, env.scope.kind ≠ .module ∧ ∃ F o, env.frame = some F ∧ h.get? F = some o ∧ ∀ vs, o.data ≠ .fields vs) → (∀ env ∈ l, ∀ a, env.frame = some a → base.get? a = none) → h.FunFrames base l
  | [], _, _ => trivial
  | env :: r, k, q => by
    obtain ⟨hk, F, o, h1, h2, h3⟩ := k env (.head _)
    exact ⟨hk, ⟨F, o, h1, q env (.head _) F h1, h2, h3⟩, funFrames_of (fun e he => k e (.tail _ he)) fun e he => q e (.tail _ he)⟩

section
variable {M : Model} {A : Around} {E : Value → Shared → Prop} {s : Shared} {env : Env} {outer : List Env} {L C x d : Addr} {fs : List (Str × MV)} {T : Option Addr} {Q : Unit → Shared → Prop}
/-- the frame is written into the traceback -/
theorem note_exc (hfr : A.frames = some (env :: outer)) (hf : env.frame = some L) (hF : FrOk A s.heap) (X : ExcO s.heap C x d fs T)
    (hQ : ∀ h' T', s.heap.get? T' = none → (∃ o vs oT ts, h'.get? x = some o ∧ o.cls = .ref C ∧ o.dict = some d ∧ o.data = .fields vs ∧ 1 < vs.size ∧ vs[0]? ≠ none ∧ vs[1]? = some (.ref T') ∧ T' ≠ x ∧ T' ≠ d ∧ h'.get? T' = some oT ∧ oT.data = .fields ts ∧ ts[3]? = some (rawInt L)) → DAt h' d fs →
      (∀ a o, s.heap.get? a = some o → a ≠ x → T ≠ some a → Kept A a o h') → Q () { s with heap := h' }) :
    wpAny M A (noteFrame (.ref x) env) Q E s := by
  obtain ⟨⟨o, vs, e1, e2, e3, e4, e5, e5', e6⟩, hne, hns⟩ := X
  -- the head is closed first
  have body : ∀ (head : Value) (hadNext : Bool) (h₁ : Heap), (∀ a o, s.heap.get? a = some o → T ≠ some a → h₁.get? a = some o) → h₁.get? x = some o → DAt h₁ d fs → h₁.objs.size = s.heap.objs.size → FrOk A h₁ →
      wpAny M A (do let a ← frameOf env; let pl ← entryPlaceOf L hadNext; let b ← EntryCells.newEntry head a .none (rawInt L) .none pl; setField (.ref x) 1 b) Q E { s with heap := h₁ } := by
    intro head hadNext h₁ k₁ hx₁ hns₁ hsz hF₁
    obtain ⟨l, hl, hp⟩ := hF₁
    rw [hfr] at hl; cases hl
    have hFF : h₁.FunFrames (hideAll h₁ ((env :: outer).filterMap (·.frame))) (env :: outer) := funFrames_of hp fun e he a ha => hideAll_none _ (List.mem_filterMap.mpr ⟨e, he, ha⟩)
    refine wpAny_bind (wpAny_frameOf_fun (s := { s with heap := h₁ }) hfr hFF hf fun h₂ hs₂ => ?_)
    refine wpAny_bind (wpAny_entryPlaceOf fun pl hpl => ?_)
    unfold EntryCells.newEntry newFields
    refine wpAny_bind (wpAny_newObj_type ?_ (hpl.sizeOk5 _ _ _ _ _))
    have htv : (([head, .ref L, .none, rawInt L, .none] ++ (if pl.isEmpty then List.replicate 6 Value.none else pl)).toArray)[3]? = some (rawInt L) := by first | (simp; done) | (rcases hpl with rfl | ⟨_, _, _, _, _, _, _, rfl⟩ <;> simp)
    generalize ([head, .ref L, .none, rawInt L, .none] ++ (if pl.isEmpty then List.replicate 6 Value.none else pl)).toArray = tv at htv ⊢
    have hxf : x ∉ (env :: outer).filterMap (·.frame) := fun hm => by
      obtain ⟨_, o', ho', hnf⟩ := hFF.mem hm
      rw [hx₁] at ho'; cases ho'; exact hnf vs e4
    have hx₂ : h₂.get? x = some o := (hs₂.2.1 x hxf).trans hx₁
    have hx₃ := Heap.get?_push_of_some (h := h₂) { cls := .type "traceback", dict := none, data := .fields tv } hx₂
    refine wpAny_setField hx₃ e4 e5 ?_
    have hTx : h₂.objs.size ≠ x := Nat.ne_of_gt (Heap.lt_size hx₂)
    have hd₃ := Obj.data_mapFields e4 (·.setIfInBounds 1 (Value.ref h₂.objs.size))
    obtain ⟨od, hod, hodn⟩ := ns_noFields hns₁
    have hTd : h₂.objs.size ≠ d := fun q => by
      have := Heap.lt_size hod
      rw [← q, hs₂.1] at this
      exact absurd this (Nat.lt_irrefl _)
    have hTn : s.heap.get? h₂.objs.size = none := Heap.get?_none_of_le (by rw [hs₂.1]; exact Nat.le_of_eq hsz.symm)
    have keep : ∀ b ob, b ≠ x → h₂.get? b = some ob → ((h₂.push { cls := .type "traceback", dict := none, data := .fields tv }).update x (Obj.mapFields (·.setIfInBounds 1 (Value.ref h₂.objs.size)))).get? b = some ob := fun b ob hbx hb => by
      rw [Heap.get?_update_other _ _ (Ne.symm hbx)]
      exact Heap.get?_push_of_some _ hb
    refine hQ _ h₂.objs.size hTn ⟨_, _, { cls := .type "traceback", dict := none, data := .fields tv }, tv, Heap.get?_update_self _ hx₃ (Obj.isFreed_of_fields hd₃), by rw [Obj.cls_mapFields]; exact e2, ?_, hd₃, by rw [Array.size_setIfInBounds]; exact e5, by rw [Array.getElem?_setIfInBounds_ne (by decide)]; exact e5', by simp [e5], hTx, hTd, ?_, rfl, htv⟩ ?_ fun a oa ha hax hT => ?_
    · obtain ⟨oc, od', odt, osl⟩ := o
      cases e4
      exact e3
    · rw [Heap.get?_update_other _ _ (Ne.symm hTx)]; exact Heap.get?_push_size _ rfl
    · obtain ⟨od, es, ep, f1, f2, f3⟩ := hns₁
      obtain ⟨sl, f1'⟩ := hs₂.2.2 d od f1
      exact ⟨_, es, ep, keep d _ hne f1', f2, f3⟩
    · have h1 := k₁ a oa ha hT
      refine ⟨fun hn => keep a oa hax ((hs₂.2.1 a fun hm => hn ?_).trans h1), ?_⟩
      · unfold frs; rw [hfr]; exact hm
      · obtain ⟨sl, h2⟩ := hs₂.2.2 a oa h1
        exact ⟨sl, keep a _ hax h2⟩
  unfold noteFrame
  simp only [hf]
  cases T with
  | none =>
    refine wpAny_bind (wpAny_field e1 e4 e6 ?_)
    rw [if_neg (by decide)]
    exact body .none _ s.heap (fun a o e _ => e) e1 hns rfl hF
  | some T =>
    obtain ⟨a1, a2, a3, oT, ts, a4, a5, a6⟩ := e6
    refine wpAny_bind (wpAny_field e1 e4 a1 ?_)
    rw [if_pos (show (Value.ref T != Value.none) = true from by simp)]
    refine wpAny_bind (wpAny_field a4 a5 a6 ?_)
    rw [if_neg (show ¬ ((Value.none == rawInt L) = true) from by simp [rawInt])]
    refine wpAny_bind (wpAny_setField a4 a5 (Array.getElem?_eq_some_iff.mp a6).1 ?_)
    have other : ∀ b, b ≠ T → (s.heap.update T (Obj.mapFields (·.setIfInBounds 3 Value.none))).get? b = s.heap.get? b := fun b hb => Heap.get?_update_other _ _ (Ne.symm hb)
    obtain ⟨od, es, ep, f1, f2⟩ := hns
    refine body _ _ _ (fun a o e hT => (other a fun q => hT (by rw [q])).trans e) ((other x (Ne.symm a2)).trans e1) ⟨od, es, ep, (other d (Ne.symm a3)).trans f1, f2⟩ (Heap.size_after_update ..) (hF.grow fun F o e hd => ⟨o, (other F fun q => ?_).trans e, hd⟩)
    rw [q, a4] at e; cases e; exact hd ts a5
/-- what is in flight is set down -/
theorem land_exc {T' : Addr} (X : ∃ o vs oT ts, s.heap.get? x = some o ∧ o.cls = .ref C ∧ o.dict = some d ∧ o.data = .fields vs ∧ 1 < vs.size ∧ vs[0]? ≠ none ∧ vs[1]? = some (.ref T') ∧ T' ≠ x ∧ T' ≠ d ∧ s.heap.get? T' = some oT ∧ oT.data = .fields ts ∧ 3 < ts.size) (hne : d ≠ x) (hns : DAt s.heap d fs)
    (hQ : ∀ h', ExcO h' C x d fs (some T') → (∀ a o, s.heap.get? a = some o → a ≠ T' → h'.get? a = some o) → Q () { s with heap := h' }) : wpAny M A (setFlight (.ref x) none) Q E s := by
  obtain ⟨o, vs, oT, ts, e1, e2, e3, e4, e5, e5', e6, a2, a3, a4, a5, a6⟩ := X
  unfold setFlight
  refine wpAny_bind (wpAny_field e1 e4 e6 ?_)
  rw [if_pos (show (Value.ref T' != Value.none) = true from by simp)]
  have other : ∀ b, b ≠ T' → (s.heap.update T' (Obj.mapFields (·.setIfInBounds 3 ((none : Option Addr).elim Value.none fun f => rawInt f)))).get? b = s.heap.get? b := fun b hb => Heap.get?_update_other _ _ (Ne.symm hb)
  refine wpAny_setField a4 a5 a6 (hQ _ ⟨⟨o, vs, (other x (Ne.symm a2)).trans e1, e2, e3, e4, e5, e5', e6, a2, a3, _, _, Heap.get?_update_self _ a4 (Obj.isFreed_of_fields (Obj.data_mapFields a5 _)), Obj.data_mapFields a5 _, by simp [a6]⟩, hne, ?_⟩ fun a o e hT => (other a hT).trans e)
  obtain ⟨od, es, ep, f1, f2⟩ := hns
  exact ⟨od, es, ep, (other d (Ne.symm a3)).trans f1, f2⟩
theorem leave_exc (hfr : A.frames = some (env :: outer)) (hf : env.frame = some L) (hF : FrOk A s.heap) (X : ExcO s.heap C x d fs T)
    (hQ : ∀ h' T', s.heap.get? T' = none → ExcO h' C x d fs (some T') → (∀ a o, s.heap.get? a = some o → a ≠ x → T ≠ some a → Kept A a o h') → Q () { s with heap := h' }) :
    wpAny M A (leaving env (.ref x)) Q E s := by
  unfold leaving
  refine wpAny_bind (note_exc hfr hf hF X fun h₁ T' hT' X₁ hns₁ k₁ => ?_)
  obtain ⟨o, vs, oT, ts, e1, e2, e3, e4, e5, e5', e6, a2, a3, a4, a5, a6⟩ := X₁
  refine land_exc (T' := T') ⟨o, vs, oT, ts, e1, e2, e3, e4, e5, e5', e6, a2, a3, a4, a5, (Array.getElem?_eq_some_iff.mp a6).1⟩ X.ne hns₁ fun h₂ X₂ k₂ => ?_
  refine hQ h₂ T' hT' X₂ fun a o e hax hT => (k₁ a o e hax hT).trans fun o' e' => .of (k₂ a o' e' fun q => ?_)
  rw [q, hT'] at e; cases e
end
section
variable {prog : Program} {w : World} {A : Around} {R : Result → Shared → Prop} {h : Heap} {g : Array GenState} {d : Drawn} {t : Nat} {os : OsState}
variable {nm q : Str} {C N f : Addr} {bs bm : List Value} {hdct : Bool} {sn : List Str} {sub : List Value} {ab : Bool} {col : Option Bool} {dd : Option Addr} {k0 k1 k2 k3 k5 : Option Value} {B newId initId : String}
theorem make_exc (F : ExcBaseFacts B newId initId bm) {mN : Str → Option Value} {rest : List Value} 
    (hC : h.get? C = some (excClassObj nm q C N bs bm hdct sn sub ab col dd k0 k1 k2 k3 k5 newId)) (hn : h.Ns N mN) (hni : mN "__init__" = some (.ref f)) (hb : Looks (model prog w) h (bindSpecial (.ref f) (.ref (h.objs.size + 1))) (.ref f, [.ref (h.objs.size + 1)])) (hrest : rest.length ≤ sizeLine)
    (hq : codeAny (model prog w) (A.under (.builtin "type.__call__" ⟨.ref C :: rest, []⟩)) (.call (.ref f) ⟨.ref (h.objs.size + 1) :: rest, []⟩) (InitBack (h.objs.size + 1) R) ⟨(h.push { cls := .type "tuple", data := .seq rest.toArray }).push
      { cls := .ref C, data := .fields #[.ref h.objs.size, .none, .none, .none, .bool false, .none] }, g, d, t, os⟩) :
    codeAny (model prog w) A (.call (.ref C) ⟨rest, []⟩) R ⟨h, g, d, t, os⟩ := by
  have f1 := tc_lookup
  have f2 := tc_bind (.ref C)
  have hT : (⟨h, g, d, t, os⟩ : Shared).TypeIs (.ref C) "type" := ⟨_, hC, rfl⟩
  refine codeAny_of_tree ?_
  show wpAny _ _ (callAny (.ref C) _) _ _ _
  repeat (any_goals (first | assumption | with_reducible refine wpAny_loadPart_at hC ?_ | wp_step))
  refine ⟨rfl, ?_⟩
  show codeAny (model prog w) A (.call (.builtin "type.__call__") ⟨.ref C :: rest, []⟩) R ⟨h, g, d, t, os⟩
  refine codeAny_call_builtin_at (Code.quiet_builtin _ (by decide +kernel)) entry_typeCall (wpAny_check_type_call_sub hC ?_)
  repeat (first | with_reducible refine wpAny_loadPart_at hC ?_ | with_reducible refine wpAny_madeBy_exc hC ?_ | wp_step)
  refine codeAny_call_builtin_code (Code.quiet_builtin _ F.quiet) (wpAny_check_new_sub F hC ?_)
  refine codeAny_exc_new_sub F hC ?_ hrest
  show wpAny _ _ _ _ _ _
  have hC₁ := Heap.get?_push_of_some { cls := .ref C, data := .fields #[.ref h.objs.size, .none, .none, .none, .bool false, .none] }
    (Heap.get?_push_of_some { cls := .type "tuple", data := .seq rest.toArray } hC)
  have hn₁ : ((h.push { cls := .type "tuple", data := .seq rest.toArray }).push { cls := .ref C, data := .fields #[.ref h.objs.size, .none, .none, .none, .bool false, .none] }).Ns N mN :=
    let ⟨o, es, ep, e, r⟩ := hn; ⟨o, es, ep, Heap.get?_push_of_some _ (Heap.get?_push_of_some _ e), r⟩
  have hget : ((h.push { cls := .type "tuple", data := .seq rest.toArray }).push
      { cls := .ref C, data := .fields #[.ref h.objs.size, .none, .none, .none, .bool false, .none] }).get? (h.objs.size + 1) = some
      { cls := .ref C, data := .fields #[.ref h.objs.size, .none, .none, .none, .bool false, .none] } := by heap_get
  have hcC : (Value.ref C :: bm).contains (.ref C) = true := by simp
  unfold isInstance
  repeat (first | with_reducible refine wpAny_loadPart_at hget ?_ | (with_reducible refine wpAny_isSubtype_exc hC₁ ?_; rw [hcC]) | wp_step)
  show wpAny _ _ (typeLookup (.ref C) _) _ _ _
  refine wpAny_typeLookup_exc hC₁ hn₁ F.mroIs F.init.lookup ?_
  rw [hni]
  have b1 := hb.keeps (h' := (h.push { cls := .type "tuple", data := .seq rest.toArray }).push { cls := .ref C, data := .fields #[.ref h.objs.size, .none, .none, .none, .bool false, .none] }) fun b o e => Heap.get?_push_of_some _ (Heap.get?_push_of_some _ e)
  repeat (first | with_reducible refine wpAny_call ?_ | lk)
  refine codeAny_mono hq fun r s' z => ?_
  rcases r with e | (v | _ | _ | _) <;> first | exact z | exact z.elim | skip
  obtain ⟨rfl, z⟩ := z
  exact wpAny_pure (wpAny_pure z)
end
section
variable {M : Model} {A : Around} {E : Value → Shared → Prop} {env : Env} {s : Shared}
variable {nm q : Str} {C N f : Addr} {bs bm : List Value} {hdct : Bool} {sn : List Str} {sub : List Value} {ab : Bool} {col : Option Bool} {dd : Option Addr} {k0 k1 k2 k3 k5 : Option Value} {newId : String}
theorem raise_exc {x : Expr} {pos : Pos} {Q : Flow → Shared → Prop} (hbase : bm.contains (.type "BaseException") = true) (hh : A.handled = none)
    (h : wpAny M A (eval x env) (fun v s₁ => ∃ e oe vs, v = .ref e ∧ s₁.heap.get? C = some (excClassObj nm q C N bs bm hdct sn sub ab col dd k0 k1 k2 k3 k5 newId) ∧
      s₁.heap.get? e = some oe ∧ oe.cls = .ref C ∧ oe.data = .fields vs ∧ vs[1]? = some .none ∧ E (.ref e) s₁) E s) :
    wpAny M A (exec (.Raise (some x) none pos) env) Q E s := by
  have hcB : (Value.ref C :: bm).contains (.type "BaseException") = true := by rw [List.contains_cons, hbase, Bool.or_true]
  rw [arm_exec_Raise]
  simp only [evalOpt, Option.map]
  refine wpAny_bind (wpAny_standAt ?_)
  unfold raiseStmt
  refine wpAny_bind (wpAny_bind (wpAny_mono h (fun v s₁ h₁ => wpAny_bind (wpAny_standAt (wpAny_pure ?_))) fun _ _ x => x))
  obtain ⟨e, oe, vs, rfl, hC, he, hcls, hdat, h1, hE⟩ := h₁
  obtain ⟨hp, g, d, tk, os⟩ := s₁
  obtain ⟨oc, od, odt, osl⟩ := oe
  dsimp only at hcls hdat
  subst hcls hdat
  repeat (first | with_reducible refine wpAny_loadPart_at he ?_ | with_reducible refine wpAny_loadPart_at hC ?_ | (with_reducible refine wpAny_isSubtype_exc hC ?_; rw [hcB]) | wp_step)
  rw [h1]
  refine wpAny_pure ?_
  rw [if_neg (by decide)]
  exact wpAny_pure (wpAny_raiseNew_none hh hE)
end
section
variable {prog : Program} {w : World} {A : Around} {K : Frag} {C x : Addr} {s : Shared} {R : Result → Shared → Prop} {B sa owner : String} {bm : List Value}
def excMro (K : Frag) (C : Addr) (bm : List Value) : Bool := (clsIn K C).any fun cd => cd.mro == .ref C :: bm
theorem osa_openX {ox : Obj} {od : Option Obj} {name : Str} {tk : Tok} {v : Value} (SF : StoreFacts B bm "object.__setattr__" "object") (X : K.In s.heap) (I : InstAt s.heap x ox C od) (hp : excMro K C bm = true) (ht : takerIn K C name = some none)
    (h : ∀ b, wpAny (model prog w) A.in1 (Builtin.ObjectAttr.storeInOwnDict (.ref x) (.ref C) (.str name tk) name v b)
      (fun fin s' => match fin with | .done f => R (.ok f) s' | .again c' => c'.quiet = true ∧ codeAny (model prog w) A c' R s') (fun e s' => R (.error e) s') s) :
    codeAny (model prog w) A (.call (.builtin "object.__setattr__") ⟨[.ref x, .str name tk, v], []⟩) R s := by
  have SO := PySem.F.store_object
  obtain ⟨cd, hc, ho⟩ := any_some hp
  have hmro : cd.mro = .ref C :: bm := beq_iff_eq.mp ho
  have ne : cd.mro.isEmpty = false := by rw [hmro]; rfl
  have sub : Looks (model prog w) s.heap (isInstance (.ref x) (.type "object")) true := I.type.andThen (looks_mroIn X (by unfold mroIn; rw [hc, Option.bind_some, if_neg (by rw [ne]; decide), hmro, List.contains_cons, SF.hasOwner, Bool.or_true]))
  refine codeAny_call_builtin SO.slot.plain SO.entry (@check_slot (model prog w) _ _ s "object.__setattr__" "object" "__setattr__" (.ref x) [.str name tk, v] [] _ SO.kind SO.split sub (SO.args (.ref x) (.str name tk) v) ?_)
  obtain ⟨attr, ha, hr⟩ := Option.bind_eq_some_iff.mp ht
  have hm : Looks (model prog w) s.heap (mroOf (.ref C)) cd.mro := (looks_clsIn X hc).andThen .now
  have L3 : Looks (model prog w) s.heap (Builtin.ObjectAttr.storeTaker? attr) none := by
    cases attr with
    | none => cases hr; exact .now
    | some a =>
      obtain ⟨b, hb, e⟩ := Option.map_eq_some_iff.mp hr
      refine (looks_takesIn X hb).andThen ?_
      cases b
      · exact .now
      · cases e
  rw [osa_eq, refuse_eq]
  refine wpAny_bind (wpAny_bind (I.type.here (wpAny_bind (hm.here ?_))))
  rw [hmro, refuseLoop_ref, SF.passes]
  refine wpAny_pure (wpAny_bind (I.type.here (wpAny_bind ((looks_findIn X ha).here (wpAny_bind (L3.here ?_))))))
  exact h _
end
section
variable {c : Cx} {A : Around} {L : Addr} {C x : Addr} {s : Shared} {E : Value → Shared → Prop} {Q : Unit → Shared → Prop} {B : String} {bm : List Value}
/-- the dict is there -/
theorem storeX1 (SF : StoreFacts B bm "object.__setattr__" "object") {ox : Obj} {dx : Addr} {fs : List (Str × MV)} {es : List DictEntry} {k : Nat} {name : Str} {m : MV} {v : Value} (X : c.K.In s.heap) (hx : s.heap.get? x = some ox) (hcl : ox.cls = .ref C) (hno : notCls ox = true) (hdx : ox.dict = some dx) (hd : s.heap.get? dx = some (dictOf es k)) (hr : RepF fs es)
    (hp : excMro c.K C bm = true) (hs : findIn c.K (.ref C) "__setattr__" = some (some (.builtin "object.__setattr__"))) (ht : takerIn c.K C name = some none) (hh : (clsIn c.K C).any (·.hasDict) = true) (hz : fs.length ≤ 900) (rv : Rep m v)
    (h : ∀ h' tk es' k', (∀ b o, b ≠ dx → s.heap.get? b = some o → h'.get? b = some o) → h'.get? dx = some (dictOf es' k') → RepF (fput fs name m) es' → Q () { s with heap := h', toks := tk }) :
    wpAny (model c.prog c.w) A (setAttr (.ref x) name v) Q E s := by
  obtain ⟨oc, od, odt, osl⟩ := ox
  dsimp only at hcl hdx
  subst hcl hdx
  have I : InstAt s.heap x ⟨.ref C, some dx, odt, osl⟩ C (some (dictOf es k)) := ⟨hx, rfl, hno, hd⟩
  obtain ⟨cd, hcd, hhd⟩ := any_some hh
  refine set_plain X I hs (osa_openX (s := { s with toks := s.toks + 1 }) SF X I hp ht fun b => ?_)
  unfold Builtin.ObjectAttr.storeInOwnDict
  refine wpAny_bind (wpAny_pure (wpAny_bind (wpAny_bind (wpAny_loadPart hx (wpAny_bind (looks_clsIn X hcd _ _ _ _ (fun _ _ e => e) ?_))))))
  rw [hhd]
  refine wpAny_pure (a := some dx) (wpAny_bind (wpAny_pure (wpAny_bind ?_)))
  unfold nsSet
  refine wpAny_bind (wpAny_bind (wpAny_askSetting (wpAny_pure (wpAny_bind (wpAny_mkText (wpAny_bind (wpAny_loadPart hd ?_)))))))
  dsimp only
  have hno' : (!es.toArray.any (·.key.isStr name) && es.toArray.any (·.refKey)) = false := by
    have e : es.toArray.any (fun x => x.refKey) = es.any (fun x => x.refKey) := by simp
    rw [e, hr.noRef, Bool.and_false]
  rw [aRefKeyMayBeTheName_at, hno']
  refine wpAny_updatePart hd ?_
  have hget : ∀ hsh : Int, (s.heap.update dx (Obj.putName name hsh (.str name (s.toks + 1)) v)).get? dx = some (dictOf (putL name hsh (.str name (s.toks + 1)) v es) (putN name es k)) := fun hsh => by
    rw [Heap.get?_update_self _ hd (by rw [putName_dict]; rfl), putName_dict]
  have hlen : ∀ hsh : Int, (putL name hsh (.str name (s.toks + 1)) v es).length ≤ 901 := fun hsh => by
    have e1 := (hr.put (hsh := hsh) (t := s.toks + 1) (x := name) rv).length
    have e2 : ∀ fs : List (Str × MV), (fput fs name m).length ≤ fs.length + 1 := by
      intro fs
      induction fs with
      | nil => exact Nat.le_refl _
      | cons p r ih =>
        unfold fput
        split
        · exact Nat.le_succ _
        · simp only [List.length_cons]; omega
    have := e2 fs
    omega
  refine wpAny_bind (wpAny_lookBehind (hget _) (pastItsLine_dict (by rw [List.size_toArray, sizeLine_eq]; exact Nat.le_trans (hlen _) (by decide))) ?_)
  exact wpAny_pure (h _ _ _ _ (fun b o hb e => (Heap.get?_update_other _ _ (Ne.symm hb)).trans e) (hget _) (hr.put rv))
/-- the dict is made -/
theorem storeX0 (SF : StoreFacts B bm "object.__setattr__" "object") {odt : Data} {osl : Array (Option Value)} {name : Str} {m : MV} {v : Value} (X : c.K.In s.heap) (hx : s.heap.get? x = some ⟨.ref C, none, odt, osl⟩) (hno : ∀ c, odt ≠ .cls c) (hno' : notCls ⟨.ref C, none, odt, osl⟩ = true) (hfr : ∀ d, (⟨.ref C, some d, odt, osl⟩ : Obj).isFreed = false)
    (hp : excMro c.K C bm = true) (hs : findIn c.K (.ref C) "__setattr__" = some (some (.builtin "object.__setattr__"))) (ht : takerIn c.K C name = some none) (hh : (clsIn c.K C).any (·.hasDict) = true) (rv : Rep m v)
    (h : ∀ h' tk es' k', (∀ b o, b ≠ x → s.heap.get? b = some o → h'.get? b = some o) → h'.get? x = some ⟨.ref C, some s.heap.objs.size, odt, osl⟩ → h'.get? s.heap.objs.size = some (dictOf es' k') → RepF [(name, m)] es' → Q () { s with heap := h', toks := tk }) :
    wpAny (model c.prog c.w) A (setAttr (.ref x) name v) Q E s := by
  have I : InstAt s.heap x ⟨.ref C, none, odt, osl⟩ C none := ⟨hx, rfl, hno', trivial⟩
  obtain ⟨cd, hcd, hhd⟩ := any_some hh
  refine set_plain X I hs (osa_openX (s := { s with toks := s.toks + 1 }) SF X I hp ht fun b => ?_)
  unfold Builtin.ObjectAttr.storeInOwnDict
  refine wpAny_bind (wpAny_pure (wpAny_bind (wpAny_bind (wpAny_loadPart hx (wpAny_bind (looks_clsIn X hcd _ _ _ _ (fun _ _ e => e) ?_))))))
  rw [hhd]
  have hx₁ : (s.heap.push { cls := .type "dict", data := .dict #[] }).get? x = some ⟨.ref C, none, odt, osl⟩ := Heap.get?_push_of_some _ hx
  have hxs : x ≠ s.heap.objs.size := Nat.ne_of_lt (Heap.lt_size hx)
  have key : wpAny (model c.prog c.w) A.in1 (do
      let d ← alloc { cls := .type "dict", data := .dict #[] }
      update x fun o => { o with dict := some d }
      dictMade (.ref C) x d) (fun a s' => a = some s.heap.objs.size ∧ s' = { s with heap := (s.heap.push { cls := .type "dict", data := .dict #[] }).update x fun o => { o with dict := some s.heap.objs.size }, toks := s.toks + 1 }) (fun e s' => False) { s with toks := s.toks + 1 } := by
    refine wpAny_bind (wpAny_alloc (wpAny_bind (wpAny_update hx₁ ?_)))
    exact wpAny_pure ⟨rfl, rfl⟩
  have go : ∀ a s', a = some s.heap.objs.size ∧ s' = { s with heap := (s.heap.push { cls := .type "dict", data := .dict #[] }).update x fun o => { o with dict := some s.heap.objs.size }, toks := s.toks + 1 } →
      wpAny (model c.prog c.w) A.in1 (match a with | some d => Builtin.ObjectAttr.storeInDict d (.str name s.toks) name v | none => Builtin.ObjectAttr.noDictFor (.ref x) (.ref C) name b)
      (fun fin s' => match fin with | .done f => (match (Except.ok f : Result) with | .ok (.ret _) => Q () s' | .ok _ => False | .error e => E e s') | .again c' => c'.quiet = true ∧ codeAny (model c.prog c.w) A c' (fun r s' => match r with | .ok (.ret _) => Q () s' | .ok _ => False | .error e => E e s') s')
      (fun e s' => match (Except.error e : Result) with | .ok (.ret _) => Q () s' | .ok _ => False | .error e => E e s') s' := by
    rintro a s' ⟨rfl, rfl⟩
    unfold Builtin.ObjectAttr.storeInDict Builtin.ObjectAttr.newKeyGuard
    refine wpAny_bind (wpAny_pure (wpAny_bind ?_))
    have hd : ((s.heap.push { cls := .type "dict", data := .dict #[] }).update x fun o => { o with dict := some s.heap.objs.size }).get? s.heap.objs.size = some (dictOf [] 0) :=
      (Heap.get?_update_other _ _ hxs).trans (Heap.get?_push_size _ rfl)
    have hxn : ((s.heap.push { cls := .type "dict", data := .dict #[] }).update x fun o => { o with dict := some s.heap.objs.size }).get? x = some ⟨.ref C, some s.heap.objs.size, odt, osl⟩ := Heap.get?_update_self _ hx₁ (hfr _)
    unfold nsSet
    refine wpAny_bind (wpAny_bind (wpAny_askSetting (wpAny_pure (wpAny_bind (wpAny_mkText (wpAny_bind (wpAny_loadPart hd ?_)))))))
    dsimp only
    have hno2 : (!(([] : List DictEntry).toArray).any (·.key.isStr name) && (([] : List DictEntry).toArray).any (·.refKey)) = false := by simp
    rw [aRefKeyMayBeTheName_at, hno2]
    refine wpAny_updatePart hd ?_
    have hget : ∀ hsh : Int, ((((s.heap.push { cls := .type "dict", data := .dict #[] }).update x fun o => { o with dict := some s.heap.objs.size })).update s.heap.objs.size (Obj.putName name hsh (.str name (s.toks + 1)) v)).get? s.heap.objs.size = some (dictOf (putL name hsh (.str name (s.toks + 1)) v []) (putN name [] 0)) := fun hsh => by
      rw [Heap.get?_update_self _ hd (by rw [putName_dict]; rfl), putName_dict]
    refine wpAny_bind (wpAny_lookBehind (hget _) (pastItsLine_dict (by rw [List.size_toArray, sizeLine_eq]; exact Nat.le_trans (Nat.le_of_eq (show List.length _ = 1 from rfl)) (by decide))) ?_)
    refine wpAny_pure (h _ _ _ _ (fun b o hb e => ?_) ((Heap.get?_update_other _ _ (Ne.symm hxs)).trans hxn) (hget _) ?_)
    · have hbs : b ≠ s.heap.objs.size := Nat.ne_of_lt (Heap.lt_size e)
      exact (Heap.get?_update_other _ _ (Ne.symm hbs)).trans ((Heap.get?_update_other _ _ (Ne.symm hb)).trans (Heap.get?_push_of_some _ e))
    · exact (show RepF [] [] from trivial).put (x := name) rv
  cases odt with
  | cls cc => exact absurd rfl (hno cc)
  | _ => exact wpAny_mono key go fun _ _ e => e.elim
end
theorem name_loc {c : Cx} {A : Around} {L : Addr} {ρ : Loc} {H : Hp} {s : Shared} {env : Env} {x : Str} {pos : Pos} {v : MV} {Q : Value → Shared → Prop} {E : Value → Shared → Prop} (S : Sat c A L ρ H s) (hL : env.locals = L) (hk : env.scope.kind = .function) (hx : env.kindOf x = some .local) (hv : ρ x = some v) (hq : ∀ u, Rep v u → Q u s) (hd : (x == ("__debug__" : Str)) = false := by decide +kernel) :
    wpAny (model c.prog c.w) A (eval (.Name x pos) env) Q E s := by
  subst hL
  obtain ⟨m, hn, hm⟩ := S.fr
  obtain ⟨u, hu, hr⟩ := hm x v hv
  exact wpAny_Name (wpAny_loadName_local hk hx hn hu (hq u hr)) hd
theorem ns_some_of {K : Frag} {h : Heap} {N : Addr} {mg : Str → Option Value} {n : Str} {v : Value} (X : K.In h) (G : h.Ns N mg) (e : nsIn K N n = some (some v)) : mg n = some v := by
  obtain ⟨o, es, ep, ho, hd, _, hf⟩ := G
  unfold nsIn at e
  split at e
  · rename_i c d es' n' sl q
    have := X _ _ q
    rw [ho] at this
    cases this
    dsimp only at hd
    cases hd
    rw [← hf]
    unfold nsFind findBy
    split at e
    · rename_i en he
      cases e
      rw [← Array.find?_toList, he]; rfl
    · split at e <;> cases e
  · cases e
section
variable {d : Dt} {A : Around} {L : Addr} {ρ : Loc} {H : Hp} {s : Shared}
set_option pp.deepTerms false
set_option pp.deepTerms.threshold 6
theorem lisp_call (hc : (cx d).Ok) (hb : Bud A 3) (S : Sat (cx d) A L ρ H s) {v1 v2 : Value} {R : Result → Shared → Prop}
    (hR : ∀ x dd h' tk, (∀ b o, s.heap.get? b = some o → h'.get? b = some o) → s.heap.get? x = none → s.heap.get? dd = none → ExcO h' 38 x dd [("symbol", .val v1), ("data", .val v2)] none → R (.ok (.ret (.ref x))) { s with heap := h', toks := tk }) :
    codeAny (model (cx d).prog (cx d).w) A (.call (.ref 38) ⟨[v1, v2], []⟩) R s := by
  have X := S.inK hc
  obtain ⟨h, g, dr, t, os⟩ := s
  have hC : h.get? 38 = some (excClassObj "LispSignal" "LispSignal" 38 37 [.type "Exception"] [.type "Exception", .type "BaseException", .type "object"] true [] [] false none none (some (.ref 22)) none (some (.str "LispSignal" 196)) (some (.str "LispSignal" 204)) (some (.bool true)) "Exception.__new__") := X _ _ (by with_unfolding_all rfl)
  have hn : h.Ns 37 (h.nsMap 37) := .of_isNs (isNs_of_in X (by with_unfolding_all rfl))
  refine make_exc PySem.F.excBase_Exception hC hn (ns_some_of X hn (by with_unfolding_all rfl)) (bind_fn X _ (by with_unfolding_all rfl)) (by rw [sizeLine_eq]; exact Nat.le_of_ble_eq_true rfl) ?_
  generalize hx0 : h.objs.size + 1 = x0
  have kk0 : ∀ b o, h.get? b = some o → ((h.push { cls := .type "tuple", data := .seq [v1, v2].toArray }).push { cls := .ref 38, data := .fields #[.ref h.objs.size, .none, .none, .none, .bool false, .none] }).get? b = some o := fun b o e => Heap.get?_push_of_some _ (Heap.get?_push_of_some _ e)
  have gx0 : ((h.push { cls := .type "tuple", data := .seq [v1, v2].toArray }).push { cls := .ref 38, data := .fields #[.ref h.objs.size, .none, .none, .none, .bool false, .none] }).get? x0 = some ⟨.ref 38, none, .fields #[.ref h.objs.size, .none, .none, .none, .bool false, .none], #[]⟩ := by rw [← hx0]; heap_get
  generalize (h.push { cls := .type "tuple", data := .seq [v1, v2].toArray }).push { cls := .ref 38, data := .fields #[.ref h.objs.size, .none, .none, .none, .bool false, .none] } = h2 at kk0 gx0 ⊢
  have S2 : Sat (cx d) (A.under (.builtin "type.__call__" ⟨[.ref 38, v1, v2], []⟩)) L ρ H ⟨h2, g, dr, t, os⟩ := (S.keeps (tk := t) kk0).around rfl
  have lt0 : ∀ b o, h.get? b = some o → b ≠ x0 := fun b o e q => by have := Heap.lt_size e; rw [q, ← hx0] at this; exact nl_add _ 1 this
  refine enter_raw (as := [.ref x0, .val v1, .val v2]) (ps := [("self", .ref x0), ("symbol", .val v1), ("data", .val v2)]) hc (by with_unfolding_all rfl) (by with_unfolding_all rfl) (binds3 fun v w u => by with_unfolding_all rfl) (hloc_of (by with_unfolding_all rfl)) (by rfl) (by rfl) (by rfl) (by decide +kernel) (by rw [depth_under_make]; have := hb.2.1; omega) S2 ⟨rfl, rfl, rfl, trivial⟩ fun L' h₁ tk₁ hL kk S1 hsub => ?_
  have x0L : x0 ≠ L' := fun q => by
    have := Heap.lt_size gx0
    rw [q] at this
    exact absurd this (Nat.not_lt.mpr hL)
  have hP : ∀ b, b = x0 → ¬ Tr H b ∧ b ≠ L' ∧ (cx d).h₀.get? b = none ∧ b ∉ frs (A.under (.builtin "type.__call__" ⟨[.ref 38, v1, v2], []⟩) |>.deeper (envOf "LispSignal.__init__" _ L' 35 _)) := fun b e => by
    subst e
    refine ⟨fun ht => ?_, x0L, S.baseNone (by rw [← hx0]; exact Nat.le_succ _), fun hm => ?_⟩
    · have := S.lt ht; rw [← hx0] at this; exact nl_add _ 1 this
    · rcases hsub _ hm with q | q
      · obtain ⟨_, _, o, e, _⟩ := S.blw.mem q
        exact lt0 _ _ e rfl
      · exact x0L q
  refine wpAny_execs_cons (plainObj_wpAny_Assign_Attribute (name_loc S1 rfl rfl (by with_unfolding_all rfl) (by with_unfolding_all rfl) fun u hu => name_loc S1 rfl rfl (by with_unfolding_all rfl) (by with_unfolding_all rfl) fun u' hu' => ?_) (by with_unfolding_all rfl))
  cases hu; cases hu'
  refine storeX0 (c := cx d) (m := .val v1) PySem.F.store_Exception (S1.inK hc) (kk _ _ gx0) (by intro c; nofun) (by rfl) (by intro d; rfl) (by with_unfolding_all rfl) (by with_unfolding_all rfl) (by with_unfolding_all rfl) (by with_unfolding_all rfl) rfl fun h3 tk3 es3 k3 kk3 gx3 gd3 hr3 => ?_
  have S3 := S1.butP (h' := h3) (tk := tk3) (P := fun b => b = x0) hP fun b o hn e => kk3 b o hn e
  dsimp only at gx3 gd3 kk3 ⊢
  generalize hD : h₁.objs.size = D at gx3 gd3
  refine wpAny_execs_cons (plainObj_wpAny_Assign_Attribute (name_loc S3 rfl rfl (by with_unfolding_all rfl) (by with_unfolding_all rfl) fun u hu => name_loc S3 rfl rfl (by with_unfolding_all rfl) (by with_unfolding_all rfl) fun u' hu' => ?_) (by with_unfolding_all rfl))
  cases hu; cases hu'
  refine storeX1 (c := cx d) (m := .val v2) PySem.F.store_Exception (S3.inK hc) gx3 rfl (by rfl) rfl gd3 hr3 (by with_unfolding_all rfl) (by with_unfolding_all rfl) (by with_unfolding_all rfl) (by with_unfolding_all rfl) (Nat.le_of_ble_eq_true rfl) rfl fun h4 tk4 es4 k4 kk4 gd4 hr4 => ?_
  dsimp only at kk4
  have hDx : D ≠ x0 := fun q => by
    have := Heap.lt_size (kk _ _ gx0)
    rw [hD, q] at this
    exact absurd this (Nat.lt_irrefl _)
  have ltD : ∀ b o, h₁.get? b = some o → b ≠ D := fun b o e q => by have := Heap.lt_size e; rw [q, hD] at this; exact absurd this (Nat.lt_irrefl _)
  refine wpAny_execs_nil (And.intro rfl ?_)
  refine hR x0 D h4 tk4 (fun b o e => kk4 b o (ltD b o (kk _ _ (kk0 _ _ e))) (kk3 b o (lt0 b o e) (kk _ _ (kk0 _ _ e)))) ?_ ?_ ⟨⟨_, _, kk4 _ _ (Ne.symm hDx) gx3, rfl, rfl, rfl, (by show 1 < 6; decide), by simp, rfl⟩, hDx, ⟨_, es4, k4, gd4, rfl, hr4⟩⟩
  · cases e : h.get? x0 with
    | none => rfl
    | some o => exact absurd rfl (lt0 _ _ e)
  · cases e : h.get? D with
    | none => rfl
    | some o => exact absurd rfl (ltD _ _ (kk _ _ (kk0 _ _ e)))
end
section
variable {c : Cx} {A : Around} {L : Addr} {ρ : Loc} {H : Hp} {s : Shared}
/-- some untracked things turn, the rest stays up to slots -/
theorem Sat.growP (S : Sat c A L ρ H s) {P : Addr → Prop} {h' : Heap} {tk : Nat} (hP : ∀ b, P b → ¬ Tr H b ∧ b ≠ L ∧ c.h₀.get? b = none ∧ b ∉ frs A) (k : ∀ b o, ¬ P b → s.heap.get? b = some o → Kept A b o h') : Sat c A L ρ H { s with heap := h', toks := tk } := by
  obtain ⟨m, hn, hm⟩ := S.fr
  obtain ⟨oL, es, ep, hoL, r⟩ := id hn
  obtain ⟨sl, eL⟩ := (k L oL (fun q => (hP L q).2.1 rfl) hoL).2
  refine ⟨fun b o e => (k b o (fun q => by have := (hP b q).2.2.1; rw [e] at this; cases this) (S.base b o e)).1 fun q => ?_, S.above, ⟨m, ⟨_, es, ep, eL, r⟩, hm⟩, S.frL, fun a o h => (S.objs a o h).mono fun b ob hb e => (k b ob (fun q => (hP b q).1 ⟨a, o, h, hb⟩) e).1 fun q => (S.blw.mem q).2.1 ⟨a, o, h, hb⟩, S.new, S.sep, S.gens, S.os, ?_⟩
  · have := (S.blw.mem q).1
    rw [e] at this; cases this
  obtain ⟨l, hl, hp⟩ := S.blw
  refine ⟨l, hl, fun env he => ?_⟩
  obtain ⟨hk, F, o', h1, h2, h3, h4, h5⟩ := hp env he
  have hF : F ∈ frs A := by unfold frs; rw [hl]; exact List.mem_filterMap.mpr ⟨env, he, h1⟩
  obtain ⟨sl, e'⟩ := (k F o' (fun q => (hP F q).2.2.2 hF) h4).2
  exact ⟨hk, F, _, h1, h2, h3, e', h5⟩
theorem Stp.growP {H1 : Hp} {s1 : Shared} (st : Stp A L H s H1 s1) {P : Addr → Prop} {h' : Heap} {tk : Nat} (hP : ∀ b, P b → s.heap.get? b = none) (k : ∀ b o, ¬ P b → s1.heap.get? b = some o → Kept A b o h') : Stp A L H s H1 { s1 with heap := h', toks := tk } := by
  refine ⟨fun a o e hn hL => (st.kp a o e hn hL).trans fun o' e' => k a o' (fun q => by rw [hP a q] at e; cases e) e', st.gr, fun hn e => ?_⟩
  have h1 := st.lv hn e
  cases q : s1.heap.get? L with
  | none => exact absurd q h1
  | some o =>
    cases q0 : s.heap.get? L with
    | none => exact absurd q0 e
    | some o0 =>
      obtain ⟨sl, e'⟩ := (k L o (fun z => by rw [hP L z] at q0; cases q0) q).2
      rw [e']; exact Option.some_ne_none _

/-- raised: what is in hand, what stays -/
structure Raised (c : Cx) (A : Around) (L : Addr) (H : Hp) (s : Shared) (e : Value) (s' : Shared) : Prop where
  ex : ∃ x dd T ρ' H' t m2, e = .ref x ∧ Sat c A L ρ' H' s' ∧ Stp A L H s H' s' ∧ Sub H H' ∧ (∀ b, b = x ∨ b = dd ∨ T = some b → s.heap.get? b = none ∧ ¬ Tr H' b) ∧ ExcO s'.heap 38 x dd [("symbol", .val (.str "error" t)), ("data", m2)] T
theorem Sat.liveL (S : Sat c A L ρ H s) : ∃ o, s.heap.get? L = some o := by obtain ⟨m, ⟨o, _, _, e, _⟩, _⟩ := S.fr; exact ⟨o, e⟩
theorem Sat.liveT (S : Sat c A L ρ H s) {b : Addr} (h : Tr H b) : ∃ o, s.heap.get? b = some o := by obtain ⟨a, o, ho, hf⟩ := h; exact (S.objs a o ho).live hf
theorem Tr.sub {H H' : Hp} (k : Sub H H') {b : Addr} (h : Tr H b) : Tr H' b := let ⟨a, o, ho, hf⟩ := h; ⟨a, o, k a o ho, hf⟩
theorem fresh_back {ρ1 : Loc} {H1 : Hp} {s1 : Shared} (S : Sat c A L ρ H s) (S1 : Sat c A L ρ1 H1 s1) (st : Stp A L H s H1 s1) (sub : Sub H H1) {b : Addr} (h : s1.heap.get? b = none) : s.heap.get? b = none := by
  cases e : s.heap.get? b with
  | none => rfl
  | some o =>
    by_cases hT : Tr H b
    · obtain ⟨o', e'⟩ := S1.liveT (hT.sub sub); rw [h] at e'; cases e'
    · by_cases hL : b = L
      · subst hL; obtain ⟨o', e'⟩ := S1.liveL; rw [h] at e'; cases e'
      · obtain ⟨sl, e'⟩ := (st.kp b o e hT hL).2; rw [h] at e'; cases e'
theorem fresh_out (S : Sat c A L ρ H s) {b : Addr} (h : s.heap.get? b = none) : b ≠ L ∧ c.h₀.get? b = none ∧ b ∉ frs A := by
  refine ⟨fun q => ?_, ?_, fun q => ?_⟩
  · obtain ⟨o, e⟩ := S.liveL; rw [q, e] at h; cases h
  · cases e : c.h₀.get? b with
    | none => rfl
    | some o => have := S.base b o e; rw [h] at this; cases this
  · obtain ⟨_, _, o, e, _⟩ := S.blw.mem q; rw [h] at e; cases e
end
def TX (c : Cx) (n : Nat) (L : Addr) {α : Type} (t : Sem α) (ρ : Loc) (H : Hp) : Prop := ∀ A s, Bud A n → Sat c A L ρ H s → wpAny (model c.prog c.w) A t (fun _ _ => False) (Raised c A L H s) s
section
variable {c : Cx} {n : Nat} {env : Env} {L : Addr} {ρ : Loc} {H : Hp}
theorem Raised.back {A : Around} {ρ1 : Loc} {H1 : Hp} {s s1 s' : Shared} {e : Value} (S : Sat c A L ρ H s) (S1 : Sat c A L ρ1 H1 s1) (st : Stp A L H s H1 s1) (sub : Sub H H1) (r : Raised c A L H1 s1 e s') : Raised c A L H s e s' := by
  obtain ⟨x, dd, T, ρ', H', t, m2, he, S', st', sub', hf, X⟩ := r.ex
  exact ⟨x, dd, T, ρ', H', t, m2, he, S', st.trans st', sub.trans sub', fun b hb => ⟨fresh_back S S1 st sub (hf b hb).1, (hf b hb).2⟩, X⟩
theorem TX.done {α : Type} {t : Sem α} {A : Around} {ρ1 : Loc} {H1 : Hp} {s s1 : Shared} {R : α → Shared → Prop} (h : TX c n L t ρ1 H1) (hb : Bud A n) (S : Sat c A L ρ H s) (S1 : Sat c A L ρ1 H1 s1) (st : Stp A L H s H1 s1) (sub : Sub H H1) : wpAny (model c.prog c.w) A t R (Raised c A L H s) s1 :=
  wpAny_mono (h A s1 hb S1) (fun _ _ e => e.elim) fun e s' r => r.back S S1 st sub
theorem tx_pre {st : Stmt} {rest : List Stmt} (h : TS c n L (exec st env) ρ H (fun ρ1 H1 => Sub H H1 ∧ TX c n L (execs rest env) ρ1 H1) (fun _ _ _ => False)) : TX c n L (execs (st :: rest) env) ρ H := fun A s hb S =>
  wpAny_execs_cons (h.then hb S fun v f ρ1 H1 s1 e S1 st1 q => by
    subst e
    cases f with
    | next => exact q.2.done hb S S1 st1 q.1
    | ret v => obtain ⟨_, _, q⟩ := q; exact q.elim
    | brk => exact q.elim
    | cont => exact q.elim)
theorem tx_first {st : Stmt} {rest : List Stmt} (h : TX c n L (exec st env) ρ H) : TX c n L (execs (st :: rest) env) ρ H := fun A s hb S =>
  wpAny_execs_cons (wpAny_mono (h A s hb S) (fun _ _ e => e.elim) fun _ _ e => e)
theorem tx_if {t : Expr} {b o : List Stmt} {pos : Pos} (h : TB c n L (isTrue t env (eval t env)) ρ H fun r ρ1 H1 => r = true ∧ Sub H H1 ∧ TX c n L (execs b env) ρ1 H1) : TX c n L (exec (.If t b o pos) env) ρ H := fun A s hb S =>
  wpAny_If (h.then hb S fun v r ρ1 H1 s1 e S1 st1 q => by
    obtain ⟨rfl, sub, q⟩ := q
    subst e
    exact q.done hb S S1 st1 sub)
theorem tx_expr {e : Expr} {pos : Pos} (h : TX c n L (eval e env) ρ H) (hi : interactive env = false := by rfl) (hs : swapsWith e none pos.line env = pure false := by rfl) : TX c n L (exec (.Expr e pos) env) ρ H := fun A s hb S =>
  wpAny_Expr_any (wpAny_mono (h A s hb S) (fun _ _ e => e.elim) fun _ _ e => e) hi hs
theorem tx_assign {x : Str} {pos' pos : Pos} {value : Expr} (h : TX c n L (eval value env) ρ H) (hs : swapsWith value (some (.Name x pos')) pos.line env = pure false := by rfl) : TX c n L (exec (.Assign [.Name x pos'] value pos) env) ρ H := fun A s hb S =>
  PySem.wpAny_Assign_Name (wpAny_mono (h A s hb S) (fun _ _ e => e.elim) fun _ _ e => e) hs
/-- a call through an attribute -/
theorem tx_meth {o : Expr} {name : Str} {apos pos : Pos} {args : List Expr} {pl : Sem Bool}
    (h : TV c n L (eval o env) ρ H fun a ρ1 H1 => ∀ va, Rep a va → TE c n L (fun (b : Value × List Value) v => b = v) (getMethod va name pl) ρ1 H1 fun fx ρ2 H2 => Sub H H2 ∧ TX c n L (callWith pos fx.1 fx.2 (backTo pos (starEach args env)) []) ρ2 H2)
    (he : eval (.Call (.Attribute o name apos) args [] pos) env = (do
      let ov ← eval o env
      standAt apos.atName
      let (f, first) ← holding [ov] (getMethod ov name pl)
      callWith pos f first (backTo pos (starEach args env)) (backToKw pos (keywordEach [] env))) := by rfl) :
    TX c n L (eval (.Call (.Attribute o name apos) args [] pos) env) ρ H := fun A s hb S =>
  methodCall_KW (kws := []) (h.then hb S fun va a ρ1 H1 s1 ra S1 st1 h1 => (h1 va ra).then hb S1 fun fx b ρ2 H2 s2 e S2 st2 h2 => by
    subst e
    exact h2.2.done hb S S2 (st1.trans st2) h2.1) he
theorem tx_wK (hc : c.Ok) {pos : Pos} {f : Value} {first : List Value} {e : Expr} {r : List Expr} (hk : keepIn c.K f = true)
    (h : TL c n L (spliced (backTo pos (starEach (e :: r) env))) ρ H fun as ρ1 H1 => Sub H H1 ∧ ∀ vs, RepL as vs → TX c n L (call f (first ++ vs)) ρ1 H1)
    (he : starEach (e :: r) env = (false, eval e env) :: starEach r env := by rfl) (hplain : (backTo pos (starEach r env)).any (·.1) = false := by rfl) :
    TX c n L (callWith pos f first (backTo pos (starEach (e :: r) env)) []) ρ H := fun A s hb S =>
  callWith_K hc.X hk (h.then hb S fun vs as ρ1 H1 s1 rs S1 st1 h1 => ⟨S1.inK hc, (h1.2 vs rs).done hb S S1 st1 h1.1⟩) he hplain
/-- a call of a def that raises -/
theorem tx_def (hc : c.Ok) {name qual : Str} {params : Arguments} {body : List Stmt} {scope : Scope} {dV kV doc pm cdv ct oc : Value} {an od : Option Addr} {osl : Array (Option Value)} {f : Addr} {as : List MV} {ps : List (Str × MV)}
    (ho : c.K.lookup f = some ⟨oc, od, .func (fnOf name qual params body scope dV kV doc pm an cdv ct), osl⟩) (hcd : codeIn c.K cdv qual = true)
    (hb : BindsOk c (fnOf name qual params body scope dV kV doc pm an cdv ct) as ps) (hloc : ∀ y ∈ ps, scope.names.lookup y.1 = some .local)
    (h : ∀ L', TX c n L' (execs body (envOf qual scope L' f cdv)) (locOf ps.reverse) H)
    (hco : scope.isCoroutine = false) (hgen : scope.isGenerator = false) (hk : scope.kind = .function) (hcell : ∀ x ∈ scope.names, x.2 ≠ .cell) {vs : List Value} (r : RepL as vs) : TX c (n + 1) L (call (.ref f) vs) ρ H := fun A s hbd S => by
  refine wpAny_call (enter_raw hc ho hcd hb hloc hco hgen hk hcell hbd.depth S r fun L' h₁ tk hL kk S1 hsub => ?_)
  refine wpAny_mono (h L' _ _ hbd.deeper S1) (fun _ _ e => e.elim) fun e s' R => ?_
  obtain ⟨x, dd, T, ρ', H', t, m2, he, S', st', sub', hf, X⟩ := R.ex
  subst he
  obtain ⟨l, hl, _⟩ := id S.blw
  refine leave_exc (Around.frames_deeper hl) rfl S'.blw.frOk X fun h₂ T' hT' X₂ k₂ => ?_
  have fr : ∀ b, b = x ∨ b = dd ∨ T = some b → s.heap.get? b = none := fun b hb => by
    cases e : s.heap.get? b with
    | none => rfl
    | some o => have := kk b o e; rw [show h₁.get? b = none from (hf b hb).1] at this; cases this
  have S'' : Sat c (A.deeper (envOf qual scope L' f cdv)) L' ρ' H' { s' with heap := h₂ } := S'.growP (tk := s'.toks) (P := fun b => b = x ∨ b = dd ∨ T = some b) (fun b hb => ⟨(hf b hb).2, fresh_out S1 (hf b hb).1⟩) fun b o hn e => k₂ b o e (fun q => hn (.inl q)) fun q => hn (.inr (.inr q))
  have st'' : Stp (A.deeper (envOf qual scope L' f cdv)) L' H _ H' { s' with heap := h₂ } := st'.growP (tk := s'.toks) (P := fun b => b = x ∨ b = dd ∨ T = some b) (fun b hb => (hf b hb).1) fun b o hn e => k₂ b o e (fun q => hn (.inl q)) fun q => hn (.inr (.inr q))
  obtain ⟨z1, z2⟩ := S.leave kk hL S'' st'' (fun _ h => .inl h) hsub
  refine ⟨x, dd, some T', ρ, H', t, m2, rfl, z1, z2, sub', fun b hb => ?_, X₂⟩
  rcases hb with hb | hb | hb
  · exact ⟨fr b (.inl hb), (hf b (.inl hb)).2⟩
  · exact ⟨fr b (.inr (.inl hb)), (hf b (.inr (.inl hb))).2⟩
  · cases hb
    refine ⟨?_, fun ht => ?_⟩
    · cases e : s.heap.get? T' with
      | none => rfl
      | some o =>
        have h1 := kk T' o e
        by_cases hTr : Tr H T'
        · obtain ⟨o', e'⟩ := S'.liveT (hTr.sub sub'); rw [hT'] at e'; cases e'
        · by_cases hL' : T' = L'
          · rw [hL'] at e; exact absurd (Heap.lt_size e) (Nat.not_lt.mpr hL)
          · obtain ⟨sl, e'⟩ := (st'.kp T' o h1 hTr hL').2; rw [hT'] at e'; cases e'
    · obtain ⟨o', e'⟩ := S'.liveT ht; rw [hT'] at e'; cases e'
end
section
variable {d : Dt} {n : Nat} {env : Env} {L : Addr} {ρ : Loc} {H : Hp}
set_option pp.deepTerms false
set_option pp.deepTerms.threshold 6
theorem cls_at (hc : (cx d).Ok) {h : Heap} (X : (cx d).K.In h) : h.get? 38 = some (excClassObj "LispSignal" "LispSignal" 38 37 [.type "Exception"] [.type "Exception", .type "BaseException", .type "object"] true [] [] false none none (some (.ref 22)) none (some (.str "LispSignal" 196)) (some (.str "LispSignal" 204)) (some (.bool true)) "Exception.__new__") := X _ _ (by with_unfolding_all rfl)
theorem tx_raise (hc : (cx d).Ok) (hn : 3 ≤ n) {p pos pos' : Pos} {e : Expr} {r : List Expr} (hk : env.scope.kind = .function) (hx : env.kindOf "LispSignal" = some .globalImplicit) (hg : env.globals = mainGlobals)
    (h : TL (cx d) n L (spliced (backTo pos (starEach (e :: r) env))) ρ H fun as ρ1 H1 => Sub H H1 ∧ ∃ m2, as = [.str "error", m2])
    (he0 : eval (.Call (.Name "LispSignal" p) (e :: r) [] pos) env = (do callWith pos (← eval (.Name "LispSignal" p) env) [] (backTo pos (starEach (e :: r) env)) (backToKw pos (keywordEach [] env))) := by rfl)
    (he : starEach (e :: r) env = (false, eval e env) :: starEach r env := by rfl) (hplain : (backTo pos (starEach r env)).any (·.1) = false := by rfl) :
    TX (cx d) n L (exec (.Raise (some (.Call (.Name "LispSignal" p) (e :: r) [] pos)) none pos') env) ρ H := fun A s hb S => by
  refine raise_exc (C := 38) (nm := "LispSignal") (q := "LispSignal") (N := 37) (bs := [.type "Exception"]) (bm := [.type "Exception", .type "BaseException", .type "object"]) (hdct := true) (sn := []) (sub := []) (ab := false) (col := none) (dd := none) (k0 := some (.ref 22)) (k1 := none) (k2 := some (.str "LispSignal" 196)) (k3 := some (.str "LispSignal" 204)) (k5 := some (.bool true)) (newId := "Exception.__new__") (by decide +kernel) hb.1 (Call_ ((t_gref (c := cx d) (a := 38) (Q := fun m ρ1 H1 => m = .ref 38 ∧ ρ1 = ρ ∧ H1 = H) hc hk hx hg (by with_unfolding_all rfl) ⟨rfl, rfl, rfl⟩).then hb S fun vf m ρ1 H1 s1 rf S1 st1 hq => ?_) he0)
  obtain ⟨rfl, rfl, rfl⟩ := hq
  cases rf
  refine callWith_K hc.X (by with_unfolding_all rfl) (h.then hb S1 fun vs as ρ2 H2 s2 rs S2 st2 hq => ⟨S2.inK hc, ?_⟩) he hplain
  obtain ⟨sub, m2, rfl⟩ := hq
  match vs, rs with
  | [v1, v2], rs =>
    obtain ⟨⟨t, ev⟩, r2, _⟩ := rs
    subst ev
    refine wpAny_call (lisp_call hc (hb.mono hn) S2 fun x dd h' tk kk fx fd X => ?_)
    have X' := X
    obtain ⟨⟨o, ws, e1, e2, e3, e4, e5, e5', e6⟩, hne, _⟩ := X
    refine ⟨x, o, ws, rfl, cls_at hc (X := (S2.inK hc).keeps kk), e1, e2, e4, e6, ?_⟩
    have st : Stp A L H1 s H2 { s2 with heap := h', toks := tk } := (st1.trans st2).trans (Stp.keeps A L H2 s2 kk)
    refine ⟨x, dd, none, ρ2, H2, t, .val v2, rfl, S2.keeps kk, st, sub, fun b hb => ?_, X'⟩
    have fb : s2.heap.get? b = none := by
      rcases hb with rfl | rfl | hb
      · exact fx
      · exact fd
      · cases hb
    refine ⟨fresh_back S S2 (st1.trans st2) sub fb, fun ht => ?_⟩
    obtain ⟨o', e'⟩ := S2.liveT ht
    rw [fb] at e'; cases e'
variable {S : Shp} {t : TR} {tr : Addr} {order : List Int} {wd : Int → Addr} {wr : Int → WR}
/-- window of a number that is gone -/
theorem x_window (hc : (cx d).Ok) (hT : TreeAt S t tr order wd wr H) {v : Int} (hv : v ∉ order) {vs : List Value} (r : RepL [.ref tr, .int v] vs) : TX (cx d) (n + 3 + 1) L (call (.ref 126) vs) ρ H := by
  refine tx_def hc (by with_unfolding_all rfl) (by with_unfolding_all rfl) (binds2 (x := "self") (y := "number") fun v w => by with_unfolding_all rfl) (hloc_of (by with_unfolding_all rfl)) (fun L' => ?_) (by rfl) (by rfl) (by rfl) (by decide +kernel) r
  have g1 := hT.tr
  have g2 := hT.dw
  refine tx_pre ?_
  repeat walk_at "m"
  rw [dget_order_none hv, Option.getD_none]
  repeat walk_at "m"
  refine ⟨Sub.refl _, tx_first (tx_if ?_)⟩
  repeat walk_at "m"
  refine ⟨rfl, Sub.refl _, tx_first (tx_raise hc (by omega) (by rfl) (by with_unfolding_all rfl) (by rfl) ?_)⟩
  repeat walk_at "m"
  rename_i a ha
  exact ⟨(Sub.refl _).hset ha, _, rfl⟩
/-- leaf of a window that is none -/
theorem x_leaf (hc : (cx d).Ok) (hT : TreeAt S t tr order wd wr H) {v : Int} (hv : v ∈ order) (hs : (wr v).sort ≠ 0) {vs : List Value} (r : RepL [.ref tr, .int v] vs) : TX (cx d) (n + 3 + 1) L (call (.ref 133) vs) ρ H := by
  refine tx_def hc (by with_unfolding_all rfl) (by with_unfolding_all rfl) (binds2 (x := "self") (y := "number") fun v w => by with_unfolding_all rfl) (hloc_of (by with_unfolding_all rfl)) (fun L' => ?_) (by rfl) (by rfl) (by rfl) (by decide +kernel) r
  have g1 := hT.tr
  have g3 := hT.wn v hv
  refine tx_pre ?_
  repeat walk_at "m"
  refine c_window hc hT hv ?_
  repeat walk_at "m"
  refine ⟨Sub.refl _, tx_first (tx_if ?_)⟩
  repeat walk_at "m"
  refine ⟨by simpa using hs, Sub.refl _, tx_first (tx_raise hc (by omega) (by rfl) (by with_unfolding_all rfl) (by rfl) ?_)⟩
  repeat walk_at "m"
  rename_i a ha
  exact ⟨(Sub.refl _).hset ha, _, rfl⟩
end
/-- the code table of a def that makes one lambda -/
def TabH (H : Hp) (P : Addr) (pos : Pos) (qual : Str) : Prop := ∃ ps, H P = some (.raw (tabObj ps)) ∧ TriplesOk ps.toList ∧
  (codeAmong pos ps.toList = none ∨ ∃ c' oc vs t, codeAmong pos ps.toList = some (.ref c') ∧ H c' = some (.raw oc) ∧ oc.data = .fields vs ∧ vs[1]? = some (.str qual t))
/-- a lambda made -/
def LamH (H : Hp) (f : Addr) (qual : Str) (params : Arguments) (body : Expr) (scope : Scope) (clos : List (Str × Addr)) : Prop := ∃ pm c' ctv oc vs t, H f = some (.raw (kla_obj "<lambda>" qual params body scope clos pm c' ctv)) ∧ H c' = some (.raw oc) ∧ oc.data = .fields vs ∧ vs[1]? = some (.str qual t)
theorem fp_raw {a : Addr} {o o' : Obj} : ∀ b, InFp a (.raw o') b ↔ InFp a (.raw o) b := fun _ => Iff.rfl
section
variable {c : Cx} {n : Nat} {env : Env} {L : Addr} {ρ : Loc} {H : Hp} {Q : MV → Loc → Hp → Prop}
theorem t_lambda (hc : c.Ok) {params : Arguments} {body : Expr} {scope : Scope} {pos : Pos} {cc P : Addr} {clos : List (Str × Addr)} (hdef : defaultsOf params env = ([], [])) (hcl : closureFor scope env = pure clos) (hg : env.globals = mainGlobals) (hcode : env.code = .ref cc)
    (C : CodeHd c.h₀ cc P) (hP : TabH H P pos (env.qual ++ "<lambda>"))
    (h : ∀ f H', TabH H' P pos (env.qual ++ "<lambda>") → (∀ b o, H b = some o → b ≠ P → H' b = some o) → H f = none → LamH H' f (env.qual ++ "<lambda>") params body scope clos → Q (.ref f) ρ H') :
    TV c n L (eval (.Lambda params body scope pos) env) ρ H Q := fun A s hb S => by
  refine kla_eval hdef ?_
  obtain ⟨ps, hp, htr, hcase⟩ := hP
  have hmP : s.heap.get? P = some (tabObj ps) := S.objs P _ hp
  have hgs := hc.T.g.keeps S.base
  obtain ⟨bm, ob, b1, b2, b3, b4, b5, b6⟩ := hc.T.bmain
  have hPb : c.h₀.get? P = none := S.new P (Tr.self hp)
  have hgP : mainGlobals ≠ P := fun q => by
    obtain ⟨o, es, ep, e, _⟩ := hc.T.g
    rw [q, hPb] at e; cases e
  have hbP : bm ≠ P := fun q => by rw [q, hPb] at b3; cases b3
  have hbG : bm ≠ mainGlobals := fun q => by
    obtain ⟨o, es, ep, e, hd, _⟩ := hc.T.g
    rw [q, e] at b3; cases b3; rw [hd] at b6; cases b6
  have hB : s.heap.BuiltinsAt c.mg P := ⟨bm, ob, b1, b2, hbG, hbP, S.base _ _ b3, b4, b5, b6⟩
  rcases hcase with hnf | ⟨c', oc, vs, t, hf, hc', hd, hv⟩
  · refine kla_makeFunction (mg := c.mg) hcl hg hgs hcode (C.keeps S.base) hmP htr hnf hgP hB fun c' ctv h' tk hx hge hlt hrec htb => ?_
    obtain ⟨c₂, oc, vs, t, e2, hoc, hd, hv⟩ := hrec
    cases e2
    have hx' : Heap.ExtBut P s.heap h' := hx
    have S1 : Sat c A L ρ (hset H P (.raw (tabObj (ps ++ #[rawInt pos.line, rawInt pos.col, .ref c'])))) { s with heap := h', toks := tk } := S.turn hp (.inl rfl) hx' fp_raw htb
    have hcn : s.heap.get? c' = none := Heap.get?_none_of_le hge
    have out := fresh_out S hcn
    have hcH : H c' = none := S.fresh hge
    have hcP : c' ≠ P := fun q => by rw [q, hp] at hcH; cases hcH
    have hcT : ¬ Tr (hset H P (.raw (tabObj (ps ++ #[rawInt pos.line, rawInt pos.col, .ref c'])))) c' := fun ht => by
      rcases tr_hset ht with q | q
      · rcases q with q | q
        · exact hcP q
        · exact q
      · exact absurd (S.lt q) (Nat.not_lt.mpr hge)
    have S2 := S1.add (a := c') (o := .raw oc) hoc (fun b hb => hb.elim id False.elim) hcT out.1 out.2.1 out.2.2
    have hsz : s.heap.objs.size ≤ h'.objs.size := Nat.le_of_lt (Nat.lt_of_le_of_lt hge hlt)
    have kk : ∀ b o, h'.get? b = some o → (h'.push (kla_obj "<lambda>" (env.qual ++ "<lambda>") params body scope clos ((c.mg "__name__").getD .none) c' ctv)).get? b = some o := fun b o e => Heap.get?_push_of_some _ e
    have S3 := S2.alloc (tk := tk) (a := h'.objs.size) (o := .raw (kla_obj "<lambda>" (env.qual ++ "<lambda>") params body scope clos ((c.mg "__name__").getD .none) c' ctv)) (h' := h'.push (kla_obj "<lambda>" (env.qual ++ "<lambda>") params body scope clos ((c.mg "__name__").getD .none) c' ctv)) kk (fun b hb => hb.elim (fun e => Nat.le_of_eq e.symm) False.elim) (Heap.get?_push_size _ rfl)
    have hfH : H h'.objs.size = none := S.fresh hsz
    have hfP : h'.objs.size ≠ P := fun q => by rw [q, hp] at hfH; cases hfH
    have hfc : c' ≠ h'.objs.size := Nat.ne_of_lt hlt
    refine ⟨.ref h'.objs.size, ρ, _, rfl, S3, ⟨fun a o e hn hL => .of (kk a o (hx a o (fun q => hn (q ▸ Tr.self hp)) e)), fun b ht => ?_, fun hn e => ?_⟩, h _ _ ⟨_, (hset_ne (Ne.symm hfP)).trans ((hset_ne (Ne.symm hcP)).trans (hset_eq _ _ _)), ?_, .inr ⟨c', oc, vs, t, ?_, (hset_ne hfc).trans (hset_eq _ _ _), hd, hv⟩⟩ (fun b o e hb => ?_) hfH ⟨_, c', ctv, oc, vs, t, hset_eq _ _ _, (hset_ne hfc).trans (hset_eq _ _ _), hd, hv⟩⟩
    · rcases tr_hset ht with q | q
      · rcases q with q | q
        · exact .inr (q ▸ Heap.get?_none_of_le hsz)
        · exact q.elim
      · rcases tr_hset q with q | q
        · rcases q with q | q
          · exact .inr (q ▸ hcn)
          · exact q.elim
        · rcases tr_hset q with q | q
          · rcases q with q | q
            · exact .inl (q ▸ Tr.self hp)
            · exact q.elim
          · exact .inl q
    · exact alive (fun o e' => kk L o (hx L o (fun q => hn (q ▸ Tr.self hp)) e')) e
    · rw [Array.toList_append]; exact TriplesOk_snoc _ _ _ _ htr
    · rw [Array.toList_append]; exact codeAmong_snoc _ htr hnf
    · exact (hset_ne (ne_of e hfH)).trans ((hset_ne (ne_of e hcH)).trans ((hset_ne hb).trans e))
  · refine kla_makeFunctionHit (mg := c.mg) hcl hg hgs hcode (C.keeps S.base) hmP htr hf hB fun ctv h' tk hk hsz => ?_
    have S1 := S.keeps (tk := tk) hk
    have kk : ∀ b o, h'.get? b = some o → (h'.push (kla_obj "<lambda>" (env.qual ++ "<lambda>") params body scope clos ((c.mg "__name__").getD .none) c' ctv)).get? b = some o := fun b o e => Heap.get?_push_of_some _ e
    have S3 := S1.alloc (tk := tk) (a := h'.objs.size) (o := .raw (kla_obj "<lambda>" (env.qual ++ "<lambda>") params body scope clos ((c.mg "__name__").getD .none) c' ctv)) (h' := h'.push (kla_obj "<lambda>" (env.qual ++ "<lambda>") params body scope clos ((c.mg "__name__").getD .none) c' ctv)) kk (fun b hb => hb.elim (fun e => Nat.le_of_eq e.symm) False.elim) (Heap.get?_push_size _ rfl)
    have hfH : H h'.objs.size = none := S.fresh hsz
    refine ⟨.ref h'.objs.size, ρ, _, rfl, S3, ⟨fun a o e hn hL => .of (kk a o (hk a o e)), fun b ht => ?_, fun hn e => alive (fun o e' => kk L o (hk L o e')) e⟩, h _ _ ⟨ps, (hset_ne (ne_of hp hfH)).trans hp, htr, .inr ⟨c', oc, vs, t, hf, (hset_ne (ne_of hc' hfH)).trans hc', hd, hv⟩⟩ (fun b o e hb => (hset_ne (ne_of e hfH)).trans e) hfH ⟨_, c', ctv, oc, vs, t, hset_eq _ _ _, (hset_ne (ne_of hc' hfH)).trans hc', hd, hv⟩⟩
    rcases tr_hset ht with q | q
    · rcases q with q | q
      · exact .inr (q ▸ Heap.get?_none_of_le hsz)
      · exact q.elim
    · exact .inl q
/-- a lambda called that raises -/
theorem tx_lam (hc : c.Ok) {f : Addr} {qual : Str} {params : Arguments} {body : Expr} {scope : Scope} {clos : List (Str × Addr)} (hf : LamH H f qual params body scope clos)
    (hbind : ∀ pm c' ctv, bindArgs (kla_fn "<lambda>" qual params body scope clos pm c' ctv) ⟨[], []⟩ = pure []) (h : ∀ L' c', TX c n L' (eval body (envX qual scope L' f (.ref c') clos)) (fun _ => none) H)
    (hco : scope.isCoroutine = false) (hgen : scope.isGenerator = false) (hk : scope.kind = .function) (hcell : ∀ x ∈ scope.names, x.2 ≠ .cell) : TX c (n + 1) L (call (.ref f) []) ρ H := fun A s hbd S => by
  obtain ⟨pm, c', ctv, oc, vs, t, hf, hc', hd, hv⟩ := hf
  refine wpAny_call (kla_callFunE hbd.depth (S.objs f _ hf) rfl hco hgen rfl ⟨c', oc, vs, t, rfl, S.objs c' _ hc', hd, hv⟩ ?_)
  rw [hbind]
  refine wpAny_pure (wpAny_newFunctionEnv hcell (fun y hy => by cases hy) (fun h₁ hns hsb => ⟨(hc.T.nolimit.keeps S.base).fresh _ hsb, ?_⟩) hk)
  show codeAny _ _ (.expr body (envX qual scope s.heap.objs.size f (.ref c') clos)) _ _
  generalize hL' : s.heap.objs.size = L' at hns hsb ⊢
  have hL : s.heap.objs.size ≤ L' := Nat.le_of_eq hL'
  have kk : ∀ b o, s.heap.get? b = some o → h₁.get? b = some o := fun b o e => hsb.extBut b o (by rw [← hL']; exact Nat.ne_of_lt (Heap.lt_size e)) (Heap.get?_push_of_some _ e)
  obtain ⟨l, hl, _⟩ := id S.blw
  have hl' := Around.frames_deeper (env := envX qual scope L' f (.ref c') clos) hl
  have hfr : FrAt h₁ L' (fun _ => none) := ⟨_, hns, fun x m e => by cases e⟩
  obtain ⟨o, es, ep, e1, e2, _⟩ := id hns
  have hB : Blw c (A.deeper (envX qual scope L' f (.ref c') clos)) H h₁ := (S.blw.keeps kk).push hl hl' (by show scope.kind ≠ .module; rw [hk]; decide) rfl (S.baseNone hL) (fun ht => absurd (S.lt ht) (Nat.not_lt.mpr hL)) e1 fun vs e => by rw [e2] at e; cases e
  have S1 := S.enter (tk := s.toks + ([] : List (Str × Value)).length) kk hL hfr hB
  have hsub := frs_push hl hl' rfl
  refine kla_codeExpr (wpAny_mono (h L' c' _ _ hbd.deeper S1) (fun _ _ e => e.elim) fun e s' R => ?_)
  obtain ⟨x, dd, T, ρ', H', t', m2, he, S', st', sub', hfx, X⟩ := R.ex
  subst he
  refine leave_exc hl' rfl S'.blw.frOk X fun h₂ T' hT' X₂ k₂ => ?_
  have fr : ∀ b, b = x ∨ b = dd ∨ T = some b → s.heap.get? b = none := fun b hb => by
    cases e : s.heap.get? b with
    | none => rfl
    | some o => have := kk b o e; rw [show h₁.get? b = none from (hfx b hb).1] at this; cases this
  have S'' := S'.growP (tk := s'.toks) (h' := h₂) (P := fun b => b = x ∨ b = dd ∨ T = some b) (fun b hb => ⟨(hfx b hb).2, fresh_out S1 (hfx b hb).1⟩) fun b o hn e => k₂ b o e (fun q => hn (.inl q)) fun q => hn (.inr (.inr q))
  have st'' := st'.growP (tk := s'.toks) (h' := h₂) (P := fun b => b = x ∨ b = dd ∨ T = some b) (fun b hb => (hfx b hb).1) fun b o hn e => k₂ b o e (fun q => hn (.inl q)) fun q => hn (.inr (.inr q))
  obtain ⟨z1, z2⟩ := S.leave kk hL S'' st'' (fun _ h => .inl h) hsub
  refine ⟨x, dd, some T', ρ, H', t', m2, rfl, z1, z2, sub', fun b hb => ?_, X₂⟩
  rcases hb with hb | hb | hb
  · exact ⟨fr b (.inl hb), (hfx b (.inl hb)).2⟩
  · exact ⟨fr b (.inr (.inl hb)), (hfx b (.inr (.inl hb))).2⟩
  · cases hb
    refine ⟨?_, fun ht => ?_⟩
    · cases e : s.heap.get? T' with
      | none => rfl
      | some o =>
        have h1 := kk T' o e
        by_cases hTr : Tr H T'
        · obtain ⟨o', e'⟩ := S'.liveT (hTr.sub sub'); rw [hT'] at e'; cases e'
        · by_cases hLL : T' = L'
          · rw [hLL] at e; exact absurd (Heap.lt_size e) (Nat.not_lt.mpr hL)
          · obtain ⟨sl, e'⟩ := (st'.kp T' o h1 hTr hLL).2; rw [hT'] at e'; cases e'
    · obtain ⟨o', e'⟩ := S'.liveT ht; rw [hT'] at e'; cases e'
/-- asked() -/
theorem tx_call0 {func : Expr} {pos : Pos} {f : Addr} {qual : Str} {params : Arguments} {body : Expr} {scope : Scope} {clos : List (Str × Addr)} (h : TV c n L (eval func env) ρ H fun m ρ1 H1 => m = .ref f ∧ Sub H H1 ∧ LamH H1 f qual params body scope clos ∧ TX c n L (call (.ref f) []) ρ1 H1)
    (he : eval (.Call func [] [] pos) env = (do callWith pos (← eval func env) [] (backTo pos (starEach [] env)) (backToKw pos (keywordEach [] env))) := by rfl) : TX c n L (eval (.Call func [] [] pos) env) ρ H := fun A s hb S =>
  Call_ (h.then hb S fun vf m ρ1 H1 s1 rf S1 st1 hq => by
    obtain ⟨rfl, sub, hf, hx⟩ := hq
    cases rf
    obtain ⟨pm, c', ctv, oc, vs, t, hf, _⟩ := hf
    exact callWith_F0 ⟨_, _, _, _, S1.objs f _ hf⟩ (hx.done hb S S1 st1 sub)) he
end
section
variable {prog : Program} {w : World} {A : Around} {E : Value → Shared → Prop} {s : Shared} {K : Frag} {x C : Addr} {ox : Obj} {od : Option Obj} {name : Str} {expr : Bool} {Q : Value → Shared → Prop}
set_option maxHeartbeats 400000 in
theorem exc_attr {v : Value} (X : K.In s.heap) (I : InstAt s.heap x ox C od) (hga : findIn K (.ref C) "__getattribute__" = some (some (.builtin "BaseException.__getattribute__"))) (hgt : findIn K (.ref C) "__getattr__" = some none)
    (hsub : mroIn K C (.type "BaseException") = some true) (hf : findObj K C od name = some (.value v)) (hh : handedIn v = true) (h : Q v { s with toks := s.toks + 1 }) : wpAny (model prog w) A (getAttr (.ref x) name expr) Q E s := by
  obtain ⟨hp, g, d, t, os⟩ := s
  have L0 := I.type (M := model prog w)
  have L1 := looks_findIn (M := model prog w) X hga
  have L2 := looks_findIn (M := model prog w) X hgt
  have L3 := looks_find (M := model prog w) X I hf
  have L4 : Looks (model prog w) hp (isInstance (.ref x) (.type "BaseException")) true := L0.andThen (looks_mroIn X hsub)
  have f3 := PySem.F.attr_Exception.ga.bind (.ref x)
  have hk : builtinKind "BaseException.__getattribute__" = some .slot := by decide +kernel
  have hsplit : splitId "BaseException.__getattribute__" = some ("BaseException", "__getattribute__") := by decide +kernel
  have hx2 : (Value.builtin "BaseException.__getattribute__" == Value.builtin "object.__getattribute__") = false := by decide +kernel
  unfold getAttr getAttrBy
  refine wpAny_bind (wpAny_mkText (wpAny_holding (wpAny_bind (L0.at (wpAny_bind (L1.at ?_))))))
  dsimp only
  rw [if_neg (by rw [hx2, Bool.and_false]; decide)]
  unfold getAttrByItsOwn hookBefore
  rw [if_pos (show onTheHeap (Value.ref C) = true from rfl)]
  refine wpAny_bind (L2.at (wpAny_bind (wpAny_attempt (wpAny_holding ?_))))
  unfold callGetattribute
  rw [if_neg (by cases expr <;> decide)]
  unfold boundAndCalled
  rw [f3]
  refine wpAny_bind (wpAny_pure ?_)
  dsimp only [List.cons_append, List.nil_append]
  refine wpAny_call (codeAny_call_builtin PySem.F.attr_Exception.ga.plain PySem.F.entry_bexc_ga ?_)
  refine @check_slot (model prog w) _ _ ⟨hp, g, d, t + 1, os⟩ "BaseException.__getattribute__" "BaseException" "__getattribute__" (.ref x) [.str name t] [] _ hk hsplit L4 (PySem.F.args_bexc_ga (.ref x) (.str name t)) ?_
  refine wpAny_bind (wpAny_pure (wpAny_bind (wpAny_pure (wpAny_bind (L0.at (wpAny_bind (L3.at ?_)))))))
  refine wpAny_pure ?_
  show wpAny _ _ (handedOut v) _ _ _
  rw [handedOut_of hh]; exact wpAny_pure h
end
section
variable {d : Dt} {n : Nat} {env : Env} {L : Addr} {ρ : Loc} {H : Hp} {Q : MV → Loc → Hp → Prop}
set_option pp.deepTerms false
set_option pp.deepTerms.threshold 6
theorem DAt.look {h : Heap} {dd : Addr} {fs : List (Str × MV)} {x : Str} {m : MV} (D : DAt h dd fs) (e : fget fs x = some m) : ∃ od v, h.get? dd = some od ∧ lookIn x od = some (some v) ∧ Rep m v := by
  obtain ⟨od, es, ep, e1, e2, e3⟩ := D
  obtain ⟨v, hv, r⟩ := e3.getSome e
  refine ⟨od, v, e1, ?_, r⟩
  unfold lookIn
  rw [e2]
  exact hv
/-- the locals turn -/
theorem Sat.locals {c : Cx} {A : Around} {s : Shared} {ρ' : Loc} (S : Sat c A L ρ H s) {h' : Heap} {tk : Nat} (hs : Heap.SameBut L s.heap h') (hf : FrAt h' L ρ') : Sat c A L ρ' H { s with heap := h', toks := tk } := by
  refine ⟨fun b o e => (hs.2 b (fun q => ?_)).trans (S.base b o e), S.above, hf, S.frL, fun a o h => (S.objs a o h).mono fun b ob hb e => (hs.2 b fun q => ?_).trans e, S.new, S.sep, S.gens, S.os, S.blw.step (fun F o e _ hd => hf.frame fun q => ⟨o, (hs.2 F q).trans e, hd⟩) fun F h => .inl h⟩
  · rw [q, S.baseL] at e; cases e
  · exact S.frL (q ▸ ⟨a, o, h, hb⟩)
theorem FrAt.live {h : Heap} {L : Addr} {ρ : Loc} (x : FrAt h L ρ) : h.get? L ≠ none := by
  obtain ⟨m, ⟨o, _, _, e, _⟩, _⟩ := x
  rw [e]; exact Option.some_ne_none _
theorem FrAt.ofNs {h : Heap} {L : Addr} {m : Str → Option Value} (x : h.Ns L m) : FrAt h L (fun _ => none) := ⟨m, x, fun x m e => by cases e⟩
theorem SameBut.kept {A : Around} {L : Addr} {h h' : Heap} (x : Heap.SameBut L h h') {a : Addr} {o : Obj} (e : h.get? a = some o) (hn : a ≠ L) : Kept A a o h' := .of ((x.2 a hn).trans e)
set_option maxHeartbeats 1000000 in
theorem try_refused (hc : (cx d).Ok) {b : List Stmt} {A : Around} {outer : List Env} {s : Shared} {p1 p2 p3 p4 p5 p6 p7 p8 : Pos} (hfr : A.frames = some (env :: outer)) (hF : env.frame = some L) (hL : env.locals = L) (hk : env.scope.kind = .function) (hg : env.globals = mainGlobals)
    (hk1 : env.kindOf "error" = some .local) (hk2 : env.kindOf "LispSignal" = some .globalImplicit) (hb : Bud A n) (S : Sat (cx d) A L ρ H s) (hx : TX (cx d) n L (execs b env) ρ H) {QF : Flow → Shared → Prop} {E : Value → Shared → Prop}
    (hR : ∀ s' ρ' H', Sat (cx d) A L ρ' H' s' → Stp A L H s H' s' → Sub H H' → QF (.ret (.bool true)) s') :
    wpAny (model (cx d).prog (cx d).w) A (exec (.Try b [.ExceptHandler (some (.Name "LispSignal" p1)) (some "error") [.Return (some (.Compare (.Attribute (.Name "error" p2) "symbol" p3) [.Eq] [.Constant (.str "error") 0 p4] p5)) p6] p7] [] [] p8) env) QF E s := by
  refine wpAny_Try_except (wpAny_mono (hx A s hb S) (fun _ _ e => e.elim) fun e s2 R => ?_)
  obtain ⟨x, dd, T, ρ', H', t, m2, he, S2, st2, sub, hfx, X2⟩ := R.ex
  subst he
  refine note_exc hfr hF S2.blw.frOk X2 fun h3 T' hT' X3 hns3 k3 => ?_
  have S3 : Sat (cx d) A L ρ' H' { s2 with heap := h3 } := S2.growP (tk := s2.toks) (P := fun b => b = x ∨ b = dd ∨ T = some b) (fun b hb => ⟨(hfx b hb).2, fresh_out S (hfx b hb).1⟩) fun b o hn e => k3 b o e (fun q => hn (.inl q)) fun q => hn (.inr (.inr q))
  have st3 : Stp A L H s H' { s2 with heap := h3 } := st2.growP (tk := s2.toks) (P := fun b => b = x ∨ b = dd ∨ T = some b) (fun b hb => (hfx b hb).1) fun b o hn e => k3 b o e (fun q => hn (.inl q)) fun q => hn (.inr (.inr q))
  have hTT : ¬ Tr H' T' := fun ht => by obtain ⟨o', e'⟩ := S2.liveT ht; rw [hT'] at e'; cases e'
  have hTo := fresh_out S2 hT'
  have hTs : s.heap.get? T' = none := fresh_back S S2 st2 sub hT'
  have xT : x ≠ L := (fresh_out S (hfx x (.inl rfl)).1).1
  have xD : dd ≠ L := (fresh_out S (hfx dd (.inr (.inl rfl))).1).1
  obtain ⟨o, vs, oT, ts, e1, e2, e3, e4, e5, e5', e6, a2, a3, a4, a5, a6⟩ := X3
  refine land_exc (s := { s2 with heap := h3 }) (T' := T') ⟨o, vs, oT, ts, e1, e2, e3, e4, e5, e5', e6, a2, a3, a4, a5, (Array.getElem?_eq_some_iff.mp a6).1⟩ X2.ne hns3 fun h4 X4 k4 => ?_
  have S4 : Sat (cx d) A L ρ' H' { s2 with heap := h4 } := S3.growP (tk := s2.toks) (P := fun b => b = T') (fun b hb => by subst hb; exact ⟨hTT, hTo⟩) fun b o hn e => .of (k4 b o e hn)
  have st4 : Stp A L H s H' { s2 with heap := h4 } := st3.growP (tk := s2.toks) (P := fun b => b = T') (fun b hb => by subst hb; exact hTs) fun b o hn e => .of (k4 b o e hn)
  refine wpAny_handleBy_cons (codeAny_handlers_test ?_) (by intro q; cases q)
  refine Name_function_global hk hk2 (loadGlobal_global (env := env) (mg := (cx d).mg) (hg ▸ hc.T.g.keeps S4.base) (mg_of (v := .ref 38) hc.X hc.T.g (by with_unfolding_all rfl)) ?_) (by decide +kernel)
  obtain ⟨o4, vs4, f1, f2, f3, f4, f5, f6, f7⟩ := X4.obj
  obtain ⟨hp2, g2, dr2, tk2, os2⟩ := s2
  refine wpAny_excMatches_sub_self (cls_at hc (S4.inK hc)) f1 f2 (by decide +kernel) ?_
  dsimp only
  rw [if_pos rfl]
  refine codeAny_handlers_suite_as ?_
  obtain ⟨f7, f8, f9, oT4, ts4, g1, g3, g4⟩ := f7
  refine land_exc (T' := T') ⟨o4, vs4, oT4, ts4, f1, f2, f3, f4, f5, f6, f7, f8, f9, g1, g3, (Array.getElem?_eq_some_iff.mp g4).1⟩ X4.ne X4.ns fun h5 X5 k5 => ?_
  have S5 := S4.growP (tk := tk2) (h' := h5) (P := fun b => b = T') (fun b hb => by subst hb; exact ⟨hTT, hTo⟩) fun b o hn e => .of (k5 b o e hn)
  have st5 := st4.growP (tk := tk2) (h' := h5) (P := fun b => b = T') (fun b hb => by subst hb; exact hTs) fun b o hn e => .of (k5 b o e hn)
  obtain ⟨m5, hm5, hr5⟩ := id S5.fr
  subst hL
  refine wpAny_storeName_local hk1 hm5 (fun h6 hm6 sb6 => ?_) (by rw [hk]; rfl)
  have hF6 : FrAt h6 env.locals (lset (fun _ => none) "error" (.ref x)) := ⟨_, hm6, fun y m e => by
    unfold lset at e
    split at e
    · cases e; exact ⟨.ref x, if_pos (by assumption), rfl⟩
    · cases e⟩
  have S6 := S5.locals (tk := tk2 + 1) sb6 hF6
  have st6 : Stp A env.locals H s H' _ := st5.trans (Stp.local (tk := tk2 + 1) sb6 hF6.live)
  have X6 : ExcO h6 38 x dd [("symbol", .val (.str "error" t)), ("data", m2)] (some T') := X5.keeps (fun o e => (sb6.2 x xT).trans e) (fun o e => (sb6.2 dd xD).trans e) fun t' o q e => by cases q; exact (sb6.2 T' hTo.1).trans e
  obtain ⟨o6, vs6, j1, j2, j3, j4, j5, j6, j7⟩ := X6.obj
  obtain ⟨od6, v6, i1, i2, i3⟩ := X6.ns.look (x := "symbol") (m := .val (.str "error" t)) (by rfl)
  cases i3
  refine wpAny_execs_cons (wpAny_Return_some (wpAny_Compare1 (Attribute_any_ (name_loc (S6.around (A' := A.mark (some (.ref x))) rfl) rfl hk hk1 (lset_eq _ _ _) fun u hu => ?_) (by with_unfolding_all rfl)) (by with_unfolding_all rfl)))
  cases hu
  refine exc_attr (C := 38) (od := some od6) (K := (cx d).K) (v := .str "error" t) (S6.inK hc) ⟨j1, j2, ?_, ?_⟩ (by with_unfolding_all rfl) (by with_unfolding_all rfl) (by with_unfolding_all rfl) (findObj_own (attr := none) (by with_unfolding_all rfl) (by with_unfolding_all rfl) (by rfl) i2) rfl ?_
  · unfold notCls; rw [j4]
  · rw [j3]; exact i1
  refine wpAny_Constant_str (eq_str ?_)
  refine wpAny_nameGoes hk1 hm6 (by rw [hk]; rfl) fun h7 m7 hm7 sb7 => ?_
  have S7 := (S6.toks (tk2 + 1 + 1 + 1)).locals (tk := tk2 + 1 + 1 + 1 + 1) sb7 (FrAt.ofNs hm7)
  refine hR _ _ H' S7 ?_ sub
  exact st6.trans (Stp.local (tk := tk2 + 1 + 1 + 1 + 1) sb7 (FrAt.ofNs hm7).live)
/-- _law_refused -/
theorem c_refused (hc : (cx d).Ok) {f : Addr} {qual : Str} {params : Arguments} {body : Expr} {scope : Scope} {clos : List (Str × Addr)} (hf : LamH H f qual params body scope clos) (hx : ∀ L ρ, TX (cx d) n L (call (.ref f) []) ρ H) (h : Q (.bool true) ρ H) :
    OpL (cx d) (n + 1) L (fun vs => call (.ref 262) vs) [.ref f] ρ H Q := by
  intro vs r A s hbd S
  match vs, r with
  | [v], r =>
  refine wpAny_call (enter_raw (ps := [("asked", .ref f)]) hc (by with_unfolding_all rfl) (by with_unfolding_all rfl) (binds1 fun v => by with_unfolding_all rfl) (hloc_of (by with_unfolding_all rfl)) (by rfl) (by rfl) (by rfl) (by decide +kernel) hbd.depth S r fun L' h₁ tk hL kk S1 hsub => ?_)
  obtain ⟨l, hl, _⟩ := id S.blw
  refine wpAny_execs_cons (try_refused hc (Around.frames_deeper hl) (by rfl) (by rfl) (by rfl) (by rfl) (by with_unfolding_all rfl) (by with_unfolding_all rfl) hbd.deeper S1 (tx_first (tx_expr (tx_call0 (t_local (by with_unfolding_all rfl) (by with_unfolding_all rfl) (by with_unfolding_all rfl) (by walk_at "loc") ⟨rfl, Sub.refl _, hf, hx _ _⟩ (by decide +kernel))) (by with_unfolding_all rfl) (by with_unfolding_all rfl))) fun s' ρ' H' S' st' sub => ?_)
  obtain ⟨z1, z2⟩ := S.leave kk hL S' st' (fun _ h => .inl h) hsub
  exact ⟨.bool true, ρ, H, rfl, z1.weak (fun _ _ e => e) sub, z2.weak' sub, h⟩
end
theorem hdel_ne {H : Hp} {a b : Addr} (h : b ≠ a) : hdel H a b = H b := by simp [hdel, h]
theorem hdel_some {H : Hp} {a b : Addr} {o : MObj} (h : hdel H a b = some o) : b ≠ a ∧ H b = some o := by
  unfold hdel at h
  split at h
  · cases h
  · exact ⟨by assumption, h⟩
theorem hdel_sub (H : Hp) (a : Addr) : Sub (hdel H a) H := fun b o e => (hdel_some e).2
theorem TabH.sub {H H' : Hp} {P : Addr} {pos : Pos} {q : Str} (x : TabH H P pos q) (s : Sub H H') : TabH H' P pos q := by
  obtain ⟨ps, h1, h2, h3⟩ := x
  refine ⟨ps, s _ _ h1, h2, h3.imp id fun ⟨c', oc, vs, t, g1, g2, g3, g4⟩ => ⟨c', oc, vs, t, g1, s _ _ g2, g3, g4⟩⟩
/-- what is no raw thing outlives the table's going -/
theorem hdel_raw {H : Hp} {P : Addr} {r : Obj} (hP : H P = some (.raw r)) {b : Addr} {o : MObj} (h : H b = some o) (hne : ∀ r, o ≠ .raw r) : hdel H P b = some o := (hdel_ne (ne_obj h hP (hne r))).trans h
theorem TreeAt.hdel {S : Shp} {t : TR} {tr : Addr} {order : List Int} {wd : Int → Addr} {wr : Int → WR} {H : Hp} (x : TreeAt S t tr order wd wr H) {P : Addr} {r : Obj} (hP : H P = some (.raw r)) : TreeAt S t tr order wd wr (hdel H P) :=
  ⟨hdel_raw hP x.tr (by intro _; nofun), hdel_raw hP x.dw (by intro _; nofun), fun v hv => hdel_raw hP (x.wn v hv) (by intro _; nofun), fun v hv => hdel_raw hP (x.ch v hv) (by intro _; nofun), x.ci⟩
theorem NestAt.hdel {S : Shp} {na nb : Int → Addr} {D : List Int} {H : Hp} (x : NestAt S na nb D H) {P : Addr} {r : Obj} (hP : H P = some (.raw r)) : NestAt S na nb D (hdel H P) :=
  fun v hv => ⟨hdel_raw hP (x v hv).1 (by intro _; nofun), hdel_raw hP (x v hv).2 (by intro _; nofun)⟩
theorem TabH.raw {H : Hp} {P : Addr} {pos : Pos} {q : Str} (x : TabH H P pos q) : ∃ r, H P = some (.raw r) := let ⟨_, h, _⟩ := x; ⟨_, h⟩
theorem TabH.set {H : Hp} {P a : Addr} {pos : Pos} {q : Str} {o o' : MObj} (x : TabH H P pos q) (ha : H a = some o) (hne : ∀ r, .raw r ≠ o) : TabH (hset H a o') P pos q := by
  obtain ⟨ps, h1, h2, h3⟩ := x
  refine ⟨ps, (hset_ne (ne_obj h1 ha (hne _))).trans h1, h2, h3.imp id fun ⟨c', oc, vs, t, g1, g2, g3, g4⟩ => ⟨c', oc, vs, t, g1, (hset_ne (ne_obj g2 ha (hne _))).trans g2, g3, g4⟩⟩
theorem ts_mid {c : Cx} {n : Nat} {env : Env} {L : Addr} {ρ : Loc} {H : Hp} {N : Loc → Hp → Prop} {R : MV → Loc → Hp → Prop} {st : Stmt} {rest : List Stmt} (Mid : Loc → Hp → Prop) (h : TS c n L (exec st env) ρ H Mid (fun _ _ _ => False)) (k : ∀ ρ1 H1, Mid ρ1 H1 → TS c n L (execs rest env) ρ1 H1 N R) : TS c n L (execs (st :: rest) env) ρ H N R :=
  ts_cons (h.mono fun f ρ1 H1 q => by
    cases f with
    | next => exact k ρ1 H1 q
    | ret v => obtain ⟨_, _, q⟩ := q; exact q.elim
    | brk => exact q.elim
    | cont => exact q.elim)
section
variable {d : Dt} {n : Nat} {env : Env} {L : Addr} {ρ : Loc} {H : Hp} {Q : MV → Loc → Hp → Prop}
variable {S : Shp} {t : TR} {tr : Addr} {order : List Int} {wd : Int → Addr} {wr : Int → WR} {na nb : Int → Addr}
set_option pp.deepTerms false
set_option pp.deepTerms.threshold 6
set_option maxHeartbeats 8000000 in
theorem c_isAs (hc : (cx d).Ok) (CH : CodeHd (cx d).h₀ 266 264) (hT : TabH H 264 ⟨183, 47, 183, 72⟩ "_law_is_as.<locals>.<lambda>") (g : Good0 S t tr order wd wr na nb H) (hz : order.length < 60) (h : ∀ H', Sub (hdel H 264) H' → TabH H' 264 ⟨183, 47, 183, 72⟩ "_law_is_as.<locals>.<lambda>" → Q (.bool true) ρ H') :
    OpL (cx d) (n+120) L (fun vs => call (.ref 267) vs) [.ref tr, .ref (na t.root)] ρ H Q := by
  refine f_callC2 hc (ho := by with_unfolding_all rfl) (hcd := by with_unfolding_all rfl) (x := "tree") (v := some (.ref tr)) (x' := "number") (v' := none) (ρ₁ := lset (fun _ => none) "nest" (.ref (na t.root))) (hb := ?_) (hcs := fun n => by with_unfolding_all rfl) (hne := by decide) ?_
  · intro vs hv
    match vs, hv with
    | [u, u'], ⟨hu, hu', _⟩ =>
      refine ⟨[("tree", u), ("nest", u')], by with_unfolding_all rfl, ?_, ?_, hu, trivial⟩
      · intro y hy
        rcases List.mem_cons.mp hy with rfl | hy
        · exact .inr ⟨by with_unfolding_all rfl, .inl rfl⟩
        · cases List.mem_singleton.mp hy; exact .inl (by with_unfolding_all rfl)
      · intro y m e
        unfold lset at e
        split at e
        · cases e; rename_i q; subst q; exact ⟨u', by with_unfolding_all rfl, hu'⟩
        · cases e
  · intro L' C C' hC hC' hCC
    obtain ⟨ps0, hps, _⟩ := id hT
    have hC4 : (264 : Addr) ≠ C := ne_of hps hC
    have hC4' : (264 : Addr) ≠ C' := ne_of hps hC'
    have hCd : hdel H 264 C = none := (hdel_ne (Ne.symm hC4)).trans hC
    have s0 : Sub (hset (hdel H 264) C (.cell (some (.ref tr)))) (hset (hset H C (.cell (some (.ref tr)))) C' (.cell none)) := fun b o e => by
      by_cases q : b = C
      · subst q; rw [hset_eq] at e; rw [hset_ne hCC, hset_eq]; exact e
      · rw [hset_ne q] at e
        have e' := (hdel_some e).2
        rw [hset_ne (ne_of e' hC'), hset_ne q]; exact e'
    have tab0 := (hT.sub ((Sub.refl H).hset hC)).sub ((Sub.refl (hset H C (.cell (some (.ref tr))))).hset (a := C') (o := .cell none) ((hset_ne (Ne.symm hCC)).trans hC'))
    have gC' : (hset (hset H C (.cell (some (.ref tr)))) C' (.cell none)) C' = some (.cell none) := hset_eq _ _ _
    have hsubB : Sub (hdel H 264) (hset (hdel H 264) C (.cell (some (.ref tr)))) := (Sub.refl _).hset hCd
    have TB := (g.tree.hdel hps).sub hsubB
    have NB := (g.nest.hdel hps).sub hsubB
    have gC : (hset (hdel H 264) C (.cell (some (.ref tr)))) C = some (.cell (some (.ref tr))) := hset_eq _ _ _
    have nB : (hset (hdel H 264) C (.cell (some (.ref tr)))) C' = none := (hset_ne (Ne.symm hCC)).trans ((hdel_ne (Ne.symm hC4')).trans hC')
    have n4B : (hset (hdel H 264) C (.cell (some (.ref tr)))) 264 = none := (hset_ne hC4).trans (by unfold hdel; rw [if_pos rfl])
    generalize hset (hset H C (.cell (some (.ref tr)))) C' (.cell none) = H0 at s0 tab0 gC' ⊢
    generalize hset (hdel H 264) C (.cell (some (.ref tr))) = HB at s0 hsubB TB NB gC nB n4B ⊢
    have g1 := TB.tr
    have g2 := TB.dw
    have g3 := (NB _ g.root).1
    have hall := g.all g.root
    repeat walk_at "m"
    simp only [bne_self_eq_false, Bool.false_eq_true, if_false]
    repeat walk_at "m"
    refine c_leaves hc (TB.sub s0) g.ok g.sort g.root (by omega) fun a1 ha1 => ?_
    have s1 := s0.hset (o := .list ((S.ends t.root).map .int)) (Sub.none s0 ha1)
    have t1 := (Sub.refl H0).hset (o := .list ((S.ends t.root).map .int)) ha1
    repeat walk_at "m"
    refine c_ends hc (NB.sub s1) g.ok g.root hall.1 (m := 60) (by omega) (by omega) fun a2 ha2 => ?_
    have s2 := s1.hset (o := .list ((S.ends t.root).map .int)) (Sub.none s1 ha2)
    have t2 := t1.hset (o := .list ((S.ends t.root).map .int)) (Sub.none t1 ha2)
    repeat walk_at "m"
    simp only [decide_true, Bool.not_true, Bool.false_eq_true, if_false]
    repeat walk_at "m"
    refine f_sortedD (by walk_at "get") (by rw [List.length_map]; omega) fun a3 ms ha3 hp3 ho3 => ?_
    have s3 := s2.hset (o := .list (ms.map .int)) (Sub.none s2 ha3)
    have t3 := t2.hset (o := .list (ms.map .int)) (Sub.none t2 ha3)
    repeat walk_at "m"
    refine c_all hc g.ok 60 t.root (NB.sub s3) g.root (by omega) (by omega) fun a4 ha4 => ?_
    have s4 := s3.hset (o := .list ((S.all t.root).map .int)) (Sub.none s3 ha4)
    have t4 := t3.hset (o := .list ((S.all t.root).map .int)) (Sub.none t3 ha4)
    repeat walk_at "m"
    refine f_sorted (ns := S.all t.root) (by walk_at "get") (by omega) fun a5 ms' ha5 hp5 ho5 => ?_
    have s5 := s4.hset (o := .list (ms'.map .int)) (Sub.none s4 ha5)
    have t5 := t4.hset (o := .list (ms'.map .int)) (Sub.none t4 ha5)
    have ems : ms = ms' := (hp3.trans (by rw [List.map_map]; exact (List.Perm.of_eq (by simp [Function.comp_def])).trans (g.perm.symm.trans hp5.symm))).eq_of_pairwise (fun _ _ _ _ h1 h2 => Int.le_antisymm h1 h2) ho3 ho5
    subst ems
    repeat walk_at "m"
    simp only [decide_true, Bool.not_true, Bool.false_eq_true, if_false]
    repeat walk_at "m"
    simp only [Bool.false_eq_true, if_false]
    generalize hset _ a5 _ = H5 at s5 t5 ⊢
    clear ho3 ho5 hp3 hp5 ha1 ha2 ha3 ha4 ha5 s1 s2 s3 s4 t1 t2 t3 t4
    repeat walk_at "m"
    refine ts_for ?_
    repeat walk_at "m"
    refine c_all hc g.ok 60 t.root (NB.sub s5) g.root (by omega) (by omega) fun l hl => ?_
    have hlB := Sub.none s5 hl
    have sl : Sub (hset HB l (.list ((S.all t.root).map .int))) (hset H5 l (.list ((S.all t.root).map .int))) := (s5.hset hlB).ins (hset_eq _ _ _)
    have tl := t5.hset (o := .list ((S.all t.root).map .int)) (Sub.none t5 hl)
    have tabl := tab0.sub tl
    have gCl := tl _ _ gC'
    have hlC' : l ≠ C' := Ne.symm (ne_of (t5 _ _ gC') hl)
    have sBl : Sub HB (hset HB l (.list ((S.all t.root).map .int))) := (Sub.refl _).hset hlB
    have gl : (hset HB l (.list ((S.all t.root).map .int))) l = some (.list ((S.all t.root).map .int)) := hset_eq _ _ _
    have nC' : (hset HB l (.list ((S.all t.root).map .int))) C' = none := (hset_ne (Ne.symm hlC')).trans nB
    have n4 : (hset HB l (.list ((S.all t.root).map .int))) 264 = none := (hset_ne (let ⟨_, e⟩ := (tab0.sub t5).raw; ne_of e hl)).trans n4B
    generalize hset HB l (.list ((S.all t.root).map .int)) = HL at sl sBl gl nC' n4
    generalize hset H5 l (.list ((S.all t.root).map .int)) = H6 at sl tabl gCl ⊢
    refine forL_intro (fun i ρ' H' => ρ' "nest" = some (.ref (na t.root)) ∧ Sub HL H' ∧ TabH H' 264 ⟨183, 47, 183, 72⟩ "_law_is_as.<locals>.<lambda>" ∧ ∃ v, H' C' = some (.cell v)) (sl _ _ gl) ⟨by walk_at "loc", sl, tabl, _, gCl⟩ (fun i ρ' H' I => I.2.1 _ _ gl) ?_ ?_
    · rintro i mv ρ2 H2 hi ⟨l1, s2, tab2, cv, gC2⟩
      rw [List.getElem?_map] at hi
      obtain ⟨y, hy, rfl⟩ := Option.map_eq_some_iff.mp hi
      have hym : y ∈ S.all t.root := List.mem_of_getElem? hy
      have hyo : y ∈ order := hall.1 y hym
      repeat walk_at "m"
      have tab3 := tab2.set (o' := .cell (some (.int y))) gC2 (by intro _; nofun)
      have s3 : Sub (hset HL C' (.cell (some (.int y)))) (hset H2 C' (.cell (some (.int y)))) := (s2.hset nC').ins (hset_eq _ _ _)
      have sL3 : Sub HL (hset HL C' (.cell (some (.int y)))) := (Sub.refl _).hset nC'
      have gN : (hset HL C' (.cell (some (.int y)))) C' = some (.cell (some (.int y))) := hset_eq _ _ _
      have n43 : (hset HL C' (.cell (some (.int y)))) 264 = none := (hset_ne hC4').trans n4
      generalize hset HL C' (.cell (some (.int y))) = HL3 at s3 sL3 gN n43
      generalize hset H2 C' (.cell (some (.int y))) = H3 at s3 tab3 ⊢
      have sB3 := sBl.trans sL3
      have TB3 := TB.sub sB3
      have NB3 := NB.sub sB3
      have gC3 := sB3 _ _ gC
      have gy1 := (NB3 y hyo).1
      have gy2 := (NB3 y hyo).2
      have haly := g.all hyo
      clear s2 tab2 gC2 cv H2
      refine c_find hc (NB3.sub s3) g.ok g.root hym (by omega) fun _ => ?_
      repeat walk_at "m"
      refine c_windowsUnder hc (TB3.sub s3) g.ok hyo (by omega) fun b1 hb1 => ?_
      have s4 := s3.hset (o := .list ((S.all y).map .int)) (Sub.none s3 hb1)
      repeat walk_at "m"
      refine c_all hc g.ok 60 y (NB3.sub s4) hyo (by omega) (by omega) fun b2 hb2 => ?_
      have s5' := s4.hset (o := .list ((S.all y).map .int)) (Sub.none s4 hb2)
      repeat walk_at "m"
      simp only [decide_true, Bool.not_true, Bool.false_eq_true, if_false]
      repeat walk_at "m"
      refine c_leavesUnder hc (TB3.sub s5') g.ok g.sort hyo (by omega) fun b3 hb3 => ?_
      have s6 := s5'.hset (o := .list ((S.ends y).map .int)) (Sub.none s5' hb3)
      repeat walk_at "m"
      refine c_ends hc (NB3.sub s6) g.ok hyo haly.1 (m := 60) (by omega) (by omega) fun b4 hb4 => ?_
      have s7 := s6.hset (o := .list ((S.ends y).map .int)) (Sub.none s6 hb4)
      have s7t := ((((Sub.refl H3).hset (o := .list ((S.all y).map .int)) hb1).hset (a := b2) (o := .list ((S.all y).map .int)) (Sub.none ((Sub.refl H3).hset hb1) hb2)))
      have tab7 := (((tab3.sub ((Sub.refl H3).hset (o := .list ((S.all y).map .int)) hb1)).sub ((Sub.refl _).hset (o := .list ((S.all y).map .int)) hb2)).sub ((Sub.refl _).hset (o := .list ((S.ends y).map .int)) hb3)).sub ((Sub.refl _).hset (o := .list ((S.ends y).map .int)) hb4)
      repeat walk_at "m"
      simp only [decide_true, Bool.not_true, Bool.false_eq_true, if_false]
      repeat walk_at "m"
      simp only [Bool.false_eq_true, if_false]
      generalize hset _ b4 _ = H7 at s7 tab7 ⊢
      clear s4 s5' s6 s7t hb1 hb2 hb3 hb4
      refine ts_nil ?_
      refine ts_mid (fun ρ' H' => ρ' = lset ρ2 "here" (.ref (na y)) ∧ Sub HL3 H' ∧ TabH H' 264 ⟨183, 47, 183, 72⟩ "_law_is_as.<locals>.<lambda>") ?_ ?_
      · repeat walk_at "m"
        rename_i bn hbn
        have s8 := s7.hset (o := .list []) (Sub.none s7 hbn)
        have tab8 := tab7.sub ((Sub.refl _).hset (o := .list []) hbn)
        generalize hset _ bn _ = H8 at s8 tab8 ⊢
        simp only [List.isEmpty_map]
        cases hk : (S.kids y).isEmpty with
        | true =>
          simp only [Bool.not_true, Bool.false_eq_true, if_false]
          repeat walk_at "m"
          exact ⟨rfl, s8, tab8⟩
        | false =>
          simp only [Bool.not_false, if_true]
          repeat walk_at "m"
          refine t_lambda (cc := 266) (P := 264) (clos := [("tree", C), ("number", C')]) hc (by rfl) (by with_unfolding_all rfl) (by rfl) (by rfl) CH (by with_unfolding_all exact tab8) fun f H9 tab9 kk9 hfn lam9 => ?_
          have s9 : Sub HL3 H9 := fun b o e => kk9 b o (s8 b o e) (ne_of e n43)
          have gt9 := TB3.tr
          repeat walk_at "m"
          refine c_refused hc lam9 (fun L2 ρ4 => tx_lam hc lam9 (by intros; with_unfolding_all rfl) (fun L3 c3 => ?_) (by rfl) (by rfl) (by rfl) (by decide +kernel)) ?_
          · refine tx_meth ?_ (by with_unfolding_all rfl)
            repeat walk_at "m"
            refine ⟨Sub.refl _, tx_wK hc (by kernel_rfl) ?_ (by with_unfolding_all rfl) (by with_unfolding_all rfl)⟩
            repeat walk_at "m"
            refine ⟨Sub.refl _, fun vs r => ?_⟩
            exact x_leaf hc (TB3.sub s9) hyo (fun q => by have := g.sort y hyo; rw [q, hk] at this; cases this) (vs := .ref tr :: vs) ⟨rfl, r⟩
          · simp only [Bool.not_true, Bool.false_eq_true, if_false]
            repeat walk_at "m"
            simp only [Bool.not_true, Bool.false_eq_true, if_false]
            repeat walk_at "m"
            exact ⟨rfl, s9, tab9⟩
      · rintro ρ3 H8 ⟨rfl, s8, tab8⟩
        have hkl := g.kidsLen hyo
        repeat walk_at "m"
        refine t_comp (cl := [("tree", C)]) ?_ (by with_unfolding_all rfl) (by decide +kernel) (by rfl) (by decide +kernel) (by with_unfolding_all rfl) (by intro _; with_unfolding_all rfl)
        repeat walk_at "m"
        refine compL_intro (fun i acc H9 => Sub H8 H9 ∧ acc = (upTo i)) (by walk_at "get") (by rw [List.length_map]; omega) ⟨Sub.refl _, rfl⟩ ?_ ?_ ?_
        · rintro i acc H9 ⟨sb, _⟩; exact (s8.trans sb) _ _ gy2
        · rintro Cf i mv acc H9 hi ⟨sb, hacc⟩
          rw [List.getElem?_map] at hi
          obtain ⟨z, hz', rfl⟩ := Option.map_eq_some_iff.mp hi
          have hzk : z ∈ S.kids y := List.mem_of_getElem? hz'
          have hzo : z ∈ order := (g.ok y hyo).2 z hzk
          have s9 := s8.trans sb
          have gz := (NB3 z hzo).1
          repeat walk_at "m"
          simp only [if_true]
          repeat walk_at "m"
          refine c_indexInParent hc (TB3.sub s9) hzo hyo (g.par y hyo z hzk) hzk (by omega) ?_
          refine ⟨by walk_at "sub", ?_⟩
          have hnd := (g.ok.kidsNodup g.root hall.2.2 hym).1
          have hix : (S.kids y).idxOf z = i := by
            obtain ⟨hi1, hi2⟩ := List.getElem?_eq_some_iff.mp hz'
            rw [← hi2]; exact hnd.idxOf_getElem i hi1
          rw [hacc, hix]
          unfold upTo
          rw [List.range_succ, List.map_append]; rfl
        · rintro acc H9 ⟨sb, hacc⟩ D hD
          rw [List.length_map] at hacc
          subst hacc
          have s9 := s8.trans sb
          have tab9 := tab8.sub sb
          have s10 := s9.hset (o := .list (upTo (S.kids y).length)) (Sub.none s9 hD)
          have tab10 := tab9.sub ((Sub.refl _).hset (o := .list (upTo (S.kids y).length)) hD)
          have eup : upTo (S.kids y).length = ((List.range (S.kids y).length).map fun i => ((i : Nat) : Int)).map .int := by unfold upTo; rw [List.map_map]; rfl
          repeat walk_at "m"
          rw [List.length_map]
          refine f_range fun r1 hr1 => ?_
          have s11 := s10.hset (o := .range (S.kids y).length) (Sub.none s10 hr1)
          have tab11 := tab10.sub ((Sub.refl _).hset (o := .range (S.kids y).length) hr1)
          repeat walk_at "m"
          refine f_listRange (k := (S.kids y).length) (hset_eq _ _ _) (by omega) fun r2 hr2 => ?_
          have s12 := s11.hset (o := .list (upTo (S.kids y).length)) (Sub.none s11 hr2)
          have tab12 := tab11.sub ((Sub.refl _).hset (o := .list (upTo (S.kids y).length)) hr2)
          refine c_neL (ns := (List.range (S.kids y).length).map fun i => ((i : Nat) : Int)) (ms := (List.range (S.kids y).length).map fun i => ((i : Nat) : Int)) (by rw [← eup]; walk_at "get") (by rw [← eup]; walk_at "get") ?_
          simp only [decide_true, Bool.not_true]
          repeat walk_at "m"
          simp only [Bool.false_eq_true, if_false]
          repeat walk_at "m"
          exact ⟨l1, sL3.trans s12, tab12, _, s12 _ _ gN⟩
    · rintro ρ2 H2 ⟨l1, s2, tab2, cv, gC2⟩
      repeat walk_at "m"
      exact ⟨H2, Sub.refl _, h H2 (hsubB.trans (sBl.trans s2)) tab2⟩
end
section
variable {c : Cx} {n : Nat} {env : Env} {L : Addr} {ρ : Loc} {H : Hp} {Q : MV → Loc → Hp → Prop}
/-- [a for a, b in zip(l1, l2) if a >= b] where no pair is such -/
theorem t_zipNone (hc : c.Ok) {a b : Str} {pe pa pb pc1 pc2 pcc tp p pz pos : Pos} {kk : Nat} {e1 e2 : Expr} {scope : Scope}
    (h : TL c n L (spliced (backTo pz (starEach [e1, e2] env))) ρ H fun as ρ1 H1 => ∃ (l1 l2 : Addr) (ns ms : List Int), as = [.ref l1, .ref l2] ∧ H1 l1 = some (.list (ns.map .int)) ∧ H1 l2 = some (.list (ms.map .int)) ∧
      (∀ (i : Nat) x y, ns[i]? = some x → ms[i]? = some y → x < y) ∧ ∀ D, H1 D = none → Q (.ref D) ρ1 (hset H1 D (.list [])))
    (hk : env.scope.kind = .function) (hxz : env.kindOf "zip" = some .globalImplicit) (hg : env.globals = mainGlobals) (hbt : env.builtins = builtinsNs) (ez : nsIn c.K mainGlobals "zip" = some none) (hvz : bootBuiltins "zip" = some (.type "zip"))
    (hclos : closureFor scope env = pure []) (hcell : ∀ y ∈ scope.names, y.2 ≠ .cell) (hkind : scope.kind = .function) (hnames : ∀ y ∈ scope.names, y.2 = .local → scope.names.lookup y.1 = some .local) (hxa : scope.names.lookup a = some .local) (hxb : scope.names.lookup b = some .local) (hab : a ≠ b)
    (hda : (a == ("__debug__" : Str)) = false) (hdb : (b == ("__debug__" : Str)) = false)
    (hs : ∀ x, foldedSetIterable (.Call (.Name "zip" p) [e1, e2] [] pz) env x = pure x := by intro _; rfl)
    (he0 : eval (.Call (.Name "zip" p) [e1, e2] [] pz) env = (do callWith pz (← eval (.Name "zip" p) env) [] (backTo pz (starEach [e1, e2] env)) (backToKw pz (keywordEach [] env))) := by rfl)
    (he : starEach [e1, e2] env = (false, eval e1 env) :: starEach [e2] env := by rfl) (hplain : (backTo pz (starEach [e2] env)).any (·.1) = false := by rfl) :
    TV c n L (eval (.ListComp (.Name a pe) [⟨.Tuple [.Name a pa, .Name b pb] kk tp, .Call (.Name "zip" p) [e1, e2] [] pz, [.Compare (.Name a pc1) [.GtE] [.Name b pc2] pcc], 0⟩] scope pos) env) ρ H Q := fun A s hb S => by
  rw [eval_ListComp]
  refine wpAny_comprehension_free (use := none) rfl hs hclos hkind hnames (Call_ ((t_builtin (Q := fun m ρ1 H1 => m = .val (.type "zip") ∧ ρ = ρ1 ∧ H = H1) hc hk hxz hg hbt ez hvz (by decide) ⟨rfl, rfl, rfl⟩).then hb S fun vf m ρ0 H0 s0 rf S0 st0 hq => ?_) he0)
  obtain ⟨rfl, rfl, rfl⟩ := hq
  cases rf
  refine callWith_type1 (h.then hb S0 fun vs as ρ1 H1 s1 rs S1 st1 hq => ?_) he hplain
  obtain ⟨l1, l2, ns, ms, rfl, hl1, hl2, hlt, hend⟩ := hq
  match vs, rs with
  | [_, _], ⟨rfl, rfl, _⟩ =>
  obtain ⟨us, q1, g1, g2, g3⟩ := S1.list hl1
  obtain ⟨ws, q2, f1, f2, f3⟩ := S1.list hl2
  have S01 := st0.trans st1
  refine call_zip_2 g1.isList f1.isList fun h' hz hTI hTO hi1 hi2 hsz kk0 => ?_
  have D := zipApart_new (Heap.lt_size g1) (Heap.lt_size f1)
  have lo : ∀ b o, s1.heap.get? b = some o → b < s1.heap.objs.size := fun b o e => Heap.lt_size e
  have st0 : IsZip h' (s1.heap.objs.size + 4) (s1.heap.objs.size + 2) (s1.heap.objs.size + 3) .none ∧ IsPair h' (s1.heap.objs.size + 2) (.ref s1.heap.objs.size) (.ref (s1.heap.objs.size + 1)) ∧ (∃ a b, IsPair h' (s1.heap.objs.size + 3) a b) ∧ h'.IsListIter s1.heap.objs.size l1 0 ∧ h'.IsListIter (s1.heap.objs.size + 1) l2 0 ∧ h'.IsList l1 us ∧ h'.IsList l2 ws :=
    ⟨hz, hTI, ⟨_, _, hTO⟩, hi1, hi2, Heap.IsList.at g1.isList (fun o e => kk0 _ o e), Heap.IsList.at f1.isList (fun o e => kk0 _ o e)⟩
  have hwr0 : ∀ b o, s1.heap.get? b = some o → b ∉ [s1.heap.objs.size + 4, s1.heap.objs.size + 3, s1.heap.objs.size, s1.heap.objs.size + 1] := fun b o e hm => by
    have := lo b o e
    simp only [List.mem_cons, List.not_mem_nil, or_false] at hm
    rcases hm with rfl | rfl | rfl | rfl
    · exact nl_add _ 4 this
    · exact nl_add _ 3 this
    · exact Nat.lt_irrefl _ this
    · exact nl_add _ 1 this
  have W := WalksT.zip2 (prog := c.prog) (w := c.w) (A := A) hb.1 (s1.heap.objs.size + 4) (s1.heap.objs.size + 2) (s1.heap.objs.size + 3) s1.heap.objs.size (s1.heap.objs.size + 1) l1 l2 D us ws
  have hfp0 : ∀ b ∈ [s1.heap.objs.size + 4, s1.heap.objs.size + 2, s1.heap.objs.size + 3, s1.heap.objs.size, s1.heap.objs.size + 1, l1, l2], b < h'.objs.size := fun b hm => by
    have e1 := Heap.lt_size g1
    have e2 := Heap.lt_size f1
    rw [hsz]
    simp only [List.mem_cons, List.not_mem_nil, or_false] at hm
    rcases hm with rfl | rfl | rfl | rfl | rfl | rfl | rfl
    · exact Nat.add_lt_add_left (by decide) _
    · exact Nat.add_lt_add_left (by decide) _
    · exact Nat.add_lt_add_left (by decide) _
    · exact Nat.lt_add_of_pos_right (by decide)
    · exact Nat.add_lt_add_left (by decide) _
    · exact Nat.lt_of_lt_of_le e1 (Nat.le_add_right _ _)
    · exact Nat.lt_of_lt_of_le e2 (Nat.le_add_right _ _)
  have hsz' : s1.heap.objs.size ≤ h'.objs.size := by rw [hsz]; exact Nat.le_add_right _ _
  clear hz hTI hTO hi1 hi2 hsz
  generalize s1.heap.objs.size + 4 = z at D st0 hwr0 W hfp0 ⊢
  generalize s1.heap.objs.size + 3 = TO at D st0 hwr0 W hfp0 ⊢
  generalize s1.heap.objs.size + 2 = TI at D st0 W hfp0 ⊢
  generalize s1.heap.objs.size + 1 = i2 at D st0 hwr0 W hfp0 ⊢
  generalize hi1 : s1.heap.objs.size = i1 at D st0 hwr0 W hfp0 hsz' ⊢
  have hwrfp : ∀ b ∈ [z, TO, i1, i2], b ∈ [z, TI, TO, i1, i2, l1, l2] := W.sub
  refine W.self 0 _ _ _ st0 (wpAny_newObj_type (wpAny_newFunctionEnv hcell (by intro y hy; simp at hy) (fun h₁ hns₁ hsb₁ => ?_) hkind))
  dsimp only at hns₁ hsb₁ ⊢
  have kk1 : ∀ b o, h'.get? b = some o → h₁.get? b = some o := fun b o e => hsb₁.extBut b o (Nat.ne_of_lt (Nat.lt_of_lt_of_le (Heap.lt_size e) (by rw [Heap.size_push]; exact Nat.le_succ _))) (Heap.get?_push_of_some _ (Heap.get?_push_of_some _ e))
  have hD1 : IsL h₁ h'.objs.size #[] 0 := hsb₁.extBut _ _ (by rw [Heap.size_push]; exact Nat.ne_of_lt (Nat.lt_succ_self _)) (Heap.get?_push_of_some _ (Heap.get?_push_size _ rfl))
  have hDC : h'.objs.size ≠ (h'.push { cls := .type "list", data := .seq #[] }).objs.size := by rw [Heap.size_push]; exact Nat.ne_of_lt (Nat.lt_succ_self _)
  have hfpD : ∀ b ∈ [z, TI, TO, i1, i2, l1, l2], b ≠ h'.objs.size := fun b hm => Nat.ne_of_lt (hfp0 b hm)
  have hfpC : ∀ b ∈ [z, TI, TO, i1, i2, l1, l2], b ≠ (h'.push { cls := .type "list", data := .seq #[] }).objs.size := fun b hm => Nat.ne_of_lt (by rw [Heap.size_push]; exact Nat.lt_succ_of_lt (hfp0 b hm))
  have hCs : s1.heap.objs.size ≤ (h'.push { cls := .type "list", data := .seq #[] }).objs.size := by rw [Heap.size_push, hi1]; exact Nat.le_succ_of_le hsz'
  have kkC : ∀ b o, s1.heap.get? b = some o → b ≠ (h'.push { cls := .type "list", data := .seq #[] }).objs.size := fun b o e q => by have := lo b o e; rw [q] at this; exact absurd hCs (Nat.not_le.mpr this)
  generalize hDA : h'.objs.size = DA at hD1 hDC hfpD ⊢
  generalize (h'.push { cls := .type "list", data := .seq #[] }).objs.size = C at hDC hfpC hCs kkC hns₁ ⊢
  have st1' := W.frame 0 h' h₁ st0 fun b _ o e => kk1 b o e
  have loop : ∀ tk1, codeAny (model c.prog c.w) A (.compLoop (.ListComp (.Name a pe) [⟨.Tuple [.Name a pa, .Name b pb] kk tp, .Call (.Name "zip" p) [e1, e2] [] pz, [.Compare (.Name a pc1) [.GtE] [.Name b pc2] pcc], 0⟩] scope pos) 0 (.ref z) (.ref DA) (compEnvC scope [] C env))
      (compPost (model c.prog c.w) A (fun _ _ => False) none (fun v s' => ∃ b ρ' H', Rep b v ∧ Sat c A L ρ' H' s' ∧ Stp A L H s H' s' ∧ Q b ρ' H') (.ref DA) C) { s1 with heap := h₁, toks := tk1 } := by
    intro tk1
    refine kct_loop (fun k s' => ∃ i hh tk m, s' = { s1 with heap := hh, toks := tk } ∧ k = min us.size ws.size - i ∧ i ≤ min us.size ws.size ∧
      (IsZip hh z TI TO .none ∧ IsPair hh TI (.ref i1) (.ref i2) ∧ (∃ a b, IsPair hh TO a b) ∧ hh.IsListIter i1 l1 i ∧ hh.IsListIter i2 l2 i ∧ hh.IsList l1 us ∧ hh.IsList l2 ws) ∧
      (∀ b o, s1.heap.get? b = some o → hh.get? b = some o) ∧ IsL hh DA #[] 0 ∧ hh.Ns C m) ?_ (min us.size ws.size) ⟨0, h₁, _, _, rfl, rfl, Nat.zero_le _, st1', fun b o e => kk1 b o (kk0 b o e), hD1, hns₁⟩
    · rintro k s' ⟨i, hh, tk, m, rfl, rfl, hi, st, kk2, hD2, hn2⟩
      by_cases hlt' : i < min us.size ws.size
      · refine W.item i _ _ _ hlt' st fun T vals h2 tk2 hP hT hTup hMid hk2 => ?_
        refine W.go _ _ _ i T _ _ _ hMid fun h3 st3 hk3 => ?_
        obtain ⟨x, y, hx, hy, rfl⟩ := hP
        have hTw := W.apart i T h2 hMid
        have hCw : C ∉ [z, TO, i1, i2] := fun hm => hfpC C (hwrfp C hm) rfl
        have hDw : DA ∉ [z, TO, i1, i2] := fun hm => hfpD DA (hwrfp DA hm) rfl
        have hTup3 : h3.IsTuple T #[x, y] := let ⟨o, e, r⟩ := hTup; ⟨o, hk3 T o hTw e, r⟩
        have hn3 : h3.Ns C m := (hn2.at' fun o e => hk2 C o hCw e).at' fun o e => hk3 C o hCw e
        refine kcp_assign (env := compEnvC scope [] C env) hb.1 hTup3 (lookup_relabel_local hxa) (lookup_relabel_local hxb) (by simp [compEnvC, relabel, hkind]) hn3 fun h4 tk4 hn4 hs4 => ?_
        have st4 := W.frame (i + 1) h3 h4 st3 fun b hm o e => hs4 b o (hfpC b hm) e
        obtain ⟨ix, hix, rx⟩ : ∃ ix, ns[i]? = some ix ∧ ∃ t, x = .int ix t := by
          obtain ⟨hi1, _⟩ := Array.getElem?_eq_some_iff.mp hx
          have hi2 : i < ns.length := by rw [g3, List.length_map] at hi1; exact hi1
          obtain ⟨v, hv, r⟩ := g2.get (i := i) (m := .int ns[i]) (by rw [List.getElem?_map, List.getElem?_eq_getElem hi2]; rfl)
          rw [Array.getElem?_toList, hx] at hv
          cases hv
          exact ⟨_, List.getElem?_eq_getElem hi2, r⟩
        obtain ⟨iy, hiy, ry⟩ : ∃ iy, ms[i]? = some iy ∧ ∃ t, y = .int iy t := by
          obtain ⟨hi1, _⟩ := Array.getElem?_eq_some_iff.mp hy
          have hi2 : i < ms.length := by rw [f3, List.length_map] at hi1; exact hi1
          obtain ⟨v, hv, r⟩ := f2.get (i := i) (m := .int ms[i]) (by rw [List.getElem?_map, List.getElem?_eq_getElem hi2]; rfl)
          rw [Array.getElem?_toList, hy] at hv
          cases hv
          exact ⟨_, List.getElem?_eq_getElem hi2, r⟩
        obtain ⟨tx, rfl⟩ := rx
        obtain ⟨ty, rfl⟩ := ry
        have hxy := hlt i ix iy hix hiy
        refine wpAny_isTrue_Compare1 (wpAny_Name (wpAny_loadName_local (env := compEnvC scope [] C env) (v := .int ix tx) (by simp [compEnvC, relabel, hkind]) (lookup_relabel_local hxa) hn4 (by simp [hab]) ?_) hda)
        refine wpAny_Name (wpAny_loadName_local (env := compEnvC scope [] C env) (v := .int iy ty) (by simp [compEnvC, relabel, hkind]) (lookup_relabel_local hxb) hn4 (by simp) ?_) hdb
        refine PyProof.Rows.ge_int (wpAny_truthy_bool ?_)
        rw [decide_eq_false (by omega)]
        simp only [Bool.false_eq_true, if_false]
        refine ⟨min us.size ws.size - (i + 1), by omega, i + 1, h4, tk4, _, rfl, rfl, hlt', st4, fun b o e => hs4 b o (kkC b o e) (hk3 b o (hwr0 b o e) (hk2 b o (hwr0 b o e) (kk2 b o e))), hs4 DA _ hDC (hk3 DA _ hDw (hk2 DA _ hDw hD2)), hn4⟩
      · have hi' : i = min us.size ws.size := by omega
        subst hi'
        refine W.done _ _ _ st fun h2 tk2 hk2 => ?_
        have hCw : C ∉ [z, TO, i1, i2] := fun hm => hfpC C (hwrfp C hm) rfl
        have hDw : DA ∉ [z, TO, i1, i2] := fun hm => hfpD DA (hwrfp DA hm) rfl
        refine ⟨m, hn2.at' fun o e => hk2 C o hCw e, fun h'' hsb => ?_⟩
        have kf : ∀ b o, s1.heap.get? b = some o → h''.get? b = some o := fun b o e => hsb.extBut b o (kkC b o e) (hk2 b o (hwr0 b o e) (kk2 b o e))
        have hDf : IsL h'' DA #[] 0 := hsb.extBut DA _ hDC (hk2 DA _ hDw hD2)
        have ha : ∀ b, InFp DA (.list []) b → s1.heap.objs.size ≤ b := fun b hb => hb.elim (fun e => by rw [e, hi1, ← hDA]; exact hsz') fun e => e.elim
        have hDn : H1 DA = none := S1.fresh (by rw [hi1, ← hDA]; exact hsz')
        exact ⟨.ref DA, ρ1, _, rfl, S1.alloc (tk := tk2) kf ha ⟨#[], 0, hDf, trivial⟩, S01.trans (Stp.alloc (tk := tk2) kf ha (by rw [hi1]; exact Nat.le_trans (hDA ▸ hsz') (Nat.le_of_lt (Heap.lt_size hDf)))), hend DA hDn⟩
  exact codeAny_compStart_list (loop _) (W.self 0 _ _ _ st1' (loop _))
end
/-- a step that knows a part of the table only -/
theorem TE.rest {c : Cx} {n : Nat} {L : Addr} {ρ : Loc} {H Hg : Hp} {α β : Type} {rep : β → α → Prop} {t : Sem α} {P : β → Loc → Hp → Prop} (h : TE c n L rep t ρ Hg P) (sub : Sub Hg H) :
    TE c n L rep t ρ H (fun b ρ' H' => ∃ Hg', Sub Hg' H' ∧ P b ρ' Hg' ∧ ∀ a o, H a = some o → Hg a = none → H' a = some o ∧ Hg' a = none) := by
  have e : hadd Hg (fun a => match Hg a with | some _ => none | none => H a) = H := by
    funext a
    unfold hadd
    cases q : Hg a with
    | none => simp [q]
    | some o => simp [sub a o q]
  have hd : ∀ a o, (fun a => match Hg a with | some _ => none | none => H a) a = some o → Hg a = none := fun a o q => by
    dsimp only at q
    cases z : Hg a with
    | none => rfl
    | some o' => rw [z] at q; cases q
  have := h.frame (fun a => match Hg a with | some _ => none | none => H a) hd
  rw [e] at this
  refine this.mono fun b ρ' H' ⟨Hg', e', hd', q⟩ => ⟨Hg', fun a o z => by rw [e']; exact hadd_l z, q, fun a o h1 h2 => ?_⟩
  have z : (fun a => match Hg a with | some _ => none | none => H a) a = some o := by dsimp only; rw [h2]; exact h1
  exact ⟨by rw [e', hadd_r (hd' a o z)]; exact z, hd' a o z⟩
def Nice (o : MObj) : Prop := (∀ r, o ≠ .raw r) ∧ ∀ v, o ≠ .cell v
def clean (H : Hp) : Hp := fun a => match H a with
  | some (.raw _) => none
  | some (.cell _) => none
  | o => o
theorem clean_some {H : Hp} {a : Addr} {o : MObj} (h : clean H a = some o) : H a = some o ∧ Nice o := by
  unfold clean at h
  cases q : H a with
  | none => rw [q] at h; cases h
  | some o' =>
    rw [q] at h
    cases o' <;> first | (cases h; done) | (cases h; exact ⟨rfl, by intro _; nofun, by intro _; nofun⟩)
theorem clean_of {H : Hp} {a : Addr} {o : MObj} (h : H a = some o) (hn : Nice o) : clean H a = some o := by
  unfold clean
  rw [h]
  cases o <;> first | rfl | exact absurd rfl (hn.1 _) | exact absurd rfl (hn.2 _)
theorem clean_none {H : Hp} {a : Addr} (h : H a = none) : clean H a = none := by unfold clean; rw [h]
theorem clean_sub (H : Hp) : Sub (clean H) H := fun a o h => (clean_some h).1
theorem nice_list {xs : List MV} : Nice (.list xs) := ⟨by intro _; nofun, by intro _; nofun⟩
theorem nice_inst {C : Addr} {fs : List (Str × MV)} : Nice (.inst C fs) := ⟨by intro _; nofun, by intro _; nofun⟩
theorem nice_dict {es : List (Int × MV)} : Nice (.dict es) := ⟨by intro _; nofun, by intro _; nofun⟩
section
variable {S : Shp} {t : TR} {tr : Addr} {order : List Int} {wd : Int → Addr} {wr : Int → WR} {na nb : Int → Addr} {H : Hp} {dk cs : Addr} {cells : List Int} {k : Int}
theorem Good0.re {H' : Hp} (g : Good0 S t tr order wd wr na nb H) (s : ∀ a o, H a = some o → Nice o → H' a = some o) : Good0 S t tr order wd wr na nb H' :=
  ⟨⟨s _ _ g.tree.tr nice_inst, s _ _ g.tree.dw nice_dict, fun v hv => s _ _ (g.tree.wn v hv) nice_inst, fun v hv => s _ _ (g.tree.ch v hv) nice_list, g.tree.ci⟩, fun v hv => ⟨s _ _ (g.nest v hv).1 nice_list, s _ _ (g.nest v hv).2 nice_list⟩, g.ok, g.root, g.perm, g.nd, g.sort, g.par, g.small⟩
theorem Good0.sub {H' : Hp} (g : Good0 S t tr order wd wr na nb H) (s : Sub H H') : Good0 S t tr order wd wr na nb H' := g.re fun a o e _ => s a o e
theorem Deck.re {H' : Hp} (g : Deck dk cs cells k order wr H) (s : ∀ a o, H a = some o → Nice o → H' a = some o) : Deck dk cs cells k order wr H' := ⟨s _ _ g.at1 nice_list, s _ _ g.at2 nice_list, g.sep⟩
end
abbrev posA : Pos := ⟨183, 47, 183, 72⟩
abbrev qualA : Str := "_law_is_as.<locals>.<lambda>"
abbrev posB : Pos := ⟨216, 28, 216, 55⟩
abbrev qualB : Str := "law.<locals>.<lambda>"
theorem triples_str {ps : List Value} {x : Str} {t : Tok} (h : TriplesOk ps) : ps[1]? ≠ some (.str x t) := by
  match ps, h with
  | [], _ => simp
  | .int _ _ :: .int _ _ :: _ :: rest, _ => simp
theorem TabH.code {H : Hp} {P P' : Addr} {pos pos' : Pos} {q q' : Str} (x : TabH H P pos q) (x' : TabH H P' pos' q') {c' : Addr} {oc : Obj} {vs : Array Value} {t : Tok} (hc : H c' = some (.raw oc)) (hd : oc.data = .fields vs) (hv : vs[1]? = some (.str q t)) : c' ≠ P' := fun e => by
  obtain ⟨ps, h1, h2, _⟩ := x'
  subst e
  rw [h1] at hc
  cases hc
  cases hd
  rw [← Array.getElem?_toList] at hv
  exact triples_str h2 hv
/-- a table outlives what another table's growth does -/
theorem TabH.other {H H' : Hp} {P P' : Addr} {pos pos' : Pos} {q q' : Str} (x : TabH H P pos q) (x' : TabH H P' pos' q') (hne : P ≠ P') (k : ∀ b o, H b = some o → b ≠ P' → H' b = some o) : TabH H' P pos q := by
  obtain ⟨ps, h1, h2, h3⟩ := id x
  exact ⟨ps, k _ _ h1 hne, h2, h3.imp id fun ⟨c', oc, vs, t, g1, g2, g3, g4⟩ => ⟨c', oc, vs, t, g1, k _ _ g2 (x.code x' g2 g3 g4), g3, g4⟩⟩

/-- what stands beside the tree in law's frame -/
structure Rest (H Hg : Hp) (ba Ct Cn tr : Addr) (bs : List Int) : Prop where
  sub : Sub Hg H
  cln : ∀ a o, Hg a = some o → Nice o
  bl : H ba = some (.list (bs.map .int))
  nbl : Hg ba = none
  ct : H Ct = some (.cell (some (.ref tr)))
  cn : ∃ v, H Cn = some (.cell v)
  ne : Ct ≠ Cn
  t8 : TabH H 264 posA qualA
  t9 : TabH H 269 posB qualB
section
variable {H Hg H' Hg' : Hp} {bl Ct Cn tr : Addr} {bs : List Int}
theorem Rest.ext (R : Rest H Hg bl Ct Cn tr bs) (s : Sub H H') : Rest H' Hg bl Ct Cn tr bs :=
  ⟨R.sub.trans s, R.cln, s _ _ R.bl, R.nbl, s _ _ R.ct, let ⟨v, e⟩ := R.cn; ⟨v, s _ _ e⟩, R.ne, R.t8.sub s, R.t9.sub s⟩
theorem Rest.set (R : Rest H Hg bl Ct Cn tr bs) {a : Addr} {o o' : MObj} (ha : Hg a = some o) (hn : Nice o') : Rest (hset H a o') (hset Hg a o') bl Ct Cn tr bs := by
  have hH := R.sub a o ha
  have hno := R.cln a o ha
  refine ⟨fun b ob e => ?_, fun b ob e => ?_, (hset_ne fun q => ?_).trans R.bl, (hset_ne fun q => ?_).trans R.nbl, (hset_ne (ne_obj R.ct hH (Ne.symm (hno.2 _)))).trans R.ct, let ⟨v, e⟩ := R.cn; ⟨v, (hset_ne (ne_obj e hH (Ne.symm (hno.2 _)))).trans e⟩, R.ne, R.t8.set hH fun r => Ne.symm (hno.1 r), R.t9.set hH fun r => Ne.symm (hno.1 r)⟩
  · by_cases q : b = a
    · subst q; rw [hset_eq] at e ⊢; exact e
    · rw [hset_ne q] at e ⊢; exact R.sub b ob e
  · by_cases q : b = a
    · subst q; rw [hset_eq] at e; cases e; exact hn
    · rw [hset_ne q] at e; exact R.cln b ob e
  · rw [← q, R.nbl] at ha; cases ha
  · rw [← q, R.nbl] at ha; cases ha
theorem Rest.frame (R : Rest H Hg bl Ct Cn tr bs) (s : Sub Hg' H') (k : ∀ a o, H a = some o → Hg a = none → H' a = some o ∧ Hg' a = none) : Rest H' (clean Hg') bl Ct Cn tr bs := by
  have kn : ∀ a o, H a = some o → ¬ Nice o → H' a = some o := fun a o e hn => (k a o e (by
    cases q : Hg a with
    | none => rfl
    | some o' => have := R.sub a o' q; rw [e] at this; cases this; exact absurd (R.cln a o q) hn)).1
  have tab : ∀ {P pos q}, TabH H P pos q → TabH H' P pos q := fun ⟨ps, h1, h2, h3⟩ => ⟨ps, kn _ _ h1 fun q => q.1 _ rfl, h2, h3.imp id fun ⟨c', oc, vs, t, g1, g2, g3, g4⟩ => ⟨c', oc, vs, t, g1, kn _ _ g2 fun q => q.1 _ rfl, g3, g4⟩⟩
  exact ⟨(clean_sub Hg').trans s, fun a o e => (clean_some e).2, (k _ _ R.bl R.nbl).1, clean_none (k _ _ R.bl R.nbl).2, kn _ _ R.ct fun q => q.2 _ rfl, let ⟨v, e⟩ := R.cn; ⟨v, kn _ _ e fun q => q.2 _ rfl⟩, R.ne, tab R.t8, tab R.t9⟩
theorem Rest.beat (R : Rest H Hg bl Ct Cn tr bs) (x : Int) : Rest (hset H bl (.list ((bs ++ [x]).map .int))) Hg bl Ct Cn tr (bs ++ [x]) :=
  ⟨fun b o e => (hset_ne fun q => by rw [q, R.nbl] at e; cases e).trans (R.sub b o e), R.cln, hset_eq _ _ _, R.nbl, (hset_ne (ne_obj R.ct R.bl (by nofun))).trans R.ct, let ⟨v, e⟩ := R.cn; ⟨v, (hset_ne (ne_obj e R.bl (by nofun))).trans e⟩, R.ne, R.t8.set R.bl (by intro _; nofun), R.t9.set R.bl (by intro _; nofun)⟩
theorem Rest.num (R : Rest H Hg bl Ct Cn tr bs) (v : Option MV) : Rest (hset H Cn (.cell v)) Hg bl Ct Cn tr bs := by
  obtain ⟨v0, e0⟩ := R.cn
  exact ⟨fun b o e => (hset_ne fun q => by rw [q] at e; have := R.sub _ _ e; rw [e0] at this; cases this; exact (R.cln _ _ e).2 _ rfl).trans (R.sub b o e), R.cln, (hset_ne (ne_obj R.bl e0 (by nofun))).trans R.bl, R.nbl, (hset_ne R.ne).trans R.ct, ⟨v, hset_eq _ _ _⟩, R.ne, R.t8.set e0 (by intro _; nofun), R.t9.set e0 (by intro _; nofun)⟩
theorem Rest.at8 (R : Rest H Hg bl Ct Cn tr bs) (k : ∀ b o, H b = some o → b ≠ 264 → H' b = some o) (t8 : TabH H' 264 posA qualA) : Rest H' Hg bl Ct Cn tr bs := by
  obtain ⟨r, hr⟩ := R.t8.raw
  have kk : ∀ a o, H a = some o → (∀ r, o ≠ .raw r) → H' a = some o := fun a o e hn => k a o e (ne_obj e hr (hn r))
  exact ⟨fun b o e => kk _ _ (R.sub b o e) (R.cln b o e).1, R.cln, kk _ _ R.bl nice_list.1, R.nbl, kk _ _ R.ct (by intro _; nofun), let ⟨v, e⟩ := R.cn; ⟨v, kk _ _ e (by intro _; nofun)⟩, R.ne, t8, R.t9.other R.t8 (by decide) k⟩
theorem Rest.at9 (R : Rest H Hg bl Ct Cn tr bs) (k : ∀ b o, H b = some o → b ≠ 269 → H' b = some o) (t9 : TabH H' 269 posB qualB) : Rest H' Hg bl Ct Cn tr bs := by
  obtain ⟨r, hr⟩ := R.t9.raw
  have kk : ∀ a o, H a = some o → (∀ r, o ≠ .raw r) → H' a = some o := fun a o e hn => k a o e (ne_obj e hr (hn r))
  exact ⟨fun b o e => kk _ _ (R.sub b o e) (R.cln b o e).1, R.cln, kk _ _ R.bl nice_list.1, R.nbl, kk _ _ R.ct (by intro _; nofun), let ⟨v, e⟩ := R.cn; ⟨v, kk _ _ e (by intro _; nofun)⟩, R.ne, R.t8.other R.t9 (by decide) k, t9⟩
end
section
variable {d : Dt} {n : Nat} {L : Addr} {ρ : Loc} {H Hg : Hp} {Q : MV → Loc → Hp → Prop}
variable {S : Shp} {t : TR} {tr : Addr} {order : List Int} {wd : Int → Addr} {wr : Int → WR} {na nb : Int → Addr} {dk cs : Addr} {cells : List Int} {k : Int} {bl Ct Cn : Addr} {bs : List Int}
theorem Good0.draw (g : Good0 S t tr order wd wr na nb Hg) (dck : Deck dk cs cells k order wr Hg) (k' : Int) : Good0 S t tr order wd wr na nb (hset Hg dk (.list [.ref cs, .int k'])) ∧ Deck dk cs cells k' order wr (hset Hg dk (.list [.ref cs, .int k'])) :=
  ⟨⟨g.tree.turn dck.at1 (by intro _ _; nofun) (by intro _; nofun) deck_ne1, g.nest.turn dck.at1 deck_ne3 deck_ne2, g.ok, g.root, g.perm, g.nd, g.sort, g.par, g.small⟩, ⟨hset_eq _ _ _, (hset_ne (ne_obj dck.at2 dck.at1 (deck_ne1 _))).trans dck.at2, dck.sep⟩⟩
/-- a draw in law's frame -/
theorem c_drawR (hc : (cx d).Ok) (R : Rest H Hg bl Ct Cn tr bs) (g : Good0 S t tr order wd wr na nb Hg) (dck : Deck dk cs cells k order wr Hg) (hk : 0 ≤ k ∧ k ≤ 1000) (hz : cells.length ≤ 1000) {many : Int} (hm : 0 < many)
    (h : ∀ r H' Hg', 0 ≤ r → r < many → Rest H' Hg' bl Ct Cn tr bs → Good0 S t tr order wd wr na nb Hg' → Deck dk cs cells (k + 1) order wr Hg' → (∀ a xs, a ≠ dk → H a = some (.list xs) → H' a = some (.list xs)) → Q (.int r) ρ H') : OpL (cx d) (n+1) L (fun vs => call (.ref 231) vs) [.ref dk, .int many] ρ H Q :=
  c_draw hc (R.sub _ _ dck.at1) (R.sub _ _ dck.at2) hk hz hm fun r p1 p2 => h r _ _ p1 p2 (R.set dck.at1 nice_list) (g.draw dck _).1 (g.draw dck _).2 fun a xs hne e => (hset_ne hne).trans e
theorem c_grownR (hc : (cx d).Ok) (R : Rest H Hg bl Ct Cn tr bs) (g : Good0 S t tr order wd wr na nb Hg) (g1 : Good1 S t order wr) (dck : Deck dk cs cells k order wr Hg) (hk : 0 ≤ k ∧ k ≤ 900) (hz : cells.length ≤ 1000) (hsz : order.length ≤ 90)
    (h : ∀ H' Hg' S' t' order' wd' wr' na' nb', Rest H' Hg' bl Ct Cn tr bs → Good0 S' t' tr order' wd' wr' na' nb' Hg' → Good1 S' t' order' wr' → Deck dk cs cells (k + 1 + 1 + 1) order' wr' Hg' → na' t'.root = na t.root → order'.length ≤ order.length + 3 → t'.clock = t.clock → Q (.ref (na t.root)) ρ H') :
    OpL (cx d) (n+120) L (fun vs => call (.ref 255) vs) [.ref dk, .ref tr, .ref (na t.root)] ρ H Q := fun vs r =>
  (TE.rest (c_grown hc hk hz g g1 dck hsz (Q := fun m ρ' H' => m = .ref (na t.root) ∧ ρ' = ρ ∧ ∃ S' t' order' wd' wr' na' nb', Good0 S' t' tr order' wd' wr' na' nb' H' ∧ Good1 S' t' order' wr' ∧ Deck dk cs cells (k + 1 + 1 + 1) order' wr' H' ∧ na' t'.root = na t.root ∧ order'.length ≤ order.length + 3 ∧ t'.clock = t.clock)
    (fun H' S' t' order' wd' wr' na' nb' a1 a2 a3 a4 a5 a6 => ⟨rfl, rfl, S', t', order', wd', wr', na', nb', a1, a2, a3, a4, a5, a6⟩) vs r) R.sub).mono fun m ρ' H' ⟨Hg', s, ⟨e1, e2, S', t', order', wd', wr', na', nb', a1, a2, a3, a4, a5, a6⟩, kk⟩ => by
      subst e1 e2
      exact h H' (clean Hg') S' t' order' wd' wr' na' nb' (R.frame s kk) (a1.re fun a o e hn => clean_of e hn) a2 (a3.re fun a o e hn => clean_of e hn) a4 a5 a6
theorem c_isAsR (hc : (cx d).Ok) (CH : CodeHd (cx d).h₀ 266 264) (R : Rest H Hg bl Ct Cn tr bs) (g : Good0 S t tr order wd wr na nb Hg) (hz : order.length < 60) (h : ∀ H', Rest H' Hg bl Ct Cn tr bs → Q (.bool true) ρ H') :
    OpL (cx d) (n+120) L (fun vs => call (.ref 267) vs) [.ref tr, .ref (na t.root)] ρ H Q :=
  c_isAs hc CH R.t8 (g.sub R.sub) hz fun H' s t8 => h H' (R.at8 (fun b o e hne => s _ _ ((hdel_ne hne).trans e)) t8)
theorem Good0.winTurn (g : Good0 S t tr order wd wr na nb Hg) {v : Int} (hv : v ∈ order) {r : WR} (e1 : r.cl = (wr v).cl) (e2 : r.sort = (wr v).sort) (e3 : r.par = (wr v).par) : Good0 S t tr order wd (upd wr v r) na nb (hset Hg (wd v) (win v r)) := by
  have z : ∀ u, (upd wr v r u).sort = (wr u).sort ∧ (upd wr v r u).par = (wr u).par := fun u => by
    by_cases q : u = v
    · subst q; rw [upd_eq]; exact ⟨e2, e3⟩
    · rw [upd_ne q]; exact ⟨rfl, rfl⟩
  exact ⟨g.tree.setWin hv e1, g.nest.turn (g.tree.wn v hv) (by simp) (by simp), g.ok, g.root, g.perm, g.nd, fun u hu => by rw [(z u).1]; exact g.sort u hu, fun p hp u hu => by rw [(z u).2]; exact g.par p hp u hu, g.small⟩
theorem Good1.winTurn (g1 : Good1 S t order wr) {v : Int} {r : WR} (e3 : r.par = (wr v).par) : Good1 S t order (upd wr v r) := by
  refine ⟨?_, g1.rng, g1.out, g1.two⟩
  by_cases q : t.root = v
  · rw [q, upd_eq, e3, ← q]; exact g1.proot
  · rw [upd_ne q]; exact g1.proot
theorem Deck.winTurn (dck : Deck dk cs cells k order wr Hg) (g : Good0 S t tr order wd wr na nb Hg) {v : Int} (hv : v ∈ order) {r : WR} (e1 : r.cl = (wr v).cl) : Deck dk cs cells k order (upd wr v r) (hset Hg (wd v) (win v r)) :=
  ⟨(hset_ne (ne_obj dck.at1 (g.tree.wn v hv) (by simp))).trans dck.at1, (hset_ne (ne_obj dck.at2 (g.tree.wn v hv) (by simp))).trans dck.at2, fun u hu => by
    by_cases q : u = v
    · subst q; rw [upd_eq, e1]; exact dck.sep u hu
    · rw [upd_ne q]; exact dck.sep u hu⟩
theorem Good0.treeTurn (g : Good0 S t tr order wd wr na nb Hg) {t' : TR} (e1 : t'.dw = t.dw) (e2 : t'.root = t.root) : Good0 S t' tr order wd wr na nb (hset Hg tr (tre t')) :=
  ⟨g.tree.setTree e1, g.nest.turn g.tree.tr (by simp) (by simp), g.ok, by rw [e2]; exact g.root, by rw [e2]; exact g.perm, g.nd, g.sort, g.par, g.small⟩
theorem Deck.treeTurn (dck : Deck dk cs cells k order wr Hg) (g : Good0 S t tr order wd wr na nb Hg) (o : MObj) : Deck dk cs cells k order wr (hset Hg tr o) :=
  ⟨(hset_ne (ne_obj dck.at1 g.tree.tr (by simp))).trans dck.at1, (hset_ne (ne_obj dck.at2 g.tree.tr (by simp))).trans dck.at2, dck.sep⟩
/-- select in law's frame -/
theorem c_selectR (hc : (cx d).Ok) (R : Rest H Hg bl Ct Cn tr bs) (g : Good0 S t tr order wd wr na nb Hg) (g1 : Good1 S t order wr) (dck : Deck dk cs cells k order wr Hg) {v : Int} (hv : v ∈ order) (hs : (wr v).sort = 0)
    (h : ∀ H' Hg', Rest H' Hg' bl Ct Cn tr bs → Good0 S { t with sel := v, clock := t.clock + 1 } tr order wd (upd wr v { wr v with time := t.clock + 1 }) na nb Hg' → Good1 S { t with sel := v, clock := t.clock + 1 } order (upd wr v { wr v with time := t.clock + 1 }) →
      Deck dk cs cells k order (upd wr v { wr v with time := t.clock + 1 }) Hg' → Q .none ρ H') :
    OpL (cx d) (n+1+1+1) L (fun vs => call (.ref 147) vs) [.ref tr, .int v] ρ H Q := by
  refine c_select hc (g.tree.sub R.sub) hv hs ?_
  have R1 := R.set g.tree.tr (o' := tre { t with sel := v, clock := t.clock + 1 }) nice_inst
  have gg := g.treeTurn (t' := { t with sel := v, clock := t.clock + 1 }) rfl rfl
  have dd := dck.treeTurn g (tre { t with sel := v, clock := t.clock + 1 })
  exact h _ _ (R1.set (gg.tree.wn v hv) (o' := win v { wr v with time := t.clock + 1 }) nice_inst) (gg.winTurn (r := { wr v with time := t.clock + 1 }) hv rfl rfl rfl) (Good1.winTurn (t := { t with sel := v, clock := t.clock + 1 }) ⟨g1.proot, g1.rng, g1.out, g1.two⟩ rfl) (dd.winTurn gg (r := { wr v with time := t.clock + 1 }) hv rfl)
end
/-- a kid of the root is cut off -/
def Shp.cut (S : Shp) (r x : Int) : Shp := ⟨upd S.kids r ((S.kids r).erase x), fun y => if y = r then r :: ((S.kids r).erase x).flatMap S.all else S.all y⟩
section
variable {S : Shp} {t : TR} {tr : Addr} {order : List Int} {wd : Int → Addr} {wr : Int → WR} {na nb : Int → Addr} {H H' : Hp}
theorem root_noKid (g : Good0 S t tr order wd wr na nb H) (g1 : Good1 S t order wr) {y : Int} (hy : y ∈ order) : t.root ∉ S.kids y := fun q => by
  have e := g.par y hy _ q
  rw [g1.proot] at e
  have := (g1.rng y hy).1
  omega
theorem cut_kids {r x y : Int} (h : y ≠ r) : (S.cut r x).kids y = S.kids y := upd_ne h
theorem cut_kidsR {r x : Int} : (S.cut r x).kids r = (S.kids r).erase x := upd_eq _ _ _
theorem cut_all {r x y : Int} (h : y ≠ r) : (S.cut r x).all y = S.all y := if_neg h
theorem flat_congr {f f' : Int → List Int} : ∀ {l : List Int}, (∀ z ∈ l, f z = f' z) → l.flatMap f = l.flatMap f'
  | [], _ => rfl
  | a :: r, h => by rw [List.flatMap_cons, List.flatMap_cons, h a List.mem_cons_self, flat_congr fun z hz => h z (List.mem_cons_of_mem _ hz)]
theorem cut_sub {r x y z : Int} (hz : z ∈ (S.cut r x).kids y) : z ∈ S.kids y := by
  by_cases q : y = r
  · subst q; rw [cut_kidsR] at hz; exact List.mem_of_mem_erase hz
  · rw [cut_kids q] at hz; exact hz
theorem cut_ok (g : Good0 S t tr order wd wr na nb H) (g1 : Good1 S t order wr) {x : Int} : (S.cut t.root x).Ok order := fun y hy => by
  have hs : ∀ z, z ∈ (S.cut t.root x).kids y → z ∈ order ∧ z ≠ t.root := fun z hz => ⟨(g.ok y hy).2 z (cut_sub hz), fun q => root_noKid g g1 hy (q ▸ cut_sub hz)⟩
  refine ⟨?_, fun z hz => (hs z hz).1⟩
  have e : ((S.cut t.root x).kids y).flatMap (S.cut t.root x).all = ((S.cut t.root x).kids y).flatMap S.all := flat_congr fun z hz => cut_all (hs z hz).2
  rw [e]
  by_cases q : y = t.root
  · rw [q, cut_kidsR]; exact if_pos rfl
  · rw [cut_all q, cut_kids q]; exact (g.ok y hy).1
theorem cut_split (g : Good0 S t tr order wd wr na nb H) {x : Int} (hx : x ∈ S.kids t.root) :
    t.root ∉ S.all x ∧ (S.all t.root).filter (fun y => decide (y ∉ S.all x)) = t.root :: ((S.kids t.root).erase x).flatMap S.all := by
  obtain ⟨l1, l2, h1, h2, h3⟩ := List.exists_erase_eq hx
  have e := (g.ok _ g.root).1
  have hnd := (g.all g.root).2.2
  rw [h2, List.flatMap_append, List.flatMap_cons] at e
  rw [e] at hnd
  obtain ⟨n1, n2⟩ := List.nodup_cons.mp hnd
  obtain ⟨_, n4, n5⟩ := List.nodup_append.mp n2
  obtain ⟨_, _, n6⟩ := List.nodup_append.mp n4
  have hr : t.root ∉ S.all x := fun q => n1 (List.mem_append_right _ (List.mem_append_left _ q))
  refine ⟨hr, ?_⟩
  rw [e, h3, List.flatMap_append, List.filter_cons_of_pos (by simpa using hr), List.filter_append, List.filter_append]
  have f1 : (l1.flatMap S.all).filter (fun y => decide (y ∉ S.all x)) = l1.flatMap S.all := List.filter_eq_self.mpr fun a ha => by simpa using fun q => n5 a ha a (List.mem_append_left _ q) rfl
  have f2 : (S.all x).filter (fun y => decide (y ∉ S.all x)) = [] := List.filter_eq_nil_iff.mpr fun a ha => by simpa using ha
  have f3 : (l2.flatMap S.all).filter (fun y => decide (y ∉ S.all x)) = l2.flatMap S.all := List.filter_eq_self.mpr fun a ha => by simpa using fun q => n6 a q a ha rfl
  rw [f1, f2, f3, List.nil_append]
theorem cut_good (g : Good0 S t tr order wd wr na nb H) (g1 : Good1 S t order wr) {x : Int} (hx : x ∈ S.kids t.root) (T : TreeAt (S.cut t.root x) t tr (order.filter fun y => decide (y ∉ S.all x)) wd wr H') (N : NestAt (S.cut t.root x) na nb (order.filter fun y => decide (y ∉ S.all x)) H') :
    Good0 (S.cut t.root x) t tr (order.filter fun y => decide (y ∉ S.all x)) wd wr na nb H' := by
  obtain ⟨hr, hsp⟩ := cut_split g hx
  have hm : ∀ y, y ∈ order.filter (fun y => decide (y ∉ S.all x)) ↔ y ∈ order ∧ y ∉ S.all x := fun y => by rw [List.mem_filter]; simp
  have hxo : x ∈ order := (g.ok _ g.root).2 x hx
  have hnd := (g.ok.kidsNodup g.root (g.all g.root).2.2 (g.ok.self g.root)).1
  have hxr : x ≠ t.root := fun q => root_noKid g g1 g.root (q ▸ hx)
  refine ⟨T, N, fun y hy => ?_, (hm _).mpr ⟨g.root, hr⟩, ?_, g.nd.filter _, fun v hv => ?_, fun p hp v hv => g.par p ((hm p).mp hp).1 v (cut_sub hv), Nat.le_trans (List.length_filter_le _ _) g.small⟩
  · obtain ⟨hy1, hy2⟩ := (hm y).mp hy
    refine ⟨(cut_ok g g1 y hy1).1, fun z hz => (hm z).mpr ⟨(cut_ok g g1 y hy1).2 z hz, fun q => ?_⟩⟩
    have hzy := g.par y hy1 z (cut_sub hz)
    by_cases e : z = x
    · subst e
      have := g.par _ g.root z hx
      rw [hzy] at this
      subst this
      rw [cut_kidsR] at hz
      exact (List.Nodup.mem_erase_iff hnd).mp hz |>.1 rfl
    · obtain ⟨p, hp1, hp2⟩ := g.ok.parent _ hxo (Nat.le_refl _) z q e
      have hpo := (g.all hxo).1 p hp1
      have := g.par p hpo z hp2
      rw [hzy] at this
      exact hy2 (this ▸ hp1)
  · have : (S.cut t.root x).all t.root = t.root :: ((S.kids t.root).erase x).flatMap S.all := if_pos rfl
    rw [this, ← hsp]
    exact g.perm.filter _
  · obtain ⟨hv1, hv2⟩ := (hm v).mp hv
    by_cases e : v = t.root
    · subst e
      rw [cut_kidsR, g.sort _ g.root]
      have h1 : (S.kids t.root).isEmpty = false := by cases q : S.kids t.root with
        | nil => rw [q] at hx; cases hx
        | cons a r => rfl
      have h2 : ((S.kids t.root).erase x).isEmpty = false := by
        have := List.length_erase_of_mem hx
        have h3 := g1.two t.root
        have h4 : 0 < (S.kids t.root).length := List.length_pos_of_mem hx
        cases q : (S.kids t.root).erase x with
        | nil => rw [q, List.length_nil] at this; omega
        | cons a r => rfl
      rw [h1, h2]
    · rw [cut_kids e]; exact g.sort v hv1
end
theorem map_eraseIdx {α β : Type} (f : α → β) : ∀ (l : List α) (i : Nat), (l.map f).eraseIdx i = (l.eraseIdx i).map f
  | [], _ => rfl
  | _ :: _, 0 => rfl
  | a :: r, i + 1 => by rw [List.map_cons, List.eraseIdx_cons_succ, List.eraseIdx_cons_succ, List.map_cons, map_eraseIdx f r i]
theorem lk_elim {K : Frag} {a : Addr} {name qual name' qual' : Str} {params params' : Arguments} {body body' : List Stmt} {scope scope' : Scope} {dV kV doc pm cdv ct oc dV' kV' doc' pm' cdv' ct' oc' : Value} {an od an' od' : Option Addr} {osl osl' : Array (Option Value)}
    (ho : K.lookup a = some ⟨oc, od, .func (fnOf name qual params body scope dV kV doc pm an cdv ct), osl⟩) (ho' : K.lookup a = some ⟨oc', od', .func (fnOf name' qual' params' body' scope' dV' kV' doc' pm' an' cdv' ct'), osl'⟩)
    (P : List Stmt → Str → Scope → Value → Prop) (h : P body' qual' scope' cdv') : P body qual scope cdv := by
  cases ho.symm.trans ho'
  exact h
section
variable {d : Dt} {n : Nat} {env : Env} {L : Addr} {ρ : Loc} {H : Hp} {Q : MV → Loc → Hp → Prop}
set_option pp.deepTerms false
set_option pp.deepTerms.threshold 6
set_option maxHeartbeats 16000000 in
theorem lawTail (hc : (cx d).Ok) (CH8 : CodeHd (cx d).h₀ 266 264) (CH9 : CodeHd (cx d).h₀ 271 269) {name qual : Str} {params : Arguments} {body : List Stmt} {scope : Scope} {dV kV doc pm cdv ct oc : Value} {an od : Option Addr} {osl : Array (Option Value)}
    (ho : (cx d).K.lookup 272 = some ⟨oc, od, .func (fnOf name qual params body scope dV kV doc pm an cdv ct), osl⟩) {fa bl Ct Cn tr dk cs : Addr} {bs cells : List Int} {k : Int} {Hg : Hp} {S : Shp} {t : TR} {order : List Int} {wd : Int → Addr} {wr : Int → WR} {na nb : Int → Addr}
    (R : Rest H Hg bl Ct Cn tr bs) (g : Good0 S t tr order wd wr na nb Hg) (g1 : Good1 S t order wr) (dck : Deck dk cs cells k order wr Hg) (hk : 0 ≤ k ∧ k ≤ 900) (hz : cells.length ≤ 1000) (hsz : order.length < 60) (hkids : S.kids t.root ≠ []) (l1 : ρ "deck" = some (.ref dk)) (l2 : ρ "nest" = some (.ref (na t.root))) :
    TS (cx d) (n + 140) L (execs (body.drop 12) (envX qual scope L fa cdv [("tree", Ct), ("number", Cn)])) ρ H (fun _ _ => False) (fun m _ H' => m = .bool true ∧ TabH H' 264 posA qualA ∧ TabH H' 269 posB qualB) := by
  refine lk_elim ho (by with_unfolding_all rfl) (fun body qual scope cdv => TS (cx d) (n + 140) L (execs (body.drop 12) (envX qual scope L fa cdv [("tree", Ct), ("number", Cn)])) ρ H (fun _ _ => False) (fun m _ H' => m = .bool true ∧ TabH H' 264 posA qualA ∧ TabH H' 269 posB qualB)) ?_
  clear ho
  simp only [List.drop_succ_cons, List.drop_zero]
  have hall := g.all g.root
  have hkl := g.kidsLen g.root
  have hkpos : 0 < (S.kids t.root).length := List.length_pos_iff.mpr hkids
  have ct0 := R.ct
  have tr0 := R.sub _ _ g.tree.tr
  have gn1 := R.sub _ _ (g.nest _ g.root).1
  have gn2 := R.sub _ _ (g.nest _ g.root).2
  repeat walk_at "m"
  refine c_drawR hc R g dck (by omega) hz (by rw [List.length_map]; omega) fun r1 H1 Hg1 p1 p2 R1 g1' dck1 _ => ?_
  rw [List.length_map] at p2
  have hi : r1.toNat < (S.kids t.root).length := by omega
  have gb1 := R1.sub _ _ (g1'.nest _ g1'.root).2
  have hxm : (S.kids t.root)[r1.toNat] ∈ S.kids t.root := List.getElem_mem hi
  have hnd := (g.ok.kidsNodup g.root hall.2.2 (g.ok.self g.root)).1
  have her : (S.kids t.root).eraseIdx r1.toNat = (S.kids t.root).erase (S.kids t.root)[r1.toNat] := (List.erase_eq_eraseIdx_of_idxOf (w := hnd.idxOf_getElem _ hi)).symm
  repeat walk_at "m"
  refine f_popAt (m := .ref (na (S.kids t.root)[r1.toNat])) gb1 (by rw [List.length_map]; omega) p1 (by rw [List.getElem?_map, List.getElem?_eq_getElem hi]; rfl) ?_
  generalize (S.kids t.root)[r1.toNat] = x at hxm her ⊢
  have hxo : x ∈ order := (g.ok _ g.root).2 x hxm
  have hxr : x ≠ t.root := fun q => root_noKid g g1 g.root (q ▸ hxm)
  have eer : ((S.kids t.root).map fun y => MV.ref (na y)).eraseIdx r1.toNat = ((S.kids t.root).erase x).map fun y => .ref (na y) := by rw [← her, map_eraseIdx]
  rw [eer]
  have R2 := R1.set (g1'.nest _ g1'.root).2 (o' := .list (((S.kids t.root).erase x).map fun y => .ref (na y))) nice_list
  obtain ⟨z0, zr, ez⟩ := List.exists_cons_of_ne_nil hkids
  have gbg := (g1'.nest _ g1'.root).2
  rw [ez] at gbg
  have T2 : TreeAt S t tr order wd wr (hset Hg1 (nb t.root) (.list (((S.kids t.root).erase x).map fun y => .ref (na y)))) := g1'.tree.turn gbg (by intro _ _; nofun) (by intro _; nofun) fun l e => by cases l <;> simp at e
  have N2 : NestAt (S.cut t.root x) na nb order (hset Hg1 (nb t.root) (.list (((S.kids t.root).erase x).map fun y => .ref (na y)))) := fun v hv => by
    refine ⟨(hset_ne (ne_obj (g1'.nest v hv).1 gbg (by simp))).trans (g1'.nest v hv).1, ?_⟩
    by_cases q : v = t.root
    · subst q; rw [cut_kidsR]; exact hset_eq _ _ _
    · rw [cut_kids q]
      refine (hset_ne (ne_obj (g1'.nest v hv).2 gbg fun e => ?_)).trans (g1'.nest v hv).2
      cases hkv : S.kids v with
      | nil => rw [hkv] at e; simp at e
      | cons w ws =>
        rw [hkv] at e
        simp only [List.map_cons, MObj.list.injEq, List.cons.injEq, MV.ref.injEq] at e
        have hw : w ∈ S.kids v := by rw [hkv]; exact List.mem_cons_self
        have hz0 : z0 ∈ S.kids t.root := by rw [ez]; exact List.mem_cons_self
        have o1 := (g.ok v hv).2 w hw
        have o2 := (g.ok _ g.root).2 z0 hz0
        have e1 := (g1'.nest w o1).1
        rw [e.1, (g1'.nest z0 o2).1] at e1
        have e2 : z0 = w := by simpa using congrArg (fun o => match o with | some (MObj.list (.int a :: _)) => a | _ => 0) e1
        have := g.par v hv w hw
        rw [← e2, g.par _ g.root z0 hz0] at this
        exact q this.symm
  generalize hset H1 (nb t.root) _ = H2 at R2 ⊢
  generalize hset Hg1 (nb t.root) _ = Hg2 at R2 T2 N2
  clear R1 g1' dck1 gb1 gn1 gn2 ct0 tr0 eer her hi R
  have ct2 := R2.ct
  have tr2 := R2.sub _ _ T2.tr
  have dw2 := R2.sub _ _ T2.dw
  have rt2 := R2.sub _ _ (T2.wn _ g.root)
  have ch2 := R2.sub _ _ (T2.ch _ g.root)
  have nx2 := R2.sub _ _ (N2 x hxo).1
  have hroot := g.root
  repeat walk_at "m"
  refine f_remove (ns := S.kids t.root) ch2 (by omega) hxm ?_
  have eri : (S.kids t.root).eraseIdx ((S.kids t.root).idxOf x) = (S.kids t.root).erase x := (List.erase_eq_eraseIdx_of_idxOf (w := rfl)).symm
  rw [eri]
  have R3 := R2.set (T2.ch _ g.root) (o' := .list (((S.kids t.root).erase x).map .int)) nice_list
  have T3 : TreeAt (S.cut t.root x) t tr order wd wr (hset Hg2 (wr t.root).cl (.list (((S.kids t.root).erase x).map .int))) := (T2.setKids (l := (S.kids t.root).erase x) g.root).congr fun v hv => rfl
  have chg := T2.ch _ g.root
  rw [ez] at chg
  have N3 := N2.turn (o' := .list (((S.kids t.root).erase x).map .int)) chg ints_ne1 ints_ne2
  generalize hset H2 (wr t.root).cl _ = H3 at R3 ⊢
  generalize hset Hg2 (wr t.root).cl _ = Hg3 at R3 T3 N3
  clear ct2 tr2 dw2 rt2 ch2 nx2 R2 T2 N2 chg gbg eri
  have ct3 := R3.ct
  have nx3 := R3.sub _ _ (N3 x hxo).1
  have hcx : (S.cut t.root x).all x = S.all x := cut_all hxr
  have hallx := g.all hxo
  repeat walk_at "m"
  refine c_forget hc (T3.sub R3.sub) (cut_ok g g1) hxo (by rw [hcx]; exact hallx.1) (by rw [hcx]; exact hallx.2.2) (by rw [hcx]; omega) (by omega) ?_
  rw [hcx]
  have hm : ∀ y, y ∈ order.filter (fun y => decide (y ∉ S.all x)) ↔ y ∈ order ∧ y ∉ S.all x := fun y => by rw [List.mem_filter]; simp
  have R4 := R3.set T3.dw (o' := .dict ((order.filter fun y => decide (y ∉ S.all x)).map fun v => (v, .ref (wd v)))) nice_dict
  have T4 : TreeAt (S.cut t.root x) t tr (order.filter fun y => decide (y ∉ S.all x)) wd wr (hset Hg3 t.dw (.dict ((order.filter fun y => decide (y ∉ S.all x)).map fun v => (v, .ref (wd v))))) :=
    ⟨(hset_ne (ne_obj T3.tr T3.dw (by simp))).trans T3.tr, hset_eq _ _ _, fun v hv => (hset_ne (ne_obj (T3.wn v ((hm v).mp hv).1) T3.dw (by simp))).trans (T3.wn v ((hm v).mp hv).1), fun v hv => (hset_ne (ne_obj (T3.ch v ((hm v).mp hv).1) T3.dw (by simp))).trans (T3.ch v ((hm v).mp hv).1),
      fun v hv u hu => T3.ci v ((hm v).mp hv).1 u ((hm u).mp hu).1⟩
  have N4 := N3.turn (o' := .dict ((order.filter fun y => decide (y ∉ S.all x)).map fun v => (v, .ref (wd v)))) T3.dw (by intro _ _; nofun) (by intro _; nofun)
  have g4 := cut_good g g1 hxm T4 fun v hv => N4 v ((hm v).mp hv).1
  generalize hset H3 t.dw _ = H4 at R4 ⊢
  generalize hset Hg3 t.dw _ = Hg4 at R4 T4 N4 g4
  clear ct3 nx3 R3 T3 N3
  repeat walk_at "m"
  refine ts_for ?_
  repeat walk_at "m"
  refine c_all hc (cut_ok g g1) 60 x (N4.sub R4.sub) hxo (by rw [hcx]; omega) (by omega) fun l hl => ?_
  rw [hcx]
  have R5 := R4.ext ((Sub.refl H4).hset (o := .list ((S.all x).map .int)) hl)
  have gl : (hset H4 l (.list ((S.all x).map .int))) l = some (.list ((S.all x).map .int)) := hset_eq _ _ _
  generalize hset H4 l (.list ((S.all x).map .int)) = H5 at R5 gl ⊢
  refine forL_intro (fun i ρ' H' => ρ' "nest" = some (.ref (na t.root)) ∧ Rest H' Hg4 bl Ct Cn tr bs ∧ H' l = some (.list ((S.all x).map .int))) gl ⟨by walk_at "loc", R5, gl⟩ (fun i ρ' H' I => I.2.2) ?_ ?_
  · rintro i mv ρ2 H6 hi ⟨m1, R6, gl6⟩
    rw [List.getElem?_map] at hi
    obtain ⟨y, hy, rfl⟩ := Option.map_eq_some_iff.mp hi
    have hym : y ∈ S.all x := List.mem_of_getElem? hy
    obtain ⟨cv, gcn⟩ := R6.cn
    repeat walk_at "m"
    have R7 := R6.num (some (.int y))
    have gcn7 : (hset H6 Cn (.cell (some (.int y)))) Cn = some (.cell (some (.int y))) := hset_eq _ _ _
    have gl7 : (hset H6 Cn (.cell (some (.int y)))) l = some (.list ((S.all x).map .int)) := (hset_ne (ne_obj gl6 gcn (by nofun))).trans gl6
    generalize hset H6 Cn (.cell (some (.int y))) = H7 at R7 gcn7 gl7 ⊢
    obtain ⟨r9, hr9⟩ := R7.t9.raw
    refine t_lambda (cc := 271) (P := 269) (clos := [("tree", Ct), ("number", Cn)]) hc (by rfl) (by with_unfolding_all rfl) (by rfl) (by rfl) CH9 (by with_unfolding_all exact R7.t9) fun f H8 tab8 kk8 hfn lam8 => ?_
    have R8 := R7.at9 kk8 tab8
    have ct8 := R8.ct
    have tr8 := R8.sub _ _ T4.tr
    have gcn8 := kk8 _ _ gcn7 (ne_obj gcn7 hr9 (by nofun))
    have gl8 := kk8 _ _ gl7 (ne_obj gl7 hr9 (by nofun))
    repeat walk_at "m"
    refine c_refused hc lam8 (fun L2 ρ4 => tx_lam hc lam8 (by intros; with_unfolding_all rfl) (fun L3 c3 => ?_) (by rfl) (by rfl) (by rfl) (by decide +kernel)) ?_
    · refine tx_meth ?_ (by with_unfolding_all rfl)
      repeat walk_at "m"
      refine ⟨Sub.refl _, tx_wK hc (by kernel_rfl) ?_ (by with_unfolding_all rfl) (by with_unfolding_all rfl)⟩
      repeat walk_at "m"
      refine ⟨Sub.refl _, fun vs r => ?_⟩
      exact x_window hc (T4.sub R8.sub) (v := y) (fun q => ((hm y).mp q).2 hym) (vs := .ref tr :: vs) ⟨rfl, r⟩
    · repeat walk_at "m"
      simp only [Bool.not_true, Bool.false_eq_true, if_false]
      repeat walk_at "m"
      exact ⟨m1, R8, gl8⟩
  · rintro ρ2 H6 ⟨m1, R6, gl6⟩
    have ct6 := R6.ct
    repeat walk_at "m"
    refine c_isAsR hc CH8 R6 g4 (Nat.lt_of_le_of_lt (List.length_filter_le _ _) hsz) fun H7 R7 => ?_
    exact ⟨rfl, R7.t8, R7.t9⟩
end
section
variable {c : Cx} {n : Nat} {env : Env} {L : Addr} {ρ : Loc} {H : Hp} {Q : MV → Loc → Hp → Prop}
/-- a piece of a list that stands below the table -/
theorem o_sliceB {l d : Addr} {vs : Array Value} {xs : List Int} {b : Nat} {value slice : Expr} (hl : c.h₀.IsList l vs) (hv : IntsAre vs.toList xs) (hd : H d = some (.slice none (some (b : Int)) none)) (hz : vs.size ≤ 1000)
    (h : ∀ a, H a = none → Q (.ref a) ρ (hset H a (.list ((xs.take b).map .int))))
    (hs : ∀ l k, ∃ vs, subscripted slice false (.ref l) (.ref k) = operate vs (getItem (.ref l) (.ref k)) := by intro _ _; exact ⟨_, by with_unfolding_all rfl⟩) : Op2 c n L (subscriptTail value slice) (.ref l) (.ref d) ρ H Q := by
  rintro _ _ rfl rfl A s hb S
  have h1 : s.heap.IsList l vs := Heap.IsList.at hl (fun o e => S.base _ o e)
  obtain ⟨vl, vu, vs', g1, g2, g3, g4⟩ := S.objs d _ hd
  obtain ⟨ops, hops⟩ := hs l d
  refine PyProof.Rows.tail_any h1.typeIs slot_list_getitem.lookup (wpAny_getItem_list_slice h1 ⟨_, g1, rfl, rfl⟩ g2 g3 g4 (by decide) ?_ (by rw [sizeLine_eq]; omega)) hops
  have r : RepL ((xs.take b).map MV.int) (slicePick vs none (some (b : Int)) none).toList := by
    rw [List.map_take]; exact pick_upto b vs (RepL.ofInts hv)
  obtain ⟨z1, z2, z3⟩ := new_list S r
  rw [Array.toArray_toList] at z1 z2
  exact ⟨.ref _, ρ, _, rfl, z1, z2, h _ z3⟩
end
def Inv (H : Hp) (bl Ct Cn tr dk cs : Addr) (cells : List Int) (nst : Addr) (k : Int) (i : Nat) (bs : List Int) : Prop :=
  ∃ Hg S t order wd wr na nb, Rest H Hg bl Ct Cn tr bs ∧ Good0 S t tr order wd wr na nb Hg ∧ Good1 S t order wr ∧ Deck dk cs cells k order wr Hg ∧ nst = na t.root ∧ order.length ≤ 1 + 3 * i ∧ bs.length = i ∧ bs.Pairwise (· < ·) ∧ ∀ b ∈ bs, b ≤ t.clock
theorem ts_mid1 {c : Cx} {n : Nat} {env : Env} {L : Addr} {ρ : Loc} {H : Hp} {N : Loc → Hp → Prop} {R : MV → Loc → Hp → Prop} {st : Stmt} (Mid : Loc → Hp → Prop) (h : TS c n L (exec st env) ρ H Mid (fun _ _ _ => False)) (k : ∀ ρ1 H1, Mid ρ1 H1 → N ρ1 H1) : TS c n L (exec st env) ρ H N R :=
  h.mono fun f ρ1 H1 q => by
    cases f with
    | next => exact k ρ1 H1 q
    | ret v => obtain ⟨_, _, q⟩ := q; exact q.elim
    | brk => exact q.elim
    | cont => exact q.elim
def shp0 : Shp := ⟨fun _ => [], fun x => [x]⟩
section
variable {d : Dt} {n : Nat} {env : Env} {L : Addr} {ρ : Loc} {H : Hp} {Q : MV → Loc → Hp → Prop}
set_option pp.deepTerms false
set_option pp.deepTerms.threshold 6
set_option maxHeartbeats 16000000 in
theorem lawWalk (hc : (cx d).Ok) (CH8 : CodeHd (cx d).h₀ 266 264) (CH9 : CodeHd (cx d).h₀ 271 269) {name qual : Str} {params : Arguments} {body : List Stmt} {scope : Scope} {dV kV doc pm cdv ct oc : Value} {an od : Option Addr} {osl : Array (Option Value)}
    (ho : (cx d).K.lookup 272 = some ⟨oc, od, .func (fnOf name qual params body scope dV kV doc pm an cdv ct), osl⟩) {fa la Ct Cn : Addr} (h8 : TabH H 264 posA qualA) (h9 : TabH H 269 posB qualB) (hCt : H Ct = some (.cell none)) (hCn : H Cn = some (.cell none)) (hne : Ct ≠ Cn)
    {vs : Array Value} {xs : List Int} (hl : (cx d).h₀.IsList la vs) (hv : IntsAre vs.toList xs) (hz : vs.size ≤ 100) :
    TS (cx d) (n + 140) L (execs body (envX qual scope L fa cdv [("tree", Ct), ("number", Cn)])) (lset (fun _ => none) "script" (.ref la)) H (fun _ _ => False) (fun m _ H' => m = .bool true ∧ TabH H' 264 posA qualA ∧ TabH H' 269 posB qualB) := by
  refine lk_elim ho (by with_unfolding_all rfl) (fun body qual scope cdv => TS (cx d) (n + 140) L (execs body (envX qual scope L fa cdv [("tree", Ct), ("number", Cn)])) (lset (fun _ => none) "script" (.ref la)) H (fun _ _ => False) (fun m _ H' => m = .bool true ∧ TabH H' 264 posA qualA ∧ TabH H' 269 posB qualB)) ?_
  repeat walk_at "m"
  clear ho
  refine t_comp (cl := []) ?_ (by with_unfolding_all rfl) (by decide +kernel) (by rfl) (by decide +kernel) (by with_unfolding_all rfl) (by intro _; with_unfolding_all rfl)
  repeat walk_at "m"
  rename_i sd hsd
  refine o_sliceB hl hv (b := 40) (hset_eq _ _ _) (by omega) (fun a0 ha0 => ?_) (by intro _ _; exact ⟨_, by with_unfolding_all rfl⟩)
  generalize hcells0 : xs.take 40 = ys
  have hys : ys.length ≤ 100 := by rw [← hcells0, List.length_take]; omega
  have s0 := ((Sub.refl H).hset (o := .slice none (some 40) none) hsd).hset (a := a0) (o := .list (ys.map .int)) (Sub.none ((Sub.refl H).hset hsd) ha0)
  have ga0 : (hset (hset H sd (.slice none (some 40) none)) a0 (.list (ys.map .int))) a0 = some (.list (ys.map .int)) := hset_eq _ _ _
  generalize hset _ a0 _ = H1 at s0 ga0 ⊢
  refine compL_intro (fun i acc H2 => Sub H1 H2 ∧ acc = ((ys.take i).map fun x => (if x < 0 then -x else x)).map .int) ga0 (by rw [List.length_map]; omega) ⟨Sub.refl _, rfl⟩ ?_ ?_ ?_
  · rintro i acc H2 ⟨sb, _⟩; exact sb _ _ ga0
  · rintro C i mv acc H2 hi ⟨sb, hacc⟩
    rw [List.getElem?_map] at hi
    obtain ⟨y, hy, rfl⟩ := Option.map_eq_some_iff.mp hi
    have etk : ys.take (i + 1) = ys.take i ++ [y] := by rw [List.take_add_one, hy]; rfl
    repeat walk_at "m"
    simp only [if_true]
    repeat walk_at "m"
    exact ⟨by walk_at "sub", by rw [hacc, etk]; simp⟩
  · rintro acc H2 ⟨sb, hacc⟩ cs hcs
    rw [List.length_map, List.take_length] at hacc
    subst hacc
    have s1 := s0.trans sb
    have s2 := s1.hset (o := .list ((ys.map fun x => (if x < 0 then -x else x)).map .int)) (Sub.none s1 hcs)
    have gcs : (hset H2 cs (.list ((ys.map fun x => (if x < 0 then -x else x)).map .int))) cs = some (.list ((ys.map fun x => (if x < 0 then -x else x)).map .int)) := hset_eq _ _ _
    generalize hset H2 cs (.list ((ys.map fun x => (if x < 0 then -x else x)).map .int)) = H3 at s2 gcs ⊢
    generalize hcl : ys.map (fun x => (if x < 0 then -x else x)) = cells at gcs
    have hcz : cells.length ≤ 100 := by rw [← hcl, List.length_map]; exact hys
    repeat walk_at "m"
    rename_i dk hdk
    have s3 := s2.hset (o := .list [.ref cs, .int 0]) (Sub.none s2 hdk)
    have gdk : (hset H3 dk (.list [.ref cs, .int 0])) dk = some (.list [.ref cs, .int 0]) := hset_eq _ _ _
    have gcs' := (hset_ne (ne_of gcs hdk) (o := .list [.ref cs, .int 0])).trans gcs
    generalize hset H3 dk (.list [.ref cs, .int 0]) = H4 at s3 gdk gcs' ⊢
    clear gcs hdk s1 s2 hcl
    refine c_treeInit (S := shp0) hc rfl fun tr dw w r Hn z1 z2 z3 z4 z5 z6 sn T => ?_
    have gdk' := sn _ _ gdk
    have gcs2 := sn _ _ gcs'
    have gCt := (s3.trans sn) _ _ hCt
    repeat walk_at "m"
    refine ts_pairS (x := "nest") (y := "beats") ?_ (by with_unfolding_all rfl) (by with_unfolding_all rfl)
    have sc : Sub (clean Hn) (hset Hn Ct (.cell (some (.ref tr)))) := fun b o e => (hset_ne fun q => by rw [q] at e; have := clean_some e; rw [gCt] at this; obtain ⟨e1, e2⟩ := this; cases e1; exact e2.2 _ rfl).trans (clean_some e).1
    have gCt5 : (hset Hn Ct (.cell (some (.ref tr)))) Ct = some (.cell (some (.ref tr))) := hset_eq _ _ _
    have gCn5 : (hset Hn Ct (.cell (some (.ref tr)))) Cn = some (.cell none) := (hset_ne (Ne.symm hne)).trans ((s3.trans sn) _ _ hCn)
    have t8 := (h8.sub (s3.trans sn)).set (o' := .cell (some (.ref tr))) gCt (by intro _; nofun)
    have t9 := (h9.sub (s3.trans sn)).set (o' := .cell (some (.ref tr))) gCt (by intro _; nofun)
    have Tc : TreeAt shp0 ⟨dw, 1, 1, 1, 1⟩ tr [1] (fun _ => w) (fun _ => r) (clean Hn) := ⟨clean_of T.tr nice_inst, clean_of T.dw nice_dict, fun v hv => clean_of (T.wn v hv) nice_inst, fun v hv => clean_of (T.ch v hv) nice_list, T.ci⟩
    have gdkc : (clean Hn) dk = some (.list [.ref cs, .int 0]) := clean_of gdk' nice_list
    have gcsc : (clean Hn) cs = some (.list (cells.map .int)) := clean_of gcs2 nice_list
    generalize hset Hn Ct (.cell (some (.ref tr))) = H5 at sc gCt5 gCn5 t8 t9 ⊢
    have ncl : r.cl ≠ cs := Ne.symm (ne_of gcs' z6)
    generalize clean Hn = Hc at sc Tc gdkc gcsc
    clear T gdk' gcs2 gCt sn z5 z6 s3 gdk gcs' h8 h9 hCt hCn
    have gtr := Tc.tr
    repeat walk_at "m"
    rename_i nbA hnb naA hna bl hbl tp htp
    refine ⟨tp, _, _, rfl, hset_eq _ _ _, ?_⟩
    have q1 := (Sub.refl H5).hset (o := .list []) hnb
    have q2 := q1.hset (o := .list [.int 1, .ref nbA]) (Sub.none q1 hna)
    have gnb := (hset_ne (ne_of (hset_eq _ _ _) hna) (o := .list [.int 1, .ref nbA])).trans (hset_eq H5 nbA (.list []))
    have gna := hset_eq (hset H5 nbA (.list [])) naA (.list [.int 1, .ref nbA])
    generalize hset (hset H5 nbA (.list [])) naA (.list [.int 1, .ref nbA]) = Hb at q2 gnb gna hbl htp ⊢
    have g0 : Good0 shp0 ⟨dw, 1, 1, 1, 1⟩ tr [1] (fun _ => w) (fun _ => r) (fun _ => naA) (fun _ => nbA) (clean Hb) := by
      refine Good0.re (H := Hb) ⟨Tc.sub (sc.trans q2), fun v hv => ⟨by rw [List.mem_singleton.mp hv]; exact gna, gnb⟩, fun x hx => ⟨rfl, fun y hy => by cases hy⟩, by simp, by simp [shp0], by simp, fun v hv => by simp [z1, shp0], fun p hp v hv => (by cases hv), by simp⟩ fun a o e hn => clean_of e hn
    have dk0 : Deck dk cs cells 0 [1] (fun _ => r) (clean Hb) := ⟨clean_of ((sc.trans q2) _ _ gdkc) nice_list, clean_of ((sc.trans q2) _ _ gcsc) nice_list, fun v hv => ncl⟩
    have g10 : Good1 shp0 ⟨dw, 1, 1, 1, 1⟩ [1] (fun _ => r) := ⟨z2, fun v hv => by rw [List.mem_singleton.mp hv]; exact ⟨Int.le_refl _, Int.le_refl _⟩, fun v hv => rfl, fun v => by simp [shp0]⟩
    have q3 := (Sub.refl Hb).hset (o := .list []) hbl
    have q4 := q3.hset (o := .tuple [.ref naA, .ref bl]) (Sub.none q3 htp)
    have gbl := (hset_ne (ne_of (hset_eq _ _ _) htp) (o := .tuple [.ref naA, .ref bl])).trans (hset_eq Hb bl (.list []))
    have R0 : Rest (hset (hset Hb bl (.list [])) tp (.tuple [.ref naA, .ref bl])) (clean Hb) bl Ct Cn tr [] :=
      ⟨(clean_sub Hb).trans q4, fun a o e => (clean_some e).2, gbl, clean_none hbl, (q2.trans q4) _ _ gCt5, ⟨_, (q2.trans q4) _ _ gCn5⟩, hne, t8.sub (q2.trans q4), t9.sub (q2.trans q4)⟩
    generalize hset (hset Hb bl (.list [])) tp (.tuple [.ref naA, .ref bl]) = H6 at R0 ⊢
    generalize clean Hb = Hg0 at R0 g0 dk0
    clear q1 q2 q3 q4 gnb gna gbl hnb hna hbl htp sc Tc gdkc gcsc gtr gCt5 gCn5 t8 t9 H5 Hc Hb tp
    repeat walk_at "m"
    refine ts_mid1 (fun ρ' H' => ∃ nst k i bs, ρ' "deck" = some (.ref dk) ∧ ρ' "nest" = some (.ref nst) ∧ ρ' "beats" = some (.ref bl) ∧ 0 ≤ k ∧ k ≤ 100 ∧ i ≤ 6 ∧ Inv H' bl Ct Cn tr dk cs cells nst k i bs) ?_ ?_
    · refine ts_for ?_
      repeat walk_at "m"
      refine c_drawR hc R0 g0 dk0 (by omega) (by omega) (by omega) fun r1 H7 Hg7 p1 p2 R7 g7 dk7 _ => ?_
      obtain ⟨m, rfl⟩ : ∃ m : Nat, r1 = m := ⟨r1.toNat, by omega⟩
      repeat walk_at "m"
      refine f_range fun rg hrg => ?_
      refine forR_intro (fun i ρ' H' => ∃ nst bs, ρ' "deck" = some (.ref dk) ∧ ρ' "nest" = some (.ref nst) ∧ ρ' "beats" = some (.ref bl) ∧ Inv H' bl Ct Cn tr dk cs cells nst (1 + 4 * (i : Int)) i bs) (hset_eq _ _ _) (by omega) ?_ ?_ ?_
      · exact ⟨naA, [], by walk_at "loc", by walk_at "loc", by walk_at "loc", Hg7, _, _, _, _, _, _, _, R7.ext ((Sub.refl _).hset hrg), g7, g10, dk7, rfl, by simp, rfl, List.Pairwise.nil, by simp⟩
      · rintro i ρ2 H8 hi ⟨nst, bs, l1, l2, l3, Hg8, S8, t8, o8, wd8, wr8, na8, nb8, R8, g8, g18, dk8, rfl, b1, b2, b3, b4⟩
        have ct8 := R8.ct
        repeat walk_at "m"
        refine c_grownR hc R8 g8 g18 dk8 (by omega) (by omega) (by omega) fun H9 Hg9 S9 t9 o9 wd9 wr9 na9 nb9 R9 g9 g19 dk9 er hlen hclk => ?_
        rw [← er]
        have hall := g9.all g9.root
        repeat walk_at "m"
        refine c_ends hc (g9.nest.sub R9.sub) g9.ok g9.root hall.1 (m := 60) (by omega) (by omega) fun el hel => ?_
        have R10 := R9.ext ((Sub.refl H9).hset (o := .list ((S9.ends t9.root).map .int)) hel)
        have gel : (hset H9 el (.list ((S9.ends t9.root).map .int))) el = some (.list ((S9.ends t9.root).map .int)) := hset_eq _ _ _
        have hde : dk ≠ el := ne_of (R9.sub _ _ dk9.at1) hel
        generalize hset H9 el (.list ((S9.ends t9.root).map .int)) = H10 at R10 gel ⊢
        have hne9 := ends_ne g9.ok _ g9.root (Nat.le_refl _)
        have hpos : 0 < (S9.ends t9.root).length := List.length_pos_iff.mpr hne9
        have hle9 : (S9.ends t9.root).length ≤ 60 := Nat.le_trans (List.length_filter_le _ _) (Nat.le_trans hall.2.1 (by omega))
        repeat walk_at "m"
        refine c_drawR hc R10 g9 dk9 (by omega) (by omega) (by rw [List.length_map]; omega) fun r2 H11 Hg11 p3 p4 R11 g11 dk11 kl => ?_
        rw [List.length_map] at p4
        have gel11 := kl el _ (Ne.symm hde) gel
        have hi9 : r2.toNat < (S9.ends t9.root).length := by omega
        refine o_item (m := .int ((S9.ends t9.root)[r2.toNat])) gel11 p3 (by rw [List.length_map]; omega) (by rw [List.getElem?_map, List.getElem?_eq_getElem hi9]; rfl) ?_ (by intro _ _ _; with_unfolding_all rfl)
        have hvm : (S9.ends t9.root)[r2.toNat] ∈ S9.ends t9.root := List.getElem_mem hi9
        generalize (S9.ends t9.root)[r2.toNat] = v at hvm ⊢
        obtain ⟨hv1, hv2⟩ := List.mem_filter.mp hvm
        have hvo : v ∈ o9 := hall.1 v hv1
        have hvs : (wr9 v).sort = 0 := by have := g9.sort v hvo; rw [hv2] at this; simpa using this
        clear kl gel gel11 R10 hde
        have ct11 := R11.ct
        have tr11 := R11.sub _ _ g11.tree.tr
        repeat walk_at "m"
        refine c_selectR hc R11 g11 g19 dk11 hvo hvs fun H12 Hg12 R12 g12 g112 dk12 => ?_
        have ct12 := R12.ct
        have bl12 := R12.bl
        have tr12 := R12.sub _ _ g12.tree.tr
        have dw12 := R12.sub _ _ g12.tree.dw
        have wv12 := R12.sub _ _ (g12.tree.wn v hvo)
        rw [upd_eq] at wv12
        repeat walk_at "m"
        have R13 := R12.beat (t9.clock + 1)
        rw [show bs.map MV.int ++ [.int (t9.clock + 1)] = (bs ++ [t9.clock + 1]).map .int from by simp]
        generalize hset H12 bl (.list ((bs ++ [t9.clock + 1]).map .int)) = H13 at R13 ⊢
        have ct13 := R13.ct
        have tr13 := R13.sub _ _ g12.tree.tr
        clear ct12 bl12 tr12 dw12 wv12 ct11 tr11
        repeat walk_at "m"
        simp only [bne_self_eq_false, Bool.false_eq_true, if_false]
        repeat walk_at "m"
        refine c_isAsR (t := { t9 with sel := v, clock := t9.clock + 1 }) hc CH8 R13 g12 (show o9.length < 60 by omega) fun H14 R14 => ?_
        repeat walk_at "m"
        simp only [Bool.not_true, Bool.false_eq_true, if_false]
        repeat walk_at "m"
        simp only [Bool.not_true, Bool.false_eq_true, if_false]
        repeat walk_at "m"
        refine ⟨na9 t9.root, bs ++ [t9.clock + 1], by walk_at "loc", by walk_at "loc", by walk_at "loc", Hg12, _, _, _, _, _, _, _, R14, g12, g112, ?_, rfl, by omega, by rw [List.length_append]; simp [b2], ?_, ?_⟩
        · have e4 : 1 + 4 * ((i + 1 : Nat) : Int) = 1 + 4 * (i : Int) + 1 + 1 + 1 + 1 := by push_cast; omega
          rw [e4]; exact dk12
        · rw [List.pairwise_append]
          exact ⟨b3, List.pairwise_singleton _ _, fun a ha b hb => by rw [List.mem_singleton.mp hb]; have := b4 a ha; omega⟩
        · intro b hb
          rcases List.mem_append.mp hb with hb | hb
          · have := b4 b hb; show b ≤ t9.clock + 1; omega
          · rw [List.mem_singleton.mp hb]; exact Int.le_refl _
      · rintro ρ2 H8 ⟨nst, bs, l1, l2, l3, hI⟩
        exact ⟨nst, _, _, bs, l1, l2, l3, by omega, by omega, by omega, hI⟩
    · rintro ρ1 H7 ⟨nst, k, i, bs, l1, l2, l3, k0, k1, hi6, Hg, S, t, order, wd, wr, na, nb, R, g, g1, dck, rfl, b1, b2, b3, b4⟩
      have bl7 := R.bl
      have hall := g.all g.root
      clear R0 g0 dk0 g10 z1 z2 z3 z4 ncl
      repeat walk_at "m"
      refine t_zipNone hc ?_ (by with_unfolding_all rfl) (by with_unfolding_all rfl) (by with_unfolding_all rfl) (by with_unfolding_all rfl) (by with_unfolding_all rfl) bt_zip (by with_unfolding_all rfl) (by decide +kernel) (by rfl) (by decide +kernel) (by with_unfolding_all rfl) (by with_unfolding_all rfl) (by decide +kernel) (by decide +kernel) (by decide +kernel) (by intro _; with_unfolding_all rfl) (by with_unfolding_all rfl) (by with_unfolding_all rfl) (by with_unfolding_all rfl)
      repeat walk_at "m"
      rename_i sl hsl
      refine o_slice (l := bl) (d := sl) (xs := bs.map .int) (ys := (bs.map .int).drop 1) (by walk_at "get") (hset_eq _ _ _) (by decide) (by rw [List.length_map]; omega) (fun us h => pick_from 1 us h) (fun b0 hb0 => ?_) (by intro _ _; exact ⟨_, by with_unfolding_all rfl⟩)
      repeat walk_at "m"
      have sz := ((Sub.refl H7).hset (o := .slice (some 1) none none) hsl).hset (a := b0) (o := .list ((bs.map MV.int).drop 1)) (Sub.none ((Sub.refl H7).hset hsl) hb0)
      have gb0 : (hset (hset H7 sl (.slice (some 1) none none)) b0 (.list ((bs.map MV.int).drop 1))) b0 = some (.list ((bs.drop 1).map .int)) := by rw [hset_eq, List.map_drop]
      generalize hset _ b0 _ = H8 at sz gb0 ⊢
      refine ⟨bl, b0, bs, bs.drop 1, rfl, sz _ _ bl7, gb0, fun j x y hx hy => ?_, fun D hD => ?_⟩
      · rw [List.getElem?_drop] at hy
        obtain ⟨q1, q2⟩ := List.getElem?_eq_some_iff.mp hx
        obtain ⟨q3, q4⟩ := List.getElem?_eq_some_iff.mp hy
        rw [← q2, ← q4]
        exact List.pairwise_iff_getElem.mp b3 _ _ q1 q3 (by omega)
      repeat walk_at "m"
      simp only [List.isEmpty_nil, Bool.not_true, Bool.false_eq_true, if_false]
      repeat walk_at "m"
      rename_i e0 he0
      have sz2 := (sz.hset (o := .list []) (Sub.none sz hD)).hset (a := e0) (o := .list []) (Sub.none (sz.hset (Sub.none sz hD)) he0)
      have R9 := R.ext sz2
      generalize hset _ e0 _ = H9 at R9 ⊢
      clear sz sz2 gb0 hb0 hsl hD he0 bl7
      have ct9 := R9.ct
      have tr9 := R9.sub _ _ g.tree.tr
      have dw9 := R9.sub _ _ g.tree.dw
      repeat walk_at "m"
      refine c_ends hc (g.nest.sub R9.sub) g.ok g.root hall.1 (m := 60) (by omega) (by omega) fun el hel => ?_
      have hne9 := ends_ne g.ok _ g.root (Nat.le_refl _)
      obtain ⟨v, vr, ev⟩ := List.exists_cons_of_ne_nil hne9
      have hvm : v ∈ S.ends t.root := by rw [ev]; exact List.mem_cons_self
      obtain ⟨hv1, hv2⟩ := List.mem_filter.mp hvm
      have hvo : v ∈ order := hall.1 v hv1
      rw [ev]
      have R10 := R9.ext ((Sub.refl H9).hset (o := .list ((v :: vr).map .int)) hel)
      have gel : (hset H9 el (.list ((v :: vr).map .int))) el = some (.list ((v :: vr).map .int)) := hset_eq _ _ _
      have hel60 : ((v :: vr).map MV.int).length ≤ 100 := by rw [List.length_map, ← ev]; exact Nat.le_trans (List.length_filter_le _ _) (Nat.le_trans hall.2.1 (by omega))
      generalize hset H9 el (.list ((v :: vr).map .int)) = H10 at R10 gel ⊢
      clear ct9 tr9 dw9 R9 H9 hel
      have ct10 := R10.ct
      have tr10 := R10.sub _ _ g.tree.tr
      have dw10 := R10.sub _ _ g.tree.dw
      have wv10 := R10.sub _ _ (g.tree.wn v hvo)
      repeat walk_at "m"
      refine c_setSize hc wv10 ?_
      rw [if_pos (by decide)]
      have R11 := R10.set (g.tree.wn v hvo) (o' := win v { wr v with width := 12 }) nice_inst
      have g11 := g.winTurn (r := { wr v with width := 12 }) hvo rfl rfl rfl
      have g111 := g1.winTurn (v := v) (r := { wr v with width := 12 }) rfl
      have dk11 := dck.winTurn g (r := { wr v with width := 12 }) hvo rfl
      have e11 := upd_eq wr v { wr v with width := 12 }
      generalize upd wr v { wr v with width := 12 } = wr11 at g11 g111 dk11 e11
      have w11 : (wr11 v).width = 12 := by rw [e11]
      rw [← e11] at R11 g11 dk11 ⊢
      generalize hset H10 (wd v) (win v (wr11 v)) = H11 at R11 ⊢
      generalize hset Hg (wd v) (win v (wr11 v)) = Hg11 at R11 g11 dk11
      have wv11 := R11.sub _ _ (g11.tree.wn v hvo)
      clear ct10 tr10 dw10 wv10 R10 gel g g1 dck R e11 H10 H8 H7
      repeat walk_at "m"
      refine c_setSize hc wv11 ?_
      rw [if_neg (by decide)]
      have R12 := R11.set (g11.tree.wn v hvo) (o' := win v { wr11 v with height := 5 }) nice_inst
      have g12 := g11.winTurn (r := { wr11 v with height := 5 }) hvo rfl rfl rfl
      have g112 := g111.winTurn (v := v) (r := { wr11 v with height := 5 }) rfl
      have dk12 := dk11.winTurn g11 (r := { wr11 v with height := 5 }) hvo rfl
      have e12 := upd_eq wr11 v { wr11 v with height := 5 }
      generalize upd wr11 v { wr11 v with height := 5 } = wr12 at g12 g112 dk12 e12
      have w12 : (wr12 v).width = 12 ∧ (wr12 v).height = 5 := by rw [e12]; exact ⟨w11, rfl⟩
      rw [← e12] at R12 g12 dk12 ⊢
      generalize hset H11 (wd v) (win v (wr12 v)) = H12 at R12 ⊢
      generalize hset Hg11 (wd v) (win v (wr12 v)) = Hg12 at R12 g12 dk12
      have wv12 := R12.sub _ _ (g12.tree.wn v hvo)
      clear wv11 R11 g11 g111 dk11 e12 w11 H11 Hg11 wr11
      repeat walk_at "m"
      refine ts_pair ?_ (by with_unfolding_all rfl) (by with_unfolding_all rfl) (by with_unfolding_all rfl)
      repeat walk_at "m"
      rename_i tp htp
      have sp := (Sub.refl H12).hset (o := .tuple [.int 3, .int 2]) htp
      have R13 := R12.ext sp
      refine ⟨tp, _, _, rfl, hset_eq _ _ _, ?_⟩
      generalize hset H12 tp (.tuple [.int 3, .int 2]) = H13 at R13 sp ⊢
      have wv13 := sp _ _ wv12
      clear sp R12 wv12 htp
      repeat walk_at "m"
      rw [hset_set]
      change OpL _ _ _ _ _ _ (hset H13 (wd v) (win v { wr12 v with left := 3, top := 2 })) _
      have R14 := R13.set (g12.tree.wn v hvo) (o' := win v { wr12 v with left := 3, top := 2 }) nice_inst
      have g14 := g12.winTurn (r := { wr12 v with left := 3, top := 2 }) hvo rfl rfl rfl
      have g114 := g112.winTurn (v := v) (r := { wr12 v with left := 3, top := 2 }) rfl
      have dk14 := dk12.winTurn g12 (r := { wr12 v with left := 3, top := 2 }) hvo rfl
      have e14 := upd_eq wr12 v { wr12 v with left := 3, top := 2 }
      generalize upd wr12 v { wr12 v with left := 3, top := 2 } = wr14 at g14 g114 dk14 e14
      have w14 : (wr14 v).width = 12 ∧ (wr14 v).height = 5 ∧ (wr14 v).left = 3 ∧ (wr14 v).top = 2 := by rw [e14]; exact ⟨w12.1, w12.2, rfl, rfl⟩
      rw [← e14] at R14 g14 dk14 ⊢
      generalize hset H13 (wd v) (win v (wr14 v)) = H14 at R14 ⊢
      generalize hset Hg12 (wd v) (win v (wr14 v)) = Hg14 at R14 g14 dk14
      have wv14 := R14.sub _ _ (g14.tree.wn v hvo)
      clear wv13 R13 g12 g112 dk12 e14 w12 H13 Hg12 wr12
      refine c_size hc wv14 ?_
      rw [if_pos (by decide), w14.1]
      repeat walk_at "m"
      refine c_size hc wv14 ?_
      rw [if_neg (by decide), w14.2.1]
      repeat walk_at "m"
      refine c_place hc wv14 ?_
      rw [if_pos (by decide), w14.2.2.1]
      repeat walk_at "m"
      refine c_place hc wv14 ?_
      rw [if_neg (by decide), w14.2.2.2]
      repeat walk_at "m"
      rename_i x1 hx1 x2 hx2
      have sq := ((Sub.refl H14).hset (o := .list [.int 12, .int 5, .int 3, .int 2]) hx1).hset (a := x2) (o := .list [.int 12, .int 5, .int 3, .int 2]) (Sub.none ((Sub.refl H14).hset hx1) hx2)
      refine c_neL (ns := [12, 5, 3, 2]) (ms := [12, 5, 3, 2]) ((hset_ne (ne_of (hset_eq _ _ _) hx2)).trans (hset_eq _ _ _)) (hset_eq _ _ _) ?_
      have R15 := R14.ext sq
      generalize hset _ x2 _ = H15 at R15 ⊢
      clear sq hx1 hx2 R14 wv14
      have ct15 := R15.ct
      have tr15 := R15.sub _ _ g14.tree.tr
      rw [decide_eq_true rfl]
      simp only [Bool.not_true, Bool.false_eq_true, if_false]
      repeat walk_at "m"
      simp only [Bool.not_true, Bool.false_eq_true, if_false]
      repeat walk_at "m"
      refine t_comp (cl := []) ?_ (by with_unfolding_all rfl) (by decide +kernel) (by rfl) (by decide +kernel) (by with_unfolding_all rfl) (by intro _; with_unfolding_all rfl)
      repeat walk_at "m"
      rename_i tc htc
      have sr := (Sub.refl H15).hset (o := .tuple [.int 1, .int 2]) htc
      have gtc : (hset H15 tc (.tuple [.int 1, .int 2])) tc = some (.tuple [.int 1, .int 2]) := hset_eq _ _ _
      generalize hset H15 tc (.tuple [.int 1, .int 2]) = H16 at sr gtc ⊢
      refine compT_intro (fun i acc H2 => Sub H16 H2 ∧ acc = [MV.int 1, .int 2].take i) gtc (by decide) ⟨Sub.refl _, rfl⟩ ?_ ?_ ?_
      · rintro i acc H2 ⟨sb, _⟩; exact sb _ _ gtc
      · rintro C j mv acc H2 hj ⟨sb, hacc⟩
        match j, hj with
        | 0, hj =>
          cases hj
          repeat walk_at "m"
          simp only [if_true]
          repeat walk_at "m"
          refine c_along hc ?_
          rw [if_neg (by decide)]
          repeat walk_at "m"
          refine c_sortAlong hc ?_
          rw [if_neg (by decide)]
          exact ⟨sb, by rw [hacc]; rfl⟩
        | 1, hj =>
          cases hj
          repeat walk_at "m"
          simp only [if_true]
          repeat walk_at "m"
          refine c_along hc ?_
          rw [if_pos (by decide)]
          repeat walk_at "m"
          refine c_sortAlong hc ?_
          rw [if_pos (by decide)]
          exact ⟨sb, by rw [hacc]; rfl⟩
        | j + 2, hj => simp at hj
      rintro acc H2 ⟨sb, hacc⟩ D1 hD1
      have hacc' : acc = [MV.int 1, .int 2] := hacc
      subst hacc'
      repeat walk_at "m"
      rename_i x3 hx3
      have su := (((sr.trans sb).hset (o := .list [MV.int 1, .int 2]) (Sub.none (sr.trans sb) hD1)).hset (a := x3) (o := .list [.int 1, .int 2]) (Sub.none ((sr.trans sb).hset (Sub.none (sr.trans sb) hD1)) hx3))
      refine c_neL (ns := [1, 2]) (ms := [1, 2]) ((hset_ne (ne_of (hset_eq _ _ _) hx3)).trans (hset_eq _ _ _)) (hset_eq _ _ _) ?_
      have R17 := R15.ext su
      generalize hset _ x3 _ = H17 at R17 ⊢
      clear sr sb su gtc hD1 hx3 htc ct15 tr15 R15
      have ct17 := R17.ct
      have tr17 := R17.sub _ _ g14.tree.tr
      rw [decide_eq_true rfl]
      simp only [Bool.not_true, Bool.false_eq_true, if_false]
      repeat walk_at "m"
      simp only [Bool.false_eq_true, if_false]
      repeat walk_at "m"
      refine c_leastLeaf hc tr17 ?_
      rw [if_pos (by decide)]
      repeat walk_at "m"
      simp only [bne_self_eq_false, Bool.false_eq_true, if_false]
      repeat walk_at "m"
      simp only [Bool.false_eq_true, if_false]
      have gn1 := R17.sub _ _ (g14.nest _ g14.root).1
      have gn2 := R17.sub _ _ (g14.nest _ g14.root).2
      repeat walk_at "m"
      rename_i x4 hx4
      have R18 := R17.ext ((Sub.refl H17).hset (o := .list []) hx4)
      generalize hset H17 x4 (.list []) = H18 at R18 ⊢
      clear ct17 tr17 gn1 gn2 hx4 R17
      have ct18 := R18.ct
      have tr18 := R18.sub _ _ g14.tree.tr
      have gn1 := R18.sub _ _ (g14.nest _ g14.root).1
      have gn2 := R18.sub _ _ (g14.nest _ g14.root).2
      rw [List.isEmpty_map]
      cases hk : (S.kids t.root).isEmpty with
      | true =>
        simp only [if_true]
        have hk' : S.kids t.root = [] := by simpa using hk
        have evr : v = t.root := by
          have e1 := (g14.ok _ g14.root).1
          rw [hk'] at e1
          rw [e1] at hv1
          simpa using hv1
        subst evr
        repeat walk_at "m"
        refine c_frameSize hc (g14.tree.sub R18.sub) g14.root ?_
        rw [if_pos (by decide), w14.1]
        repeat walk_at "m"
        simp only [beq_self_eq_true, if_true]
        repeat walk_at "m"
        refine c_leastLeaf hc tr18 ?_
        rw [if_neg (by decide)]
        repeat walk_at "m"
        simp only [beq_self_eq_true]
        exact ⟨trivial, R18.t8, R18.t9⟩
      | false =>
        simp only [Bool.false_eq_true, if_false]
        refine ts_nil ?_
        refine lawTail (n := n) (L := L) (ρ := lset ρ1 "first" (.ref (wd v))) hc CH8 CH9 (by with_unfolding_all rfl) R18 g14 g114 dk14 (by omega) (by omega) (by omega) (fun q => by rw [q] at hk; cases hk) ?_ ?_
        · walk_at "loc"
        · walk_at "loc"
end
noncomputable def H0 (L : Addr) : Hp := hset (hset (hset (hset (fun _ => none) (L + 1 + 1) (.cell none)) (L + 1) (.cell none)) 264 (.raw (tabObj #[]))) 269 (.raw (tabObj #[]))
theorem H0_cases {L a : Addr} {o : MObj} (h : H0 L a = some o) : (a = L + 1 + 1 ∧ o = .cell none) ∨ (a = L + 1 ∧ o = .cell none) ∨ (a = 264 ∧ o = .raw (tabObj #[])) ∨ (a = 269 ∧ o = .raw (tabObj #[])) := by
  unfold H0 Mine.hset at h
  split at h
  · cases h; exact .inr (.inr (.inr ⟨by assumption, rfl⟩))
  split at h
  · cases h; exact .inr (.inr (.inl ⟨by assumption, rfl⟩))
  split at h
  · cases h; exact .inr (.inl ⟨by assumption, rfl⟩)
  split at h
  · cases h; exact .inl ⟨by assumption, rfl⟩
  · cases h
theorem H0_fp {L a b : Addr} {o : MObj} (h : H0 L a = some o) (hb : InFp a o b) : b = a := by
  rcases H0_cases h with ⟨_, rfl⟩ | ⟨_, rfl⟩ | ⟨_, rfl⟩ | ⟨_, rfl⟩ <;> exact hb.elim id False.elim
theorem law_sat {d : Dt} {L la : Addr} {h₁ : Heap} {m : Str → Option Value} {env : Env} (F : Fr (cx d).h₀ L h₁ m) {oT oN : Obj} (N : News (cx d).h₀ L h₁ [(L + 1 + 1, oT), (L + 1, oN), (264, tabObj #[]), (269, tabObj #[])]) (eT : oT.data = .cell none) (eN : oN.data = .cell none)
    (hL : 264 < L ∧ 269 < L) (hs : m "script" = some (.ref la)) {A : Around} (hA : A.frames = some []) (hk : env.scope.kind ≠ .module) (hf : env.frame = some L) {s : Shared} (e1 : s.heap = h₁) (e2 : s.gens = d.gens) (e3 : s.os = d.os) :
    Sat (cx d) (A.deeper env) L (lset (fun _ => none) "script" (.ref la)) (H0 L) s := by
  subst e1
  have n1 := N _ (.head _)
  have n2 := N _ (.tail _ (.head _))
  have n3 := N _ (.tail _ (.tail _ (.head _)))
  have n4 := N _ (.tail _ (.tail _ (.tail _ (.head _))))
  have hne : ∀ a o, H0 L a = some o → a ≠ L ∧ (cx d).h₀.get? a = none := fun a o h => by
    rcases H0_cases h with ⟨rfl, _⟩ | ⟨rfl, _⟩ | ⟨rfl, _⟩ | ⟨rfl, _⟩
    · exact ⟨n1.2.1, n1.2.2⟩
    · exact ⟨n2.2.1, n2.2.2⟩
    · exact ⟨n3.2.1, n3.2.2⟩
    · exact ⟨n4.2.1, n4.2.2⟩
  have trn : ∀ b, Tr (H0 L) b → b ≠ L ∧ (cx d).h₀.get? b = none := fun b ⟨a, o, h, hb⟩ => by rw [H0_fp h hb]; exact hne a o h
  have hbL : (cx d).h₀.get? L = none := Heap.get?_none_of_le F.above
  obtain ⟨oL, es, ep, g1, g2, g3⟩ := id F.ns
  refine ⟨F.keep, F.above, ⟨m, F.ns, fun x v e => ?_⟩, fun h => (trn L h).1 rfl, fun a o h => ?_, fun b h => (trn b h).2, fun a o h b hb hba => absurd (H0_fp h hb) hba, e2, e3,
    Blw.push (A := A) ⟨[], hA, fun _ h => by cases h⟩ hA (Around.frames_deeper hA) hk hf hbL (fun h => (trn L h).1 rfl) g1 fun vs e => by rw [g2] at e; cases e⟩
  · unfold lset at e
    split at e
    · cases e; rename_i q; subst q; exact ⟨_, hs, rfl⟩
    · cases e
  · rcases H0_cases h with ⟨rfl, rfl⟩ | ⟨rfl, rfl⟩ | ⟨rfl, rfl⟩ | ⟨rfl, rfl⟩
    · exact ⟨oT, none, n1.1, eT, trivial⟩
    · exact ⟨oN, none, n2.1, eN, trivial⟩
    · exact n3.1
    · exact n4.1
theorem H0_facts {L : Addr} (hL : 264 < L ∧ 269 < L) : H0 L (L + 1 + 1) = some (.cell none) ∧ H0 L (L + 1) = some (.cell none) ∧ TabH (H0 L) 264 posA qualA ∧ TabH (H0 L) 269 posB qualB := by
  have a1 : L + 1 + 1 ≠ 264 := Nat.ne_of_gt (Nat.lt_of_lt_of_le hL.1 (Nat.le_add_right L 2))
  have a2 : L + 1 + 1 ≠ 269 := Nat.ne_of_gt (Nat.lt_of_lt_of_le hL.2 (Nat.le_add_right L 2))
  have a3 : L + 1 ≠ 264 := Nat.ne_of_gt (Nat.lt_of_lt_of_le hL.1 (Nat.le_add_right L 1))
  have a4 : L + 1 ≠ 269 := Nat.ne_of_gt (Nat.lt_of_lt_of_le hL.2 (Nat.le_add_right L 1))
  have a5 : L + 1 + 1 ≠ L + 1 := ne_add' L
  refine ⟨?_, ?_, ⟨#[], ?_, trivial, .inl rfl⟩, ⟨#[], ?_, trivial, .inl rfl⟩⟩ <;> unfold H0
  · rw [hset_ne a2, hset_ne a1, hset_ne a5, hset_eq]
  · rw [hset_ne a4, hset_ne a3, hset_eq]
  · rw [hset_ne (by decide), hset_eq]
  · rw [hset_eq]
end Mine
set_option maxRecDepth 100000 in
set_option maxHeartbeats 8000000 in
theorem PySem.Challenge.cw_pq0346_01_holds : PySem.Challenge.rw_pq0346_01.Holds := by
  refine Mine.hd1.ok Mine.left ?_
  unfold Mine.hd1
  dsimp only
  k_go0
  rename_i w s₀ s₁ mg mb G Y fa o pm doc ho hg X V T B TE TW hcd ns hs hlay0 hL1 hr1 hl2 w6 w5 la vs w2 hL ra w1 r0 hI hr hc1 hc2 hD h₁ tk₁ oT oN left right X0 X' T' K' F' codeHd8 N' l0
  have hc : (Mine.cx ⟨w, ghostOf s₁.heap [(266, 264), (271, 269)], _, ExcName.means s₀.heap, mg, mb, s₁.gens, s₁.os⟩).Ok := ⟨X', T'⟩
  obtain ⟨b1, b2, b3, b4⟩ := Mine.H0_facts l0
  have hz : vs.toArray.size ≤ 100 := by
    have := hI.length
    rw [List.size_toArray]
    omega
  have W := Mine.lawWalk (n := 0) (L := s₁.heap.objs.size) (fa := fa) hc codeHd8 codeHd (by with_unfolding_all rfl) b3 b4 b1 b2 (Mine.ne_add' _) lifted hI hz
  have hb : Mine.Bud callerA (140 + 1) := ⟨rfl, by decide, by decide⟩
  refine W.then hb.deeper (Mine.law_sat F' N' (left.trans (by with_unfolding_all rfl)) (right.trans (by with_unfolding_all rfl)) l0 (by with_unfolding_all rfl) rfl (by show ScopeKind.function ≠ ScopeKind.module; decide) (by rfl) rfl rfl rfl) fun v f ρ1 H1 s' e S' st q => ?_
  have fin : ∀ u, f = .ret u → (∃ mv, Mine.Rep mv u ∧ mv = .bool true ∧ Mine.TabH H1 264 Mine.posA Mine.qualA ∧ Mine.TabH H1 269 Mine.posB Mine.qualB) → u = .bool true ∧ GrownAll [(266, 264), (271, 269)] s'.heap := fun u _ ⟨mv, r, em, t8, t9⟩ => by
    subst em
    obtain ⟨p8, h8, _⟩ := t8
    obtain ⟨p9, h9, _⟩ := t9
    exact ⟨r, ⟨p8, S'.objs 264 _ h8⟩, ⟨p9, S'.objs 269 _ h9⟩, trivial⟩
  subst e
  match f, q with
  | .next, q => exact q.elim
  | .brk, q => exact q.elim
  | .cont, q => exact q.elim
  | .ret u, q =>
    obtain ⟨eu, gr⟩ := fin u rfl q
    subst eu
    exact ⟨⟨.inl ⟨.bool true, _, [], rfl, fun _ => rfl, ReadsW.bool true, (by first | wrow_post | kc_post), fun _ => ⟨List.nodup_nil, fun _ hm => (nomatch hm)⟩⟩, S'.base, S'.os, S'.gens.trans hg⟩, gr⟩
